/- The law FnExactInWindow of the given program, as a statement over numbers and lists alone, for all arguments; no conditions but the machine's own bounds. -/
import Derived.Test.YtpbpjlfpljjjhaaPFnExactInWindowx
import Derived.Test.YtpbpjlfpljjjhaaBase
namespace Go.Proofs.Ytpbpjlfpljjjhaa.Pure.FnExactInWindow
open Go.RowKit Go.Proofs.Ytpbpjlfpljjjhaa.PFnExactInWindow Go.Proofs.YtpbpjlfpljjjhaaW.PrintWords Go.Proofs.YtpbpjlfpljjjhaaW.PrintLast Go.Proofs.Ytpbpjlfpljjjhaa.Bas
set_option linter.unusedVariables false
set_option linter.unusedSimpArgs false
theorem spec_l1In_eq (a lo hi : Int) : spec_l1In.f a lo hi = some (decide (lo ≤ a ∧ a ≤ hi)) := by
  unfold spec_l1In.f; grind
theorem impl_InRange_eq (a lo hi : Int) : impl_InRange.f a lo hi = some (decide (lo ≤ a ∧ a ≤ hi)) := by
  unfold impl_InRange.f; grind
theorem impl_IsWindow_eq (f l c : Int) : impl_IsWindow.f f l c = some (isWindow f l c) := by
  unfold impl_IsWindow.f isWindow
  simp only [impl_InRange_eq, Option.bind_some]
  by_cases h : 1 ≤ c ∧ c ≤ 200
  · rw [wrap_id (n := c - 1) (by omega) (by omega)]; grind
  · grind
theorem spec_IsWindow_eq (f l c : Int) : spec_IsWindow.f f l c = some (isWindow f l c) := by
  unfold spec_IsWindow.f isWindow
  simp only [spec_l1In_eq, Option.bind_some]
  by_cases h : 1 ≤ c ∧ c ≤ 200
  · rw [wrap_id (n := c - 1) (by omega) (by omega)]; grind
  · grind
theorem impl_Mod_eq (p q : Int) : impl_Mod.f p q = some (gmod p q) := by
  unfold impl_Mod.f gmod
  simp only [impl_InRange_eq, Option.bind_some]
  by_cases h : 1 ≤ q ∧ q ≤ 1000000000000
  · have h1 : ¬ q = 0 := by omega
    have h5 := Int.emod_lt_of_pos p (show 0 < q by omega)
    have h7 := Int.emod_nonneg p (show q ≠ 0 by omega)
    rcases tmod_cases p q (by omega) with ⟨h2, h3⟩ | ⟨h2, h3⟩
    · simp [h, h1, h2]; omega
    · simp only [h, h1, h3]; rw [wrap_id (by omega) (by omega)]; simp; omega
  · simp [h]
theorem spec_Mod_eq (p q : Int) : spec_Mod.f p q = some (gmod p q) := by
  unfold spec_Mod.f gmod
  simp only [spec_l1In_eq, Option.bind_some]
  by_cases h : 1 ≤ q ∧ q ≤ 1000000000000
  · have h1 : ¬ q = 0 := by omega
    have h5 := Int.emod_lt_of_pos p (show 0 < q by omega)
    have h7 := Int.emod_nonneg p (show q ≠ 0 by omega)
    rcases tmod_cases p q (by omega) with ⟨h2, h3⟩ | ⟨h2, h3⟩
    · rw [h2, wrap_id (by omega) (by omega), tmod_nn (by omega), Int.add_emod_right, Int.emod_emod]
      simp [h, h1]
    · rw [h2, wrap_id (by omega) (by omega), Int.sub_add_cancel, tmod_nn (by omega), Int.emod_emod]
      simp [h, h1]
  · simp [h]
theorem impl_InWindow_eq (f l c o s : Int) : impl_InWindow.f f l c o s = some (inWindow f l c o s) := by
  unfold impl_InWindow.f inWindow
  simp only [impl_InRange_eq, impl_IsWindow_eq, impl_Mod_eq, Option.bind_some]
  by_cases hw : isWindow f l c = true
  · have hw' := hw
    unfold isWindow at hw'
    simp only [decide_eq_true_eq] at hw'
    by_cases h1 : -1000000 ≤ o ∧ o ≤ 1000000
    · by_cases h2 : -1000000 ≤ s ∧ s ≤ 1000000
      · rw [wrap_id (n := s - o) (by omega) (by omega), wrap_id (by omega) (by omega)]
        have h3 : 1 ≤ c ∧ c ≤ 1000000000000 := by omega
        simp [hw, h1, h2, gmod, h3]
      · simp [hw, h1, h2]
    · simp [hw, h1]
  · simp [hw]
theorem spec_InWindow_eq (f l c o s : Int) : spec_InWindow.f f l c o s = some (inWindow f l c o s) := by
  unfold spec_InWindow.f inWindow
  simp only [spec_l1In_eq, spec_IsWindow_eq, spec_Mod_eq, Option.bind_some]
  by_cases hw : isWindow f l c = true
  · have hw' := hw
    unfold isWindow at hw'
    simp only [decide_eq_true_eq] at hw'
    by_cases h1 : -1000000 ≤ o ∧ o ≤ 1000000
    · by_cases h2 : -1000000 ≤ s ∧ s ≤ 1000000
      · rw [wrap_id (n := s - o) (by omega) (by omega), wrap_id (by omega) (by omega)]
        have h3 : 1 ≤ c ∧ c ≤ 1000000000000 := by omega
        simp [hw, h1, h2, gmod, h3]
      · simp [hw, h1, h2]
    · simp [hw, h1]
  · simp [hw]
theorem laws_toWindow_eq (a b : Int) : laws_toWindow.f a b = some (a, b) := rfl
theorem holds : ∀ (a0_0 : Int) (a0_1 : Int) (a1 : Int) (a2 : Int) (a3 : Int), (Lit.int .i64 a0_0).wf = true → (Lit.int .i64 a0_1).wf = true → (Lit.int .i64 a1).wf = true → (Lit.int .i64 a2).wf = true → (Lit.int .i64 a3).wf = true → laws_FnExactInWindow.f a0_0 a0_1 a1 a2 a3 = some true := by
  intro a b c d e _ _ _ _ _
  unfold laws_FnExactInWindow.f
  simp [laws_toWindow_eq, impl_InWindow_eq, spec_InWindow_eq]
end Go.Proofs.Ytpbpjlfpljjjhaa.Pure.FnExactInWindow
