/- The law FnExactBand of the given program, as a statement over numbers and lists alone, for all arguments; no conditions but the machine's own bounds. -/
import Derived.Test.YtpbpjlfpljjjhaaPFnExactBandx
import Derived.Test.YtpbpjlfpljjjhaaBase
namespace Go.Proofs.Ytpbpjlfpljjjhaa.Pure.FnExactBand
open Go.RowKit Go.Proofs.Ytpbpjlfpljjjhaa.PFnExactBand Go.Proofs.YtpbpjlfpljjjhaaW.PrintWords Go.Proofs.YtpbpjlfpljjjhaaW.PrintLast Go.Proofs.Ytpbpjlfpljjjhaa.Bas
set_option linter.unusedVariables false
set_option linter.unusedSimpArgs false
theorem spec_l1In_eq (a lo hi : Int) : spec_l1In.f a lo hi = some (decide (lo ≤ a ∧ a ≤ hi)) := by
  unfold spec_l1In.f; grind
theorem impl_InRange_eq (a lo hi : Int) : impl_InRange.f a lo hi = some (decide (lo ≤ a ∧ a ≤ hi)) := by
  unfold impl_InRange.f; grind
theorem impl_IsWindow_eq (f l c : Int) : impl_IsWindow.f f l c = some (isWindow f l c) := by
  unfold impl_IsWindow.f isWindow
  simp only [impl_InRange_eq, Option.bind_some]
  by_cases h : 1 ≤ c ∧ c ≤ 200
  · rw [wrap_id (n := c - 1) (by omega) (by omega)]; grind
  · grind
theorem spec_IsWindow_eq (f l c : Int) : spec_IsWindow.f f l c = some (isWindow f l c) := by
  unfold spec_IsWindow.f isWindow
  simp only [spec_l1In_eq, Option.bind_some]
  by_cases h : 1 ≤ c ∧ c ≤ 200
  · rw [wrap_id (n := c - 1) (by omega) (by omega)]; grind
  · grind
theorem impl_Mod_eq (p q : Int) : impl_Mod.f p q = some (gmod p q) := by
  unfold impl_Mod.f gmod
  simp only [impl_InRange_eq, Option.bind_some]
  by_cases h : 1 ≤ q ∧ q ≤ 1000000000000
  · have h1 : ¬ q = 0 := by omega
    have h5 := Int.emod_lt_of_pos p (show 0 < q by omega)
    have h7 := Int.emod_nonneg p (show q ≠ 0 by omega)
    rcases tmod_cases p q (by omega) with ⟨h2, h3⟩ | ⟨h2, h3⟩
    · simp [h, h1, h2]; omega
    · simp only [h, h1, h3]; rw [wrap_id (by omega) (by omega)]; simp; omega
  · simp [h]
theorem spec_Mod_eq (p q : Int) : spec_Mod.f p q = some (gmod p q) := by
  unfold spec_Mod.f gmod
  simp only [spec_l1In_eq, Option.bind_some]
  by_cases h : 1 ≤ q ∧ q ≤ 1000000000000
  · have h1 : ¬ q = 0 := by omega
    have h5 := Int.emod_lt_of_pos p (show 0 < q by omega)
    have h7 := Int.emod_nonneg p (show q ≠ 0 by omega)
    rcases tmod_cases p q (by omega) with ⟨h2, h3⟩ | ⟨h2, h3⟩
    · rw [h2, wrap_id (by omega) (by omega), tmod_nn (by omega), Int.add_emod_right, Int.emod_emod]
      simp [h, h1]
    · rw [h2, wrap_id (by omega) (by omega), Int.sub_add_cancel, tmod_nn (by omega), Int.emod_emod]
      simp [h, h1]
  · simp [h]
theorem impl_InWindow_eq (f l c o s : Int) : impl_InWindow.f f l c o s = some (inWindow f l c o s) := by
  unfold impl_InWindow.f inWindow
  simp only [impl_InRange_eq, impl_IsWindow_eq, impl_Mod_eq, Option.bind_some]
  by_cases hw : isWindow f l c = true
  · have hw' := hw
    unfold isWindow at hw'
    simp only [decide_eq_true_eq] at hw'
    by_cases h1 : -1000000 ≤ o ∧ o ≤ 1000000
    · by_cases h2 : -1000000 ≤ s ∧ s ≤ 1000000
      · rw [wrap_id (n := s - o) (by omega) (by omega), wrap_id (by omega) (by omega)]
        have h3 : 1 ≤ c ∧ c ≤ 1000000000000 := by omega
        simp [hw, h1, h2, gmod, h3]
      · simp [hw, h1, h2]
    · simp [hw, h1]
  · simp [hw]
theorem spec_InWindow_eq (f l c o s : Int) : spec_InWindow.f f l c o s = some (inWindow f l c o s) := by
  unfold spec_InWindow.f inWindow
  simp only [spec_l1In_eq, spec_IsWindow_eq, spec_Mod_eq, Option.bind_some]
  by_cases hw : isWindow f l c = true
  · have hw' := hw
    unfold isWindow at hw'
    simp only [decide_eq_true_eq] at hw'
    by_cases h1 : -1000000 ≤ o ∧ o ≤ 1000000
    · by_cases h2 : -1000000 ≤ s ∧ s ≤ 1000000
      · rw [wrap_id (n := s - o) (by omega) (by omega), wrap_id (by omega) (by omega)]
        have h3 : 1 ≤ c ∧ c ≤ 1000000000000 := by omega
        simp [hw, h1, h2, gmod, h3]
      · simp [hw, h1, h2]
    · simp [hw, h1]
  · simp [hw]
theorem laws_toWindow_eq (a b : Int) : laws_toWindow.f a b = some (a, b) := rfl
theorem impl_Band_l0 (af al bf bl c t o : Int) (hc : c ≤ 200) (ht : 0 ≤ t ∧ t ≤ 100000) : ∀ (d : Nat) (n s : Int), 0 ≤ s → c - s = d → 0 ≤ n → n ≤ s →
    Ev (fun k => impl_Band.l0 k c t o n c s af al bf bl) (n + bandN af al bf bl c t o d s) := by
  intro d
  induction d with
  | zero =>
    intro n s h0 hd hn hns
    refine Ev.succ ?_
    simp only [impl_Band.l0, show ¬ s < c by omega, if_false]
    exact evq (Ev.now _) (by simp [bandN])
  | succ d ih =>
    intro n s h0 hd hn hns
    refine Ev.succ ?_
    simp only [impl_Band.l0, show s < c by omega, if_true, impl_InWindow_eq, Option.bind_some, wrap_id (n := s + t) (by omega) (by omega), wrap_id (n := s + 1) (by omega) (by omega), wrap_id (n := n + 1) (by omega) (by omega)]
    unfold bandN
    have i1 := ih (n + 1) (s + 1) (by omega) (by omega) (by omega) (by omega)
    have i2 := ih n (s + 1) (by omega) (by omega) (by omega) (by omega)
    rw [Int.add_assoc] at i1
    cases h1 : inWindow af al c 0 s <;> cases h2 : inWindow bf bl c o (s + t) <;> simp only [Bool.true_and, Bool.false_and, Bool.and_self, Bool.and_false, if_true, if_false, Bool.false_eq_true, Int.zero_add] <;> assumption
theorem impl_Band_eq (af al bf bl c t o : Int) : Ev (fun k => impl_Band.f k af al bf bl c t o) (band af al bf bl c t o) := by
  unfold impl_Band.f band
  simp only [impl_IsWindow_eq, impl_InRange_eq, Option.bind_some]
  have hj : ∀ b : Bool, (b = false → 1 ≤ c ∧ c ≤ 200 ∧ 0 ≤ t ∧ t ≤ 100000) → Ev (fun k => impl_Band.j0 k c t o b af al bf bl) (if b then 0 else bandN af al bf bl c t o c.toNat 0) := by
    intro b hb
    refine Ev.succ ?_
    cases b
    · obtain ⟨h1, h2, h3, h4⟩ := hb rfl
      simp only [impl_Band.j0, Bool.false_eq_true, if_false]
      exact evq (impl_Band_l0 af al bf bl c t o h2 ⟨h3, h4⟩ c.toNat 0 0 (by omega) (by omega) (by omega) (by omega)) (by simp)
    · simp only [impl_Band.j0, if_true]; exact Ev.now _
  cases ha : isWindow af al c
  · simpa using hj true (by simp)
  · have hb := (isWindow_iff _ _ _).1 ha
    cases hb' : isWindow bf bl c
    · simpa using hj true (by simp)
    · by_cases ht : 0 ≤ t ∧ t ≤ 100000
      · by_cases ho : 0 ≤ o ∧ o ≤ 100000
        · simpa [ht, ho] using hj false (fun _ => ⟨hb.1, hb.2.1, ht.1, ht.2⟩)
        · simpa [ht, ho] using hj true (by simp)
      · simpa [ht] using hj true (by simp)
theorem spec_Band_l0 (af al bf bl c t o : Int) (hc : c ≤ 200) (ht : 0 ≤ t ∧ t ≤ 100000) : ∀ (d : Nat) (n s : Int), 0 ≤ s → c - s = d → 0 ≤ n → n ≤ s →
    Ev (fun k => spec_Band.l0 k c t o n s af al bf bl) (n + bandN af al bf bl c t o d s) := by
  intro d
  induction d with
  | zero =>
    intro n s h0 hd hn hns
    refine Ev.succ ?_
    simp only [spec_Band.l0, show ¬ s < c by omega, if_false]
    exact evq (Ev.now _) (by simp [bandN])
  | succ d ih =>
    intro n s h0 hd hn hns
    refine Ev.succ ?_
    simp only [spec_Band.l0, show s < c by omega, if_true, spec_InWindow_eq, Option.bind_some, wrap_id (n := s + t) (by omega) (by omega), wrap_id (n := s + 1) (by omega) (by omega), wrap_id (n := n + 1) (by omega) (by omega)]
    unfold bandN
    have i1 := ih (n + 1) (s + 1) (by omega) (by omega) (by omega) (by omega)
    have i2 := ih n (s + 1) (by omega) (by omega) (by omega) (by omega)
    rw [Int.add_assoc] at i1
    cases h1 : inWindow af al c 0 s <;> cases h2 : inWindow bf bl c o (s + t) <;> simp only [Bool.true_and, Bool.false_and, Bool.and_self, Bool.and_false, if_true, if_false, Bool.false_eq_true, Int.zero_add] <;> assumption
theorem spec_Band_eq (af al bf bl c t o : Int) : Ev (fun k => spec_Band.f k af al bf bl c t o) (band af al bf bl c t o) := by
  unfold spec_Band.f band
  simp only [spec_IsWindow_eq, spec_l1In_eq, Option.bind_some]
  have hj : ∀ b : Bool, (b = false → 1 ≤ c ∧ c ≤ 200 ∧ 0 ≤ t ∧ t ≤ 100000) → Ev (fun k => spec_Band.j0 k c t o b af al bf bl) (if b then 0 else bandN af al bf bl c t o c.toNat 0) := by
    intro b hb
    refine Ev.succ ?_
    cases b
    · obtain ⟨h1, h2, h3, h4⟩ := hb rfl
      simp only [spec_Band.j0, Bool.false_eq_true, if_false]
      exact evq (spec_Band_l0 af al bf bl c t o h2 ⟨h3, h4⟩ c.toNat 0 0 (by omega) (by omega) (by omega) (by omega)) (by simp)
    · simp only [spec_Band.j0, if_true]; exact Ev.now _
  cases ha : isWindow af al c
  · simpa using hj true (by simp)
  · have hb := (isWindow_iff _ _ _).1 ha
    cases hb' : isWindow bf bl c
    · simpa using hj true (by simp)
    · by_cases ht : 0 ≤ t ∧ t ≤ 100000
      · by_cases ho : 0 ≤ o ∧ o ≤ 100000
        · simpa [ht, ho] using hj false (fun _ => ⟨hb.1, hb.2.1, ht.1, ht.2⟩)
        · simpa [ht, ho] using hj true (by simp)
      · simpa [ht] using hj true (by simp)
theorem holds : ∀ (a0_0 : Int) (a0_1 : Int) (a1_0 : Int) (a1_1 : Int) (a2 : Int) (a3 : Int) (a4 : Int), (Lit.int .i64 a0_0).wf = true → (Lit.int .i64 a0_1).wf = true → (Lit.int .i64 a1_0).wf = true → (Lit.int .i64 a1_1).wf = true → (Lit.int .i64 a2).wf = true → (Lit.int .i64 a3).wf = true → (Lit.int .i64 a4).wf = true → ∃ k, laws_FnExactBand.f k a0_0 a0_1 a1_0 a1_1 a2 a3 a4 = some true := by
  intro a b c d e f g _ _ _ _ _ _ _
  apply Ev.rounds
  unfold laws_FnExactBand.f
  simp only [laws_toWindow_eq, Option.bind_some]
  refine Ev.bind (spec_Band_eq _ _ _ _ _ _ _) ?_
  refine Ev.bind (impl_Band_eq _ _ _ _ _ _ _) ?_
  simp only [if_true]; exact Ev.now _
end Go.Proofs.Ytpbpjlfpljjjhaa.Pure.FnExactBand
