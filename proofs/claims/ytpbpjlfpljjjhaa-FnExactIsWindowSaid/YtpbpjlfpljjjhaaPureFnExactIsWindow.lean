/- The law FnExactIsWindow of the given program, as a statement over numbers and lists alone, for all arguments; no conditions but the machine's own bounds. -/
import Derived.Test.YtpbpjlfpljjjhaaPFnExactIsWindowx
import Derived.Test.YtpbpjlfpljjjhaaBase
namespace Go.Proofs.Ytpbpjlfpljjjhaa.Pure.FnExactIsWindow
open Go.RowKit Go.Proofs.Ytpbpjlfpljjjhaa.PFnExactIsWindow Go.Proofs.YtpbpjlfpljjjhaaW.PrintWords Go.Proofs.YtpbpjlfpljjjhaaW.PrintLast Go.Proofs.Ytpbpjlfpljjjhaa.Bas
set_option linter.unusedVariables false
set_option linter.unusedSimpArgs false
theorem spec_l1In_eq (a lo hi : Int) : spec_l1In.f a lo hi = some (decide (lo ≤ a ∧ a ≤ hi)) := by
  unfold spec_l1In.f; grind
theorem impl_InRange_eq (a lo hi : Int) : impl_InRange.f a lo hi = some (decide (lo ≤ a ∧ a ≤ hi)) := by
  unfold impl_InRange.f; grind
theorem impl_IsWindow_eq (f l c : Int) : impl_IsWindow.f f l c = some (isWindow f l c) := by
  unfold impl_IsWindow.f isWindow
  simp only [impl_InRange_eq, Option.bind_some]
  by_cases h : 1 ≤ c ∧ c ≤ 200
  · rw [wrap_id (n := c - 1) (by omega) (by omega)]; grind
  · grind
theorem spec_IsWindow_eq (f l c : Int) : spec_IsWindow.f f l c = some (isWindow f l c) := by
  unfold spec_IsWindow.f isWindow
  simp only [spec_l1In_eq, Option.bind_some]
  by_cases h : 1 ≤ c ∧ c ≤ 200
  · rw [wrap_id (n := c - 1) (by omega) (by omega)]; grind
  · grind
theorem laws_toWindow_eq (a b : Int) : laws_toWindow.f a b = some (a, b) := rfl
theorem holds : ∀ (a0_0 : Int) (a0_1 : Int) (a1 : Int), (Lit.int .i64 a0_0).wf = true → (Lit.int .i64 a0_1).wf = true → (Lit.int .i64 a1).wf = true → laws_FnExactIsWindow.f a0_0 a0_1 a1 = some true := by
  intro a b c _ _ _
  unfold laws_FnExactIsWindow.f
  simp [laws_toWindow_eq, impl_IsWindow_eq, spec_IsWindow_eq]
end Go.Proofs.Ytpbpjlfpljjjhaa.Pure.FnExactIsWindow
