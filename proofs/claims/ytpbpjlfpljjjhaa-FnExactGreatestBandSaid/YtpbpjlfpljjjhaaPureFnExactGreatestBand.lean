/- The law FnExactGreatestBand of the given program, as a statement over numbers and lists alone, for all arguments; no conditions but the machine's own bounds. -/
import Derived.Test.YtpbpjlfpljjjhaaPFnExactGreatestBandx
import Derived.Test.YtpbpjlfpljjjhaaBase
namespace Go.Proofs.Ytpbpjlfpljjjhaa.Pure.FnExactGreatestBand
open Go.RowKit Go.Proofs.Ytpbpjlfpljjjhaa.PFnExactGreatestBand Go.Proofs.YtpbpjlfpljjjhaaW.PrintWords Go.Proofs.YtpbpjlfpljjjhaaW.PrintLast Go.Proofs.Ytpbpjlfpljjjhaa.Bas
set_option linter.unusedVariables false
set_option linter.unusedSimpArgs false
theorem spec_l1In_eq (a lo hi : Int) : spec_l1In.f a lo hi = some (decide (lo ≤ a ∧ a ≤ hi)) := by
  unfold spec_l1In.f; grind
theorem impl_InRange_eq (a lo hi : Int) : impl_InRange.f a lo hi = some (decide (lo ≤ a ∧ a ≤ hi)) := by
  unfold impl_InRange.f; grind
theorem spec_Min_eq (a b : Int) : spec_Min.f a b = some (min a b) := by
  unfold spec_Min.f; grind
theorem impl_IsWindow_eq (f l c : Int) : impl_IsWindow.f f l c = some (isWindow f l c) := by
  unfold impl_IsWindow.f isWindow
  simp only [impl_InRange_eq, Option.bind_some]
  by_cases h : 1 ≤ c ∧ c ≤ 200
  · rw [wrap_id (n := c - 1) (by omega) (by omega)]; grind
  · grind
theorem spec_IsWindow_eq (f l c : Int) : spec_IsWindow.f f l c = some (isWindow f l c) := by
  unfold spec_IsWindow.f isWindow
  simp only [spec_l1In_eq, Option.bind_some]
  by_cases h : 1 ≤ c ∧ c ≤ 200
  · rw [wrap_id (n := c - 1) (by omega) (by omega)]; grind
  · grind
def greatestBand (af al bf bl c : Int) : Int := if isWindow af al c && isWindow bf bl c then min al bl else 0
theorem impl_GreatestBand_eq (af al bf bl c : Int) : impl_GreatestBand.f af al bf bl c = some (greatestBand af al bf bl c) := by
  unfold impl_GreatestBand.f greatestBand
  simp only [impl_IsWindow_eq, Option.bind_some]
  cases isWindow af al c <;> cases isWindow bf bl c <;> simp [mn] <;> grind
theorem spec_GreatestBand_eq (af al bf bl c : Int) : spec_GreatestBand.f af al bf bl c = some (greatestBand af al bf bl c) := by
  unfold spec_GreatestBand.f greatestBand
  simp only [spec_IsWindow_eq, spec_Min_eq, Option.bind_some]
  cases isWindow af al c <;> cases isWindow bf bl c <;> simp
theorem laws_toWindow_eq (a b : Int) : laws_toWindow.f a b = some (a, b) := rfl
theorem holds : ∀ (a0_0 : Int) (a0_1 : Int) (a1_0 : Int) (a1_1 : Int) (a2 : Int), (Lit.int .i64 a0_0).wf = true → (Lit.int .i64 a0_1).wf = true → (Lit.int .i64 a1_0).wf = true → (Lit.int .i64 a1_1).wf = true → (Lit.int .i64 a2).wf = true → laws_FnExactGreatestBand.f a0_0 a0_1 a1_0 a1_1 a2 = some true := by
  intro a b c d e _ _ _ _ _
  unfold laws_FnExactGreatestBand.f
  simp [laws_toWindow_eq, impl_GreatestBand_eq, spec_GreatestBand_eq]
end Go.Proofs.Ytpbpjlfpljjjhaa.Pure.FnExactGreatestBand
