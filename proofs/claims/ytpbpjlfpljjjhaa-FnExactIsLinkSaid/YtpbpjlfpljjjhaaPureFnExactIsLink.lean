/- The law FnExactIsLink of the given program, as a statement over numbers and lists alone, for all arguments; no conditions but the machine's own bounds. -/
import Derived.Test.YtpbpjlfpljjjhaaPFnExactIsLinkx
import Derived.Test.YtpbpjlfpljjjhaaBase
namespace Go.Proofs.Ytpbpjlfpljjjhaa.Pure.FnExactIsLink
open Go.RowKit Go.Proofs.Ytpbpjlfpljjjhaa.PFnExactIsLink Go.Proofs.YtpbpjlfpljjjhaaW.PrintWords Go.Proofs.YtpbpjlfpljjjhaaW.PrintLast Go.Proofs.Ytpbpjlfpljjjhaa.Bas
set_option linter.unusedVariables false
set_option linter.unusedSimpArgs false
theorem spec_l1In_eq (a lo hi : Int) : spec_l1In.f a lo hi = some (decide (lo ≤ a ∧ a ≤ hi)) := by
  unfold spec_l1In.f; grind
theorem impl_InRange_eq (a lo hi : Int) : impl_InRange.f a lo hi = some (decide (lo ≤ a ∧ a ≤ hi)) := by
  unfold impl_InRange.f; grind
theorem impl_isCrossing_eq (a : Int) : impl_isCrossing.f a = some (decide (1 ≤ a ∧ a ≤ 8)) := by
  unfold impl_isCrossing.f; rw [impl_InRange_eq]; rfl
theorem laws_toLink_eq (a b c d : Int) : laws_toLink.f a b c d = some (a, b, c, d) := rfl
theorem impl_IsLink_eq (a b c d : Int) : impl_IsLink.f a b c d = some (isLink a b c d) := by
  unfold impl_IsLink.f isLink
  simp only [impl_InRange_eq, impl_isCrossing_eq, Option.bind_some]; grind
theorem spec_IsLink_eq (a b c d : Int) : spec_IsLink.f a b c d = some (isLink a b c d) := by
  unfold spec_IsLink.f isLink
  simp only [spec_l1In_eq, Option.bind_some]; grind
theorem holds : ∀ (a0_0 : Int) (a0_1 : Int) (a0_2 : Int) (a0_3 : Int), (Lit.int .i64 a0_0).wf = true → (Lit.int .i64 a0_1).wf = true → (Lit.int .i64 a0_2).wf = true → (Lit.int .i64 a0_3).wf = true → laws_FnExactIsLink.f a0_0 a0_1 a0_2 a0_3 = some true := by
  intro a b c d _ _ _ _
  unfold laws_FnExactIsLink.f
  simp [laws_toLink_eq, impl_IsLink_eq, spec_IsLink_eq]
end Go.Proofs.Ytpbpjlfpljjjhaa.Pure.FnExactIsLink
