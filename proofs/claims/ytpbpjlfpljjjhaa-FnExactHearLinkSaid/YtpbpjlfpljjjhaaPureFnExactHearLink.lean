/- The law FnExactHearLink of the given program, as a statement over numbers and lists alone, for all arguments; no conditions but the machine's own bounds. -/
import Derived.Test.YtpbpjlfpljjjhaaPFnExactHearLinkx
import Derived.Test.YtpbpjlfpljjjhaaBase
namespace Go.Proofs.Ytpbpjlfpljjjhaa.Pure.FnExactHearLink
open Go.RowKit Go.Proofs.Ytpbpjlfpljjjhaa.PFnExactHearLink Go.Proofs.YtpbpjlfpljjjhaaW.PrintWords Go.Proofs.YtpbpjlfpljjjhaaW.PrintLast Go.Proofs.Ytpbpjlfpljjjhaa.Bas
set_option linter.unusedVariables false
set_option linter.unusedSimpArgs false
theorem spec_l1In_eq (a lo hi : Int) : spec_l1In.f a lo hi = some (decide (lo ≤ a ∧ a ≤ hi)) := by
  unfold spec_l1In.f; grind
theorem impl_InRange_eq (a lo hi : Int) : impl_InRange.f a lo hi = some (decide (lo ≤ a ∧ a ≤ hi)) := by
  unfold impl_InRange.f; grind
theorem impl_isCrossing_eq (a : Int) : impl_isCrossing.f a = some (decide (1 ≤ a ∧ a ≤ 8)) := by
  unfold impl_isCrossing.f; rw [impl_InRange_eq]; rfl
theorem laws_toLink_eq (a b c d : Int) : laws_toLink.f a b c d = some (a, b, c, d) := rfl
theorem laws_eqLink_self (a b c d : Int) : laws_eqLink.f a b c d a b c d = some true := by unfold laws_eqLink.f; simp
theorem impl_IsLink_eq (a b c d : Int) : impl_IsLink.f a b c d = some (isLink a b c d) := by
  unfold impl_IsLink.f isLink
  simp only [impl_InRange_eq, impl_isCrossing_eq, Option.bind_some]; grind
theorem spec_IsLink_eq (a b c d : Int) : spec_IsLink.f a b c d = some (isLink a b c d) := by
  unfold spec_IsLink.f isLink
  simp only [spec_l1In_eq, Option.bind_some]; grind
theorem impl_HearLink_eq (p s h o q n f : Int) : impl_HearLink.f p s h o q n f = some (if hears p s h o q n f then (p, q, n, f, true) else (p, s, h, o, false)) := by
  unfold impl_HearLink.f hears
  simp only [impl_IsLink_eq, Option.bind_some]
  grind
theorem spec_HearLink_eq (p s h o q n f : Int) : spec_HearLink.f p s h o q n f = some (if hears p s h o q n f then (p, q, n, f, true) else (p, s, h, o, false)) := by
  unfold spec_HearLink.f hears
  simp only [spec_IsLink_eq, Option.bind_some]
  grind
theorem holds : ∀ (a0_0 : Int) (a0_1 : Int) (a0_2 : Int) (a0_3 : Int) (a1 : Int) (a2 : Int) (a3 : Int), (Lit.int .i64 a0_0).wf = true → (Lit.int .i64 a0_1).wf = true → (Lit.int .i64 a0_2).wf = true → (Lit.int .i64 a0_3).wf = true → (Lit.int .i64 a1).wf = true → (Lit.int .i64 a2).wf = true → (Lit.int .i64 a3).wf = true → laws_FnExactHearLink.f a0_0 a0_1 a0_2 a0_3 a1 a2 a3 = some true := by
  intro a b c d e f g _ _ _ _ _ _ _
  unfold laws_FnExactHearLink.f
  simp [laws_toLink_eq, impl_HearLink_eq, spec_HearLink_eq, laws_eqLink_self]
end Go.Proofs.Ytpbpjlfpljjjhaa.Pure.FnExactHearLink
