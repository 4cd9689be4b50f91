/- The law FnExactStateName of the given program, as a statement over numbers and lists alone, for all arguments; no conditions but the machine's own bounds. -/
import Derived.Test.YtpbpjlfpljjjhaaPFnExactStateNamex
import Derived.Test.YtpbpjlfpljjjhaaBase
namespace Go.Proofs.Ytpbpjlfpljjjhaa.Pure.FnExactStateName
open Go.RowKit Go.Proofs.Ytpbpjlfpljjjhaa.PFnExactStateName Go.Proofs.YtpbpjlfpljjjhaaW.PrintWords Go.Proofs.YtpbpjlfpljjjhaaW.PrintLast Go.Proofs.Ytpbpjlfpljjjhaa.Bas
set_option linter.unusedVariables false
set_option linter.unusedSimpArgs false
theorem spec_l1In_eq (a lo hi : Int) : spec_l1In.f a lo hi = some (decide (lo ≤ a ∧ a ≤ hi)) := by
  unfold spec_l1In.f; grind
theorem holds : ∀ (a0 : Int), (Lit.int .i64 a0).wf = true → laws_FnExactStateName.f a0 = some true := by
  intro a _
  unfold laws_FnExactStateName.f spec_StateName.f impl_StateName.f
  simp only [spec_l1In_eq, Option.bind_some]
  by_cases h0 : a = 0
  · subst h0; simp [rdOf]
  by_cases h1 : a = 1
  · subst h1; simp [rdOf]
  by_cases h2 : a = 2
  · subst h2; simp [rdOf]
  simp [h0, h1, h2, show ¬ (0 ≤ a ∧ a ≤ 2) by omega]
end Go.Proofs.Ytpbpjlfpljjjhaa.Pure.FnExactStateName
