/- The law FnExactLinkState of the given program, as a statement over numbers and lists alone, for all arguments; no conditions but the machine's own bounds. -/
import Derived.Test.YtpbpjlfpljjjhaaPFnExactLinkStatex
import Derived.Test.YtpbpjlfpljjjhaaBase
namespace Go.Proofs.Ytpbpjlfpljjjhaa.Pure.FnExactLinkState
open Go.RowKit Go.Proofs.Ytpbpjlfpljjjhaa.PFnExactLinkState Go.Proofs.YtpbpjlfpljjjhaaW.PrintWords Go.Proofs.YtpbpjlfpljjjhaaW.PrintLast Go.Proofs.Ytpbpjlfpljjjhaa.Bas
set_option linter.unusedVariables false
set_option linter.unusedSimpArgs false
theorem spec_l1In_eq (a lo hi : Int) : spec_l1In.f a lo hi = some (decide (lo ≤ a ∧ a ≤ hi)) := by
  unfold spec_l1In.f; grind
theorem impl_InRange_eq (a lo hi : Int) : impl_InRange.f a lo hi = some (decide (lo ≤ a ∧ a ≤ hi)) := by
  unfold impl_InRange.f; grind
theorem impl_isCrossing_eq (a : Int) : impl_isCrossing.f a = some (decide (1 ≤ a ∧ a ≤ 8)) := by
  unfold impl_isCrossing.f; rw [impl_InRange_eq]; rfl
theorem laws_toLink_eq (a b c d : Int) : laws_toLink.f a b c d = some (a, b, c, d) := rfl
theorem impl_IsLink_eq (a b c d : Int) : impl_IsLink.f a b c d = some (isLink a b c d) := by
  unfold impl_IsLink.f isLink
  simp only [impl_InRange_eq, impl_isCrossing_eq, Option.bind_some]; grind
theorem spec_IsLink_eq (a b c d : Int) : spec_IsLink.f a b c d = some (isLink a b c d) := by
  unfold spec_IsLink.f isLink
  simp only [spec_l1In_eq, Option.bind_some]; grind
theorem impl_LinkState_eq (p s h o now : Int) : Ev (fun k => impl_LinkState.f k p s h o now) (linkState p s h o now) := by
  unfold impl_LinkState.f linkState
  simp only [impl_IsLink_eq, Option.bind_some]
  by_cases hl : isLink p s h o = true
  · have hb := (isLink_iff _ _ _ _).1 hl
    simp only [hl, if_true, true_and]
    by_cases h1 : now < h
    · simp only [h1, if_true]; refine Ev.succ ?_; simp only [impl_LinkState.j0, if_true]; rw [if_neg (by omega)]; exact Ev.now _
    by_cases h2 : now > 1000000
    · simp only [h1, h2, if_true, if_false]; refine Ev.succ ?_; simp only [impl_LinkState.j0, if_true]; rw [if_neg (by omega)]; exact Ev.now _
    simp only [h1, h2, if_false, wrap_id (n := now - h) (by omega) (by omega)]
    refine Ev.succ ?_
    simp only [impl_LinkState.j0, wrap_id (n := now - h) (by omega) (by omega)]
    refine Ev.pure ?_
    grind
  · simp only [hl, Bool.false_eq_true, if_false, false_and]; refine Ev.succ ?_; simp only [impl_LinkState.j0, if_true]; exact Ev.now _
theorem spec_LinkState_eq (p s h o now : Int) : Ev (fun k => spec_LinkState.f k p s h o now) (linkState p s h o now) := by
  unfold spec_LinkState.f linkState
  simp only [spec_IsLink_eq, Option.bind_some]
  by_cases hl : isLink p s h o = true
  · have hb := (isLink_iff _ _ _ _).1 hl
    simp only [hl, if_true, true_and]
    by_cases h1 : now < h
    · simp only [h1, if_true]; refine Ev.succ ?_; simp only [spec_LinkState.j0, if_true]; rw [if_neg (by omega)]; exact Ev.now _
    by_cases h2 : now > 1000000
    · simp only [h1, h2, if_true, if_false]; refine Ev.succ ?_; simp only [spec_LinkState.j0, if_true]; rw [if_neg (by omega)]; exact Ev.now _
    simp only [h1, h2, if_false, wrap_id (n := now - h) (by omega) (by omega)]
    refine Ev.succ ?_
    simp only [spec_LinkState.j0, wrap_id (n := now - h) (by omega) (by omega)]
    refine Ev.pure ?_
    grind
  · simp only [hl, Bool.false_eq_true, if_false, false_and]; refine Ev.succ ?_; simp only [spec_LinkState.j0, if_true]; exact Ev.now _
theorem holds : ∀ (a0_0 : Int) (a0_1 : Int) (a0_2 : Int) (a0_3 : Int) (a1 : Int), (Lit.int .i64 a0_0).wf = true → (Lit.int .i64 a0_1).wf = true → (Lit.int .i64 a0_2).wf = true → (Lit.int .i64 a0_3).wf = true → (Lit.int .i64 a1).wf = true → ∃ k, laws_FnExactLinkState.f k a0_0 a0_1 a0_2 a0_3 a1 = some true := by
  intro a b c d e _ _ _ _ _
  apply Ev.rounds
  unfold laws_FnExactLinkState.f
  simp only [laws_toLink_eq, Option.bind_some]
  refine Ev.bind (spec_LinkState_eq _ _ _ _ _) ?_
  refine Ev.bind (impl_LinkState_eq _ _ _ _ _) ?_
  simp only [if_true]; exact Ev.now _
end Go.Proofs.Ytpbpjlfpljjjhaa.Pure.FnExactLinkState
