/- The law FnExactInStep of the given program, as a statement over numbers and lists alone, for all arguments; no conditions but the machine's own bounds. -/
import Derived.Test.YtaokklehbkiahaaPFnExactInStepx
import Derived.Test.YtaokklehbkiahaaBase
namespace Go.Proofs.Ytaokklehbkiahaa.Pure.FnExactInStep
open Go.RowKit Go.Proofs.Ytaokklehbkiahaa.PFnExactInStep Go.Proofs.YtaokklehbkiahaaW.PrintWords Go.Proofs.YtaokklehbkiahaaW.PrintLast Go.Proofs.Ytaokklehbkiahaa.Bas
set_option linter.unusedVariables false
set_option linter.unusedSimpArgs false
def wf32 (x : S32) : Prop := (Lit.int .i64 x.f0).wf = true ∧ (Lit.int .i64 x.f1).wf = true ∧ (Lit.int .i64 x.f2).wf = true ∧ (Lit.int .i64 x.f3).wf = true
theorem spec_l1In_eq (a lo hi : Int) : spec_l1In.f a lo hi = some (decide (lo ≤ a ∧ a ≤ hi)) := by
  unfold spec_l1In.f; grind
theorem impl_InRange_eq (a lo hi : Int) : impl_InRange.f a lo hi = some (decide (lo ≤ a ∧ a ≤ hi)) := by
  unfold impl_InRange.f; grind
theorem impl_isCrossing_eq (a : Int) : impl_isCrossing.f a = some (decide (1 ≤ a ∧ a ≤ 8)) := by
  unfold impl_isCrossing.f; rw [impl_InRange_eq]; rfl
theorem laws_toLink_eq (a b c d : Int) : laws_toLink.f a b c d = some (a, b, c, d) := rfl
theorem laws_eqLink_self (a b c d : Int) : laws_eqLink.f a b c d a b c d = some true := by unfold laws_eqLink.f; simp
theorem impl_IsLink_eq (a b c d : Int) : impl_IsLink.f a b c d = some (isLink a b c d) := by
  unfold impl_IsLink.f isLink
  simp only [impl_InRange_eq, impl_isCrossing_eq, Option.bind_some]; grind
theorem spec_IsLink_eq (a b c d : Int) : spec_IsLink.f a b c d = some (isLink a b c d) := by
  unfold spec_IsLink.f isLink
  simp only [spec_l1In_eq, Option.bind_some]; grind
theorem rdT_lawsLink (xs : List S32) (i : Nat) (h : i < xs.length) : rd_T32 xs (i : Int) = xs[i] := by simp [rd_T32, h]
theorem rdT_Link (xs : List S33) (i : Nat) (h : i < xs.length) : rd_T33 xs (i : Int) = xs[i] := by simp [rd_T33, h]
theorem laws_szLinkS_eq (l : List S32) (a : Int) (hl : l.length ≤ maxLen) (h0 : 0 ≤ a) (h1 : a ≤ 1048576) : laws_szLinkS.f l a = some (if (l.length : Int) ≤ a then a - l.length else -1) := by
  unfold maxLen at hl; unfold laws_szLinkS.f; rw [wrap_id (by omega) (by omega)]; grind
def convLink (x : S32) : S33 := ⟨x.f0, x.f1, x.f2, x.f3⟩
theorem laws_toLinkS_eq (l : List S32) (hl : l.length ≤ 1048576) : Ev (fun k => laws_toLinkS.f k l) (l.map convLink) := by
  unfold laws_toLinkS.f
  simp only [show (0 : Int) ≤ l.length by omega, Int.toNat_natCast, show l.length ≤ 8796093022208 by omega, if_true]
  exact Ev.copy (g := fun k ys i => laws_toLinkS.l0 k l ys i) l convLink z33 (fun i ys r h hy hr => by
    refine Ev.succ ?_
    have h1 : (i : Int) < (l.length : Int) := by omega
    have h2 : (0 : Int) ≤ (i : Int) := by omega
    have h3 : (i : Int) < (ys.length : Int) := by omega
    simp only [laws_toLinkS.l0, h1, h2, h3, if_true, rdT_lawsLink _ _ h, laws_toLink_eq, Option.bind_some, Int.toNat_natCast, wrap_id (n := (i : Int) + 1) (by omega) (by omega)]
    exact hr) (fun ys => by
    refine Ev.succ ?_
    simp only [laws_toLinkS.l0, Int.lt_irrefl, if_false]
    exact Ev.now _)
theorem laws_eqLinkS_self (l : List S33) (hl : l.length ≤ 1048576) : Ev (fun k => laws_eqLinkS.f k l l) true := by
  unfold laws_eqLinkS.f
  simp only [if_true]
  have := Ev.all (g := fun k i => laws_eqLinkS.l0 k l l i) l.length (fun _ => true) (fun i r h _ hr => by
    refine Ev.succ ?_
    have h1 : (i : Int) < (l.length : Int) := by omega
    have h2 : (0 : Int) ≤ (i : Int) := by omega
    simp only [laws_eqLinkS.l0, h1, h2, if_true, laws_eqLink_self, Option.bind_some, wrap_id (n := (i : Int) + 1) (by omega) (by omega)]
    exact hr) (fun i h hf => by simp at hf) (by
    refine Ev.succ ?_
    simp only [laws_eqLinkS.l0, Int.lt_irrefl, if_false]
    exact Ev.now _)
  exact evq this (by rw [List.all_eq_true]; intros; rfl)
theorem impl_LinkState_eq (p s h o now : Int) : Ev (fun k => impl_LinkState.f k p s h o now) (linkState p s h o now) := by
  unfold impl_LinkState.f linkState
  simp only [impl_IsLink_eq, Option.bind_some]
  by_cases hl : isLink p s h o = true
  · have hb := (isLink_iff _ _ _ _).1 hl
    simp only [hl, if_true, true_and]
    by_cases h1 : now < h
    · simp only [h1, if_true]; refine Ev.succ ?_; simp only [impl_LinkState.j0, if_true]; rw [if_neg (by omega)]; exact Ev.now _
    by_cases h2 : now > 1000000
    · simp only [h1, h2, if_true, if_false]; refine Ev.succ ?_; simp only [impl_LinkState.j0, if_true]; rw [if_neg (by omega)]; exact Ev.now _
    simp only [h1, h2, if_false, wrap_id (n := now - h) (by omega) (by omega)]
    refine Ev.succ ?_
    simp only [impl_LinkState.j0, wrap_id (n := now - h) (by omega) (by omega)]
    refine Ev.pure ?_
    grind
  · simp only [hl, Bool.false_eq_true, if_false, false_and]; refine Ev.succ ?_; simp only [impl_LinkState.j0, if_true]; exact Ev.now _
theorem spec_LinkState_eq (p s h o now : Int) : Ev (fun k => spec_LinkState.f k p s h o now) (linkState p s h o now) := by
  unfold spec_LinkState.f linkState
  simp only [spec_IsLink_eq, Option.bind_some]
  by_cases hl : isLink p s h o = true
  · have hb := (isLink_iff _ _ _ _).1 hl
    simp only [hl, if_true, true_and]
    by_cases h1 : now < h
    · simp only [h1, if_true]; refine Ev.succ ?_; simp only [spec_LinkState.j0, if_true]; rw [if_neg (by omega)]; exact Ev.now _
    by_cases h2 : now > 1000000
    · simp only [h1, h2, if_true, if_false]; refine Ev.succ ?_; simp only [spec_LinkState.j0, if_true]; rw [if_neg (by omega)]; exact Ev.now _
    simp only [h1, h2, if_false, wrap_id (n := now - h) (by omega) (by omega)]
    refine Ev.succ ?_
    simp only [spec_LinkState.j0, wrap_id (n := now - h) (by omega) (by omega)]
    refine Ev.pure ?_
    grind
  · simp only [hl, Bool.false_eq_true, if_false, false_and]; refine Ev.succ ?_; simp only [spec_LinkState.j0, if_true]; exact Ev.now _
def inStep (l : List S33) (now : Int) : Bool := (List.range l.length).all (fun (i : Nat) => decide (linkState (rd_T33 l (i : Int)).f0 (rd_T33 l (i : Int)).f1 (rd_T33 l (i : Int)).f2 (rd_T33 l (i : Int)).f3 now = 0))
theorem spec_InStep_eq (l : List S33) (now : Int) (hl : l.length ≤ 1048576) : Ev (fun k => spec_InStep.f k l now) (inStep l now) := by
  unfold spec_InStep.f inStep
  refine Ev.all (g := fun k i => spec_InStep.l0 k l now i) l.length _ (fun i r h hP hr => ?_) (fun i h hP => ?_) ?_
  · refine Ev.succ ?_
    simp only [spec_InStep.l0, show (i : Int) < (l.length : Int) by omega, show (0 : Int) ≤ (i : Int) by omega, if_true, wrap_id (n := (i : Int) + 1) (by omega) (by omega)]
    refine Ev.bind (spec_LinkState_eq _ _ _ _ _) ?_
    simp only [of_decide_eq_true hP, if_true]
    exact hr
  · refine Ev.succ ?_
    simp only [spec_InStep.l0, show (i : Int) < (l.length : Int) by omega, show (0 : Int) ≤ (i : Int) by omega, if_true, wrap_id (n := (i : Int) + 1) (by omega) (by omega)]
    refine Ev.bind (spec_LinkState_eq _ _ _ _ _) ?_
    simp only [of_decide_eq_false hP, if_false]
    exact Ev.now _
  · refine Ev.succ ?_
    simp only [spec_InStep.l0, Int.lt_irrefl, if_false]
    exact Ev.now _
theorem impl_InStep_eq (l : List S33) (now : Int) (hl : l.length ≤ 1048576) : Ev (fun k => impl_InStep.f k l now) (inStep l now) := by
  unfold impl_InStep.f inStep
  refine Ev.all (g := fun k i => impl_InStep.l0 k now l (l.length : Int) i) l.length _ (fun i r h hP hr => ?_) (fun i h hP => ?_) ?_
  · refine Ev.succ ?_
    simp only [impl_InStep.l0, show (i : Int) < (l.length : Int) by omega, show (0 : Int) ≤ (i : Int) by omega, if_true, wrap_id (n := (i : Int) + 1) (by omega) (by omega)]
    refine Ev.bind (impl_LinkState_eq _ _ _ _ _) ?_
    simp only [of_decide_eq_true hP, if_true]
    exact hr
  · refine Ev.succ ?_
    simp only [impl_InStep.l0, show (i : Int) < (l.length : Int) by omega, show (0 : Int) ≤ (i : Int) by omega, if_true, wrap_id (n := (i : Int) + 1) (by omega) (by omega)]
    refine Ev.bind (impl_LinkState_eq _ _ _ _ _) ?_
    simp only [of_decide_eq_false hP, if_false]
    exact Ev.now _
  · refine Ev.succ ?_
    simp only [impl_InStep.l0, Int.lt_irrefl, if_false]
    exact Ev.now _
theorem holds : ∀ (l0 : List S32) (a1 : Int), l0.length ≤ maxLen → (∀ x ∈ l0, wf32 x) → (Lit.int .i64 a1).wf = true → ∃ k, laws_FnExactInStep.f k l0 a1 = some true := by
  intro l now hl _ _
  apply Ev.rounds
  unfold laws_FnExactInStep.f
  simp only [laws_szLinkS_eq l 1048576 hl (by omega) (by omega), Option.bind_some]
  by_cases hb : (l.length : Int) ≤ 1048576
  · simp only [hb, if_true, show ¬ (1048576 - (l.length : Int) < 0) by omega, if_false]
    refine Ev.bind (laws_toLinkS_eq l (by omega)) ?_
    refine Ev.bind (spec_InStep_eq _ _ (by simp; omega)) ?_
    refine Ev.bind (laws_toLinkS_eq l (by omega)) ?_
    refine Ev.bind (impl_InStep_eq _ _ (by simp; omega)) ?_
    simp only [bne_self_eq_false, Bool.false_eq_true, if_false]
    refine Ev.bind (laws_toLinkS_eq l (by omega)) ?_
    refine Ev.bind (laws_eqLinkS_self _ (by simp; omega)) ?_
    simp only [if_true]; exact Ev.now _
  · simp only [hb, if_false, show (-1 : Int) < 0 by omega, if_true]; exact Ev.now _
end Go.Proofs.Ytaokklehbkiahaa.Pure.FnExactInStep
