/- The law FnExactHearAll of the given program, as a statement over numbers and lists alone, for all arguments; no conditions but the machine's own bounds. -/
import Derived.Test.YtaokklehbkiahaaPFnExactHearAllx
import Derived.Test.YtaokklehbkiahaaBase
namespace Go.Proofs.Ytaokklehbkiahaa.Pure.FnExactHearAll
open Go.RowKit Go.Proofs.Ytaokklehbkiahaa.PFnExactHearAll Go.Proofs.YtaokklehbkiahaaW.PrintWords Go.Proofs.YtaokklehbkiahaaW.PrintLast Go.Proofs.Ytaokklehbkiahaa.Bas
set_option linter.unusedVariables false
set_option linter.unusedSimpArgs false
theorem spec_l1In_eq (a lo hi : Int) : spec_l1In.f a lo hi = some (decide (lo ≤ a ∧ a ≤ hi)) := by
  unfold spec_l1In.f; grind
theorem impl_InRange_eq (a lo hi : Int) : impl_InRange.f a lo hi = some (decide (lo ≤ a ∧ a ≤ hi)) := by
  unfold impl_InRange.f; grind
theorem impl_isCrossing_eq (a : Int) : impl_isCrossing.f a = some (decide (1 ≤ a ∧ a ≤ 8)) := by
  unfold impl_isCrossing.f; rw [impl_InRange_eq]; rfl
theorem laws_toLink_eq (a b c d : Int) : laws_toLink.f a b c d = some (a, b, c, d) := rfl
theorem laws_eqLink_self (a b c d : Int) : laws_eqLink.f a b c d a b c d = some true := by unfold laws_eqLink.f; simp
theorem impl_IsLink_eq (a b c d : Int) : impl_IsLink.f a b c d = some (isLink a b c d) := by
  unfold impl_IsLink.f isLink
  simp only [impl_InRange_eq, impl_isCrossing_eq, Option.bind_some]; grind
theorem spec_IsLink_eq (a b c d : Int) : spec_IsLink.f a b c d = some (isLink a b c d) := by
  unfold spec_IsLink.f isLink
  simp only [spec_l1In_eq, Option.bind_some]; grind
theorem laws_toIntS_eq (l : List Int) (hl : l.length ≤ 1048576) : Ev (fun k => laws_toIntS.f k l) l := by
  unfold laws_toIntS.f
  simp only [show (0 : Int) ≤ l.length by omega, Int.toNat_natCast, show l.length ≤ 35184372088832 by omega, if_true]
  have := Ev.copy (g := fun k ys i => laws_toIntS.l0 k l ys i) l id 0 (fun i ys r h hy hr => by
    refine Ev.succ ?_
    have h1 : (i : Int) < (l.length : Int) := by omega
    have h2 : (0 : Int) ≤ (i : Int) := by omega
    have h3 : (i : Int) < (ys.length : Int) := by omega
    simp only [laws_toIntS.l0, h1, h2, h3, if_true, rd_nat _ _ h, Int.toNat_natCast, wrap_id (n := (i : Int) + 1) (by omega) (by omega)]
    exact hr) (fun ys => by
    refine Ev.succ ?_
    simp only [laws_toIntS.l0, Int.lt_irrefl, if_false]
    exact Ev.now _)
  simpa using this
theorem laws_eqIntS_self (l : List Int) (hl : l.length ≤ 140737488355328) : Ev (fun k => laws_eqIntS.f k l l) true := by
  unfold laws_eqIntS.f
  simp only [if_true]
  have := Ev.all (g := fun k i => laws_eqIntS.l0 k l l i) l.length (fun _ => true) (fun i r h _ hr => by
    refine Ev.succ ?_
    have h1 : (i : Int) < (l.length : Int) := by omega
    have h2 : (0 : Int) ≤ (i : Int) := by omega
    simp only [laws_eqIntS.l0, h1, h2, if_true, wrap_id (n := (i : Int) + 1) (by omega) (by omega)]
    exact hr) (fun i h hf => by simp at hf) (by
    refine Ev.succ ?_
    simp only [laws_eqIntS.l0, Int.lt_irrefl, if_false]
    exact Ev.now _)
  exact evq this (by rw [List.all_eq_true]; intros; rfl)
theorem impl_HearLink_eq (p s h o q n f : Int) : impl_HearLink.f p s h o q n f = some (if hears p s h o q n f then (p, q, n, f, true) else (p, s, h, o, false)) := by
  unfold impl_HearLink.f hears
  simp only [impl_IsLink_eq, Option.bind_some]
  grind
theorem spec_HearLink_eq (p s h o q n f : Int) : spec_HearLink.f p s h o q n f = some (if hears p s h o q n f then (p, q, n, f, true) else (p, s, h, o, false)) := by
  unfold spec_HearLink.f hears
  simp only [spec_IsLink_eq, Option.bind_some]
  grind
def hearAll (x : Int × Int × Int × Int) (v : List Int) (n f : Int) : Int × Int × Int × Int := (List.range v.length).foldl (fun x (i : Nat) => hearStep (rd v (i : Int)) n f x) x
theorem spec_HearAll_eq (a b c d : Int) (v : List Int) (n f : Int) (hl : v.length ≤ 1048576) : Ev (fun k => spec_HearAll.f k a b c d v n f) (hearAll (a, b, c, d) v n f) := by
  unfold spec_HearAll.f hearAll
  exact Ev.fold (g := fun k (x : Int × Int × Int × Int) i => spec_HearAll.l0 k v n f i x.1 x.2.1 x.2.2.1 x.2.2.2) v.length (fun x (i : Nat) => hearStep (rd v (i : Int)) n f x) id (fun _ _ => True) (fun i s r h _ hr => by
      refine Ev.succ ?_
      have hr' := hr trivial
      simp only [spec_HearAll.l0, show (i : Int) < (v.length : Int) by omega, show (0 : Int) ≤ (i : Int) by omega, if_true, spec_HearLink_eq, Option.bind_some, wrap_id (n := (i : Int) + 1) (by omega) (by omega)]
      unfold hearStep at hr'
      cases hh : hears s.1 s.2.1 s.2.2.1 s.2.2.2 (rd v (i : Int)) n f <;> simp only [hh, if_true, if_false, Bool.false_eq_true] at hr' ⊢ <;> exact hr') (fun _ _ _ _ => trivial) (fun s _ => by
      refine Ev.succ ?_
      simp only [spec_HearAll.l0, Int.lt_irrefl, if_false]
      exact Ev.now _) (a, b, c, d) trivial
theorem impl_HearAll_eq (a b c d : Int) (v : List Int) (n f : Int) (hl : v.length ≤ 1048576) : Ev (fun k => impl_HearAll.f k a b c d v n f) (hearAll (a, b, c, d) v n f) := by
  unfold impl_HearAll.f hearAll
  exact Ev.fold (g := fun k (x : Int × Int × Int × Int) i => impl_HearAll.l0 k n f v (v.length : Int) i x.1 x.2.1 x.2.2.1 x.2.2.2) v.length (fun x (i : Nat) => hearStep (rd v (i : Int)) n f x) id (fun _ _ => True) (fun i s r h _ hr => by
      refine Ev.succ ?_
      have hr' := hr trivial
      simp only [impl_HearAll.l0, show (i : Int) < (v.length : Int) by omega, show (0 : Int) ≤ (i : Int) by omega, if_true, impl_HearLink_eq, Option.bind_some, wrap_id (n := (i : Int) + 1) (by omega) (by omega)]
      unfold hearStep at hr'
      cases hh : hears s.1 s.2.1 s.2.2.1 s.2.2.2 (rd v (i : Int)) n f <;> simp only [hh, if_true, if_false, Bool.false_eq_true] at hr' ⊢ <;> exact hr') (fun _ _ _ _ => trivial) (fun s _ => by
      refine Ev.succ ?_
      simp only [impl_HearAll.l0, Int.lt_irrefl, if_false]
      exact Ev.now _) (a, b, c, d) trivial
theorem holds : ∀ (a0_0 : Int) (a0_1 : Int) (a0_2 : Int) (a0_3 : Int) (l1 : List Int) (a2 : Int) (a3 : Int), (Lit.int .i64 a0_0).wf = true → (Lit.int .i64 a0_1).wf = true → (Lit.int .i64 a0_2).wf = true → (Lit.int .i64 a0_3).wf = true → l1.length ≤ maxLen → (∀ x ∈ l1, (Lit.int .i64 x).wf = true) → (Lit.int .i64 a2).wf = true → (Lit.int .i64 a3).wf = true → ∃ k, laws_FnExactHearAll.f k a0_0 a0_1 a0_2 a0_3 l1 a2 a3 = some true := by
  intros
  apply Ev.rounds
  unfold laws_FnExactHearAll.f
  repeat (first
    | exact Ev.now _
    | dsimp only
    | (refine Ev.ifp ?_ ?_; focus (first | rfl | omega | (simp; done)))
    | (refine Ev.ifn ?_ ?_; focus (first | omega | (simp; done)))
    | refine Ev.bind (laws_eqIntS_self _ (by first | omega | (simp only [List.length_map, markInts_length]; omega) | (simp; omega))) ?_
    | refine Ev.bindE (laws_eqLink_self ..) ?_
    | refine Ev.bind (laws_toIntS_eq _ (by first | omega | (simp only [List.length_map, markInts_length]; omega) | (simp; omega))) ?_
    | refine Ev.bindE (laws_toLink_eq ..) ?_
    | refine Ev.bind (spec_HearAll_eq _ _ _ _ _ _ _ (by first | omega | (simp only [List.length_map, markInts_length]; omega) | (simp; omega))) ?_
    | refine Ev.bind (impl_HearAll_eq _ _ _ _ _ _ _ (by first | omega | (simp only [List.length_map, markInts_length]; omega) | (simp; omega))) ?_
    | (refine Ev.ifd (fun _ => by exact Ev.now _) (fun _ => ?_)))
end Go.Proofs.Ytaokklehbkiahaa.Pure.FnExactHearAll
