/- The law FnExactIsTurn of the given program, as a statement over numbers and lists alone, for all arguments; no conditions but the machine's own bounds. -/
import Derived.Test.YtaokklehbkiahaaPFnExactIsTurnx
import Derived.Test.YtaokklehbkiahaaBase
namespace Go.Proofs.Ytaokklehbkiahaa.Pure.FnExactIsTurn
open Go.RowKit Go.Proofs.Ytaokklehbkiahaa.PFnExactIsTurn Go.Proofs.YtaokklehbkiahaaW.PrintWords Go.Proofs.YtaokklehbkiahaaW.PrintLast Go.Proofs.Ytaokklehbkiahaa.Bas
set_option linter.unusedVariables false
set_option linter.unusedSimpArgs false
theorem spec_l1In_eq (a lo hi : Int) : spec_l1In.f a lo hi = some (decide (lo ≤ a ∧ a ≤ hi)) := by
  unfold spec_l1In.f; grind
theorem impl_InRange_eq (a lo hi : Int) : impl_InRange.f a lo hi = some (decide (lo ≤ a ∧ a ≤ hi)) := by
  unfold impl_InRange.f; grind
theorem laws_szIntS_eq (l : List Int) (a : Int) (hl : l.length ≤ maxLen) (h0 : 0 ≤ a) (h1 : a ≤ 1048576) : laws_szIntS.f l a = some (if (l.length : Int) ≤ a then a - l.length else -1) := by
  unfold maxLen at hl; unfold laws_szIntS.f; rw [wrap_id (by omega) (by omega)]; grind
theorem laws_toIntS_eq (l : List Int) (hl : l.length ≤ 1048576) : Ev (fun k => laws_toIntS.f k l) l := by
  unfold laws_toIntS.f
  simp only [show (0 : Int) ≤ l.length by omega, Int.toNat_natCast, show l.length ≤ 35184372088832 by omega, if_true]
  have := Ev.copy (g := fun k ys i => laws_toIntS.l0 k l ys i) l id 0 (fun i ys r h hy hr => by
    refine Ev.succ ?_
    have h1 : (i : Int) < (l.length : Int) := by omega
    have h2 : (0 : Int) ≤ (i : Int) := by omega
    have h3 : (i : Int) < (ys.length : Int) := by omega
    simp only [laws_toIntS.l0, h1, h2, h3, if_true, rd_nat _ _ h, Int.toNat_natCast, wrap_id (n := (i : Int) + 1) (by omega) (by omega)]
    exact hr) (fun ys => by
    refine Ev.succ ?_
    simp only [laws_toIntS.l0, Int.lt_irrefl, if_false]
    exact Ev.now _)
  simpa using this
theorem laws_eqIntS_self (l : List Int) (hl : l.length ≤ 140737488355328) : Ev (fun k => laws_eqIntS.f k l l) true := by
  unfold laws_eqIntS.f
  simp only [if_true]
  have := Ev.all (g := fun k i => laws_eqIntS.l0 k l l i) l.length (fun _ => true) (fun i r h _ hr => by
    refine Ev.succ ?_
    have h1 : (i : Int) < (l.length : Int) := by omega
    have h2 : (0 : Int) ≤ (i : Int) := by omega
    simp only [laws_eqIntS.l0, h1, h2, if_true, wrap_id (n := (i : Int) + 1) (by omega) (by omega)]
    exact hr) (fun i h hf => by simp at hf) (by
    refine Ev.succ ?_
    simp only [laws_eqIntS.l0, Int.lt_irrefl, if_false]
    exact Ev.now _)
  exact evq this (by rw [List.all_eq_true]; intros; rfl)
theorem laws_szTurn_eq (p a : Int) (v : List Int) (n : Int) (hl : v.length ≤ maxLen) (h0 : 0 ≤ n) (h1 : n ≤ 1048576) : laws_szTurn.f p a v n = some (if (v.length : Int) ≤ n then n - v.length else -1) := by
  unfold laws_szTurn.f; simp only [laws_szIntS_eq v n hl h0 h1, Option.bind_some]; grind
theorem laws_toTurn_eq (p a : Int) (v : List Int) (hl : v.length ≤ 1048576) : Ev (fun k => laws_toTurn.f k p a v) (p, a, v) := by
  unfold laws_toTurn.f
  exact Ev.bind (laws_toIntS_eq v hl) (Ev.now _)
theorem laws_eqTurn_self (p a : Int) (v : List Int) (hl : v.length ≤ 1048576) : Ev (fun k => laws_eqTurn.f k p a v p a v) true := by
  unfold laws_eqTurn.f
  simp only [if_true]
  refine Ev.bind (laws_eqIntS_self v (by omega)) ?_
  simp only [if_true]; exact Ev.now _
def isTurn (p a : Int) (v : List Int) : Bool := (List.range v.length).all (fun i => decide (0 ≤ rd v (i : Int) ∧ rd v (i : Int) ≤ 2)) && (decide (1 ≤ p ∧ p ≤ 99) && decide (0 ≤ a ∧ a ≤ 1000000) && decide (1 ≤ (v.length : Int) ∧ (v.length : Int) ≤ 8))
theorem evAnd {g : Nat → Int → Option Bool} {n : Nat} {P : Nat → Bool} {b : Bool}
    (h1 : ∀ (i : Nat) (r : Bool), i < n → P i = true → Ev (fun k => g k ((i : Int) + 1)) r → Ev (fun k => g k (i : Int)) r)
    (h2 : ∀ (i : Nat), i < n → P i = false → Ev (fun k => g k (i : Int)) false)
    (h3 : Ev (fun k => g k (n : Int)) b) : Ev (fun k => g k 0) ((List.range n).all P && b) := by
  have key : ∀ (d i : Nat), i + d = n → Ev (fun k => g k (i : Int)) ((List.range' i d).all P && b) := by
    intro d
    induction d with
    | zero => intro i hi; obtain rfl : i = n := by omega
              simpa using h3
    | succ d ih =>
      intro i hi
      rw [List.range'_succ, List.all_cons]
      cases hP : P i with
      | true =>
        have := ih (i + 1) (by omega)
        rw [Bool.true_and]
        exact h1 i _ (by omega) hP (by simpa using this)
      | false => rw [Bool.false_and, Bool.false_and]; exact h2 i (by omega) hP
  have := key n 0 (by omega)
  rwa [← List.range_eq_range'] at this
theorem spec_IsTurn_eq (p a : Int) (v : List Int) (hl : v.length ≤ 1048576) : Ev (fun k => spec_IsTurn.f k p a v) (isTurn p a v) := by
  unfold spec_IsTurn.f isTurn
  refine evAnd (g := fun k i => spec_IsTurn.l0 k i p a v) (fun i r h hP hr => ?_) (fun i h hP => ?_) ?_
  · refine Ev.succ ?_
    simp only [spec_IsTurn.l0, show (i : Int) < (v.length : Int) by omega, show (0 : Int) ≤ (i : Int) by omega, if_true, spec_l1In_eq, Option.bind_some, hP, wrap_id (n := (i : Int) + 1) (by omega) (by omega)]
    exact hr
  · refine Ev.succ ?_
    simp only [spec_IsTurn.l0, show (i : Int) < (v.length : Int) by omega, show (0 : Int) ≤ (i : Int) by omega, if_true, spec_l1In_eq, Option.bind_some, hP, Bool.false_eq_true, if_false]
    exact Ev.now _
  · refine Ev.succ ?_
    simp only [spec_IsTurn.l0, Int.lt_irrefl, if_false, spec_l1In_eq, Option.bind_some]
    refine Ev.pure ?_; grind
theorem impl_IsTurn_eq (p a : Int) (v : List Int) (hl : v.length ≤ 1048576) : Ev (fun k => impl_IsTurn.f k p a v) (isTurn p a v) := by
  unfold impl_IsTurn.f isTurn
  refine evAnd (g := fun k i => impl_IsTurn.l0 k v (v.length : Int) i p a v) (fun i r h hP hr => ?_) (fun i h hP => ?_) ?_
  · refine Ev.succ ?_
    simp only [impl_IsTurn.l0, show (i : Int) < (v.length : Int) by omega, show (0 : Int) ≤ (i : Int) by omega, if_true, impl_InRange_eq, Option.bind_some, hP, wrap_id (n := (i : Int) + 1) (by omega) (by omega)]
    exact hr
  · refine Ev.succ ?_
    simp only [impl_IsTurn.l0, show (i : Int) < (v.length : Int) by omega, show (0 : Int) ≤ (i : Int) by omega, if_true, impl_InRange_eq, Option.bind_some, hP, Bool.false_eq_true, if_false]
    exact Ev.now _
  · refine Ev.succ ?_
    simp only [impl_IsTurn.l0, Int.lt_irrefl, if_false, impl_InRange_eq, Option.bind_some]
    refine Ev.pure ?_; grind
theorem holds : ∀ (a0_0 : Int) (a0_1 : Int) (l0_2 : List Int), (Lit.int .i64 a0_0).wf = true → (Lit.int .i64 a0_1).wf = true → l0_2.length ≤ maxLen → (∀ x ∈ l0_2, (Lit.int .i64 x).wf = true) → ∃ k, laws_FnExactIsTurn.f k a0_0 a0_1 l0_2 = some true := by
  intro p a v _ _ hl _
  apply Ev.rounds
  unfold laws_FnExactIsTurn.f
  simp only [laws_szTurn_eq p a v 1048576 hl (by omega) (by omega), Option.bind_some]
  by_cases hb : (v.length : Int) ≤ 1048576
  · simp only [hb, if_true, show ¬ (1048576 - (v.length : Int) < 0) by omega, if_false]
    refine Ev.bind (laws_toTurn_eq p a v (by omega)) ?_
    dsimp only
    refine Ev.bind (spec_IsTurn_eq _ _ _ (by omega)) ?_
    refine Ev.bind (laws_toTurn_eq p a v (by omega)) ?_
    dsimp only
    refine Ev.bind (impl_IsTurn_eq _ _ _ (by omega)) ?_
    simp only [bne_self_eq_false, Bool.false_eq_true, if_false]
    refine Ev.bind (laws_toTurn_eq p a v (by omega)) ?_
    dsimp only
    refine Ev.bind (laws_eqTurn_self _ _ _ (by omega)) ?_
    simp only [if_true]; exact Ev.now _
  · simp only [hb, if_false, show (-1 : Int) < 0 by omega, if_true]; exact Ev.now _
end Go.Proofs.Ytaokklehbkiahaa.Pure.FnExactIsTurn
