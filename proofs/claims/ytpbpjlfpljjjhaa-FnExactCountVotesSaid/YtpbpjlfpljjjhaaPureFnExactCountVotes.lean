/- The law FnExactCountVotes of the given program, as a statement over numbers and lists alone, for all arguments; no conditions but the machine's own bounds. -/
import Derived.Test.YtpbpjlfpljjjhaaPFnExactCountVotesx
import Derived.Test.YtpbpjlfpljjjhaaBase
namespace Go.Proofs.Ytpbpjlfpljjjhaa.Pure.FnExactCountVotes
open Go.RowKit Go.Proofs.Ytpbpjlfpljjjhaa.PFnExactCountVotes Go.Proofs.YtpbpjlfpljjjhaaW.PrintWords Go.Proofs.YtpbpjlfpljjjhaaW.PrintLast Go.Proofs.Ytpbpjlfpljjjhaa.Bas
set_option linter.unusedVariables false
set_option linter.unusedSimpArgs false
theorem laws_szIntS_eq (l : List Int) (a : Int) (hl : l.length ≤ maxLen) (h0 : 0 ≤ a) (h1 : a ≤ 1048576) : laws_szIntS.f l a = some (if (l.length : Int) ≤ a then a - l.length else -1) := by
  unfold maxLen at hl; unfold laws_szIntS.f; rw [wrap_id (by omega) (by omega)]; grind
theorem laws_toIntS_eq (l : List Int) (hl : l.length ≤ 1048576) : Ev (fun k => laws_toIntS.f k l) l := by
  unfold laws_toIntS.f
  simp only [show (0 : Int) ≤ l.length by omega, Int.toNat_natCast, show l.length ≤ 35184372088832 by omega, if_true]
  have := Ev.copy (g := fun k ys i => laws_toIntS.l0 k l ys i) l id 0 (fun i ys r h hy hr => by
    refine Ev.succ ?_
    have h1 : (i : Int) < (l.length : Int) := by omega
    have h2 : (0 : Int) ≤ (i : Int) := by omega
    have h3 : (i : Int) < (ys.length : Int) := by omega
    simp only [laws_toIntS.l0, h1, h2, h3, if_true, rd_nat _ _ h, Int.toNat_natCast, wrap_id (n := (i : Int) + 1) (by omega) (by omega)]
    exact hr) (fun ys => by
    refine Ev.succ ?_
    simp only [laws_toIntS.l0, Int.lt_irrefl, if_false]
    exact Ev.now _)
  simpa using this
theorem laws_eqIntS_self (l : List Int) (hl : l.length ≤ 140737488355328) : Ev (fun k => laws_eqIntS.f k l l) true := by
  unfold laws_eqIntS.f
  simp only [if_true]
  have := Ev.all (g := fun k i => laws_eqIntS.l0 k l l i) l.length (fun _ => true) (fun i r h _ hr => by
    refine Ev.succ ?_
    have h1 : (i : Int) < (l.length : Int) := by omega
    have h2 : (0 : Int) ≤ (i : Int) := by omega
    simp only [laws_eqIntS.l0, h1, h2, if_true, wrap_id (n := (i : Int) + 1) (by omega) (by omega)]
    exact hr) (fun i h hf => by simp at hf) (by
    refine Ev.succ ?_
    simp only [laws_eqIntS.l0, Int.lt_irrefl, if_false]
    exact Ev.now _)
  exact evq this (by rw [List.all_eq_true]; intros; rfl)
theorem laws_szTurn_eq (p a : Int) (v : List Int) (n : Int) (hl : v.length ≤ maxLen) (h0 : 0 ≤ n) (h1 : n ≤ 1048576) : laws_szTurn.f p a v n = some (if (v.length : Int) ≤ n then n - v.length else -1) := by
  unfold laws_szTurn.f; simp only [laws_szIntS_eq v n hl h0 h1, Option.bind_some]; grind
theorem laws_toTurn_eq (p a : Int) (v : List Int) (hl : v.length ≤ 1048576) : Ev (fun k => laws_toTurn.f k p a v) (p, a, v) := by
  unfold laws_toTurn.f
  exact Ev.bind (laws_toIntS_eq v hl) (Ev.now _)
theorem laws_eqTurn_self (p a : Int) (v : List Int) (hl : v.length ≤ 1048576) : Ev (fun k => laws_eqTurn.f k p a v p a v) true := by
  unfold laws_eqTurn.f
  simp only [if_true]
  refine Ev.bind (laws_eqIntS_self v (by omega)) ?_
  simp only [if_true]; exact Ev.now _
def countVotes (v : List Int) (x : Int) : Int := (List.range v.length).foldl (fun n (i : Nat) => if rd v (i : Int) = x then n + 1 else n) 0
theorem spec_CountVotes_eq (p a : Int) (v : List Int) (x : Int) (hl : v.length ≤ 1048576) : Ev (fun k => spec_CountVotes.f k p a v x) (countVotes v x) := by
  unfold spec_CountVotes.f countVotes
  exact Ev.fold (g := fun k n i => spec_CountVotes.l0 k x n i p a v) v.length (fun n (i : Nat) => if rd v (i : Int) = x then n + 1 else n) id (fun i n => 0 ≤ n ∧ n ≤ i) (fun i s r h hI hr => by
      refine Ev.succ ?_
      have h1 : (i : Int) < (v.length : Int) := by omega
      have h2 : (0 : Int) ≤ (i : Int) := by omega
      have hr' := hr (by split <;> omega)
      simp only [spec_CountVotes.l0, h1, h2, if_true, wrap_id (n := (i : Int) + 1) (by omega) (by omega), wrap_id (n := s + 1) (by omega) (by omega)]
      by_cases hx : rd v (i : Int) = x <;> simp only [hx, if_true, if_false] at hr' ⊢ <;> exact hr') (fun i s h hI => by split <;> omega) (fun s _ => by
      refine Ev.succ ?_
      simp only [spec_CountVotes.l0, Int.lt_irrefl, if_false]
      exact Ev.now _) _ (by omega)
theorem impl_CountVotes_eq (p a : Int) (v : List Int) (x : Int) (hl : v.length ≤ 1048576) : Ev (fun k => impl_CountVotes.f k p a v x) (countVotes v x) := by
  unfold impl_CountVotes.f countVotes
  exact Ev.fold (g := fun k n i => impl_CountVotes.l0 k x n v (v.length : Int) i) v.length (fun n (i : Nat) => if rd v (i : Int) = x then n + 1 else n) id (fun i n => 0 ≤ n ∧ n ≤ i) (fun i s r h hI hr => by
      refine Ev.succ ?_
      have h1 : (i : Int) < (v.length : Int) := by omega
      have h2 : (0 : Int) ≤ (i : Int) := by omega
      have hr' := hr (by split <;> omega)
      simp only [impl_CountVotes.l0, h1, h2, if_true, wrap_id (n := (i : Int) + 1) (by omega) (by omega), wrap_id (n := s + 1) (by omega) (by omega)]
      by_cases hx : rd v (i : Int) = x <;> simp only [hx, if_true, if_false] at hr' ⊢ <;> exact hr') (fun i s h hI => by split <;> omega) (fun s _ => by
      refine Ev.succ ?_
      simp only [impl_CountVotes.l0, Int.lt_irrefl, if_false]
      exact Ev.now _) _ (by omega)
theorem holds : ∀ (a0_0 : Int) (a0_1 : Int) (l0_2 : List Int) (a1 : Int), (Lit.int .i64 a0_0).wf = true → (Lit.int .i64 a0_1).wf = true → l0_2.length ≤ maxLen → (∀ x ∈ l0_2, (Lit.int .i64 x).wf = true) → (Lit.int .i64 a1).wf = true → ∃ k, laws_FnExactCountVotes.f k a0_0 a0_1 l0_2 a1 = some true := by
  intro p a v x _ _ hl _ _
  apply Ev.rounds
  unfold laws_FnExactCountVotes.f
  simp only [laws_szTurn_eq p a v 1048576 hl (by omega) (by omega), Option.bind_some]
  by_cases hb : (v.length : Int) ≤ 1048576
  · simp only [hb, if_true, show ¬ (1048576 - (v.length : Int) < 0) by omega, if_false]
    refine Ev.bind (laws_toTurn_eq p a v (by omega)) ?_
    dsimp only
    refine Ev.bind (spec_CountVotes_eq _ _ _ _ (by omega)) ?_
    refine Ev.bind (laws_toTurn_eq p a v (by omega)) ?_
    dsimp only
    refine Ev.bind (impl_CountVotes_eq _ _ _ _ (by omega)) ?_
    simp only [if_true]
    refine Ev.bind (laws_toTurn_eq p a v (by omega)) ?_
    dsimp only
    refine Ev.bind (laws_eqTurn_self _ _ _ (by omega)) ?_
    simp only [if_true]; exact Ev.now _
  · simp only [hb, if_false, show (-1 : Int) < 0 by omega, if_true]; exact Ev.now _
end Go.Proofs.Ytpbpjlfpljjjhaa.Pure.FnExactCountVotes
