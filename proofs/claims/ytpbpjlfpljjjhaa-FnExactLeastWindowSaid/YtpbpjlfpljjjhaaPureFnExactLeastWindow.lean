/- The law FnExactLeastWindow of the given program, as a statement over numbers and lists alone, for all arguments; no conditions but the machine's own bounds. -/
import Derived.Test.YtpbpjlfpljjjhaaPFnExactLeastWindowx
import Derived.Test.YtpbpjlfpljjjhaaBase
namespace Go.Proofs.Ytpbpjlfpljjjhaa.Pure.FnExactLeastWindow
open Go.RowKit Go.Proofs.Ytpbpjlfpljjjhaa.PFnExactLeastWindow Go.Proofs.YtpbpjlfpljjjhaaW.PrintWords Go.Proofs.YtpbpjlfpljjjhaaW.PrintLast Go.Proofs.Ytpbpjlfpljjjhaa.Bas
set_option linter.unusedVariables false
set_option linter.unusedSimpArgs false
def wf23 (x : S23) : Prop := (Lit.int .i64 x.f0).wf = true ∧ (Lit.int .i64 x.f1).wf = true
theorem spec_Min_eq (a b : Int) : spec_Min.f a b = some (min a b) := by
  unfold spec_Min.f; grind
theorem laws_toWindow_eq (a b : Int) : laws_toWindow.f a b = some (a, b) := rfl
theorem rdT_lawsWindow (xs : List S23) (i : Nat) (h : i < xs.length) : rd_T23 xs (i : Int) = xs[i] := by simp [rd_T23, h]
theorem rdT_Window (xs : List S25) (i : Nat) (h : i < xs.length) : rd_T25 xs (i : Int) = xs[i] := by simp [rd_T25, h]
theorem laws_eqWindow_self (a0 : Int) (a1 : Int) : laws_eqWindow.f a0 a1 a0 a1 = some true := by unfold laws_eqWindow.f; simp
theorem laws_szWindowS_eq (l : List S23) (a : Int) (hl : l.length ≤ maxLen) (h0 : 0 ≤ a) (h1 : a ≤ 1048576) : laws_szWindowS.f l a = some (if (l.length : Int) ≤ a then a - l.length else -1) := by
  unfold maxLen at hl; unfold laws_szWindowS.f; rw [wrap_id (by omega) (by omega)]; grind
def convWindow (x : S23) : S25 := ⟨x.f0, x.f1⟩
theorem laws_toWindowS_eq (l : List S23) (hl : l.length ≤ 1048576) : Ev (fun k => laws_toWindowS.f k l) (l.map convWindow) := by
  unfold laws_toWindowS.f
  simp only [show (0 : Int) ≤ l.length by omega, Int.toNat_natCast, show l.length ≤ 17592186044416 by omega, if_true]
  exact Ev.copy (g := fun k ys i => laws_toWindowS.l0 k l ys i) l convWindow z25 (fun i ys r h hy hr => by
    refine Ev.succ ?_
    have h1 : (i : Int) < (l.length : Int) := by omega
    have h2 : (0 : Int) ≤ (i : Int) := by omega
    have h3 : (i : Int) < (ys.length : Int) := by omega
    simp only [laws_toWindowS.l0, h1, h2, h3, if_true, rdT_lawsWindow _ _ h, laws_toWindow_eq, Option.bind_some, Int.toNat_natCast, wrap_id (n := (i : Int) + 1) (by omega) (by omega)]
    exact hr) (fun ys => by
    refine Ev.succ ?_
    simp only [laws_toWindowS.l0, Int.lt_irrefl, if_false]
    exact Ev.now _)
theorem laws_eqWindowS_self (l : List S25) (hl : l.length ≤ 1048576) : Ev (fun k => laws_eqWindowS.f k l l) true := by
  unfold laws_eqWindowS.f
  simp only [if_true]
  have := Ev.all (g := fun k i => laws_eqWindowS.l0 k l l i) l.length (fun _ => true) (fun i r h _ hr => by
    refine Ev.succ ?_
    have h1 : (i : Int) < (l.length : Int) := by omega
    have h2 : (0 : Int) ≤ (i : Int) := by omega
    simp only [laws_eqWindowS.l0, h1, h2, if_true, laws_eqWindow_self, Option.bind_some, wrap_id (n := (i : Int) + 1) (by omega) (by omega)]
    exact hr) (fun i h hf => by simp at hf) (by
    refine Ev.succ ?_
    simp only [laws_eqWindowS.l0, Int.lt_irrefl, if_false]
    exact Ev.now _)
  exact evq this (by rw [List.all_eq_true]; intros; rfl)
def leastWindow (l : List S25) : Int := if l.length = 0 then 0 else (List.range l.length).foldl (fun m (i : Nat) => min m (rd_T25 l (i : Int)).f1) (rd_T25 l 0).f1
theorem impl_LeastWindow_eq (l : List S25) (hl : l.length ≤ 1048576) : Ev (fun k => impl_LeastWindow.f k l) (leastWindow l) := by
  unfold impl_LeastWindow.f leastWindow
  by_cases h0 : l.length = 0
  · simp only [h0]; exact Ev.now _
  · simp only [h0, show ¬ (l.length : Int) = 0 by omega, show (0 : Int) < l.length by omega, if_true, if_false]
    exact Ev.fold (g := fun k m i => impl_LeastWindow.l0 k m l (l.length : Int) i) l.length (fun m (i : Nat) => min m (rd_T25 l (i : Int)).f1) id (fun _ _ => True) (fun i s r h _ hr => by
      refine Ev.succ ?_
      have h1 : (i : Int) < (l.length : Int) := by omega
      have h2 : (0 : Int) ≤ (i : Int) := by omega
      simp only [impl_LeastWindow.l0, h1, h2, if_true, wrap_id (n := (i : Int) + 1) (by omega) (by omega), show mn s (rd_T25 l (i : Int)).f1 = min s (rd_T25 l (i : Int)).f1 by unfold mn; grind]
      exact hr trivial) (fun _ _ _ _ => trivial) (fun s _ => by
      refine Ev.succ ?_
      simp only [impl_LeastWindow.l0, Int.lt_irrefl, if_false]
      exact Ev.now _) _ trivial
theorem spec_LeastWindow_eq (l : List S25) (hl : l.length ≤ 1048576) : Ev (fun k => spec_LeastWindow.f k l) (leastWindow l) := by
  unfold spec_LeastWindow.f leastWindow
  by_cases h0 : l.length = 0
  · simp only [h0]; exact Ev.now _
  · simp only [h0, show ¬ (l.length : Int) = 0 by omega, show (0 : Int) < l.length by omega, if_true, if_false]
    have := Ev.fold (g := fun k m i => spec_LeastWindow.l0 k l m i) l.length (fun m (i : Nat) => min m (rd_T25 l (i : Int)).f1) id (fun _ _ => True) (fun i s r h _ hr => by
      refine Ev.succ ?_
      have h1 : (i : Int) < (l.length : Int) := by omega
      have h2 : (0 : Int) ≤ (i : Int) := by omega
      simp only [spec_LeastWindow.l0, h1, h2, if_true, wrap_id (n := (i : Int) + 1) (by omega) (by omega), spec_Min_eq, Option.bind_some]
      exact hr trivial) (fun _ _ _ _ => trivial) (fun s _ => by
      refine Ev.succ ?_
      simp only [spec_LeastWindow.l0, Int.lt_irrefl, if_false]
      exact Ev.now _) (rd_T25 l 0).f1 trivial
    obtain ⟨K, hK⟩ := this
    refine ⟨K, fun k hk => ?_⟩
    have := hK (k + 1) (by omega)
    simp only [spec_LeastWindow.l0, show (0 : Int) < l.length by omega, if_true, spec_Min_eq, Option.bind_some, Int.le_refl, show wrap64 (0 + 1) = 1 by unfold wrap64; omega] at this
    rw [Int.min_self] at this
    exact this
theorem holds : ∀ (l0 : List S23), l0.length ≤ maxLen → (∀ x ∈ l0, wf23 x) → ∃ k, laws_FnExactLeastWindow.f k l0 = some true := by
  intro l hl _
  apply Ev.rounds
  unfold laws_FnExactLeastWindow.f
  simp only [laws_szWindowS_eq l 1048576 hl (by omega) (by omega), Option.bind_some]
  by_cases hb : (l.length : Int) ≤ 1048576
  · simp only [hb, if_true, show ¬ (1048576 - (l.length : Int) < 0) by omega, if_false]
    refine Ev.bind (laws_toWindowS_eq l (by omega)) ?_
    refine Ev.bind (spec_LeastWindow_eq _ (by simp; omega)) ?_
    refine Ev.bind (laws_toWindowS_eq l (by omega)) ?_
    refine Ev.bind (impl_LeastWindow_eq _ (by simp; omega)) ?_
    simp only [if_true]
    refine Ev.bind (laws_toWindowS_eq l (by omega)) ?_
    refine Ev.bind (laws_eqWindowS_self _ (by simp; omega)) ?_
    simp only [if_true]; exact Ev.now _
  · simp only [hb, if_false, show (-1 : Int) < 0 by omega, if_true]; exact Ev.now _
end Go.Proofs.Ytpbpjlfpljjjhaa.Pure.FnExactLeastWindow
