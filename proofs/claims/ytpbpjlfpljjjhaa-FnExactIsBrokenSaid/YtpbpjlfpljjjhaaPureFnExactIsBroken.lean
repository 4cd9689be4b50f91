/- The law FnExactIsBroken of the given program, as a statement over numbers and lists alone, for all arguments; no conditions but the machine's own bounds. -/
import Derived.Test.YtpbpjlfpljjjhaaPFnExactIsBrokenx
import Derived.Test.YtpbpjlfpljjjhaaBase
namespace Go.Proofs.Ytpbpjlfpljjjhaa.Pure.FnExactIsBroken
open Go.RowKit Go.Proofs.Ytpbpjlfpljjjhaa.PFnExactIsBroken Go.Proofs.YtpbpjlfpljjjhaaW.PrintWords Go.Proofs.YtpbpjlfpljjjhaaW.PrintLast Go.Proofs.Ytpbpjlfpljjjhaa.Bas
set_option linter.unusedVariables false
set_option linter.unusedSimpArgs false
def wf78 (x : S78) : Prop := (Lit.int .i64 x.f0).wf = true ∧ (Lit.int .i64 x.f1).wf = true ∧ True
theorem rdT_lawsLamp (xs : List S78) (i : Nat) (h : i < xs.length) : rd_T78 xs (i : Int) = xs[i] := by simp [rd_T78, h]
theorem rdT_Lamp (xs : List S76) (i : Nat) (h : i < xs.length) : rd_T76 xs (i : Int) = xs[i] := by simp [rd_T76, h]
theorem laws_toLamp_eq (a0 : Int) (a1 : Int) (a2 : Bool) : laws_toLamp.f a0 a1 a2 = some (a0, a1, a2) := rfl
theorem laws_eqLamp_self (a0 : Int) (a1 : Int) (a2 : Bool) : laws_eqLamp.f a0 a1 a2 a0 a1 a2 = some true := by unfold laws_eqLamp.f; simp
theorem laws_szLampS_eq (l : List S78) (a : Int) (hl : l.length ≤ maxLen) (h0 : 0 ≤ a) (h1 : a ≤ 1048576) : laws_szLampS.f l a = some (if (l.length : Int) ≤ a then a - l.length else -1) := by
  unfold maxLen at hl; unfold laws_szLampS.f; rw [wrap_id (by omega) (by omega)]; grind
def convLamp (x : S78) : S76 := ⟨x.f0, x.f1, x.f2⟩
theorem laws_toLampS_eq (l : List S78) (hl : l.length ≤ 1048576) : Ev (fun k => laws_toLampS.f k l) (l.map convLamp) := by
  unfold laws_toLampS.f
  simp only [show (0 : Int) ≤ l.length by omega, Int.toNat_natCast, show l.length ≤ 11728124029610 by omega, if_true]
  exact Ev.copy (g := fun k ys i => laws_toLampS.l0 k l ys i) l convLamp z76 (fun i ys r h hy hr => by
    refine Ev.succ ?_
    have h1 : (i : Int) < (l.length : Int) := by omega
    have h2 : (0 : Int) ≤ (i : Int) := by omega
    have h3 : (i : Int) < (ys.length : Int) := by omega
    simp only [laws_toLampS.l0, h1, h2, h3, if_true, rdT_lawsLamp _ _ h, laws_toLamp_eq, Option.bind_some, Int.toNat_natCast, wrap_id (n := (i : Int) + 1) (by omega) (by omega)]
    exact hr) (fun ys => by
    refine Ev.succ ?_
    simp only [laws_toLampS.l0, Int.lt_irrefl, if_false]
    exact Ev.now _)
theorem laws_eqLampS_self (l : List S76) (hl : l.length ≤ 1048576) : Ev (fun k => laws_eqLampS.f k l l) true := by
  unfold laws_eqLampS.f
  simp only [if_true]
  have := Ev.all (g := fun k i => laws_eqLampS.l0 k l l i) l.length (fun _ => true) (fun i r h _ hr => by
    refine Ev.succ ?_
    have h1 : (i : Int) < (l.length : Int) := by omega
    have h2 : (0 : Int) ≤ (i : Int) := by omega
    simp only [laws_eqLampS.l0, h1, h2, if_true, laws_eqLamp_self, Option.bind_some, wrap_id (n := (i : Int) + 1) (by omega) (by omega)]
    exact hr) (fun i h hf => by simp at hf) (by
    refine Ev.succ ?_
    simp only [laws_eqLampS.l0, Int.lt_irrefl, if_false]
    exact Ev.now _)
  exact evq this (by rw [List.all_eq_true]; intros; rfl)
def isBroken (l : List S76) (p c : Int) : Bool := l.any fun x => decide (x.f0 = p ∧ x.f1 = c ∧ x.f2 = true)
theorem spec_IsBroken_eq (l : List S76) (p c : Int) (hl : l.length ≤ 1048576) : Ev (fun k => spec_IsBroken.f k l p c) (isBroken l p c) := by
  unfold spec_IsBroken.f isBroken
  have key : ∀ (d i : Nat), i + d = l.length → Ev (fun k => spec_IsBroken.l0 k l p c (i : Int)) ((l.drop i).any fun x => decide (x.f0 = p ∧ x.f1 = c ∧ x.f2 = true)) := by
    intro d
    induction d with
    | zero =>
      intro i hi
      refine Ev.succ ?_
      simp only [spec_IsBroken.l0, show ¬ (i : Int) < (l.length : Int) by omega, if_false]
      exact evq (Ev.now _) (by simp [List.drop_eq_nil_of_le (show l.length ≤ i by omega)])
    | succ d ih =>
      intro i hi
      refine Ev.succ ?_
      have ihh := ih (i + 1) (by omega)
      rw [show ((i + 1 : Nat) : Int) = (i : Int) + 1 by omega] at ihh
      simp only [spec_IsBroken.l0, show (i : Int) < (l.length : Int) by omega, show (0 : Int) ≤ (i : Int) by omega, if_true, rdT_Lamp _ _ (show i < l.length by omega), wrap_id (n := (i : Int) + 1) (by omega) (by omega)]
      rw [List.drop_eq_getElem_cons (by omega), List.any_cons]
      by_cases h1 : l[i].f0 = p <;> by_cases h2 : l[i].f1 = c <;> by_cases h3 : l[i].f2 = true <;> simp [h1, h2, h3] <;> first | exact Ev.now _ | simpa using ihh
  simpa using key l.length 0 (by omega)
theorem impl_IsBroken_eq (l : List S76) (p c : Int) (hl : l.length ≤ 1048576) : Ev (fun k => impl_IsBroken.f k l p c) (isBroken l p c) := by
  unfold impl_IsBroken.f impl_Lamp_59.f impl_Lamp_64.f isBroken
  have key : ∀ (d i : Nat), i + d = l.length → ∃ n : Int, Ev (fun k => impl_Lamp_64.l0 k l (l.length : Int) (i : Int) p c true) n ∧ ((decide (n ≥ 0)) = (l.drop i).any fun x => decide (x.f0 = p ∧ x.f1 = c ∧ x.f2 = true)) := by
    intro d
    induction d with
    | zero =>
      intro i hi
      refine ⟨-1, Ev.succ ?_, ?_⟩
      · simp only [impl_Lamp_64.l0, show ¬ (i : Int) < (l.length : Int) by omega, if_false]
        exact Ev.now _
      · simp [List.drop_eq_nil_of_le (show l.length ≤ i by omega)]
    | succ d ih =>
      intro i hi
      obtain ⟨n, hn, he⟩ := ih (i + 1) (by omega)
      rw [show ((i + 1 : Nat) : Int) = (i : Int) + 1 by omega] at hn
      rw [List.drop_eq_getElem_cons (by omega), List.any_cons]
      by_cases hc : l[i].f0 = p ∧ l[i].f1 = c ∧ l[i].f2 = true
      · refine ⟨(i : Int), Ev.succ ?_, ?_⟩
        · have hc' : (p == l[i].f0 && (c == l[i].f1 && (true == l[i].f2))) = true := by grind
          simp only [impl_Lamp_64.l0, show (i : Int) < (l.length : Int) by omega, show (0 : Int) ≤ (i : Int) by omega, if_true, rdT_Lamp _ _ (show i < l.length by omega), hc']
          exact Ev.now _
        · simp [hc]
      · refine ⟨n, Ev.succ ?_, ?_⟩
        · have hc' : (p == l[i].f0 && (c == l[i].f1 && (true == l[i].f2))) = false := by grind
          simp only [impl_Lamp_64.l0, show (i : Int) < (l.length : Int) by omega, show (0 : Int) ≤ (i : Int) by omega, if_true, if_false, Bool.false_eq_true, rdT_Lamp _ _ (show i < l.length by omega), hc', wrap_id (n := (i : Int) + 1) (by omega) (by omega)]
          exact hn
        · rw [decide_eq_false hc, Bool.false_or]; exact he
  obtain ⟨n, hn, he⟩ := key l.length 0 (by omega)
  simp only [List.drop_zero] at he
  rw [← he]
  exact Ev.bind (Ev.bind (by simpa using hn) (Ev.now _)) (Ev.now _)
theorem holds : ∀ (l0 : List S78) (a1 : Int) (a2 : Int), l0.length ≤ maxLen → (∀ x ∈ l0, wf78 x) → (Lit.int .i64 a1).wf = true → (Lit.int .i64 a2).wf = true → ∃ k, laws_FnExactIsBroken.f k l0 a1 a2 = some true := by
  intro l p c hl _ _ _
  apply Ev.rounds
  unfold laws_FnExactIsBroken.f
  simp only [laws_szLampS_eq l 1048576 hl (by omega) (by omega), Option.bind_some]
  by_cases hb : (l.length : Int) ≤ 1048576
  · simp only [hb, if_true, show ¬ (1048576 - (l.length : Int) < 0) by omega, if_false]
    refine Ev.bind (laws_toLampS_eq l (by omega)) ?_
    refine Ev.bind (spec_IsBroken_eq _ _ _ (by simp; omega)) ?_
    refine Ev.bind (laws_toLampS_eq l (by omega)) ?_
    refine Ev.bind (impl_IsBroken_eq _ _ _ (by simp; omega)) ?_
    simp only [bne_self_eq_false, Bool.false_eq_true, if_false]
    refine Ev.bind (laws_toLampS_eq l (by omega)) ?_
    refine Ev.bind (laws_eqLampS_self _ (by simp; omega)) ?_
    simp only [if_true]; exact Ev.now _
  · simp only [hb, if_false, show (-1 : Int) < 0 by omega, if_true]; exact Ev.now _
end Go.Proofs.Ytpbpjlfpljjjhaa.Pure.FnExactIsBroken
