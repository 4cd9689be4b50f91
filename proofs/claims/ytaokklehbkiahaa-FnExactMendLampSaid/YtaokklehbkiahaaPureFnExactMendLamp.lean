/- The law FnExactMendLamp of the given program, as a statement over numbers and lists alone, for all arguments; no conditions but the machine's own bounds. -/
import Derived.Test.YtaokklehbkiahaaPFnExactMendLampx
import Derived.Test.YtaokklehbkiahaaBase
namespace Go.Proofs.Ytaokklehbkiahaa.Pure.FnExactMendLamp
open Go.RowKit Go.Proofs.Ytaokklehbkiahaa.PFnExactMendLamp Go.Proofs.YtaokklehbkiahaaW.PrintWords Go.Proofs.YtaokklehbkiahaaW.PrintLast Go.Proofs.Ytaokklehbkiahaa.Bas
set_option linter.unusedVariables false
set_option linter.unusedSimpArgs false
def wf114 (x : S114) : Prop := (Lit.int .i64 x.f0).wf = true ∧ (Lit.int .i64 x.f1).wf = true ∧ True
theorem rdT_lawsLamp (xs : List S114) (i : Nat) (h : i < xs.length) : rd_T114 xs (i : Int) = xs[i] := by simp [rd_T114, h]
theorem rdT_Lamp (xs : List S112) (i : Nat) (h : i < xs.length) : rd_T112 xs (i : Int) = xs[i] := by simp [rd_T112, h]
theorem laws_toLamp_eq (a0 : Int) (a1 : Int) (a2 : Bool) : laws_toLamp.f a0 a1 a2 = some (a0, a1, a2) := rfl
theorem laws_eqLamp_self (a0 : Int) (a1 : Int) (a2 : Bool) : laws_eqLamp.f a0 a1 a2 a0 a1 a2 = some true := by unfold laws_eqLamp.f; simp
theorem laws_szLampS_eq (l : List S114) (a : Int) (hl : l.length ≤ maxLen) (h0 : 0 ≤ a) (h1 : a ≤ 1048576) : laws_szLampS.f l a = some (if (l.length : Int) ≤ a then a - l.length else -1) := by
  unfold maxLen at hl; unfold laws_szLampS.f; rw [wrap_id (by omega) (by omega)]; grind
def convLamp (x : S114) : S112 := ⟨x.f0, x.f1, x.f2⟩
theorem laws_toLampS_eq (l : List S114) (hl : l.length ≤ 1048576) : Ev (fun k => laws_toLampS.f k l) (l.map convLamp) := by
  unfold laws_toLampS.f
  simp only [show (0 : Int) ≤ l.length by omega, Int.toNat_natCast, show l.length ≤ 11728124029610 by omega, if_true]
  exact Ev.copy (g := fun k ys i => laws_toLampS.l0 k l ys i) l convLamp z112 (fun i ys r h hy hr => by
    refine Ev.succ ?_
    have h1 : (i : Int) < (l.length : Int) := by omega
    have h2 : (0 : Int) ≤ (i : Int) := by omega
    have h3 : (i : Int) < (ys.length : Int) := by omega
    simp only [laws_toLampS.l0, h1, h2, h3, if_true, rdT_lawsLamp _ _ h, laws_toLamp_eq, Option.bind_some, Int.toNat_natCast, wrap_id (n := (i : Int) + 1) (by omega) (by omega)]
    exact hr) (fun ys => by
    refine Ev.succ ?_
    simp only [laws_toLampS.l0, Int.lt_irrefl, if_false]
    exact Ev.now _)
theorem laws_eqLampS_self (l : List S112) (hl : l.length ≤ 1048576) : Ev (fun k => laws_eqLampS.f k l l) true := by
  unfold laws_eqLampS.f
  simp only [if_true]
  have := Ev.all (g := fun k i => laws_eqLampS.l0 k l l i) l.length (fun _ => true) (fun i r h _ hr => by
    refine Ev.succ ?_
    have h1 : (i : Int) < (l.length : Int) := by omega
    have h2 : (0 : Int) ≤ (i : Int) := by omega
    simp only [laws_eqLampS.l0, h1, h2, if_true, laws_eqLamp_self, Option.bind_some, wrap_id (n := (i : Int) + 1) (by omega) (by omega)]
    exact hr) (fun i h hf => by simp at hf) (by
    refine Ev.succ ?_
    simp only [laws_eqLampS.l0, Int.lt_irrefl, if_false]
    exact Ev.now _)
  exact evq this (by rw [List.all_eq_true]; intros; rfl)
def mkLamp (c : Int) : S112 := ⟨c, c + 1, (c + 2) % 3 == 0⟩
def marksLamp (n : Nat) (c : Int) : List S112 := (List.range n).map fun (i : Nat) => mkLamp (c + 3 * (i : Int))
theorem marksLamp_length (n : Nat) (c : Int) : (marksLamp n c).length = n := by simp [marksLamp]
theorem laws_markLampS_eq (l : List S112) (c : Int) (hl : l.length ≤ 1048576) (h0 : 0 ≤ c) (h9 : c ≤ 1000000000000000) : Ev (fun k => laws_markLampS.f k l c) (c + 3 * l.length, marksLamp l.length c) := by
  unfold laws_markLampS.f
  refine Ev.mark (g := fun k ys c i => laws_markLampS.l0 k ys c i) 3 mkLamp l c (fun i ys r h hy hr => ?_) (fun ys c' hy => ?_)
  · refine Ev.succ ?_
    have h1 : (i : Int) < (ys.length : Int) := by omega
    have h2 : (0 : Int) ≤ (i : Int) := by omega
    have h4 : i < ys.length := by omega
    have r0 : ∀ (zs : List S112) (x : S112), i < zs.length → rd_T112 (zs.set i x) (i : Int) = x := fun zs x hz => by rw [rdT_Lamp _ _ (by simpa using hz)]; simp
    simp only [laws_markLampS.l0, h1, h2, h4, if_true, Option.bind_some, Int.toNat_natCast, List.set_set, r0, wrap_id (n := (i : Int) + 1) (by omega) (by omega), wrap_id (n := c + 3 * (i : Int) + 1) (by omega) (by omega), wrap_id (n := c + 3 * (i : Int) + 2) (by omega) (by omega), wrap_id (n := c + 3 * (i : Int) + 3) (by omega) (by omega), show c + 3 * (i : Int) + 1 + 1 = c + 3 * (i : Int) + 2 by omega, show c + 3 * (i : Int) + 2 + 1 = c + 3 * (i : Int) + 3 by omega]
    rw [tmod_nn (by omega)]
    exact hr
  · refine Ev.succ ?_
    simp only [laws_markLampS.l0, hy, Int.lt_irrefl, if_false]
    exact Ev.now _
theorem laws_heldLampS_eq (n : Nat) (c : Int) (hl : n ≤ 1048576) (h0 : 0 ≤ c) (h9 : c ≤ 1000000000000000) : Ev (fun k => laws_heldLampS.f k (marksLamp n c) c) (c + 3 * n) := by
  unfold laws_heldLampS.f
  refine Ev.held (g := fun k c' i => laws_heldLampS.l0 k (marksLamp n c) c' i) 3 n c (fun i r h hr => ?_) (fun c' => ?_)
  · refine Ev.succ ?_
    have hn := marksLamp_length n c
    have h1 : (i : Int) < ((marksLamp n c).length : Int) := by omega
    have h2 : (0 : Int) ≤ (i : Int) := by omega
    have f0 : (rd_T112 (marksLamp n c) (i : Int)).f0 = c + 3 * (i : Int) := by rw [rdT_Lamp _ _ (by omega)]; simp [marksLamp, mkLamp]
    have f1 : (rd_T112 (marksLamp n c) (i : Int)).f1 = c + 3 * (i : Int) + 1 := by rw [rdT_Lamp _ _ (by omega)]; simp [marksLamp, mkLamp]
    have f2 : (rd_T112 (marksLamp n c) (i : Int)).f2 = ((c + 3 * (i : Int) + 2) % 3 == 0) := by rw [rdT_Lamp _ _ (by omega)]; simp [marksLamp, mkLamp]
    simp only [laws_heldLampS.l0, h1, h2, f0, f1, f2, if_true, wrap_id (n := (i : Int) + 1) (by omega) (by omega), wrap_id (n := c + 3 * (i : Int) + 1) (by omega) (by omega), wrap_id (n := c + 3 * (i : Int) + 2) (by omega) (by omega), wrap_id (n := c + 3 * (i : Int) + 3) (by omega) (by omega), show c + 3 * (i : Int) + 1 + 1 = c + 3 * (i : Int) + 2 by omega, show c + 3 * (i : Int) + 2 + 1 = c + 3 * (i : Int) + 3 by omega, tmod_nn (p := c + 3 * (i : Int) + 2) (q := 3) (by omega), bne_self_eq_false, Bool.false_eq_true, if_false]
    exact hr
  · refine Ev.succ ?_
    simp only [laws_heldLampS.l0, marksLamp_length, Int.lt_irrefl, if_false]
    exact Ev.now _
theorem map_step {α : Type} (f : α → α) (x : List α) (i : Nat) (h : i < x.length) : (x.set i (f x[i])).take (i + 1) ++ ((x.set i (f x[i])).drop (i + 1)).map f = x.take i ++ (x.drop i).map f := by
  have e : x.set i (f x[i]) = x.take i ++ f x[i] :: x.drop (i + 1) := by
    rw [List.set_eq_take_append_cons_drop, if_pos h]
  have el : (x.take i).length = i := by rw [List.length_take]; omega
  rw [e, List.drop_eq_getElem_cons h, List.map_cons]
  have e1 : (x.take i ++ f x[i] :: x.drop (i + 1)).take (i + 1) = x.take i ++ [f x[i]] := by
    rw [List.take_append, el, List.take_of_length_le (by omega), show i + 1 - i = 1 by omega]; simp
  have e2 : (x.take i ++ f x[i] :: x.drop (i + 1)).drop (i + 1) = x.drop (i + 1) := by
    rw [List.drop_append, el, List.drop_eq_nil_of_le (by omega), show i + 1 - i = 1 by omega]; simp
  rw [e1, e2]; simp
theorem map_keep {α : Type} (f : α → α) (x : List α) (i : Nat) (h : i < x.length) (hf : f x[i] = x[i]) : x.take (i + 1) ++ (x.drop (i + 1)).map f = x.take i ++ (x.drop i).map f := by
  have := map_step f x i h
  rwa [hf, List.set_getElem_self] at this
def mend (p c : Int) (a : S112) : S112 := if a.f0 = p ∧ a.f1 = c then ⟨a.f0, a.f1, false⟩ else a
theorem impl_MendLamp_eq (x : List S112) (p c : Int) (hx : x.length ≤ 1048576) : Ev (fun k => impl_MendLamp.f k x p c) (x.map (mend p c)) := by
  unfold impl_MendLamp.f
  simp only [impl_Lamp.f, show x.length < 5864062014805 by omega, if_true, Option.bind_some]
  have key : ∀ (d i : Nat) (y : List S112), y.length ≤ 1048576 → i + d = y.length → Ev (fun k => impl_MendLamp.l0 k p c y (y.length : Int) (i : Int)) (y.take i ++ (y.drop i).map (mend p c)) := by
    intro d
    induction d with
    | zero =>
      intro i y hy hi
      refine Ev.succ ?_
      simp only [impl_MendLamp.l0, show ¬ (i : Int) < (y.length : Int) by omega, if_false]
      refine evq (Ev.now _) ?_
      rw [List.drop_eq_nil_of_le (show y.length ≤ i by omega), List.take_of_length_le (show y.length ≤ i by omega)]; simp
    | succ d ih =>
      intro i y hy hi
      refine Ev.succ ?_
      simp only [impl_MendLamp.l0, show (i : Int) < (y.length : Int) by omega, show (0 : Int) ≤ (i : Int) by omega, if_true, rdT_Lamp _ _ (show i < y.length by omega), wrap_id (n := (i : Int) + 1) (by omega) (by omega), Int.toNat_natCast]
      have hi2 : i < y.length := by omega
      by_cases h1 : y[i].f0 = p
      · by_cases h2 : y[i].f1 = c
        · have hm : mend p c y[i] = ⟨y[i].f0, y[i].f1, false⟩ := by unfold mend; rw [if_pos ⟨h1, h2⟩]
          have := ih (i + 1) (y.set i (mend p c y[i])) (by rw [List.length_set]; omega) (by rw [List.length_set]; omega)
          rw [map_step _ _ _ hi2, List.length_set, hm, h1, h2] at this
          simp only [h1, h2, if_true]
          simpa using this
        · have hm : mend p c y[i] = y[i] := by unfold mend; rw [if_neg (fun h => h2 h.2)]
          have := ih (i + 1) y hy (by omega)
          rw [map_keep _ _ _ hi2 hm] at this
          simp only [h1, h2, if_true, if_false]
          simpa using this
      · have hm : mend p c y[i] = y[i] := by unfold mend; rw [if_neg (fun h => h1 h.1)]
        have := ih (i + 1) y hy (by omega)
        rw [map_keep _ _ _ hi2 hm] at this
        simp only [h1, if_false]
        simpa using this
  simpa using key x.length 0 x hx (by omega)
theorem spec_MendLamp_eq (x : List S112) (p c : Int) (hx : x.length ≤ 1048576) : Ev (fun k => spec_MendLamp.f k x p c) (x.map (mend p c)) := by
  unfold spec_MendLamp.f
  simp only [Option.bind_some, List.length_nil, show 0 + x.length < 5864062014805 by omega, if_true, List.nil_append]
  have key : ∀ (d i : Nat) (y : List S112), y.length ≤ 1048576 → i + d = y.length → Ev (fun k => spec_MendLamp.l0 k p c y (i : Int)) (y.take i ++ (y.drop i).map (mend p c)) := by
    intro d
    induction d with
    | zero =>
      intro i y hy hi
      refine Ev.succ ?_
      simp only [spec_MendLamp.l0, show ¬ (i : Int) < (y.length : Int) by omega, if_false]
      refine evq (Ev.now _) ?_
      rw [List.drop_eq_nil_of_le (show y.length ≤ i by omega), List.take_of_length_le (show y.length ≤ i by omega)]; simp
    | succ d ih =>
      intro i y hy hi
      refine Ev.succ ?_
      simp only [spec_MendLamp.l0, show (i : Int) < (y.length : Int) by omega, show (0 : Int) ≤ (i : Int) by omega, if_true, rdT_Lamp _ _ (show i < y.length by omega), wrap_id (n := (i : Int) + 1) (by omega) (by omega), Int.toNat_natCast]
      have hi2 : i < y.length := by omega
      by_cases h1 : y[i].f0 = p
      · by_cases h2 : y[i].f1 = c
        · have hm : mend p c y[i] = ⟨y[i].f0, y[i].f1, false⟩ := by unfold mend; rw [if_pos ⟨h1, h2⟩]
          have := ih (i + 1) (y.set i (mend p c y[i])) (by rw [List.length_set]; omega) (by rw [List.length_set]; omega)
          rw [map_step _ _ _ hi2, hm, h1, h2] at this
          simp only [h1, h2, if_true]
          simpa using this
        · have hm : mend p c y[i] = y[i] := by unfold mend; rw [if_neg (fun h => h2 h.2)]
          have := ih (i + 1) y hy (by omega)
          rw [map_keep _ _ _ hi2 hm] at this
          simp only [h1, h2, if_true, if_false]
          simpa using this
      · have hm : mend p c y[i] = y[i] := by unfold mend; rw [if_neg (fun h => h1 h.1)]
        have := ih (i + 1) y hy (by omega)
        rw [map_keep _ _ _ hi2 hm] at this
        simp only [h1, if_false]
        simpa using this
  simpa using key x.length 0 x hx (by omega)
theorem holds : ∀ (l0 : List S114) (a1 : Int) (a2 : Int), l0.length ≤ maxLen → (∀ x ∈ l0, wf114 x) → (Lit.int .i64 a1).wf = true → (Lit.int .i64 a2).wf = true → ∃ k, laws_FnExactMendLamp.f k l0 a1 a2 = some true := by
  intros
  apply Ev.rounds
  unfold laws_FnExactMendLamp.f
  repeat (first
    | exact Ev.now _
    | dsimp only
    | (refine Ev.ifp ?_ ?_; focus (first | rfl | omega | (simp; done)))
    | (refine Ev.ifn ?_ ?_; focus (first | omega | (simp; done)))
    | refine Ev.bindE (laws_eqLamp_self ..) ?_
    | refine Ev.bind (laws_eqLampS_self _ (by first | omega | (simp only [List.length_map, markInts_length]; omega) | (simp; omega))) ?_
    | refine Ev.bind (laws_heldLampS_eq _ _ (by first | omega | (simp only [List.length_map, markInts_length]; omega) | (simp; omega)) (by omega) (by first | omega | (simp only [List.length_map, markInts_length]; omega) | (simp; omega))) ?_
    | refine Ev.bind (laws_markLampS_eq _ _ (by first | omega | (simp only [List.length_map, markInts_length]; omega) | (simp; omega)) (by omega) (by first | omega | (simp only [List.length_map, markInts_length]; omega) | (simp; omega))) ?_
    | refine Ev.szb (laws_szLampS_eq _ _ (by assumption) (by omega) (by omega)) (fun _ => ?_) (fun _ => ?_)
    | refine Ev.bindE (laws_toLamp_eq ..) ?_
    | refine Ev.bind (laws_toLampS_eq _ (by first | omega | (simp only [List.length_map, markInts_length]; omega) | (simp; omega))) ?_
    | refine Ev.bind (spec_MendLamp_eq _ _ _ (by first | omega | (simp only [List.length_map, markInts_length]; omega) | (simp; omega))) ?_
    | refine Ev.bind (impl_MendLamp_eq _ _ _ (by first | omega | (simp only [List.length_map, markInts_length]; omega) | (simp; omega))) ?_
    | (refine Ev.succ (g := fun k => laws_FnExactMendLamp.j0 k _ _ _ _ _ _) ?_; simp only [laws_FnExactMendLamp.j0])
    | (refine Ev.ifd (fun _ => by exact Ev.now _) (fun _ => ?_)))
end Go.Proofs.Ytaokklehbkiahaa.Pure.FnExactMendLamp
