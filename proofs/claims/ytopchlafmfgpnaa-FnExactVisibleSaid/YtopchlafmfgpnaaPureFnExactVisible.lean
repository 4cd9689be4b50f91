/- The law FnExactVisible of the given program, as a statement over numbers and lists alone, for all arguments; no conditions but the machine's own bounds. -/
import Derived.Test.YtopchlafmfgpnaaPFnExactVisiblex
import Derived.Test.YtopchlafmfgpnaaBase
namespace Go.Proofs.Ytopchlafmfgpnaa.Pure.FnExactVisible
open Go.RowKit Go.Proofs.Ytopchlafmfgpnaa.PFnExactVisible Go.Proofs.YtopchlafmfgpnaaW.PrintWords Go.Proofs.YtopchlafmfgpnaaW.PrintLast Go.Proofs.Ytopchlafmfgpnaa.Bas
set_option linter.unusedVariables false
set_option linter.unusedSimpArgs false
def wf84 (x : S84) : Prop := (Lit.int .i64 x.f0).wf = true ∧ (Lit.int .i64 x.f1).wf = true ∧ (Lit.int .i64 x.f2).wf = true ∧ (Lit.int .i64 x.f3).wf = true
def wf86 (x : S86) : Prop := (Lit.int .i64 x.f0).wf = true ∧ (Lit.int .i64 x.f1).wf = true ∧ True
theorem laws_toIntS_eq (l : List Int) (hl : l.length ≤ 1048576) : Ev (fun k => laws_toIntS.f k l) l := by
  unfold laws_toIntS.f
  simp only [show (0 : Int) ≤ l.length by omega, Int.toNat_natCast, show l.length ≤ 35184372088832 by omega, if_true]
  have := Ev.copy (g := fun k ys i => laws_toIntS.l0 k l ys i) l id 0 (fun i ys r h hy hr => by
    refine Ev.succ ?_
    have h1 : (i : Int) < (l.length : Int) := by omega
    have h2 : (0 : Int) ≤ (i : Int) := by omega
    have h3 : (i : Int) < (ys.length : Int) := by omega
    simp only [laws_toIntS.l0, h1, h2, h3, if_true, rd_nat _ _ h, Int.toNat_natCast, wrap_id (n := (i : Int) + 1) (by omega) (by omega)]
    exact hr) (fun ys => by
    refine Ev.succ ?_
    simp only [laws_toIntS.l0, Int.lt_irrefl, if_false]
    exact Ev.now _)
  simpa using this
theorem laws_eqIntS_self (l : List Int) (hl : l.length ≤ 140737488355328) : Ev (fun k => laws_eqIntS.f k l l) true := by
  unfold laws_eqIntS.f
  simp only [if_true]
  have := Ev.all (g := fun k i => laws_eqIntS.l0 k l l i) l.length (fun _ => true) (fun i r h _ hr => by
    refine Ev.succ ?_
    have h1 : (i : Int) < (l.length : Int) := by omega
    have h2 : (0 : Int) ≤ (i : Int) := by omega
    simp only [laws_eqIntS.l0, h1, h2, if_true, wrap_id (n := (i : Int) + 1) (by omega) (by omega)]
    exact hr) (fun i h hf => by simp at hf) (by
    refine Ev.succ ?_
    simp only [laws_eqIntS.l0, Int.lt_irrefl, if_false]
    exact Ev.now _)
  exact evq this (by rw [List.all_eq_true]; intros; rfl)
theorem laws_markIntS_eq (l : List Int) (c : Int) (hl : l.length ≤ 140737488355328) (h0 : 0 ≤ c) (h9 : c ≤ 1000000000000000) : Ev (fun k => laws_markIntS.f k l c) (c + 1 * l.length, markInts l.length c) := by
  unfold laws_markIntS.f
  refine Ev.mark (g := fun k ys c i => laws_markIntS.l0 k ys c i) 1 (fun c => c) l c (fun i ys r h hy hr => ?_) (fun ys c' hy => ?_)
  · refine Ev.succ ?_
    have h1 : (i : Int) < (ys.length : Int) := by omega
    have h2 : (0 : Int) ≤ (i : Int) := by omega
    simp only [laws_markIntS.l0, h1, h2, if_true, Int.toNat_natCast, wrap_id (n := (i : Int) + 1) (by omega) (by omega), wrap_id (n := c + 1 * (i : Int) + 1) (by omega) (by omega)]
    exact hr
  · refine Ev.succ ?_
    simp only [laws_markIntS.l0, hy, Int.lt_irrefl, if_false]
    exact Ev.now _
theorem laws_heldIntS_eq (n : Nat) (c : Int) (hl : n ≤ 140737488355328) (h0 : 0 ≤ c) (h9 : c ≤ 1000000000000000) : Ev (fun k => laws_heldIntS.f k (markInts n c) c) (c + 1 * n) := by
  unfold laws_heldIntS.f
  refine Ev.held (g := fun k c' i => laws_heldIntS.l0 k (markInts n c) c' i) 1 n c (fun i r h hr => ?_) (fun c' => ?_)
  · refine Ev.succ ?_
    have hn := markInts_length n c
    have h1 : (i : Int) < ((markInts n c).length : Int) := by omega
    have h2 : (0 : Int) ≤ (i : Int) := by omega
    have h3 : rd (markInts n c) (i : Int) = c + 1 * (i : Int) := by rw [rd_nat _ _ (by omega)]; simp [markInts]
    simp only [laws_heldIntS.l0, h1, h2, h3, if_true, wrap_id (n := (i : Int) + 1) (by omega) (by omega), wrap_id (n := c + 1 * (i : Int) + 1) (by omega) (by omega)]
    exact hr
  · refine Ev.succ ?_
    simp only [laws_heldIntS.l0, markInts_length, Int.lt_irrefl, if_false]
    exact Ev.now _
theorem rdT_lawsPath (xs : List S84) (i : Nat) (h : i < xs.length) : rd_T84 xs (i : Int) = xs[i] := by simp [rd_T84, h]
theorem rdT_Path (xs : List S52) (i : Nat) (h : i < xs.length) : rd_T52 xs (i : Int) = xs[i] := by simp [rd_T52, h]
theorem laws_toPath_eq (a0 : Int) (a1 : Int) (a2 : Int) (a3 : Int) : laws_toPath.f a0 a1 a2 a3 = some (a0, a1, a2, a3) := rfl
theorem laws_eqPath_self (a0 : Int) (a1 : Int) (a2 : Int) (a3 : Int) : laws_eqPath.f a0 a1 a2 a3 a0 a1 a2 a3 = some true := by unfold laws_eqPath.f; simp
theorem laws_szPathS_eq (l : List S84) (a : Int) (hl : l.length ≤ maxLen) (h0 : 0 ≤ a) (h1 : a ≤ 1048576) : laws_szPathS.f l a = some (if (l.length : Int) ≤ a then a - l.length else -1) := by
  unfold maxLen at hl; unfold laws_szPathS.f; rw [wrap_id (by omega) (by omega)]; grind
def convPath (x : S84) : S52 := ⟨x.f0, x.f1, x.f2, x.f3⟩
theorem laws_toPathS_eq (l : List S84) (hl : l.length ≤ 1048576) : Ev (fun k => laws_toPathS.f k l) (l.map convPath) := by
  unfold laws_toPathS.f
  simp only [show (0 : Int) ≤ l.length by omega, Int.toNat_natCast, show l.length ≤ 8796093022208 by omega, if_true]
  exact Ev.copy (g := fun k ys i => laws_toPathS.l0 k l ys i) l convPath z52 (fun i ys r h hy hr => by
    refine Ev.succ ?_
    have h1 : (i : Int) < (l.length : Int) := by omega
    have h2 : (0 : Int) ≤ (i : Int) := by omega
    have h3 : (i : Int) < (ys.length : Int) := by omega
    simp only [laws_toPathS.l0, h1, h2, h3, if_true, rdT_lawsPath _ _ h, laws_toPath_eq, Option.bind_some, Int.toNat_natCast, wrap_id (n := (i : Int) + 1) (by omega) (by omega)]
    exact hr) (fun ys => by
    refine Ev.succ ?_
    simp only [laws_toPathS.l0, Int.lt_irrefl, if_false]
    exact Ev.now _)
theorem laws_eqPathS_self (l : List S52) (hl : l.length ≤ 1048576) : Ev (fun k => laws_eqPathS.f k l l) true := by
  unfold laws_eqPathS.f
  simp only [if_true]
  have := Ev.all (g := fun k i => laws_eqPathS.l0 k l l i) l.length (fun _ => true) (fun i r h _ hr => by
    refine Ev.succ ?_
    have h1 : (i : Int) < (l.length : Int) := by omega
    have h2 : (0 : Int) ≤ (i : Int) := by omega
    simp only [laws_eqPathS.l0, h1, h2, if_true, laws_eqPath_self, Option.bind_some, wrap_id (n := (i : Int) + 1) (by omega) (by omega)]
    exact hr) (fun i h hf => by simp at hf) (by
    refine Ev.succ ?_
    simp only [laws_eqPathS.l0, Int.lt_irrefl, if_false]
    exact Ev.now _)
  exact evq this (by rw [List.all_eq_true]; intros; rfl)
def mkPath (c : Int) : S52 := ⟨c, c + 1, c + 2, c + 3⟩
def marksPath (n : Nat) (c : Int) : List S52 := (List.range n).map fun (i : Nat) => mkPath (c + 4 * (i : Int))
theorem marksPath_length (n : Nat) (c : Int) : (marksPath n c).length = n := by simp [marksPath]
theorem laws_markPathS_eq (l : List S52) (c : Int) (hl : l.length ≤ 1048576) (h0 : 0 ≤ c) (h9 : c ≤ 1000000000000000) : Ev (fun k => laws_markPathS.f k l c) (c + 4 * l.length, marksPath l.length c) := by
  unfold laws_markPathS.f
  refine Ev.mark (g := fun k ys c i => laws_markPathS.l0 k ys c i) 4 mkPath l c (fun i ys r h hy hr => ?_) (fun ys c' hy => ?_)
  · refine Ev.succ ?_
    have h1 : (i : Int) < (ys.length : Int) := by omega
    have h2 : (0 : Int) ≤ (i : Int) := by omega
    have h4 : i < ys.length := by omega
    have r0 : ∀ (zs : List S52) (x : S52), i < zs.length → rd_T52 (zs.set i x) (i : Int) = x := fun zs x hz => by rw [rdT_Path _ _ (by simpa using hz)]; simp
    simp only [laws_markPathS.l0, h1, h2, h4, if_true, Option.bind_some, Int.toNat_natCast, List.set_set, r0, wrap_id (n := (i : Int) + 1) (by omega) (by omega), wrap_id (n := c + 4 * (i : Int) + 1) (by omega) (by omega), wrap_id (n := c + 4 * (i : Int) + 2) (by omega) (by omega), wrap_id (n := c + 4 * (i : Int) + 3) (by omega) (by omega), wrap_id (n := c + 4 * (i : Int) + 4) (by omega) (by omega), show c + 4 * (i : Int) + 1 + 1 = c + 4 * (i : Int) + 2 by omega, show c + 4 * (i : Int) + 2 + 1 = c + 4 * (i : Int) + 3 by omega, show c + 4 * (i : Int) + 3 + 1 = c + 4 * (i : Int) + 4 by omega]
    exact hr
  · refine Ev.succ ?_
    simp only [laws_markPathS.l0, hy, Int.lt_irrefl, if_false]
    exact Ev.now _
theorem rdT_lawsLamp (xs : List S86) (i : Nat) (h : i < xs.length) : rd_T86 xs (i : Int) = xs[i] := by simp [rd_T86, h]
theorem rdT_Lamp (xs : List S48) (i : Nat) (h : i < xs.length) : rd_T48 xs (i : Int) = xs[i] := by simp [rd_T48, h]
theorem laws_toLamp_eq (a0 : Int) (a1 : Int) (a2 : Bool) : laws_toLamp.f a0 a1 a2 = some (a0, a1, a2) := rfl
theorem laws_eqLamp_self (a0 : Int) (a1 : Int) (a2 : Bool) : laws_eqLamp.f a0 a1 a2 a0 a1 a2 = some true := by unfold laws_eqLamp.f; simp
theorem laws_szLampS_eq (l : List S86) (a : Int) (hl : l.length ≤ maxLen) (h0 : 0 ≤ a) (h1 : a ≤ 1048576) : laws_szLampS.f l a = some (if (l.length : Int) ≤ a then a - l.length else -1) := by
  unfold maxLen at hl; unfold laws_szLampS.f; rw [wrap_id (by omega) (by omega)]; grind
def convLamp (x : S86) : S48 := ⟨x.f0, x.f1, x.f2⟩
theorem laws_toLampS_eq (l : List S86) (hl : l.length ≤ 1048576) : Ev (fun k => laws_toLampS.f k l) (l.map convLamp) := by
  unfold laws_toLampS.f
  simp only [show (0 : Int) ≤ l.length by omega, Int.toNat_natCast, show l.length ≤ 11728124029610 by omega, if_true]
  exact Ev.copy (g := fun k ys i => laws_toLampS.l0 k l ys i) l convLamp z48 (fun i ys r h hy hr => by
    refine Ev.succ ?_
    have h1 : (i : Int) < (l.length : Int) := by omega
    have h2 : (0 : Int) ≤ (i : Int) := by omega
    have h3 : (i : Int) < (ys.length : Int) := by omega
    simp only [laws_toLampS.l0, h1, h2, h3, if_true, rdT_lawsLamp _ _ h, laws_toLamp_eq, Option.bind_some, Int.toNat_natCast, wrap_id (n := (i : Int) + 1) (by omega) (by omega)]
    exact hr) (fun ys => by
    refine Ev.succ ?_
    simp only [laws_toLampS.l0, Int.lt_irrefl, if_false]
    exact Ev.now _)
theorem laws_eqLampS_self (l : List S48) (hl : l.length ≤ 1048576) : Ev (fun k => laws_eqLampS.f k l l) true := by
  unfold laws_eqLampS.f
  simp only [if_true]
  have := Ev.all (g := fun k i => laws_eqLampS.l0 k l l i) l.length (fun _ => true) (fun i r h _ hr => by
    refine Ev.succ ?_
    have h1 : (i : Int) < (l.length : Int) := by omega
    have h2 : (0 : Int) ≤ (i : Int) := by omega
    simp only [laws_eqLampS.l0, h1, h2, if_true, laws_eqLamp_self, Option.bind_some, wrap_id (n := (i : Int) + 1) (by omega) (by omega)]
    exact hr) (fun i h hf => by simp at hf) (by
    refine Ev.succ ?_
    simp only [laws_eqLampS.l0, Int.lt_irrefl, if_false]
    exact Ev.now _)
  exact evq this (by rw [List.all_eq_true]; intros; rfl)
def mkLamp (c : Int) : S48 := ⟨c, c + 1, (c + 2) % 3 == 0⟩
def marksLamp (n : Nat) (c : Int) : List S48 := (List.range n).map fun (i : Nat) => mkLamp (c + 3 * (i : Int))
theorem marksLamp_length (n : Nat) (c : Int) : (marksLamp n c).length = n := by simp [marksLamp]
theorem laws_markLampS_eq (l : List S48) (c : Int) (hl : l.length ≤ 1048576) (h0 : 0 ≤ c) (h9 : c ≤ 1000000000000000) : Ev (fun k => laws_markLampS.f k l c) (c + 3 * l.length, marksLamp l.length c) := by
  unfold laws_markLampS.f
  refine Ev.mark (g := fun k ys c i => laws_markLampS.l0 k ys c i) 3 mkLamp l c (fun i ys r h hy hr => ?_) (fun ys c' hy => ?_)
  · refine Ev.succ ?_
    have h1 : (i : Int) < (ys.length : Int) := by omega
    have h2 : (0 : Int) ≤ (i : Int) := by omega
    have h4 : i < ys.length := by omega
    have r0 : ∀ (zs : List S48) (x : S48), i < zs.length → rd_T48 (zs.set i x) (i : Int) = x := fun zs x hz => by rw [rdT_Lamp _ _ (by simpa using hz)]; simp
    simp only [laws_markLampS.l0, h1, h2, h4, if_true, Option.bind_some, Int.toNat_natCast, List.set_set, r0, wrap_id (n := (i : Int) + 1) (by omega) (by omega), wrap_id (n := c + 3 * (i : Int) + 1) (by omega) (by omega), wrap_id (n := c + 3 * (i : Int) + 2) (by omega) (by omega), wrap_id (n := c + 3 * (i : Int) + 3) (by omega) (by omega), show c + 3 * (i : Int) + 1 + 1 = c + 3 * (i : Int) + 2 by omega, show c + 3 * (i : Int) + 2 + 1 = c + 3 * (i : Int) + 3 by omega]
    rw [tmod_nn (by omega)]
    exact hr
  · refine Ev.succ ?_
    simp only [laws_markLampS.l0, hy, Int.lt_irrefl, if_false]
    exact Ev.now _
def isBroken (l : List S48) (p c : Int) : Bool := l.any fun x => decide (x.f0 = p ∧ x.f1 = c ∧ x.f2 = true)
theorem spec_IsBroken_eq (l : List S48) (p c : Int) (hl : l.length ≤ 1048576) : Ev (fun k => spec_IsBroken.f k l p c) (isBroken l p c) := by
  unfold spec_IsBroken.f isBroken
  have key : ∀ (d i : Nat), i + d = l.length → Ev (fun k => spec_IsBroken.l0 k l p c (i : Int)) ((l.drop i).any fun x => decide (x.f0 = p ∧ x.f1 = c ∧ x.f2 = true)) := by
    intro d
    induction d with
    | zero =>
      intro i hi
      refine Ev.succ ?_
      simp only [spec_IsBroken.l0, show ¬ (i : Int) < (l.length : Int) by omega, if_false]
      exact evq (Ev.now _) (by simp [List.drop_eq_nil_of_le (show l.length ≤ i by omega)])
    | succ d ih =>
      intro i hi
      refine Ev.succ ?_
      have ihh := ih (i + 1) (by omega)
      rw [show ((i + 1 : Nat) : Int) = (i : Int) + 1 by omega] at ihh
      simp only [spec_IsBroken.l0, show (i : Int) < (l.length : Int) by omega, show (0 : Int) ≤ (i : Int) by omega, if_true, rdT_Lamp _ _ (show i < l.length by omega), wrap_id (n := (i : Int) + 1) (by omega) (by omega)]
      rw [List.drop_eq_getElem_cons (by omega), List.any_cons]
      by_cases h1 : l[i].f0 = p <;> by_cases h2 : l[i].f1 = c <;> by_cases h3 : l[i].f2 = true <;> simp [h1, h2, h3] <;> first | exact Ev.now _ | simpa using ihh
  simpa using key l.length 0 (by omega)
theorem impl_IsBroken_eq (l : List S48) (p c : Int) (hl : l.length ≤ 1048576) : Ev (fun k => impl_IsBroken.f k l p c) (isBroken l p c) := by
  unfold impl_IsBroken.f impl_Lamp_69.f impl_Lamp_102.f isBroken
  have key : ∀ (d i : Nat), i + d = l.length → ∃ n : Int, Ev (fun k => impl_Lamp_102.l0 k l (l.length : Int) (i : Int) p c true) n ∧ ((decide (n ≥ 0)) = (l.drop i).any fun x => decide (x.f0 = p ∧ x.f1 = c ∧ x.f2 = true)) := by
    intro d
    induction d with
    | zero =>
      intro i hi
      refine ⟨-1, Ev.succ ?_, ?_⟩
      · simp only [impl_Lamp_102.l0, show ¬ (i : Int) < (l.length : Int) by omega, if_false]
        exact Ev.now _
      · simp [List.drop_eq_nil_of_le (show l.length ≤ i by omega)]
    | succ d ih =>
      intro i hi
      obtain ⟨n, hn, he⟩ := ih (i + 1) (by omega)
      rw [show ((i + 1 : Nat) : Int) = (i : Int) + 1 by omega] at hn
      rw [List.drop_eq_getElem_cons (by omega), List.any_cons]
      by_cases hc : l[i].f0 = p ∧ l[i].f1 = c ∧ l[i].f2 = true
      · refine ⟨(i : Int), Ev.succ ?_, ?_⟩
        · have hc' : (p == l[i].f0 && (c == l[i].f1 && (true == l[i].f2))) = true := by grind
          simp only [impl_Lamp_102.l0, show (i : Int) < (l.length : Int) by omega, show (0 : Int) ≤ (i : Int) by omega, if_true, rdT_Lamp _ _ (show i < l.length by omega), hc']
          exact Ev.now _
        · simp [hc]
      · refine ⟨n, Ev.succ ?_, ?_⟩
        · have hc' : (p == l[i].f0 && (c == l[i].f1 && (true == l[i].f2))) = false := by grind
          simp only [impl_Lamp_102.l0, show (i : Int) < (l.length : Int) by omega, show (0 : Int) ≤ (i : Int) by omega, if_true, if_false, Bool.false_eq_true, rdT_Lamp _ _ (show i < l.length by omega), hc', wrap_id (n := (i : Int) + 1) (by omega) (by omega)]
          exact hn
        · rw [decide_eq_false hc, Bool.false_or]; exact he
  obtain ⟨n, hn, he⟩ := key l.length 0 (by omega)
  simp only [List.drop_zero] at he
  rw [← he]
  exact Ev.bind (Ev.bind (by simpa using hn) (Ev.now _)) (Ev.now _)
def isP (p : S52) : Bool := isPath p.f0 p.f1 p.f2 p.f3
def okAt (l : List S52) (i : Nat) : Bool := isP (rd_T52 l (i : Int)) && (decide (i = 0) || decide ((rd_T52 l ((i : Int) - 1)).f0 < (rd_T52 l (i : Int)).f0))
def arePaths (l : List S52) : Bool := (List.range l.length).all (okAt l) && decide (l.length ≤ 12)
theorem arePaths_len {l : List S52} (h : arePaths l = true) : l.length ≤ 12 := by simp [arePaths] at h; exact h.2
theorem arePaths_at {l : List S52} (h : arePaths l = true) (i : Nat) (hi : i < l.length) : isP l[i] = true := by
  simp only [arePaths, Bool.and_eq_true, List.all_eq_true, List.mem_range] at h
  have := h.1 i hi
  simp only [okAt, Bool.and_eq_true, rdT_Path _ _ hi] at this
  exact this.1
theorem arePaths_asc {l : List S52} (h : arePaths l = true) (i : Nat) (hi : i + 1 < l.length) : (l[i]'(by omega)).f0 < l[i + 1].f0 := by
  simp only [arePaths, Bool.and_eq_true, List.all_eq_true, List.mem_range] at h
  have := h.1 (i + 1) hi
  simp only [okAt, Bool.and_eq_true, rdT_Path _ _ hi] at this
  rw [show ((i + 1 : Nat) : Int) - 1 = (i : Int) by omega, rdT_Path _ _ (by omega)] at this
  simpa using this.2
def findP (l : List S52) (id : Int) : Int := Go.Proofs.Ytopchlafmfgpnaa.Hnd.fidx (fun x : S52 => x.f0 == id) l 0
theorem findP_lo (l : List S52) (id : Int) : -1 ≤ findP l id := fidx_lo _ _
theorem findP_hi (l : List S52) (id : Int) : findP l id < l.length := fidx_hi _ _
theorem findP_at {l : List S52} {id : Int} (h : 0 ≤ findP l id) : ∃ (i : Nat) (hi : i < l.length), findP l id = (i : Int) ∧ l[i].f0 = id := by
  rcases fidx_cases (fun x : S52 => x.f0 == id) l 0 with ⟨h1, _⟩ | ⟨i, h1, h2, h3, _⟩
  · unfold findP at h; omega
  · exact ⟨i, h2, by unfold findP; omega, by simpa using h3⟩
theorem findP_none {l : List S52} {id : Int} (h : findP l id < 0) : ∀ x ∈ l, x.f0 ≠ id := by
  rcases fidx_cases (fun x : S52 => x.f0 == id) l 0 with ⟨_, h2⟩ | ⟨i, h1, _⟩
  · intro x hx; simpa using h2 x hx
  · unfold findP at h; omega
def seen (l : List S52) (x : List S48) (v : List Int) (i : Nat) : Int := if (rd v (i : Int) = 0 ∨ rd v (i : Int) = 1) ∧ isBroken x (rd_T52 l (i : Int)).f0 (rd v (i : Int)) = true then -1 else rd v (i : Int)
def visible (l : List S52) (x : List S48) (v : List Int) : List Int := if v.length = l.length then (List.range l.length).map (seen l x v) else []
theorem visible_le (l : List S52) (x : List S48) (v : List Int) : (visible l x v).length ≤ l.length := by unfold visible; split <;> simp
theorem impl_Visible_eq (l : List S52) (x : List S48) (v : List Int) (hl : l.length ≤ 1048576) (hx : x.length ≤ 1048576) : Ev (fun k => impl_Visible.f k l x v) (visible l x v) := by
  unfold impl_Visible.f visible
  simp only [Option.bind_some]
  by_cases hv : v.length = l.length
  · simp only [show (v.length : Int) = (l.length : Int) by omega, hv, if_true]
    have key : ∀ (d i : Nat), i + d = l.length → Ev (fun k => impl_Visible.l0 k x v ((List.range i).map (seen l x v)) l (l.length : Int) (i : Int)) ((List.range l.length).map (seen l x v)) := by
      intro d
      induction d with
      | zero =>
        intro i hi
        refine Ev.succ ?_
        simp only [impl_Visible.l0, show ¬ (i : Int) < (l.length : Int) by omega, if_false]
        exact evq (Ev.now _) (by rw [show i = l.length by omega])
      | succ d ih =>
        intro i hi
        refine Ev.succ ?_
        have ihh := ih (i + 1) (by omega)
        rw [show ((i + 1 : Nat) : Int) = (i : Int) + 1 by omega, List.range_succ, List.map_append] at ihh
        simp only [List.map_cons, List.map_nil, seen] at ihh
        simp only [impl_Visible.l0, show (i : Int) < (l.length : Int) by omega, show (i : Int) < (v.length : Int) by omega, show (0 : Int) ≤ (i : Int) by omega, if_true, List.length_map, List.length_range, show i < 17592186044416 by omega, wrap_id (n := (i : Int) + 1) (by omega) (by omega)]
        by_cases h0 : rd v (i : Int) = 0
        · simp only [h0, if_true] at ihh ⊢
          refine Ev.bind (impl_IsBroken_eq _ _ _ hx) ?_
          cases hb : isBroken x (rd_T52 l (i : Int)).f0 0 <;> simp [hb] at ihh ⊢ <;> exact ihh
        · by_cases h1 : rd v (i : Int) = 1
          · simp only [h1, if_true, show ¬ ((1 : Int) = 0) by omega, if_false] at ihh ⊢
            refine Ev.bind (impl_IsBroken_eq _ _ _ hx) ?_
            cases hb : isBroken x (rd_T52 l (i : Int)).f0 1 <;> simp [hb] at ihh ⊢ <;> exact ihh
          · simp only [h0, h1, if_false, false_or, or_self, false_and] at ihh ⊢; exact ihh
    exact key l.length 0 (by omega)
  · simp only [show ¬ (v.length : Int) = (l.length : Int) by omega, hv, if_false]; exact Ev.now _
theorem spec_Visible_eq (l : List S52) (x : List S48) (v : List Int) (hl : l.length ≤ 1048576) (hx : x.length ≤ 1048576) : Ev (fun k => spec_Visible.f k l x v) (visible l x v) := by
  unfold spec_Visible.f visible
  have jf : ∀ (ys : List Int) (i : Int), Ev (fun k => spec_Visible.j1 k l x v ys i false) ys := by
    intro m i
    refine Ev.succ ?_
    simp only [spec_Visible.j1, Bool.false_eq_true, if_false]; exact Ev.now _
  by_cases hv : v.length = l.length
  · have e2 : ((v.length : Int) == (l.length : Int)) = true := by simp [hv]
    simp only [hv, if_true]
    have key : ∀ (d i : Nat), i + d = l.length → Ev (fun k => spec_Visible.l0 k l x v ((List.range i).map (seen l x v)) (i : Int)) ((List.range l.length).map (seen l x v)) := by
      intro d
      induction d with
      | zero =>
        intro i hi
        refine Ev.succ ?_
        simp only [spec_Visible.l0, show ¬ (i : Int) < (l.length : Int) by omega, if_false]
        exact evq (jf _ _) (by rw [show i = l.length by omega])
      | succ d ih =>
        intro i hi
        refine Ev.succ ?_
        have ihh := ih (i + 1) (by omega)
        rw [show ((i + 1 : Nat) : Int) = (i : Int) + 1 by omega, List.range_succ, List.map_append] at ihh
        simp only [List.map_cons, List.map_nil, seen] at ihh
        simp only [spec_Visible.l0, show (i : Int) < (l.length : Int) by omega, if_true, e2]
        refine Ev.succ ?_
        simp only [spec_Visible.j1, show (i : Int) < (l.length : Int) by omega, show (i : Int) < (v.length : Int) by omega, show (0 : Int) ≤ (i : Int) by omega, if_true, List.length_map, List.length_range, show i < 17592186044416 by omega, wrap_id (n := (i : Int) + 1) (by omega) (by omega)]
        by_cases h0 : rd v (i : Int) = 0
        · simp only [h0, if_true] at ihh ⊢
          refine Ev.bind (spec_IsBroken_eq _ _ _ hx) ?_
          cases hb : isBroken x (rd_T52 l (i : Int)).f0 0 <;> simp [hb] at ihh ⊢ <;> exact ihh
        · by_cases h1 : rd v (i : Int) = 1
          · simp only [h1, if_true, show ¬ ((1 : Int) = 0) by omega, if_false] at ihh ⊢
            refine Ev.bind (spec_IsBroken_eq _ _ _ hx) ?_
            cases hb : isBroken x (rd_T52 l (i : Int)).f0 1 <;> simp [hb] at ihh ⊢ <;> exact ihh
          · simp only [h0, h1, if_false, false_or, or_self, false_and] at ihh ⊢; exact ihh
    exact key l.length 0 (by omega)
  · have e2 : ((v.length : Int) == (l.length : Int)) = false := by simp; omega
    simp only [hv, if_false]
    refine Ev.succ ?_
    by_cases h0 : (0 : Int) < (l.length : Int)
    · simp only [spec_Visible.l0, h0, if_true, e2]; exact jf _ _
    · simp only [spec_Visible.l0, h0, if_false]; exact jf _ _
theorem holds : ∀ (l0 : List S84) (l1 : List S86) (l2 : List Int), l0.length ≤ maxLen → (∀ x ∈ l0, wf84 x) → l1.length ≤ maxLen → (∀ x ∈ l1, wf86 x) → l2.length ≤ maxLen → (∀ x ∈ l2, (Lit.int .i64 x).wf = true) → ∃ k, laws_FnExactVisible.f k l0 l1 l2 = some true := by
  intros
  apply Ev.rounds
  unfold laws_FnExactVisible.f
  repeat (first
    | exact Ev.now _
    | dsimp only
    | (refine Ev.ifp ?_ ?_; focus (first | rfl | omega | (simp; done)))
    | (refine Ev.ifn ?_ ?_; focus (first | omega | (simp; done)))
    | refine Ev.bind (laws_eqIntS_self _ (by first | omega | (simp only [List.length_map, markInts_length]; omega) | (exact Nat.le_trans (visible_le _ _ _) (by simp; omega)) | (simp; omega))) ?_
    | refine Ev.bindE (laws_eqLamp_self ..) ?_
    | refine Ev.bind (laws_eqLampS_self _ (by first | omega | (simp only [List.length_map, markInts_length]; omega) | (exact Nat.le_trans (visible_le _ _ _) (by simp; omega)) | (simp; omega))) ?_
    | refine Ev.bindE (laws_eqPath_self ..) ?_
    | refine Ev.bind (laws_eqPathS_self _ (by first | omega | (simp only [List.length_map, markInts_length]; omega) | (exact Nat.le_trans (visible_le _ _ _) (by simp; omega)) | (simp; omega))) ?_
    | refine Ev.bind (laws_heldIntS_eq _ _ (by first | omega | (simp only [List.length_map, markInts_length]; omega) | (exact Nat.le_trans (visible_le _ _ _) (by simp; omega)) | (simp; omega)) (by omega) (by first | omega | (simp only [List.length_map, markInts_length]; omega) | (exact Nat.le_trans (visible_le _ _ _) (by simp; omega)) | (simp; omega))) ?_
    | refine Ev.bind (laws_markIntS_eq _ _ (by first | omega | (simp only [List.length_map, markInts_length]; omega) | (exact Nat.le_trans (visible_le _ _ _) (by simp; omega)) | (simp; omega)) (by omega) (by first | omega | (simp only [List.length_map, markInts_length]; omega) | (exact Nat.le_trans (visible_le _ _ _) (by simp; omega)) | (simp; omega))) ?_
    | refine Ev.bind (laws_markLampS_eq _ _ (by first | omega | (simp only [List.length_map, markInts_length]; omega) | (exact Nat.le_trans (visible_le _ _ _) (by simp; omega)) | (simp; omega)) (by omega) (by first | omega | (simp only [List.length_map, markInts_length]; omega) | (exact Nat.le_trans (visible_le _ _ _) (by simp; omega)) | (simp; omega))) ?_
    | refine Ev.bind (laws_markPathS_eq _ _ (by first | omega | (simp only [List.length_map, markInts_length]; omega) | (exact Nat.le_trans (visible_le _ _ _) (by simp; omega)) | (simp; omega)) (by omega) (by first | omega | (simp only [List.length_map, markInts_length]; omega) | (exact Nat.le_trans (visible_le _ _ _) (by simp; omega)) | (simp; omega))) ?_
    | refine Ev.szb (laws_szLampS_eq _ _ (by assumption) (by omega) (by omega)) (fun _ => ?_) (fun _ => ?_)
    | refine Ev.szb (laws_szPathS_eq _ _ (by assumption) (by omega) (by omega)) (fun _ => ?_) (fun _ => ?_)
    | refine Ev.bind (laws_toIntS_eq _ (by first | omega | (simp only [List.length_map, markInts_length]; omega) | (exact Nat.le_trans (visible_le _ _ _) (by simp; omega)) | (simp; omega))) ?_
    | refine Ev.bindE (laws_toLamp_eq ..) ?_
    | refine Ev.bind (laws_toLampS_eq _ (by first | omega | (simp only [List.length_map, markInts_length]; omega) | (exact Nat.le_trans (visible_le _ _ _) (by simp; omega)) | (simp; omega))) ?_
    | refine Ev.bindE (laws_toPath_eq ..) ?_
    | refine Ev.bind (laws_toPathS_eq _ (by first | omega | (simp only [List.length_map, markInts_length]; omega) | (exact Nat.le_trans (visible_le _ _ _) (by simp; omega)) | (simp; omega))) ?_
    | refine Ev.bind (spec_Visible_eq _ _ _ (by first | omega | (simp only [List.length_map, markInts_length]; omega) | (exact Nat.le_trans (visible_le _ _ _) (by simp; omega)) | (simp; omega)) (by first | omega | (simp only [List.length_map, markInts_length]; omega) | (exact Nat.le_trans (visible_le _ _ _) (by simp; omega)) | (simp; omega))) ?_
    | refine Ev.bind (impl_Visible_eq _ _ _ (by first | omega | (simp only [List.length_map, markInts_length]; omega) | (exact Nat.le_trans (visible_le _ _ _) (by simp; omega)) | (simp; omega)) (by first | omega | (simp only [List.length_map, markInts_length]; omega) | (exact Nat.le_trans (visible_le _ _ _) (by simp; omega)) | (simp; omega))) ?_
    | (refine Ev.succ (g := fun k => laws_FnExactVisible.j0 k _ _ _ _ _ _) ?_; simp only [laws_FnExactVisible.j0])
    | (refine Ev.ifd (fun _ => by exact Ev.now _) (fun _ => ?_)))
end Go.Proofs.Ytopchlafmfgpnaa.Pure.FnExactVisible
