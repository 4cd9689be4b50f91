/- The law FnExactCutFor of the given program, as a statement over numbers and lists alone, for all arguments; no conditions but the machine's own bounds. -/
import Derived.Test.YtopchlafmfgpnaaPFnExactCutForx
import Derived.Test.YtopchlafmfgpnaaBase
namespace Go.Proofs.Ytopchlafmfgpnaa.Pure.FnExactCutFor
open Go.RowKit Go.Proofs.Ytopchlafmfgpnaa.PFnExactCutFor Go.Proofs.YtopchlafmfgpnaaW.PrintWords Go.Proofs.YtopchlafmfgpnaaW.PrintLast Go.Proofs.Ytopchlafmfgpnaa.Bas
set_option linter.unusedVariables false
set_option linter.unusedSimpArgs false
def wf84 (x : S84) : Prop := (Lit.int .i64 x.f0).wf = true ∧ (Lit.int .i64 x.f1).wf = true ∧ (Lit.int .i64 x.f2).wf = true ∧ (Lit.int .i64 x.f3).wf = true
theorem spec_l1In_eq (a lo hi : Int) : spec_l1In.f a lo hi = some (decide (lo ≤ a ∧ a ≤ hi)) := by
 unfold spec_l1In.f; grind
theorem impl_InRange_eq (a lo hi : Int) : impl_InRange.f a lo hi = some (decide (lo ≤ a ∧ a ≤ hi)) := by
 unfold impl_InRange.f; grind
theorem laws_szIntS_eq (l : List Int) (a : Int) (hl : l.length ≤ maxLen) (h0 : 0 ≤ a) (h1 : a ≤ 1048576) : laws_szIntS.f l a = some (if (l.length : Int) ≤ a then a - l.length else -1) := by
 unfold maxLen at hl; unfold laws_szIntS.f; rw [wrap_id (by omega) (by omega)]; grind
theorem laws_toIntS_eq (l : List Int) (hl : l.length ≤ 1048576) : Ev (fun k => laws_toIntS.f k l) l := by
 unfold laws_toIntS.f
 simp only [show (0 : Int) ≤ l.length by omega, Int.toNat_natCast, show l.length ≤ 35184372088832 by omega, if_true]
 have := Ev.copy (g := fun k ys i => laws_toIntS.l0 k l ys i) l id 0 (fun i ys r h hy hr => by
  refine Ev.succ ?_
  have h1 : (i : Int) < (l.length : Int) := by omega
  have h2 : (0 : Int) ≤ (i : Int) := by omega
  have h3 : (i : Int) < (ys.length : Int) := by omega
  simp only [laws_toIntS.l0, h1, h2, h3, if_true, rd_nat _ _ h, Int.toNat_natCast, wrap_id (n := (i : Int) + 1) (by omega) (by omega)]
  exact hr) (fun ys => by
  refine Ev.succ ?_
  simp only [laws_toIntS.l0, Int.lt_irrefl, if_false]
  exact Ev.now _)
 simpa using this
theorem laws_eqIntS_self (l : List Int) (hl : l.length ≤ 140737488355328) : Ev (fun k => laws_eqIntS.f k l l) true := by
 unfold laws_eqIntS.f
 simp only [if_true]
 have := Ev.all (g := fun k i => laws_eqIntS.l0 k l l i) l.length (fun _ => true) (fun i r h _ hr => by
  refine Ev.succ ?_
  have h1 : (i : Int) < (l.length : Int) := by omega
  have h2 : (0 : Int) ≤ (i : Int) := by omega
  simp only [laws_eqIntS.l0, h1, h2, if_true, wrap_id (n := (i : Int) + 1) (by omega) (by omega)]
  exact hr) (fun i h hf => by simp at hf) (by
  refine Ev.succ ?_
  simp only [laws_eqIntS.l0, Int.lt_irrefl, if_false]
  exact Ev.now _)
 exact evq this (by rw [List.all_eq_true]; intros; rfl)
theorem laws_markIntS_eq (l : List Int) (c : Int) (hl : l.length ≤ 140737488355328) (h0 : 0 ≤ c) (h9 : c ≤ 1000000000000000) : Ev (fun k => laws_markIntS.f k l c) (c + 1 * l.length, markInts l.length c) := by
 unfold laws_markIntS.f
 refine Ev.mark (g := fun k ys c i => laws_markIntS.l0 k ys c i) 1 (fun c => c) l c (fun i ys r h hy hr => ?_) (fun ys c' hy => ?_)
 ·refine Ev.succ ?_
  have h1 : (i : Int) < (ys.length : Int) := by omega
  have h2 : (0 : Int) ≤ (i : Int) := by omega
  simp only [laws_markIntS.l0, h1, h2, if_true, Int.toNat_natCast, wrap_id (n := (i : Int) + 1) (by omega) (by omega), wrap_id (n := c + 1 * (i : Int) + 1) (by omega) (by omega)]
  exact hr
 ·refine Ev.succ ?_
  simp only [laws_markIntS.l0, hy, Int.lt_irrefl, if_false]
  exact Ev.now _
theorem laws_heldIntS_eq (n : Nat) (c : Int) (hl : n ≤ 140737488355328) (h0 : 0 ≤ c) (h9 : c ≤ 1000000000000000) : Ev (fun k => laws_heldIntS.f k (markInts n c) c) (c + 1 * n) := by
 unfold laws_heldIntS.f
 refine Ev.held (g := fun k c' i => laws_heldIntS.l0 k (markInts n c) c' i) 1 n c (fun i r h hr => ?_) (fun c' => ?_)
 ·refine Ev.succ ?_
  have hn := markInts_length n c
  have h1 : (i : Int) < ((markInts n c).length : Int) := by omega
  have h2 : (0 : Int) ≤ (i : Int) := by omega
  have h3 : rd (markInts n c) (i : Int) = c + 1 * (i : Int) := by rw [rd_nat _ _ (by omega)]; simp [markInts]
  simp only [laws_heldIntS.l0, h1, h2, h3, if_true, wrap_id (n := (i : Int) + 1) (by omega) (by omega), wrap_id (n := c + 1 * (i : Int) + 1) (by omega) (by omega)]
  exact hr
 ·refine Ev.succ ?_
  simp only [laws_heldIntS.l0, markInts_length, Int.lt_irrefl, if_false]
  exact Ev.now _
theorem rdT_lawsPath (xs : List S84) (i : Nat) (h : i < xs.length) : rd_T84 xs (i : Int) = xs[i] := by simp [rd_T84, h]
theorem rdT_Path (xs : List S52) (i : Nat) (h : i < xs.length) : rd_T52 xs (i : Int) = xs[i] := by simp [rd_T52, h]
theorem laws_toPath_eq (a0 : Int) (a1 : Int) (a2 : Int) (a3 : Int) : laws_toPath.f a0 a1 a2 a3 = some (a0, a1, a2, a3) := rfl
theorem laws_eqPath_self (a0 : Int) (a1 : Int) (a2 : Int) (a3 : Int) : laws_eqPath.f a0 a1 a2 a3 a0 a1 a2 a3 = some true := by unfold laws_eqPath.f; simp
theorem laws_szPathS_eq (l : List S84) (a : Int) (hl : l.length ≤ maxLen) (h0 : 0 ≤ a) (h1 : a ≤ 1048576) : laws_szPathS.f l a = some (if (l.length : Int) ≤ a then a - l.length else -1) := by
 unfold maxLen at hl; unfold laws_szPathS.f; rw [wrap_id (by omega) (by omega)]; grind
def convPath (x : S84) : S52 := ⟨x.f0, x.f1, x.f2, x.f3⟩
theorem laws_toPathS_eq (l : List S84) (hl : l.length ≤ 1048576) : Ev (fun k => laws_toPathS.f k l) (l.map convPath) := by
 unfold laws_toPathS.f
 simp only [show (0 : Int) ≤ l.length by omega, Int.toNat_natCast, show l.length ≤ 8796093022208 by omega, if_true]
 exact Ev.copy (g := fun k ys i => laws_toPathS.l0 k l ys i) l convPath z52 (fun i ys r h hy hr => by
  refine Ev.succ ?_
  have h1 : (i : Int) < (l.length : Int) := by omega
  have h2 : (0 : Int) ≤ (i : Int) := by omega
  have h3 : (i : Int) < (ys.length : Int) := by omega
  simp only [laws_toPathS.l0, h1, h2, h3, if_true, rdT_lawsPath _ _ h, laws_toPath_eq, Option.bind_some, Int.toNat_natCast, wrap_id (n := (i : Int) + 1) (by omega) (by omega)]
  exact hr) (fun ys => by
  refine Ev.succ ?_
  simp only [laws_toPathS.l0, Int.lt_irrefl, if_false]
  exact Ev.now _)
theorem laws_eqPathS_self (l : List S52) (hl : l.length ≤ 1048576) : Ev (fun k => laws_eqPathS.f k l l) true := by
 unfold laws_eqPathS.f
 simp only [if_true]
 have := Ev.all (g := fun k i => laws_eqPathS.l0 k l l i) l.length (fun _ => true) (fun i r h _ hr => by
  refine Ev.succ ?_
  have h1 : (i : Int) < (l.length : Int) := by omega
  have h2 : (0 : Int) ≤ (i : Int) := by omega
  simp only [laws_eqPathS.l0, h1, h2, if_true, laws_eqPath_self, Option.bind_some, wrap_id (n := (i : Int) + 1) (by omega) (by omega)]
  exact hr) (fun i h hf => by simp at hf) (by
  refine Ev.succ ?_
  simp only [laws_eqPathS.l0, Int.lt_irrefl, if_false]
  exact Ev.now _)
 exact evq this (by rw [List.all_eq_true]; intros; rfl)
def mkPath (c : Int) : S52 := ⟨c, c + 1, c + 2, c + 3⟩
def marksPath (n : Nat) (c : Int) : List S52 := (List.range n).map fun (i : Nat) => mkPath (c + 4 * (i : Int))
theorem marksPath_length (n : Nat) (c : Int) : (marksPath n c).length = n := by simp [marksPath]
theorem laws_markPathS_eq (l : List S52) (c : Int) (hl : l.length ≤ 1048576) (h0 : 0 ≤ c) (h9 : c ≤ 1000000000000000) : Ev (fun k => laws_markPathS.f k l c) (c + 4 * l.length, marksPath l.length c) := by
 unfold laws_markPathS.f
 refine Ev.mark (g := fun k ys c i => laws_markPathS.l0 k ys c i) 4 mkPath l c (fun i ys r h hy hr => ?_) (fun ys c' hy => ?_)
 ·refine Ev.succ ?_
  have h1 : (i : Int) < (ys.length : Int) := by omega
  have h2 : (0 : Int) ≤ (i : Int) := by omega
  have h4 : i < ys.length := by omega
  have r0 : ∀ (zs : List S52) (x : S52), i < zs.length → rd_T52 (zs.set i x) (i : Int) = x := fun zs x hz => by rw [rdT_Path _ _ (by simpa using hz)]; simp
  simp only [laws_markPathS.l0, h1, h2, h4, if_true, Option.bind_some, Int.toNat_natCast, List.set_set, r0, wrap_id (n := (i : Int) + 1) (by omega) (by omega), wrap_id (n := c + 4 * (i : Int) + 1) (by omega) (by omega), wrap_id (n := c + 4 * (i : Int) + 2) (by omega) (by omega), wrap_id (n := c + 4 * (i : Int) + 3) (by omega) (by omega), wrap_id (n := c + 4 * (i : Int) + 4) (by omega) (by omega), show c + 4 * (i : Int) + 1 + 1 = c + 4 * (i : Int) + 2 by omega, show c + 4 * (i : Int) + 2 + 1 = c + 4 * (i : Int) + 3 by omega, show c + 4 * (i : Int) + 3 + 1 = c + 4 * (i : Int) + 4 by omega]
  exact hr
 ·refine Ev.succ ?_
  simp only [laws_markPathS.l0, hy, Int.lt_irrefl, if_false]
  exact Ev.now _
theorem impl_IsPath_eq (a b c d : Int) : impl_IsPath.f a b c d = some (isPath a b c d) := by
 unfold impl_IsPath.f isPath
 simp only [impl_InRange_eq, Option.bind_some]; grind
theorem spec_IsPath_eq (a b c d : Int) : spec_IsPath.f a b c d = some (isPath a b c d) := by
 unfold spec_IsPath.f isPath
 simp only [spec_l1In_eq, Option.bind_some]; grind
def isP (p : S52) : Bool := isPath p.f0 p.f1 p.f2 p.f3
def okAt (l : List S52) (i : Nat) : Bool := isP (rd_T52 l (i : Int)) && (decide (i = 0) || decide ((rd_T52 l ((i : Int) - 1)).f0 < (rd_T52 l (i : Int)).f0))
def arePaths (l : List S52) : Bool := (List.range l.length).all (okAt l) && decide (l.length ≤ 12)
theorem arePaths_len {l : List S52} (h : arePaths l = true) : l.length ≤ 12 := by simp [arePaths] at h; exact h.2
theorem arePaths_at {l : List S52} (h : arePaths l = true) (i : Nat) (hi : i < l.length) : isP l[i] = true := by
 simp only [arePaths, Bool.and_eq_true, List.all_eq_true, List.mem_range] at h
 have := h.1 i hi
 simp only [okAt, Bool.and_eq_true, rdT_Path _ _ hi] at this
 exact this.1
theorem arePaths_asc {l : List S52} (h : arePaths l = true) (i : Nat) (hi : i + 1 < l.length) : (l[i]'(by omega)).f0 < l[i + 1].f0 := by
 simp only [arePaths, Bool.and_eq_true, List.all_eq_true, List.mem_range] at h
 have := h.1 (i + 1) hi
 simp only [okAt, Bool.and_eq_true, rdT_Path _ _ hi] at this
 rw [show ((i + 1 : Nat) : Int) - 1 = (i : Int) by omega, rdT_Path _ _ (by omega)] at this
 simpa using this.2
def findP (l : List S52) (id : Int) : Int := Go.Proofs.Ytopchlafmfgpnaa.Hnd.fidx (fun x : S52 => x.f0 == id) l 0
theorem findP_lo (l : List S52) (id : Int) : -1 ≤ findP l id := fidx_lo _ _
theorem findP_hi (l : List S52) (id : Int) : findP l id < l.length := fidx_hi _ _
theorem findP_at {l : List S52} {id : Int} (h : 0 ≤ findP l id) : ∃ (i : Nat) (hi : i < l.length), findP l id = (i : Int) ∧ l[i].f0 = id := by
 rcases fidx_cases (fun x : S52 => x.f0 == id) l 0 with ⟨h1, _⟩ | ⟨i, h1, h2, h3, _⟩
 ·unfold findP at h; omega
 ·exact ⟨i, h2, by unfold findP; omega, by simpa using h3⟩
theorem findP_none {l : List S52} {id : Int} (h : findP l id < 0) : ∀ x ∈ l, x.f0 ≠ id := by
 rcases fidx_cases (fun x : S52 => x.f0 == id) l 0 with ⟨_, h2⟩ | ⟨i, h1, _⟩
 ·intro x hx; simpa using h2 x hx
 ·unfold findP at h; omega
theorem spec_ArePaths_eq (l : List S52) (hl : l.length ≤ 1048576) : Ev (fun k => spec_ArePaths.f k l) (arePaths l) := by
 unfold spec_ArePaths.f arePaths
 refine evAnd (g := fun k i => spec_ArePaths.l0 k l i) (fun i r h hP hr => ?_) (fun i h hP => ?_) ?_
 ·refine Ev.succ ?_
  unfold okAt isP at hP
  rw [Bool.and_eq_true] at hP
  simp only [spec_ArePaths.l0, show (i : Int) < (l.length : Int) by omega, show (0 : Int) ≤ (i : Int) by omega, if_true, spec_IsPath_eq, Option.bind_some, hP.1, wrap_id (n := (i : Int) + 1) (by omega) (by omega)]
  by_cases h0 : i = 0
  ·subst h0; simpa using hr
  ·have h2 := hP.2
   rw [decide_eq_false h0, Bool.false_or, decide_eq_true_eq] at h2
   simp only [show (i : Int) > 0 by omega, if_true, wrap_id (n := (i : Int) - 1) (by omega) (by omega), show (0 : Int) ≤ (i : Int) - 1 by omega, show (i : Int) - 1 < (l.length : Int) by omega, show ¬ (rd_T52 l ((i : Int) - 1)).f0 ≥ (rd_T52 l (i : Int)).f0 by omega, if_false]
   exact hr
 ·refine Ev.succ ?_
  unfold okAt isP at hP
  simp only [spec_ArePaths.l0, show (i : Int) < (l.length : Int) by omega, show (0 : Int) ≤ (i : Int) by omega, if_true, spec_IsPath_eq, Option.bind_some, wrap_id (n := (i : Int) + 1) (by omega) (by omega)]
  cases hp : isPath (rd_T52 l (i : Int)).f0 (rd_T52 l (i : Int)).f1 (rd_T52 l (i : Int)).f2 (rd_T52 l (i : Int)).f3
  ·simp only [Bool.false_eq_true, if_false]; exact Ev.now _
  ·rw [hp, Bool.true_and, Bool.or_eq_false_iff, decide_eq_false_iff_not, decide_eq_false_iff_not] at hP
   simp only [if_true, show (i : Int) > 0 by omega, wrap_id (n := (i : Int) - 1) (by omega) (by omega), show (0 : Int) ≤ (i : Int) - 1 by omega, show (i : Int) - 1 < (l.length : Int) by omega, show (rd_T52 l ((i : Int) - 1)).f0 ≥ (rd_T52 l (i : Int)).f0 by omega]
   exact Ev.now _
 ·refine Ev.succ ?_
  simp only [spec_ArePaths.l0, Int.lt_irrefl, if_false]
  exact evq (Ev.now _) (by by_cases h : l.length ≤ 12 <;> simp [h] <;> omega)
theorem impl_ArePaths_eq (l : List S52) (hl : l.length ≤ 1048576) : Ev (fun k => impl_ArePaths.f k l) (arePaths l) := by
 unfold impl_ArePaths.f arePaths
 by_cases h12 : l.length ≤ 12
 ·simp only [show ¬ ((l.length : Int) > 12) by omega, if_false, decide_eq_true h12]
  refine evAnd (g := fun k i => impl_ArePaths.l0 k l l (l.length : Int) i) (fun i r h hP hr => ?_) (fun i h hP => ?_) ?_
  ·refine Ev.succ ?_
   unfold okAt isP at hP
   rw [Bool.and_eq_true] at hP
   simp only [impl_ArePaths.l0, show (i : Int) < (l.length : Int) by omega, show (0 : Int) ≤ (i : Int) by omega, if_true, impl_IsPath_eq, Option.bind_some, hP.1, wrap_id (n := (i : Int) + 1) (by omega) (by omega)]
   by_cases h0 : i = 0
   ·subst h0; simpa using hr
   ·have h2 := hP.2
    rw [decide_eq_false h0, Bool.false_or, decide_eq_true_eq] at h2
    simp only [show (i : Int) > 0 by omega, if_true, wrap_id (n := (i : Int) - 1) (by omega) (by omega), show (0 : Int) ≤ (i : Int) - 1 by omega, show (i : Int) - 1 < (l.length : Int) by omega, show ¬ (rd_T52 l (i : Int)).f0 ≤ (rd_T52 l ((i : Int) - 1)).f0 by omega, if_false]
    exact hr
  ·refine Ev.succ ?_
   unfold okAt isP at hP
   simp only [impl_ArePaths.l0, show (i : Int) < (l.length : Int) by omega, show (0 : Int) ≤ (i : Int) by omega, if_true, impl_IsPath_eq, Option.bind_some, wrap_id (n := (i : Int) + 1) (by omega) (by omega)]
   cases hp : isPath (rd_T52 l (i : Int)).f0 (rd_T52 l (i : Int)).f1 (rd_T52 l (i : Int)).f2 (rd_T52 l (i : Int)).f3
   ·simp only [Bool.false_eq_true, if_false]; exact Ev.now _
   ·rw [hp, Bool.true_and, Bool.or_eq_false_iff, decide_eq_false_iff_not, decide_eq_false_iff_not] at hP
    simp only [if_true, show (i : Int) > 0 by omega, wrap_id (n := (i : Int) - 1) (by omega) (by omega), show (0 : Int) ≤ (i : Int) - 1 by omega, show (i : Int) - 1 < (l.length : Int) by omega, show (rd_T52 l (i : Int)).f0 ≤ (rd_T52 l ((i : Int) - 1)).f0 by omega]
    exact Ev.now _
  ·refine Ev.succ ?_
   simp only [impl_ArePaths.l0, Int.lt_irrefl, if_false]
   exact Ev.now _
 ·simp only [show (l.length : Int) > 12 by omega, if_true, decide_eq_false h12, Bool.and_false]; exact Ev.now _
theorem spec_FindPath_eq (l : List S52) (id : Int) (hl : l.length ≤ 1048576) : Ev (fun k => spec_FindPath.f k l id) (findP l id) := by
 unfold spec_FindPath.f findP
 have key : ∀ (d i : Nat), i + d = l.length → Ev (fun k => spec_FindPath.l0 k l id (i : Int)) (Go.Proofs.Ytopchlafmfgpnaa.Hnd.fidx (fun x : S52 => x.f0 == id) (l.drop i) (0 + i)) := by
  intro d
  induction d with
  | zero =>
   intro i hi
   refine Ev.succ ?_
   simp only [spec_FindPath.l0, show ¬ (i : Int) < (l.length : Int) by omega, if_false]
   exact evq (Ev.now _) (by rw [List.drop_eq_nil_of_le (by omega)]; rfl)
  | succ d ih =>
   intro i hi
   refine Ev.succ ?_
   have ihh := ih (i + 1) (by omega)
   rw [show ((i + 1 : Nat) : Int) = (i : Int) + 1 by omega] at ihh
   simp only [spec_FindPath.l0, show (i : Int) < (l.length : Int) by omega, show (0 : Int) ≤ (i : Int) by omega, if_true, rdT_Path _ _ (show i < l.length by omega), wrap_id (n := (i : Int) + 1) (by omega) (by omega)]
   rw [fidx_drop _ _ _ _ (by omega)]
   by_cases h1 : l[i].f0 = id
   ·simp only [h1, if_true, beq_self_eq_true, Nat.zero_add]; exact Ev.now _
   ·simp only [h1, if_false, show ((l[i].f0 == id) = true) = False by simp [h1]]; exact ihh
 exact key l.length 0 (by omega)
theorem impl_FindPath_eq (l : List S52) (id : Int) : impl_FindPath.f l id = some (findP l id) := rfl
theorem spec_l6Has_eq (l : List Int) (x : Int) (hl : l.length ≤ 140737488355328) : Ev (fun k => spec_l6Has.f k l x) (decide (x ∈ l)) := by
 unfold spec_l6Has.f
 have key : ∀ (d i : Nat), i + d = l.length → Ev (fun k => spec_l6Has.l0 k l x (i : Int)) (decide (x ∈ l.drop i)) := by
  intro d
  induction d with
  | zero =>
   intro i hi
   refine Ev.succ ?_
   simp only [spec_l6Has.l0, show ¬ (i : Int) < (l.length : Int) by omega, if_false]
   exact evq (Ev.now _) (by simp [List.drop_eq_nil_of_le (show l.length ≤ i by omega)])
  | succ d ih =>
   intro i hi
   refine Ev.succ ?_
   have ihh := ih (i + 1) (by omega)
   rw [show ((i + 1 : Nat) : Int) = (i : Int) + 1 by omega] at ihh
   simp only [spec_l6Has.l0, show (i : Int) < (l.length : Int) by omega, show (0 : Int) ≤ (i : Int) by omega, if_true, rd_nat _ _ (show i < l.length by omega), wrap_id (n := (i : Int) + 1) (by omega) (by omega)]
   rw [mem_drop _ _ (by omega)]
   by_cases h1 : l[i] = x
   ·simp only [h1, if_true, decide_true, Bool.true_or]; exact Ev.now _
   ·rw [decide_eq_false (fun h : x = l[i] => h1 h.symm), Bool.false_or]; simp only [h1, if_false]; exact ihh
 simpa using key l.length 0 (by omega)
theorem slices_Contains_eq (l : List Int) (x : Int) (hl : l.length ≤ 140737488355328) : Ev (fun k => slices_Contains_int_int.f k l x) (decide (x ∈ l)) := by
 unfold slices_Contains_int_int.f slices_Index_int_int.f
 have key : ∀ (d i : Nat), i + d = l.length → ∃ n : Int, Ev (fun k => slices_Index_int_int.l0 k l x (l.length : Int) (i : Int)) n ∧ decide (n ≥ 0) = decide (x ∈ l.drop i) := by
  intro d
  induction d with
  | zero =>
   intro i hi
   refine ⟨-1, Ev.succ ?_, by simp [List.drop_eq_nil_of_le (show l.length ≤ i by omega)]⟩
   simp only [slices_Index_int_int.l0, show ¬ (i : Int) < (l.length : Int) by omega, if_false]
   exact Ev.now _
  | succ d ih =>
   intro i hi
   obtain ⟨n, hn, he⟩ := ih (i + 1) (by omega)
   rw [show ((i + 1 : Nat) : Int) = (i : Int) + 1 by omega] at hn
   rw [mem_drop _ _ (by omega)]
   by_cases h1 : x = l[i]
   ·refine ⟨(i : Int), Ev.succ ?_, by rw [decide_eq_true h1, Bool.true_or]; simp⟩
    simp only [slices_Index_int_int.l0, show (i : Int) < (l.length : Int) by omega, show (0 : Int) ≤ (i : Int) by omega, if_true, rd_nat _ _ (show i < l.length by omega), if_pos h1]
    exact Ev.now _
   ·refine ⟨n, Ev.succ ?_, by rw [he, decide_eq_false h1, Bool.false_or]⟩
    simp only [slices_Index_int_int.l0, show (i : Int) < (l.length : Int) by omega, show (0 : Int) ≤ (i : Int) by omega, if_true, rd_nat _ _ (show i < l.length by omega), if_neg h1, wrap_id (n := (i : Int) + 1) (by omega) (by omega)]
    exact hn
 obtain ⟨n, hn, he⟩ := key l.length 0 (by omega)
 simp only [List.drop_zero] at he
 rw [← he]
 exact Ev.bind (by simpa using hn) (Ev.now _)
theorem spec_Max_eq (a b : Int) : spec_Max.f a b = some (max a b) := by
 unfold spec_Max.f; grind
def clearOf (a b c d : Int) : Int := if isPath a b c d then (if b = 1 then 2 else if b = 3 then 3 else 5) else 0
theorem clearOf_bd (a b c d : Int) : 0 ≤ clearOf a b c d ∧ clearOf a b c d ≤ 5 := by unfold clearOf; split <;> (try split) <;> (try split) <;> omega
theorem impl_ClearOf_ev (a b c d : Int) : Ev (fun k => impl_ClearOf.f k a b c d) (clearOf a b c d) := by
 unfold impl_ClearOf.f clearOf
 simp only [impl_IsPath_eq, Option.bind_some]
 cases isPath a b c d
 ·simp only [Bool.false_eq_true, if_false]; exact Ev.now _
 ·simp only [if_true]
  refine Ev.succ ?_
  simp only [impl_ClearOf.j0]
  by_cases h1 : b = 1
  ·simp only [h1, if_true]; exact Ev.now _
  by_cases h3 : b = 3
  ·simp only [h1, h3, if_true, if_false]
   exact evq (Ev.now _) (by simp)
  ·simp only [h1, h3, if_false]; exact Ev.now _
theorem spec_ClearOf_eq (a b c d : Int) : spec_ClearOf.f a b c d = some (clearOf a b c d) := by
 unfold spec_ClearOf.f clearOf
 simp only [spec_IsPath_eq, Option.bind_some]
 cases h : isPath a b c d
 ·simp
 ·have := isPath_bd h
  rcases (show b = 1 ∨ b = 2 ∨ b = 3 by omega) with rfl | rfl | rfl <;> simp [rd]
/-- Whether two ways through the square cross, as the function finds it in at most 60 rounds. -/
def inter (a b c d : Int) : Bool := (impl_Interleave.f 60 a b c d).getD false
theorem inter_tab : ∀ f t g u : Fin 4, impl_Interleave.f 60 (2 * (f.val : Int)) (2 * (t.val : Int) + 1) (2 * (g.val : Int)) (2 * (u.val : Int) + 1) = some (inter (2 * (f.val : Int)) (2 * (t.val : Int) + 1) (2 * (g.val : Int)) (2 * (u.val : Int) + 1)) ∧ (f = g → inter (2 * (f.val : Int)) (2 * (t.val : Int) + 1) (2 * (g.val : Int)) (2 * (u.val : Int) + 1) = false) := by decide +kernel
theorem four {n : Int} (h : 0 ≤ n ∧ n ≤ 3) : ∃ f : Fin 4, n = (f.val : Int) := ⟨⟨n.toNat, by omega⟩, by show n = ((n.toNat : Nat) : Int); omega⟩
theorem impl_inter {a b c d : Int} (ha : 0 ≤ a ∧ a ≤ 3) (hb : 0 ≤ b ∧ b ≤ 3) (hc : 0 ≤ c ∧ c ≤ 3) (hd : 0 ≤ d ∧ d ≤ 3) : Ev (fun k => impl_Interleave.f k (2 * a) (2 * b + 1) (2 * c) (2 * d + 1)) (inter (2 * a) (2 * b + 1) (2 * c) (2 * d + 1)) ∧ (a = c → inter (2 * a) (2 * b + 1) (2 * c) (2 * d + 1) = false) := by
 obtain ⟨f, rfl⟩ := four ha
 obtain ⟨t, rfl⟩ := four hb
 obtain ⟨g, rfl⟩ := four hc
 obtain ⟨u, rfl⟩ := four hd
 have := inter_tab f t g u
 exact ⟨Ev.of (fun k => impl_Interleave.mono _ _ _ _ k) this.1, fun e => this.2 (Fin.ext (by omega))⟩
def conflict (a b : S52) : Bool := isP a && isP b && !(decide (a.f1 = 2) && decide (b.f1 = 2)) && (if a.f1 = 2 then decide (b.f2 = a.f2) || decide (b.f3 = a.f2) else if b.f1 = 2 then decide (a.f2 = b.f2) || decide (a.f3 = b.f2) else !decide (a.f2 = b.f2) && (decide (a.f3 = b.f3) || inter (2 * a.f2) (2 * a.f3 + 1) (2 * b.f2) (2 * b.f3 + 1)))
theorem impl_InPlace_eq {n : Int} (h : 0 ≤ n ∧ n ≤ 3) : impl_InPlace.f n = some (2 * n) := by
 unfold impl_InPlace.f; rw [impl_InRange_eq, decide_eq_true h]; simp only [Option.bind_some, if_true]; rw [wrap_id (by omega) (by omega)]
theorem impl_OutPlace_eq {n : Int} (h : 0 ≤ n ∧ n ≤ 3) : impl_OutPlace.f n = some (2 * n + 1) := by
 unfold impl_OutPlace.f; rw [impl_InRange_eq, decide_eq_true h]; simp only [Option.bind_some, if_true]; rw [wrap_id (n := 2 * n) (by omega) (by omega), wrap_id (by omega) (by omega)]
theorem or_beq (p : Prop) [Decidable p] (x y : Int) (A : Nat → Option Bool) (h : A = fun _ => if p then some true else some (x == y)) : Ev A (decide p || decide (x = y)) := by
 subst h
 refine Ev.pure ?_
 by_cases hp : p
 ·simp [hp]
 ·simp [hp]; rfl
theorem impl_Conflict_eq (a b : S52) : Ev (fun k => impl_Conflict.f k a.f0 a.f1 a.f2 a.f3 b.f0 b.f1 b.f2 b.f3) (conflict a b) := by
 have hj : ∀ x : Bool, (x = false → isP a = true ∧ isP b = true ∧ ¬ (a.f1 = 2 ∧ b.f1 = 2)) → Ev (fun k => impl_Conflict.j0 k x a.f0 a.f1 a.f2 a.f3 b.f0 b.f1 b.f2 b.f3) (!x && (if a.f1 = 2 then decide (b.f2 = a.f2) || decide (b.f3 = a.f2) else if b.f1 = 2 then decide (a.f2 = b.f2) || decide (a.f3 = b.f2) else !decide (a.f2 = b.f2) && (decide (a.f3 = b.f3) || inter (2 * a.f2) (2 * a.f3 + 1) (2 * b.f2) (2 * b.f3 + 1)))) := by
  intro x hx
  refine Ev.succ ?_
  cases x
  ·obtain ⟨h1, h2, _⟩ := hx rfl
   have ha := isPath_bd h1
   have hb := isPath_bd h2
   simp only [impl_Conflict.j0, Bool.false_eq_true, if_false, Bool.not_false, Bool.true_and]
   by_cases ka : a.f1 = 2
   ·simp only [ka, if_true]
    exact or_beq _ _ _ _ rfl
   simp only [ka, if_false]
   by_cases kb : b.f1 = 2
   ·simp only [kb, if_true]
    exact or_beq _ _ _ _ rfl
   simp only [kb, if_false]
   have hi := impl_inter (a := a.f2) (b := a.f3) (c := b.f2) (d := b.f3) (by omega) (by omega) (by omega) (by omega)
   simp only [impl_InPlace_eq (n := a.f2) (by omega), impl_OutPlace_eq (n := a.f3) (by omega), impl_InPlace_eq (n := b.f2) (by omega), impl_OutPlace_eq (n := b.f3) (by omega), Option.bind_some]
   by_cases e : a.f2 = b.f2
   ·have := hi.2 e
    simp only [e, if_true, decide_true, Bool.not_true, Bool.false_and]
    rw [e] at hi this
    exact evq (Ev.bind hi.1 (Ev.now _)) this
   ·simp only [e, if_false, decide_false, Bool.not_false, Bool.true_and]
    by_cases e2 : a.f3 = b.f3
    ·simp only [e2, if_true, decide_true, Bool.true_or]; exact Ev.now _
    ·simp only [e2, if_false, decide_false, Bool.false_or]
     exact Ev.bind hi.1 (Ev.now _)
  ·simp only [impl_Conflict.j0, if_true, Bool.not_true, Bool.false_and]; exact Ev.now _
 unfold impl_Conflict.f conflict isP
 simp only [impl_IsPath_eq, Option.bind_some]
 cases h1 : isPath a.f0 a.f1 a.f2 a.f3
 ·simpa using hj true (by simp)
 cases h2 : isPath b.f0 b.f1 b.f2 b.f3
 ·simpa using hj true (by simp)
 by_cases ka : a.f1 = 2
 ·by_cases kb : b.f1 = 2
  ·simpa [ka, kb] using hj true (by simp)
  ·have e : (b.f1 == 2) = false := by simp [kb]
   have := hj false (fun _ => ⟨h1, h2, fun h => kb h.2⟩)
   simp only [ka, e, kb, if_true, decide_true, decide_false, Bool.and_false, Bool.not_false, Bool.true_and] at this ⊢
   exact this
 ·have := hj false (fun _ => ⟨h1, h2, fun h => ka h.1⟩)
  simp only [ka, if_false, if_true, decide_false, Bool.false_and, Bool.not_false, Bool.true_and] at this ⊢
  exact this
theorem inter_tabS : ∀ f t g u : Fin 4, spec_Interleave.f 60 (2 * (f.val : Int)) (2 * (t.val : Int) + 1) (2 * (g.val : Int)) (2 * (u.val : Int) + 1) = some (inter (2 * (f.val : Int)) (2 * (t.val : Int) + 1) (2 * (g.val : Int)) (2 * (u.val : Int) + 1)) := by decide +kernel
theorem spec_inter {a b c d : Int} (ha : 0 ≤ a ∧ a ≤ 3) (hb : 0 ≤ b ∧ b ≤ 3) (hc : 0 ≤ c ∧ c ≤ 3) (hd : 0 ≤ d ∧ d ≤ 3) : Ev (fun k => spec_Interleave.f k (2 * a) (2 * b + 1) (2 * c) (2 * d + 1)) (inter (2 * a) (2 * b + 1) (2 * c) (2 * d + 1)) := by
 obtain ⟨f, rfl⟩ := four ha
 obtain ⟨t, rfl⟩ := four hb
 obtain ⟨g, rfl⟩ := four hc
 obtain ⟨u, rfl⟩ := four hd
 exact Ev.of (fun k => spec_Interleave.mono _ _ _ _ k) (inter_tabS f t g u)
theorem spec_InPlace_eq {n : Int} (h : 0 ≤ n ∧ n ≤ 3) : spec_InPlace.f n = some (2 * n) := by
 unfold spec_InPlace.f; rw [spec_l1In_eq, decide_eq_true h]; simp only [Option.bind_some, if_true]; rw [wrap_id (by omega) (by omega)]
theorem spec_OutPlace_eq {n : Int} (h : 0 ≤ n ∧ n ≤ 3) : spec_OutPlace.f n = some (2 * n + 1) := by
 unfold spec_OutPlace.f; rw [spec_l1In_eq, decide_eq_true h]; simp only [Option.bind_some, if_true]; rw [wrap_id (n := 2 * n) (by omega) (by omega), wrap_id (by omega) (by omega)]
theorem spec_Conflict_eq (a b : S52) : Ev (fun k => spec_Conflict.f k a.f0 a.f1 a.f2 a.f3 b.f0 b.f1 b.f2 b.f3) (conflict a b) := by
 have hj : ∀ x : Bool, (x = false → isP a = true ∧ isP b = true ∧ ¬ (a.f1 = 2 ∧ b.f1 = 2)) → Ev (fun k => spec_Conflict.j0 k x a.f0 a.f1 a.f2 a.f3 b.f0 b.f1 b.f2 b.f3) (!x && (if a.f1 = 2 then decide (b.f2 = a.f2) || decide (b.f3 = a.f2) else if b.f1 = 2 then decide (a.f2 = b.f2) || decide (a.f3 = b.f2) else !decide (a.f2 = b.f2) && (decide (a.f3 = b.f3) || inter (2 * a.f2) (2 * a.f3 + 1) (2 * b.f2) (2 * b.f3 + 1)))) := by
  intro x hx
  refine Ev.succ ?_
  cases x
  ·obtain ⟨h1, h2, _⟩ := hx rfl
   have ha := isPath_bd h1
   have hb := isPath_bd h2
   simp only [spec_Conflict.j0, Bool.false_eq_true, if_false, Bool.not_false, Bool.true_and]
   by_cases ka : a.f1 = 2
   ·simp only [ka, if_true]
    exact or_beq _ _ _ _ rfl
   simp only [ka, if_false]
   by_cases kb : b.f1 = 2
   ·simp only [kb, if_true]
    exact or_beq _ _ _ _ rfl
   simp only [kb, if_false]
   have hi := spec_inter (a := a.f2) (b := a.f3) (c := b.f2) (d := b.f3) (by omega) (by omega) (by omega) (by omega)
   simp only [spec_InPlace_eq (n := a.f2) (by omega), spec_OutPlace_eq (n := a.f3) (by omega), spec_InPlace_eq (n := b.f2) (by omega), spec_OutPlace_eq (n := b.f3) (by omega), Option.bind_some]
   by_cases e : a.f2 = b.f2
   ·simp only [e, if_true, decide_true, Bool.not_true, Bool.false_and]
    exact Ev.now _
   ·simp only [e, if_false, decide_false, Bool.not_false, Bool.true_and]
    by_cases e2 : a.f3 = b.f3
    ·simp only [e2, if_true, decide_true, Bool.true_or]; exact Ev.now _
    ·simp only [e2, if_false, decide_false, Bool.false_or]
     exact Ev.bind hi (Ev.now _)
  ·simp only [spec_Conflict.j0, if_true, Bool.not_true, Bool.false_and]; exact Ev.now _
 unfold spec_Conflict.f conflict isP
 simp only [spec_IsPath_eq, Option.bind_some]
 cases h1 : isPath a.f0 a.f1 a.f2 a.f3
 ·simpa using hj true (by simp)
 cases h2 : isPath b.f0 b.f1 b.f2 b.f3
 ·simpa using hj true (by simp)
 by_cases ka : a.f1 = 2
 ·by_cases kb : b.f1 = 2
  ·simpa [ka, kb] using hj true (by simp)
  ·have e : (b.f1 == 2) = false := by simp [kb]
   have := hj false (fun _ => ⟨h1, h2, fun h => kb h.2⟩)
   simp only [ka, e, kb, if_true, decide_true, decide_false, Bool.and_false, Bool.not_false, Bool.true_and] at this ⊢
   exact this
 ·have := hj false (fun _ => ⟨h1, h2, fun h => ka h.1⟩)
  simp only [ka, if_false, if_true, decide_false, Bool.false_and, Bool.not_false, Bool.true_and] at this ⊢
  exact this
def confAt (l : List S52) (a b : Int) : Bool := conflict (rd_T52 l (findP l a)) (rd_T52 l (findP l b))
def tgAt (l : List S52) (v : List Int) (i : Nat) : Bool := decide (0 ≤ findP l (rd v (i : Int))) && (decide (i = 0) || !decide (rd v (i : Int) ≤ rd v ((i : Int) - 1))) && (List.range i).all (fun (j : Nat) => !confAt l (rd v (i : Int)) (rd v (j : Int)))
def together (l : List S52) (v : List Int) : Bool := (List.range v.length).all (tgAt l v) && arePaths l
theorem together_at {l : List S52} {v : List Int} (h : together l v = true) (i : Nat) (hi : i < v.length) : 0 ≤ findP l (rd v (i : Int)) := by
 unfold together at h
 simp only [Bool.and_eq_true, List.all_eq_true, List.mem_range] at h
 have := h.1 i hi
 unfold tgAt at this
 simp only [Bool.and_eq_true, decide_eq_true_eq] at this
 exact this.1.1
theorem impl_IsTogether_eq (l : List S52) (v : List Int) (hl : l.length ≤ 1048576) (hv : v.length ≤ 1048576) : Ev (fun k => impl_IsTogether.f k l v) (together l v) := by
 unfold impl_IsTogether.f together
 refine Ev.bind (impl_ArePaths_eq l hl) ?_
 cases ha : arePaths l
 ·simp only [Bool.false_eq_true, if_false, Bool.and_false]; exact Ev.now _
 simp only [if_true, Bool.and_true]
 have inner : ∀ (i : Nat) (r : Bool), i < v.length → (∀ j : Nat, j ≤ i → 0 ≤ findP l (rd v (j : Int))) → Ev (fun k => impl_IsTogether.l0 k l v v (v.length : Int) ((i : Int) + 1)) r → Ev (fun k => impl_IsTogether.l1 k l v (findP l (rd v (i : Int))) v (v.length : Int) (i : Int) (v.take i) (((v.take i).length : Nat) : Int) 0) ((List.range i).all (fun (j : Nat) => !confAt l (rd v (i : Int)) (rd v (j : Int))) && r) := by
  intro i r hi hf hr
  have hlt : (v.take i).length = i := by rw [List.length_take]; omega
  have hrd : ∀ j : Nat, j < i → rd (v.take i) (j : Int) = rd v (j : Int) := fun j hj => by rw [rd_nat _ _ (by omega), rd_nat _ _ (by omega)]; simp
  have h1 := hf i (Nat.le_refl i)
  have h2 := findP_hi l (rd v (i : Int))
  rw [hlt]
  refine evAnd (g := fun k j => impl_IsTogether.l1 k l v (findP l (rd v (i : Int))) v (v.length : Int) (i : Int) (v.take i) (i : Int) j) (fun j s h hP hs => ?_) (fun j h hP => ?_) ?_
  ·refine Ev.succ ?_
   have h3 := hf j (by omega)
   have h4 := findP_hi l (rd v (j : Int))
   rw [Bool.not_eq_true'] at hP
   simp only [impl_IsTogether.l1, show (j : Int) < (i : Int) by omega, show (0 : Int) ≤ (j : Int) by omega, hlt, hrd j h, h1, h2, h3, h4, if_true, impl_FindPath_eq, Option.bind_some, wrap_id (n := (j : Int) + 1) (by omega) (by omega)]
   refine Ev.bind (impl_Conflict_eq _ _) ?_
   unfold confAt at hP
   simp only [hP, Bool.false_eq_true, if_false]
   exact hs
  ·refine Ev.succ ?_
   have h3 := hf j (by omega)
   have h4 := findP_hi l (rd v (j : Int))
   rw [Bool.not_eq_false'] at hP
   simp only [impl_IsTogether.l1, show (j : Int) < (i : Int) by omega, show (0 : Int) ≤ (j : Int) by omega, hlt, hrd j h, h1, h2, h3, h4, if_true, impl_FindPath_eq, Option.bind_some]
   refine Ev.bind (impl_Conflict_eq _ _) ?_
   unfold confAt at hP
   simp only [hP, if_true]
   exact Ev.now _
  ·refine Ev.succ ?_
   simp only [impl_IsTogether.l1, Int.lt_irrefl, if_false, wrap_id (n := (i : Int) + 1) (by omega) (by omega)]
   exact hr
 have key : ∀ (d i : Nat), i + d = v.length → (∀ j : Nat, j < i → 0 ≤ findP l (rd v (j : Int))) → Ev (fun k => impl_IsTogether.l0 k l v v (v.length : Int) (i : Int)) ((List.range' i d).all (tgAt l v)) := by
  intro d
  induction d with
  | zero =>
   intro i hi hf
   refine Ev.succ ?_
   simp only [impl_IsTogether.l0, show ¬ (i : Int) < (v.length : Int) by omega, if_false]
   exact Ev.now _
  | succ d ih =>
   intro i hi hf
   refine Ev.succ ?_
   rw [List.range'_succ, List.all_cons]
   simp only [impl_IsTogether.l0, show (i : Int) < (v.length : Int) by omega, show (0 : Int) ≤ (i : Int) by omega, if_true, impl_FindPath_eq, Option.bind_some]
   have hj : ∀ b : Bool, 0 ≤ findP l (rd v (i : Int)) ∨ b = true → Ev (fun k => impl_IsTogether.j1 k l v (i : Int) (findP l (rd v (i : Int))) v (v.length : Int) (i : Int) b) (!b && ((List.range i).all (fun (j : Nat) => !confAt l (rd v (i : Int)) (rd v (j : Int))) && (List.range' (i + 1) d).all (tgAt l v))) := by
    intro b hb
    refine Ev.succ ?_
    cases b
    ·have h0 : 0 ≤ findP l (rd v (i : Int)) := by rcases hb with h | h; exact h; cases h
     simp only [impl_IsTogether.j1, Bool.false_eq_true, if_false, show (0 : Int) ≤ (i : Int) by omega, show (i : Int) ≤ (v.length : Int) by omega, if_true, Bool.not_false, Bool.true_and, Int.toNat_natCast]
     have hf' : ∀ j : Nat, j < i + 1 → 0 ≤ findP l (rd v (j : Int)) := fun j hj => by
      by_cases e : j = i
      ·rw [e]; exact h0
      ·exact hf j (by omega)
     refine inner i _ (by omega) (fun j hj => hf' j (by omega)) ?_
     have := ih (i + 1) (by omega) hf'
     rwa [show ((i + 1 : Nat) : Int) = (i : Int) + 1 by omega] at this
    ·simp only [impl_IsTogether.j1, if_true, Bool.not_true, Bool.false_and]; exact Ev.now _
   by_cases h0 : findP l (rd v (i : Int)) < 0
   ·simp only [h0, if_true]
    exact evq (hj true (.inr rfl)) (by simp [tgAt, show ¬ 0 ≤ findP l (rd v (i : Int)) by omega])
   ·simp only [h0, if_false]
    by_cases hi0 : i = 0
    ·subst hi0
     simp only [show ¬ (((0 : Nat) : Int) > 0) by omega, if_false]
     refine evq (hj false (.inl (by omega))) ?_
     unfold tgAt
     rw [decide_eq_true (show 0 ≤ findP l (rd v ((0 : Nat) : Int)) by omega)]
     simp
    ·simp only [show (i : Int) > 0 by omega, if_true, wrap_id (n := (i : Int) - 1) (by omega) (by omega), show (0 : Int) ≤ (i : Int) - 1 by omega, show (i : Int) - 1 < (v.length : Int) by omega]
     refine evq (hj _ (.inl (by omega))) ?_
     unfold tgAt
     rw [decide_eq_true (show 0 ≤ findP l (rd v (i : Int)) by omega), decide_eq_false hi0]
     simp only [Bool.true_and, Bool.false_or, Bool.and_assoc]
 have := key v.length 0 (by omega) (fun j hj => absurd hj (by omega))
 rwa [← List.range_eq_range'] at this
theorem spec_IsTogether_eq (l : List S52) (v : List Int) (hl : l.length ≤ 1048576) (hv : v.length ≤ 1048576) : Ev (fun k => spec_IsTogether.f k l v) (together l v) := by
 unfold spec_IsTogether.f together
 have inner : ∀ (i : Nat) (r : Bool), i < v.length → (∀ j : Nat, j ≤ i → 0 ≤ findP l (rd v (j : Int))) → Ev (fun k => spec_IsTogether.l0 k l v ((i : Int) + 1)) r → Ev (fun k => spec_IsTogether.l1 k l v (i : Int) (findP l (rd v (i : Int))) 0) ((List.range i).all (fun (j : Nat) => !confAt l (rd v (i : Int)) (rd v (j : Int))) && r) := by
  intro i r hi hf hr
  have h1 := hf i (Nat.le_refl i)
  have h2 := findP_hi l (rd v (i : Int))
  refine evAnd (g := fun k j => spec_IsTogether.l1 k l v (i : Int) (findP l (rd v (i : Int))) j) (fun j s h hP hs => ?_) (fun j h hP => ?_) ?_
  ·refine Ev.succ ?_
   have h3 := hf j (by omega)
   have h4 := findP_hi l (rd v (j : Int))
   rw [Bool.not_eq_true'] at hP
   simp only [spec_IsTogether.l1, show (j : Int) < (i : Int) by omega, show (j : Int) < (v.length : Int) by omega, show (0 : Int) ≤ (j : Int) by omega, h1, h2, if_true, wrap_id (n := (j : Int) + 1) (by omega) (by omega)]
   refine Ev.bind (spec_FindPath_eq l _ hl) ?_
   simp only [h3, h4, if_true]
   refine Ev.bind (spec_Conflict_eq _ _) ?_
   unfold confAt at hP
   simp only [hP, Bool.false_eq_true, if_false]
   exact hs
  ·refine Ev.succ ?_
   have h3 := hf j (by omega)
   have h4 := findP_hi l (rd v (j : Int))
   rw [Bool.not_eq_false'] at hP
   simp only [spec_IsTogether.l1, show (j : Int) < (i : Int) by omega, show (j : Int) < (v.length : Int) by omega, show (0 : Int) ≤ (j : Int) by omega, h1, h2, if_true]
   refine Ev.bind (spec_FindPath_eq l _ hl) ?_
   simp only [h3, h4, if_true]
   refine Ev.bind (spec_Conflict_eq _ _) ?_
   unfold confAt at hP
   simp only [hP, if_true]
   exact Ev.now _
  ·refine Ev.succ ?_
   simp only [spec_IsTogether.l1, Int.lt_irrefl, if_false, wrap_id (n := (i : Int) + 1) (by omega) (by omega)]
   exact hr
 have key : ∀ (d i : Nat), i + d = v.length → (∀ j : Nat, j < i → 0 ≤ findP l (rd v (j : Int))) → Ev (fun k => spec_IsTogether.l0 k l v (i : Int)) ((List.range' i d).all (tgAt l v) && arePaths l) := by
  intro d
  induction d with
  | zero =>
   intro i hi hf
   refine Ev.succ ?_
   simp only [spec_IsTogether.l0, show ¬ (i : Int) < (v.length : Int) by omega, if_false]
   exact Ev.bind (spec_ArePaths_eq l hl) (Ev.now _)
  | succ d ih =>
   intro i hi hf
   refine Ev.succ ?_
   rw [List.range'_succ, List.all_cons]
   simp only [spec_IsTogether.l0, show (i : Int) < (v.length : Int) by omega, show (0 : Int) ≤ (i : Int) by omega, if_true]
   refine Ev.bind (spec_FindPath_eq l _ hl) ?_
   have hj : ∀ b : Bool, 0 ≤ findP l (rd v (i : Int)) ∨ b = true → Ev (fun k => spec_IsTogether.j1 k l v (i : Int) (findP l (rd v (i : Int))) b) (!b && ((List.range i).all (fun (j : Nat) => !confAt l (rd v (i : Int)) (rd v (j : Int))) && ((List.range' (i + 1) d).all (tgAt l v) && arePaths l))) := by
    intro b hb
    refine Ev.succ ?_
    cases b
    ·have h0 : 0 ≤ findP l (rd v (i : Int)) := by rcases hb with h | h; exact h; cases h
     simp only [spec_IsTogether.j1, Bool.false_eq_true, if_false, Bool.not_false, Bool.true_and]
     have hf' : ∀ j : Nat, j < i + 1 → 0 ≤ findP l (rd v (j : Int)) := fun j hj => by
      by_cases e : j = i
      ·rw [e]; exact h0
      ·exact hf j (by omega)
     refine inner i _ (by omega) (fun j hj => hf' j (by omega)) ?_
     have := ih (i + 1) (by omega) hf'
     rwa [show ((i + 1 : Nat) : Int) = (i : Int) + 1 by omega] at this
    ·simp only [spec_IsTogether.j1, if_true, Bool.not_true, Bool.false_and]; exact Ev.now _
   by_cases h0 : findP l (rd v (i : Int)) < 0
   ·simp only [h0, if_true]
    exact evq (hj true (.inr rfl)) (by simp [tgAt, show ¬ 0 ≤ findP l (rd v (i : Int)) by omega])
   ·simp only [h0, if_false]
    by_cases hi0 : i = 0
    ·subst hi0
     simp only [show ¬ (((0 : Nat) : Int) > 0) by omega, if_false]
     refine evq (hj false (.inl (by omega))) ?_
     unfold tgAt
     rw [decide_eq_true (show 0 ≤ findP l (rd v ((0 : Nat) : Int)) by omega)]
     simp [Bool.and_assoc]
    ·simp only [show (i : Int) > 0 by omega, if_true, wrap_id (n := (i : Int) - 1) (by omega) (by omega), show (0 : Int) ≤ (i : Int) - 1 by omega, show (i : Int) - 1 < (v.length : Int) by omega]
     refine evq (hj _ (.inl (by omega))) ?_
     unfold tgAt
     rw [decide_eq_true (show 0 ≤ findP l (rd v (i : Int)) by omega), decide_eq_false hi0]
     simp only [Bool.true_and, Bool.false_or, Bool.and_assoc, ge_iff_le]
 have := key v.length 0 (by omega) (fun j hj => absurd hj (by omega))
 rwa [← List.range_eq_range'] at this
def closes (a b : List Int) : List Int := a.filter (fun x => !decide (x ∈ b))
theorem closes_le (a b : List Int) : (closes a b).length ≤ a.length := List.length_filter_le _ _
theorem closes_mem {a b : List Int} {x : Int} (h : x ∈ closes a b) : x ∈ a := (List.mem_filter.1 h).1
theorem closes_step (a b : List Int) (i : Nat) (h : i < a.length) : closes (a.drop i) b = (if a[i] ∈ b then [] else [a[i]]) ++ closes (a.drop (i + 1)) b := by
 unfold closes
 rw [List.drop_eq_getElem_cons h, List.filter_cons]
 by_cases e : a[i] ∈ b <;> simp [e]
theorem impl_Closes_eq (a b : List Int) (ha : a.length ≤ 1048576) (hb : b.length ≤ 1048576) : Ev (fun k => impl_Closes.f k a b) (closes a b) := by
 unfold impl_Closes.f impl_sieve.f
 have key : ∀ (d i : Nat) (o : List Int), o.length ≤ i → i + d = a.length → Ev (fun k => impl_sieve.l0 k b false o a (a.length : Int) (i : Int)) (o ++ closes (a.drop i) b) := by
  intro d
  induction d with
  | zero =>
   intro i o ho hi
   refine Ev.succ ?_
   simp only [impl_sieve.l0, show ¬ (i : Int) < (a.length : Int) by omega, if_false]
   exact evq (Ev.now _) (by rw [List.drop_eq_nil_of_le (show a.length ≤ i by omega)]; simp [closes])
  | succ d ih =>
   intro i o ho hi
   refine Ev.succ ?_
   have hi2 : i < a.length := by omega
   simp only [impl_sieve.l0, show (i : Int) < (a.length : Int) by omega, show (0 : Int) ≤ (i : Int) by omega, if_true, rd_nat _ _ hi2, wrap_id (n := (i : Int) + 1) (by omega) (by omega), show o.length < 17592186044416 by omega]
   refine Ev.bind (slices_Contains_eq _ _ (by omega)) ?_
   rw [closes_step a b i hi2]
   by_cases e : a[i] ∈ b
   ·have := ih (i + 1) o (by omega) (by omega)
    rw [show ((i + 1 : Nat) : Int) = (i : Int) + 1 by omega] at this
    simpa [e] using this
   ·have := ih (i + 1) (o ++ [a[i]]) (by rw [List.length_append, List.length_singleton]; omega) (by omega)
    rw [show ((i + 1 : Nat) : Int) = (i : Int) + 1 by omega] at this
    simpa [e] using this
 exact Ev.bind (by simpa using key a.length 0 [] (Nat.le_refl _) (by omega)) (Ev.now _)
theorem spec_Closes_eq (a b : List Int) (ha : a.length ≤ 1048576) (hb : b.length ≤ 1048576) : Ev (fun k => spec_Closes.f k a b) (closes a b) := by
 unfold spec_Closes.f
 have key : ∀ (d i : Nat) (o : List Int), o.length ≤ i → i + d = a.length → Ev (fun k => spec_Closes.l0 k a b o (i : Int)) (o ++ closes (a.drop i) b) := by
  intro d
  induction d with
  | zero =>
   intro i o ho hi
   refine Ev.succ ?_
   simp only [spec_Closes.l0, show ¬ (i : Int) < (a.length : Int) by omega, if_false]
   exact evq (Ev.now _) (by rw [List.drop_eq_nil_of_le (show a.length ≤ i by omega)]; simp [closes])
  | succ d ih =>
   intro i o ho hi
   refine Ev.succ ?_
   have hi2 : i < a.length := by omega
   simp only [spec_Closes.l0, show (i : Int) < (a.length : Int) by omega, show (0 : Int) ≤ (i : Int) by omega, if_true, rd_nat _ _ hi2, wrap_id (n := (i : Int) + 1) (by omega) (by omega), show o.length < 17592186044416 by omega]
   refine Ev.bind (spec_l6Has_eq _ _ (by omega)) ?_
   rw [closes_step a b i hi2]
   by_cases e : a[i] ∈ b
   ·have := ih (i + 1) o (by omega) (by omega)
    rw [show ((i + 1 : Nat) : Int) = (i : Int) + 1 by omega] at this
    simpa [e] using this
   ·have := ih (i + 1) (o ++ [a[i]]) (by rw [List.length_append, List.length_singleton]; omega) (by omega)
    rw [show ((i + 1 : Nat) : Int) = (i : Int) + 1 by omega] at this
    simpa [e] using this
 simpa using key a.length 0 [] (Nat.le_refl _) (by omega)
def clrOf (l : List S52) (x : Int) : Int := clearOf (rd_T52 l (findP l x)).f0 (rd_T52 l (findP l x)).f1 (rd_T52 l (findP l x)).f2 (rd_T52 l (findP l x)).f3
def cbIn (l : List S52) (x : Int) (ys : List Int) (m : Int) : Int := ys.foldl (fun m y => if confAt l x y then max m (clrOf l x) else m) m
def cbOut (l : List S52) (xs ys : List Int) (m : Int) : Int := xs.foldl (fun m x => cbIn l x ys m) m
def clearBetween (l : List S52) (a b : List Int) : Int := if together l a && together l b then cbOut l (closes a b) (closes b a) 0 else 0
theorem together_mem {l : List S52} {v : List Int} (h : together l v = true) {x : Int} (hx : x ∈ v) : 0 ≤ findP l x := by
 obtain ⟨i, hi, rfl⟩ := List.getElem_of_mem hx
 have := together_at h i hi
 rwa [rd_nat _ _ hi] at this
theorem mx_max (a b : Int) : mx a b = max a b := by unfold mx; omega
theorem impl_ClearBetween_eq (l : List S52) (a b : List Int) (hl : l.length ≤ 1048576) (ha : a.length ≤ 1048576) (hb : b.length ≤ 1048576) : Ev (fun k => impl_ClearBetween.f k l a b) (clearBetween l a b) := by
 unfold impl_ClearBetween.f clearBetween
 refine Ev.bind (impl_IsTogether_eq l a hl ha) ?_
 cases h1 : together l a
 ·simp only [Bool.false_eq_true, if_false, Bool.false_and]
  refine Ev.succ ?_
  simp only [impl_ClearBetween.j0, if_true]; exact Ev.now _
 simp only [if_true, Bool.true_and]
 refine Ev.bind (impl_IsTogether_eq l b hl hb) ?_
 refine Ev.succ ?_
 cases h2 : together l b
 ·simp only [impl_ClearBetween.j0, Bool.not_false, if_true, Bool.false_eq_true, if_false]; exact Ev.now _
 simp only [impl_ClearBetween.j0, Bool.not_true, Bool.false_eq_true, if_false, if_true]
 refine Ev.bind (impl_Closes_eq a b ha hb) ?_
 have hx : ∀ x ∈ closes a b, 0 ≤ findP l x := fun x h => together_mem h1 (closes_mem h)
 have hy : ∀ x ∈ closes b a, 0 ≤ findP l x := fun x h => together_mem h2 (closes_mem h)
 have lx := closes_le a b
 have ly := closes_le b a
 have hC := impl_Closes_eq b a hb ha
 generalize closes a b = xs at hx lx
 generalize closes b a = ys at hy ly hC
 have inner : ∀ (i : Nat) (hi : i < xs.length) (r : Int → Int), (∀ m : Int, Ev (fun k => impl_ClearBetween.l0 k l a b m xs (xs.length : Int) ((i : Int) + 1)) (r m)) → ∀ (d j : Nat) (m : Int), j + d = ys.length → Ev (fun k => impl_ClearBetween.l1 k l a b m (xs[i]) xs (xs.length : Int) (i : Int) ys (ys.length : Int) (j : Int)) (r (cbIn l xs[i] (ys.drop j) m)) := by
  intro i hi r hr d
  induction d with
  | zero =>
   intro j m hj
   refine Ev.succ ?_
   simp only [impl_ClearBetween.l1, show ¬ (j : Int) < (ys.length : Int) by omega, if_false, wrap_id (n := (i : Int) + 1) (by omega) (by omega)]
   refine evq (hr m) ?_
   rw [List.drop_eq_nil_of_le (show ys.length ≤ j by omega)]; rfl
  | succ d ih =>
   intro j m hj
   refine Ev.succ ?_
   have hj2 : j < ys.length := by omega
   have f1 := hx _ (List.getElem_mem hi)
   have f2 := findP_hi l xs[i]
   have f3 := hy _ (List.getElem_mem hj2)
   have f4 := findP_hi l ys[j]
   simp only [impl_ClearBetween.l1, show (j : Int) < (ys.length : Int) by omega, show (0 : Int) ≤ (j : Int) by omega, if_true, rd_nat _ _ hj2, impl_FindPath_eq, Option.bind_some, f1, f2, f3, f4, wrap_id (n := (j : Int) + 1) (by omega) (by omega)]
   refine Ev.bind (impl_Conflict_eq _ _) ?_
   have ih' := fun m => ih (j + 1) m (by omega)
   rw [show ((j + 1 : Nat) : Int) = (j : Int) + 1 by omega] at ih'
   have e : cbIn l xs[i] (ys.drop j) m = cbIn l xs[i] (ys.drop (j + 1)) (if confAt l xs[i] ys[j] then max m (clrOf l xs[i]) else m) := by
    unfold cbIn; rw [List.drop_eq_getElem_cons hj2, List.foldl_cons]
   rw [e]
   show Ev (fun k => if confAt l xs[i] ys[j] = true then _ else _) _
   cases hc : confAt l xs[i] ys[j]
   ·simp only [Bool.false_eq_true, if_false]; exact ih' m
   ·simp only [if_true]
    refine Ev.bind (impl_ClearOf_ev _ _ _ _) ?_
    simp only [mx_max]
    exact ih' _
 have outer : ∀ (d i : Nat) (m : Int), i + d = xs.length → Ev (fun k => impl_ClearBetween.l0 k l a b m xs (xs.length : Int) (i : Int)) (cbOut l (xs.drop i) ys m) := by
  intro d
  induction d with
  | zero =>
   intro i m hi
   refine Ev.succ ?_
   simp only [impl_ClearBetween.l0, show ¬ (i : Int) < (xs.length : Int) by omega, if_false]
   refine evq (Ev.now _) ?_
   rw [List.drop_eq_nil_of_le (show xs.length ≤ i by omega)]; rfl
  | succ d ih =>
   intro i m hi
   refine Ev.succ ?_
   have hi2 : i < xs.length := by omega
   simp only [impl_ClearBetween.l0, show (i : Int) < (xs.length : Int) by omega, show (0 : Int) ≤ (i : Int) by omega, if_true, rd_nat _ _ hi2]
   refine Ev.bind hC ?_
   have := inner i hi2 (fun m => cbOut l (xs.drop (i + 1)) ys m) (fun m => by
    have := ih (i + 1) m (by omega)
    rwa [show ((i + 1 : Nat) : Int) = (i : Int) + 1 by omega] at this) ys.length 0 m (by omega)
   refine evq this ?_
   unfold cbOut
   rw [List.drop_eq_getElem_cons hi2, List.foldl_cons]; rfl
 exact outer xs.length 0 0 (by omega)
theorem spec_ClearBetween_eq (l : List S52) (a b : List Int) (hl : l.length ≤ 1048576) (ha : a.length ≤ 1048576) (hb : b.length ≤ 1048576) : Ev (fun k => spec_ClearBetween.f k l a b) (clearBetween l a b) := by
 unfold spec_ClearBetween.f clearBetween
 refine Ev.bind (spec_Closes_eq a b ha hb) ?_
 refine Ev.bind (spec_Closes_eq b a hb ha) ?_
 have hx : together l a = true → ∀ x ∈ closes a b, 0 ≤ findP l x := fun h1 x h => together_mem h1 (closes_mem h)
 have hy : together l b = true → ∀ x ∈ closes b a, 0 ≤ findP l x := fun h2 x h => together_mem h2 (closes_mem h)
 have lx := closes_le a b
 have ly := closes_le b a
 generalize closes a b = xs at hx lx
 generalize closes b a = ys at hy ly
 by_cases hn : xs = []
 ·subst hn
  refine Ev.succ ?_
  simp only [spec_ClearBetween.l0, show ¬ (0 : Int) < (([] : List Int).length : Int) by simp, if_false]
  refine Ev.succ ?_
  simp only [spec_ClearBetween.j1, Bool.false_eq_true, if_false]
  refine evq (Ev.now _) ?_
  split <;> rfl
 have hpos : 0 < xs.length := by cases xs with | nil => exact absurd rfl hn | cons x y => simp
 cases h1 : together l a
 ·refine Ev.succ ?_
  simp only [spec_ClearBetween.l0, show (0 : Int) < (xs.length : Int) by omega, if_true]
  refine Ev.bind (spec_IsTogether_eq l a hl ha) ?_
  rw [h1]
  simp only [Bool.false_eq_true, if_false, Bool.false_and]
  refine Ev.succ ?_
  simp only [spec_ClearBetween.j1, Bool.false_eq_true, if_false]; exact Ev.now _
 cases h2 : together l b
 ·refine Ev.succ ?_
  simp only [spec_ClearBetween.l0, show (0 : Int) < (xs.length : Int) by omega, if_true]
  refine Ev.bind (spec_IsTogether_eq l a hl ha) ?_
  rw [h1]
  simp only [if_true]
  refine Ev.bind (spec_IsTogether_eq l b hl hb) ?_
  rw [h2]
  refine Ev.succ ?_
  simp only [spec_ClearBetween.j1, Bool.false_eq_true, if_false, Bool.and_false]; exact Ev.now _
 simp only [Bool.and_self, if_true]
 have hx := hx h1
 have hy := hy h2
 have inner : ∀ (i : Nat) (hi : i < xs.length) (r : Int → Int), (∀ m : Int, Ev (fun k => spec_ClearBetween.l0 k l a b m xs ys ((i : Int) + 1)) (r m)) → ∀ (d j : Nat) (m : Int), j + d = ys.length → Ev (fun k => spec_ClearBetween.l1 k l a b m xs ys (i : Int) (j : Int)) (r (cbIn l xs[i] (ys.drop j) m)) := by
  intro i hi r hr d
  induction d with
  | zero =>
   intro j m hj
   refine Ev.succ ?_
   simp only [spec_ClearBetween.l1, show ¬ (j : Int) < (ys.length : Int) by omega, if_false, wrap_id (n := (i : Int) + 1) (by omega) (by omega)]
   refine evq (hr m) ?_
   rw [List.drop_eq_nil_of_le (show ys.length ≤ j by omega)]; rfl
  | succ d ih =>
   intro j m hj
   refine Ev.succ ?_
   have hj2 : j < ys.length := by omega
   have f1 := hx _ (List.getElem_mem hi)
   have f2 := findP_hi l xs[i]
   have f3 := hy _ (List.getElem_mem hj2)
   have f4 := findP_hi l ys[j]
   simp only [spec_ClearBetween.l1, show (j : Int) < (ys.length : Int) by omega, show (0 : Int) ≤ (j : Int) by omega, show (i : Int) < (xs.length : Int) by omega, show (0 : Int) ≤ (i : Int) by omega, if_true, rd_nat _ _ hj2, rd_nat _ _ hi, wrap_id (n := (j : Int) + 1) (by omega) (by omega)]
   refine Ev.bind (spec_FindPath_eq l _ hl) ?_
   simp only [f1, f2, if_true]
   refine Ev.bind (spec_FindPath_eq l _ hl) ?_
   simp only [f3, f4, if_true]
   refine Ev.bind (spec_Conflict_eq _ _) ?_
   have ih' := fun m => ih (j + 1) m (by omega)
   rw [show ((j + 1 : Nat) : Int) = (j : Int) + 1 by omega] at ih'
   have e : cbIn l xs[i] (ys.drop j) m = cbIn l xs[i] (ys.drop (j + 1)) (if confAt l xs[i] ys[j] then max m (clrOf l xs[i]) else m) := by
    unfold cbIn; rw [List.drop_eq_getElem_cons hj2, List.foldl_cons]
   rw [e]
   show Ev (fun k => if confAt l xs[i] ys[j] = true then _ else _) _
   cases hc : confAt l xs[i] ys[j]
   ·simp only [Bool.false_eq_true, if_false]; exact ih' m
   ·simp only [if_true, spec_ClearOf_eq, spec_Max_eq, Option.bind_some]; exact ih' _
 have outer : ∀ (d i : Nat) (m : Int), i + d = xs.length → Ev (fun k => spec_ClearBetween.l0 k l a b m xs ys (i : Int)) (cbOut l (xs.drop i) ys m) := by
  intro d
  induction d with
  | zero =>
   intro i m hi
   refine Ev.succ ?_
   simp only [spec_ClearBetween.l0, show ¬ (i : Int) < (xs.length : Int) by omega, if_false]
   refine Ev.succ ?_
   simp only [spec_ClearBetween.j1, Bool.false_eq_true, if_false]
   refine evq (Ev.now _) ?_
   rw [List.drop_eq_nil_of_le (show xs.length ≤ i by omega)]; rfl
  | succ d ih =>
   intro i m hi
   refine Ev.succ ?_
   have hi2 : i < xs.length := by omega
   simp only [spec_ClearBetween.l0, show (i : Int) < (xs.length : Int) by omega, if_true]
   refine Ev.bind (spec_IsTogether_eq l a hl ha) ?_
   rw [h1]
   simp only [if_true]
   refine Ev.bind (spec_IsTogether_eq l b hl hb) ?_
   rw [h2]
   refine Ev.succ ?_
   simp only [spec_ClearBetween.j1, if_true]
   have := inner i hi2 (fun m => cbOut l (xs.drop (i + 1)) ys m) (fun m => by
    have := ih (i + 1) m (by omega)
    rwa [show ((i + 1 : Nat) : Int) = (i : Int) + 1 by omega] at this) ys.length 0 m (by omega)
   refine evq this ?_
   unfold cbOut
   rw [List.drop_eq_getElem_cons hi2, List.foldl_cons]; rfl
 exact outer xs.length 0 0 (by omega)
def isControl (l : List S52) (s : List Int) (n : Int) (x : List Int) (f : Int) : Bool := together l s && together l x && !decide (s.length = 0) && decide (0 ≤ n ∧ n ≤ 1000000) && (if x.length = 0 then decide (f = 0) else decide (1 ≤ f ∧ f ≤ clearBetween l s x))
theorem impl_IsControl_eq (l : List S52) (s : List Int) (n : Int) (x : List Int) (f : Int) (hl : l.length ≤ 1048576) (hs : s.length ≤ 1048576) (hx : x.length ≤ 1048576) : Ev (fun k => impl_IsControl.f k l s n x f) (isControl l s n x f) := by
 have hj : ∀ b : Bool, Ev (fun k => impl_IsControl.j0 k l b s n x f) (!b && (if x.length = 0 then decide (f = 0) else decide (1 ≤ f ∧ f ≤ clearBetween l s x))) := by
  intro b
  refine Ev.succ ?_
  cases b
  ·simp only [impl_IsControl.j0, Bool.false_eq_true, if_false, Bool.not_false, Bool.true_and]
   by_cases h0 : x.length = 0
   ·simp only [h0, show ((0 : Nat) : Int) = 0 from rfl, if_true]
    exact Ev.now _
   ·simp only [h0, show ¬ (x.length : Int) = 0 by omega, if_false]
    refine Ev.bind (impl_ClearBetween_eq l s x hl hs hx) ?_
    simp only [impl_InRange_eq, Option.bind_some]
    exact Ev.now _
  ·simp only [impl_IsControl.j0, if_true, Bool.not_true, Bool.false_and]; exact Ev.now _
 unfold impl_IsControl.f isControl
 refine Ev.bind (impl_IsTogether_eq l s hl hs) ?_
 cases together l s
 ·simp only [Bool.false_eq_true, if_false, Bool.false_and]; exact hj true
 simp only [if_true, Bool.true_and]
 refine Ev.bind (impl_IsTogether_eq l x hl hx) ?_
 cases together l x
 ·simp only [Bool.false_eq_true, if_false, Bool.false_and]; exact hj true
 simp only [if_true, Bool.true_and]
 by_cases h0 : s.length = 0
 ·simp only [h0, show ((0 : Nat) : Int) = 0 from rfl, if_true, decide_true, Bool.not_true, Bool.false_and]; exact hj true
 ·simp only [h0, show ¬ (s.length : Int) = 0 by omega, if_false, decide_false, Bool.not_false, Bool.true_and, impl_InRange_eq, Option.bind_some]
  refine evq (hj _) ?_
  rw [Bool.not_not]
theorem spec_IsControl_eq (l : List S52) (s : List Int) (n : Int) (x : List Int) (f : Int) (hl : l.length ≤ 1048576) (hs : s.length ≤ 1048576) (hx : x.length ≤ 1048576) : Ev (fun k => spec_IsControl.f k l s n x f) (isControl l s n x f) := by
 have hj : ∀ b : Bool, Ev (fun k => spec_IsControl.j0 k l b s n x f) (!b && (if x.length = 0 then decide (f = 0) else decide (1 ≤ f ∧ f ≤ clearBetween l s x))) := by
  intro b
  refine Ev.succ ?_
  cases b
  ·simp only [spec_IsControl.j0, Bool.false_eq_true, if_false, Bool.not_false, Bool.true_and]
   by_cases h0 : x.length = 0
   ·simp only [h0, show ((0 : Nat) : Int) = 0 from rfl, if_true]
    exact Ev.now _
   ·simp only [h0, show ¬ (x.length : Int) = 0 by omega, if_false]
    refine Ev.bind (spec_ClearBetween_eq l s x hl hs hx) ?_
    simp only [spec_l1In_eq, Option.bind_some]
    exact Ev.now _
  ·simp only [spec_IsControl.j0, if_true, Bool.not_true, Bool.false_and]; exact Ev.now _
 unfold spec_IsControl.f isControl
 by_cases h0 : s.length = 0
 ·simp only [h0, show ((0 : Nat) : Int) = 0 from rfl, if_true, decide_true, Bool.not_true, Bool.and_false, Bool.false_and]; exact hj true
 simp only [h0, show ¬ (s.length : Int) = 0 by omega, if_false, decide_false, Bool.not_false, Bool.and_true]
 refine Ev.bind (spec_IsTogether_eq l s hl hs) ?_
 cases together l s
 ·simp only [Bool.false_eq_true, if_false, Bool.false_and]; exact hj true
 simp only [if_true, Bool.true_and]
 refine Ev.bind (spec_IsTogether_eq l x hl hx) ?_
 cases together l x
 ·simp only [Bool.false_eq_true, if_false, Bool.false_and]; exact hj true
 simp only [if_true, Bool.true_and, spec_l1In_eq, Option.bind_some]
 refine evq (hj _) ?_
 rw [Bool.not_not]
def walkAt (l : List S52) (x : Int) : Bool := decide (0 ≤ findP l x) && decide ((rd_T52 l (findP l x)).f1 = 2)
def leastGreen (l : List S52) (s : List Int) : Int := if s.any (walkAt l) then 7 else 5
theorem impl_LeastGreen_eq (l : List S52) (s : List Int) (hl : l.length ≤ 1048576) (hs : s.length ≤ 1048576) : Ev (fun k => impl_LeastGreen.f k l s) (leastGreen l s) := by
 unfold impl_LeastGreen.f leastGreen
 have key : ∀ (d i : Nat), i + d = s.length → Ev (fun k => impl_LeastGreen.l0 k l s (s.length : Int) (i : Int)) (if (s.drop i).any (walkAt l) then 7 else 5) := by
  intro d
  induction d with
  | zero =>
   intro i hi
   refine Ev.succ ?_
   simp only [impl_LeastGreen.l0, show ¬ (i : Int) < (s.length : Int) by omega, if_false]
   exact evq (Ev.now _) (by rw [List.drop_eq_nil_of_le (show s.length ≤ i by omega)]; rfl)
  | succ d ih =>
   intro i hi
   refine Ev.succ ?_
   have hi2 : i < s.length := by omega
   have ihh := ih (i + 1) (by omega)
   rw [show ((i + 1 : Nat) : Int) = (i : Int) + 1 by omega] at ihh
   have f2 := findP_hi l s[i]
   rw [List.drop_eq_getElem_cons hi2, List.any_cons]
   simp only [impl_LeastGreen.l0, show (i : Int) < (s.length : Int) by omega, show (0 : Int) ≤ (i : Int) by omega, if_true, rd_nat _ _ hi2, impl_FindPath_eq, Option.bind_some, f2, wrap_id (n := (i : Int) + 1) (by omega) (by omega)]
   by_cases h0 : 0 ≤ findP l s[i]
   ·simp only [ge_iff_le, h0, if_true]
    by_cases h1 : (rd_T52 l (findP l s[i])).f1 = 2
    ·have e : walkAt l s[i] = true := by simp [walkAt, h0, h1]
     simp only [h1, if_true, e, Bool.true_or]; exact Ev.now _
    ·have e : walkAt l s[i] = false := by simp [walkAt, h1]
     simp only [h1, if_false, e, Bool.false_or]; exact ihh
   ·have e : walkAt l s[i] = false := by simp [walkAt, h0]
    simp only [ge_iff_le, h0, if_false, e, Bool.false_or]; exact ihh
 simpa using key s.length 0 (by omega)
theorem spec_LeastGreen_eq (l : List S52) (s : List Int) (hl : l.length ≤ 1048576) (hs : s.length ≤ 1048576) : Ev (fun k => spec_LeastGreen.f k l s) (leastGreen l s) := by
 unfold spec_LeastGreen.f leastGreen
 have key : ∀ (d i : Nat), i + d = s.length → Ev (fun k => spec_LeastGreen.l0 k l s (i : Int)) (if (s.drop i).any (walkAt l) then 7 else 5) := by
  intro d
  induction d with
  | zero =>
   intro i hi
   refine Ev.succ ?_
   simp only [spec_LeastGreen.l0, show ¬ (i : Int) < (s.length : Int) by omega, if_false]
   exact evq (Ev.now _) (by rw [List.drop_eq_nil_of_le (show s.length ≤ i by omega)]; rfl)
  | succ d ih =>
   intro i hi
   refine Ev.succ ?_
   have hi2 : i < s.length := by omega
   have ihh := ih (i + 1) (by omega)
   rw [show ((i + 1 : Nat) : Int) = (i : Int) + 1 by omega] at ihh
   have f2 := findP_hi l s[i]
   rw [List.drop_eq_getElem_cons hi2, List.any_cons]
   simp only [spec_LeastGreen.l0, show (i : Int) < (s.length : Int) by omega, show (0 : Int) ≤ (i : Int) by omega, if_true, rd_nat _ _ hi2, wrap_id (n := (i : Int) + 1) (by omega) (by omega)]
   refine Ev.bind (spec_FindPath_eq l _ hl) ?_
   simp only [f2, if_true]
   by_cases h0 : 0 ≤ findP l s[i]
   ·simp only [ge_iff_le, h0, if_true]
    by_cases h1 : (rd_T52 l (findP l s[i])).f1 = 2
    ·have e : walkAt l s[i] = true := by simp [walkAt, h0, h1]
     simp only [h1, if_true, e, Bool.true_or]; exact Ev.now _
    ·have e : walkAt l s[i] = false := by simp [walkAt, h1]
     simp only [h1, if_false, e, Bool.false_or]; exact ihh
   ·have e : walkAt l s[i] = false := by simp [walkAt, h0]
    simp only [ge_iff_le, h0, if_false, e, Bool.false_or]; exact ihh
 simpa using key s.length 0 (by omega)
def canCut (l : List S52) (s : List Int) (n : Int) (x : List Int) (f : Int) : Bool := isControl l s n x f && decide (x.length = 0) && decide (n ≥ (if leastGreen l s = 7 then 7 else 4))
theorem impl_CanCut_eq (l : List S52) (s : List Int) (n : Int) (x : List Int) (f : Int) (hl : l.length ≤ 1048576) (hs : s.length ≤ 1048576) (hx : x.length ≤ 1048576) : Ev (fun k => impl_CanCut.f k l s n x f) (canCut l s n x f) := by
 have hj : ∀ b : Bool, Ev (fun k => impl_CanCut.j0 k l b s n x f) (!b && decide (n ≥ (if leastGreen l s = 7 then 7 else 4))) := by
  intro b
  refine Ev.succ ?_
  cases b
  ·simp only [impl_CanCut.j0, Bool.false_eq_true, if_false, Bool.not_false, Bool.true_and]
   refine Ev.bind (impl_LeastGreen_eq l s hl hs) ?_
   by_cases h : leastGreen l s = 7
   ·simp only [h, if_true]; exact Ev.now _
   ·simp only [h, if_false]; exact Ev.now _
  ·simp only [impl_CanCut.j0, if_true, Bool.not_true, Bool.false_and]; exact Ev.now _
 unfold impl_CanCut.f canCut
 refine Ev.bind (impl_IsControl_eq l s n x f hl hs hx) ?_
 cases isControl l s n x f
 ·simp only [Bool.false_eq_true, if_false, Bool.false_and]; exact hj true
 simp only [if_true, Bool.true_and]
 refine evq (hj _) ?_
 by_cases h : x.length = 0
 ·simp [h]
 ·simp [h, show (x.length : Int) > 0 by omega]
theorem spec_CanCut_eq (l : List S52) (s : List Int) (n : Int) (x : List Int) (f : Int) (hl : l.length ≤ 1048576) (hs : s.length ≤ 1048576) (hx : x.length ≤ 1048576) : Ev (fun k => spec_CanCut.f k l s n x f) (canCut l s n x f) := by
 unfold spec_CanCut.f canCut
 refine Ev.bind (spec_LeastGreen_eq l s hl hs) ?_
 by_cases h : leastGreen l s = 7
 ·simp only [h, if_true]
  refine Ev.bind (spec_IsControl_eq l s n x f hl hs hx) ?_
  cases isControl l s n x f
  ·simp only [Bool.false_eq_true, if_false, Bool.false_and]; exact Ev.now _
  by_cases h0 : x.length = 0
  ·simp only [h0, show ((0 : Nat) : Int) = 0 from rfl, if_true, decide_true, Bool.true_and, Bool.and_self]; exact Ev.now _
  ·simp only [h0, show ¬ (x.length : Int) = 0 by omega, if_true, if_false, decide_false, Bool.and_false, Bool.false_and]; exact Ev.now _
 ·simp only [h, if_false]
  refine Ev.bind (spec_IsControl_eq l s n x f hl hs hx) ?_
  cases isControl l s n x f
  ·simp only [Bool.false_eq_true, if_false, Bool.false_and]; exact Ev.now _
  by_cases h0 : x.length = 0
  ·simp only [h0, show ((0 : Nat) : Int) = 0 from rfl, if_true, decide_true, Bool.true_and, Bool.and_self]; exact Ev.now _
  ·simp only [h0, show ¬ (x.length : Int) = 0 by omega, if_true, if_false, decide_false, Bool.and_false, Bool.false_and]; exact Ev.now _
theorem laws_szControl_eq (s : List Int) (n : Int) (x : List Int) (f a : Int) (hs : s.length ≤ maxLen) (hx : x.length ≤ maxLen) (h0 : 0 ≤ a) (h1 : a ≤ 1048576) : laws_szControl.f s n x f a = some (if (s.length : Int) + x.length ≤ a then a - s.length - x.length else -1) := by
 unfold laws_szControl.f
 simp only [laws_szIntS_eq s a hs h0 h1, Option.bind_some]
 by_cases h : (s.length : Int) ≤ a
 ·simp only [h, if_true, show ¬ (a - (s.length : Int) < 0) by omega, if_false, laws_szIntS_eq x (a - s.length) hx (by omega) (by omega), Option.bind_some]
  by_cases h2 : (x.length : Int) ≤ a - s.length
  ·simp only [h2, if_true, show ¬ (a - (s.length : Int) - x.length < 0) by omega, if_false, show (s.length : Int) + x.length ≤ a by omega]
  ·simp only [h2, if_false, show ((-1 : Int) < 0) by omega, if_true, show ¬ (s.length : Int) + x.length ≤ a by omega]
 ·simp only [h, if_false, show ((-1 : Int) < 0) by omega, if_true, show ¬ (s.length : Int) + x.length ≤ a by omega]
theorem laws_toControl_eq (s : List Int) (n : Int) (x : List Int) (f : Int) (hs : s.length ≤ 1048576) (hx : x.length ≤ 1048576) : Ev (fun k => laws_toControl.f k s n x f) (s, n, x, f) := by
 unfold laws_toControl.f
 exact Ev.bind (laws_toIntS_eq s hs) (Ev.bind (laws_toIntS_eq x hx) (Ev.now _))
theorem laws_eqControl_self (s : List Int) (n : Int) (x : List Int) (f : Int) (hs : s.length ≤ 1048576) (hx : x.length ≤ 1048576) : Ev (fun k => laws_eqControl.f k s n x f s n x f) true := by
 unfold laws_eqControl.f
 refine Ev.bind (laws_eqIntS_self s (by omega)) ?_
 simp only [if_true]
 refine Ev.succ ?_
 simp only [laws_eqControl.j0, if_true]
 refine Ev.succ ?_
 simp only [laws_eqControl.j1, if_true]
 refine Ev.bind (laws_eqIntS_self x (by omega)) ?_
 simp only [if_true]; exact Ev.now _
theorem cbIn_bd (l : List S52) (x : Int) : ∀ (ys : List Int) (m : Int), 0 ≤ m → m ≤ 5 → 0 ≤ cbIn l x ys m ∧ cbIn l x ys m ≤ 5
 | [], m, h0, h5 => ⟨h0, h5⟩
 | y :: ys, m, h0, h5 => by
  have hc := clearOf_bd (rd_T52 l (findP l x)).f0 (rd_T52 l (findP l x)).f1 (rd_T52 l (findP l x)).f2 (rd_T52 l (findP l x)).f3
  show 0 ≤ cbIn l x ys (if confAt l x y then max m (clrOf l x) else m) ∧ cbIn l x ys (if confAt l x y then max m (clrOf l x) else m) ≤ 5
  refine cbIn_bd l x ys _ ?_ ?_
  ·unfold clrOf; split <;> omega
  ·unfold clrOf; split <;> omega
theorem cbOut_bd (l : List S52) (ys : List Int) : ∀ (xs : List Int) (m : Int), 0 ≤ m → m ≤ 5 → 0 ≤ cbOut l xs ys m ∧ cbOut l xs ys m ≤ 5
 | [], m, h0, h5 => ⟨h0, h5⟩
 | x :: xs, m, h0, h5 => by
  have := cbIn_bd l x ys m h0 h5
  exact cbOut_bd l ys xs (cbIn l x ys m) this.1 this.2
theorem clearBetween_bd (l : List S52) (a b : List Int) : 0 ≤ clearBetween l a b ∧ clearBetween l a b ≤ 5 := by
 unfold clearBetween
 split
 ·exact cbOut_bd l _ _ 0 (by omega) (by omega)
 ·omega
def road (l : List S52) (p : Int) : Bool := decide (0 ≤ findP l p) && !decide ((rd_T52 l (findP l p)).f1 = 2)
def cutFor (l : List S52) (s : List Int) (n : Int) (x : List Int) (f p : Int) : List Int × Int × List Int × Int × Bool := if (canCut l s n x f && road l p && !decide (p ∈ s)) = true then (if clearBetween l s [p] = 0 then ([p], 0, [], 0, true) else (s, n, [p], clearBetween l s [p], true)) else (s, n, x, f, false)
theorem cutFor_len (l : List S52) (s : List Int) (n : Int) (x : List Int) (f p : Int) (hs : s.length ≤ 1048576) (hx : x.length ≤ 1048576) : (cutFor l s n x f p).1.length ≤ 1048576 ∧ (cutFor l s n x f p).2.2.1.length ≤ 1048576 := by
 unfold cutFor
 split
 ·split
  ·simp
  ·simp; omega
 ·exact ⟨hs, hx⟩
theorem slices_Clone_eq (l : List Int) (h : l.length ≤ 1048576) : slices_Clone_int_int.f l = some l := by
 unfold slices_Clone_int_int.f; rw [if_pos (by omega)]
theorem impl_cloneControl_eq (s : List Int) (n : Int) (x : List Int) (f : Int) (hs : s.length ≤ 1048576) (hx : x.length ≤ 1048576) : impl_cloneControl.f s n x f = some (s, n, x, f) := by
 unfold impl_cloneControl.f
 rw [slices_Clone_eq s hs, Option.bind_some, slices_Clone_eq x hx, Option.bind_some]
theorem impl_isRoadway_eq (l : List S52) (p : Int) : impl_isRoadway.f l p = some (road l p) := by
 unfold impl_isRoadway.f road
 simp only [impl_FindPath_eq, Option.bind_some]
 have := findP_hi l p
 by_cases h : 0 ≤ findP l p
 ·simp only [ge_iff_le, h, if_true, this, decide_true, Bool.true_and]
  by_cases h2 : (rd_T52 l (findP l p)).f1 = 2 <;> simp [h2]
 ·simp [h]
theorem impl_CutFor_eq (l : List S52) (s : List Int) (n : Int) (x : List Int) (f p : Int) (hl : l.length ≤ 1048576) (hs : s.length ≤ 1048576) (hx : x.length ≤ 1048576) : Ev (fun k => impl_CutFor.f k l s n x f p) (cutFor l s n x f p) := by
 have hj1 : ∀ r, r = (s, n, x, f, false) → Ev (fun k => impl_CutFor.j0 k l p true s n x f s n x f) r := by
  rintro r rfl
  refine Ev.succ ?_
  simp only [impl_CutFor.j0, if_true]; exact Ev.now _
 have hcb := clearBetween_bd l s [p]
 have hj0 : Ev (fun k => impl_CutFor.j0 k l p false s n x f s n x f) (if clearBetween l s [p] = 0 then ([p], 0, [], 0, true) else (s, n, [p], clearBetween l s [p], true)) := by
  refine Ev.succ ?_
  simp only [impl_CutFor.j0, Bool.false_eq_true, if_false, Option.bind_some]
  refine Ev.bind (impl_ClearBetween_eq l s [p] hl hs (by simp)) ?_
  by_cases h : clearBetween l s [p] = 0
  ·simp only [h, if_true, show ¬ ((0 : Int) > 0) by omega, if_false]; exact Ev.now _
  ·simp only [h, if_false, show clearBetween l s [p] > 0 by omega, if_true]; exact Ev.now _
 unfold impl_CutFor.f cutFor
 simp only [impl_cloneControl_eq s n x f hs hx, Option.bind_some]
 refine Ev.bind (impl_CanCut_eq l s n x f hl hs hx) ?_
 cases canCut l s n x f
 ·simp only [Bool.false_eq_true, if_false, Bool.false_and]; exact hj1 _ rfl
 simp only [if_true, Bool.true_and, impl_isRoadway_eq, Option.bind_some]
 cases road l p
 ·simp only [Bool.false_eq_true, if_false, Bool.false_and]; exact hj1 _ rfl
 simp only [if_true, Bool.true_and]
 refine Ev.bind (slices_Contains_eq s p (by omega)) ?_
 by_cases h : p ∈ s
 ·simp only [h, decide_true, Bool.not_true, Bool.false_eq_true, if_false]; exact hj1 _ rfl
 ·simp only [h, decide_false, Bool.not_false, if_true]; exact hj0
theorem spec_l14Copy_eq (s : List Int) (n : Int) (x : List Int) (f : Int) (hs : s.length ≤ 1048576) (hx : x.length ≤ 1048576) : spec_l14Copy.f s n x f = some (s, n, x, f) := by
 unfold spec_l14Copy.f
 simp only [Option.bind_some, List.length_nil, Nat.zero_add, List.nil_append, show s.length < 17592186044416 by omega, show x.length < 17592186044416 by omega, if_true]
theorem spec_CutFor_eq (l : List S52) (s : List Int) (n : Int) (x : List Int) (f p : Int) (hl : l.length ≤ 1048576) (hs : s.length ≤ 1048576) (hx : x.length ≤ 1048576) : Ev (fun k => spec_CutFor.f k l s n x f p) (cutFor l s n x f p) := by
 have hj1 : ∀ r, r = (s, n, x, f, false) → Ev (fun k => spec_CutFor.j0 k l p true s n x f s n x f) r := by
  rintro r rfl
  refine Ev.succ ?_
  simp only [spec_CutFor.j0, if_true]; exact Ev.now _
 have hj0 : Ev (fun k => spec_CutFor.j0 k l p false s n x f s n x f) (if clearBetween l s [p] = 0 then ([p], 0, [], 0, true) else (s, n, [p], clearBetween l s [p], true)) := by
  refine Ev.succ ?_
  simp only [spec_CutFor.j0, Bool.false_eq_true, if_false]
  refine Ev.bind (spec_ClearBetween_eq l s [p] hl hs (by simp)) ?_
  by_cases h : clearBetween l s [p] = 0
  ·simp only [h, if_true]; exact Ev.now _
  ·simp only [h, if_false]; exact Ev.now _
 unfold spec_CutFor.f cutFor
 simp only [spec_l14Copy_eq s n x f hs hx, Option.bind_some]
 refine Ev.bind (spec_FindPath_eq l p hl) ?_
 refine Ev.bind (spec_CanCut_eq l s n x f hl hs hx) ?_
 have hhi := findP_hi l p
 cases canCut l s n x f
 ·simp only [Bool.false_eq_true, if_false, Bool.false_and]; exact hj1 _ rfl
 simp only [if_true, Bool.true_and]
 unfold road
 by_cases h0 : findP l p < 0
 ·simp only [h0, if_true, show ¬ 0 ≤ findP l p by omega, decide_false, Bool.false_and, Bool.false_eq_true, if_false]; exact hj1 _ rfl
 ·simp only [h0, if_false, show 0 ≤ findP l p by omega, if_true, hhi, decide_true, Bool.true_and]
  by_cases h2 : (rd_T52 l (findP l p)).f1 = 2
  ·simp only [h2, if_true, decide_true, Bool.not_true, Bool.false_and, Bool.false_eq_true, if_false]; exact hj1 _ rfl
  ·simp only [h2, if_false, decide_false, Bool.not_false, Bool.true_and]
   refine Ev.bind (spec_l6Has_eq s p (by omega)) ?_
   by_cases h : p ∈ s
   ·simp only [h, decide_true, Bool.not_true, Bool.false_eq_true, if_false]; exact hj1 _ rfl
   ·simp only [h, decide_false, Bool.not_false, if_true]; exact hj0
theorem laws_markControl_eq (s : List Int) (n : Int) (x : List Int) (f c : Int) (hs : s.length ≤ 1048576) (hx : x.length ≤ 1048576) (h0 : 0 ≤ c) (h9 : c ≤ 100000000000000) : Ev (fun k => laws_markControl.f k s n x f c) (c + 1 * s.length + 1 * x.length, markInts s.length c, markInts x.length (c + 1 * s.length)) := by
 unfold laws_markControl.f
 exact Ev.bind (laws_markIntS_eq s c (by omega) h0 (by omega)) (Ev.bind (laws_markIntS_eq x (c + 1 * s.length) (by omega) (by omega) (by omega)) (Ev.now _))
theorem laws_heldControl_eq (a b : Nat) (n f c : Int) (ha : a ≤ 1048576) (hb : b ≤ 1048576) (h0 : 0 ≤ c) (h9 : c ≤ 100000000000000) : Ev (fun k => laws_heldControl.f k (markInts a c) n (markInts b (c + 1 * a)) f c) (c + 1 * a + 1 * b) := by
 unfold laws_heldControl.f
 refine Ev.bind (laws_heldIntS_eq a c (by omega) h0 (by omega)) ?_
 refine Ev.ifn (by omega) ?_
 refine Ev.bind (laws_heldIntS_eq b (c + 1 * a) (by omega) (by omega) (by omega)) ?_
 refine Ev.ifn (by omega) ?_
 exact Ev.now _
theorem holds : ∀ (l0 : List S84) (l1_0 : List Int) (a1_1 : Int) (l1_2 : List Int) (a1_3 : Int) (a2 : Int), l0.length ≤ maxLen → (∀ x ∈ l0, wf84 x) → l1_0.length ≤ maxLen → (∀ x ∈ l1_0, (Lit.int .i64 x).wf = true) → (Lit.int .i64 a1_1).wf = true → l1_2.length ≤ maxLen → (∀ x ∈ l1_2, (Lit.int .i64 x).wf = true) → (Lit.int .i64 a1_3).wf = true → (Lit.int .i64 a2).wf = true → ∃ k, laws_FnExactCutFor.f k l0 l1_0 a1_1 l1_2 a1_3 a2 = some true := by
 intro l s n x f p hl _ hs _ _ hx _ _ _
 apply Ev.rounds
 unfold laws_FnExactCutFor.f
 refine Ev.szb (laws_szPathS_eq l 1048576 hl (by omega) (by omega)) (fun h1 => ?_) (fun _ => by exact Ev.now _)
 refine Ev.ifn (by omega) ?_
 simp only [laws_szControl_eq s n x f _ hs hx (show (0 : Int) ≤ 1048576 - (l.length : Int) by omega) (by omega), Option.bind_some]
 by_cases h2 : (s.length : Int) + x.length ≤ 1048576 - (l.length : Int)
 ·simp only [h2, if_true]
  refine Ev.ifn (by omega) ?_
  have hs' : s.length ≤ 1048576 := by omega
  have hx' : x.length ≤ 1048576 := by omega
  have hl' : l.length ≤ 1048576 := by omega
  have hc := cutFor_len (l.map convPath) s n x f p hs' hx'
  generalize hg : cutFor (l.map convPath) s n x f p = g at hc
  have hS := spec_CutFor_eq (l.map convPath) s n x f p (by rw [List.length_map]; exact hl') hs' hx'
  have hI := impl_CutFor_eq (l.map convPath) s n x f p (by rw [List.length_map]; exact hl') hs' hx'
  rw [hg] at hS hI
  obtain ⟨g0, g1, g2, g3, g4⟩ := g
  obtain ⟨hc0, hc2⟩ := hc
  dsimp only at hc0 hc2
  repeat (first
  | exact Ev.now _
  | dsimp only
  | (refine Ev.ifp ?_ ?_; focus (first | rfl | omega | (simp; done)))
  | (refine Ev.ifn ?_ ?_; focus (first | omega | (simp; done)))
  | refine Ev.bindE (laws_eqControl_self ..) ?_
  | refine Ev.bind (laws_eqIntS_self _ (by first | omega | (simp only [List.length_map, markInts_length]; omega) | (simp; omega))) ?_
  | refine Ev.bindE (laws_eqPath_self ..) ?_
  | refine Ev.bind (laws_eqPathS_self _ (by first | omega | (simp only [List.length_map, markInts_length]; omega) | (simp; omega))) ?_
  | refine Ev.bind (laws_heldIntS_eq _ _ (by first | omega | (simp only [List.length_map, markInts_length]; omega) | (simp; omega)) (by omega) (by first | omega | (simp only [List.length_map, markInts_length]; omega) | (simp; omega))) ?_
  | refine Ev.bind (laws_markIntS_eq _ _ (by first | omega | (simp only [List.length_map, markInts_length]; omega) | (simp; omega)) (by omega) (by first | omega | (simp only [List.length_map, markInts_length]; omega) | (simp; omega))) ?_
  | refine Ev.bind (laws_markPathS_eq _ _ (by first | omega | (simp only [List.length_map, markInts_length]; omega) | (simp; omega)) (by omega) (by first | omega | (simp only [List.length_map, markInts_length]; omega) | (simp; omega))) ?_
  | refine Ev.szb (laws_szIntS_eq _ _ (by assumption) (by omega) (by omega)) (fun _ => ?_) (fun _ => ?_)
  | refine Ev.szb (laws_szPathS_eq _ _ (by assumption) (by omega) (by omega)) (fun _ => ?_) (fun _ => ?_)
  | refine Ev.bindE (laws_toControl_eq ..) ?_
  | refine Ev.bind (laws_toIntS_eq _ (by first | omega | (simp only [List.length_map, markInts_length]; omega) | (simp; omega))) ?_
  | refine Ev.bindE (laws_toPath_eq ..) ?_
  | refine Ev.bind (laws_toPathS_eq _ (by first | omega | (simp only [List.length_map, markInts_length]; omega) | (simp; omega))) ?_
  | refine Ev.bind (hS) ?_
  | refine Ev.bind (hI) ?_
  | refine Ev.bind (laws_toControl_eq s n x f hs' hx') ?_
  | refine Ev.bind (laws_eqControl_self g0 g1 g2 g3 hc0 hc2) ?_
  | refine Ev.bind (laws_eqControl_self s n x f hs' hx') ?_
  | refine Ev.bind (laws_markControl_eq s n x f _ hs' hx' (by first | omega | (simp only [List.length_map, markInts_length]; omega) | (simp; omega)) (by first | omega | (simp only [List.length_map, markInts_length]; omega) | (simp; omega))) ?_
  | refine Ev.bind (laws_markControl_eq g0 g1 g2 g3 _ hc0 hc2 (by first | omega | (simp only [List.length_map, markInts_length]; omega) | (simp; omega)) (by first | omega | (simp only [List.length_map, markInts_length]; omega) | (simp; omega))) ?_
  | refine Ev.bind (laws_heldControl_eq _ _ g1 g3 _ hc0 hc2 (by first | omega | (simp only [List.length_map, markInts_length]; omega) | (simp; omega)) (by first | omega | (simp only [List.length_map, markInts_length]; omega) | (simp; omega))) ?_
  | (refine Ev.succ (g := fun k => laws_FnExactCutFor.j0 k _ _ _ _ _ _ _ _ _ _ _ _ _ _ _ _ _ _ _ _ _ _) ?_; simp only [laws_FnExactCutFor.j0])
  | (refine Ev.succ (g := fun k => laws_FnExactCutFor.j1 k _ _ _ _ _ _ _ _ _ _ _ _ _ _ _ _) ?_; simp only [laws_FnExactCutFor.j1])
  | (refine Ev.succ (g := fun k => laws_FnExactCutFor.j2 k _ _ _ _ _ _) ?_; simp only [laws_FnExactCutFor.j2])
  | (refine Ev.ifd (fun _ => by exact Ev.now _) (fun _ => ?_)))
 ·simp only [h2, if_false, show ((-1 : Int) < 0) by omega, if_true]; exact Ev.now _
end Go.Proofs.Ytopchlafmfgpnaa.Pure.FnExactCutFor
