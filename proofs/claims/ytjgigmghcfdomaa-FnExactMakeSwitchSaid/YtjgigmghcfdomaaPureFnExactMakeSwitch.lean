/- The law FnExactMakeSwitch of the given program, as a statement over numbers and lists alone, for all arguments; no conditions but the machine's own bounds. -/
import Derived.Test.YtjgigmghcfdomaaPFnExactMakeSwitchx
import Derived.Test.YtjgigmghcfdomaaBase
namespace Go.Proofs.Ytjgigmghcfdomaa.Pure.FnExactMakeSwitch
open Go.RowKit Go.Proofs.Ytjgigmghcfdomaa.PFnExactMakeSwitch Go.Proofs.YtjgigmghcfdomaaW.PrintWords Go.Proofs.YtjgigmghcfdomaaW.PrintLast Go.Proofs.Ytjgigmghcfdomaa.Bas
set_option linter.unusedVariables false
set_option linter.unusedSimpArgs false
def wf84 (x : S84) : Prop := (Lit.int .i64 x.f0).wf = true ∧ (Lit.int .i64 x.f1).wf = true ∧ (Lit.int .i64 x.f2).wf = true ∧ (Lit.int .i64 x.f3).wf = true
def wf81 (x : S81) : Prop := (x.f0.length ≤ maxLen ∧ ∀ y ∈ x.f0, (Lit.int .i64 y).wf = true) ∧ (Lit.int .i64 x.f1).wf = true
theorem spec_l1In_eq (a lo hi : Int) : spec_l1In.f a lo hi = some (decide (lo ≤ a ∧ a ≤ hi)) := by
 unfold spec_l1In.f; grind
theorem impl_InRange_eq (a lo hi : Int) : impl_InRange.f a lo hi = some (decide (lo ≤ a ∧ a ≤ hi)) := by
 unfold impl_InRange.f; grind
theorem laws_szIntS_eq (l : List Int) (a : Int) (hl : l.length ≤ maxLen) (h0 : 0 ≤ a) (h1 : a ≤ 1048576) : laws_szIntS.f l a = some (if (l.length : Int) ≤ a then a - l.length else -1) := by
 unfold maxLen at hl; unfold laws_szIntS.f; rw [wrap_id (by omega) (by omega)]; grind
theorem laws_toIntS_eq (l : List Int) (hl : l.length ≤ 1048576) : Ev (fun k => laws_toIntS.f k l) l := by
 unfold laws_toIntS.f
 simp only [show (0 : Int) ≤ l.length by omega, Int.toNat_natCast, show l.length ≤ 35184372088832 by omega, if_true]
 have := Ev.copy (g := fun k ys i => laws_toIntS.l0 k l ys i) l id 0 (fun i ys r h hy hr => by
  refine Ev.succ ?_
  have h1 : (i : Int) < (l.length : Int) := by omega
  have h2 : (0 : Int) ≤ (i : Int) := by omega
  have h3 : (i : Int) < (ys.length : Int) := by omega
  simp only [laws_toIntS.l0, h1, h2, h3, if_true, rd_nat _ _ h, Int.toNat_natCast, wrap_id (n := (i : Int) + 1) (by omega) (by omega)]
  exact hr) (fun ys => by
  refine Ev.succ ?_
  simp only [laws_toIntS.l0, Int.lt_irrefl, if_false]
  exact Ev.now _)
 simpa using this
theorem laws_eqIntS_self (l : List Int) (hl : l.length ≤ 140737488355328) : Ev (fun k => laws_eqIntS.f k l l) true := by
 unfold laws_eqIntS.f
 simp only [if_true]
 have := Ev.all (g := fun k i => laws_eqIntS.l0 k l l i) l.length (fun _ => true) (fun i r h _ hr => by
  refine Ev.succ ?_
  have h1 : (i : Int) < (l.length : Int) := by omega
  have h2 : (0 : Int) ≤ (i : Int) := by omega
  simp only [laws_eqIntS.l0, h1, h2, if_true, wrap_id (n := (i : Int) + 1) (by omega) (by omega)]
  exact hr) (fun i h hf => by simp at hf) (by
  refine Ev.succ ?_
  simp only [laws_eqIntS.l0, Int.lt_irrefl, if_false]
  exact Ev.now _)
 exact evq this (by rw [List.all_eq_true]; intros; rfl)
theorem laws_markIntS_eq (l : List Int) (c : Int) (hl : l.length ≤ 140737488355328) (h0 : 0 ≤ c) (h9 : c ≤ 1000000000000000) : Ev (fun k => laws_markIntS.f k l c) (c + 1 * l.length, markInts l.length c) := by
 unfold laws_markIntS.f
 refine Ev.mark (g := fun k ys c i => laws_markIntS.l0 k ys c i) 1 (fun c => c) l c (fun i ys r h hy hr => ?_) (fun ys c' hy => ?_)
 ·refine Ev.succ ?_
  have h1 : (i : Int) < (ys.length : Int) := by omega
  have h2 : (0 : Int) ≤ (i : Int) := by omega
  simp only [laws_markIntS.l0, h1, h2, if_true, Int.toNat_natCast, wrap_id (n := (i : Int) + 1) (by omega) (by omega), wrap_id (n := c + 1 * (i : Int) + 1) (by omega) (by omega)]
  exact hr
 ·refine Ev.succ ?_
  simp only [laws_markIntS.l0, hy, Int.lt_irrefl, if_false]
  exact Ev.now _
theorem laws_heldIntS_eq (n : Nat) (c : Int) (hl : n ≤ 140737488355328) (h0 : 0 ≤ c) (h9 : c ≤ 1000000000000000) : Ev (fun k => laws_heldIntS.f k (markInts n c) c) (c + 1 * n) := by
 unfold laws_heldIntS.f
 refine Ev.held (g := fun k c' i => laws_heldIntS.l0 k (markInts n c) c' i) 1 n c (fun i r h hr => ?_) (fun c' => ?_)
 ·refine Ev.succ ?_
  have hn := markInts_length n c
  have h1 : (i : Int) < ((markInts n c).length : Int) := by omega
  have h2 : (0 : Int) ≤ (i : Int) := by omega
  have h3 : rd (markInts n c) (i : Int) = c + 1 * (i : Int) := by rw [rd_nat _ _ (by omega)]; simp [markInts]
  simp only [laws_heldIntS.l0, h1, h2, h3, if_true, wrap_id (n := (i : Int) + 1) (by omega) (by omega), wrap_id (n := c + 1 * (i : Int) + 1) (by omega) (by omega)]
  exact hr
 ·refine Ev.succ ?_
  simp only [laws_heldIntS.l0, markInts_length, Int.lt_irrefl, if_false]
  exact Ev.now _
theorem rdT_lawsPath (xs : List S84) (i : Nat) (h : i < xs.length) : rd_T84 xs (i : Int) = xs[i] := by simp [rd_T84, h]
theorem rdT_Path (xs : List S71) (i : Nat) (h : i < xs.length) : rd_T71 xs (i : Int) = xs[i] := by simp [rd_T71, h]
theorem laws_toPath_eq (a0 : Int) (a1 : Int) (a2 : Int) (a3 : Int) : laws_toPath.f a0 a1 a2 a3 = some (a0, a1, a2, a3) := rfl
theorem laws_eqPath_self (a0 : Int) (a1 : Int) (a2 : Int) (a3 : Int) : laws_eqPath.f a0 a1 a2 a3 a0 a1 a2 a3 = some true := by unfold laws_eqPath.f; simp
theorem laws_szPathS_eq (l : List S84) (a : Int) (hl : l.length ≤ maxLen) (h0 : 0 ≤ a) (h1 : a ≤ 1048576) : laws_szPathS.f l a = some (if (l.length : Int) ≤ a then a - l.length else -1) := by
 unfold maxLen at hl; unfold laws_szPathS.f; rw [wrap_id (by omega) (by omega)]; grind
def convPath (x : S84) : S71 := ⟨x.f0, x.f1, x.f2, x.f3⟩
theorem laws_toPathS_eq (l : List S84) (hl : l.length ≤ 1048576) : Ev (fun k => laws_toPathS.f k l) (l.map convPath) := by
 unfold laws_toPathS.f
 simp only [show (0 : Int) ≤ l.length by omega, Int.toNat_natCast, show l.length ≤ 8796093022208 by omega, if_true]
 exact Ev.copy (g := fun k ys i => laws_toPathS.l0 k l ys i) l convPath z71 (fun i ys r h hy hr => by
  refine Ev.succ ?_
  have h1 : (i : Int) < (l.length : Int) := by omega
  have h2 : (0 : Int) ≤ (i : Int) := by omega
  have h3 : (i : Int) < (ys.length : Int) := by omega
  simp only [laws_toPathS.l0, h1, h2, h3, if_true, rdT_lawsPath _ _ h, laws_toPath_eq, Option.bind_some, Int.toNat_natCast, wrap_id (n := (i : Int) + 1) (by omega) (by omega)]
  exact hr) (fun ys => by
  refine Ev.succ ?_
  simp only [laws_toPathS.l0, Int.lt_irrefl, if_false]
  exact Ev.now _)
theorem laws_eqPathS_self (l : List S71) (hl : l.length ≤ 1048576) : Ev (fun k => laws_eqPathS.f k l l) true := by
 unfold laws_eqPathS.f
 simp only [if_true]
 have := Ev.all (g := fun k i => laws_eqPathS.l0 k l l i) l.length (fun _ => true) (fun i r h _ hr => by
  refine Ev.succ ?_
  have h1 : (i : Int) < (l.length : Int) := by omega
  have h2 : (0 : Int) ≤ (i : Int) := by omega
  simp only [laws_eqPathS.l0, h1, h2, if_true, laws_eqPath_self, Option.bind_some, wrap_id (n := (i : Int) + 1) (by omega) (by omega)]
  exact hr) (fun i h hf => by simp at hf) (by
  refine Ev.succ ?_
  simp only [laws_eqPathS.l0, Int.lt_irrefl, if_false]
  exact Ev.now _)
 exact evq this (by rw [List.all_eq_true]; intros; rfl)
def mkPath (c : Int) : S71 := ⟨c, c + 1, c + 2, c + 3⟩
def marksPath (n : Nat) (c : Int) : List S71 := (List.range n).map fun (i : Nat) => mkPath (c + 4 * (i : Int))
theorem marksPath_length (n : Nat) (c : Int) : (marksPath n c).length = n := by simp [marksPath]
theorem laws_markPathS_eq (l : List S71) (c : Int) (hl : l.length ≤ 1048576) (h0 : 0 ≤ c) (h9 : c ≤ 1000000000000000) : Ev (fun k => laws_markPathS.f k l c) (c + 4 * l.length, marksPath l.length c) := by
 unfold laws_markPathS.f
 refine Ev.mark (g := fun k ys c i => laws_markPathS.l0 k ys c i) 4 mkPath l c (fun i ys r h hy hr => ?_) (fun ys c' hy => ?_)
 ·refine Ev.succ ?_
  have h1 : (i : Int) < (ys.length : Int) := by omega
  have h2 : (0 : Int) ≤ (i : Int) := by omega
  have h4 : i < ys.length := by omega
  have r0 : ∀ (zs : List S71) (x : S71), i < zs.length → rd_T71 (zs.set i x) (i : Int) = x := fun zs x hz => by rw [rdT_Path _ _ (by simpa using hz)]; simp
  simp only [laws_markPathS.l0, h1, h2, h4, if_true, Option.bind_some, Int.toNat_natCast, List.set_set, r0, wrap_id (n := (i : Int) + 1) (by omega) (by omega), wrap_id (n := c + 4 * (i : Int) + 1) (by omega) (by omega), wrap_id (n := c + 4 * (i : Int) + 2) (by omega) (by omega), wrap_id (n := c + 4 * (i : Int) + 3) (by omega) (by omega), wrap_id (n := c + 4 * (i : Int) + 4) (by omega) (by omega), show c + 4 * (i : Int) + 1 + 1 = c + 4 * (i : Int) + 2 by omega, show c + 4 * (i : Int) + 2 + 1 = c + 4 * (i : Int) + 3 by omega, show c + 4 * (i : Int) + 3 + 1 = c + 4 * (i : Int) + 4 by omega]
  exact hr
 ·refine Ev.succ ?_
  simp only [laws_markPathS.l0, hy, Int.lt_irrefl, if_false]
  exact Ev.now _
theorem impl_IsPath_eq (a b c d : Int) : impl_IsPath.f a b c d = some (isPath a b c d) := by
 unfold impl_IsPath.f isPath
 simp only [impl_InRange_eq, Option.bind_some]; grind
theorem spec_IsPath_eq (a b c d : Int) : spec_IsPath.f a b c d = some (isPath a b c d) := by
 unfold spec_IsPath.f isPath
 simp only [spec_l1In_eq, Option.bind_some]; grind
def isP (p : S71) : Bool := isPath p.f0 p.f1 p.f2 p.f3
def okAt (l : List S71) (i : Nat) : Bool := isP (rd_T71 l (i : Int)) && (decide (i = 0) || decide ((rd_T71 l ((i : Int) - 1)).f0 < (rd_T71 l (i : Int)).f0))
def arePaths (l : List S71) : Bool := (List.range l.length).all (okAt l) && decide (l.length ≤ 12)
theorem arePaths_len {l : List S71} (h : arePaths l = true) : l.length ≤ 12 := by simp [arePaths] at h; exact h.2
theorem arePaths_at {l : List S71} (h : arePaths l = true) (i : Nat) (hi : i < l.length) : isP l[i] = true := by
 simp only [arePaths, Bool.and_eq_true, List.all_eq_true, List.mem_range] at h
 have := h.1 i hi
 simp only [okAt, Bool.and_eq_true, rdT_Path _ _ hi] at this
 exact this.1
theorem arePaths_asc {l : List S71} (h : arePaths l = true) (i : Nat) (hi : i + 1 < l.length) : (l[i]'(by omega)).f0 < l[i + 1].f0 := by
 simp only [arePaths, Bool.and_eq_true, List.all_eq_true, List.mem_range] at h
 have := h.1 (i + 1) hi
 simp only [okAt, Bool.and_eq_true, rdT_Path _ _ hi] at this
 rw [show ((i + 1 : Nat) : Int) - 1 = (i : Int) by omega, rdT_Path _ _ (by omega)] at this
 simpa using this.2
def findP (l : List S71) (id : Int) : Int := Go.Proofs.Ytjgigmghcfdomaa.Hnd.fidx (fun x : S71 => x.f0 == id) l 0
theorem findP_lo (l : List S71) (id : Int) : -1 ≤ findP l id := fidx_lo _ _
theorem findP_hi (l : List S71) (id : Int) : findP l id < l.length := fidx_hi _ _
theorem findP_at {l : List S71} {id : Int} (h : 0 ≤ findP l id) : ∃ (i : Nat) (hi : i < l.length), findP l id = (i : Int) ∧ l[i].f0 = id := by
 rcases fidx_cases (fun x : S71 => x.f0 == id) l 0 with ⟨h1, _⟩ | ⟨i, h1, h2, h3, _⟩
 ·unfold findP at h; omega
 ·exact ⟨i, h2, by unfold findP; omega, by simpa using h3⟩
theorem findP_none {l : List S71} {id : Int} (h : findP l id < 0) : ∀ x ∈ l, x.f0 ≠ id := by
 rcases fidx_cases (fun x : S71 => x.f0 == id) l 0 with ⟨_, h2⟩ | ⟨i, h1, _⟩
 ·intro x hx; simpa using h2 x hx
 ·unfold findP at h; omega
theorem spec_ArePaths_eq (l : List S71) (hl : l.length ≤ 1048576) : Ev (fun k => spec_ArePaths.f k l) (arePaths l) := by
 unfold spec_ArePaths.f arePaths
 refine evAnd (g := fun k i => spec_ArePaths.l0 k l i) (fun i r h hP hr => ?_) (fun i h hP => ?_) ?_
 ·refine Ev.succ ?_
  unfold okAt isP at hP
  rw [Bool.and_eq_true] at hP
  simp only [spec_ArePaths.l0, show (i : Int) < (l.length : Int) by omega, show (0 : Int) ≤ (i : Int) by omega, if_true, spec_IsPath_eq, Option.bind_some, hP.1, wrap_id (n := (i : Int) + 1) (by omega) (by omega)]
  by_cases h0 : i = 0
  ·subst h0; simpa using hr
  ·have h2 := hP.2
   rw [decide_eq_false h0, Bool.false_or, decide_eq_true_eq] at h2
   simp only [show (i : Int) > 0 by omega, if_true, wrap_id (n := (i : Int) - 1) (by omega) (by omega), show (0 : Int) ≤ (i : Int) - 1 by omega, show (i : Int) - 1 < (l.length : Int) by omega, show ¬ (rd_T71 l ((i : Int) - 1)).f0 ≥ (rd_T71 l (i : Int)).f0 by omega, if_false]
   exact hr
 ·refine Ev.succ ?_
  unfold okAt isP at hP
  simp only [spec_ArePaths.l0, show (i : Int) < (l.length : Int) by omega, show (0 : Int) ≤ (i : Int) by omega, if_true, spec_IsPath_eq, Option.bind_some, wrap_id (n := (i : Int) + 1) (by omega) (by omega)]
  cases hp : isPath (rd_T71 l (i : Int)).f0 (rd_T71 l (i : Int)).f1 (rd_T71 l (i : Int)).f2 (rd_T71 l (i : Int)).f3
  ·simp only [Bool.false_eq_true, if_false]; exact Ev.now _
  ·rw [hp, Bool.true_and, Bool.or_eq_false_iff, decide_eq_false_iff_not, decide_eq_false_iff_not] at hP
   simp only [if_true, show (i : Int) > 0 by omega, wrap_id (n := (i : Int) - 1) (by omega) (by omega), show (0 : Int) ≤ (i : Int) - 1 by omega, show (i : Int) - 1 < (l.length : Int) by omega, show (rd_T71 l ((i : Int) - 1)).f0 ≥ (rd_T71 l (i : Int)).f0 by omega]
   exact Ev.now _
 ·refine Ev.succ ?_
  simp only [spec_ArePaths.l0, Int.lt_irrefl, if_false]
  exact evq (Ev.now _) (by by_cases h : l.length ≤ 12 <;> simp [h] <;> omega)
theorem impl_ArePaths_eq (l : List S71) (hl : l.length ≤ 1048576) : Ev (fun k => impl_ArePaths.f k l) (arePaths l) := by
 unfold impl_ArePaths.f arePaths
 by_cases h12 : l.length ≤ 12
 ·simp only [show ¬ ((l.length : Int) > 12) by omega, if_false, decide_eq_true h12]
  refine evAnd (g := fun k i => impl_ArePaths.l0 k l l (l.length : Int) i) (fun i r h hP hr => ?_) (fun i h hP => ?_) ?_
  ·refine Ev.succ ?_
   unfold okAt isP at hP
   rw [Bool.and_eq_true] at hP
   simp only [impl_ArePaths.l0, show (i : Int) < (l.length : Int) by omega, show (0 : Int) ≤ (i : Int) by omega, if_true, impl_IsPath_eq, Option.bind_some, hP.1, wrap_id (n := (i : Int) + 1) (by omega) (by omega)]
   by_cases h0 : i = 0
   ·subst h0; simpa using hr
   ·have h2 := hP.2
    rw [decide_eq_false h0, Bool.false_or, decide_eq_true_eq] at h2
    simp only [show (i : Int) > 0 by omega, if_true, wrap_id (n := (i : Int) - 1) (by omega) (by omega), show (0 : Int) ≤ (i : Int) - 1 by omega, show (i : Int) - 1 < (l.length : Int) by omega, show ¬ (rd_T71 l (i : Int)).f0 ≤ (rd_T71 l ((i : Int) - 1)).f0 by omega, if_false]
    exact hr
  ·refine Ev.succ ?_
   unfold okAt isP at hP
   simp only [impl_ArePaths.l0, show (i : Int) < (l.length : Int) by omega, show (0 : Int) ≤ (i : Int) by omega, if_true, impl_IsPath_eq, Option.bind_some, wrap_id (n := (i : Int) + 1) (by omega) (by omega)]
   cases hp : isPath (rd_T71 l (i : Int)).f0 (rd_T71 l (i : Int)).f1 (rd_T71 l (i : Int)).f2 (rd_T71 l (i : Int)).f3
   ·simp only [Bool.false_eq_true, if_false]; exact Ev.now _
   ·rw [hp, Bool.true_and, Bool.or_eq_false_iff, decide_eq_false_iff_not, decide_eq_false_iff_not] at hP
    simp only [if_true, show (i : Int) > 0 by omega, wrap_id (n := (i : Int) - 1) (by omega) (by omega), show (0 : Int) ≤ (i : Int) - 1 by omega, show (i : Int) - 1 < (l.length : Int) by omega, show (rd_T71 l (i : Int)).f0 ≤ (rd_T71 l ((i : Int) - 1)).f0 by omega]
    exact Ev.now _
  ·refine Ev.succ ?_
   simp only [impl_ArePaths.l0, Int.lt_irrefl, if_false]
   exact Ev.now _
 ·simp only [show (l.length : Int) > 12 by omega, if_true, decide_eq_false h12, Bool.and_false]; exact Ev.now _
theorem spec_FindPath_eq (l : List S71) (id : Int) (hl : l.length ≤ 1048576) : Ev (fun k => spec_FindPath.f k l id) (findP l id) := by
 unfold spec_FindPath.f findP
 have key : ∀ (d i : Nat), i + d = l.length → Ev (fun k => spec_FindPath.l0 k l id (i : Int)) (Go.Proofs.Ytjgigmghcfdomaa.Hnd.fidx (fun x : S71 => x.f0 == id) (l.drop i) (0 + i)) := by
  intro d
  induction d with
  | zero =>
   intro i hi
   refine Ev.succ ?_
   simp only [spec_FindPath.l0, show ¬ (i : Int) < (l.length : Int) by omega, if_false]
   exact evq (Ev.now _) (by rw [List.drop_eq_nil_of_le (by omega)]; rfl)
  | succ d ih =>
   intro i hi
   refine Ev.succ ?_
   have ihh := ih (i + 1) (by omega)
   rw [show ((i + 1 : Nat) : Int) = (i : Int) + 1 by omega] at ihh
   simp only [spec_FindPath.l0, show (i : Int) < (l.length : Int) by omega, show (0 : Int) ≤ (i : Int) by omega, if_true, rdT_Path _ _ (show i < l.length by omega), wrap_id (n := (i : Int) + 1) (by omega) (by omega)]
   rw [fidx_drop _ _ _ _ (by omega)]
   by_cases h1 : l[i].f0 = id
   ·simp only [h1, if_true, beq_self_eq_true, Nat.zero_add]; exact Ev.now _
   ·simp only [h1, if_false, show ((l[i].f0 == id) = true) = False by simp [h1]]; exact ihh
 exact key l.length 0 (by omega)
theorem impl_FindPath_eq (l : List S71) (id : Int) : impl_FindPath.f l id = some (findP l id) := rfl
theorem spec_l6Has_eq (l : List Int) (x : Int) (hl : l.length ≤ 140737488355328) : Ev (fun k => spec_l6Has.f k l x) (decide (x ∈ l)) := by
 unfold spec_l6Has.f
 have key : ∀ (d i : Nat), i + d = l.length → Ev (fun k => spec_l6Has.l0 k l x (i : Int)) (decide (x ∈ l.drop i)) := by
  intro d
  induction d with
  | zero =>
   intro i hi
   refine Ev.succ ?_
   simp only [spec_l6Has.l0, show ¬ (i : Int) < (l.length : Int) by omega, if_false]
   exact evq (Ev.now _) (by simp [List.drop_eq_nil_of_le (show l.length ≤ i by omega)])
  | succ d ih =>
   intro i hi
   refine Ev.succ ?_
   have ihh := ih (i + 1) (by omega)
   rw [show ((i + 1 : Nat) : Int) = (i : Int) + 1 by omega] at ihh
   simp only [spec_l6Has.l0, show (i : Int) < (l.length : Int) by omega, show (0 : Int) ≤ (i : Int) by omega, if_true, rd_nat _ _ (show i < l.length by omega), wrap_id (n := (i : Int) + 1) (by omega) (by omega)]
   rw [mem_drop _ _ (by omega)]
   by_cases h1 : l[i] = x
   ·simp only [h1, if_true, decide_true, Bool.true_or]; exact Ev.now _
   ·rw [decide_eq_false (fun h : x = l[i] => h1 h.symm), Bool.false_or]; simp only [h1, if_false]; exact ihh
 simpa using key l.length 0 (by omega)
theorem slices_Contains_eq (l : List Int) (x : Int) (hl : l.length ≤ 140737488355328) : Ev (fun k => slices_Contains_int_int.f k l x) (decide (x ∈ l)) := by
 unfold slices_Contains_int_int.f slices_Index_int_int.f
 have key : ∀ (d i : Nat), i + d = l.length → ∃ n : Int, Ev (fun k => slices_Index_int_int.l0 k l x (l.length : Int) (i : Int)) n ∧ decide (n ≥ 0) = decide (x ∈ l.drop i) := by
  intro d
  induction d with
  | zero =>
   intro i hi
   refine ⟨-1, Ev.succ ?_, by simp [List.drop_eq_nil_of_le (show l.length ≤ i by omega)]⟩
   simp only [slices_Index_int_int.l0, show ¬ (i : Int) < (l.length : Int) by omega, if_false]
   exact Ev.now _
  | succ d ih =>
   intro i hi
   obtain ⟨n, hn, he⟩ := ih (i + 1) (by omega)
   rw [show ((i + 1 : Nat) : Int) = (i : Int) + 1 by omega] at hn
   rw [mem_drop _ _ (by omega)]
   by_cases h1 : x = l[i]
   ·refine ⟨(i : Int), Ev.succ ?_, by rw [decide_eq_true h1, Bool.true_or]; simp⟩
    simp only [slices_Index_int_int.l0, show (i : Int) < (l.length : Int) by omega, show (0 : Int) ≤ (i : Int) by omega, if_true, rd_nat _ _ (show i < l.length by omega), if_pos h1]
    exact Ev.now _
   ·refine ⟨n, Ev.succ ?_, by rw [he, decide_eq_false h1, Bool.false_or]⟩
    simp only [slices_Index_int_int.l0, show (i : Int) < (l.length : Int) by omega, show (0 : Int) ≤ (i : Int) by omega, if_true, rd_nat _ _ (show i < l.length by omega), if_neg h1, wrap_id (n := (i : Int) + 1) (by omega) (by omega)]
    exact hn
 obtain ⟨n, hn, he⟩ := key l.length 0 (by omega)
 simp only [List.drop_zero] at he
 rw [← he]
 exact Ev.bind (by simpa using hn) (Ev.now _)
theorem spec_Max_eq (a b : Int) : spec_Max.f a b = some (max a b) := by
 unfold spec_Max.f; grind
def clearOf (a b c d : Int) : Int := if isPath a b c d then (if b = 1 then 2 else if b = 3 then 3 else 5) else 0
theorem clearOf_bd (a b c d : Int) : 0 ≤ clearOf a b c d ∧ clearOf a b c d ≤ 5 := by unfold clearOf; split <;> (try split) <;> (try split) <;> omega
theorem impl_ClearOf_eq (a b c d : Int) : impl_ClearOf.f a b c d = some (clearOf a b c d) := by
 unfold impl_ClearOf.f clearOf
 simp only [impl_IsPath_eq, Option.bind_some]; grind
theorem impl_ClearOf_ev (a b c d : Int) : Ev (fun _ => impl_ClearOf.f a b c d) (clearOf a b c d) := Ev.pure (impl_ClearOf_eq a b c d)
theorem spec_ClearOf_eq (a b c d : Int) : spec_ClearOf.f a b c d = some (clearOf a b c d) := by
 unfold spec_ClearOf.f clearOf
 simp only [spec_IsPath_eq, Option.bind_some]
 cases h : isPath a b c d
 ·simp
 ·have := isPath_bd h
  rcases (show b = 1 ∨ b = 2 ∨ b = 3 by omega) with rfl | rfl | rfl <;> simp [rd]
/-- Whether two ways through the square cross, as the function finds it in at most 60 rounds. -/
def inter (a b c d : Int) : Bool := (impl_Interleave.f 60 a b c d).getD false
theorem inter_tab : ∀ f t g u : Fin 4, impl_Interleave.f 60 (2 * (f.val : Int)) (2 * (t.val : Int) + 1) (2 * (g.val : Int)) (2 * (u.val : Int) + 1) = some (inter (2 * (f.val : Int)) (2 * (t.val : Int) + 1) (2 * (g.val : Int)) (2 * (u.val : Int) + 1)) ∧ (f = g → inter (2 * (f.val : Int)) (2 * (t.val : Int) + 1) (2 * (g.val : Int)) (2 * (u.val : Int) + 1) = false) := by decide +kernel
theorem four {n : Int} (h : 0 ≤ n ∧ n ≤ 3) : ∃ f : Fin 4, n = (f.val : Int) := ⟨⟨n.toNat, by omega⟩, by show n = ((n.toNat : Nat) : Int); omega⟩
theorem impl_inter {a b c d : Int} (ha : 0 ≤ a ∧ a ≤ 3) (hb : 0 ≤ b ∧ b ≤ 3) (hc : 0 ≤ c ∧ c ≤ 3) (hd : 0 ≤ d ∧ d ≤ 3) : Ev (fun k => impl_Interleave.f k (2 * a) (2 * b + 1) (2 * c) (2 * d + 1)) (inter (2 * a) (2 * b + 1) (2 * c) (2 * d + 1)) ∧ (a = c → inter (2 * a) (2 * b + 1) (2 * c) (2 * d + 1) = false) := by
 obtain ⟨f, rfl⟩ := four ha
 obtain ⟨t, rfl⟩ := four hb
 obtain ⟨g, rfl⟩ := four hc
 obtain ⟨u, rfl⟩ := four hd
 have := inter_tab f t g u
 exact ⟨Ev.of (fun k => impl_Interleave.mono _ _ _ _ k) this.1, fun e => this.2 (Fin.ext (by omega))⟩
def conflict (a b : S71) : Bool := isP a && isP b && !(decide (a.f1 = 2) && decide (b.f1 = 2)) && (if a.f1 = 2 then decide (b.f2 = a.f2) || decide (b.f3 = a.f2) else if b.f1 = 2 then decide (a.f2 = b.f2) || decide (a.f3 = b.f2) else !decide (a.f2 = b.f2) && (decide (a.f3 = b.f3) || inter (2 * a.f2) (2 * a.f3 + 1) (2 * b.f2) (2 * b.f3 + 1)))
theorem impl_InPlace_eq {n : Int} (h : 0 ≤ n ∧ n ≤ 3) : impl_InPlace.f n = some (2 * n) := by
 unfold impl_InPlace.f; rw [impl_InRange_eq, decide_eq_true h]; simp only [Option.bind_some, if_true]; rw [wrap_id (by omega) (by omega)]
theorem impl_OutPlace_eq {n : Int} (h : 0 ≤ n ∧ n ≤ 3) : impl_OutPlace.f n = some (2 * n + 1) := by
 unfold impl_OutPlace.f; rw [impl_InRange_eq, decide_eq_true h]; simp only [Option.bind_some, if_true]; rw [wrap_id (n := 2 * n) (by omega) (by omega), wrap_id (by omega) (by omega)]
theorem or_beq (p : Prop) [Decidable p] (x y : Int) (A : Nat → Option Bool) (h : A = fun _ => if p then some true else some (x == y)) : Ev A (decide p || decide (x = y)) := by
 subst h
 refine Ev.pure ?_
 by_cases hp : p
 ·simp [hp]
 ·simp [hp]; rfl
theorem impl_Conflict_eq (a b : S71) : Ev (fun k => impl_Conflict.f k a.f0 a.f1 a.f2 a.f3 b.f0 b.f1 b.f2 b.f3) (conflict a b) := by
 have hj : ∀ x : Bool, (x = false → isP a = true ∧ isP b = true ∧ ¬ (a.f1 = 2 ∧ b.f1 = 2)) → Ev (fun k => impl_Conflict.j0 k x a.f0 a.f1 a.f2 a.f3 b.f0 b.f1 b.f2 b.f3) (!x && (if a.f1 = 2 then decide (b.f2 = a.f2) || decide (b.f3 = a.f2) else if b.f1 = 2 then decide (a.f2 = b.f2) || decide (a.f3 = b.f2) else !decide (a.f2 = b.f2) && (decide (a.f3 = b.f3) || inter (2 * a.f2) (2 * a.f3 + 1) (2 * b.f2) (2 * b.f3 + 1)))) := by
  intro x hx
  refine Ev.succ ?_
  cases x
  ·obtain ⟨h1, h2, _⟩ := hx rfl
   have ha := isPath_bd h1
   have hb := isPath_bd h2
   simp only [impl_Conflict.j0, Bool.false_eq_true, if_false, Bool.not_false, Bool.true_and]
   by_cases ka : a.f1 = 2
   ·simp only [ka, if_true]
    exact or_beq _ _ _ _ rfl
   simp only [ka, if_false]
   by_cases kb : b.f1 = 2
   ·simp only [kb, if_true]
    exact or_beq _ _ _ _ rfl
   simp only [kb, if_false]
   have hi := impl_inter (a := a.f2) (b := a.f3) (c := b.f2) (d := b.f3) (by omega) (by omega) (by omega) (by omega)
   simp only [impl_InPlace_eq (n := a.f2) (by omega), impl_OutPlace_eq (n := a.f3) (by omega), impl_InPlace_eq (n := b.f2) (by omega), impl_OutPlace_eq (n := b.f3) (by omega), Option.bind_some]
   by_cases e : a.f2 = b.f2
   ·have := hi.2 e
    simp only [e, if_true, decide_true, Bool.not_true, Bool.false_and]
    rw [e] at hi this
    exact evq (Ev.bind hi.1 (Ev.now _)) this
   ·simp only [e, if_false, decide_false, Bool.not_false, Bool.true_and]
    by_cases e2 : a.f3 = b.f3
    ·simp only [e2, if_true, decide_true, Bool.true_or]; exact Ev.now _
    ·simp only [e2, if_false, decide_false, Bool.false_or]
     exact Ev.bind hi.1 (Ev.now _)
  ·simp only [impl_Conflict.j0, if_true, Bool.not_true, Bool.false_and]; exact Ev.now _
 unfold impl_Conflict.f conflict isP
 simp only [impl_IsPath_eq, Option.bind_some]
 cases h1 : isPath a.f0 a.f1 a.f2 a.f3
 ·simpa using hj true (by simp)
 cases h2 : isPath b.f0 b.f1 b.f2 b.f3
 ·simpa using hj true (by simp)
 by_cases ka : a.f1 = 2
 ·by_cases kb : b.f1 = 2
  ·simpa [ka, kb] using hj true (by simp)
  ·have e : (b.f1 == 2) = false := by simp [kb]
   have := hj false (fun _ => ⟨h1, h2, fun h => kb h.2⟩)
   simp only [ka, e, kb, if_true, decide_true, decide_false, Bool.and_false, Bool.not_false, Bool.true_and] at this ⊢
   exact this
 ·have := hj false (fun _ => ⟨h1, h2, fun h => ka h.1⟩)
  simp only [ka, if_false, if_true, decide_false, Bool.false_and, Bool.not_false, Bool.true_and] at this ⊢
  exact this
theorem inter_tabS : ∀ f t g u : Fin 4, spec_Interleave.f 60 (2 * (f.val : Int)) (2 * (t.val : Int) + 1) (2 * (g.val : Int)) (2 * (u.val : Int) + 1) = some (inter (2 * (f.val : Int)) (2 * (t.val : Int) + 1) (2 * (g.val : Int)) (2 * (u.val : Int) + 1)) := by decide +kernel
theorem spec_inter {a b c d : Int} (ha : 0 ≤ a ∧ a ≤ 3) (hb : 0 ≤ b ∧ b ≤ 3) (hc : 0 ≤ c ∧ c ≤ 3) (hd : 0 ≤ d ∧ d ≤ 3) : Ev (fun k => spec_Interleave.f k (2 * a) (2 * b + 1) (2 * c) (2 * d + 1)) (inter (2 * a) (2 * b + 1) (2 * c) (2 * d + 1)) := by
 obtain ⟨f, rfl⟩ := four ha
 obtain ⟨t, rfl⟩ := four hb
 obtain ⟨g, rfl⟩ := four hc
 obtain ⟨u, rfl⟩ := four hd
 exact Ev.of (fun k => spec_Interleave.mono _ _ _ _ k) (inter_tabS f t g u)
theorem spec_InPlace_eq {n : Int} (h : 0 ≤ n ∧ n ≤ 3) : spec_InPlace.f n = some (2 * n) := by
 unfold spec_InPlace.f; rw [spec_l1In_eq, decide_eq_true h]; simp only [Option.bind_some, if_true]; rw [wrap_id (by omega) (by omega)]
theorem spec_OutPlace_eq {n : Int} (h : 0 ≤ n ∧ n ≤ 3) : spec_OutPlace.f n = some (2 * n + 1) := by
 unfold spec_OutPlace.f; rw [spec_l1In_eq, decide_eq_true h]; simp only [Option.bind_some, if_true]; rw [wrap_id (n := 2 * n) (by omega) (by omega), wrap_id (by omega) (by omega)]
theorem spec_Conflict_eq (a b : S71) : Ev (fun k => spec_Conflict.f k a.f0 a.f1 a.f2 a.f3 b.f0 b.f1 b.f2 b.f3) (conflict a b) := by
 have hj : ∀ x : Bool, (x = false → isP a = true ∧ isP b = true ∧ ¬ (a.f1 = 2 ∧ b.f1 = 2)) → Ev (fun k => spec_Conflict.j0 k x a.f0 a.f1 a.f2 a.f3 b.f0 b.f1 b.f2 b.f3) (!x && (if a.f1 = 2 then decide (b.f2 = a.f2) || decide (b.f3 = a.f2) else if b.f1 = 2 then decide (a.f2 = b.f2) || decide (a.f3 = b.f2) else !decide (a.f2 = b.f2) && (decide (a.f3 = b.f3) || inter (2 * a.f2) (2 * a.f3 + 1) (2 * b.f2) (2 * b.f3 + 1)))) := by
  intro x hx
  refine Ev.succ ?_
  cases x
  ·obtain ⟨h1, h2, _⟩ := hx rfl
   have ha := isPath_bd h1
   have hb := isPath_bd h2
   simp only [spec_Conflict.j0, Bool.false_eq_true, if_false, Bool.not_false, Bool.true_and]
   by_cases ka : a.f1 = 2
   ·simp only [ka, if_true]
    exact or_beq _ _ _ _ rfl
   simp only [ka, if_false]
   by_cases kb : b.f1 = 2
   ·simp only [kb, if_true]
    exact or_beq _ _ _ _ rfl
   simp only [kb, if_false]
   have hi := spec_inter (a := a.f2) (b := a.f3) (c := b.f2) (d := b.f3) (by omega) (by omega) (by omega) (by omega)
   simp only [spec_InPlace_eq (n := a.f2) (by omega), spec_OutPlace_eq (n := a.f3) (by omega), spec_InPlace_eq (n := b.f2) (by omega), spec_OutPlace_eq (n := b.f3) (by omega), Option.bind_some]
   by_cases e : a.f2 = b.f2
   ·simp only [e, if_true, decide_true, Bool.not_true, Bool.false_and]
    exact Ev.now _
   ·simp only [e, if_false, decide_false, Bool.not_false, Bool.true_and]
    by_cases e2 : a.f3 = b.f3
    ·simp only [e2, if_true, decide_true, Bool.true_or]; exact Ev.now _
    ·simp only [e2, if_false, decide_false, Bool.false_or]
     exact Ev.bind hi (Ev.now _)
  ·simp only [spec_Conflict.j0, if_true, Bool.not_true, Bool.false_and]; exact Ev.now _
 unfold spec_Conflict.f conflict isP
 simp only [spec_IsPath_eq, Option.bind_some]
 cases h1 : isPath a.f0 a.f1 a.f2 a.f3
 ·simpa using hj true (by simp)
 cases h2 : isPath b.f0 b.f1 b.f2 b.f3
 ·simpa using hj true (by simp)
 by_cases ka : a.f1 = 2
 ·by_cases kb : b.f1 = 2
  ·simpa [ka, kb] using hj true (by simp)
  ·have e : (b.f1 == 2) = false := by simp [kb]
   have := hj false (fun _ => ⟨h1, h2, fun h => kb h.2⟩)
   simp only [ka, e, kb, if_true, decide_true, decide_false, Bool.and_false, Bool.not_false, Bool.true_and] at this ⊢
   exact this
 ·have := hj false (fun _ => ⟨h1, h2, fun h => ka h.1⟩)
  simp only [ka, if_false, if_true, decide_false, Bool.false_and, Bool.not_false, Bool.true_and] at this ⊢
  exact this
def confAt (l : List S71) (a b : Int) : Bool := conflict (rd_T71 l (findP l a)) (rd_T71 l (findP l b))
def tgAt (l : List S71) (v : List Int) (i : Nat) : Bool := decide (0 ≤ findP l (rd v (i : Int))) && (decide (i = 0) || !decide (rd v (i : Int) ≤ rd v ((i : Int) - 1))) && (List.range i).all (fun (j : Nat) => !confAt l (rd v (i : Int)) (rd v (j : Int)))
def together (l : List S71) (v : List Int) : Bool := (List.range v.length).all (tgAt l v) && arePaths l
theorem together_at {l : List S71} {v : List Int} (h : together l v = true) (i : Nat) (hi : i < v.length) : 0 ≤ findP l (rd v (i : Int)) := by
 unfold together at h
 simp only [Bool.and_eq_true, List.all_eq_true, List.mem_range] at h
 have := h.1 i hi
 unfold tgAt at this
 simp only [Bool.and_eq_true, decide_eq_true_eq] at this
 exact this.1.1
theorem impl_IsTogether_eq (l : List S71) (v : List Int) (hl : l.length ≤ 1048576) (hv : v.length ≤ 1048576) : Ev (fun k => impl_IsTogether.f k l v) (together l v) := by
 unfold impl_IsTogether.f together
 refine Ev.bind (impl_ArePaths_eq l hl) ?_
 cases ha : arePaths l
 ·simp only [Bool.false_eq_true, if_false, Bool.and_false]; exact Ev.now _
 simp only [if_true, Bool.and_true]
 have inner : ∀ (i : Nat) (r : Bool), i < v.length → (∀ j : Nat, j ≤ i → 0 ≤ findP l (rd v (j : Int))) → Ev (fun k => impl_IsTogether.l0 k l v v (v.length : Int) ((i : Int) + 1)) r → Ev (fun k => impl_IsTogether.l1 k l v (findP l (rd v (i : Int))) v (v.length : Int) (i : Int) (v.take i) (((v.take i).length : Nat) : Int) 0) ((List.range i).all (fun (j : Nat) => !confAt l (rd v (i : Int)) (rd v (j : Int))) && r) := by
  intro i r hi hf hr
  have hlt : (v.take i).length = i := by rw [List.length_take]; omega
  have hrd : ∀ j : Nat, j < i → rd (v.take i) (j : Int) = rd v (j : Int) := fun j hj => by rw [rd_nat _ _ (by omega), rd_nat _ _ (by omega)]; simp
  have h1 := hf i (Nat.le_refl i)
  have h2 := findP_hi l (rd v (i : Int))
  rw [hlt]
  refine evAnd (g := fun k j => impl_IsTogether.l1 k l v (findP l (rd v (i : Int))) v (v.length : Int) (i : Int) (v.take i) (i : Int) j) (fun j s h hP hs => ?_) (fun j h hP => ?_) ?_
  ·refine Ev.succ ?_
   have h3 := hf j (by omega)
   have h4 := findP_hi l (rd v (j : Int))
   rw [Bool.not_eq_true'] at hP
   simp only [impl_IsTogether.l1, show (j : Int) < (i : Int) by omega, show (0 : Int) ≤ (j : Int) by omega, hlt, hrd j h, h1, h2, h3, h4, if_true, impl_FindPath_eq, Option.bind_some, wrap_id (n := (j : Int) + 1) (by omega) (by omega)]
   refine Ev.bind (impl_Conflict_eq _ _) ?_
   unfold confAt at hP
   simp only [hP, Bool.false_eq_true, if_false]
   exact hs
  ·refine Ev.succ ?_
   have h3 := hf j (by omega)
   have h4 := findP_hi l (rd v (j : Int))
   rw [Bool.not_eq_false'] at hP
   simp only [impl_IsTogether.l1, show (j : Int) < (i : Int) by omega, show (0 : Int) ≤ (j : Int) by omega, hlt, hrd j h, h1, h2, h3, h4, if_true, impl_FindPath_eq, Option.bind_some]
   refine Ev.bind (impl_Conflict_eq _ _) ?_
   unfold confAt at hP
   simp only [hP, if_true]
   exact Ev.now _
  ·refine Ev.succ ?_
   simp only [impl_IsTogether.l1, Int.lt_irrefl, if_false, wrap_id (n := (i : Int) + 1) (by omega) (by omega)]
   exact hr
 have key : ∀ (d i : Nat), i + d = v.length → (∀ j : Nat, j < i → 0 ≤ findP l (rd v (j : Int))) → Ev (fun k => impl_IsTogether.l0 k l v v (v.length : Int) (i : Int)) ((List.range' i d).all (tgAt l v)) := by
  intro d
  induction d with
  | zero =>
   intro i hi hf
   refine Ev.succ ?_
   simp only [impl_IsTogether.l0, show ¬ (i : Int) < (v.length : Int) by omega, if_false]
   exact Ev.now _
  | succ d ih =>
   intro i hi hf
   refine Ev.succ ?_
   rw [List.range'_succ, List.all_cons]
   simp only [impl_IsTogether.l0, show (i : Int) < (v.length : Int) by omega, show (0 : Int) ≤ (i : Int) by omega, if_true, impl_FindPath_eq, Option.bind_some]
   have hj : ∀ b : Bool, 0 ≤ findP l (rd v (i : Int)) ∨ b = true → Ev (fun k => impl_IsTogether.j1 k l v (i : Int) (findP l (rd v (i : Int))) v (v.length : Int) (i : Int) b) (!b && ((List.range i).all (fun (j : Nat) => !confAt l (rd v (i : Int)) (rd v (j : Int))) && (List.range' (i + 1) d).all (tgAt l v))) := by
    intro b hb
    refine Ev.succ ?_
    cases b
    ·have h0 : 0 ≤ findP l (rd v (i : Int)) := by rcases hb with h | h; exact h; cases h
     simp only [impl_IsTogether.j1, Bool.false_eq_true, if_false, show (0 : Int) ≤ (i : Int) by omega, show (i : Int) ≤ (v.length : Int) by omega, if_true, Bool.not_false, Bool.true_and, Int.toNat_natCast]
     have hf' : ∀ j : Nat, j < i + 1 → 0 ≤ findP l (rd v (j : Int)) := fun j hj => by
      by_cases e : j = i
      ·rw [e]; exact h0
      ·exact hf j (by omega)
     refine inner i _ (by omega) (fun j hj => hf' j (by omega)) ?_
     have := ih (i + 1) (by omega) hf'
     rwa [show ((i + 1 : Nat) : Int) = (i : Int) + 1 by omega] at this
    ·simp only [impl_IsTogether.j1, if_true, Bool.not_true, Bool.false_and]; exact Ev.now _
   by_cases h0 : findP l (rd v (i : Int)) < 0
   ·simp only [h0, if_true]
    exact evq (hj true (.inr rfl)) (by simp [tgAt, show ¬ 0 ≤ findP l (rd v (i : Int)) by omega])
   ·simp only [h0, if_false]
    by_cases hi0 : i = 0
    ·subst hi0
     simp only [show ¬ (((0 : Nat) : Int) > 0) by omega, if_false]
     refine evq (hj false (.inl (by omega))) ?_
     unfold tgAt
     rw [decide_eq_true (show 0 ≤ findP l (rd v ((0 : Nat) : Int)) by omega)]
     simp
    ·simp only [show (i : Int) > 0 by omega, if_true, wrap_id (n := (i : Int) - 1) (by omega) (by omega), show (0 : Int) ≤ (i : Int) - 1 by omega, show (i : Int) - 1 < (v.length : Int) by omega]
     refine evq (hj _ (.inl (by omega))) ?_
     unfold tgAt
     rw [decide_eq_true (show 0 ≤ findP l (rd v (i : Int)) by omega), decide_eq_false hi0]
     simp only [Bool.true_and, Bool.false_or, Bool.and_assoc]
 have := key v.length 0 (by omega) (fun j hj => absurd hj (by omega))
 rwa [← List.range_eq_range'] at this
theorem spec_IsTogether_eq (l : List S71) (v : List Int) (hl : l.length ≤ 1048576) (hv : v.length ≤ 1048576) : Ev (fun k => spec_IsTogether.f k l v) (together l v) := by
 unfold spec_IsTogether.f together
 have inner : ∀ (i : Nat) (r : Bool), i < v.length → (∀ j : Nat, j ≤ i → 0 ≤ findP l (rd v (j : Int))) → Ev (fun k => spec_IsTogether.l0 k l v ((i : Int) + 1)) r → Ev (fun k => spec_IsTogether.l1 k l v (i : Int) (findP l (rd v (i : Int))) 0) ((List.range i).all (fun (j : Nat) => !confAt l (rd v (i : Int)) (rd v (j : Int))) && r) := by
  intro i r hi hf hr
  have h1 := hf i (Nat.le_refl i)
  have h2 := findP_hi l (rd v (i : Int))
  refine evAnd (g := fun k j => spec_IsTogether.l1 k l v (i : Int) (findP l (rd v (i : Int))) j) (fun j s h hP hs => ?_) (fun j h hP => ?_) ?_
  ·refine Ev.succ ?_
   have h3 := hf j (by omega)
   have h4 := findP_hi l (rd v (j : Int))
   rw [Bool.not_eq_true'] at hP
   simp only [spec_IsTogether.l1, show (j : Int) < (i : Int) by omega, show (j : Int) < (v.length : Int) by omega, show (0 : Int) ≤ (j : Int) by omega, h1, h2, if_true, wrap_id (n := (j : Int) + 1) (by omega) (by omega)]
   refine Ev.bind (spec_FindPath_eq l _ hl) ?_
   simp only [h3, h4, if_true]
   refine Ev.bind (spec_Conflict_eq _ _) ?_
   unfold confAt at hP
   simp only [hP, Bool.false_eq_true, if_false]
   exact hs
  ·refine Ev.succ ?_
   have h3 := hf j (by omega)
   have h4 := findP_hi l (rd v (j : Int))
   rw [Bool.not_eq_false'] at hP
   simp only [spec_IsTogether.l1, show (j : Int) < (i : Int) by omega, show (j : Int) < (v.length : Int) by omega, show (0 : Int) ≤ (j : Int) by omega, h1, h2, if_true]
   refine Ev.bind (spec_FindPath_eq l _ hl) ?_
   simp only [h3, h4, if_true]
   refine Ev.bind (spec_Conflict_eq _ _) ?_
   unfold confAt at hP
   simp only [hP, if_true]
   exact Ev.now _
  ·refine Ev.succ ?_
   simp only [spec_IsTogether.l1, Int.lt_irrefl, if_false, wrap_id (n := (i : Int) + 1) (by omega) (by omega)]
   exact hr
 have key : ∀ (d i : Nat), i + d = v.length → (∀ j : Nat, j < i → 0 ≤ findP l (rd v (j : Int))) → Ev (fun k => spec_IsTogether.l0 k l v (i : Int)) ((List.range' i d).all (tgAt l v) && arePaths l) := by
  intro d
  induction d with
  | zero =>
   intro i hi hf
   refine Ev.succ ?_
   simp only [spec_IsTogether.l0, show ¬ (i : Int) < (v.length : Int) by omega, if_false]
   exact Ev.bind (spec_ArePaths_eq l hl) (Ev.now _)
  | succ d ih =>
   intro i hi hf
   refine Ev.succ ?_
   rw [List.range'_succ, List.all_cons]
   simp only [spec_IsTogether.l0, show (i : Int) < (v.length : Int) by omega, show (0 : Int) ≤ (i : Int) by omega, if_true]
   refine Ev.bind (spec_FindPath_eq l _ hl) ?_
   have hj : ∀ b : Bool, 0 ≤ findP l (rd v (i : Int)) ∨ b = true → Ev (fun k => spec_IsTogether.j1 k l v (i : Int) (findP l (rd v (i : Int))) b) (!b && ((List.range i).all (fun (j : Nat) => !confAt l (rd v (i : Int)) (rd v (j : Int))) && ((List.range' (i + 1) d).all (tgAt l v) && arePaths l))) := by
    intro b hb
    refine Ev.succ ?_
    cases b
    ·have h0 : 0 ≤ findP l (rd v (i : Int)) := by rcases hb with h | h; exact h; cases h
     simp only [spec_IsTogether.j1, Bool.false_eq_true, if_false, Bool.not_false, Bool.true_and]
     have hf' : ∀ j : Nat, j < i + 1 → 0 ≤ findP l (rd v (j : Int)) := fun j hj => by
      by_cases e : j = i
      ·rw [e]; exact h0
      ·exact hf j (by omega)
     refine inner i _ (by omega) (fun j hj => hf' j (by omega)) ?_
     have := ih (i + 1) (by omega) hf'
     rwa [show ((i + 1 : Nat) : Int) = (i : Int) + 1 by omega] at this
    ·simp only [spec_IsTogether.j1, if_true, Bool.not_true, Bool.false_and]; exact Ev.now _
   by_cases h0 : findP l (rd v (i : Int)) < 0
   ·simp only [h0, if_true]
    exact evq (hj true (.inr rfl)) (by simp [tgAt, show ¬ 0 ≤ findP l (rd v (i : Int)) by omega])
   ·simp only [h0, if_false]
    by_cases hi0 : i = 0
    ·subst hi0
     simp only [show ¬ (((0 : Nat) : Int) > 0) by omega, if_false]
     refine evq (hj false (.inl (by omega))) ?_
     unfold tgAt
     rw [decide_eq_true (show 0 ≤ findP l (rd v ((0 : Nat) : Int)) by omega)]
     simp [Bool.and_assoc]
    ·simp only [show (i : Int) > 0 by omega, if_true, wrap_id (n := (i : Int) - 1) (by omega) (by omega), show (0 : Int) ≤ (i : Int) - 1 by omega, show (i : Int) - 1 < (v.length : Int) by omega]
     refine evq (hj _ (.inl (by omega))) ?_
     unfold tgAt
     rw [decide_eq_true (show 0 ≤ findP l (rd v (i : Int)) by omega), decide_eq_false hi0]
     simp only [Bool.true_and, Bool.false_or, Bool.and_assoc, ge_iff_le]
 have := key v.length 0 (by omega) (fun j hj => absurd hj (by omega))
 rwa [← List.range_eq_range'] at this
def closes (a b : List Int) : List Int := a.filter (fun x => !decide (x ∈ b))
theorem closes_le (a b : List Int) : (closes a b).length ≤ a.length := List.length_filter_le _ _
theorem closes_mem {a b : List Int} {x : Int} (h : x ∈ closes a b) : x ∈ a := (List.mem_filter.1 h).1
theorem closes_step (a b : List Int) (i : Nat) (h : i < a.length) : closes (a.drop i) b = (if a[i] ∈ b then [] else [a[i]]) ++ closes (a.drop (i + 1)) b := by
 unfold closes
 rw [List.drop_eq_getElem_cons h, List.filter_cons]
 by_cases e : a[i] ∈ b <;> simp [e]
theorem impl_Closes_eq (a b : List Int) (ha : a.length ≤ 1048576) (hb : b.length ≤ 1048576) : Ev (fun k => impl_Closes.f k a b) (closes a b) := by
 unfold impl_Closes.f impl_sieve.f
 have key : ∀ (d i : Nat) (o : List Int), o.length ≤ i → i + d = a.length → Ev (fun k => impl_sieve.l0 k b false o a (a.length : Int) (i : Int)) (o ++ closes (a.drop i) b) := by
  intro d
  induction d with
  | zero =>
   intro i o ho hi
   refine Ev.succ ?_
   simp only [impl_sieve.l0, show ¬ (i : Int) < (a.length : Int) by omega, if_false]
   exact evq (Ev.now _) (by rw [List.drop_eq_nil_of_le (show a.length ≤ i by omega)]; simp [closes])
  | succ d ih =>
   intro i o ho hi
   refine Ev.succ ?_
   have hi2 : i < a.length := by omega
   simp only [impl_sieve.l0, show (i : Int) < (a.length : Int) by omega, show (0 : Int) ≤ (i : Int) by omega, if_true, rd_nat _ _ hi2, wrap_id (n := (i : Int) + 1) (by omega) (by omega), show o.length < 17592186044416 by omega]
   refine Ev.bind (slices_Contains_eq _ _ (by omega)) ?_
   rw [closes_step a b i hi2]
   by_cases e : a[i] ∈ b
   ·have := ih (i + 1) o (by omega) (by omega)
    rw [show ((i + 1 : Nat) : Int) = (i : Int) + 1 by omega] at this
    simpa [e] using this
   ·have := ih (i + 1) (o ++ [a[i]]) (by rw [List.length_append, List.length_singleton]; omega) (by omega)
    rw [show ((i + 1 : Nat) : Int) = (i : Int) + 1 by omega] at this
    simpa [e] using this
 exact Ev.bind (by simpa using key a.length 0 [] (Nat.le_refl _) (by omega)) (Ev.now _)
theorem spec_Closes_eq (a b : List Int) (ha : a.length ≤ 1048576) (hb : b.length ≤ 1048576) : Ev (fun k => spec_Closes.f k a b) (closes a b) := by
 unfold spec_Closes.f
 have key : ∀ (d i : Nat) (o : List Int), o.length ≤ i → i + d = a.length → Ev (fun k => spec_Closes.l0 k a b o (i : Int)) (o ++ closes (a.drop i) b) := by
  intro d
  induction d with
  | zero =>
   intro i o ho hi
   refine Ev.succ ?_
   simp only [spec_Closes.l0, show ¬ (i : Int) < (a.length : Int) by omega, if_false]
   exact evq (Ev.now _) (by rw [List.drop_eq_nil_of_le (show a.length ≤ i by omega)]; simp [closes])
  | succ d ih =>
   intro i o ho hi
   refine Ev.succ ?_
   have hi2 : i < a.length := by omega
   simp only [spec_Closes.l0, show (i : Int) < (a.length : Int) by omega, show (0 : Int) ≤ (i : Int) by omega, if_true, rd_nat _ _ hi2, wrap_id (n := (i : Int) + 1) (by omega) (by omega), show o.length < 17592186044416 by omega]
   refine Ev.bind (spec_l6Has_eq _ _ (by omega)) ?_
   rw [closes_step a b i hi2]
   by_cases e : a[i] ∈ b
   ·have := ih (i + 1) o (by omega) (by omega)
    rw [show ((i + 1 : Nat) : Int) = (i : Int) + 1 by omega] at this
    simpa [e] using this
   ·have := ih (i + 1) (o ++ [a[i]]) (by rw [List.length_append, List.length_singleton]; omega) (by omega)
    rw [show ((i + 1 : Nat) : Int) = (i : Int) + 1 by omega] at this
    simpa [e] using this
 simpa using key a.length 0 [] (Nat.le_refl _) (by omega)
def clrOf (l : List S71) (x : Int) : Int := clearOf (rd_T71 l (findP l x)).f0 (rd_T71 l (findP l x)).f1 (rd_T71 l (findP l x)).f2 (rd_T71 l (findP l x)).f3
def cbIn (l : List S71) (x : Int) (ys : List Int) (m : Int) : Int := ys.foldl (fun m y => if confAt l x y then max m (clrOf l x) else m) m
def cbOut (l : List S71) (xs ys : List Int) (m : Int) : Int := xs.foldl (fun m x => cbIn l x ys m) m
def clearBetween (l : List S71) (a b : List Int) : Int := if together l a && together l b then cbOut l (closes a b) (closes b a) 0 else 0
theorem together_mem {l : List S71} {v : List Int} (h : together l v = true) {x : Int} (hx : x ∈ v) : 0 ≤ findP l x := by
 obtain ⟨i, hi, rfl⟩ := List.getElem_of_mem hx
 have := together_at h i hi
 rwa [rd_nat _ _ hi] at this
theorem mx_max (a b : Int) : mx a b = max a b := by unfold mx; omega
theorem impl_ClearBetween_eq (l : List S71) (a b : List Int) (hl : l.length ≤ 1048576) (ha : a.length ≤ 1048576) (hb : b.length ≤ 1048576) : Ev (fun k => impl_ClearBetween.f k l a b) (clearBetween l a b) := by
 unfold impl_ClearBetween.f clearBetween
 refine Ev.bind (impl_IsTogether_eq l a hl ha) ?_
 cases h1 : together l a
 ·simp only [Bool.false_eq_true, if_false, Bool.false_and]
  refine Ev.succ ?_
  simp only [impl_ClearBetween.j0, if_true]; exact Ev.now _
 simp only [if_true, Bool.true_and]
 refine Ev.bind (impl_IsTogether_eq l b hl hb) ?_
 refine Ev.succ ?_
 cases h2 : together l b
 ·simp only [impl_ClearBetween.j0, Bool.not_false, if_true, Bool.false_eq_true, if_false]; exact Ev.now _
 simp only [impl_ClearBetween.j0, Bool.not_true, Bool.false_eq_true, if_false, if_true]
 refine Ev.bind (impl_Closes_eq a b ha hb) ?_
 have hx : ∀ x ∈ closes a b, 0 ≤ findP l x := fun x h => together_mem h1 (closes_mem h)
 have hy : ∀ x ∈ closes b a, 0 ≤ findP l x := fun x h => together_mem h2 (closes_mem h)
 have lx := closes_le a b
 have ly := closes_le b a
 have hC := impl_Closes_eq b a hb ha
 generalize closes a b = xs at hx lx
 generalize closes b a = ys at hy ly hC
 have inner : ∀ (i : Nat) (hi : i < xs.length) (r : Int → Int), (∀ m : Int, Ev (fun k => impl_ClearBetween.l0 k l a b m xs (xs.length : Int) ((i : Int) + 1)) (r m)) → ∀ (d j : Nat) (m : Int), j + d = ys.length → Ev (fun k => impl_ClearBetween.l1 k l a b m (xs[i]) xs (xs.length : Int) (i : Int) ys (ys.length : Int) (j : Int)) (r (cbIn l xs[i] (ys.drop j) m)) := by
  intro i hi r hr d
  induction d with
  | zero =>
   intro j m hj
   refine Ev.succ ?_
   simp only [impl_ClearBetween.l1, show ¬ (j : Int) < (ys.length : Int) by omega, if_false, wrap_id (n := (i : Int) + 1) (by omega) (by omega)]
   refine evq (hr m) ?_
   rw [List.drop_eq_nil_of_le (show ys.length ≤ j by omega)]; rfl
  | succ d ih =>
   intro j m hj
   refine Ev.succ ?_
   have hj2 : j < ys.length := by omega
   have f1 := hx _ (List.getElem_mem hi)
   have f2 := findP_hi l xs[i]
   have f3 := hy _ (List.getElem_mem hj2)
   have f4 := findP_hi l ys[j]
   simp only [impl_ClearBetween.l1, show (j : Int) < (ys.length : Int) by omega, show (0 : Int) ≤ (j : Int) by omega, if_true, rd_nat _ _ hj2, impl_FindPath_eq, Option.bind_some, f1, f2, f3, f4, wrap_id (n := (j : Int) + 1) (by omega) (by omega)]
   refine Ev.bind (impl_Conflict_eq _ _) ?_
   have ih' := fun m => ih (j + 1) m (by omega)
   rw [show ((j + 1 : Nat) : Int) = (j : Int) + 1 by omega] at ih'
   have e : cbIn l xs[i] (ys.drop j) m = cbIn l xs[i] (ys.drop (j + 1)) (if confAt l xs[i] ys[j] then max m (clrOf l xs[i]) else m) := by
    unfold cbIn; rw [List.drop_eq_getElem_cons hj2, List.foldl_cons]
   rw [e]
   show Ev (fun k => if confAt l xs[i] ys[j] = true then _ else _) _
   cases hc : confAt l xs[i] ys[j]
   ·simp only [Bool.false_eq_true, if_false]; exact ih' m
   ·simp only [if_true]
    refine Ev.bind (impl_ClearOf_ev _ _ _ _) ?_
    simp only [mx_max]
    exact ih' _
 have outer : ∀ (d i : Nat) (m : Int), i + d = xs.length → Ev (fun k => impl_ClearBetween.l0 k l a b m xs (xs.length : Int) (i : Int)) (cbOut l (xs.drop i) ys m) := by
  intro d
  induction d with
  | zero =>
   intro i m hi
   refine Ev.succ ?_
   simp only [impl_ClearBetween.l0, show ¬ (i : Int) < (xs.length : Int) by omega, if_false]
   refine evq (Ev.now _) ?_
   rw [List.drop_eq_nil_of_le (show xs.length ≤ i by omega)]; rfl
  | succ d ih =>
   intro i m hi
   refine Ev.succ ?_
   have hi2 : i < xs.length := by omega
   simp only [impl_ClearBetween.l0, show (i : Int) < (xs.length : Int) by omega, show (0 : Int) ≤ (i : Int) by omega, if_true, rd_nat _ _ hi2]
   refine Ev.bind hC ?_
   have := inner i hi2 (fun m => cbOut l (xs.drop (i + 1)) ys m) (fun m => by
    have := ih (i + 1) m (by omega)
    rwa [show ((i + 1 : Nat) : Int) = (i : Int) + 1 by omega] at this) ys.length 0 m (by omega)
   refine evq this ?_
   unfold cbOut
   rw [List.drop_eq_getElem_cons hi2, List.foldl_cons]; rfl
 exact outer xs.length 0 0 (by omega)
theorem spec_ClearBetween_eq (l : List S71) (a b : List Int) (hl : l.length ≤ 1048576) (ha : a.length ≤ 1048576) (hb : b.length ≤ 1048576) : Ev (fun k => spec_ClearBetween.f k l a b) (clearBetween l a b) := by
 unfold spec_ClearBetween.f clearBetween
 refine Ev.bind (spec_Closes_eq a b ha hb) ?_
 refine Ev.bind (spec_Closes_eq b a hb ha) ?_
 have hx : together l a = true → ∀ x ∈ closes a b, 0 ≤ findP l x := fun h1 x h => together_mem h1 (closes_mem h)
 have hy : together l b = true → ∀ x ∈ closes b a, 0 ≤ findP l x := fun h2 x h => together_mem h2 (closes_mem h)
 have lx := closes_le a b
 have ly := closes_le b a
 generalize closes a b = xs at hx lx
 generalize closes b a = ys at hy ly
 by_cases hn : xs = []
 ·subst hn
  refine Ev.succ ?_
  simp only [spec_ClearBetween.l0, show ¬ (0 : Int) < (([] : List Int).length : Int) by simp, if_false]
  refine Ev.succ ?_
  simp only [spec_ClearBetween.j1, Bool.false_eq_true, if_false]
  refine evq (Ev.now _) ?_
  split <;> rfl
 have hpos : 0 < xs.length := by cases xs with | nil => exact absurd rfl hn | cons x y => simp
 cases h1 : together l a
 ·refine Ev.succ ?_
  simp only [spec_ClearBetween.l0, show (0 : Int) < (xs.length : Int) by omega, if_true]
  refine Ev.bind (spec_IsTogether_eq l a hl ha) ?_
  rw [h1]
  simp only [Bool.false_eq_true, if_false, Bool.false_and]
  refine Ev.succ ?_
  simp only [spec_ClearBetween.j1, Bool.false_eq_true, if_false]; exact Ev.now _
 cases h2 : together l b
 ·refine Ev.succ ?_
  simp only [spec_ClearBetween.l0, show (0 : Int) < (xs.length : Int) by omega, if_true]
  refine Ev.bind (spec_IsTogether_eq l a hl ha) ?_
  rw [h1]
  simp only [if_true]
  refine Ev.bind (spec_IsTogether_eq l b hl hb) ?_
  rw [h2]
  refine Ev.succ ?_
  simp only [spec_ClearBetween.j1, Bool.false_eq_true, if_false, Bool.and_false]; exact Ev.now _
 simp only [Bool.and_self, if_true]
 have hx := hx h1
 have hy := hy h2
 have inner : ∀ (i : Nat) (hi : i < xs.length) (r : Int → Int), (∀ m : Int, Ev (fun k => spec_ClearBetween.l0 k l a b m xs ys ((i : Int) + 1)) (r m)) → ∀ (d j : Nat) (m : Int), j + d = ys.length → Ev (fun k => spec_ClearBetween.l1 k l a b m xs ys (i : Int) (j : Int)) (r (cbIn l xs[i] (ys.drop j) m)) := by
  intro i hi r hr d
  induction d with
  | zero =>
   intro j m hj
   refine Ev.succ ?_
   simp only [spec_ClearBetween.l1, show ¬ (j : Int) < (ys.length : Int) by omega, if_false, wrap_id (n := (i : Int) + 1) (by omega) (by omega)]
   refine evq (hr m) ?_
   rw [List.drop_eq_nil_of_le (show ys.length ≤ j by omega)]; rfl
  | succ d ih =>
   intro j m hj
   refine Ev.succ ?_
   have hj2 : j < ys.length := by omega
   have f1 := hx _ (List.getElem_mem hi)
   have f2 := findP_hi l xs[i]
   have f3 := hy _ (List.getElem_mem hj2)
   have f4 := findP_hi l ys[j]
   simp only [spec_ClearBetween.l1, show (j : Int) < (ys.length : Int) by omega, show (0 : Int) ≤ (j : Int) by omega, show (i : Int) < (xs.length : Int) by omega, show (0 : Int) ≤ (i : Int) by omega, if_true, rd_nat _ _ hj2, rd_nat _ _ hi, wrap_id (n := (j : Int) + 1) (by omega) (by omega)]
   refine Ev.bind (spec_FindPath_eq l _ hl) ?_
   simp only [f1, f2, if_true]
   refine Ev.bind (spec_FindPath_eq l _ hl) ?_
   simp only [f3, f4, if_true]
   refine Ev.bind (spec_Conflict_eq _ _) ?_
   have ih' := fun m => ih (j + 1) m (by omega)
   rw [show ((j + 1 : Nat) : Int) = (j : Int) + 1 by omega] at ih'
   have e : cbIn l xs[i] (ys.drop j) m = cbIn l xs[i] (ys.drop (j + 1)) (if confAt l xs[i] ys[j] then max m (clrOf l xs[i]) else m) := by
    unfold cbIn; rw [List.drop_eq_getElem_cons hj2, List.foldl_cons]
   rw [e]
   show Ev (fun k => if confAt l xs[i] ys[j] = true then _ else _) _
   cases hc : confAt l xs[i] ys[j]
   ·simp only [Bool.false_eq_true, if_false]; exact ih' m
   ·simp only [if_true, spec_ClearOf_eq, spec_Max_eq, Option.bind_some]; exact ih' _
 have outer : ∀ (d i : Nat) (m : Int), i + d = xs.length → Ev (fun k => spec_ClearBetween.l0 k l a b m xs ys (i : Int)) (cbOut l (xs.drop i) ys m) := by
  intro d
  induction d with
  | zero =>
   intro i m hi
   refine Ev.succ ?_
   simp only [spec_ClearBetween.l0, show ¬ (i : Int) < (xs.length : Int) by omega, if_false]
   refine Ev.succ ?_
   simp only [spec_ClearBetween.j1, Bool.false_eq_true, if_false]
   refine evq (Ev.now _) ?_
   rw [List.drop_eq_nil_of_le (show xs.length ≤ i by omega)]; rfl
  | succ d ih =>
   intro i m hi
   refine Ev.succ ?_
   have hi2 : i < xs.length := by omega
   simp only [spec_ClearBetween.l0, show (i : Int) < (xs.length : Int) by omega, if_true]
   refine Ev.bind (spec_IsTogether_eq l a hl ha) ?_
   rw [h1]
   simp only [if_true]
   refine Ev.bind (spec_IsTogether_eq l b hl hb) ?_
   rw [h2]
   refine Ev.succ ?_
   simp only [spec_ClearBetween.j1, if_true]
   have := inner i hi2 (fun m => cbOut l (xs.drop (i + 1)) ys m) (fun m => by
    have := ih (i + 1) m (by omega)
    rwa [show ((i + 1 : Nat) : Int) = (i : Int) + 1 by omega] at this) ys.length 0 m (by omega)
   refine evq this ?_
   unfold cbOut
   rw [List.drop_eq_getElem_cons hi2, List.foldl_cons]; rfl
 exact outer xs.length 0 0 (by omega)
def walkAt (l : List S71) (x : Int) : Bool := decide (0 ≤ findP l x) && decide ((rd_T71 l (findP l x)).f1 = 2)
def leastGreen (l : List S71) (s : List Int) : Int := if s.any (walkAt l) then 7 else 5
theorem impl_LeastGreen_eq (l : List S71) (s : List Int) (hl : l.length ≤ 1048576) (hs : s.length ≤ 1048576) : Ev (fun k => impl_LeastGreen.f k l s) (leastGreen l s) := by
 unfold impl_LeastGreen.f leastGreen
 have key : ∀ (d i : Nat), i + d = s.length → Ev (fun k => impl_LeastGreen.l0 k l s (s.length : Int) (i : Int)) (if (s.drop i).any (walkAt l) then 7 else 5) := by
  intro d
  induction d with
  | zero =>
   intro i hi
   refine Ev.succ ?_
   simp only [impl_LeastGreen.l0, show ¬ (i : Int) < (s.length : Int) by omega, if_false]
   exact evq (Ev.now _) (by rw [List.drop_eq_nil_of_le (show s.length ≤ i by omega)]; rfl)
  | succ d ih =>
   intro i hi
   refine Ev.succ ?_
   have hi2 : i < s.length := by omega
   have ihh := ih (i + 1) (by omega)
   rw [show ((i + 1 : Nat) : Int) = (i : Int) + 1 by omega] at ihh
   have f2 := findP_hi l s[i]
   rw [List.drop_eq_getElem_cons hi2, List.any_cons]
   simp only [impl_LeastGreen.l0, show (i : Int) < (s.length : Int) by omega, show (0 : Int) ≤ (i : Int) by omega, if_true, rd_nat _ _ hi2, impl_FindPath_eq, Option.bind_some, f2, wrap_id (n := (i : Int) + 1) (by omega) (by omega)]
   by_cases h0 : 0 ≤ findP l s[i]
   ·simp only [ge_iff_le, h0, if_true]
    by_cases h1 : (rd_T71 l (findP l s[i])).f1 = 2
    ·have e : walkAt l s[i] = true := by simp [walkAt, h0, h1]
     simp only [h1, if_true, e, Bool.true_or]; exact Ev.now _
    ·have e : walkAt l s[i] = false := by simp [walkAt, h1]
     simp only [h1, if_false, e, Bool.false_or]; exact ihh
   ·have e : walkAt l s[i] = false := by simp [walkAt, h0]
    simp only [ge_iff_le, h0, if_false, e, Bool.false_or]; exact ihh
 simpa using key s.length 0 (by omega)
theorem spec_LeastGreen_eq (l : List S71) (s : List Int) (hl : l.length ≤ 1048576) (hs : s.length ≤ 1048576) : Ev (fun k => spec_LeastGreen.f k l s) (leastGreen l s) := by
 unfold spec_LeastGreen.f leastGreen
 have key : ∀ (d i : Nat), i + d = s.length → Ev (fun k => spec_LeastGreen.l0 k l s (i : Int)) (if (s.drop i).any (walkAt l) then 7 else 5) := by
  intro d
  induction d with
  | zero =>
   intro i hi
   refine Ev.succ ?_
   simp only [spec_LeastGreen.l0, show ¬ (i : Int) < (s.length : Int) by omega, if_false]
   exact evq (Ev.now _) (by rw [List.drop_eq_nil_of_le (show s.length ≤ i by omega)]; rfl)
  | succ d ih =>
   intro i hi
   refine Ev.succ ?_
   have hi2 : i < s.length := by omega
   have ihh := ih (i + 1) (by omega)
   rw [show ((i + 1 : Nat) : Int) = (i : Int) + 1 by omega] at ihh
   have f2 := findP_hi l s[i]
   rw [List.drop_eq_getElem_cons hi2, List.any_cons]
   simp only [spec_LeastGreen.l0, show (i : Int) < (s.length : Int) by omega, show (0 : Int) ≤ (i : Int) by omega, if_true, rd_nat _ _ hi2, wrap_id (n := (i : Int) + 1) (by omega) (by omega)]
   refine Ev.bind (spec_FindPath_eq l _ hl) ?_
   simp only [f2, if_true]
   by_cases h0 : 0 ≤ findP l s[i]
   ·simp only [ge_iff_le, h0, if_true]
    by_cases h1 : (rd_T71 l (findP l s[i])).f1 = 2
    ·have e : walkAt l s[i] = true := by simp [walkAt, h0, h1]
     simp only [h1, if_true, e, Bool.true_or]; exact Ev.now _
    ·have e : walkAt l s[i] = false := by simp [walkAt, h1]
     simp only [h1, if_false, e, Bool.false_or]; exact ihh
   ·have e : walkAt l s[i] = false := by simp [walkAt, h0]
    simp only [ge_iff_le, h0, if_false, e, Bool.false_or]; exact ihh
 simpa using key s.length 0 (by omega)
theorem cbIn_bd (l : List S71) (x : Int) : ∀ (ys : List Int) (m : Int), 0 ≤ m → m ≤ 5 → 0 ≤ cbIn l x ys m ∧ cbIn l x ys m ≤ 5
 | [], m, h0, h5 => ⟨h0, h5⟩
 | y :: ys, m, h0, h5 => by
  have hc := clearOf_bd (rd_T71 l (findP l x)).f0 (rd_T71 l (findP l x)).f1 (rd_T71 l (findP l x)).f2 (rd_T71 l (findP l x)).f3
  show 0 ≤ cbIn l x ys (if confAt l x y then max m (clrOf l x) else m) ∧ cbIn l x ys (if confAt l x y then max m (clrOf l x) else m) ≤ 5
  refine cbIn_bd l x ys _ ?_ ?_
  ·unfold clrOf; split <;> omega
  ·unfold clrOf; split <;> omega
theorem cbOut_bd (l : List S71) (ys : List Int) : ∀ (xs : List Int) (m : Int), 0 ≤ m → m ≤ 5 → 0 ≤ cbOut l xs ys m ∧ cbOut l xs ys m ≤ 5
 | [], m, h0, h5 => ⟨h0, h5⟩
 | x :: xs, m, h0, h5 => by
  have := cbIn_bd l x ys m h0 h5
  exact cbOut_bd l ys xs (cbIn l x ys m) this.1 this.2
theorem clearBetween_bd (l : List S71) (a b : List Int) : 0 ≤ clearBetween l a b ∧ clearBetween l a b ≤ 5 := by
 unfold clearBetween
 split
 ·exact cbOut_bd l _ _ 0 (by omega) (by omega)
 ·omega
theorem rdT_lawsPart (xs : List S81) (i : Nat) (h : i < xs.length) : rd_T81 xs (i : Int) = xs[i] := by simp [rd_T81, h]
/-- The rows of parts that a law lets through. -/
def lsOk (l : List S81) : Prop := l.length ≤ 1048576 ∧ ∀ x ∈ l, x.f0.length ≤ 1048576
def partsLen : List S81 → Nat
 | [] => 0
 | x :: l => x.f0.length + partsLen l
theorem partsLen_mem : ∀ (l : List S81) (x : S81), x ∈ l → x.f0.length ≤ partsLen l
 | [], _, h => absurd h (by simp)
 | y :: l, x, h => by
  unfold partsLen
  rcases List.mem_cons.1 h with rfl | h
  ·omega
  ·have := partsLen_mem l x h; omega
theorem lsOk_of {l : List S81} {a : Int} (h : (l.length : Int) + partsLen l ≤ a) (ha : a ≤ 1048576) : lsOk l := ⟨by omega, fun x hx => by have := partsLen_mem l x hx; omega⟩
theorem Ev.szp {β : Type} {g : Nat → Option Int} {n a : Int} {f : Nat → Int → Option β} {r : β} (ho : Ev g (if n ≤ a then a - n else -1)) (h1 : n ≤ a → Ev (fun k => f k (a - n)) r) (h2 : ¬ n ≤ a → Ev (fun k => f k (-1)) r) : Ev (fun k => (g k).bind (f k)) r := by
 by_cases h : n ≤ a
 ·rw [if_pos h] at ho; exact Ev.bind ho (h1 h)
 ·rw [if_neg h] at ho; exact Ev.bind ho (h2 h)
theorem rdT_Part (xs : List S85) (i : Nat) (h : i < xs.length) : rd_T85 xs (i : Int) = xs[i] := by simp [rd_T85, h]
def psOk (l : List S85) : Prop := l.length ≤ 1048576 ∧ ∀ x ∈ l, x.f0.length ≤ 1048576
theorem laws_szPart_eq (l : List Int) (f a : Int) (hl : l.length ≤ maxLen) (h0 : 0 ≤ a) (h1 : a ≤ 1048576) : laws_szPart.f l f a = some (if (l.length : Int) ≤ a then a - l.length else -1) := by
 unfold laws_szPart.f
 simp only [laws_szIntS_eq l a hl h0 h1, Option.bind_some]
 by_cases h : (l.length : Int) ≤ a
 ·simp only [h, if_true, show ¬ (a - (l.length : Int) < 0) by omega, if_false]
 ·simp only [h, if_false, show ((-1 : Int) < 0) by omega, if_true]
theorem laws_szPartS_eq (l : List S81) (a : Int) (hl : l.length ≤ maxLen) (hx : ∀ x ∈ l, x.f0.length ≤ maxLen) (h0 : 0 ≤ a) (h1 : a ≤ 1048576) : Ev (fun k => laws_szPartS.f k l a) (if (l.length : Int) + partsLen l ≤ a then a - ((l.length : Int) + partsLen l) else -1) := by
 unfold laws_szPartS.f
 rw [wrap_id (by unfold maxLen at hl; omega) (by unfold maxLen at hl; omega)]
 by_cases hc : (l.length : Int) ≤ a
 ·simp only [show ¬ (a - (l.length : Int) < 0) by omega, if_false]
  have key : ∀ (d i : Nat) (b : Int), i + d = l.length → 0 ≤ b → b ≤ 1048576 → Ev (fun k => laws_szPartS.l0 k l b (i : Int)) (if (partsLen (l.drop i) : Int) ≤ b then b - partsLen (l.drop i) else -1) := by
   intro d
   induction d with
   | zero =>
    intro i b hi hb0 hb1
    refine Ev.succ ?_
    simp only [laws_szPartS.l0, show ¬ (i : Int) < (l.length : Int) by omega, if_false]
    have e : partsLen (l.drop i) = 0 := by rw [List.drop_eq_nil_of_le (show l.length ≤ i by omega)]; rfl
    exact evq (Ev.now _) (by rw [e, if_pos (by omega)]; omega)
   | succ d ih =>
    intro i b hi hb0 hb1
    refine Ev.succ ?_
    have hi2 : i < l.length := by omega
    have hm := hx _ (List.getElem_mem hi2)
    have e : partsLen (l.drop i) = l[i].f0.length + partsLen (l.drop (i + 1)) := by rw [List.drop_eq_getElem_cons hi2]; rfl
    rw [e]
    simp only [laws_szPartS.l0, show (i : Int) < (l.length : Int) by omega, show (0 : Int) ≤ (i : Int) by omega, if_true, rdT_lawsPart _ _ hi2, laws_szPart_eq _ _ b hm hb0 hb1, Option.bind_some, wrap_id (n := (i : Int) + 1) (by omega) (by omega)]
    by_cases h : (l[i].f0.length : Int) ≤ b
    ·have next := ih (i + 1) (b - l[i].f0.length) (by omega) (by omega) (by omega)
     rw [show ((i + 1 : Nat) : Int) = (i : Int) + 1 by omega] at next
     simp only [h, if_true, show ¬ (b - (l[i].f0.length : Int) < 0) by omega, if_false]
     refine evq next ?_
     by_cases h2 : (partsLen (l.drop (i + 1)) : Int) ≤ b - l[i].f0.length
     ·rw [if_pos h2, if_pos (by omega)]; omega
     ·rw [if_neg h2, if_neg (by omega)]
    ·simp only [h, if_false, show ((-1 : Int) < 0) by omega, if_true]
     exact evq (Ev.now _) (by rw [if_neg (by omega)])
  refine evq (key l.length 0 (a - l.length) (by omega) (by omega) (by omega)) ?_
  rw [List.drop_zero]
  by_cases h2 : (partsLen l : Int) ≤ a - l.length
  ·rw [if_pos h2, if_pos (by omega)]; omega
  ·rw [if_neg h2, if_neg (by omega)]
 ·simp only [show a - (l.length : Int) < 0 by omega, if_true]
  exact evq (Ev.now _) (by rw [if_neg (by omega)])
def convPart (x : S81) : S85 := ⟨x.f0, x.f1⟩
theorem psOk_conv {l : List S81} (h : lsOk l) : psOk (l.map convPart) := ⟨by rw [List.length_map]; exact h.1, fun x hx => by
 obtain ⟨y, hy, rfl⟩ := List.mem_map.1 hx
 exact h.2 y hy⟩
theorem laws_toPart_eq (l : List Int) (f : Int) (hl : l.length ≤ 1048576) : Ev (fun k => laws_toPart.f k l f) (l, f) := by
 unfold laws_toPart.f
 exact Ev.bind (laws_toIntS_eq l hl) (Ev.now _)
theorem laws_toPartS_eq (l : List S81) (hl : lsOk l) : Ev (fun k => laws_toPartS.f k l) (l.map convPart) := by
 unfold laws_toPartS.f
 obtain ⟨hl, hx⟩ := hl
 simp only [show (0 : Int) ≤ l.length by omega, Int.toNat_natCast, show l.length ≤ 8796093022208 by omega, if_true]
 exact Ev.copy (g := fun k ys i => laws_toPartS.l0 k l ys i) l convPart z85 (fun i ys r h hy hr => by
  refine Ev.succ ?_
  have h1 : (i : Int) < (l.length : Int) := by omega
  have h2 : (0 : Int) ≤ (i : Int) := by omega
  have h3 : (i : Int) < (ys.length : Int) := by omega
  simp only [laws_toPartS.l0, h1, h2, h3, if_true, rdT_lawsPart _ _ h, Int.toNat_natCast, wrap_id (n := (i : Int) + 1) (by omega) (by omega)]
  refine Ev.bind (laws_toPart_eq _ _ (hx _ (List.getElem_mem h))) ?_
  exact hr) (fun ys => by
  refine Ev.succ ?_
  simp only [laws_toPartS.l0, Int.lt_irrefl, if_false]
  exact Ev.now _)
theorem laws_eqPart_self (l : List Int) (f : Int) (hl : l.length ≤ 1048576) : Ev (fun k => laws_eqPart.f k l f l f) true := by
 unfold laws_eqPart.f
 refine Ev.bind (laws_eqIntS_self l (by omega)) ?_
 simp only [if_true]
 exact Ev.now _
theorem laws_eqPartS_self (l : List S85) (hl : psOk l) : Ev (fun k => laws_eqPartS.f k l l) true := by
 unfold laws_eqPartS.f
 obtain ⟨hl, hx⟩ := hl
 simp only [if_true]
 have := Ev.all (g := fun k i => laws_eqPartS.l0 k l l i) l.length (fun _ => true) (fun i r h _ hr => by
  refine Ev.succ ?_
  have h1 : (i : Int) < (l.length : Int) := by omega
  have h2 : (0 : Int) ≤ (i : Int) := by omega
  simp only [laws_eqPartS.l0, h1, h2, if_true, rdT_Part _ _ h, wrap_id (n := (i : Int) + 1) (by omega) (by omega)]
  refine Ev.bind (laws_eqPart_self _ _ (hx _ (List.getElem_mem h))) ?_
  simp only [if_true]
  exact hr) (fun i h hf => by simp at hf) (by
  refine Ev.succ ?_
  simp only [laws_eqPartS.l0, Int.lt_irrefl, if_false]
  exact Ev.now _)
 exact evq this (by rw [List.all_eq_true]; intros; rfl)
def covers (l : List S71) (st : List (List Int)) : Bool := arePaths l && (st.all (together l) && l.all (fun x => st.any (fun s => decide (x.f0 ∈ s))))
theorem rdL2 (xs : List (List Int)) (i : Nat) (h : i < xs.length) : rd_L2 xs (i : Int) = xs[i] := by simp [rd_L2, h]
theorem impl_isCovered_eq (st : List (List Int)) (id : Int) : impl_isCovered.f st id = some (st.any (fun s => decide (id ∈ s))) := by
 unfold impl_isCovered.f
 rcases fidx_cases (fun x : List Int => decide (id ∈ x)) st 0 with ⟨h1, h2⟩ | ⟨i, h1, h2, h3, _⟩
 ·rw [h1, decide_eq_false (by omega)]
  have : st.any (fun s => decide (id ∈ s)) = false := List.any_eq_false.2 (fun x hx => by rw [h2 x hx]; simp)
  rw [this]
 ·rw [h1, decide_eq_true (by omega)]
  have : st.any (fun s => decide (id ∈ s)) = true := List.any_eq_true.2 ⟨st[i], List.getElem_mem _, h3⟩
  rw [this]
theorem impl_Covers_eq (l : List S71) (st : List (List Int)) (hl : l.length ≤ 1048576) (hs : st.length ≤ 1048576) (ht : ∀ s ∈ st, s.length ≤ 1048576) : Ev (fun k => impl_Covers.f k l st) (covers l st) := by
 unfold impl_Covers.f covers
 refine Ev.bind (impl_ArePaths_eq l hl) ?_
 cases arePaths l
 ·simp only [Bool.false_eq_true, if_false, Bool.false_and]; exact Ev.now _
 simp only [if_true, Bool.true_and]
 have h1 : ∀ (d i : Nat), i + d = l.length → Ev (fun k => impl_Covers.l1 k st l (l.length : Int) (i : Int)) ((l.drop i).all (fun x => st.any (fun s => decide (x.f0 ∈ s)))) := by
  intro d
  induction d with
  | zero =>
   intro i hi
   refine Ev.succ ?_
   simp only [impl_Covers.l1, show ¬ (i : Int) < (l.length : Int) by omega, if_false]
   exact evq (Ev.now _) (by rw [List.drop_eq_nil_of_le (show l.length ≤ i by omega)]; rfl)
  | succ d ih =>
   intro i hi
   refine Ev.succ ?_
   have hi2 : i < l.length := by omega
   have next := ih (i + 1) (by omega)
   rw [show ((i + 1 : Nat) : Int) = (i : Int) + 1 by omega] at next
   rw [List.drop_eq_getElem_cons hi2, List.all_cons]
   simp only [impl_Covers.l1, show (i : Int) < (l.length : Int) by omega, show (0 : Int) ≤ (i : Int) by omega, if_true, rdT_Path _ _ hi2, impl_isCovered_eq, Option.bind_some, wrap_id (n := (i : Int) + 1) (by omega) (by omega)]
   cases st.any (fun s => decide (l[i].f0 ∈ s))
   ·simp only [Bool.false_eq_true, if_false, Bool.false_and]; exact Ev.now _
   ·simp only [if_true, Bool.true_and]; exact next
 have h0 : ∀ (d i : Nat), i + d = st.length → Ev (fun k => impl_Covers.l0 k l st st (st.length : Int) (i : Int)) ((st.drop i).all (together l) && l.all (fun x => st.any (fun s => decide (x.f0 ∈ s)))) := by
  intro d
  induction d with
  | zero =>
   intro i hi
   refine Ev.succ ?_
   simp only [impl_Covers.l0, show ¬ (i : Int) < (st.length : Int) by omega, if_false]
   exact evq (h1 l.length 0 (by omega)) (by rw [List.drop_eq_nil_of_le (show st.length ≤ i by omega)]; rfl)
  | succ d ih =>
   intro i hi
   refine Ev.succ ?_
   have hi2 : i < st.length := by omega
   have next := ih (i + 1) (by omega)
   rw [show ((i + 1 : Nat) : Int) = (i : Int) + 1 by omega] at next
   rw [List.drop_eq_getElem_cons hi2, List.all_cons]
   simp only [impl_Covers.l0, show (i : Int) < (st.length : Int) by omega, show (0 : Int) ≤ (i : Int) by omega, if_true, rdL2 _ _ hi2, wrap_id (n := (i : Int) + 1) (by omega) (by omega)]
   refine Ev.bind (impl_IsTogether_eq l _ hl (ht _ (List.getElem_mem hi2))) ?_
   cases together l st[i]
   ·simp only [Bool.false_eq_true, if_false, Bool.false_and]; exact Ev.now _
   ·simp only [if_true, Bool.true_and]; exact next
 simpa using h0 st.length 0 (by omega)
theorem spec_Covers_eq (l : List S71) (st : List (List Int)) (hl : l.length ≤ 1048576) (hs : st.length ≤ 1048576) (ht : ∀ s ∈ st, s.length ≤ 1048576) : Ev (fun k => spec_Covers.f k l st) (covers l st) := by
 unfold spec_Covers.f covers
 have h2 : ∀ (i : Nat) (hi : i < l.length) (r : Bool), Ev (fun k => spec_Covers.l1 k l st ((i : Int) + 1)) r → ∀ (d j : Nat) (b : Bool), j + d = st.length → Ev (fun k => spec_Covers.l2 k l st (i : Int) b (j : Int)) ((b || (st.drop j).any (fun s => decide (l[i].f0 ∈ s))) && r) := by
  intro i hi r hr d
  induction d with
  | zero =>
   intro j b hj
   refine Ev.succ ?_
   simp only [spec_Covers.l2, show ¬ (j : Int) < (st.length : Int) by omega, if_false, wrap_id (n := (i : Int) + 1) (by omega) (by omega)]
   rw [List.drop_eq_nil_of_le (show st.length ≤ j by omega)]
   cases b
   ·simp only [Bool.false_eq_true, if_false]; exact evq (Ev.now _) (by simp)
   ·simp only [if_true]; exact evq hr (by simp)
  | succ d ih =>
   intro j b hj
   refine Ev.succ ?_
   have hj2 : j < st.length := by omega
   rw [List.drop_eq_getElem_cons hj2, List.any_cons]
   simp only [spec_Covers.l2, show (j : Int) < (st.length : Int) by omega, show (i : Int) < (l.length : Int) by omega, show (0 : Int) ≤ (i : Int) by omega, show (0 : Int) ≤ (j : Int) by omega, if_true, rdL2 _ _ hj2, rdT_Path _ _ hi, wrap_id (n := (j : Int) + 1) (by omega) (by omega)]
   cases b
   ·simp only [Bool.false_eq_true, if_false]
    refine Ev.bind (spec_l6Has_eq _ _ (Nat.le_trans (ht _ (List.getElem_mem hj2)) (by omega))) ?_
    have next := ih (j + 1) (decide (l[i].f0 ∈ st[j])) (by omega)
    rw [show ((j + 1 : Nat) : Int) = (j : Int) + 1 by omega] at next
    exact evq next (by simp)
   ·simp only [if_true]
    have next := ih (j + 1) true (by omega)
    rw [show ((j + 1 : Nat) : Int) = (j : Int) + 1 by omega] at next
    exact evq next (by simp)
 have h1 : ∀ (d i : Nat), i + d = l.length → Ev (fun k => spec_Covers.l1 k l st (i : Int)) ((l.drop i).all (fun x => st.any (fun s => decide (x.f0 ∈ s))) && arePaths l) := by
  intro d
  induction d with
  | zero =>
   intro i hi
   refine Ev.succ ?_
   simp only [spec_Covers.l1, show ¬ (i : Int) < (l.length : Int) by omega, if_false]
   refine Ev.bind (spec_ArePaths_eq l hl) ?_
   exact evq (Ev.now _) (by rw [List.drop_eq_nil_of_le (show l.length ≤ i by omega)]; rfl)
  | succ d ih =>
   intro i hi
   refine Ev.succ ?_
   have hi2 : i < l.length := by omega
   have next := ih (i + 1) (by omega)
   rw [show ((i + 1 : Nat) : Int) = (i : Int) + 1 by omega] at next
   simp only [spec_Covers.l1, show (i : Int) < (l.length : Int) by omega, if_true]
   refine evq (h2 i hi2 _ next st.length 0 false (by omega)) ?_
   rw [List.drop_eq_getElem_cons hi2, List.all_cons, List.drop_zero, Bool.false_or, Bool.and_assoc]
 have h0 : ∀ (d i : Nat), i + d = st.length → Ev (fun k => spec_Covers.l0 k l st (i : Int)) ((st.drop i).all (together l) && (l.all (fun x => st.any (fun s => decide (x.f0 ∈ s))) && arePaths l)) := by
  intro d
  induction d with
  | zero =>
   intro i hi
   refine Ev.succ ?_
   simp only [spec_Covers.l0, show ¬ (i : Int) < (st.length : Int) by omega, if_false]
   exact evq (h1 l.length 0 (by omega)) (by rw [List.drop_eq_nil_of_le (show st.length ≤ i by omega)]; rfl)
  | succ d ih =>
   intro i hi
   refine Ev.succ ?_
   have hi2 : i < st.length := by omega
   have next := ih (i + 1) (by omega)
   rw [show ((i + 1 : Nat) : Int) = (i : Int) + 1 by omega] at next
   rw [List.drop_eq_getElem_cons hi2, List.all_cons]
   simp only [spec_Covers.l0, show (i : Int) < (st.length : Int) by omega, show (0 : Int) ≤ (i : Int) by omega, if_true, rdL2 _ _ hi2, wrap_id (n := (i : Int) + 1) (by omega) (by omega)]
   refine Ev.bind (spec_IsTogether_eq l _ hl (ht _ (List.getElem_mem hi2))) ?_
   cases together l st[i]
   ·simp only [Bool.false_eq_true, if_false, Bool.false_and]; exact Ev.now _
   ·simp only [if_true, Bool.true_and]; exact next
 refine evq (h0 st.length 0 (by omega)) ?_
 rw [List.drop_zero, Bool.and_comm (arePaths l), Bool.and_assoc]
def partOk (l : List S71) (x : S85) : Bool := !decide (x.f0.length = 0) && (together l x.f0 && decide (leastGreen l x.f0 ≤ x.f1 ∧ x.f1 ≤ 60))
def stagesOf (p : List S85) : List (List Int) := p.map (fun x => x.f0)
def isPlan (l : List S71) (p : List S85) : Bool := decide (1 ≤ (p.length : Int) ∧ (p.length : Int) ≤ 6) && (p.all (partOk l) && covers l (stagesOf p))
theorem isPlan_len {l : List S71} {p : List S85} (h : isPlan l p = true) : 1 ≤ p.length ∧ p.length ≤ 6 := by
 unfold isPlan at h
 simp only [Bool.and_eq_true, decide_eq_true_eq] at h
 omega
theorem isPlan_at {l : List S71} {p : List S85} (h : isPlan l p = true) (i : Nat) (hi : i < p.length) : 5 ≤ p[i].f1 ∧ p[i].f1 ≤ 60 := by
 unfold isPlan at h
 simp only [Bool.and_eq_true, List.all_eq_true] at h
 have := h.2.1 _ (List.getElem_mem hi)
 unfold partOk at this
 simp only [Bool.and_eq_true, decide_eq_true_eq] at this
 have h2 : 5 ≤ leastGreen l p[i].f0 := by unfold leastGreen; split <;> omega
 omega
theorem impl_IsPlan_eq (l : List S71) (p : List S85) (hl : l.length ≤ 1048576) (hp : psOk p) : Ev (fun k => impl_IsPlan.f k l p) (isPlan l p) := by
 unfold impl_IsPlan.f isPlan
 obtain ⟨hp, hx⟩ := hp
 simp only [impl_InRange_eq, Option.bind_some]
 by_cases h : 1 ≤ (p.length : Int) ∧ (p.length : Int) ≤ 6
 ·simp only [decide_eq_true h, if_true, Bool.true_and]
  have key : ∀ (d i : Nat) (acc : List (List Int)), i + d = p.length → acc.length = i → (∀ s ∈ acc, s.length ≤ 1048576) → Ev (fun k => impl_IsPlan.l0 k l acc p (p.length : Int) (i : Int)) ((p.drop i).all (partOk l) && covers l (acc ++ stagesOf (p.drop i))) := by
   intro d
   induction d with
   | zero =>
    intro i acc hi ha hacc
    refine Ev.succ ?_
    simp only [impl_IsPlan.l0, show ¬ (i : Int) < (p.length : Int) by omega, if_false]
    refine Ev.bind (impl_Covers_eq l acc hl (by omega) hacc) ?_
    exact evq (Ev.now _) (by rw [List.drop_eq_nil_of_le (show p.length ≤ i by omega)]; simp [stagesOf])
   | succ d ih =>
    intro i acc hi ha hacc
    refine Ev.succ ?_
    have hi2 : i < p.length := by omega
    have hm := hx _ (List.getElem_mem hi2)
    have next := ih (i + 1) (acc ++ [p[i].f0]) (by omega) (by rw [List.length_append, List.length_singleton]; omega) (fun s hs => by
     rcases List.mem_append.1 hs with h | h
     ·exact hacc s h
     ·rw [List.mem_singleton.1 h]; exact hm)
    rw [show ((i + 1 : Nat) : Int) = (i : Int) + 1 by omega] at next
    rw [List.drop_eq_getElem_cons hi2, List.all_cons]
    simp only [impl_IsPlan.l0, show (i : Int) < (p.length : Int) by omega, show (0 : Int) ≤ (i : Int) by omega, if_true, rdT_Part _ _ hi2, wrap_id (n := (i : Int) + 1) (by omega) (by omega)]
    rw [show partOk l p[i] = (!decide (p[i].f0.length = 0) && (together l p[i].f0 && decide (leastGreen l p[i].f0 ≤ p[i].f1 ∧ p[i].f1 ≤ 60))) from rfl]
    by_cases c1 : p[i].f0.length = 0
    ·simp only [show ((p[i].f0.length : Int) = 0) by omega, if_true, decide_eq_true c1, Bool.not_true, Bool.false_and]; exact Ev.now _
    ·simp only [show ¬ ((p[i].f0.length : Int) = 0) by omega, if_false, decide_eq_false c1, Bool.not_false, Bool.true_and]
     refine Ev.bind (impl_IsTogether_eq l _ hl hm) ?_
     cases together l p[i].f0
     ·simp only [Bool.false_eq_true, if_false, Bool.false_and]; exact Ev.now _
     ·simp only [if_true, Bool.true_and]
      refine Ev.bind (impl_LeastGreen_eq l _ hl hm) ?_
      simp only [impl_InRange_eq, Option.bind_some]
      by_cases c2 : leastGreen l p[i].f0 ≤ p[i].f1 ∧ p[i].f1 ≤ 60
      ·simp only [decide_eq_true c2, if_true, Bool.true_and, show acc.length < 5864062014805 by omega]
       exact evq next (by rw [List.append_assoc]; rfl)
      ·simp only [decide_eq_false c2, Bool.false_eq_true, if_false, Bool.false_and]; exact Ev.now _
  simpa [stagesOf] using key p.length 0 [] (by omega) rfl (by simp)
 ·simp only [decide_eq_false h, Bool.false_eq_true, if_false, Bool.false_and]; exact Ev.now _
theorem spec_l8Stages_eq (p : List S85) (hp : p.length ≤ 1048576) : Ev (fun k => spec_l8Stages.f k p) (stagesOf p) := by
 unfold spec_l8Stages.f
 have key : ∀ (d i : Nat) (acc : List (List Int)), i + d = p.length → acc.length = i → Ev (fun k => spec_l8Stages.l0 k p acc (i : Int)) (acc ++ stagesOf (p.drop i)) := by
  intro d
  induction d with
  | zero =>
   intro i acc hi ha
   refine Ev.succ ?_
   simp only [spec_l8Stages.l0, show ¬ (i : Int) < (p.length : Int) by omega, if_false]
   exact evq (Ev.now _) (by rw [List.drop_eq_nil_of_le (show p.length ≤ i by omega)]; simp [stagesOf])
  | succ d ih =>
   intro i acc hi ha
   refine Ev.succ ?_
   have hi2 : i < p.length := by omega
   have next := ih (i + 1) (acc ++ [p[i].f0]) (by omega) (by rw [List.length_append, List.length_singleton]; omega)
   rw [show ((i + 1 : Nat) : Int) = (i : Int) + 1 by omega] at next
   simp only [spec_l8Stages.l0, show (i : Int) < (p.length : Int) by omega, show (0 : Int) ≤ (i : Int) by omega, if_true, rdT_Part _ _ hi2, show acc.length < 5864062014805 by omega, wrap_id (n := (i : Int) + 1) (by omega) (by omega)]
   exact evq next (by rw [List.drop_eq_getElem_cons hi2, List.append_assoc]; rfl)
 simpa using key p.length 0 [] (by omega) rfl
theorem stagesOf_ok {p : List S85} (hp : psOk p) : ∀ s ∈ stagesOf p, s.length ≤ 1048576 := by
 intro s hs
 obtain ⟨x, hx, rfl⟩ := List.mem_map.1 hs
 exact hp.2 x hx
theorem spec_IsPlan_eq (l : List S71) (p : List S85) (hl : l.length ≤ 1048576) (hp : psOk p) : Ev (fun k => spec_IsPlan.f k l p) (isPlan l p) := by
 unfold spec_IsPlan.f isPlan
 have hst := stagesOf_ok hp
 obtain ⟨hp, hx⟩ := hp
 simp only [spec_l1In_eq, Option.bind_some]
 by_cases h : 1 ≤ (p.length : Int) ∧ (p.length : Int) ≤ 6
 ·simp only [decide_eq_true h, if_true, Bool.true_and]
  have key : ∀ (d i : Nat), i + d = p.length → Ev (fun k => spec_IsPlan.l0 k l p (i : Int)) ((p.drop i).all (partOk l) && covers l (stagesOf p)) := by
   intro d
   induction d with
   | zero =>
    intro i hi
    refine Ev.succ ?_
    simp only [spec_IsPlan.l0, show ¬ (i : Int) < (p.length : Int) by omega, if_false]
    refine Ev.bind (spec_l8Stages_eq p hp) ?_
    refine Ev.bind (spec_Covers_eq l _ hl (by unfold stagesOf; rw [List.length_map]; exact hp) hst) ?_
    exact evq (Ev.now _) (by rw [List.drop_eq_nil_of_le (show p.length ≤ i by omega)]; rfl)
   | succ d ih =>
    intro i hi
    refine Ev.succ ?_
    have hi2 : i < p.length := by omega
    have hm := hx _ (List.getElem_mem hi2)
    have next := ih (i + 1) (by omega)
    rw [show ((i + 1 : Nat) : Int) = (i : Int) + 1 by omega] at next
    rw [List.drop_eq_getElem_cons hi2, List.all_cons]
    simp only [spec_IsPlan.l0, show (i : Int) < (p.length : Int) by omega, show (0 : Int) ≤ (i : Int) by omega, if_true, rdT_Part _ _ hi2, wrap_id (n := (i : Int) + 1) (by omega) (by omega)]
    rw [show partOk l p[i] = (!decide (p[i].f0.length = 0) && (together l p[i].f0 && decide (leastGreen l p[i].f0 ≤ p[i].f1 ∧ p[i].f1 ≤ 60))) from rfl]
    by_cases c1 : p[i].f0.length = 0
    ·simp only [show ((p[i].f0.length : Int) = 0) by omega, if_true, decide_eq_true c1, Bool.not_true, Bool.false_and]; exact Ev.now _
    ·simp only [show ¬ ((p[i].f0.length : Int) = 0) by omega, if_false, decide_eq_false c1, Bool.not_false, Bool.true_and]
     refine Ev.bind (spec_IsTogether_eq l _ hl hm) ?_
     cases together l p[i].f0
     ·simp only [Bool.false_eq_true, if_false, Bool.false_and]; exact Ev.now _
     ·simp only [if_true, Bool.true_and]
      refine Ev.bind (spec_LeastGreen_eq l _ hl hm) ?_
      simp only [spec_l1In_eq, Option.bind_some]
      by_cases c2 : leastGreen l p[i].f0 ≤ p[i].f1 ∧ p[i].f1 ≤ 60
      ·simp only [decide_eq_true c2, if_true, Bool.true_and]
       exact next
      ·simp only [decide_eq_false c2, Bool.false_eq_true, if_false, Bool.false_and]; exact Ev.now _
  simpa using key p.length 0 (by omega)
 ·simp only [decide_eq_false h, Bool.false_eq_true, if_false, Bool.false_and]; exact Ev.now _
theorem nxt (i n : Nat) (hi : i < n) (hn : n ≤ 1048576) : Int.tmod (wrap64 ((i : Int) + 1)) (n : Int) = (((i + 1) % n : Nat) : Int) := by
 rw [wrap_id (by omega) (by omega), tmod_nn (by omega), show (i : Int) + 1 = ((i + 1 : Nat) : Int) by omega, ← Int.natCast_emod]
def nextSt (p : List S85) (i : Nat) : List Int := (rd_T85 p (((i + 1) % p.length : Nat) : Int)).f0
def longP (l : List S71) (p : List S85) (i : Nat) : Int := (rd_T85 p (i : Int)).f1 + clearBetween l (rd_T85 p (i : Int)).f0 (nextSt p i)
theorem nextSt_ok {p : List S85} (hp : psOk p) (i : Nat) (hi : i < p.length) : (nextSt p i).length ≤ 1048576 := by
 unfold nextSt
 have : (i + 1) % p.length < p.length := Nat.mod_lt _ (by omega)
 rw [rdT_Part _ _ this]
 exact hp.2 _ (List.getElem_mem _)
theorem longP_bd {l : List S71} {p : List S85} (h : isPlan l p = true) (i : Nat) (hi : i < p.length) : 5 ≤ longP l p i ∧ longP l p i ≤ 65 := by
 unfold longP
 have h1 := isPlan_at h i hi
 have h2 := clearBetween_bd l (rd_T85 p (i : Int)).f0 (nextSt p i)
 rw [rdT_Part _ _ hi] at h2 ⊢
 omega
def sumP (l : List S71) (p : List S85) : Nat → Nat → Int
 | 0, _ => 0
 | n + 1, i => longP l p i + sumP l p n (i + 1)
theorem sumP_succ (l : List S71) (p : List S85) (n i : Nat) : sumP l p (n + 1) i = longP l p i + sumP l p n (i + 1) := rfl
theorem sumP_zero (l : List S71) (p : List S85) (i : Nat) : sumP l p 0 i = 0 := rfl
theorem sumP_bd {l : List S71} {p : List S85} (h : isPlan l p = true) : ∀ (n i : Nat), i + n ≤ p.length → 5 * (n : Int) ≤ sumP l p n i ∧ sumP l p n i ≤ 65 * (n : Int)
 | 0, i, _ => by rw [sumP_zero]; omega
 | n + 1, i, hi => by
  have h1 := sumP_bd h n (i + 1) (by omega)
  have h2 := longP_bd h i (by omega)
  rw [sumP_succ]; omega
def cycleP (l : List S71) (p : List S85) : Int := if isPlan l p = true then sumP l p p.length 0 else 0
theorem cycleP_pos {l : List S71} {p : List S85} (h : isPlan l p = true) : 5 ≤ cycleP l p ∧ cycleP l p ≤ 390 := by
 have h1 := sumP_bd h p.length 0 (by omega)
 have h2 := isPlan_len h
 unfold cycleP
 rw [if_pos h]; omega
/-- Which part a second of the cycle falls into, and how far. -/
def walkP (l : List S71) (p : List S85) : Nat → Nat → Int → Int × Int
 | 0, i, s => ((i : Int), s)
 | n + 1, i, s => if s < longP l p i then ((i : Int), s) else walkP l p n (i + 1) (s - longP l p i)
theorem walkP_succ (l : List S71) (p : List S85) (n i : Nat) (s : Int) : walkP l p (n + 1) i s = if s < longP l p i then ((i : Int), s) else walkP l p n (i + 1) (s - longP l p i) := rfl
theorem walkP_at {l : List S71} {p : List S85} : ∀ (n i : Nat) (s : Int), i + n = p.length → 0 ≤ s → s < sumP l p n i → ∃ j : Nat, j < p.length ∧ (walkP l p n i s).1 = (j : Int) ∧ 0 ≤ (walkP l p n i s).2 ∧ (walkP l p n i s).2 < longP l p j
 | 0, i, s, _, h0, h1 => by rw [sumP_zero] at h1; omega
 | n + 1, i, s, hi, h0, h1 => by
  rw [sumP_succ] at h1
  rw [walkP_succ]
  by_cases c : s < longP l p i
  ·rw [if_pos c]; exact ⟨i, by omega, rfl, h0, c⟩
  ·rw [if_neg c]; exact walkP_at n (i + 1) _ (by omega) (by omega) (by omega)
def partAt (l : List S71) (p : List S85) (s : Int) : Int × Int := if isPlan l p = true ∧ (0 ≤ s ∧ s ≤ 1000000) then walkP l p p.length 0 (s % cycleP l p) else (-1, 0)
theorem partAt_at {l : List S71} {p : List S85} {s : Int} (h : 0 ≤ (partAt l p s).1) : isPlan l p = true ∧ ∃ j : Nat, j < p.length ∧ (partAt l p s).1 = (j : Int) ∧ 0 ≤ (partAt l p s).2 ∧ (partAt l p s).2 < longP l p j := by
 unfold partAt at h ⊢
 by_cases c : isPlan l p = true ∧ (0 ≤ s ∧ s ≤ 1000000)
 ·rw [if_pos c] at h ⊢
  have hc := cycleP_pos c.1
  have h2 : s % cycleP l p < cycleP l p := Int.emod_lt_of_pos _ (by omega)
  have h3 : 0 ≤ s % cycleP l p := Int.emod_nonneg _ (by omega)
  refine ⟨c.1, walkP_at p.length 0 _ (by omega) h3 ?_⟩
  have e : cycleP l p = sumP l p p.length 0 := by unfold cycleP; rw [if_pos c.1]
  rw [e] at h2 ⊢; exact h2
 ·rw [if_neg c] at h; dsimp only at h; omega
theorem impl_nextStage_eq (p : List S85) (i : Nat) (hi : i < p.length) (hp : p.length ≤ 1048576) : impl_nextStage.f p (i : Int) = some (nextSt p i) := by
 unfold impl_nextStage.f nextSt
 have : (i + 1) % p.length < p.length := Nat.mod_lt _ (by omega)
 simp only [nxt i p.length hi hp, show ¬ (p.length : Int) = 0 by omega, if_false, show (0 : Int) ≤ (((i + 1) % p.length : Nat) : Int) by omega, show (((i + 1) % p.length : Nat) : Int) < (p.length : Int) by omega, if_true]
theorem impl_longOf_eq (l : List S71) (p : List S85) (hl : l.length ≤ 1048576) (hp : psOk p) (h : isPlan l p = true) (i : Nat) (hi : i < p.length) : Ev (fun k => impl_longOf.f k l p (i : Int)) (longP l p i) := by
 unfold impl_longOf.f
 have hb := longP_bd h i hi
 simp only [show (0 : Int) ≤ (i : Int) by omega, show (i : Int) < (p.length : Int) by omega, if_true, impl_nextStage_eq p i hi hp.1, Option.bind_some]
 refine Ev.bind (impl_ClearBetween_eq l _ _ hl (by rw [rdT_Part _ _ hi]; exact hp.2 _ (List.getElem_mem _)) (nextSt_ok hp i hi)) ?_
 unfold longP at hb ⊢
 rw [wrap_id (by omega) (by omega)]
 exact Ev.now _
theorem spec_l8Long_eq (l : List S71) (p : List S85) (hl : l.length ≤ 1048576) (hp : psOk p) (h : isPlan l p = true) (i : Nat) (hi : i < p.length) : Ev (fun k => spec_l8Long.f k l p (i : Int)) (longP l p i) := by
 unfold spec_l8Long.f
 have hb := longP_bd h i hi
 have : (i + 1) % p.length < p.length := Nat.mod_lt _ (by omega)
 simp only [nxt i p.length hi hp.1, show ¬ (p.length : Int) = 0 by omega, if_false, show (0 : Int) ≤ (((i + 1) % p.length : Nat) : Int) by omega, show (((i + 1) % p.length : Nat) : Int) < (p.length : Int) by omega, show (0 : Int) ≤ (i : Int) by omega, show (i : Int) < (p.length : Int) by omega, if_true]
 refine Ev.bind (spec_ClearBetween_eq l _ _ hl (by rw [rdT_Part _ _ hi]; exact hp.2 _ (List.getElem_mem _)) (nextSt_ok hp i hi)) ?_
 unfold longP nextSt at hb ⊢
 rw [wrap_id (by omega) (by omega)]
 exact Ev.now _
theorem all_eq (x y : List Int) (h : x.length = y.length) : (List.range x.length).all (fun (i : Nat) => decide (rd x (i : Int) = rd y (i : Int))) = decide (x = y) := by
 by_cases e : x = y
 ·subst e
  rw [decide_eq_true rfl, List.all_eq_true]
  intro i _; simp
 ·rw [decide_eq_false e, List.all_eq_false]
  refine Classical.byContradiction (fun hn => e (List.ext_getElem h (fun i h1 h2 => ?_)))
  refine Classical.byContradiction (fun hne => hn ⟨i, List.mem_range.2 h1, ?_⟩)
  rw [rd_nat _ _ h1, rd_nat _ _ h2]
  simpa using hne
theorem slices_Equal_eq (x y : List Int) (hx : x.length ≤ 1048576) : Ev (fun k => slices_Equal_int_int.f k x y) (decide (x = y)) := by
 unfold slices_Equal_int_int.f
 by_cases h : x.length = y.length
 ·simp only [show (x.length : Int) = (y.length : Int) by omega, if_true]
  rw [show (y.length : Int) = (x.length : Int) by omega, ← all_eq x y h]
  refine Ev.all (g := fun k i => slices_Equal_int_int.l0 k x y (x.length : Int) i) x.length _ (fun i r hi hP hr => ?_) (fun i hi hP => ?_) ?_
  ·refine Ev.succ ?_
   simp only [slices_Equal_int_int.l0, show (i : Int) < (x.length : Int) by omega, show (i : Int) < (y.length : Int) by omega, show (0 : Int) ≤ (i : Int) by omega, if_true, of_decide_eq_true hP, wrap_id (n := (i : Int) + 1) (by omega) (by omega)]
   exact hr
  ·refine Ev.succ ?_
   simp only [slices_Equal_int_int.l0, show (i : Int) < (x.length : Int) by omega, show (i : Int) < (y.length : Int) by omega, show (0 : Int) ≤ (i : Int) by omega, if_true, of_decide_eq_false hP, if_false]
   exact Ev.now _
  ·refine Ev.succ ?_
   simp only [slices_Equal_int_int.l0, Int.lt_irrefl, if_false]
   exact Ev.now _
 ·simp only [show ¬ (x.length : Int) = (y.length : Int) by omega, if_false]
  exact evq (Ev.now _) (decide_eq_false (fun e => h (by rw [e]))).symm
theorem spec_EqualInts_eq (x y : List Int) (hx : x.length ≤ 1048576) : Ev (fun k => spec_EqualInts.f k x y) (decide (x = y)) := by
 unfold spec_EqualInts.f
 by_cases h : x.length = y.length
 ·simp only [show (x.length : Int) = (y.length : Int) by omega, if_true]
  rw [← all_eq x y h]
  refine Ev.all (g := fun k i => spec_EqualInts.l0 k x y i) x.length _ (fun i r hi hP hr => ?_) (fun i hi hP => ?_) ?_
  ·refine Ev.succ ?_
   simp only [spec_EqualInts.l0, show (i : Int) < (x.length : Int) by omega, show (i : Int) < (y.length : Int) by omega, show (0 : Int) ≤ (i : Int) by omega, if_true, of_decide_eq_true hP, wrap_id (n := (i : Int) + 1) (by omega) (by omega)]
   exact hr
  ·refine Ev.succ ?_
   simp only [spec_EqualInts.l0, show (i : Int) < (x.length : Int) by omega, show (i : Int) < (y.length : Int) by omega, show (0 : Int) ≤ (i : Int) by omega, if_true, of_decide_eq_false hP, if_false]
   exact Ev.now _
  ·refine Ev.succ ?_
   simp only [spec_EqualInts.l0, Int.lt_irrefl, if_false]
   exact Ev.now _
 ·simp only [show ¬ (x.length : Int) = (y.length : Int) by omega, if_false]
  exact evq (Ev.now _) (decide_eq_false (fun e => h (by rw [e]))).symm
theorem impl_StartOf_eq (l : List S71) (p : List S85) (hl : l.length ≤ 1048576) (hp : psOk p) (h : isPlan l p = true) (i : Nat) (hi : i < p.length) : Ev (fun k => impl_StartOf.f k l p (i : Int)) (sumP l p i 0) := by
 unfold impl_StartOf.f
 have hpl := impl_IsPlan_eq l p hl hp
 rw [h] at hpl
 refine Ev.bind hpl ?_
 have hlen := isPlan_len h
 simp only [if_true, show ¬ (i : Int) < 0 by omega, if_false, decide_eq_false (show ¬ (i : Int) ≥ (p.length : Int) by omega)]
 refine Ev.succ ?_
 simp only [impl_StartOf.j0, Bool.false_eq_true, if_false]
 have key : ∀ (d j : Nat) (a : Int), j + d = i → 0 ≤ a → a ≤ 65 * (j : Int) → Ev (fun k => impl_StartOf.l0 k l p a (i : Int) (j : Int)) (a + sumP l p d j) := by
  intro d
  induction d with
  | zero =>
   intro j a hj h0 h1
   refine Ev.succ ?_
   simp only [impl_StartOf.l0, show ¬ (j : Int) < (i : Int) by omega, if_false]
   exact evq (Ev.now _) (by simp [sumP])
  | succ d ih =>
   intro j a hj h0 h1
   refine Ev.succ ?_
   have hb := longP_bd h j (by omega)
   have next := ih (j + 1) (a + longP l p j) (by omega) (by omega) (by omega)
   rw [show ((j + 1 : Nat) : Int) = (j : Int) + 1 by omega] at next
   simp only [impl_StartOf.l0, show (j : Int) < (i : Int) by omega, if_true, wrap_id (n := (j : Int) + 1) (by omega) (by omega)]
   refine Ev.bind (impl_longOf_eq l p hl hp h j (by omega)) ?_
   rw [wrap_id (by omega) (by omega)]
   exact evq next (by rw [sumP_succ]; omega)
 simpa using key i 0 0 (by omega) (by omega) (by omega)
theorem spec_StartOf_eq (l : List S71) (p : List S85) (hl : l.length ≤ 1048576) (hp : psOk p) (h : isPlan l p = true) (i : Nat) (hi : i < p.length) : Ev (fun k => spec_StartOf.f k l p (i : Int)) (sumP l p i 0) := by
 unfold spec_StartOf.f
 have hpl := spec_IsPlan_eq l p hl hp
 rw [h] at hpl
 refine Ev.bind hpl ?_
 have hlen := isPlan_len h
 simp only [if_true, spec_l1In_eq, Option.bind_some, wrap_id (n := (p.length : Int) - 1) (by omega) (by omega), decide_eq_true (show 0 ≤ (i : Int) ∧ (i : Int) ≤ (p.length : Int) - 1 by omega), Bool.not_true]
 refine Ev.succ ?_
 simp only [spec_StartOf.j0, Bool.false_eq_true, if_false]
 have key : ∀ (d j : Nat) (a : Int), j + d = i → 0 ≤ a → a ≤ 65 * (j : Int) → Ev (fun k => spec_StartOf.l0 k l p (i : Int) a (j : Int)) (a + sumP l p d j) := by
  intro d
  induction d with
  | zero =>
   intro j a hj h0 h1
   refine Ev.succ ?_
   simp only [spec_StartOf.l0, show ¬ (j : Int) < (i : Int) by omega, if_false]
   exact evq (Ev.now _) (by simp [sumP])
  | succ d ih =>
   intro j a hj h0 h1
   refine Ev.succ ?_
   have hb := longP_bd h j (by omega)
   have next := ih (j + 1) (a + longP l p j) (by omega) (by omega) (by omega)
   rw [show ((j + 1 : Nat) : Int) = (j : Int) + 1 by omega] at next
   simp only [spec_StartOf.l0, show (j : Int) < (i : Int) by omega, if_true, wrap_id (n := (j : Int) + 1) (by omega) (by omega)]
   refine Ev.bind (spec_l8Long_eq l p hl hp h j (by omega)) ?_
   rw [wrap_id (by omega) (by omega)]
   exact evq next (by rw [sumP_succ]; omega)
 simpa using key i 0 0 (by omega) (by omega) (by omega)
def swFrom (l : List S71) (a b : List S85) : Nat → Nat → List Int
 | 0, _ => []
 | n + 1, i => (if (rd_T85 a (i : Int)).f0 = (rd_T85 b 0).f0 then [sumP l a i 0] else []) ++ swFrom l a b n (i + 1)
theorem swFrom_len (l : List S71) (a b : List S85) : ∀ n i, (swFrom l a b n i).length ≤ n
 | 0, _ => Nat.le_refl _
 | n + 1, i => by
  have := swFrom_len l a b n (i + 1)
  unfold swFrom
  split
  ·simp; omega
  ·simp; omega
theorem swFrom_mem (l : List S71) (a b : List S85) (v : Int) : ∀ n i, v ∈ swFrom l a b n i → ∃ j, i ≤ j ∧ j < i + n ∧ v = sumP l a j 0
 | 0, _, h => by simp [swFrom] at h
 | n + 1, i, h => by
  unfold swFrom at h
  rcases List.mem_append.1 h with h | h
  ·split at h
   ·exact ⟨i, Nat.le_refl _, by omega, by simpa using h⟩
   ·simp at h
  ·obtain ⟨j, h1, h2, h3⟩ := swFrom_mem l a b v n (i + 1) h
   exact ⟨j, by omega, by omega, h3⟩
def switchSeconds (l : List S71) (a b : List S85) : List Int := if isPlan l a = true ∧ isPlan l b = true then swFrom l a b a.length 0 else []
theorem switchSeconds_le (l : List S71) (a b : List S85) : (switchSeconds l a b).length ≤ 6 := by
 unfold switchSeconds
 split
 ·rename_i h
  have := swFrom_len l a b a.length 0
  have := isPlan_len h.1
  omega
 ·simp
theorem impl_SwitchSeconds_eq (l : List S71) (a b : List S85) (hl : l.length ≤ 1048576) (ha : psOk a) (hb : psOk b) : Ev (fun k => impl_SwitchSeconds.f k l a b) (switchSeconds l a b) := by
 unfold impl_SwitchSeconds.f switchSeconds
 simp only [Option.bind_some]
 have jt : Ev (fun k => impl_SwitchSeconds.j0 k l a b [] true) [] := by
  refine Ev.succ ?_
  simp only [impl_SwitchSeconds.j0, if_true]; exact Ev.now _
 refine Ev.bind (impl_IsPlan_eq l a hl ha) ?_
 cases h1 : isPlan l a
 ·simp only [Bool.false_eq_true, if_false, false_and]; exact jt
 simp only [if_true]
 refine Ev.bind (impl_IsPlan_eq l b hl hb) ?_
 cases h2 : isPlan l b
 ·simp only [Bool.false_eq_true, if_false, and_false, Bool.not_false]; exact jt
 simp only [and_self, if_true, Bool.not_true]
 have hla := isPlan_len h1
 have hlb := isPlan_len h2
 have key : ∀ (d i : Nat) (o : List Int), i + d = a.length → o.length ≤ i → Ev (fun k => impl_SwitchSeconds.l0 k l a b o a (a.length : Int) (i : Int)) (o ++ swFrom l a b d i) := by
  intro d
  induction d with
  | zero =>
   intro i o hi ho
   refine Ev.succ ?_
   simp only [impl_SwitchSeconds.l0, show ¬ (i : Int) < (a.length : Int) by omega, if_false]
   exact evq (Ev.now _) (by simp [swFrom])
  | succ d ih =>
   intro i o hi ho
   refine Ev.succ ?_
   have hi2 : i < a.length := by omega
   simp only [impl_SwitchSeconds.l0, show (i : Int) < (a.length : Int) by omega, show (0 : Int) ≤ (i : Int) by omega, show (0 : Int) < (b.length : Int) by omega, if_true, wrap_id (n := (i : Int) + 1) (by omega) (by omega)]
   refine Ev.bind (slices_Equal_eq _ _ (by rw [rdT_Part _ _ hi2]; exact ha.2 _ (List.getElem_mem _))) ?_
   unfold swFrom
   by_cases c : (rd_T85 a (i : Int)).f0 = (rd_T85 b 0).f0
   ·simp only [decide_eq_true c, if_true]
    rw [if_pos c]
    refine Ev.bind (impl_StartOf_eq l a hl ha h1 i hi2) ?_
    simp only [show o.length < 17592186044416 by omega, if_true]
    have next := ih (i + 1) (o ++ [sumP l a i 0]) (by omega) (by rw [List.length_append, List.length_singleton]; omega)
    rw [show ((i + 1 : Nat) : Int) = (i : Int) + 1 by omega] at next
    exact evq next (by rw [List.append_assoc])
   ·simp only [decide_eq_false c, Bool.false_eq_true, if_false]
    rw [if_neg c, List.nil_append]
    have next := ih (i + 1) o (by omega) (by omega)
    rw [show ((i + 1 : Nat) : Int) = (i : Int) + 1 by omega] at next
    exact next
 refine Ev.succ ?_
 simp only [impl_SwitchSeconds.j0, Bool.false_eq_true, if_false]
 simpa using key a.length 0 [] (by omega) (by simp)
theorem spec_SwitchSeconds_eq (l : List S71) (a b : List S85) (hl : l.length ≤ 1048576) (ha : psOk a) (hb : psOk b) : Ev (fun k => spec_SwitchSeconds.f k l a b) (switchSeconds l a b) := by
 unfold spec_SwitchSeconds.f switchSeconds
 have jf : ∀ (o : List Int) (i : Int), Ev (fun k => spec_SwitchSeconds.j1 k l a b o i false) o := by
  intro o i
  refine Ev.succ ?_
  simp only [spec_SwitchSeconds.j1, Bool.false_eq_true, if_false]; exact Ev.now _
 have pa := spec_IsPlan_eq l a hl ha
 have pb := spec_IsPlan_eq l b hl hb
 cases h1 : isPlan l a
 ·rw [h1] at pa
  simp only [Bool.false_eq_true, if_false, false_and]
  refine Ev.succ ?_
  simp only [spec_SwitchSeconds.l0]
  refine Ev.ifd (fun _ => ?_) (fun _ => jf _ _)
  refine Ev.bind pa ?_
  simp only [Bool.false_eq_true, if_false]; exact jf _ _
 cases h2 : isPlan l b
 ·rw [h1] at pa
  rw [h2] at pb
  simp only [Bool.false_eq_true, if_false, and_false]
  refine Ev.succ ?_
  simp only [spec_SwitchSeconds.l0]
  refine Ev.ifd (fun _ => ?_) (fun _ => jf _ _)
  refine Ev.bind pa ?_
  simp only [if_true]
  refine Ev.bind pb ?_
  exact jf _ _
 rw [h1] at pa
 rw [h2] at pb
 simp only [and_self, if_true]
 have hla := isPlan_len h1
 have hlb := isPlan_len h2
 have key : ∀ (d i : Nat) (o : List Int), i + d = a.length → o.length ≤ i → Ev (fun k => spec_SwitchSeconds.l0 k l a b o (i : Int)) (o ++ swFrom l a b d i) := by
  intro d
  induction d with
  | zero =>
   intro i o hi ho
   refine Ev.succ ?_
   simp only [spec_SwitchSeconds.l0, show ¬ (i : Int) < (a.length : Int) by omega, if_false]
   exact evq (jf _ _) (by simp [swFrom])
  | succ d ih =>
   intro i o hi ho
   refine Ev.succ ?_
   have hi2 : i < a.length := by omega
   simp only [spec_SwitchSeconds.l0, show (i : Int) < (a.length : Int) by omega, if_true]
   refine Ev.bind pa ?_
   simp only [if_true]
   refine Ev.bind pb ?_
   refine Ev.succ ?_
   simp only [spec_SwitchSeconds.j1, show (i : Int) < (a.length : Int) by omega, show (0 : Int) ≤ (i : Int) by omega, show (0 : Int) < (b.length : Int) by omega, if_true, wrap_id (n := (i : Int) + 1) (by omega) (by omega)]
   refine Ev.bind (spec_EqualInts_eq _ _ (by rw [rdT_Part _ _ hi2]; exact ha.2 _ (List.getElem_mem _))) ?_
   unfold swFrom
   by_cases c : (rd_T85 a (i : Int)).f0 = (rd_T85 b 0).f0
   ·simp only [decide_eq_true c, if_true]
    rw [if_pos c]
    refine Ev.bind (spec_StartOf_eq l a hl ha h1 i hi2) ?_
    simp only [show o.length < 17592186044416 by omega, if_true]
    have next := ih (i + 1) (o ++ [sumP l a i 0]) (by omega) (by rw [List.length_append, List.length_singleton]; omega)
    rw [show ((i + 1 : Nat) : Int) = (i : Int) + 1 by omega] at next
    exact evq next (by rw [List.append_assoc])
   ·simp only [decide_eq_false c, Bool.false_eq_true, if_false]
    rw [if_neg c, List.nil_append]
    have next := ih (i + 1) o (by omega) (by omega)
    rw [show ((i + 1 : Nat) : Int) = (i : Int) + 1 by omega] at next
    exact next
 simpa using key a.length 0 [] (by omega) (by simp)
def canSwitch (l : List S71) (a b : List S85) : Bool := decide (((switchSeconds l a b).length : Int) > 0)
theorem impl_CanSwitch_eq (l : List S71) (a b : List S85) (hl : l.length ≤ 1048576) (ha : psOk a) (hb : psOk b) : Ev (fun k => impl_CanSwitch.f k l a b) (canSwitch l a b) := by
 unfold impl_CanSwitch.f canSwitch
 exact Ev.bind (impl_SwitchSeconds_eq l a b hl ha hb) (Ev.now _)
theorem spec_CanSwitch_eq (l : List S71) (a b : List S85) (hl : l.length ≤ 1048576) (ha : psOk a) (hb : psOk b) : Ev (fun k => spec_CanSwitch.f k l a b) (canSwitch l a b) := by
 unfold spec_CanSwitch.f canSwitch
 exact Ev.bind (spec_SwitchSeconds_eq l a b hl ha hb) (Ev.now _)
def markParts : List S85 → Int → List S85
 | [], _ => []
 | x :: l, c => ⟨markInts x.f0.length c, c + x.f0.length⟩ :: markParts l (c + x.f0.length + 1)
def partsSum : List S85 → Int
 | [] => 0
 | x :: l => (x.f0.length : Int) + 1 + partsSum l
theorem partsSum_nn : ∀ l : List S85, 0 ≤ partsSum l
 | [] => Int.le_refl _
 | x :: l => by have := partsSum_nn l; unfold partsSum; omega
theorem partsSum_conv : ∀ l : List S81, partsSum (l.map convPart) = (l.length : Int) + partsLen l
 | [] => rfl
 | x :: l => by
  have := partsSum_conv l
  rw [List.map_cons, List.length_cons]
  show ((convPart x).f0.length : Int) + 1 + partsSum (l.map convPart) = _
  show (x.f0.length : Int) + 1 + partsSum (l.map convPart) = ((l.length + 1 : Nat) : Int) + ((x.f0.length + partsLen l : Nat) : Int)
  omega
theorem markParts_length : ∀ (l : List S85) (c : Int), (markParts l c).length = l.length
 | [], _ => rfl
 | x :: l, c => by show (markParts l _).length + 1 = l.length + 1; rw [markParts_length l]
theorem laws_markPartS_eq (l : List S85) (c : Int) (hl : l.length ≤ 1048576) (hx : ∀ x ∈ l, x.f0.length ≤ 1048576) (h0 : 0 ≤ c) (h9 : c + partsSum l ≤ 100000000000000) : Ev (fun k => laws_markPartS.f k l c) (c + partsSum l, markParts l c) := by
 unfold laws_markPartS.f
 have key : ∀ (suf pre : List S85) (c : Int), pre.length + suf.length ≤ 1048576 → (∀ x ∈ suf, x.f0.length ≤ 1048576) → 0 ≤ c → c + partsSum suf ≤ 100000000000000 → Ev (fun k => laws_markPartS.l0 k (pre ++ suf) c (pre.length : Int)) (c + partsSum suf, pre ++ markParts suf c) := by
  intro suf
  induction suf with
  | nil =>
   intro pre c _ _ _ _
   refine Ev.succ ?_
   rw [List.append_nil]
   simp only [laws_markPartS.l0, Int.lt_irrefl, if_false]
   exact evq (Ev.now _) (by simp [markParts, partsSum])
  | cons x suf ih =>
   intro pre c hl hx h0 h9
   refine Ev.succ ?_
   have hp := partsSum_nn suf
   have hx1 := hx x List.mem_cons_self
   rw [List.length_cons] at hl
   have h9' : c + ((x.f0.length : Int) + 1 + partsSum suf) ≤ 100000000000000 := h9
   have hr : rd_T85 (pre ++ x :: suf) (pre.length : Int) = x := by rw [rdT_Part _ _ (by simp)]; simp
   have hlen : (pre ++ x :: suf).length = pre.length + (suf.length + 1) := by rw [List.length_append, List.length_cons]
   simp only [laws_markPartS.l0, show (pre.length : Int) < ((pre ++ x :: suf).length : Int) by omega, show (0 : Int) ≤ (pre.length : Int) by omega, if_true, hr, Int.toNat_natCast]
   refine Ev.bind (laws_markIntS_eq x.f0 c (by omega) h0 (by omega)) ?_
   simp only [Int.one_mul, wrap_id (n := c + (x.f0.length : Int) + 1) (by omega) (by omega), wrap_id (n := (pre.length : Int) + 1) (by omega) (by omega)]
   have hs : (pre ++ x :: suf).set pre.length (⟨markInts x.f0.length c, c + x.f0.length⟩ : S85) = (pre ++ [(⟨markInts x.f0.length c, c + x.f0.length⟩ : S85)]) ++ suf := by simp
   rw [hs]
   have next := ih (pre ++ [(⟨markInts x.f0.length c, c + x.f0.length⟩ : S85)]) (c + x.f0.length + 1) (by rw [List.length_append, List.length_singleton]; omega) (fun y hy => hx y (List.mem_cons_of_mem _ hy)) (by omega) (by omega)
   rw [List.length_append, List.length_singleton, show ((pre.length + 1 : Nat) : Int) = (pre.length : Int) + 1 by omega] at next
   refine evq next ?_
   rw [List.append_assoc]
   show (c + (x.f0.length : Int) + 1 + partsSum suf, _) = (c + ((x.f0.length : Int) + 1 + partsSum suf), _)
   congr 1
   omega
 have := key l [] c (by simpa using hl) hx h0 h9
 simpa using this
theorem laws_heldPartS_eq (l : List S85) (c : Int) (hl : l.length ≤ 1048576) (hx : ∀ x ∈ l, x.f0.length ≤ 1048576) (h0 : 0 ≤ c) (h9 : c + partsSum l ≤ 100000000000000) : Ev (fun k => laws_heldPartS.f k (markParts l c) c) (c + partsSum l) := by
 unfold laws_heldPartS.f
 have key : ∀ (suf : List S85) (pre : List S85) (c : Int), pre.length + suf.length ≤ 1048576 → (∀ x ∈ suf, x.f0.length ≤ 1048576) → 0 ≤ c → c + partsSum suf ≤ 100000000000000 → Ev (fun k => laws_heldPartS.l0 k (pre ++ markParts suf c) c (pre.length : Int)) (c + partsSum suf) := by
  intro suf
  induction suf with
  | nil =>
   intro pre c _ _ _ _
   refine Ev.succ ?_
   rw [show markParts [] c = [] from rfl, List.append_nil]
   simp only [laws_heldPartS.l0, Int.lt_irrefl, if_false]
   exact evq (Ev.now _) (by simp [partsSum])
  | cons x suf ih =>
   intro pre c hl hx h0 h9
   refine Ev.succ ?_
   have hp := partsSum_nn suf
   have hx1 := hx x List.mem_cons_self
   rw [List.length_cons] at hl
   have h9' : c + ((x.f0.length : Int) + 1 + partsSum suf) ≤ 100000000000000 := h9
   rw [show markParts (x :: suf) c = ⟨markInts x.f0.length c, c + x.f0.length⟩ :: markParts suf (c + x.f0.length + 1) from rfl]
   have hr : rd_T85 (pre ++ (⟨markInts x.f0.length c, c + x.f0.length⟩ : S85) :: markParts suf (c + x.f0.length + 1)) (pre.length : Int) = ⟨markInts x.f0.length c, c + x.f0.length⟩ := by rw [rdT_Part _ _ (by simp)]; simp
   have hlen : (pre ++ (⟨markInts x.f0.length c, c + x.f0.length⟩ : S85) :: markParts suf (c + x.f0.length + 1)).length = pre.length + (suf.length + 1) := by rw [List.length_append, List.length_cons, markParts_length]
   simp only [laws_heldPartS.l0, show (pre.length : Int) < ((pre ++ (⟨markInts x.f0.length c, c + x.f0.length⟩ : S85) :: markParts suf (c + x.f0.length + 1)).length : Int) by omega, show (0 : Int) ≤ (pre.length : Int) by omega, if_true, hr]
   refine Ev.bind (laws_heldIntS_eq x.f0.length c (by omega) h0 (by omega)) ?_
   simp only [Int.one_mul]
   refine Ev.ifn (by omega) ?_
   refine Ev.ifp (by first | rfl | trivial) ?_
   simp only [wrap_id (n := c + (x.f0.length : Int) + 1) (by omega) (by omega), wrap_id (n := (pre.length : Int) + 1) (by omega) (by omega)]
   have next := ih (pre ++ [(⟨markInts x.f0.length c, c + x.f0.length⟩ : S85)]) (c + x.f0.length + 1) (by rw [List.length_append, List.length_singleton]; omega) (fun y hy => hx y (List.mem_cons_of_mem _ hy)) (by omega) (by omega)
   rw [List.length_append, List.length_singleton, show ((pre.length + 1 : Nat) : Int) = (pre.length : Int) + 1 by omega, List.append_assoc] at next
   refine evq next ?_
   show c + (x.f0.length : Int) + 1 + partsSum suf = c + ((x.f0.length : Int) + 1 + partsSum suf)
   omega
 have := key l [] c (by simpa using hl) hx h0 h9
 simpa using this
theorem impl_clonePlan_eq (l : List S85) (hl : psOk l) : Ev (fun k => impl_clonePlan.f k l) l := by
 unfold impl_clonePlan.f
 obtain ⟨hl, hx⟩ := hl
 have key : ∀ (d i : Nat), i + d = l.length → Ev (fun k => impl_clonePlan.l0 k (l.take i) l (l.length : Int) (i : Int)) l := by
  intro d
  induction d with
  | zero =>
   intro i hi
   refine Ev.succ ?_
   simp only [impl_clonePlan.l0, show ¬ (i : Int) < (l.length : Int) by omega, if_false]
   exact evq (Ev.now _) (List.take_of_length_le (by omega))
  | succ d ih =>
   intro i hi
   refine Ev.succ ?_
   have hi2 : i < l.length := by omega
   have hlen : (l.take i).length = i := by rw [List.length_take]; omega
   have hxi := hx _ (List.getElem_mem hi2)
   have hc : slices_Clone_int_int.f l[i].f0 = some l[i].f0 := by unfold slices_Clone_int_int.f; rw [if_pos (by omega)]
   simp only [impl_clonePlan.l0, show (i : Int) < (l.length : Int) by omega, show (0 : Int) ≤ (i : Int) by omega, if_true, rdT_Part _ _ hi2, hc, Option.bind_some, hlen, show i < 4398046511104 by omega, wrap_id (n := (i : Int) + 1) (by omega) (by omega)]
   have next := ih (i + 1) (by omega)
   rw [show ((i + 1 : Nat) : Int) = (i : Int) + 1 by omega, List.take_succ_eq_append_getElem hi2] at next
   exact next
 exact key l.length 0 (by omega)
theorem spec_l8Copy_eq (l : List S85) (hl : psOk l) : Ev (fun k => spec_l8Copy.f k l) l := by
 unfold spec_l8Copy.f
 obtain ⟨hl, hx⟩ := hl
 have key : ∀ (d i : Nat), i + d = l.length → Ev (fun k => spec_l8Copy.l0 k l (l.take i) (i : Int)) l := by
  intro d
  induction d with
  | zero =>
   intro i hi
   refine Ev.succ ?_
   simp only [spec_l8Copy.l0, show ¬ (i : Int) < (l.length : Int) by omega, if_false]
   exact evq (Ev.now _) (List.take_of_length_le (by omega))
  | succ d ih =>
   intro i hi
   refine Ev.succ ?_
   have hi2 : i < l.length := by omega
   have hlen : (l.take i).length = i := by rw [List.length_take]; omega
   have hxi := hx _ (List.getElem_mem hi2)
   simp only [spec_l8Copy.l0, show (i : Int) < (l.length : Int) by omega, show (0 : Int) ≤ (i : Int) by omega, if_true, rdT_Part _ _ hi2, Option.bind_some, List.length_nil, Nat.zero_add, show l[i].f0.length < 17592186044416 by omega, hlen, show i < 4398046511104 by omega, List.nil_append, wrap_id (n := (i : Int) + 1) (by omega) (by omega)]
   have next := ih (i + 1) (by omega)
   rw [show ((i + 1 : Nat) : Int) = (i : Int) + 1 by omega, List.take_succ_eq_append_getElem hi2] at next
   exact next
 exact key l.length 0 (by omega)
def rotP (p : List S85) (i : Int) : List S85 := if 0 ≤ i ∧ i < (p.length : Int) then p.drop i.toNat ++ p.take i.toNat else p
theorem rotP_length (p : List S85) (i : Int) : (rotP p i).length = p.length := by
 unfold rotP
 split
 ·rw [List.length_append, List.length_drop, List.length_take]; omega
 ·rfl
theorem rotP_mem {p : List S85} {i : Int} {x : S85} (h : x ∈ rotP p i) : x ∈ p := by
 unfold rotP at h
 split at h
 ·rcases List.mem_append.1 h with h | h
  ·exact List.mem_of_mem_drop h
  ·exact List.mem_of_mem_take h
 ·exact h
theorem rotP_ok {p : List S85} {i : Int} (h : psOk p) : psOk (rotP p i) := ⟨by rw [rotP_length]; exact h.1, fun x hx => h.2 x (rotP_mem hx)⟩
theorem partsSum_app : ∀ (a b : List S85), partsSum (a ++ b) = partsSum a + partsSum b
 | [], b => by show partsSum b = 0 + partsSum b; omega
 | x :: a, b => by
  have := partsSum_app a b
  show (x.f0.length : Int) + 1 + partsSum (a ++ b) = (x.f0.length : Int) + 1 + partsSum a + partsSum b
  omega
theorem rotP_sum (p : List S85) (i : Int) : partsSum (rotP p i) = partsSum p := by
 unfold rotP
 split
 ·have h := partsSum_app (p.take i.toNat) (p.drop i.toNat)
  rw [List.take_append_drop] at h
  rw [partsSum_app, h]; omega
 ·rfl
theorem impl_RotatePlan_eq (p : List S85) (i : Int) (hp : psOk p) : Ev (fun k => impl_RotatePlan.f k p i) (rotP p i) := by
 unfold impl_RotatePlan.f rotP
 refine Ev.bind (impl_clonePlan_eq p hp) ?_
 have hl := hp.1
 refine Ev.ifp (by omega) ?_
 by_cases h0 : 0 ≤ i
 ·by_cases h1 : i < (p.length : Int)
  ·rw [if_pos h0, if_pos h1, if_pos (by omega), if_pos ⟨h0, h1⟩]; exact Ev.now _
  ·rw [if_pos h0, if_neg h1, if_neg (fun h => h1 h.2)]; exact Ev.now _
 ·rw [if_neg h0, if_neg (fun h => h0 h.1)]; exact Ev.now _
theorem spec_RotatePlan_eq (p : List S85) (i : Int) (hp : psOk p) : Ev (fun k => spec_RotatePlan.f k p i) (rotP p i) := by
 unfold spec_RotatePlan.f rotP
 have hl := hp.1
 rw [wrap_id (by omega) (by omega)]
 simp only [spec_l1In_eq, Option.bind_some]
 by_cases h : 0 ≤ i ∧ i < (p.length : Int)
 ·rw [decide_eq_true (show 0 ≤ i ∧ i ≤ (p.length : Int) - 1 by omega), if_pos h]
  simp only [if_true, h.1, show i ≤ (p.length : Int) by omega]
  refine Ev.bind (spec_l8Copy_eq _ ⟨by rw [List.length_drop]; omega, fun x hx => hp.2 x (List.mem_of_mem_drop hx)⟩) ?_
  refine Ev.bind (spec_l8Copy_eq _ ⟨by rw [List.length_take]; omega, fun x hx => hp.2 x (List.mem_of_mem_take hx)⟩) ?_
  refine Ev.ifp (by rw [List.length_drop, List.length_take]; omega) ?_
  exact Ev.now _
 ·rw [decide_eq_false (show ¬ (0 ≤ i ∧ i ≤ (p.length : Int) - 1) by omega), if_neg h]
  simp only [Bool.false_eq_true, if_false]
  refine Ev.bind (spec_l8Copy_eq p hp) ?_
  exact Ev.now _
def makeFrom (l : List S71) (a b : List S85) : Nat → Nat → List S85 × Bool
 | 0, _ => (b, false)
 | n + 1, i => if canSwitch l a (rotP b (i : Int)) = true then (rotP b (i : Int), true) else makeFrom l a b n (i + 1)
def makeSwitch (l : List S71) (a b : List S85) : List S85 × Bool := makeFrom l a b b.length 0
theorem makeFrom_ok (l : List S71) (a : List S85) {b : List S85} (hb : psOk b) : ∀ n i, psOk (makeFrom l a b n i).1 ∧ partsSum (makeFrom l a b n i).1 = partsSum b ∧ (makeFrom l a b n i).1.length = b.length
 | 0, _ => ⟨hb, rfl, rfl⟩
 | n + 1, i => by
  unfold makeFrom
  split
  ·exact ⟨rotP_ok hb, rotP_sum b i, rotP_length b i⟩
  ·exact makeFrom_ok l a hb n (i + 1)
theorem impl_MakeSwitch_eq (l : List S71) (a b : List S85) (hl : l.length ≤ 1048576) (ha : psOk a) (hb : psOk b) : Ev (fun k => impl_MakeSwitch.f k l a b) (makeSwitch l a b) := by
 unfold impl_MakeSwitch.f makeSwitch
 have hbl := hb.1
 have key : ∀ (d i : Nat), i + d = b.length → Ev (fun k => impl_MakeSwitch.l0 k l a b (b.length : Int) (i : Int)) (makeFrom l a b d i) := by
  intro d
  induction d with
  | zero =>
   intro i hi
   refine Ev.succ ?_
   simp only [impl_MakeSwitch.l0, show ¬ (i : Int) < (b.length : Int) by omega, if_false]
   refine Ev.bind (impl_clonePlan_eq b hb) ?_
   exact Ev.now _
  | succ d ih =>
   intro i hi
   refine Ev.succ ?_
   have next := ih (i + 1) (by omega)
   rw [show ((i + 1 : Nat) : Int) = (i : Int) + 1 by omega] at next
   simp only [impl_MakeSwitch.l0, show (i : Int) < (b.length : Int) by omega, if_true, wrap_id (n := (i : Int) + 1) (by omega) (by omega)]
   refine Ev.bind (impl_RotatePlan_eq b (i : Int) hb) ?_
   refine Ev.bind (impl_CanSwitch_eq l a _ hl ha (rotP_ok hb)) ?_
   unfold makeFrom
   cases canSwitch l a (rotP b (i : Int))
   ·simp only [Bool.false_eq_true, if_false]; exact next
   ·simp only [if_true]; exact Ev.now _
 exact key b.length 0 (by omega)
theorem spec_MakeSwitch_eq (l : List S71) (a b : List S85) (hl : l.length ≤ 1048576) (ha : psOk a) (hb : psOk b) : Ev (fun k => spec_MakeSwitch.f k l a b) (makeSwitch l a b) := by
 unfold spec_MakeSwitch.f makeSwitch
 have hbl := hb.1
 have key : ∀ (d i : Nat), i + d = b.length → Ev (fun k => spec_MakeSwitch.l0 k l a b (i : Int)) (makeFrom l a b d i) := by
  intro d
  induction d with
  | zero =>
   intro i hi
   refine Ev.succ ?_
   simp only [spec_MakeSwitch.l0, show ¬ (i : Int) < (b.length : Int) by omega, if_false]
   refine Ev.bind (spec_l8Copy_eq b hb) ?_
   exact Ev.now _
  | succ d ih =>
   intro i hi
   refine Ev.succ ?_
   have next := ih (i + 1) (by omega)
   rw [show ((i + 1 : Nat) : Int) = (i : Int) + 1 by omega] at next
   simp only [spec_MakeSwitch.l0, show (i : Int) < (b.length : Int) by omega, if_true, wrap_id (n := (i : Int) + 1) (by omega) (by omega)]
   refine Ev.bind (spec_RotatePlan_eq b (i : Int) hb) ?_
   refine Ev.bind (spec_CanSwitch_eq l a _ hl ha (rotP_ok hb)) ?_
   unfold makeFrom
   cases canSwitch l a (rotP b (i : Int))
   ·simp only [Bool.false_eq_true, if_false]; exact next
   ·simp only [if_true]; exact Ev.now _
 exact key b.length 0 (by omega)
theorem holds : ∀ (l0 : List S84) (l1 : List S81) (l2 : List S81), l0.length ≤ maxLen → (∀ x ∈ l0, wf84 x) → l1.length ≤ maxLen → (∀ x ∈ l1, wf81 x) → l2.length ≤ maxLen → (∀ x ∈ l2, wf81 x) → ∃ k, laws_FnExactMakeSwitch.f k l0 l1 l2 = some true := by
 intro l a b hl _ ha haw hb hbw
 apply Ev.rounds
 unfold laws_FnExactMakeSwitch.f
 refine Ev.szb (laws_szPathS_eq l 1048576 hl (by omega) (by omega)) (fun h1 => ?_) (fun _ => by exact Ev.now _)
 refine Ev.ifn (by omega) ?_
 refine Ev.szp (laws_szPartS_eq a _ ha (fun x hx => (haw x hx).1.1) (by omega) (by omega)) (fun h2 => ?_) (fun _ => by exact Ev.now _)
 refine Ev.ifn (by omega) ?_
 refine Ev.szp (laws_szPartS_eq b _ hb (fun x hx => (hbw x hx).1.1) (by omega) (by omega)) (fun h3 => ?_) (fun _ => by exact Ev.now _)
 refine Ev.ifn (by omega) ?_
 have a1 : lsOk a := lsOk_of h2 (by omega)
 have a2 := psOk_conv a1
 have b1 : lsOk b := lsOk_of h3 (by omega)
 have b2 := psOk_conv b1
 have hl' : l.length ≤ 1048576 := by omega
 have ea := partsSum_conv a
 have eb := partsSum_conv b
 have na := partsSum_nn (a.map convPart)
 have nb := partsSum_nn (b.map convPart)
 have hS := spec_MakeSwitch_eq (l.map convPath) (a.map convPart) (b.map convPart) (by rw [List.length_map]; exact hl') a2 b2
 have hI := impl_MakeSwitch_eq (l.map convPath) (a.map convPart) (b.map convPart) (by rw [List.length_map]; exact hl') a2 b2
 obtain ⟨g2, gs, _⟩ : psOk (makeSwitch (l.map convPath) (a.map convPart) (b.map convPart)).1 ∧ partsSum (makeSwitch (l.map convPath) (a.map convPart) (b.map convPart)).1 = partsSum (b.map convPart) ∧ _ := makeFrom_ok (l.map convPath) (a.map convPart) b2 _ 0
 generalize makeSwitch (l.map convPath) (a.map convPart) (b.map convPart) = g at hS hI g2 gs
 refine Ev.bind (laws_toPathS_eq l hl') ?_
 refine Ev.bind (laws_toPartS_eq a a1) ?_
 refine Ev.bind (laws_toPartS_eq b b1) ?_
 refine Ev.bind hS ?_
 refine Ev.bind (laws_toPathS_eq l hl') ?_
 refine Ev.bind (laws_toPartS_eq a a1) ?_
 refine Ev.bind (laws_toPartS_eq b b1) ?_
 refine Ev.bind hI ?_
 refine Ev.bind (laws_eqPartS_self _ g2) ?_
 refine Ev.ifp rfl ?_
 refine Ev.ifp rfl ?_
 refine Ev.bind (laws_toPathS_eq l hl') ?_
 refine Ev.bind (laws_eqPathS_self _ (by rw [List.length_map]; exact hl')) ?_
 refine Ev.ifp rfl ?_
 refine Ev.bind (laws_toPartS_eq a a1) ?_
 refine Ev.bind (laws_eqPartS_self _ a2) ?_
 refine Ev.ifp rfl ?_
 refine Ev.bind (laws_toPartS_eq b b1) ?_
 refine Ev.bind (laws_eqPartS_self _ b2) ?_
 refine Ev.ifp rfl ?_
 refine Ev.bind (laws_markPathS_eq _ 1 (by rw [List.length_map]; exact hl') (by omega) (by omega)) ?_
 rw [List.length_map]
 refine Ev.bind (laws_markPartS_eq _ _ a2.1 a2.2 (by omega) (by omega)) ?_
 refine Ev.bind (laws_markPartS_eq _ _ b2.1 b2.2 (by omega) (by omega)) ?_
 refine Ev.ifn (by omega) ?_
 refine Ev.bind (laws_eqPartS_self _ g2) ?_
 refine Ev.ifp rfl ?_
 refine Ev.bind (laws_markPartS_eq _ _ g2.1 g2.2 (by omega) (by omega)) ?_
 refine Ev.bind (laws_heldPartS_eq g.1 1 g2.1 g2.2 (by omega) (by omega)) ?_
 refine Ev.ifn (by omega) ?_
 refine Ev.ifp rfl ?_
 refine Ev.bind (laws_toPathS_eq l hl') ?_
 refine Ev.bind (laws_toPartS_eq a a1) ?_
 refine Ev.bind (laws_toPartS_eq b b1) ?_
 refine Ev.bind hI ?_
 refine Ev.bind (laws_eqPartS_self _ g2) ?_
 refine Ev.ifp rfl ?_
 refine Ev.ifp rfl ?_
 refine Ev.bind (laws_heldPartS_eq g.1 1 g2.1 g2.2 (by omega) (by omega)) ?_
 refine Ev.ifn (by omega) ?_
 refine Ev.ifp rfl ?_
 exact Ev.now _
end Go.Proofs.Ytjgigmghcfdomaa.Pure.FnExactMakeSwitch
