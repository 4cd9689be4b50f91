/- The law FnExactWindowOf of the given program, as a statement over numbers and lists alone, for all arguments; no conditions but the machine's own bounds. -/
import Derived.Test.YtjgigmghcfdomaaPFnExactWindowOfx
import Derived.Test.YtjgigmghcfdomaaBase
namespace Go.Proofs.Ytjgigmghcfdomaa.Pure.FnExactWindowOf
open Go.RowKit Go.Proofs.Ytjgigmghcfdomaa.PFnExactWindowOf Go.Proofs.YtjgigmghcfdomaaW.PrintWords Go.Proofs.YtjgigmghcfdomaaW.PrintLast Go.Proofs.Ytjgigmghcfdomaa.Bas
set_option linter.unusedVariables false
set_option linter.unusedSimpArgs false
def wf84 (x : S84) : Prop := (Lit.int .i64 x.f0).wf = true ∧ (Lit.int .i64 x.f1).wf = true ∧ (Lit.int .i64 x.f2).wf = true ∧ (Lit.int .i64 x.f3).wf = true
def wf81 (x : S81) : Prop := (x.f0.length ≤ maxLen ∧ ∀ y ∈ x.f0, (Lit.int .i64 y).wf = true) ∧ (Lit.int .i64 x.f1).wf = true
theorem spec_l1In_eq (a lo hi : Int) : spec_l1In.f a lo hi = some (decide (lo ≤ a ∧ a ≤ hi)) := by
 unfold spec_l1In.f; grind
theorem impl_InRange_eq (a lo hi : Int) : impl_InRange.f a lo hi = some (decide (lo ≤ a ∧ a ≤ hi)) := by
 unfold impl_InRange.f; grind
theorem laws_szIntS_eq (l : List Int) (a : Int) (hl : l.length ≤ maxLen) (h0 : 0 ≤ a) (h1 : a ≤ 1048576) : laws_szIntS.f l a = some (if (l.length : Int) ≤ a then a - l.length else -1) := by
 unfold maxLen at hl; unfold laws_szIntS.f; rw [wrap_id (by omega) (by omega)]; grind
theorem laws_toIntS_eq (l : List Int) (hl : l.length ≤ 1048576) : Ev (fun k => laws_toIntS.f k l) l := by
 unfold laws_toIntS.f
 simp only [show (0 : Int) ≤ l.length by omega, Int.toNat_natCast, show l.length ≤ 35184372088832 by omega, if_true]
 have := Ev.copy (g := fun k ys i => laws_toIntS.l0 k l ys i) l id 0 (fun i ys r h hy hr => by
  refine Ev.succ ?_
  have h1 : (i : Int) < (l.length : Int) := by omega
  have h2 : (0 : Int) ≤ (i : Int) := by omega
  have h3 : (i : Int) < (ys.length : Int) := by omega
  simp only [laws_toIntS.l0, h1, h2, h3, if_true, rd_nat _ _ h, Int.toNat_natCast, wrap_id (n := (i : Int) + 1) (by omega) (by omega)]
  exact hr) (fun ys => by
  refine Ev.succ ?_
  simp only [laws_toIntS.l0, Int.lt_irrefl, if_false]
  exact Ev.now _)
 simpa using this
theorem laws_eqIntS_self (l : List Int) (hl : l.length ≤ 140737488355328) : Ev (fun k => laws_eqIntS.f k l l) true := by
 unfold laws_eqIntS.f
 simp only [if_true]
 have := Ev.all (g := fun k i => laws_eqIntS.l0 k l l i) l.length (fun _ => true) (fun i r h _ hr => by
  refine Ev.succ ?_
  have h1 : (i : Int) < (l.length : Int) := by omega
  have h2 : (0 : Int) ≤ (i : Int) := by omega
  simp only [laws_eqIntS.l0, h1, h2, if_true, wrap_id (n := (i : Int) + 1) (by omega) (by omega)]
  exact hr) (fun i h hf => by simp at hf) (by
  refine Ev.succ ?_
  simp only [laws_eqIntS.l0, Int.lt_irrefl, if_false]
  exact Ev.now _)
 exact evq this (by rw [List.all_eq_true]; intros; rfl)
theorem laws_eqWindow_self (a0 : Int) (a1 : Int) : laws_eqWindow.f a0 a1 a0 a1 = some true := by unfold laws_eqWindow.f; simp
theorem rdT_lawsPath (xs : List S84) (i : Nat) (h : i < xs.length) : rd_T84 xs (i : Int) = xs[i] := by simp [rd_T84, h]
theorem rdT_Path (xs : List S71) (i : Nat) (h : i < xs.length) : rd_T71 xs (i : Int) = xs[i] := by simp [rd_T71, h]
theorem laws_toPath_eq (a0 : Int) (a1 : Int) (a2 : Int) (a3 : Int) : laws_toPath.f a0 a1 a2 a3 = some (a0, a1, a2, a3) := rfl
theorem laws_eqPath_self (a0 : Int) (a1 : Int) (a2 : Int) (a3 : Int) : laws_eqPath.f a0 a1 a2 a3 a0 a1 a2 a3 = some true := by unfold laws_eqPath.f; simp
theorem laws_szPathS_eq (l : List S84) (a : Int) (hl : l.length ≤ maxLen) (h0 : 0 ≤ a) (h1 : a ≤ 1048576) : laws_szPathS.f l a = some (if (l.length : Int) ≤ a then a - l.length else -1) := by
 unfold maxLen at hl; unfold laws_szPathS.f; rw [wrap_id (by omega) (by omega)]; grind
def convPath (x : S84) : S71 := ⟨x.f0, x.f1, x.f2, x.f3⟩
theorem laws_toPathS_eq (l : List S84) (hl : l.length ≤ 1048576) : Ev (fun k => laws_toPathS.f k l) (l.map convPath) := by
 unfold laws_toPathS.f
 simp only [show (0 : Int) ≤ l.length by omega, Int.toNat_natCast, show l.length ≤ 8796093022208 by omega, if_true]
 exact Ev.copy (g := fun k ys i => laws_toPathS.l0 k l ys i) l convPath z71 (fun i ys r h hy hr => by
  refine Ev.succ ?_
  have h1 : (i : Int) < (l.length : Int) := by omega
  have h2 : (0 : Int) ≤ (i : Int) := by omega
  have h3 : (i : Int) < (ys.length : Int) := by omega
  simp only [laws_toPathS.l0, h1, h2, h3, if_true, rdT_lawsPath _ _ h, laws_toPath_eq, Option.bind_some, Int.toNat_natCast, wrap_id (n := (i : Int) + 1) (by omega) (by omega)]
  exact hr) (fun ys => by
  refine Ev.succ ?_
  simp only [laws_toPathS.l0, Int.lt_irrefl, if_false]
  exact Ev.now _)
theorem laws_eqPathS_self (l : List S71) (hl : l.length ≤ 1048576) : Ev (fun k => laws_eqPathS.f k l l) true := by
 unfold laws_eqPathS.f
 simp only [if_true]
 have := Ev.all (g := fun k i => laws_eqPathS.l0 k l l i) l.length (fun _ => true) (fun i r h _ hr => by
  refine Ev.succ ?_
  have h1 : (i : Int) < (l.length : Int) := by omega
  have h2 : (0 : Int) ≤ (i : Int) := by omega
  simp only [laws_eqPathS.l0, h1, h2, if_true, laws_eqPath_self, Option.bind_some, wrap_id (n := (i : Int) + 1) (by omega) (by omega)]
  exact hr) (fun i h hf => by simp at hf) (by
  refine Ev.succ ?_
  simp only [laws_eqPathS.l0, Int.lt_irrefl, if_false]
  exact Ev.now _)
 exact evq this (by rw [List.all_eq_true]; intros; rfl)
theorem impl_IsPath_eq (a b c d : Int) : impl_IsPath.f a b c d = some (isPath a b c d) := by
 unfold impl_IsPath.f isPath
 simp only [impl_InRange_eq, Option.bind_some]; grind
theorem spec_IsPath_eq (a b c d : Int) : spec_IsPath.f a b c d = some (isPath a b c d) := by
 unfold spec_IsPath.f isPath
 simp only [spec_l1In_eq, Option.bind_some]; grind
def isP (p : S71) : Bool := isPath p.f0 p.f1 p.f2 p.f3
def okAt (l : List S71) (i : Nat) : Bool := isP (rd_T71 l (i : Int)) && (decide (i = 0) || decide ((rd_T71 l ((i : Int) - 1)).f0 < (rd_T71 l (i : Int)).f0))
def arePaths (l : List S71) : Bool := (List.range l.length).all (okAt l) && decide (l.length ≤ 12)
theorem arePaths_len {l : List S71} (h : arePaths l = true) : l.length ≤ 12 := by simp [arePaths] at h; exact h.2
theorem arePaths_at {l : List S71} (h : arePaths l = true) (i : Nat) (hi : i < l.length) : isP l[i] = true := by
 simp only [arePaths, Bool.and_eq_true, List.all_eq_true, List.mem_range] at h
 have := h.1 i hi
 simp only [okAt, Bool.and_eq_true, rdT_Path _ _ hi] at this
 exact this.1
theorem arePaths_asc {l : List S71} (h : arePaths l = true) (i : Nat) (hi : i + 1 < l.length) : (l[i]'(by omega)).f0 < l[i + 1].f0 := by
 simp only [arePaths, Bool.and_eq_true, List.all_eq_true, List.mem_range] at h
 have := h.1 (i + 1) hi
 simp only [okAt, Bool.and_eq_true, rdT_Path _ _ hi] at this
 rw [show ((i + 1 : Nat) : Int) - 1 = (i : Int) by omega, rdT_Path _ _ (by omega)] at this
 simpa using this.2
def findP (l : List S71) (id : Int) : Int := Go.Proofs.Ytjgigmghcfdomaa.Hnd.fidx (fun x : S71 => x.f0 == id) l 0
theorem findP_lo (l : List S71) (id : Int) : -1 ≤ findP l id := fidx_lo _ _
theorem findP_hi (l : List S71) (id : Int) : findP l id < l.length := fidx_hi _ _
theorem findP_at {l : List S71} {id : Int} (h : 0 ≤ findP l id) : ∃ (i : Nat) (hi : i < l.length), findP l id = (i : Int) ∧ l[i].f0 = id := by
 rcases fidx_cases (fun x : S71 => x.f0 == id) l 0 with ⟨h1, _⟩ | ⟨i, h1, h2, h3, _⟩
 ·unfold findP at h; omega
 ·exact ⟨i, h2, by unfold findP; omega, by simpa using h3⟩
theorem findP_none {l : List S71} {id : Int} (h : findP l id < 0) : ∀ x ∈ l, x.f0 ≠ id := by
 rcases fidx_cases (fun x : S71 => x.f0 == id) l 0 with ⟨_, h2⟩ | ⟨i, h1, _⟩
 ·intro x hx; simpa using h2 x hx
 ·unfold findP at h; omega
theorem spec_ArePaths_eq (l : List S71) (hl : l.length ≤ 1048576) : Ev (fun k => spec_ArePaths.f k l) (arePaths l) := by
 unfold spec_ArePaths.f arePaths
 refine evAnd (g := fun k i => spec_ArePaths.l0 k l i) (fun i r h hP hr => ?_) (fun i h hP => ?_) ?_
 ·refine Ev.succ ?_
  unfold okAt isP at hP
  rw [Bool.and_eq_true] at hP
  simp only [spec_ArePaths.l0, show (i : Int) < (l.length : Int) by omega, show (0 : Int) ≤ (i : Int) by omega, if_true, spec_IsPath_eq, Option.bind_some, hP.1, wrap_id (n := (i : Int) + 1) (by omega) (by omega)]
  by_cases h0 : i = 0
  ·subst h0; simpa using hr
  ·have h2 := hP.2
   rw [decide_eq_false h0, Bool.false_or, decide_eq_true_eq] at h2
   simp only [show (i : Int) > 0 by omega, if_true, wrap_id (n := (i : Int) - 1) (by omega) (by omega), show (0 : Int) ≤ (i : Int) - 1 by omega, show (i : Int) - 1 < (l.length : Int) by omega, show ¬ (rd_T71 l ((i : Int) - 1)).f0 ≥ (rd_T71 l (i : Int)).f0 by omega, if_false]
   exact hr
 ·refine Ev.succ ?_
  unfold okAt isP at hP
  simp only [spec_ArePaths.l0, show (i : Int) < (l.length : Int) by omega, show (0 : Int) ≤ (i : Int) by omega, if_true, spec_IsPath_eq, Option.bind_some, wrap_id (n := (i : Int) + 1) (by omega) (by omega)]
  cases hp : isPath (rd_T71 l (i : Int)).f0 (rd_T71 l (i : Int)).f1 (rd_T71 l (i : Int)).f2 (rd_T71 l (i : Int)).f3
  ·simp only [Bool.false_eq_true, if_false]; exact Ev.now _
  ·rw [hp, Bool.true_and, Bool.or_eq_false_iff, decide_eq_false_iff_not, decide_eq_false_iff_not] at hP
   simp only [if_true, show (i : Int) > 0 by omega, wrap_id (n := (i : Int) - 1) (by omega) (by omega), show (0 : Int) ≤ (i : Int) - 1 by omega, show (i : Int) - 1 < (l.length : Int) by omega, show (rd_T71 l ((i : Int) - 1)).f0 ≥ (rd_T71 l (i : Int)).f0 by omega]
   exact Ev.now _
 ·refine Ev.succ ?_
  simp only [spec_ArePaths.l0, Int.lt_irrefl, if_false]
  exact evq (Ev.now _) (by by_cases h : l.length ≤ 12 <;> simp [h] <;> omega)
theorem impl_ArePaths_eq (l : List S71) (hl : l.length ≤ 1048576) : Ev (fun k => impl_ArePaths.f k l) (arePaths l) := by
 unfold impl_ArePaths.f arePaths
 by_cases h12 : l.length ≤ 12
 ·simp only [show ¬ ((l.length : Int) > 12) by omega, if_false, decide_eq_true h12]
  refine evAnd (g := fun k i => impl_ArePaths.l0 k l l (l.length : Int) i) (fun i r h hP hr => ?_) (fun i h hP => ?_) ?_
  ·refine Ev.succ ?_
   unfold okAt isP at hP
   rw [Bool.and_eq_true] at hP
   simp only [impl_ArePaths.l0, show (i : Int) < (l.length : Int) by omega, show (0 : Int) ≤ (i : Int) by omega, if_true, impl_IsPath_eq, Option.bind_some, hP.1, wrap_id (n := (i : Int) + 1) (by omega) (by omega)]
   by_cases h0 : i = 0
   ·subst h0; simpa using hr
   ·have h2 := hP.2
    rw [decide_eq_false h0, Bool.false_or, decide_eq_true_eq] at h2
    simp only [show (i : Int) > 0 by omega, if_true, wrap_id (n := (i : Int) - 1) (by omega) (by omega), show (0 : Int) ≤ (i : Int) - 1 by omega, show (i : Int) - 1 < (l.length : Int) by omega, show ¬ (rd_T71 l (i : Int)).f0 ≤ (rd_T71 l ((i : Int) - 1)).f0 by omega, if_false]
    exact hr
  ·refine Ev.succ ?_
   unfold okAt isP at hP
   simp only [impl_ArePaths.l0, show (i : Int) < (l.length : Int) by omega, show (0 : Int) ≤ (i : Int) by omega, if_true, impl_IsPath_eq, Option.bind_some, wrap_id (n := (i : Int) + 1) (by omega) (by omega)]
   cases hp : isPath (rd_T71 l (i : Int)).f0 (rd_T71 l (i : Int)).f1 (rd_T71 l (i : Int)).f2 (rd_T71 l (i : Int)).f3
   ·simp only [Bool.false_eq_true, if_false]; exact Ev.now _
   ·rw [hp, Bool.true_and, Bool.or_eq_false_iff, decide_eq_false_iff_not, decide_eq_false_iff_not] at hP
    simp only [if_true, show (i : Int) > 0 by omega, wrap_id (n := (i : Int) - 1) (by omega) (by omega), show (0 : Int) ≤ (i : Int) - 1 by omega, show (i : Int) - 1 < (l.length : Int) by omega, show (rd_T71 l (i : Int)).f0 ≤ (rd_T71 l ((i : Int) - 1)).f0 by omega]
    exact Ev.now _
  ·refine Ev.succ ?_
   simp only [impl_ArePaths.l0, Int.lt_irrefl, if_false]
   exact Ev.now _
 ·simp only [show (l.length : Int) > 12 by omega, if_true, decide_eq_false h12, Bool.and_false]; exact Ev.now _
theorem spec_FindPath_eq (l : List S71) (id : Int) (hl : l.length ≤ 1048576) : Ev (fun k => spec_FindPath.f k l id) (findP l id) := by
 unfold spec_FindPath.f findP
 have key : ∀ (d i : Nat), i + d = l.length → Ev (fun k => spec_FindPath.l0 k l id (i : Int)) (Go.Proofs.Ytjgigmghcfdomaa.Hnd.fidx (fun x : S71 => x.f0 == id) (l.drop i) (0 + i)) := by
  intro d
  induction d with
  | zero =>
   intro i hi
   refine Ev.succ ?_
   simp only [spec_FindPath.l0, show ¬ (i : Int) < (l.length : Int) by omega, if_false]
   exact evq (Ev.now _) (by rw [List.drop_eq_nil_of_le (by omega)]; rfl)
  | succ d ih =>
   intro i hi
   refine Ev.succ ?_
   have ihh := ih (i + 1) (by omega)
   rw [show ((i + 1 : Nat) : Int) = (i : Int) + 1 by omega] at ihh
   simp only [spec_FindPath.l0, show (i : Int) < (l.length : Int) by omega, show (0 : Int) ≤ (i : Int) by omega, if_true, rdT_Path _ _ (show i < l.length by omega), wrap_id (n := (i : Int) + 1) (by omega) (by omega)]
   rw [fidx_drop _ _ _ _ (by omega)]
   by_cases h1 : l[i].f0 = id
   ·simp only [h1, if_true, beq_self_eq_true, Nat.zero_add]; exact Ev.now _
   ·simp only [h1, if_false, show ((l[i].f0 == id) = true) = False by simp [h1]]; exact ihh
 exact key l.length 0 (by omega)
theorem impl_FindPath_eq (l : List S71) (id : Int) : impl_FindPath.f l id = some (findP l id) := rfl
theorem spec_l6Has_eq (l : List Int) (x : Int) (hl : l.length ≤ 140737488355328) : Ev (fun k => spec_l6Has.f k l x) (decide (x ∈ l)) := by
 unfold spec_l6Has.f
 have key : ∀ (d i : Nat), i + d = l.length → Ev (fun k => spec_l6Has.l0 k l x (i : Int)) (decide (x ∈ l.drop i)) := by
  intro d
  induction d with
  | zero =>
   intro i hi
   refine Ev.succ ?_
   simp only [spec_l6Has.l0, show ¬ (i : Int) < (l.length : Int) by omega, if_false]
   exact evq (Ev.now _) (by simp [List.drop_eq_nil_of_le (show l.length ≤ i by omega)])
  | succ d ih =>
   intro i hi
   refine Ev.succ ?_
   have ihh := ih (i + 1) (by omega)
   rw [show ((i + 1 : Nat) : Int) = (i : Int) + 1 by omega] at ihh
   simp only [spec_l6Has.l0, show (i : Int) < (l.length : Int) by omega, show (0 : Int) ≤ (i : Int) by omega, if_true, rd_nat _ _ (show i < l.length by omega), wrap_id (n := (i : Int) + 1) (by omega) (by omega)]
   rw [mem_drop _ _ (by omega)]
   by_cases h1 : l[i] = x
   ·simp only [h1, if_true, decide_true, Bool.true_or]; exact Ev.now _
   ·rw [decide_eq_false (fun h : x = l[i] => h1 h.symm), Bool.false_or]; simp only [h1, if_false]; exact ihh
 simpa using key l.length 0 (by omega)
theorem slices_Contains_eq (l : List Int) (x : Int) (hl : l.length ≤ 140737488355328) : Ev (fun k => slices_Contains_int_int.f k l x) (decide (x ∈ l)) := by
 unfold slices_Contains_int_int.f slices_Index_int_int.f
 have key : ∀ (d i : Nat), i + d = l.length → ∃ n : Int, Ev (fun k => slices_Index_int_int.l0 k l x (l.length : Int) (i : Int)) n ∧ decide (n ≥ 0) = decide (x ∈ l.drop i) := by
  intro d
  induction d with
  | zero =>
   intro i hi
   refine ⟨-1, Ev.succ ?_, by simp [List.drop_eq_nil_of_le (show l.length ≤ i by omega)]⟩
   simp only [slices_Index_int_int.l0, show ¬ (i : Int) < (l.length : Int) by omega, if_false]
   exact Ev.now _
  | succ d ih =>
   intro i hi
   obtain ⟨n, hn, he⟩ := ih (i + 1) (by omega)
   rw [show ((i + 1 : Nat) : Int) = (i : Int) + 1 by omega] at hn
   rw [mem_drop _ _ (by omega)]
   by_cases h1 : x = l[i]
   ·refine ⟨(i : Int), Ev.succ ?_, by rw [decide_eq_true h1, Bool.true_or]; simp⟩
    simp only [slices_Index_int_int.l0, show (i : Int) < (l.length : Int) by omega, show (0 : Int) ≤ (i : Int) by omega, if_true, rd_nat _ _ (show i < l.length by omega), if_pos h1]
    exact Ev.now _
   ·refine ⟨n, Ev.succ ?_, by rw [he, decide_eq_false h1, Bool.false_or]⟩
    simp only [slices_Index_int_int.l0, show (i : Int) < (l.length : Int) by omega, show (0 : Int) ≤ (i : Int) by omega, if_true, rd_nat _ _ (show i < l.length by omega), if_neg h1, wrap_id (n := (i : Int) + 1) (by omega) (by omega)]
    exact hn
 obtain ⟨n, hn, he⟩ := key l.length 0 (by omega)
 simp only [List.drop_zero] at he
 rw [← he]
 exact Ev.bind (by simpa using hn) (Ev.now _)
theorem spec_Max_eq (a b : Int) : spec_Max.f a b = some (max a b) := by
 unfold spec_Max.f; grind
def clearOf (a b c d : Int) : Int := if isPath a b c d then (if b = 1 then 2 else if b = 3 then 3 else 5) else 0
theorem clearOf_bd (a b c d : Int) : 0 ≤ clearOf a b c d ∧ clearOf a b c d ≤ 5 := by unfold clearOf; split <;> (try split) <;> (try split) <;> omega
theorem impl_ClearOf_eq (a b c d : Int) : impl_ClearOf.f a b c d = some (clearOf a b c d) := by
 unfold impl_ClearOf.f clearOf
 simp only [impl_IsPath_eq, Option.bind_some]; grind
theorem impl_ClearOf_ev (a b c d : Int) : Ev (fun _ => impl_ClearOf.f a b c d) (clearOf a b c d) := Ev.pure (impl_ClearOf_eq a b c d)
theorem spec_ClearOf_eq (a b c d : Int) : spec_ClearOf.f a b c d = some (clearOf a b c d) := by
 unfold spec_ClearOf.f clearOf
 simp only [spec_IsPath_eq, Option.bind_some]
 cases h : isPath a b c d
 ·simp
 ·have := isPath_bd h
  rcases (show b = 1 ∨ b = 2 ∨ b = 3 by omega) with rfl | rfl | rfl <;> simp [rd]
/-- Whether two ways through the square cross, as the function finds it in at most 60 rounds. -/
def inter (a b c d : Int) : Bool := (impl_Interleave.f 60 a b c d).getD false
theorem inter_tab : ∀ f t g u : Fin 4, impl_Interleave.f 60 (2 * (f.val : Int)) (2 * (t.val : Int) + 1) (2 * (g.val : Int)) (2 * (u.val : Int) + 1) = some (inter (2 * (f.val : Int)) (2 * (t.val : Int) + 1) (2 * (g.val : Int)) (2 * (u.val : Int) + 1)) ∧ (f = g → inter (2 * (f.val : Int)) (2 * (t.val : Int) + 1) (2 * (g.val : Int)) (2 * (u.val : Int) + 1) = false) := by decide +kernel
theorem four {n : Int} (h : 0 ≤ n ∧ n ≤ 3) : ∃ f : Fin 4, n = (f.val : Int) := ⟨⟨n.toNat, by omega⟩, by show n = ((n.toNat : Nat) : Int); omega⟩
theorem impl_inter {a b c d : Int} (ha : 0 ≤ a ∧ a ≤ 3) (hb : 0 ≤ b ∧ b ≤ 3) (hc : 0 ≤ c ∧ c ≤ 3) (hd : 0 ≤ d ∧ d ≤ 3) : Ev (fun k => impl_Interleave.f k (2 * a) (2 * b + 1) (2 * c) (2 * d + 1)) (inter (2 * a) (2 * b + 1) (2 * c) (2 * d + 1)) ∧ (a = c → inter (2 * a) (2 * b + 1) (2 * c) (2 * d + 1) = false) := by
 obtain ⟨f, rfl⟩ := four ha
 obtain ⟨t, rfl⟩ := four hb
 obtain ⟨g, rfl⟩ := four hc
 obtain ⟨u, rfl⟩ := four hd
 have := inter_tab f t g u
 exact ⟨Ev.of (fun k => impl_Interleave.mono _ _ _ _ k) this.1, fun e => this.2 (Fin.ext (by omega))⟩
def conflict (a b : S71) : Bool := isP a && isP b && !(decide (a.f1 = 2) && decide (b.f1 = 2)) && (if a.f1 = 2 then decide (b.f2 = a.f2) || decide (b.f3 = a.f2) else if b.f1 = 2 then decide (a.f2 = b.f2) || decide (a.f3 = b.f2) else !decide (a.f2 = b.f2) && (decide (a.f3 = b.f3) || inter (2 * a.f2) (2 * a.f3 + 1) (2 * b.f2) (2 * b.f3 + 1)))
theorem impl_InPlace_eq {n : Int} (h : 0 ≤ n ∧ n ≤ 3) : impl_InPlace.f n = some (2 * n) := by
 unfold impl_InPlace.f; rw [impl_InRange_eq, decide_eq_true h]; simp only [Option.bind_some, if_true]; rw [wrap_id (by omega) (by omega)]
theorem impl_OutPlace_eq {n : Int} (h : 0 ≤ n ∧ n ≤ 3) : impl_OutPlace.f n = some (2 * n + 1) := by
 unfold impl_OutPlace.f; rw [impl_InRange_eq, decide_eq_true h]; simp only [Option.bind_some, if_true]; rw [wrap_id (n := 2 * n) (by omega) (by omega), wrap_id (by omega) (by omega)]
theorem or_beq (p : Prop) [Decidable p] (x y : Int) (A : Nat → Option Bool) (h : A = fun _ => if p then some true else some (x == y)) : Ev A (decide p || decide (x = y)) := by
 subst h
 refine Ev.pure ?_
 by_cases hp : p
 ·simp [hp]
 ·simp [hp]; rfl
theorem impl_Conflict_eq (a b : S71) : Ev (fun k => impl_Conflict.f k a.f0 a.f1 a.f2 a.f3 b.f0 b.f1 b.f2 b.f3) (conflict a b) := by
 have hj : ∀ x : Bool, (x = false → isP a = true ∧ isP b = true ∧ ¬ (a.f1 = 2 ∧ b.f1 = 2)) → Ev (fun k => impl_Conflict.j0 k x a.f0 a.f1 a.f2 a.f3 b.f0 b.f1 b.f2 b.f3) (!x && (if a.f1 = 2 then decide (b.f2 = a.f2) || decide (b.f3 = a.f2) else if b.f1 = 2 then decide (a.f2 = b.f2) || decide (a.f3 = b.f2) else !decide (a.f2 = b.f2) && (decide (a.f3 = b.f3) || inter (2 * a.f2) (2 * a.f3 + 1) (2 * b.f2) (2 * b.f3 + 1)))) := by
  intro x hx
  refine Ev.succ ?_
  cases x
  ·obtain ⟨h1, h2, _⟩ := hx rfl
   have ha := isPath_bd h1
   have hb := isPath_bd h2
   simp only [impl_Conflict.j0, Bool.false_eq_true, if_false, Bool.not_false, Bool.true_and]
   by_cases ka : a.f1 = 2
   ·simp only [ka, if_true]
    exact or_beq _ _ _ _ rfl
   simp only [ka, if_false]
   by_cases kb : b.f1 = 2
   ·simp only [kb, if_true]
    exact or_beq _ _ _ _ rfl
   simp only [kb, if_false]
   have hi := impl_inter (a := a.f2) (b := a.f3) (c := b.f2) (d := b.f3) (by omega) (by omega) (by omega) (by omega)
   simp only [impl_InPlace_eq (n := a.f2) (by omega), impl_OutPlace_eq (n := a.f3) (by omega), impl_InPlace_eq (n := b.f2) (by omega), impl_OutPlace_eq (n := b.f3) (by omega), Option.bind_some]
   by_cases e : a.f2 = b.f2
   ·have := hi.2 e
    simp only [e, if_true, decide_true, Bool.not_true, Bool.false_and]
    rw [e] at hi this
    exact evq (Ev.bind hi.1 (Ev.now _)) this
   ·simp only [e, if_false, decide_false, Bool.not_false, Bool.true_and]
    by_cases e2 : a.f3 = b.f3
    ·simp only [e2, if_true, decide_true, Bool.true_or]; exact Ev.now _
    ·simp only [e2, if_false, decide_false, Bool.false_or]
     exact Ev.bind hi.1 (Ev.now _)
  ·simp only [impl_Conflict.j0, if_true, Bool.not_true, Bool.false_and]; exact Ev.now _
 unfold impl_Conflict.f conflict isP
 simp only [impl_IsPath_eq, Option.bind_some]
 cases h1 : isPath a.f0 a.f1 a.f2 a.f3
 ·simpa using hj true (by simp)
 cases h2 : isPath b.f0 b.f1 b.f2 b.f3
 ·simpa using hj true (by simp)
 by_cases ka : a.f1 = 2
 ·by_cases kb : b.f1 = 2
  ·simpa [ka, kb] using hj true (by simp)
  ·have e : (b.f1 == 2) = false := by simp [kb]
   have := hj false (fun _ => ⟨h1, h2, fun h => kb h.2⟩)
   simp only [ka, e, kb, if_true, decide_true, decide_false, Bool.and_false, Bool.not_false, Bool.true_and] at this ⊢
   exact this
 ·have := hj false (fun _ => ⟨h1, h2, fun h => ka h.1⟩)
  simp only [ka, if_false, if_true, decide_false, Bool.false_and, Bool.not_false, Bool.true_and] at this ⊢
  exact this
theorem inter_tabS : ∀ f t g u : Fin 4, spec_Interleave.f 60 (2 * (f.val : Int)) (2 * (t.val : Int) + 1) (2 * (g.val : Int)) (2 * (u.val : Int) + 1) = some (inter (2 * (f.val : Int)) (2 * (t.val : Int) + 1) (2 * (g.val : Int)) (2 * (u.val : Int) + 1)) := by decide +kernel
theorem spec_inter {a b c d : Int} (ha : 0 ≤ a ∧ a ≤ 3) (hb : 0 ≤ b ∧ b ≤ 3) (hc : 0 ≤ c ∧ c ≤ 3) (hd : 0 ≤ d ∧ d ≤ 3) : Ev (fun k => spec_Interleave.f k (2 * a) (2 * b + 1) (2 * c) (2 * d + 1)) (inter (2 * a) (2 * b + 1) (2 * c) (2 * d + 1)) := by
 obtain ⟨f, rfl⟩ := four ha
 obtain ⟨t, rfl⟩ := four hb
 obtain ⟨g, rfl⟩ := four hc
 obtain ⟨u, rfl⟩ := four hd
 exact Ev.of (fun k => spec_Interleave.mono _ _ _ _ k) (inter_tabS f t g u)
theorem spec_InPlace_eq {n : Int} (h : 0 ≤ n ∧ n ≤ 3) : spec_InPlace.f n = some (2 * n) := by
 unfold spec_InPlace.f; rw [spec_l1In_eq, decide_eq_true h]; simp only [Option.bind_some, if_true]; rw [wrap_id (by omega) (by omega)]
theorem spec_OutPlace_eq {n : Int} (h : 0 ≤ n ∧ n ≤ 3) : spec_OutPlace.f n = some (2 * n + 1) := by
 unfold spec_OutPlace.f; rw [spec_l1In_eq, decide_eq_true h]; simp only [Option.bind_some, if_true]; rw [wrap_id (n := 2 * n) (by omega) (by omega), wrap_id (by omega) (by omega)]
theorem spec_Conflict_eq (a b : S71) : Ev (fun k => spec_Conflict.f k a.f0 a.f1 a.f2 a.f3 b.f0 b.f1 b.f2 b.f3) (conflict a b) := by
 have hj : ∀ x : Bool, (x = false → isP a = true ∧ isP b = true ∧ ¬ (a.f1 = 2 ∧ b.f1 = 2)) → Ev (fun k => spec_Conflict.j0 k x a.f0 a.f1 a.f2 a.f3 b.f0 b.f1 b.f2 b.f3) (!x && (if a.f1 = 2 then decide (b.f2 = a.f2) || decide (b.f3 = a.f2) else if b.f1 = 2 then decide (a.f2 = b.f2) || decide (a.f3 = b.f2) else !decide (a.f2 = b.f2) && (decide (a.f3 = b.f3) || inter (2 * a.f2) (2 * a.f3 + 1) (2 * b.f2) (2 * b.f3 + 1)))) := by
  intro x hx
  refine Ev.succ ?_
  cases x
  ·obtain ⟨h1, h2, _⟩ := hx rfl
   have ha := isPath_bd h1
   have hb := isPath_bd h2
   simp only [spec_Conflict.j0, Bool.false_eq_true, if_false, Bool.not_false, Bool.true_and]
   by_cases ka : a.f1 = 2
   ·simp only [ka, if_true]
    exact or_beq _ _ _ _ rfl
   simp only [ka, if_false]
   by_cases kb : b.f1 = 2
   ·simp only [kb, if_true]
    exact or_beq _ _ _ _ rfl
   simp only [kb, if_false]
   have hi := spec_inter (a := a.f2) (b := a.f3) (c := b.f2) (d := b.f3) (by omega) (by omega) (by omega) (by omega)
   simp only [spec_InPlace_eq (n := a.f2) (by omega), spec_OutPlace_eq (n := a.f3) (by omega), spec_InPlace_eq (n := b.f2) (by omega), spec_OutPlace_eq (n := b.f3) (by omega), Option.bind_some]
   by_cases e : a.f2 = b.f2
   ·simp only [e, if_true, decide_true, Bool.not_true, Bool.false_and]
    exact Ev.now _
   ·simp only [e, if_false, decide_false, Bool.not_false, Bool.true_and]
    by_cases e2 : a.f3 = b.f3
    ·simp only [e2, if_true, decide_true, Bool.true_or]; exact Ev.now _
    ·simp only [e2, if_false, decide_false, Bool.false_or]
     exact Ev.bind hi (Ev.now _)
  ·simp only [spec_Conflict.j0, if_true, Bool.not_true, Bool.false_and]; exact Ev.now _
 unfold spec_Conflict.f conflict isP
 simp only [spec_IsPath_eq, Option.bind_some]
 cases h1 : isPath a.f0 a.f1 a.f2 a.f3
 ·simpa using hj true (by simp)
 cases h2 : isPath b.f0 b.f1 b.f2 b.f3
 ·simpa using hj true (by simp)
 by_cases ka : a.f1 = 2
 ·by_cases kb : b.f1 = 2
  ·simpa [ka, kb] using hj true (by simp)
  ·have e : (b.f1 == 2) = false := by simp [kb]
   have := hj false (fun _ => ⟨h1, h2, fun h => kb h.2⟩)
   simp only [ka, e, kb, if_true, decide_true, decide_false, Bool.and_false, Bool.not_false, Bool.true_and] at this ⊢
   exact this
 ·have := hj false (fun _ => ⟨h1, h2, fun h => ka h.1⟩)
  simp only [ka, if_false, if_true, decide_false, Bool.false_and, Bool.not_false, Bool.true_and] at this ⊢
  exact this
def confAt (l : List S71) (a b : Int) : Bool := conflict (rd_T71 l (findP l a)) (rd_T71 l (findP l b))
def tgAt (l : List S71) (v : List Int) (i : Nat) : Bool := decide (0 ≤ findP l (rd v (i : Int))) && (decide (i = 0) || !decide (rd v (i : Int) ≤ rd v ((i : Int) - 1))) && (List.range i).all (fun (j : Nat) => !confAt l (rd v (i : Int)) (rd v (j : Int)))
def together (l : List S71) (v : List Int) : Bool := (List.range v.length).all (tgAt l v) && arePaths l
theorem together_at {l : List S71} {v : List Int} (h : together l v = true) (i : Nat) (hi : i < v.length) : 0 ≤ findP l (rd v (i : Int)) := by
 unfold together at h
 simp only [Bool.and_eq_true, List.all_eq_true, List.mem_range] at h
 have := h.1 i hi
 unfold tgAt at this
 simp only [Bool.and_eq_true, decide_eq_true_eq] at this
 exact this.1.1
theorem impl_IsTogether_eq (l : List S71) (v : List Int) (hl : l.length ≤ 1048576) (hv : v.length ≤ 1048576) : Ev (fun k => impl_IsTogether.f k l v) (together l v) := by
 unfold impl_IsTogether.f together
 refine Ev.bind (impl_ArePaths_eq l hl) ?_
 cases ha : arePaths l
 ·simp only [Bool.false_eq_true, if_false, Bool.and_false]; exact Ev.now _
 simp only [if_true, Bool.and_true]
 have inner : ∀ (i : Nat) (r : Bool), i < v.length → (∀ j : Nat, j ≤ i → 0 ≤ findP l (rd v (j : Int))) → Ev (fun k => impl_IsTogether.l0 k l v v (v.length : Int) ((i : Int) + 1)) r → Ev (fun k => impl_IsTogether.l1 k l v (findP l (rd v (i : Int))) v (v.length : Int) (i : Int) (v.take i) (((v.take i).length : Nat) : Int) 0) ((List.range i).all (fun (j : Nat) => !confAt l (rd v (i : Int)) (rd v (j : Int))) && r) := by
  intro i r hi hf hr
  have hlt : (v.take i).length = i := by rw [List.length_take]; omega
  have hrd : ∀ j : Nat, j < i → rd (v.take i) (j : Int) = rd v (j : Int) := fun j hj => by rw [rd_nat _ _ (by omega), rd_nat _ _ (by omega)]; simp
  have h1 := hf i (Nat.le_refl i)
  have h2 := findP_hi l (rd v (i : Int))
  rw [hlt]
  refine evAnd (g := fun k j => impl_IsTogether.l1 k l v (findP l (rd v (i : Int))) v (v.length : Int) (i : Int) (v.take i) (i : Int) j) (fun j s h hP hs => ?_) (fun j h hP => ?_) ?_
  ·refine Ev.succ ?_
   have h3 := hf j (by omega)
   have h4 := findP_hi l (rd v (j : Int))
   rw [Bool.not_eq_true'] at hP
   simp only [impl_IsTogether.l1, show (j : Int) < (i : Int) by omega, show (0 : Int) ≤ (j : Int) by omega, hlt, hrd j h, h1, h2, h3, h4, if_true, impl_FindPath_eq, Option.bind_some, wrap_id (n := (j : Int) + 1) (by omega) (by omega)]
   refine Ev.bind (impl_Conflict_eq _ _) ?_
   unfold confAt at hP
   simp only [hP, Bool.false_eq_true, if_false]
   exact hs
  ·refine Ev.succ ?_
   have h3 := hf j (by omega)
   have h4 := findP_hi l (rd v (j : Int))
   rw [Bool.not_eq_false'] at hP
   simp only [impl_IsTogether.l1, show (j : Int) < (i : Int) by omega, show (0 : Int) ≤ (j : Int) by omega, hlt, hrd j h, h1, h2, h3, h4, if_true, impl_FindPath_eq, Option.bind_some]
   refine Ev.bind (impl_Conflict_eq _ _) ?_
   unfold confAt at hP
   simp only [hP, if_true]
   exact Ev.now _
  ·refine Ev.succ ?_
   simp only [impl_IsTogether.l1, Int.lt_irrefl, if_false, wrap_id (n := (i : Int) + 1) (by omega) (by omega)]
   exact hr
 have key : ∀ (d i : Nat), i + d = v.length → (∀ j : Nat, j < i → 0 ≤ findP l (rd v (j : Int))) → Ev (fun k => impl_IsTogether.l0 k l v v (v.length : Int) (i : Int)) ((List.range' i d).all (tgAt l v)) := by
  intro d
  induction d with
  | zero =>
   intro i hi hf
   refine Ev.succ ?_
   simp only [impl_IsTogether.l0, show ¬ (i : Int) < (v.length : Int) by omega, if_false]
   exact Ev.now _
  | succ d ih =>
   intro i hi hf
   refine Ev.succ ?_
   rw [List.range'_succ, List.all_cons]
   simp only [impl_IsTogether.l0, show (i : Int) < (v.length : Int) by omega, show (0 : Int) ≤ (i : Int) by omega, if_true, impl_FindPath_eq, Option.bind_some]
   have hj : ∀ b : Bool, 0 ≤ findP l (rd v (i : Int)) ∨ b = true → Ev (fun k => impl_IsTogether.j1 k l v (i : Int) (findP l (rd v (i : Int))) v (v.length : Int) (i : Int) b) (!b && ((List.range i).all (fun (j : Nat) => !confAt l (rd v (i : Int)) (rd v (j : Int))) && (List.range' (i + 1) d).all (tgAt l v))) := by
    intro b hb
    refine Ev.succ ?_
    cases b
    ·have h0 : 0 ≤ findP l (rd v (i : Int)) := by rcases hb with h | h; exact h; cases h
     simp only [impl_IsTogether.j1, Bool.false_eq_true, if_false, show (0 : Int) ≤ (i : Int) by omega, show (i : Int) ≤ (v.length : Int) by omega, if_true, Bool.not_false, Bool.true_and, Int.toNat_natCast]
     have hf' : ∀ j : Nat, j < i + 1 → 0 ≤ findP l (rd v (j : Int)) := fun j hj => by
      by_cases e : j = i
      ·rw [e]; exact h0
      ·exact hf j (by omega)
     refine inner i _ (by omega) (fun j hj => hf' j (by omega)) ?_
     have := ih (i + 1) (by omega) hf'
     rwa [show ((i + 1 : Nat) : Int) = (i : Int) + 1 by omega] at this
    ·simp only [impl_IsTogether.j1, if_true, Bool.not_true, Bool.false_and]; exact Ev.now _
   by_cases h0 : findP l (rd v (i : Int)) < 0
   ·simp only [h0, if_true]
    exact evq (hj true (.inr rfl)) (by simp [tgAt, show ¬ 0 ≤ findP l (rd v (i : Int)) by omega])
   ·simp only [h0, if_false]
    by_cases hi0 : i = 0
    ·subst hi0
     simp only [show ¬ (((0 : Nat) : Int) > 0) by omega, if_false]
     refine evq (hj false (.inl (by omega))) ?_
     unfold tgAt
     rw [decide_eq_true (show 0 ≤ findP l (rd v ((0 : Nat) : Int)) by omega)]
     simp
    ·simp only [show (i : Int) > 0 by omega, if_true, wrap_id (n := (i : Int) - 1) (by omega) (by omega), show (0 : Int) ≤ (i : Int) - 1 by omega, show (i : Int) - 1 < (v.length : Int) by omega]
     refine evq (hj _ (.inl (by omega))) ?_
     unfold tgAt
     rw [decide_eq_true (show 0 ≤ findP l (rd v (i : Int)) by omega), decide_eq_false hi0]
     simp only [Bool.true_and, Bool.false_or, Bool.and_assoc]
 have := key v.length 0 (by omega) (fun j hj => absurd hj (by omega))
 rwa [← List.range_eq_range'] at this
theorem spec_IsTogether_eq (l : List S71) (v : List Int) (hl : l.length ≤ 1048576) (hv : v.length ≤ 1048576) : Ev (fun k => spec_IsTogether.f k l v) (together l v) := by
 unfold spec_IsTogether.f together
 have inner : ∀ (i : Nat) (r : Bool), i < v.length → (∀ j : Nat, j ≤ i → 0 ≤ findP l (rd v (j : Int))) → Ev (fun k => spec_IsTogether.l0 k l v ((i : Int) + 1)) r → Ev (fun k => spec_IsTogether.l1 k l v (i : Int) (findP l (rd v (i : Int))) 0) ((List.range i).all (fun (j : Nat) => !confAt l (rd v (i : Int)) (rd v (j : Int))) && r) := by
  intro i r hi hf hr
  have h1 := hf i (Nat.le_refl i)
  have h2 := findP_hi l (rd v (i : Int))
  refine evAnd (g := fun k j => spec_IsTogether.l1 k l v (i : Int) (findP l (rd v (i : Int))) j) (fun j s h hP hs => ?_) (fun j h hP => ?_) ?_
  ·refine Ev.succ ?_
   have h3 := hf j (by omega)
   have h4 := findP_hi l (rd v (j : Int))
   rw [Bool.not_eq_true'] at hP
   simp only [spec_IsTogether.l1, show (j : Int) < (i : Int) by omega, show (j : Int) < (v.length : Int) by omega, show (0 : Int) ≤ (j : Int) by omega, h1, h2, if_true, wrap_id (n := (j : Int) + 1) (by omega) (by omega)]
   refine Ev.bind (spec_FindPath_eq l _ hl) ?_
   simp only [h3, h4, if_true]
   refine Ev.bind (spec_Conflict_eq _ _) ?_
   unfold confAt at hP
   simp only [hP, Bool.false_eq_true, if_false]
   exact hs
  ·refine Ev.succ ?_
   have h3 := hf j (by omega)
   have h4 := findP_hi l (rd v (j : Int))
   rw [Bool.not_eq_false'] at hP
   simp only [spec_IsTogether.l1, show (j : Int) < (i : Int) by omega, show (j : Int) < (v.length : Int) by omega, show (0 : Int) ≤ (j : Int) by omega, h1, h2, if_true]
   refine Ev.bind (spec_FindPath_eq l _ hl) ?_
   simp only [h3, h4, if_true]
   refine Ev.bind (spec_Conflict_eq _ _) ?_
   unfold confAt at hP
   simp only [hP, if_true]
   exact Ev.now _
  ·refine Ev.succ ?_
   simp only [spec_IsTogether.l1, Int.lt_irrefl, if_false, wrap_id (n := (i : Int) + 1) (by omega) (by omega)]
   exact hr
 have key : ∀ (d i : Nat), i + d = v.length → (∀ j : Nat, j < i → 0 ≤ findP l (rd v (j : Int))) → Ev (fun k => spec_IsTogether.l0 k l v (i : Int)) ((List.range' i d).all (tgAt l v) && arePaths l) := by
  intro d
  induction d with
  | zero =>
   intro i hi hf
   refine Ev.succ ?_
   simp only [spec_IsTogether.l0, show ¬ (i : Int) < (v.length : Int) by omega, if_false]
   exact Ev.bind (spec_ArePaths_eq l hl) (Ev.now _)
  | succ d ih =>
   intro i hi hf
   refine Ev.succ ?_
   rw [List.range'_succ, List.all_cons]
   simp only [spec_IsTogether.l0, show (i : Int) < (v.length : Int) by omega, show (0 : Int) ≤ (i : Int) by omega, if_true]
   refine Ev.bind (spec_FindPath_eq l _ hl) ?_
   have hj : ∀ b : Bool, 0 ≤ findP l (rd v (i : Int)) ∨ b = true → Ev (fun k => spec_IsTogether.j1 k l v (i : Int) (findP l (rd v (i : Int))) b) (!b && ((List.range i).all (fun (j : Nat) => !confAt l (rd v (i : Int)) (rd v (j : Int))) && ((List.range' (i + 1) d).all (tgAt l v) && arePaths l))) := by
    intro b hb
    refine Ev.succ ?_
    cases b
    ·have h0 : 0 ≤ findP l (rd v (i : Int)) := by rcases hb with h | h; exact h; cases h
     simp only [spec_IsTogether.j1, Bool.false_eq_true, if_false, Bool.not_false, Bool.true_and]
     have hf' : ∀ j : Nat, j < i + 1 → 0 ≤ findP l (rd v (j : Int)) := fun j hj => by
      by_cases e : j = i
      ·rw [e]; exact h0
      ·exact hf j (by omega)
     refine inner i _ (by omega) (fun j hj => hf' j (by omega)) ?_
     have := ih (i + 1) (by omega) hf'
     rwa [show ((i + 1 : Nat) : Int) = (i : Int) + 1 by omega] at this
    ·simp only [spec_IsTogether.j1, if_true, Bool.not_true, Bool.false_and]; exact Ev.now _
   by_cases h0 : findP l (rd v (i : Int)) < 0
   ·simp only [h0, if_true]
    exact evq (hj true (.inr rfl)) (by simp [tgAt, show ¬ 0 ≤ findP l (rd v (i : Int)) by omega])
   ·simp only [h0, if_false]
    by_cases hi0 : i = 0
    ·subst hi0
     simp only [show ¬ (((0 : Nat) : Int) > 0) by omega, if_false]
     refine evq (hj false (.inl (by omega))) ?_
     unfold tgAt
     rw [decide_eq_true (show 0 ≤ findP l (rd v ((0 : Nat) : Int)) by omega)]
     simp [Bool.and_assoc]
    ·simp only [show (i : Int) > 0 by omega, if_true, wrap_id (n := (i : Int) - 1) (by omega) (by omega), show (0 : Int) ≤ (i : Int) - 1 by omega, show (i : Int) - 1 < (v.length : Int) by omega]
     refine evq (hj _ (.inl (by omega))) ?_
     unfold tgAt
     rw [decide_eq_true (show 0 ≤ findP l (rd v (i : Int)) by omega), decide_eq_false hi0]
     simp only [Bool.true_and, Bool.false_or, Bool.and_assoc, ge_iff_le]
 have := key v.length 0 (by omega) (fun j hj => absurd hj (by omega))
 rwa [← List.range_eq_range'] at this
def closes (a b : List Int) : List Int := a.filter (fun x => !decide (x ∈ b))
theorem closes_le (a b : List Int) : (closes a b).length ≤ a.length := List.length_filter_le _ _
theorem closes_mem {a b : List Int} {x : Int} (h : x ∈ closes a b) : x ∈ a := (List.mem_filter.1 h).1
theorem closes_step (a b : List Int) (i : Nat) (h : i < a.length) : closes (a.drop i) b = (if a[i] ∈ b then [] else [a[i]]) ++ closes (a.drop (i + 1)) b := by
 unfold closes
 rw [List.drop_eq_getElem_cons h, List.filter_cons]
 by_cases e : a[i] ∈ b <;> simp [e]
theorem impl_Closes_eq (a b : List Int) (ha : a.length ≤ 1048576) (hb : b.length ≤ 1048576) : Ev (fun k => impl_Closes.f k a b) (closes a b) := by
 unfold impl_Closes.f impl_sieve.f
 have key : ∀ (d i : Nat) (o : List Int), o.length ≤ i → i + d = a.length → Ev (fun k => impl_sieve.l0 k b false o a (a.length : Int) (i : Int)) (o ++ closes (a.drop i) b) := by
  intro d
  induction d with
  | zero =>
   intro i o ho hi
   refine Ev.succ ?_
   simp only [impl_sieve.l0, show ¬ (i : Int) < (a.length : Int) by omega, if_false]
   exact evq (Ev.now _) (by rw [List.drop_eq_nil_of_le (show a.length ≤ i by omega)]; simp [closes])
  | succ d ih =>
   intro i o ho hi
   refine Ev.succ ?_
   have hi2 : i < a.length := by omega
   simp only [impl_sieve.l0, show (i : Int) < (a.length : Int) by omega, show (0 : Int) ≤ (i : Int) by omega, if_true, rd_nat _ _ hi2, wrap_id (n := (i : Int) + 1) (by omega) (by omega), show o.length < 17592186044416 by omega]
   refine Ev.bind (slices_Contains_eq _ _ (by omega)) ?_
   rw [closes_step a b i hi2]
   by_cases e : a[i] ∈ b
   ·have := ih (i + 1) o (by omega) (by omega)
    rw [show ((i + 1 : Nat) : Int) = (i : Int) + 1 by omega] at this
    simpa [e] using this
   ·have := ih (i + 1) (o ++ [a[i]]) (by rw [List.length_append, List.length_singleton]; omega) (by omega)
    rw [show ((i + 1 : Nat) : Int) = (i : Int) + 1 by omega] at this
    simpa [e] using this
 exact Ev.bind (by simpa using key a.length 0 [] (Nat.le_refl _) (by omega)) (Ev.now _)
theorem spec_Closes_eq (a b : List Int) (ha : a.length ≤ 1048576) (hb : b.length ≤ 1048576) : Ev (fun k => spec_Closes.f k a b) (closes a b) := by
 unfold spec_Closes.f
 have key : ∀ (d i : Nat) (o : List Int), o.length ≤ i → i + d = a.length → Ev (fun k => spec_Closes.l0 k a b o (i : Int)) (o ++ closes (a.drop i) b) := by
  intro d
  induction d with
  | zero =>
   intro i o ho hi
   refine Ev.succ ?_
   simp only [spec_Closes.l0, show ¬ (i : Int) < (a.length : Int) by omega, if_false]
   exact evq (Ev.now _) (by rw [List.drop_eq_nil_of_le (show a.length ≤ i by omega)]; simp [closes])
  | succ d ih =>
   intro i o ho hi
   refine Ev.succ ?_
   have hi2 : i < a.length := by omega
   simp only [spec_Closes.l0, show (i : Int) < (a.length : Int) by omega, show (0 : Int) ≤ (i : Int) by omega, if_true, rd_nat _ _ hi2, wrap_id (n := (i : Int) + 1) (by omega) (by omega), show o.length < 17592186044416 by omega]
   refine Ev.bind (spec_l6Has_eq _ _ (by omega)) ?_
   rw [closes_step a b i hi2]
   by_cases e : a[i] ∈ b
   ·have := ih (i + 1) o (by omega) (by omega)
    rw [show ((i + 1 : Nat) : Int) = (i : Int) + 1 by omega] at this
    simpa [e] using this
   ·have := ih (i + 1) (o ++ [a[i]]) (by rw [List.length_append, List.length_singleton]; omega) (by omega)
    rw [show ((i + 1 : Nat) : Int) = (i : Int) + 1 by omega] at this
    simpa [e] using this
 simpa using key a.length 0 [] (Nat.le_refl _) (by omega)
def clrOf (l : List S71) (x : Int) : Int := clearOf (rd_T71 l (findP l x)).f0 (rd_T71 l (findP l x)).f1 (rd_T71 l (findP l x)).f2 (rd_T71 l (findP l x)).f3
def cbIn (l : List S71) (x : Int) (ys : List Int) (m : Int) : Int := ys.foldl (fun m y => if confAt l x y then max m (clrOf l x) else m) m
def cbOut (l : List S71) (xs ys : List Int) (m : Int) : Int := xs.foldl (fun m x => cbIn l x ys m) m
def clearBetween (l : List S71) (a b : List Int) : Int := if together l a && together l b then cbOut l (closes a b) (closes b a) 0 else 0
theorem together_mem {l : List S71} {v : List Int} (h : together l v = true) {x : Int} (hx : x ∈ v) : 0 ≤ findP l x := by
 obtain ⟨i, hi, rfl⟩ := List.getElem_of_mem hx
 have := together_at h i hi
 rwa [rd_nat _ _ hi] at this
theorem mx_max (a b : Int) : mx a b = max a b := by unfold mx; omega
theorem impl_ClearBetween_eq (l : List S71) (a b : List Int) (hl : l.length ≤ 1048576) (ha : a.length ≤ 1048576) (hb : b.length ≤ 1048576) : Ev (fun k => impl_ClearBetween.f k l a b) (clearBetween l a b) := by
 unfold impl_ClearBetween.f clearBetween
 refine Ev.bind (impl_IsTogether_eq l a hl ha) ?_
 cases h1 : together l a
 ·simp only [Bool.false_eq_true, if_false, Bool.false_and]
  refine Ev.succ ?_
  simp only [impl_ClearBetween.j0, if_true]; exact Ev.now _
 simp only [if_true, Bool.true_and]
 refine Ev.bind (impl_IsTogether_eq l b hl hb) ?_
 refine Ev.succ ?_
 cases h2 : together l b
 ·simp only [impl_ClearBetween.j0, Bool.not_false, if_true, Bool.false_eq_true, if_false]; exact Ev.now _
 simp only [impl_ClearBetween.j0, Bool.not_true, Bool.false_eq_true, if_false, if_true]
 refine Ev.bind (impl_Closes_eq a b ha hb) ?_
 have hx : ∀ x ∈ closes a b, 0 ≤ findP l x := fun x h => together_mem h1 (closes_mem h)
 have hy : ∀ x ∈ closes b a, 0 ≤ findP l x := fun x h => together_mem h2 (closes_mem h)
 have lx := closes_le a b
 have ly := closes_le b a
 have hC := impl_Closes_eq b a hb ha
 generalize closes a b = xs at hx lx
 generalize closes b a = ys at hy ly hC
 have inner : ∀ (i : Nat) (hi : i < xs.length) (r : Int → Int), (∀ m : Int, Ev (fun k => impl_ClearBetween.l0 k l a b m xs (xs.length : Int) ((i : Int) + 1)) (r m)) → ∀ (d j : Nat) (m : Int), j + d = ys.length → Ev (fun k => impl_ClearBetween.l1 k l a b m (xs[i]) xs (xs.length : Int) (i : Int) ys (ys.length : Int) (j : Int)) (r (cbIn l xs[i] (ys.drop j) m)) := by
  intro i hi r hr d
  induction d with
  | zero =>
   intro j m hj
   refine Ev.succ ?_
   simp only [impl_ClearBetween.l1, show ¬ (j : Int) < (ys.length : Int) by omega, if_false, wrap_id (n := (i : Int) + 1) (by omega) (by omega)]
   refine evq (hr m) ?_
   rw [List.drop_eq_nil_of_le (show ys.length ≤ j by omega)]; rfl
  | succ d ih =>
   intro j m hj
   refine Ev.succ ?_
   have hj2 : j < ys.length := by omega
   have f1 := hx _ (List.getElem_mem hi)
   have f2 := findP_hi l xs[i]
   have f3 := hy _ (List.getElem_mem hj2)
   have f4 := findP_hi l ys[j]
   simp only [impl_ClearBetween.l1, show (j : Int) < (ys.length : Int) by omega, show (0 : Int) ≤ (j : Int) by omega, if_true, rd_nat _ _ hj2, impl_FindPath_eq, Option.bind_some, f1, f2, f3, f4, wrap_id (n := (j : Int) + 1) (by omega) (by omega)]
   refine Ev.bind (impl_Conflict_eq _ _) ?_
   have ih' := fun m => ih (j + 1) m (by omega)
   rw [show ((j + 1 : Nat) : Int) = (j : Int) + 1 by omega] at ih'
   have e : cbIn l xs[i] (ys.drop j) m = cbIn l xs[i] (ys.drop (j + 1)) (if confAt l xs[i] ys[j] then max m (clrOf l xs[i]) else m) := by
    unfold cbIn; rw [List.drop_eq_getElem_cons hj2, List.foldl_cons]
   rw [e]
   show Ev (fun k => if confAt l xs[i] ys[j] = true then _ else _) _
   cases hc : confAt l xs[i] ys[j]
   ·simp only [Bool.false_eq_true, if_false]; exact ih' m
   ·simp only [if_true]
    refine Ev.bind (impl_ClearOf_ev _ _ _ _) ?_
    simp only [mx_max]
    exact ih' _
 have outer : ∀ (d i : Nat) (m : Int), i + d = xs.length → Ev (fun k => impl_ClearBetween.l0 k l a b m xs (xs.length : Int) (i : Int)) (cbOut l (xs.drop i) ys m) := by
  intro d
  induction d with
  | zero =>
   intro i m hi
   refine Ev.succ ?_
   simp only [impl_ClearBetween.l0, show ¬ (i : Int) < (xs.length : Int) by omega, if_false]
   refine evq (Ev.now _) ?_
   rw [List.drop_eq_nil_of_le (show xs.length ≤ i by omega)]; rfl
  | succ d ih =>
   intro i m hi
   refine Ev.succ ?_
   have hi2 : i < xs.length := by omega
   simp only [impl_ClearBetween.l0, show (i : Int) < (xs.length : Int) by omega, show (0 : Int) ≤ (i : Int) by omega, if_true, rd_nat _ _ hi2]
   refine Ev.bind hC ?_
   have := inner i hi2 (fun m => cbOut l (xs.drop (i + 1)) ys m) (fun m => by
    have := ih (i + 1) m (by omega)
    rwa [show ((i + 1 : Nat) : Int) = (i : Int) + 1 by omega] at this) ys.length 0 m (by omega)
   refine evq this ?_
   unfold cbOut
   rw [List.drop_eq_getElem_cons hi2, List.foldl_cons]; rfl
 exact outer xs.length 0 0 (by omega)
theorem spec_ClearBetween_eq (l : List S71) (a b : List Int) (hl : l.length ≤ 1048576) (ha : a.length ≤ 1048576) (hb : b.length ≤ 1048576) : Ev (fun k => spec_ClearBetween.f k l a b) (clearBetween l a b) := by
 unfold spec_ClearBetween.f clearBetween
 refine Ev.bind (spec_Closes_eq a b ha hb) ?_
 refine Ev.bind (spec_Closes_eq b a hb ha) ?_
 have hx : together l a = true → ∀ x ∈ closes a b, 0 ≤ findP l x := fun h1 x h => together_mem h1 (closes_mem h)
 have hy : together l b = true → ∀ x ∈ closes b a, 0 ≤ findP l x := fun h2 x h => together_mem h2 (closes_mem h)
 have lx := closes_le a b
 have ly := closes_le b a
 generalize closes a b = xs at hx lx
 generalize closes b a = ys at hy ly
 by_cases hn : xs = []
 ·subst hn
  refine Ev.succ ?_
  simp only [spec_ClearBetween.l0, show ¬ (0 : Int) < (([] : List Int).length : Int) by simp, if_false]
  refine Ev.succ ?_
  simp only [spec_ClearBetween.j1, Bool.false_eq_true, if_false]
  refine evq (Ev.now _) ?_
  split <;> rfl
 have hpos : 0 < xs.length := by cases xs with | nil => exact absurd rfl hn | cons x y => simp
 cases h1 : together l a
 ·refine Ev.succ ?_
  simp only [spec_ClearBetween.l0, show (0 : Int) < (xs.length : Int) by omega, if_true]
  refine Ev.bind (spec_IsTogether_eq l a hl ha) ?_
  rw [h1]
  simp only [Bool.false_eq_true, if_false, Bool.false_and]
  refine Ev.succ ?_
  simp only [spec_ClearBetween.j1, Bool.false_eq_true, if_false]; exact Ev.now _
 cases h2 : together l b
 ·refine Ev.succ ?_
  simp only [spec_ClearBetween.l0, show (0 : Int) < (xs.length : Int) by omega, if_true]
  refine Ev.bind (spec_IsTogether_eq l a hl ha) ?_
  rw [h1]
  simp only [if_true]
  refine Ev.bind (spec_IsTogether_eq l b hl hb) ?_
  rw [h2]
  refine Ev.succ ?_
  simp only [spec_ClearBetween.j1, Bool.false_eq_true, if_false, Bool.and_false]; exact Ev.now _
 simp only [Bool.and_self, if_true]
 have hx := hx h1
 have hy := hy h2
 have inner : ∀ (i : Nat) (hi : i < xs.length) (r : Int → Int), (∀ m : Int, Ev (fun k => spec_ClearBetween.l0 k l a b m xs ys ((i : Int) + 1)) (r m)) → ∀ (d j : Nat) (m : Int), j + d = ys.length → Ev (fun k => spec_ClearBetween.l1 k l a b m xs ys (i : Int) (j : Int)) (r (cbIn l xs[i] (ys.drop j) m)) := by
  intro i hi r hr d
  induction d with
  | zero =>
   intro j m hj
   refine Ev.succ ?_
   simp only [spec_ClearBetween.l1, show ¬ (j : Int) < (ys.length : Int) by omega, if_false, wrap_id (n := (i : Int) + 1) (by omega) (by omega)]
   refine evq (hr m) ?_
   rw [List.drop_eq_nil_of_le (show ys.length ≤ j by omega)]; rfl
  | succ d ih =>
   intro j m hj
   refine Ev.succ ?_
   have hj2 : j < ys.length := by omega
   have f1 := hx _ (List.getElem_mem hi)
   have f2 := findP_hi l xs[i]
   have f3 := hy _ (List.getElem_mem hj2)
   have f4 := findP_hi l ys[j]
   simp only [spec_ClearBetween.l1, show (j : Int) < (ys.length : Int) by omega, show (0 : Int) ≤ (j : Int) by omega, show (i : Int) < (xs.length : Int) by omega, show (0 : Int) ≤ (i : Int) by omega, if_true, rd_nat _ _ hj2, rd_nat _ _ hi, wrap_id (n := (j : Int) + 1) (by omega) (by omega)]
   refine Ev.bind (spec_FindPath_eq l _ hl) ?_
   simp only [f1, f2, if_true]
   refine Ev.bind (spec_FindPath_eq l _ hl) ?_
   simp only [f3, f4, if_true]
   refine Ev.bind (spec_Conflict_eq _ _) ?_
   have ih' := fun m => ih (j + 1) m (by omega)
   rw [show ((j + 1 : Nat) : Int) = (j : Int) + 1 by omega] at ih'
   have e : cbIn l xs[i] (ys.drop j) m = cbIn l xs[i] (ys.drop (j + 1)) (if confAt l xs[i] ys[j] then max m (clrOf l xs[i]) else m) := by
    unfold cbIn; rw [List.drop_eq_getElem_cons hj2, List.foldl_cons]
   rw [e]
   show Ev (fun k => if confAt l xs[i] ys[j] = true then _ else _) _
   cases hc : confAt l xs[i] ys[j]
   ·simp only [Bool.false_eq_true, if_false]; exact ih' m
   ·simp only [if_true, spec_ClearOf_eq, spec_Max_eq, Option.bind_some]; exact ih' _
 have outer : ∀ (d i : Nat) (m : Int), i + d = xs.length → Ev (fun k => spec_ClearBetween.l0 k l a b m xs ys (i : Int)) (cbOut l (xs.drop i) ys m) := by
  intro d
  induction d with
  | zero =>
   intro i m hi
   refine Ev.succ ?_
   simp only [spec_ClearBetween.l0, show ¬ (i : Int) < (xs.length : Int) by omega, if_false]
   refine Ev.succ ?_
   simp only [spec_ClearBetween.j1, Bool.false_eq_true, if_false]
   refine evq (Ev.now _) ?_
   rw [List.drop_eq_nil_of_le (show xs.length ≤ i by omega)]; rfl
  | succ d ih =>
   intro i m hi
   refine Ev.succ ?_
   have hi2 : i < xs.length := by omega
   simp only [spec_ClearBetween.l0, show (i : Int) < (xs.length : Int) by omega, if_true]
   refine Ev.bind (spec_IsTogether_eq l a hl ha) ?_
   rw [h1]
   simp only [if_true]
   refine Ev.bind (spec_IsTogether_eq l b hl hb) ?_
   rw [h2]
   refine Ev.succ ?_
   simp only [spec_ClearBetween.j1, if_true]
   have := inner i hi2 (fun m => cbOut l (xs.drop (i + 1)) ys m) (fun m => by
    have := ih (i + 1) m (by omega)
    rwa [show ((i + 1 : Nat) : Int) = (i : Int) + 1 by omega] at this) ys.length 0 m (by omega)
   refine evq this ?_
   unfold cbOut
   rw [List.drop_eq_getElem_cons hi2, List.foldl_cons]; rfl
 exact outer xs.length 0 0 (by omega)
def walkAt (l : List S71) (x : Int) : Bool := decide (0 ≤ findP l x) && decide ((rd_T71 l (findP l x)).f1 = 2)
def leastGreen (l : List S71) (s : List Int) : Int := if s.any (walkAt l) then 7 else 5
theorem impl_LeastGreen_eq (l : List S71) (s : List Int) (hl : l.length ≤ 1048576) (hs : s.length ≤ 1048576) : Ev (fun k => impl_LeastGreen.f k l s) (leastGreen l s) := by
 unfold impl_LeastGreen.f leastGreen
 have key : ∀ (d i : Nat), i + d = s.length → Ev (fun k => impl_LeastGreen.l0 k l s (s.length : Int) (i : Int)) (if (s.drop i).any (walkAt l) then 7 else 5) := by
  intro d
  induction d with
  | zero =>
   intro i hi
   refine Ev.succ ?_
   simp only [impl_LeastGreen.l0, show ¬ (i : Int) < (s.length : Int) by omega, if_false]
   exact evq (Ev.now _) (by rw [List.drop_eq_nil_of_le (show s.length ≤ i by omega)]; rfl)
  | succ d ih =>
   intro i hi
   refine Ev.succ ?_
   have hi2 : i < s.length := by omega
   have ihh := ih (i + 1) (by omega)
   rw [show ((i + 1 : Nat) : Int) = (i : Int) + 1 by omega] at ihh
   have f2 := findP_hi l s[i]
   rw [List.drop_eq_getElem_cons hi2, List.any_cons]
   simp only [impl_LeastGreen.l0, show (i : Int) < (s.length : Int) by omega, show (0 : Int) ≤ (i : Int) by omega, if_true, rd_nat _ _ hi2, impl_FindPath_eq, Option.bind_some, f2, wrap_id (n := (i : Int) + 1) (by omega) (by omega)]
   by_cases h0 : 0 ≤ findP l s[i]
   ·simp only [ge_iff_le, h0, if_true]
    by_cases h1 : (rd_T71 l (findP l s[i])).f1 = 2
    ·have e : walkAt l s[i] = true := by simp [walkAt, h0, h1]
     simp only [h1, if_true, e, Bool.true_or]; exact Ev.now _
    ·have e : walkAt l s[i] = false := by simp [walkAt, h1]
     simp only [h1, if_false, e, Bool.false_or]; exact ihh
   ·have e : walkAt l s[i] = false := by simp [walkAt, h0]
    simp only [ge_iff_le, h0, if_false, e, Bool.false_or]; exact ihh
 simpa using key s.length 0 (by omega)
theorem spec_LeastGreen_eq (l : List S71) (s : List Int) (hl : l.length ≤ 1048576) (hs : s.length ≤ 1048576) : Ev (fun k => spec_LeastGreen.f k l s) (leastGreen l s) := by
 unfold spec_LeastGreen.f leastGreen
 have key : ∀ (d i : Nat), i + d = s.length → Ev (fun k => spec_LeastGreen.l0 k l s (i : Int)) (if (s.drop i).any (walkAt l) then 7 else 5) := by
  intro d
  induction d with
  | zero =>
   intro i hi
   refine Ev.succ ?_
   simp only [spec_LeastGreen.l0, show ¬ (i : Int) < (s.length : Int) by omega, if_false]
   exact evq (Ev.now _) (by rw [List.drop_eq_nil_of_le (show s.length ≤ i by omega)]; rfl)
  | succ d ih =>
   intro i hi
   refine Ev.succ ?_
   have hi2 : i < s.length := by omega
   have ihh := ih (i + 1) (by omega)
   rw [show ((i + 1 : Nat) : Int) = (i : Int) + 1 by omega] at ihh
   have f2 := findP_hi l s[i]
   rw [List.drop_eq_getElem_cons hi2, List.any_cons]
   simp only [spec_LeastGreen.l0, show (i : Int) < (s.length : Int) by omega, show (0 : Int) ≤ (i : Int) by omega, if_true, rd_nat _ _ hi2, wrap_id (n := (i : Int) + 1) (by omega) (by omega)]
   refine Ev.bind (spec_FindPath_eq l _ hl) ?_
   simp only [f2, if_true]
   by_cases h0 : 0 ≤ findP l s[i]
   ·simp only [ge_iff_le, h0, if_true]
    by_cases h1 : (rd_T71 l (findP l s[i])).f1 = 2
    ·have e : walkAt l s[i] = true := by simp [walkAt, h0, h1]
     simp only [h1, if_true, e, Bool.true_or]; exact Ev.now _
    ·have e : walkAt l s[i] = false := by simp [walkAt, h1]
     simp only [h1, if_false, e, Bool.false_or]; exact ihh
   ·have e : walkAt l s[i] = false := by simp [walkAt, h0]
    simp only [ge_iff_le, h0, if_false, e, Bool.false_or]; exact ihh
 simpa using key s.length 0 (by omega)
theorem cbIn_bd (l : List S71) (x : Int) : ∀ (ys : List Int) (m : Int), 0 ≤ m → m ≤ 5 → 0 ≤ cbIn l x ys m ∧ cbIn l x ys m ≤ 5
 | [], m, h0, h5 => ⟨h0, h5⟩
 | y :: ys, m, h0, h5 => by
  have hc := clearOf_bd (rd_T71 l (findP l x)).f0 (rd_T71 l (findP l x)).f1 (rd_T71 l (findP l x)).f2 (rd_T71 l (findP l x)).f3
  show 0 ≤ cbIn l x ys (if confAt l x y then max m (clrOf l x) else m) ∧ cbIn l x ys (if confAt l x y then max m (clrOf l x) else m) ≤ 5
  refine cbIn_bd l x ys _ ?_ ?_
  ·unfold clrOf; split <;> omega
  ·unfold clrOf; split <;> omega
theorem cbOut_bd (l : List S71) (ys : List Int) : ∀ (xs : List Int) (m : Int), 0 ≤ m → m ≤ 5 → 0 ≤ cbOut l xs ys m ∧ cbOut l xs ys m ≤ 5
 | [], m, h0, h5 => ⟨h0, h5⟩
 | x :: xs, m, h0, h5 => by
  have := cbIn_bd l x ys m h0 h5
  exact cbOut_bd l ys xs (cbIn l x ys m) this.1 this.2
theorem clearBetween_bd (l : List S71) (a b : List Int) : 0 ≤ clearBetween l a b ∧ clearBetween l a b ≤ 5 := by
 unfold clearBetween
 split
 ·exact cbOut_bd l _ _ 0 (by omega) (by omega)
 ·omega
theorem rdT_lawsPart (xs : List S81) (i : Nat) (h : i < xs.length) : rd_T81 xs (i : Int) = xs[i] := by simp [rd_T81, h]
/-- The rows of parts that a law lets through. -/
def lsOk (l : List S81) : Prop := l.length ≤ 1048576 ∧ ∀ x ∈ l, x.f0.length ≤ 1048576
def partsLen : List S81 → Nat
 | [] => 0
 | x :: l => x.f0.length + partsLen l
theorem partsLen_mem : ∀ (l : List S81) (x : S81), x ∈ l → x.f0.length ≤ partsLen l
 | [], _, h => absurd h (by simp)
 | y :: l, x, h => by
  unfold partsLen
  rcases List.mem_cons.1 h with rfl | h
  ·omega
  ·have := partsLen_mem l x h; omega
theorem lsOk_of {l : List S81} {a : Int} (h : (l.length : Int) + partsLen l ≤ a) (ha : a ≤ 1048576) : lsOk l := ⟨by omega, fun x hx => by have := partsLen_mem l x hx; omega⟩
theorem Ev.szp {β : Type} {g : Nat → Option Int} {n a : Int} {f : Nat → Int → Option β} {r : β} (ho : Ev g (if n ≤ a then a - n else -1)) (h1 : n ≤ a → Ev (fun k => f k (a - n)) r) (h2 : ¬ n ≤ a → Ev (fun k => f k (-1)) r) : Ev (fun k => (g k).bind (f k)) r := by
 by_cases h : n ≤ a
 ·rw [if_pos h] at ho; exact Ev.bind ho (h1 h)
 ·rw [if_neg h] at ho; exact Ev.bind ho (h2 h)
theorem rdT_Part (xs : List S85) (i : Nat) (h : i < xs.length) : rd_T85 xs (i : Int) = xs[i] := by simp [rd_T85, h]
def psOk (l : List S85) : Prop := l.length ≤ 1048576 ∧ ∀ x ∈ l, x.f0.length ≤ 1048576
theorem laws_szPart_eq (l : List Int) (f a : Int) (hl : l.length ≤ maxLen) (h0 : 0 ≤ a) (h1 : a ≤ 1048576) : laws_szPart.f l f a = some (if (l.length : Int) ≤ a then a - l.length else -1) := by
 unfold laws_szPart.f
 simp only [laws_szIntS_eq l a hl h0 h1, Option.bind_some]
 by_cases h : (l.length : Int) ≤ a
 ·simp only [h, if_true, show ¬ (a - (l.length : Int) < 0) by omega, if_false]
 ·simp only [h, if_false, show ((-1 : Int) < 0) by omega, if_true]
theorem laws_szPartS_eq (l : List S81) (a : Int) (hl : l.length ≤ maxLen) (hx : ∀ x ∈ l, x.f0.length ≤ maxLen) (h0 : 0 ≤ a) (h1 : a ≤ 1048576) : Ev (fun k => laws_szPartS.f k l a) (if (l.length : Int) + partsLen l ≤ a then a - ((l.length : Int) + partsLen l) else -1) := by
 unfold laws_szPartS.f
 rw [wrap_id (by unfold maxLen at hl; omega) (by unfold maxLen at hl; omega)]
 by_cases hc : (l.length : Int) ≤ a
 ·simp only [show ¬ (a - (l.length : Int) < 0) by omega, if_false]
  have key : ∀ (d i : Nat) (b : Int), i + d = l.length → 0 ≤ b → b ≤ 1048576 → Ev (fun k => laws_szPartS.l0 k l b (i : Int)) (if (partsLen (l.drop i) : Int) ≤ b then b - partsLen (l.drop i) else -1) := by
   intro d
   induction d with
   | zero =>
    intro i b hi hb0 hb1
    refine Ev.succ ?_
    simp only [laws_szPartS.l0, show ¬ (i : Int) < (l.length : Int) by omega, if_false]
    have e : partsLen (l.drop i) = 0 := by rw [List.drop_eq_nil_of_le (show l.length ≤ i by omega)]; rfl
    exact evq (Ev.now _) (by rw [e, if_pos (by omega)]; omega)
   | succ d ih =>
    intro i b hi hb0 hb1
    refine Ev.succ ?_
    have hi2 : i < l.length := by omega
    have hm := hx _ (List.getElem_mem hi2)
    have e : partsLen (l.drop i) = l[i].f0.length + partsLen (l.drop (i + 1)) := by rw [List.drop_eq_getElem_cons hi2]; rfl
    rw [e]
    simp only [laws_szPartS.l0, show (i : Int) < (l.length : Int) by omega, show (0 : Int) ≤ (i : Int) by omega, if_true, rdT_lawsPart _ _ hi2, laws_szPart_eq _ _ b hm hb0 hb1, Option.bind_some, wrap_id (n := (i : Int) + 1) (by omega) (by omega)]
    by_cases h : (l[i].f0.length : Int) ≤ b
    ·have next := ih (i + 1) (b - l[i].f0.length) (by omega) (by omega) (by omega)
     rw [show ((i + 1 : Nat) : Int) = (i : Int) + 1 by omega] at next
     simp only [h, if_true, show ¬ (b - (l[i].f0.length : Int) < 0) by omega, if_false]
     refine evq next ?_
     by_cases h2 : (partsLen (l.drop (i + 1)) : Int) ≤ b - l[i].f0.length
     ·rw [if_pos h2, if_pos (by omega)]; omega
     ·rw [if_neg h2, if_neg (by omega)]
    ·simp only [h, if_false, show ((-1 : Int) < 0) by omega, if_true]
     exact evq (Ev.now _) (by rw [if_neg (by omega)])
  refine evq (key l.length 0 (a - l.length) (by omega) (by omega) (by omega)) ?_
  rw [List.drop_zero]
  by_cases h2 : (partsLen l : Int) ≤ a - l.length
  ·rw [if_pos h2, if_pos (by omega)]; omega
  ·rw [if_neg h2, if_neg (by omega)]
 ·simp only [show a - (l.length : Int) < 0 by omega, if_true]
  exact evq (Ev.now _) (by rw [if_neg (by omega)])
def convPart (x : S81) : S85 := ⟨x.f0, x.f1⟩
theorem psOk_conv {l : List S81} (h : lsOk l) : psOk (l.map convPart) := ⟨by rw [List.length_map]; exact h.1, fun x hx => by
 obtain ⟨y, hy, rfl⟩ := List.mem_map.1 hx
 exact h.2 y hy⟩
theorem laws_toPart_eq (l : List Int) (f : Int) (hl : l.length ≤ 1048576) : Ev (fun k => laws_toPart.f k l f) (l, f) := by
 unfold laws_toPart.f
 exact Ev.bind (laws_toIntS_eq l hl) (Ev.now _)
theorem laws_toPartS_eq (l : List S81) (hl : lsOk l) : Ev (fun k => laws_toPartS.f k l) (l.map convPart) := by
 unfold laws_toPartS.f
 obtain ⟨hl, hx⟩ := hl
 simp only [show (0 : Int) ≤ l.length by omega, Int.toNat_natCast, show l.length ≤ 8796093022208 by omega, if_true]
 exact Ev.copy (g := fun k ys i => laws_toPartS.l0 k l ys i) l convPart z85 (fun i ys r h hy hr => by
  refine Ev.succ ?_
  have h1 : (i : Int) < (l.length : Int) := by omega
  have h2 : (0 : Int) ≤ (i : Int) := by omega
  have h3 : (i : Int) < (ys.length : Int) := by omega
  simp only [laws_toPartS.l0, h1, h2, h3, if_true, rdT_lawsPart _ _ h, Int.toNat_natCast, wrap_id (n := (i : Int) + 1) (by omega) (by omega)]
  refine Ev.bind (laws_toPart_eq _ _ (hx _ (List.getElem_mem h))) ?_
  exact hr) (fun ys => by
  refine Ev.succ ?_
  simp only [laws_toPartS.l0, Int.lt_irrefl, if_false]
  exact Ev.now _)
theorem laws_eqPart_self (l : List Int) (f : Int) (hl : l.length ≤ 1048576) : Ev (fun k => laws_eqPart.f k l f l f) true := by
 unfold laws_eqPart.f
 refine Ev.bind (laws_eqIntS_self l (by omega)) ?_
 simp only [if_true]
 exact Ev.now _
theorem laws_eqPartS_self (l : List S85) (hl : psOk l) : Ev (fun k => laws_eqPartS.f k l l) true := by
 unfold laws_eqPartS.f
 obtain ⟨hl, hx⟩ := hl
 simp only [if_true]
 have := Ev.all (g := fun k i => laws_eqPartS.l0 k l l i) l.length (fun _ => true) (fun i r h _ hr => by
  refine Ev.succ ?_
  have h1 : (i : Int) < (l.length : Int) := by omega
  have h2 : (0 : Int) ≤ (i : Int) := by omega
  simp only [laws_eqPartS.l0, h1, h2, if_true, rdT_Part _ _ h, wrap_id (n := (i : Int) + 1) (by omega) (by omega)]
  refine Ev.bind (laws_eqPart_self _ _ (hx _ (List.getElem_mem h))) ?_
  simp only [if_true]
  exact hr) (fun i h hf => by simp at hf) (by
  refine Ev.succ ?_
  simp only [laws_eqPartS.l0, Int.lt_irrefl, if_false]
  exact Ev.now _)
 exact evq this (by rw [List.all_eq_true]; intros; rfl)
def covers (l : List S71) (st : List (List Int)) : Bool := arePaths l && (st.all (together l) && l.all (fun x => st.any (fun s => decide (x.f0 ∈ s))))
theorem rdL2 (xs : List (List Int)) (i : Nat) (h : i < xs.length) : rd_L2 xs (i : Int) = xs[i] := by simp [rd_L2, h]
theorem impl_isCovered_eq (st : List (List Int)) (id : Int) : impl_isCovered.f st id = some (st.any (fun s => decide (id ∈ s))) := by
 unfold impl_isCovered.f
 rcases fidx_cases (fun x : List Int => decide (id ∈ x)) st 0 with ⟨h1, h2⟩ | ⟨i, h1, h2, h3, _⟩
 ·rw [h1, decide_eq_false (by omega)]
  have : st.any (fun s => decide (id ∈ s)) = false := List.any_eq_false.2 (fun x hx => by rw [h2 x hx]; simp)
  rw [this]
 ·rw [h1, decide_eq_true (by omega)]
  have : st.any (fun s => decide (id ∈ s)) = true := List.any_eq_true.2 ⟨st[i], List.getElem_mem _, h3⟩
  rw [this]
theorem impl_Covers_eq (l : List S71) (st : List (List Int)) (hl : l.length ≤ 1048576) (hs : st.length ≤ 1048576) (ht : ∀ s ∈ st, s.length ≤ 1048576) : Ev (fun k => impl_Covers.f k l st) (covers l st) := by
 unfold impl_Covers.f covers
 refine Ev.bind (impl_ArePaths_eq l hl) ?_
 cases arePaths l
 ·simp only [Bool.false_eq_true, if_false, Bool.false_and]; exact Ev.now _
 simp only [if_true, Bool.true_and]
 have h1 : ∀ (d i : Nat), i + d = l.length → Ev (fun k => impl_Covers.l1 k st l (l.length : Int) (i : Int)) ((l.drop i).all (fun x => st.any (fun s => decide (x.f0 ∈ s)))) := by
  intro d
  induction d with
  | zero =>
   intro i hi
   refine Ev.succ ?_
   simp only [impl_Covers.l1, show ¬ (i : Int) < (l.length : Int) by omega, if_false]
   exact evq (Ev.now _) (by rw [List.drop_eq_nil_of_le (show l.length ≤ i by omega)]; rfl)
  | succ d ih =>
   intro i hi
   refine Ev.succ ?_
   have hi2 : i < l.length := by omega
   have next := ih (i + 1) (by omega)
   rw [show ((i + 1 : Nat) : Int) = (i : Int) + 1 by omega] at next
   rw [List.drop_eq_getElem_cons hi2, List.all_cons]
   simp only [impl_Covers.l1, show (i : Int) < (l.length : Int) by omega, show (0 : Int) ≤ (i : Int) by omega, if_true, rdT_Path _ _ hi2, impl_isCovered_eq, Option.bind_some, wrap_id (n := (i : Int) + 1) (by omega) (by omega)]
   cases st.any (fun s => decide (l[i].f0 ∈ s))
   ·simp only [Bool.false_eq_true, if_false, Bool.false_and]; exact Ev.now _
   ·simp only [if_true, Bool.true_and]; exact next
 have h0 : ∀ (d i : Nat), i + d = st.length → Ev (fun k => impl_Covers.l0 k l st st (st.length : Int) (i : Int)) ((st.drop i).all (together l) && l.all (fun x => st.any (fun s => decide (x.f0 ∈ s)))) := by
  intro d
  induction d with
  | zero =>
   intro i hi
   refine Ev.succ ?_
   simp only [impl_Covers.l0, show ¬ (i : Int) < (st.length : Int) by omega, if_false]
   exact evq (h1 l.length 0 (by omega)) (by rw [List.drop_eq_nil_of_le (show st.length ≤ i by omega)]; rfl)
  | succ d ih =>
   intro i hi
   refine Ev.succ ?_
   have hi2 : i < st.length := by omega
   have next := ih (i + 1) (by omega)
   rw [show ((i + 1 : Nat) : Int) = (i : Int) + 1 by omega] at next
   rw [List.drop_eq_getElem_cons hi2, List.all_cons]
   simp only [impl_Covers.l0, show (i : Int) < (st.length : Int) by omega, show (0 : Int) ≤ (i : Int) by omega, if_true, rdL2 _ _ hi2, wrap_id (n := (i : Int) + 1) (by omega) (by omega)]
   refine Ev.bind (impl_IsTogether_eq l _ hl (ht _ (List.getElem_mem hi2))) ?_
   cases together l st[i]
   ·simp only [Bool.false_eq_true, if_false, Bool.false_and]; exact Ev.now _
   ·simp only [if_true, Bool.true_and]; exact next
 simpa using h0 st.length 0 (by omega)
theorem spec_Covers_eq (l : List S71) (st : List (List Int)) (hl : l.length ≤ 1048576) (hs : st.length ≤ 1048576) (ht : ∀ s ∈ st, s.length ≤ 1048576) : Ev (fun k => spec_Covers.f k l st) (covers l st) := by
 unfold spec_Covers.f covers
 have h2 : ∀ (i : Nat) (hi : i < l.length) (r : Bool), Ev (fun k => spec_Covers.l1 k l st ((i : Int) + 1)) r → ∀ (d j : Nat) (b : Bool), j + d = st.length → Ev (fun k => spec_Covers.l2 k l st (i : Int) b (j : Int)) ((b || (st.drop j).any (fun s => decide (l[i].f0 ∈ s))) && r) := by
  intro i hi r hr d
  induction d with
  | zero =>
   intro j b hj
   refine Ev.succ ?_
   simp only [spec_Covers.l2, show ¬ (j : Int) < (st.length : Int) by omega, if_false, wrap_id (n := (i : Int) + 1) (by omega) (by omega)]
   rw [List.drop_eq_nil_of_le (show st.length ≤ j by omega)]
   cases b
   ·simp only [Bool.false_eq_true, if_false]; exact evq (Ev.now _) (by simp)
   ·simp only [if_true]; exact evq hr (by simp)
  | succ d ih =>
   intro j b hj
   refine Ev.succ ?_
   have hj2 : j < st.length := by omega
   rw [List.drop_eq_getElem_cons hj2, List.any_cons]
   simp only [spec_Covers.l2, show (j : Int) < (st.length : Int) by omega, show (i : Int) < (l.length : Int) by omega, show (0 : Int) ≤ (i : Int) by omega, show (0 : Int) ≤ (j : Int) by omega, if_true, rdL2 _ _ hj2, rdT_Path _ _ hi, wrap_id (n := (j : Int) + 1) (by omega) (by omega)]
   cases b
   ·simp only [Bool.false_eq_true, if_false]
    refine Ev.bind (spec_l6Has_eq _ _ (Nat.le_trans (ht _ (List.getElem_mem hj2)) (by omega))) ?_
    have next := ih (j + 1) (decide (l[i].f0 ∈ st[j])) (by omega)
    rw [show ((j + 1 : Nat) : Int) = (j : Int) + 1 by omega] at next
    exact evq next (by simp)
   ·simp only [if_true]
    have next := ih (j + 1) true (by omega)
    rw [show ((j + 1 : Nat) : Int) = (j : Int) + 1 by omega] at next
    exact evq next (by simp)
 have h1 : ∀ (d i : Nat), i + d = l.length → Ev (fun k => spec_Covers.l1 k l st (i : Int)) ((l.drop i).all (fun x => st.any (fun s => decide (x.f0 ∈ s))) && arePaths l) := by
  intro d
  induction d with
  | zero =>
   intro i hi
   refine Ev.succ ?_
   simp only [spec_Covers.l1, show ¬ (i : Int) < (l.length : Int) by omega, if_false]
   refine Ev.bind (spec_ArePaths_eq l hl) ?_
   exact evq (Ev.now _) (by rw [List.drop_eq_nil_of_le (show l.length ≤ i by omega)]; rfl)
  | succ d ih =>
   intro i hi
   refine Ev.succ ?_
   have hi2 : i < l.length := by omega
   have next := ih (i + 1) (by omega)
   rw [show ((i + 1 : Nat) : Int) = (i : Int) + 1 by omega] at next
   simp only [spec_Covers.l1, show (i : Int) < (l.length : Int) by omega, if_true]
   refine evq (h2 i hi2 _ next st.length 0 false (by omega)) ?_
   rw [List.drop_eq_getElem_cons hi2, List.all_cons, List.drop_zero, Bool.false_or, Bool.and_assoc]
 have h0 : ∀ (d i : Nat), i + d = st.length → Ev (fun k => spec_Covers.l0 k l st (i : Int)) ((st.drop i).all (together l) && (l.all (fun x => st.any (fun s => decide (x.f0 ∈ s))) && arePaths l)) := by
  intro d
  induction d with
  | zero =>
   intro i hi
   refine Ev.succ ?_
   simp only [spec_Covers.l0, show ¬ (i : Int) < (st.length : Int) by omega, if_false]
   exact evq (h1 l.length 0 (by omega)) (by rw [List.drop_eq_nil_of_le (show st.length ≤ i by omega)]; rfl)
  | succ d ih =>
   intro i hi
   refine Ev.succ ?_
   have hi2 : i < st.length := by omega
   have next := ih (i + 1) (by omega)
   rw [show ((i + 1 : Nat) : Int) = (i : Int) + 1 by omega] at next
   rw [List.drop_eq_getElem_cons hi2, List.all_cons]
   simp only [spec_Covers.l0, show (i : Int) < (st.length : Int) by omega, show (0 : Int) ≤ (i : Int) by omega, if_true, rdL2 _ _ hi2, wrap_id (n := (i : Int) + 1) (by omega) (by omega)]
   refine Ev.bind (spec_IsTogether_eq l _ hl (ht _ (List.getElem_mem hi2))) ?_
   cases together l st[i]
   ·simp only [Bool.false_eq_true, if_false, Bool.false_and]; exact Ev.now _
   ·simp only [if_true, Bool.true_and]; exact next
 refine evq (h0 st.length 0 (by omega)) ?_
 rw [List.drop_zero, Bool.and_comm (arePaths l), Bool.and_assoc]
def partOk (l : List S71) (x : S85) : Bool := !decide (x.f0.length = 0) && (together l x.f0 && decide (leastGreen l x.f0 ≤ x.f1 ∧ x.f1 ≤ 60))
def stagesOf (p : List S85) : List (List Int) := p.map (fun x => x.f0)
def isPlan (l : List S71) (p : List S85) : Bool := decide (1 ≤ (p.length : Int) ∧ (p.length : Int) ≤ 6) && (p.all (partOk l) && covers l (stagesOf p))
theorem isPlan_len {l : List S71} {p : List S85} (h : isPlan l p = true) : 1 ≤ p.length ∧ p.length ≤ 6 := by
 unfold isPlan at h
 simp only [Bool.and_eq_true, decide_eq_true_eq] at h
 omega
theorem isPlan_at {l : List S71} {p : List S85} (h : isPlan l p = true) (i : Nat) (hi : i < p.length) : 5 ≤ p[i].f1 ∧ p[i].f1 ≤ 60 := by
 unfold isPlan at h
 simp only [Bool.and_eq_true, List.all_eq_true] at h
 have := h.2.1 _ (List.getElem_mem hi)
 unfold partOk at this
 simp only [Bool.and_eq_true, decide_eq_true_eq] at this
 have h2 : 5 ≤ leastGreen l p[i].f0 := by unfold leastGreen; split <;> omega
 omega
theorem impl_IsPlan_eq (l : List S71) (p : List S85) (hl : l.length ≤ 1048576) (hp : psOk p) : Ev (fun k => impl_IsPlan.f k l p) (isPlan l p) := by
 unfold impl_IsPlan.f isPlan
 obtain ⟨hp, hx⟩ := hp
 simp only [impl_InRange_eq, Option.bind_some]
 by_cases h : 1 ≤ (p.length : Int) ∧ (p.length : Int) ≤ 6
 ·simp only [decide_eq_true h, if_true, Bool.true_and]
  have key : ∀ (d i : Nat) (acc : List (List Int)), i + d = p.length → acc.length = i → (∀ s ∈ acc, s.length ≤ 1048576) → Ev (fun k => impl_IsPlan.l0 k l acc p (p.length : Int) (i : Int)) ((p.drop i).all (partOk l) && covers l (acc ++ stagesOf (p.drop i))) := by
   intro d
   induction d with
   | zero =>
    intro i acc hi ha hacc
    refine Ev.succ ?_
    simp only [impl_IsPlan.l0, show ¬ (i : Int) < (p.length : Int) by omega, if_false]
    refine Ev.bind (impl_Covers_eq l acc hl (by omega) hacc) ?_
    exact evq (Ev.now _) (by rw [List.drop_eq_nil_of_le (show p.length ≤ i by omega)]; simp [stagesOf])
   | succ d ih =>
    intro i acc hi ha hacc
    refine Ev.succ ?_
    have hi2 : i < p.length := by omega
    have hm := hx _ (List.getElem_mem hi2)
    have next := ih (i + 1) (acc ++ [p[i].f0]) (by omega) (by rw [List.length_append, List.length_singleton]; omega) (fun s hs => by
     rcases List.mem_append.1 hs with h | h
     ·exact hacc s h
     ·rw [List.mem_singleton.1 h]; exact hm)
    rw [show ((i + 1 : Nat) : Int) = (i : Int) + 1 by omega] at next
    rw [List.drop_eq_getElem_cons hi2, List.all_cons]
    simp only [impl_IsPlan.l0, show (i : Int) < (p.length : Int) by omega, show (0 : Int) ≤ (i : Int) by omega, if_true, rdT_Part _ _ hi2, wrap_id (n := (i : Int) + 1) (by omega) (by omega)]
    rw [show partOk l p[i] = (!decide (p[i].f0.length = 0) && (together l p[i].f0 && decide (leastGreen l p[i].f0 ≤ p[i].f1 ∧ p[i].f1 ≤ 60))) from rfl]
    by_cases c1 : p[i].f0.length = 0
    ·simp only [show ((p[i].f0.length : Int) = 0) by omega, if_true, decide_eq_true c1, Bool.not_true, Bool.false_and]; exact Ev.now _
    ·simp only [show ¬ ((p[i].f0.length : Int) = 0) by omega, if_false, decide_eq_false c1, Bool.not_false, Bool.true_and]
     refine Ev.bind (impl_IsTogether_eq l _ hl hm) ?_
     cases together l p[i].f0
     ·simp only [Bool.false_eq_true, if_false, Bool.false_and]; exact Ev.now _
     ·simp only [if_true, Bool.true_and]
      refine Ev.bind (impl_LeastGreen_eq l _ hl hm) ?_
      simp only [impl_InRange_eq, Option.bind_some]
      by_cases c2 : leastGreen l p[i].f0 ≤ p[i].f1 ∧ p[i].f1 ≤ 60
      ·simp only [decide_eq_true c2, if_true, Bool.true_and, show acc.length < 5864062014805 by omega]
       exact evq next (by rw [List.append_assoc]; rfl)
      ·simp only [decide_eq_false c2, Bool.false_eq_true, if_false, Bool.false_and]; exact Ev.now _
  simpa [stagesOf] using key p.length 0 [] (by omega) rfl (by simp)
 ·simp only [decide_eq_false h, Bool.false_eq_true, if_false, Bool.false_and]; exact Ev.now _
theorem spec_l8Stages_eq (p : List S85) (hp : p.length ≤ 1048576) : Ev (fun k => spec_l8Stages.f k p) (stagesOf p) := by
 unfold spec_l8Stages.f
 have key : ∀ (d i : Nat) (acc : List (List Int)), i + d = p.length → acc.length = i → Ev (fun k => spec_l8Stages.l0 k p acc (i : Int)) (acc ++ stagesOf (p.drop i)) := by
  intro d
  induction d with
  | zero =>
   intro i acc hi ha
   refine Ev.succ ?_
   simp only [spec_l8Stages.l0, show ¬ (i : Int) < (p.length : Int) by omega, if_false]
   exact evq (Ev.now _) (by rw [List.drop_eq_nil_of_le (show p.length ≤ i by omega)]; simp [stagesOf])
  | succ d ih =>
   intro i acc hi ha
   refine Ev.succ ?_
   have hi2 : i < p.length := by omega
   have next := ih (i + 1) (acc ++ [p[i].f0]) (by omega) (by rw [List.length_append, List.length_singleton]; omega)
   rw [show ((i + 1 : Nat) : Int) = (i : Int) + 1 by omega] at next
   simp only [spec_l8Stages.l0, show (i : Int) < (p.length : Int) by omega, show (0 : Int) ≤ (i : Int) by omega, if_true, rdT_Part _ _ hi2, show acc.length < 5864062014805 by omega, wrap_id (n := (i : Int) + 1) (by omega) (by omega)]
   exact evq next (by rw [List.drop_eq_getElem_cons hi2, List.append_assoc]; rfl)
 simpa using key p.length 0 [] (by omega) rfl
theorem stagesOf_ok {p : List S85} (hp : psOk p) : ∀ s ∈ stagesOf p, s.length ≤ 1048576 := by
 intro s hs
 obtain ⟨x, hx, rfl⟩ := List.mem_map.1 hs
 exact hp.2 x hx
theorem spec_IsPlan_eq (l : List S71) (p : List S85) (hl : l.length ≤ 1048576) (hp : psOk p) : Ev (fun k => spec_IsPlan.f k l p) (isPlan l p) := by
 unfold spec_IsPlan.f isPlan
 have hst := stagesOf_ok hp
 obtain ⟨hp, hx⟩ := hp
 simp only [spec_l1In_eq, Option.bind_some]
 by_cases h : 1 ≤ (p.length : Int) ∧ (p.length : Int) ≤ 6
 ·simp only [decide_eq_true h, if_true, Bool.true_and]
  have key : ∀ (d i : Nat), i + d = p.length → Ev (fun k => spec_IsPlan.l0 k l p (i : Int)) ((p.drop i).all (partOk l) && covers l (stagesOf p)) := by
   intro d
   induction d with
   | zero =>
    intro i hi
    refine Ev.succ ?_
    simp only [spec_IsPlan.l0, show ¬ (i : Int) < (p.length : Int) by omega, if_false]
    refine Ev.bind (spec_l8Stages_eq p hp) ?_
    refine Ev.bind (spec_Covers_eq l _ hl (by unfold stagesOf; rw [List.length_map]; exact hp) hst) ?_
    exact evq (Ev.now _) (by rw [List.drop_eq_nil_of_le (show p.length ≤ i by omega)]; rfl)
   | succ d ih =>
    intro i hi
    refine Ev.succ ?_
    have hi2 : i < p.length := by omega
    have hm := hx _ (List.getElem_mem hi2)
    have next := ih (i + 1) (by omega)
    rw [show ((i + 1 : Nat) : Int) = (i : Int) + 1 by omega] at next
    rw [List.drop_eq_getElem_cons hi2, List.all_cons]
    simp only [spec_IsPlan.l0, show (i : Int) < (p.length : Int) by omega, show (0 : Int) ≤ (i : Int) by omega, if_true, rdT_Part _ _ hi2, wrap_id (n := (i : Int) + 1) (by omega) (by omega)]
    rw [show partOk l p[i] = (!decide (p[i].f0.length = 0) && (together l p[i].f0 && decide (leastGreen l p[i].f0 ≤ p[i].f1 ∧ p[i].f1 ≤ 60))) from rfl]
    by_cases c1 : p[i].f0.length = 0
    ·simp only [show ((p[i].f0.length : Int) = 0) by omega, if_true, decide_eq_true c1, Bool.not_true, Bool.false_and]; exact Ev.now _
    ·simp only [show ¬ ((p[i].f0.length : Int) = 0) by omega, if_false, decide_eq_false c1, Bool.not_false, Bool.true_and]
     refine Ev.bind (spec_IsTogether_eq l _ hl hm) ?_
     cases together l p[i].f0
     ·simp only [Bool.false_eq_true, if_false, Bool.false_and]; exact Ev.now _
     ·simp only [if_true, Bool.true_and]
      refine Ev.bind (spec_LeastGreen_eq l _ hl hm) ?_
      simp only [spec_l1In_eq, Option.bind_some]
      by_cases c2 : leastGreen l p[i].f0 ≤ p[i].f1 ∧ p[i].f1 ≤ 60
      ·simp only [decide_eq_true c2, if_true, Bool.true_and]
       exact next
      ·simp only [decide_eq_false c2, Bool.false_eq_true, if_false, Bool.false_and]; exact Ev.now _
  simpa using key p.length 0 (by omega)
 ·simp only [decide_eq_false h, Bool.false_eq_true, if_false, Bool.false_and]; exact Ev.now _
theorem nxt (i n : Nat) (hi : i < n) (hn : n ≤ 1048576) : Int.tmod (wrap64 ((i : Int) + 1)) (n : Int) = (((i + 1) % n : Nat) : Int) := by
 rw [wrap_id (by omega) (by omega), tmod_nn (by omega), show (i : Int) + 1 = ((i + 1 : Nat) : Int) by omega, ← Int.natCast_emod]
def nextSt (p : List S85) (i : Nat) : List Int := (rd_T85 p (((i + 1) % p.length : Nat) : Int)).f0
def longP (l : List S71) (p : List S85) (i : Nat) : Int := (rd_T85 p (i : Int)).f1 + clearBetween l (rd_T85 p (i : Int)).f0 (nextSt p i)
theorem nextSt_ok {p : List S85} (hp : psOk p) (i : Nat) (hi : i < p.length) : (nextSt p i).length ≤ 1048576 := by
 unfold nextSt
 have : (i + 1) % p.length < p.length := Nat.mod_lt _ (by omega)
 rw [rdT_Part _ _ this]
 exact hp.2 _ (List.getElem_mem _)
theorem longP_bd {l : List S71} {p : List S85} (h : isPlan l p = true) (i : Nat) (hi : i < p.length) : 5 ≤ longP l p i ∧ longP l p i ≤ 65 := by
 unfold longP
 have h1 := isPlan_at h i hi
 have h2 := clearBetween_bd l (rd_T85 p (i : Int)).f0 (nextSt p i)
 rw [rdT_Part _ _ hi] at h2 ⊢
 omega
def sumP (l : List S71) (p : List S85) : Nat → Nat → Int
 | 0, _ => 0
 | n + 1, i => longP l p i + sumP l p n (i + 1)
theorem sumP_succ (l : List S71) (p : List S85) (n i : Nat) : sumP l p (n + 1) i = longP l p i + sumP l p n (i + 1) := rfl
theorem sumP_zero (l : List S71) (p : List S85) (i : Nat) : sumP l p 0 i = 0 := rfl
theorem sumP_bd {l : List S71} {p : List S85} (h : isPlan l p = true) : ∀ (n i : Nat), i + n ≤ p.length → 5 * (n : Int) ≤ sumP l p n i ∧ sumP l p n i ≤ 65 * (n : Int)
 | 0, i, _ => by rw [sumP_zero]; omega
 | n + 1, i, hi => by
  have h1 := sumP_bd h n (i + 1) (by omega)
  have h2 := longP_bd h i (by omega)
  rw [sumP_succ]; omega
def cycleP (l : List S71) (p : List S85) : Int := if isPlan l p = true then sumP l p p.length 0 else 0
theorem cycleP_pos {l : List S71} {p : List S85} (h : isPlan l p = true) : 5 ≤ cycleP l p ∧ cycleP l p ≤ 390 := by
 have h1 := sumP_bd h p.length 0 (by omega)
 have h2 := isPlan_len h
 unfold cycleP
 rw [if_pos h]; omega
/-- Which part a second of the cycle falls into, and how far. -/
def walkP (l : List S71) (p : List S85) : Nat → Nat → Int → Int × Int
 | 0, i, s => ((i : Int), s)
 | n + 1, i, s => if s < longP l p i then ((i : Int), s) else walkP l p n (i + 1) (s - longP l p i)
theorem walkP_succ (l : List S71) (p : List S85) (n i : Nat) (s : Int) : walkP l p (n + 1) i s = if s < longP l p i then ((i : Int), s) else walkP l p n (i + 1) (s - longP l p i) := rfl
theorem walkP_at {l : List S71} {p : List S85} : ∀ (n i : Nat) (s : Int), i + n = p.length → 0 ≤ s → s < sumP l p n i → ∃ j : Nat, j < p.length ∧ (walkP l p n i s).1 = (j : Int) ∧ 0 ≤ (walkP l p n i s).2 ∧ (walkP l p n i s).2 < longP l p j
 | 0, i, s, _, h0, h1 => by rw [sumP_zero] at h1; omega
 | n + 1, i, s, hi, h0, h1 => by
  rw [sumP_succ] at h1
  rw [walkP_succ]
  by_cases c : s < longP l p i
  ·rw [if_pos c]; exact ⟨i, by omega, rfl, h0, c⟩
  ·rw [if_neg c]; exact walkP_at n (i + 1) _ (by omega) (by omega) (by omega)
def partAt (l : List S71) (p : List S85) (s : Int) : Int × Int := if isPlan l p = true ∧ (0 ≤ s ∧ s ≤ 1000000) then walkP l p p.length 0 (s % cycleP l p) else (-1, 0)
theorem partAt_at {l : List S71} {p : List S85} {s : Int} (h : 0 ≤ (partAt l p s).1) : isPlan l p = true ∧ ∃ j : Nat, j < p.length ∧ (partAt l p s).1 = (j : Int) ∧ 0 ≤ (partAt l p s).2 ∧ (partAt l p s).2 < longP l p j := by
 unfold partAt at h ⊢
 by_cases c : isPlan l p = true ∧ (0 ≤ s ∧ s ≤ 1000000)
 ·rw [if_pos c] at h ⊢
  have hc := cycleP_pos c.1
  have h2 : s % cycleP l p < cycleP l p := Int.emod_lt_of_pos _ (by omega)
  have h3 : 0 ≤ s % cycleP l p := Int.emod_nonneg _ (by omega)
  refine ⟨c.1, walkP_at p.length 0 _ (by omega) h3 ?_⟩
  have e : cycleP l p = sumP l p p.length 0 := by unfold cycleP; rw [if_pos c.1]
  rw [e] at h2 ⊢; exact h2
 ·rw [if_neg c] at h; dsimp only at h; omega
theorem impl_nextStage_eq (p : List S85) (i : Nat) (hi : i < p.length) (hp : p.length ≤ 1048576) : impl_nextStage.f p (i : Int) = some (nextSt p i) := by
 unfold impl_nextStage.f nextSt
 have : (i + 1) % p.length < p.length := Nat.mod_lt _ (by omega)
 simp only [nxt i p.length hi hp, show ¬ (p.length : Int) = 0 by omega, if_false, show (0 : Int) ≤ (((i + 1) % p.length : Nat) : Int) by omega, show (((i + 1) % p.length : Nat) : Int) < (p.length : Int) by omega, if_true]
theorem impl_longOf_eq (l : List S71) (p : List S85) (hl : l.length ≤ 1048576) (hp : psOk p) (h : isPlan l p = true) (i : Nat) (hi : i < p.length) : Ev (fun k => impl_longOf.f k l p (i : Int)) (longP l p i) := by
 unfold impl_longOf.f
 have hb := longP_bd h i hi
 simp only [show (0 : Int) ≤ (i : Int) by omega, show (i : Int) < (p.length : Int) by omega, if_true, impl_nextStage_eq p i hi hp.1, Option.bind_some]
 refine Ev.bind (impl_ClearBetween_eq l _ _ hl (by rw [rdT_Part _ _ hi]; exact hp.2 _ (List.getElem_mem _)) (nextSt_ok hp i hi)) ?_
 unfold longP at hb ⊢
 rw [wrap_id (by omega) (by omega)]
 exact Ev.now _
theorem spec_l8Long_eq (l : List S71) (p : List S85) (hl : l.length ≤ 1048576) (hp : psOk p) (h : isPlan l p = true) (i : Nat) (hi : i < p.length) : Ev (fun k => spec_l8Long.f k l p (i : Int)) (longP l p i) := by
 unfold spec_l8Long.f
 have hb := longP_bd h i hi
 have : (i + 1) % p.length < p.length := Nat.mod_lt _ (by omega)
 simp only [nxt i p.length hi hp.1, show ¬ (p.length : Int) = 0 by omega, if_false, show (0 : Int) ≤ (((i + 1) % p.length : Nat) : Int) by omega, show (((i + 1) % p.length : Nat) : Int) < (p.length : Int) by omega, show (0 : Int) ≤ (i : Int) by omega, show (i : Int) < (p.length : Int) by omega, if_true]
 refine Ev.bind (spec_ClearBetween_eq l _ _ hl (by rw [rdT_Part _ _ hi]; exact hp.2 _ (List.getElem_mem _)) (nextSt_ok hp i hi)) ?_
 unfold longP nextSt at hb ⊢
 rw [wrap_id (by omega) (by omega)]
 exact Ev.now _
theorem impl_Cycle_eq (l : List S71) (p : List S85) (hl : l.length ≤ 1048576) (hp : psOk p) : Ev (fun k => impl_Cycle.f k l p) (cycleP l p) := by
 unfold impl_Cycle.f cycleP
 refine Ev.bind (impl_IsPlan_eq l p hl hp) ?_
 cases h : isPlan l p
 ·simp only [Bool.false_eq_true, if_false]; exact Ev.now _
 simp only [if_true]
 have hlen := isPlan_len h
 have key : ∀ (d i : Nat) (a : Int), i + d = p.length → 0 ≤ a → a ≤ 65 * (i : Int) → Ev (fun k => impl_Cycle.l0 k l p a (p.length : Int) (i : Int)) (a + sumP l p d i) := by
  intro d
  induction d with
  | zero =>
   intro i a hi h0 h1
   refine Ev.succ ?_
   simp only [impl_Cycle.l0, show ¬ (i : Int) < (p.length : Int) by omega, if_false]
   exact evq (Ev.now _) (by simp [sumP])
  | succ d ih =>
   intro i a hi h0 h1
   refine Ev.succ ?_
   have hb := longP_bd h i (by omega)
   have next := ih (i + 1) (a + longP l p i) (by omega) (by omega) (by omega)
   rw [show ((i + 1 : Nat) : Int) = (i : Int) + 1 by omega] at next
   simp only [impl_Cycle.l0, show (i : Int) < (p.length : Int) by omega, if_true, wrap_id (n := (i : Int) + 1) (by omega) (by omega)]
   refine Ev.bind (impl_longOf_eq l p hl hp h i (by omega)) ?_
   rw [wrap_id (by omega) (by omega)]
   exact evq next (by rw [sumP_succ]; omega)
 simpa using key p.length 0 0 (by omega) (by omega) (by omega)
theorem impl_PartAt_eq (l : List S71) (p : List S85) (s : Int) (hl : l.length ≤ 1048576) (hp : psOk p) : Ev (fun k => impl_PartAt.f k l p s) (partAt l p s) := by
 unfold impl_PartAt.f
 refine Ev.bind (impl_Cycle_eq l p hl hp) ?_
 have jt : ∀ c : Int, Ev (fun k => impl_PartAt.j0 k l p s c true) (-1, 0) := by
  intro c
  refine Ev.succ ?_
  simp only [impl_PartAt.j0, if_true]; exact Ev.now _
 cases h : isPlan l p
 ·have e : cycleP l p = 0 := by unfold cycleP; rw [if_neg (by rw [h]; decide)]
  simp only [e, if_true]
  exact evq (jt 0) (by unfold partAt; rw [if_neg (by rw [h]; simp)])
 have hc := cycleP_pos h
 simp only [show ¬ cycleP l p = 0 by omega, if_false, impl_InRange_eq, Option.bind_some]
 by_cases hs : 0 ≤ s ∧ s ≤ 1000000
 ·rw [decide_eq_true hs]
  have e : partAt l p s = walkP l p p.length 0 (s % cycleP l p) := by unfold partAt; rw [if_pos ⟨h, hs⟩]
  rw [e]
  refine Ev.succ ?_
  simp only [impl_PartAt.j0, Bool.not_true, Bool.false_eq_true, if_false, show ¬ cycleP l p = 0 by omega]
  rw [tmod_nn hs.1]
  have h2 : s % cycleP l p < cycleP l p := Int.emod_lt_of_pos _ (by omega)
  have h3 : 0 ≤ s % cycleP l p := Int.emod_nonneg _ (by omega)
  have e2 : cycleP l p = sumP l p p.length 0 := by unfold cycleP; rw [if_pos h]
  have hlen := isPlan_len h
  have key : ∀ (d i : Nat) (a : Int), i + d = p.length → 0 ≤ a → a < sumP l p d i → a ≤ 400 → Ev (fun k => impl_PartAt.l0 k l p a (i : Int)) (walkP l p d i a) := by
   intro d
   induction d with
   | zero => intro i a hi h0 h1 h2; rw [sumP_zero] at h1; omega
   | succ d ih =>
    intro i a hi h0 h1 h2
    refine Ev.succ ?_
    have hb := longP_bd h i (by omega)
    rw [sumP_succ] at h1
    simp only [impl_PartAt.l0, wrap_id (n := (i : Int) + 1) (by omega) (by omega)]
    refine Ev.bind (impl_longOf_eq l p hl hp h i (by omega)) ?_
    rw [walkP_succ]
    by_cases c : a < longP l p i
    ·rw [if_pos c]; refine Ev.ifn (by omega) ?_; exact Ev.now _
    ·rw [if_neg c]; refine Ev.ifp (by omega) ?_
     refine Ev.bind (impl_longOf_eq l p hl hp h i (by omega)) ?_
     rw [wrap_id (by omega) (by omega)]
     have next := ih (i + 1) (a - longP l p i) (by omega) (by omega) (by omega) (by omega)
     rw [show ((i + 1 : Nat) : Int) = (i : Int) + 1 by omega] at next
     exact next
  exact key p.length 0 _ (by omega) h3 (by rw [← e2]; exact h2) (by omega)
 ·rw [decide_eq_false hs]
  simp only [Bool.not_false]
  exact evq (jt _) (by unfold partAt; rw [if_neg (fun x => hs x.2)])
def lightAt (l : List S71) (p : List S85) (s id : Int) : Int :=
 if findP l id < 0 then 0 else if (partAt l p s).1 < 0 then 0 else
  if id ∈ (rd_T85 p (partAt l p s).1).f0 then
   (if (partAt l p s).2 < (rd_T85 p (partAt l p s).1).f1 ∨ id ∈ nextSt p (partAt l p s).1.toNat then 1
    else if (partAt l p s).2 < (rd_T85 p (partAt l p s).1).f1 + clrOf l id then 2 else 0)
  else 0
theorem impl_LightAt_eq (l : List S71) (p : List S85) (s id : Int) (hl : l.length ≤ 1048576) (hp : psOk p) : Ev (fun k => impl_LightAt.f k l p s id) (lightAt l p s id) := by
 unfold impl_LightAt.f lightAt
 simp only [impl_FindPath_eq, Option.bind_some]
 by_cases h0 : findP l id < 0
 ·simp only [h0, if_true]; exact Ev.now _
 obtain ⟨i, hi, he, hid⟩ := findP_at (show 0 ≤ findP l id by omega)
 have hcl : clrOf l id = clearOf l[i].f0 l[i].f1 l[i].f2 l[i].f3 := by unfold clrOf; rw [he, rdT_Path _ _ hi]
 have hcb := clearOf_bd l[i].f0 l[i].f1 l[i].f2 l[i].f3
 rw [he, hcl]
 simp only [show ¬ ((i : Int) < 0) by omega, if_false, show (0 : Int) ≤ (i : Int) by omega, show (i : Int) < (l.length : Int) by omega, if_true, rdT_Path _ _ hi, hid]
 refine Ev.bind ?_ (Ev.now _)
 unfold impl_shown.f
 refine Ev.bind (impl_PartAt_eq l p s hl hp) ?_
 by_cases h1 : (partAt l p s).1 < 0
 ·simp only [h1, if_true]
  refine Ev.succ ?_
  simp only [impl_shown.j0, if_true]; exact Ev.now _
 obtain ⟨hpl, j, hj, e1, e2, e3⟩ := partAt_at (show 0 ≤ (partAt l p s).1 by omega)
 generalize (partAt l p s).2 = t at e2 e3 ⊢
 have hgr := isPlan_at hpl j hj
 have hpj := hp.2 _ (List.getElem_mem hj)
 rw [e1]
 simp only [show ¬ ((j : Int) < 0) by omega, if_false, show (0 : Int) ≤ (j : Int) by omega, show (j : Int) < (p.length : Int) by omega, if_true, rdT_Part _ _ hj, Int.toNat_natCast]
 refine Ev.bind (slices_Contains_eq p[j].f0 id (by omega)) ?_
 have j1 : ∀ (b : Bool), Ev (fun k => impl_shown.j1 k p (j : Int) t b id l[i].f1 l[i].f2 l[i].f3) (if b = true then 1 else if t < p[j].f1 + clearOf l[i].f0 l[i].f1 l[i].f2 l[i].f3 then 2 else 0) := by
  intro b
  refine Ev.succ ?_
  simp only [impl_shown.j1, show (0 : Int) ≤ (j : Int) by omega, show (j : Int) < (p.length : Int) by omega, if_true, rdT_Part _ _ hj]
  cases b
  ·simp only [Bool.false_eq_true, if_false]
   rw [← hid]
   refine Ev.bind (impl_ClearOf_ev _ _ _ _) ?_
   rw [wrap_id (by omega) (by omega)]
   refine Ev.ifd (fun h => ?_) (fun h => ?_)
   ·rw [if_pos h]; exact Ev.now _
   ·rw [if_neg h]; exact Ev.now _
  ·simp only [if_true]; exact Ev.now _
 by_cases c1 : id ∈ p[j].f0
 ·simp only [decide_eq_true c1, Bool.not_true]
  rw [if_pos c1]
  refine Ev.succ ?_
  simp only [impl_shown.j0, Bool.false_eq_true, if_false, show (0 : Int) ≤ (j : Int) by omega, show (j : Int) < (p.length : Int) by omega, if_true, rdT_Part _ _ hj]
  by_cases c2 : t < p[j].f1
  ·simp only [c2, if_true, true_or]
   exact evq (j1 true) (by simp)
  ·simp only [c2, if_false, false_or, impl_nextStage_eq p j hj hp.1, Option.bind_some]
   have hns := nextSt_ok hp j hj
   refine Ev.bind (slices_Contains_eq (nextSt p j) id (by omega)) ?_
   refine evq (j1 _) ?_
   by_cases c3 : id ∈ nextSt p j <;> simp [c3, hid]
 ·simp only [decide_eq_false c1, Bool.not_false]
  rw [if_neg c1]
  refine Ev.succ ?_
  simp only [impl_shown.j0, if_true]; exact Ev.now _
theorem spec_l9Light_eq (l : List S71) (p : List S85) (j : Nat) (t id : Int) (hl : l.length ≤ 1048576) (hp : psOk p) (hpl : isPlan l p = true) (hj : j < p.length) (hf : 0 ≤ findP l id) : Ev (fun k => spec_l9Light.f k l p (j : Int) t id) (if id ∈ (rd_T85 p (j : Int)).f0 then (if t < (rd_T85 p (j : Int)).f1 ∨ id ∈ nextSt p j then 1 else if t < (rd_T85 p (j : Int)).f1 + clrOf l id then 2 else 0) else 0) := by
 unfold spec_l9Light.f
 have hmod : (j + 1) % p.length < p.length := Nat.mod_lt _ (by omega)
 have hgr := isPlan_at hpl j hj
 have hpj := hp.2 _ (List.getElem_mem hj)
 have hns := nextSt_ok hp j hj
 obtain ⟨i, hi, he, hid⟩ := findP_at hf
 have hcl : clrOf l id = clearOf l[i].f0 l[i].f1 l[i].f2 l[i].f3 := by unfold clrOf; rw [he, rdT_Path _ _ hi]
 have hcb := clearOf_bd l[i].f0 l[i].f1 l[i].f2 l[i].f3
 have hnx : (rd_T85 p (((j + 1) % p.length : Nat) : Int)).f0 = nextSt p j := rfl
 simp only [nxt j p.length hj hp.1, show ¬ (p.length : Int) = 0 by omega, if_false, show (0 : Int) ≤ (((j + 1) % p.length : Nat) : Int) by omega, show (((j + 1) % p.length : Nat) : Int) < (p.length : Int) by omega, show (0 : Int) ≤ (j : Int) by omega, show (j : Int) < (p.length : Int) by omega, if_true, hnx, rdT_Part _ _ hj]
 refine Ev.bind (spec_l6Has_eq p[j].f0 id (by omega)) ?_
 have j0 : ∀ (a b : Bool), Ev (fun k => spec_l9Light.j0 k l p (j : Int) t id a b) (if b = true then 1 else if a = true then (if t < p[j].f1 + clrOf l id then 2 else 0) else 0) := by
  intro a b
  refine Ev.succ ?_
  simp only [spec_l9Light.j0, show (0 : Int) ≤ (j : Int) by omega, show (j : Int) < (p.length : Int) by omega, if_true, rdT_Part _ _ hj]
  cases b
  ·simp only [Bool.false_eq_true, if_false]
   cases a
   ·simp only [Bool.false_eq_true, if_false]; exact Ev.now _
   ·simp only [if_true]
    refine Ev.bind (spec_FindPath_eq l id hl) ?_
    rw [he, hcl]
    simp only [show (0 : Int) ≤ (i : Int) by omega, show (i : Int) < (l.length : Int) by omega, if_true, rdT_Path _ _ hi, spec_ClearOf_eq, Option.bind_some]
    rw [wrap_id (by omega) (by omega)]
    refine Ev.ifd (fun h => ?_) (fun h => ?_)
    ·rw [if_pos h]; exact Ev.now _
    ·rw [if_neg h]; exact Ev.now _
  ·simp only [if_true]; exact Ev.now _
 by_cases c1 : id ∈ p[j].f0
 ·simp only [decide_eq_true c1, if_true]
  rw [if_pos c1]
  by_cases c2 : t < p[j].f1
  ·simp only [c2, if_true, true_or]
   exact evq (j0 true true) (by simp)
  ·simp only [c2, if_false, false_or]
   refine Ev.bind (spec_l6Has_eq (nextSt p j) id (by omega)) ?_
   refine evq (j0 true _) ?_
   by_cases c3 : id ∈ nextSt p j <;> simp [c3]
 ·simp only [decide_eq_false c1, Bool.false_eq_true, if_false]
  rw [if_neg c1]
  exact evq (j0 false false) (by simp)
/-- The light of a path at a second of a part. -/
def lightV (l : List S71) (p : List S85) (id : Int) (x : Int × Int) : Int :=
 if id ∈ (rd_T85 p x.1).f0 then
  (if x.2 < (rd_T85 p x.1).f1 ∨ id ∈ nextSt p x.1.toNat then 1
   else if x.2 < (rd_T85 p x.1).f1 + clrOf l id then 2 else 0)
 else 0
theorem lightAt_V (l : List S71) (p : List S85) (s id : Int) : lightAt l p s id = if findP l id < 0 then 0 else if (partAt l p s).1 < 0 then 0 else lightV l p id (partAt l p s) := rfl
def blocks (l : List S71) (p : List S85) (id : Int) : Nat → Nat → List Int
 | 0, _ => []
 | n + 1, i => (List.range (longP l p i).toNat).map (fun (s : Nat) => lightV l p id ((i : Int), (s : Int))) ++ blocks l p id n (i + 1)
theorem blocks_succ (l : List S71) (p : List S85) (id : Int) (n i : Nat) : blocks l p id (n + 1) i = (List.range (longP l p i).toNat).map (fun (s : Nat) => lightV l p id ((i : Int), (s : Int))) ++ blocks l p id n (i + 1) := rfl
theorem blocks_walk {l : List S71} {p : List S85} (h : isPlan l p = true) (id : Int) : ∀ (n i : Nat), i + n = p.length → blocks l p id n i = (List.range (sumP l p n i).toNat).map (fun (t : Nat) => lightV l p id (walkP l p n i (t : Int)))
 | 0, i, _ => by simp [blocks, sumP]
 | n + 1, i, hi => by
  have h1 := longP_bd h i (by omega)
  have h2 := sumP_bd h n (i + 1) (by omega)
  have ih := blocks_walk h id n (i + 1) (by omega)
  rw [blocks_succ, sumP_succ, ih, show (longP l p i + sumP l p n (i + 1)).toNat = (longP l p i).toNat + (sumP l p n (i + 1)).toNat by omega, List.range_add, List.map_append, List.map_map]
  congr 1
  ·apply List.map_congr_left
   intro t ht
   have := List.mem_range.1 ht
   rw [walkP_succ, if_pos (by omega)]
  ·apply List.map_congr_left
   intro t ht
   have := List.mem_range.1 ht
   show _ = lightV l p id (walkP l p (n + 1) i (((longP l p i).toNat + t : Nat) : Int))
   rw [walkP_succ, if_neg (by omega), show (((longP l p i).toNat + t : Nat) : Int) - longP l p i = (t : Int) by omega]
def rowP (l : List S71) (p : List S85) (id : Int) : List Int := if isPlan l p = true ∧ ¬ findP l id < 0 then blocks l p id p.length 0 else []
def greensP (l : List S71) (p : List S85) (id : Int) : List Bool := if findP l id < 0 then [] else (List.range (cycleP l p).toNat).map (fun (t : Nat) => lightAt l p (t : Int) id == 1)
theorem greens_row (l : List S71) (p : List S85) (id : Int) : greensP l p id = (rowP l p id).map (fun x => x == 1) := by
 unfold greensP rowP
 by_cases h0 : findP l id < 0
 ·rw [if_pos h0, if_neg (fun x => x.2 h0)]; rfl
 rw [if_neg h0]
 by_cases h : isPlan l p = true
 ·rw [if_pos ⟨h, h0⟩, blocks_walk h id p.length 0 (by omega), List.map_map]
  have hc := cycleP_pos h
  have e : cycleP l p = sumP l p p.length 0 := by unfold cycleP; rw [if_pos h]
  rw [← e]
  apply List.map_congr_left
  intro t ht
  have := List.mem_range.1 ht
  show (lightAt l p (t : Int) id == 1) = (lightV l p id (walkP l p p.length 0 (t : Int)) == 1)
  have e2 : partAt l p (t : Int) = walkP l p p.length 0 (t : Int) := by
   unfold partAt
   rw [if_pos ⟨h, by omega⟩, Int.emod_eq_of_lt (by omega) (by omega)]
  obtain ⟨j, _, e3, _⟩ := walkP_at (l := l) (p := p) p.length 0 (t : Int) (by omega) (by omega) (by rw [← e]; omega)
  rw [lightAt_V, if_neg h0, e2, if_neg (by omega)]
 ·rw [if_neg (fun x => h x.1)]
  have e : cycleP l p = 0 := by unfold cycleP; rw [if_neg h]
  rw [e]; rfl
theorem greens_len (l : List S71) (p : List S85) (id : Int) : (greensP l p id).length ≤ 390 := by
 unfold greensP
 split
 ·simp
 ·rw [List.length_map, List.length_range]
  by_cases h : isPlan l p = true
  ·have := cycleP_pos h; omega
  ·have e : cycleP l p = 0 := by unfold cycleP; rw [if_neg h]
   omega
theorem impl_greens_eq (l : List S71) (p : List S85) (id : Int) (hl : l.length ≤ 1048576) (hp : psOk p) : Ev (fun k => impl_greens.f k l p id) (greensP l p id) := by
 unfold impl_greens.f greensP
 simp only [impl_FindPath_eq, Option.bind_some]
 by_cases h0 : findP l id < 0
 ·simp only [h0, if_true]; exact Ev.now _
 simp only [h0, if_false]
 refine Ev.bind (impl_Cycle_eq l p hl hp) ?_
 have hc : 0 ≤ cycleP l p ∧ cycleP l p ≤ 390 := by
  by_cases h : isPlan l p = true
  ·have := cycleP_pos h; omega
  ·have e : cycleP l p = 0 := by unfold cycleP; rw [if_neg h]
   omega
 simp only [hc.1, if_true, show (cycleP l p).toNat ≤ 281474976710656 by omega, List.length_replicate]
 have := Ev.copy (g := fun k ys i => impl_greens.l0 k l p id ys ((cycleP l p).toNat : Int) i) (List.range (cycleP l p).toNat) (fun (t : Nat) => lightAt l p (t : Int) id == 1) false (fun i ys r h hy hr => by
  refine Ev.succ ?_
  rw [List.length_range] at h hy
  rw [List.getElem_range] at hr
  simp only [impl_greens.l0, show (i : Int) < ((cycleP l p).toNat : Int) by omega, show (0 : Int) ≤ (i : Int) by omega, show (i : Int) < (ys.length : Int) by omega, if_true, Int.toNat_natCast, wrap_id (n := (i : Int) + 1) (by omega) (by omega)]
  refine Ev.bind (impl_LightAt_eq l p _ _ hl hp) ?_
  exact hr) (fun ys => by
  refine Ev.succ ?_
  simp only [impl_greens.l0, List.length_range, Int.lt_irrefl, if_false]
  exact Ev.now _)
 rw [List.length_range] at this
 exact this
theorem spec_l9Row_eq (l : List S71) (p : List S85) (id : Int) (hl : l.length ≤ 1048576) (hp : psOk p) : Ev (fun k => spec_l9Row.f k l p id) (rowP l p id) := by
 unfold spec_l9Row.f rowP
 simp only [Option.bind_some]
 have jt : Ev (fun k => spec_l9Row.j0 k l p id [] true) [] := by
  refine Ev.succ ?_
  simp only [spec_l9Row.j0, if_true]; exact Ev.now _
 refine Ev.bind (spec_IsPlan_eq l p hl hp) ?_
 cases h : isPlan l p
 ·simp only [Bool.false_eq_true, if_false, false_and]; exact jt
 simp only [if_true]
 refine Ev.bind (spec_FindPath_eq l id hl) ?_
 by_cases h0 : findP l id < 0
 ·simp only [decide_eq_true h0, h0, not_true, and_false, if_false]; exact jt
 simp only [decide_eq_false h0, h0, not_false_eq_true, and_self, if_true]
 have hlen := isPlan_len h
 have inner : ∀ (i : Nat), i < p.length → ∀ (r : List Int) (hr : ∀ o : List Int, o.length ≤ 65 * (i + 1) → Ev (fun k => spec_l9Row.l0 k l p id o ((i : Int) + 1)) (o ++ r)), ∀ (d s : Nat) (o : List Int), s + d = (longP l p i).toNat → o.length ≤ 65 * i + s → Ev (fun k => spec_l9Row.l1 k l p id o (i : Int) (s : Int)) (o ++ ((List.range' s d).map (fun (s : Nat) => lightV l p id ((i : Int), (s : Int))) ++ r)) := by
  intro i hi r hr d
  have hb := longP_bd h i hi
  induction d with
  | zero =>
   intro s o hs ho
   refine Ev.succ ?_
   simp only [spec_l9Row.l1, wrap_id (n := (i : Int) + 1) (by omega) (by omega)]
   refine Ev.bind (spec_l8Long_eq l p hl hp h i hi) ?_
   refine Ev.ifn (by omega) ?_
   exact evq (hr o (by omega)) (by simp)
  | succ d ih =>
   intro s o hs ho
   refine Ev.succ ?_
   simp only [spec_l9Row.l1, wrap_id (n := (s : Int) + 1) (by omega) (by omega), show o.length < 17592186044416 by omega, if_true]
   refine Ev.bind (spec_l8Long_eq l p hl hp h i hi) ?_
   refine Ev.ifp (by omega) ?_
   refine Ev.bind (spec_l9Light_eq l p i (s : Int) id hl hp h hi (by omega)) ?_
   have next := ih (s + 1) (o ++ [lightV l p id ((i : Int), (s : Int))]) (by omega) (by rw [List.length_append, List.length_singleton]; omega)
   rw [show ((s + 1 : Nat) : Int) = (s : Int) + 1 by omega] at next
   refine evq next ?_
   rw [List.range'_succ, List.map_cons, List.append_assoc]; rfl
 have key : ∀ (d i : Nat) (o : List Int), i + d = p.length → o.length ≤ 65 * i → Ev (fun k => spec_l9Row.l0 k l p id o (i : Int)) (o ++ blocks l p id d i) := by
  intro d
  induction d with
  | zero =>
   intro i o hi ho
   refine Ev.succ ?_
   simp only [spec_l9Row.l0, show ¬ (i : Int) < (p.length : Int) by omega, if_false]
   exact evq (Ev.now _) (by simp [blocks])
  | succ d ih =>
   intro i o hi ho
   refine Ev.succ ?_
   simp only [spec_l9Row.l0, show (i : Int) < (p.length : Int) by omega, if_true]
   have next := inner i (by omega) (blocks l p id d (i + 1)) (fun o ho => by
    have := ih (i + 1) o (by omega) (by omega)
    rw [show ((i + 1 : Nat) : Int) = (i : Int) + 1 by omega] at this
    exact this) (longP l p i).toNat 0 o (by omega) (by omega)
   refine evq next ?_
   rw [blocks_succ, List.range_eq_range']
 refine Ev.succ ?_
 simp only [spec_l9Row.j0, Bool.false_eq_true, if_false]
 simpa using key p.length 0 [] (by omega) (by simp)
def gAt (g : List Bool) (i : Nat) : Bool := g.getD i false
def edge (g : List Bool) (i : Nat) : Bool := gAt g i && !gAt g ((i + g.length - 1) % g.length)
def firstE (g : List Bool) : Nat → Nat → Option Nat
 | 0, _ => none
 | n + 1, i => if edge g i = true then some i else firstE g n (i + 1)
def runG (g : List Bool) (s : Nat) : Nat → Nat → Nat
 | 0, m => m
 | n + 1, m => if gAt g ((s + m) % g.length) = true then runG g s n (m + 1) else m
def windowG (g : List Bool) : Int × Int × Bool := if g.length = 0 ∨ 200 < g.length then (0, 0, false) else
 match firstE g g.length 0 with
 | none => (0, (g.length : Int), true)
 | some s => ((s : Int), (runG g s g.length 0 : Int), true)
theorem firstE_at (g : List Bool) (s : Nat) : ∀ n i, firstE g n i = some s → edge g s = true ∧ i ≤ s ∧ s < i + n
 | 0, i, h => by simp [firstE] at h
 | n + 1, i, h => by
  unfold firstE at h
  split at h
  ·rename_i c
   have : i = s := by simpa using h
   subst this
   exact ⟨c, Nat.le_refl _, by omega⟩
  ·have := firstE_at g s n (i + 1) h
   exact ⟨this.1, by omega, by omega⟩
theorem prevI (i n : Nat) (hn : 1 ≤ n) (hb : i + n ≤ 100000000) : Int.tmod (wrap64 (wrap64 ((i : Int) + (n : Int)) - 1)) (n : Int) = (((i + n - 1) % n : Nat) : Int) := by
 rw [wrap_id (n := (i : Int) + (n : Int)) (by omega) (by omega), wrap_id (by omega) (by omega), tmod_nn (by omega), show (i : Int) + (n : Int) - 1 = ((i + n - 1 : Nat) : Int) by omega, ← Int.natCast_emod]
theorem addI (i j n : Nat) (hb : i + j ≤ 100000000) : Int.tmod (wrap64 ((i : Int) + (j : Int))) (n : Int) = (((i + j) % n : Nat) : Int) := by
 rw [wrap_id (by omega) (by omega), tmod_nn (by omega), show (i : Int) + (j : Int) = ((i + j : Nat) : Int) by omega, ← Int.natCast_emod]
theorem rdOf_g (g : List Bool) (i : Nat) : rdOf false g (i : Int) = gAt g i := by simp [rdOf, gAt]
/-- A run that begins behind a gap ends within the round. -/
theorem run_stop (g : List Bool) (s : Nat) (h : edge g s = true) (hs : s < g.length) : gAt g ((s + (g.length - 1)) % g.length) = false := by
 unfold edge at h
 rw [Bool.and_eq_true] at h
 have := h.2
 rw [show s + g.length - 1 = s + (g.length - 1) by omega] at this
 simpa using this
theorem impl_WindowOf_eq (l : List S71) (p : List S85) (id : Int) (hl : l.length ≤ 1048576) (hp : psOk p) : Ev (fun k => impl_WindowOf.f k l p id) (windowG (greensP l p id)) := by
 unfold impl_WindowOf.f
 refine Ev.bind (impl_greens_eq l p id hl hp) ?_
 have hlen := greens_len l p id
 generalize greensP l p id = g at hlen
 unfold windowG
 have jt : Ev (fun k => impl_WindowOf.j0 k g (g.length : Int) true) (0, 0, false) := by
  refine Ev.succ ?_
  simp only [impl_WindowOf.j0, if_true]; exact Ev.now _
 by_cases h0 : g.length = 0
 ·simp only [show (g.length : Int) = 0 by omega, h0, true_or, if_true]
  rw [show (g.length : Int) = 0 by omega] at jt
  exact jt
 simp only [show ¬ (g.length : Int) = 0 by omega, if_false]
 by_cases h1 : 200 < g.length
 ·rw [decide_eq_true (show (g.length : Int) > 200 by omega), if_pos (Or.inr h1)]
  exact jt
 rw [decide_eq_false (show ¬ (g.length : Int) > 200 by omega), if_neg (by omega)]
 refine Ev.succ ?_
 simp only [impl_WindowOf.j0, Bool.false_eq_true, if_false]
 have run : ∀ (s : Nat), edge g s = true → s < g.length → ∀ (n m : Nat), m + n + 1 = g.length → Ev (fun k => impl_WindowOf.l1 k g (g.length : Int) (s : Int) (m : Int)) ((s : Int), (runG g s (n + 1) m : Int), true) := by
  intro s he hs n
  have hst := run_stop g s he hs
  induction n with
  | zero =>
   intro m hm
   refine Ev.succ ?_
   obtain rfl : m = g.length - 1 := by omega
   have hmod : (s + (g.length - 1)) % g.length < g.length := Nat.mod_lt _ (by omega)
   simp only [impl_WindowOf.l1, show ¬ (g.length : Int) = 0 by omega, if_false, addI s (g.length - 1) g.length (by omega), show (0 : Int) ≤ (((s + (g.length - 1)) % g.length : Nat) : Int) by omega, show (((s + (g.length - 1)) % g.length : Nat) : Int) < (g.length : Int) by omega, if_true, rdOf_g, hst, Bool.false_eq_true]
   unfold runG
   rw [hst]
   exact Ev.now _
  | succ n ih =>
   intro m hm
   refine Ev.succ ?_
   have hmod : (s + m) % g.length < g.length := Nat.mod_lt _ (by omega)
   simp only [impl_WindowOf.l1, show ¬ (g.length : Int) = 0 by omega, if_false, addI s m g.length (by omega), show (0 : Int) ≤ (((s + m) % g.length : Nat) : Int) by omega, show (((s + m) % g.length : Nat) : Int) < (g.length : Int) by omega, if_true, rdOf_g, wrap_id (n := (m : Int) + 1) (by omega) (by omega)]
   unfold runG
   cases c : gAt g ((s + m) % g.length)
   ·simp only [Bool.false_eq_true, if_false]; exact Ev.now _
   ·simp only [if_true]
    have next := ih (m + 1) (by omega)
    rw [show ((m + 1 : Nat) : Int) = (m : Int) + 1 by omega] at next
    exact next
 have key : ∀ (d i : Nat), i + d = g.length → Ev (fun k => impl_WindowOf.l0 k g (g.length : Int) (g.length : Int) (i : Int)) (match firstE g d i with
   | none => (0, (g.length : Int), true)
   | some s => ((s : Int), (runG g s g.length 0 : Int), true)) := by
  intro d
  induction d with
  | zero =>
   intro i hi
   refine Ev.succ ?_
   simp only [impl_WindowOf.l0, show ¬ (i : Int) < (g.length : Int) by omega, if_false]
   exact Ev.now _
  | succ d ih =>
   intro i hi
   have hi2 : i < g.length := by omega
   have hmod : (i + g.length - 1) % g.length < g.length := Nat.mod_lt _ (by omega)
   have next := ih (i + 1) (by omega)
   rw [show ((i + 1 : Nat) : Int) = (i : Int) + 1 by omega] at next
   have j2 : ∀ b : Bool, b = edge g i → Ev (fun k => impl_WindowOf.j2 k g (g.length : Int) (i : Int) (g.length : Int) (i : Int) b) (match firstE g (d + 1) i with
     | none => (0, (g.length : Int), true)
     | some s => ((s : Int), (runG g s g.length 0 : Int), true)) := by
    intro b hb
    refine Ev.succ ?_
    simp only [impl_WindowOf.j2, wrap_id (n := (i : Int) + 1) (by omega) (by omega)]
    unfold firstE
    cases b
    ·simp only [Bool.false_eq_true, if_false, ← hb]; exact next
    ·simp only [if_true, ← hb]
     have := run i hb.symm hi2 (g.length - 1) 0 (by omega)
     rw [show g.length - 1 + 1 = g.length by omega] at this
     exact this
   refine Ev.succ ?_
   simp only [impl_WindowOf.l0, show (i : Int) < (g.length : Int) by omega, show (0 : Int) ≤ (i : Int) by omega, if_true, rdOf_g, show ¬ (g.length : Int) = 0 by omega, if_false, prevI i g.length (by omega) (by omega), show (0 : Int) ≤ (((i + g.length - 1) % g.length : Nat) : Int) by omega, show (((i + g.length - 1) % g.length : Nat) : Int) < (g.length : Int) by omega]
   cases c : gAt g i
   ·simp only [Bool.false_eq_true, if_false]
    exact j2 false (by unfold edge; rw [c]; rfl)
   ·simp only [if_true]
    exact j2 _ (by unfold edge; rw [c]; rfl)
 exact key g.length 0 (by omega)
theorem gAt_map (r : List Int) (i : Nat) (h : i < r.length) : gAt (r.map (fun x => x == 1)) i = decide (rd r (i : Int) = 1) := by
 rw [rd_nat _ _ h]
 by_cases e : r[i] = 1 <;> simp [gAt, h, e]
theorem spec_WindowOf_eq (l : List S71) (p : List S85) (id : Int) (hl : l.length ≤ 1048576) (hp : psOk p) : Ev (fun k => spec_WindowOf.f k l p id) (windowG (greensP l p id)) := by
 unfold spec_WindowOf.f
 refine Ev.bind (spec_l9Row_eq l p id hl hp) ?_
 have hlen := greens_len l p id
 rw [greens_row] at hlen ⊢
 generalize rowP l p id = r at hlen ⊢
 rw [List.length_map] at hlen
 have hg : ∀ i, i < r.length → gAt (r.map (fun x => x == 1)) i = decide (rd r (i : Int) = 1) := gAt_map r
 have hgl : (r.map (fun x => x == 1)).length = r.length := List.length_map ..
 generalize r.map (fun x => x == 1) = g at hg hgl ⊢
 unfold windowG
 rw [hgl]
 have jt : Ev (fun k => spec_WindowOf.j0 k r true) (0, 0, false) := by
  refine Ev.succ ?_
  simp only [spec_WindowOf.j0, if_true]; exact Ev.now _
 by_cases h0 : r.length = 0
 ·simp only [show (r.length : Int) = 0 by omega, h0, true_or, if_true]; exact jt
 simp only [show ¬ (r.length : Int) = 0 by omega, if_false]
 by_cases h1 : 200 < r.length
 ·rw [decide_eq_true (show (r.length : Int) > 200 by omega), if_pos (Or.inr h1)]
  exact jt
 rw [decide_eq_false (show ¬ (r.length : Int) > 200 by omega), if_neg (by omega)]
 refine Ev.succ ?_
 simp only [spec_WindowOf.j0, Bool.false_eq_true, if_false]
 have run : ∀ (s : Nat), edge g s = true → s < r.length → ∀ (n m : Nat), m + n + 1 = r.length → Ev (fun k => spec_WindowOf.l1 k r (s : Int) (m : Int)) ((s : Int), (runG g s (n + 1) m : Int), true) := by
  intro s he hs n
  have hst := run_stop g s he (by omega)
  rw [hgl] at hst
  induction n with
  | zero =>
   intro m hm
   refine Ev.succ ?_
   obtain rfl : m = r.length - 1 := by omega
   have hmod : (s + (r.length - 1)) % r.length < r.length := Nat.mod_lt _ (by omega)
   have hst2 := hst
   rw [hg _ hmod] at hst2
   simp only [spec_WindowOf.l1, show ¬ (r.length : Int) = 0 by omega, if_false, addI s (r.length - 1) r.length (by omega), show (0 : Int) ≤ (((s + (r.length - 1)) % r.length : Nat) : Int) by omega, show (((s + (r.length - 1)) % r.length : Nat) : Int) < (r.length : Int) by omega, if_true, of_decide_eq_false hst2]
   unfold runG
   rw [hgl, hst]
   exact Ev.now _
  | succ n ih =>
   intro m hm
   refine Ev.succ ?_
   have hmod : (s + m) % r.length < r.length := Nat.mod_lt _ (by omega)
   simp only [spec_WindowOf.l1, show ¬ (r.length : Int) = 0 by omega, if_false, addI s m r.length (by omega), show (0 : Int) ≤ (((s + m) % r.length : Nat) : Int) by omega, show (((s + m) % r.length : Nat) : Int) < (r.length : Int) by omega, if_true, wrap_id (n := (m : Int) + 1) (by omega) (by omega)]
   unfold runG
   rw [hgl, hg _ hmod]
   by_cases c : rd r (((s + m) % r.length : Nat) : Int) = 1
   ·simp only [c, if_true, decide_true]
    have next := ih (m + 1) (by omega)
    rw [show ((m + 1 : Nat) : Int) = (m : Int) + 1 by omega] at next
    exact next
   ·simp only [c, if_false, decide_false, Bool.false_eq_true]; exact Ev.now _
 have go : ∀ (s i : Nat), edge g s = true → s < r.length → Ev (fun k => spec_WindowOf.j2 k r (s : Int) (i : Int) false) ((s : Int), (runG g s r.length 0 : Int), true) := by
  intro s i he hs
  refine Ev.succ ?_
  simp only [spec_WindowOf.j2, Bool.false_eq_true, if_false, show ¬ (s : Int) < 0 by omega]
  have := run s he hs (r.length - 1) 0 (by omega)
  rw [show r.length - 1 + 1 = r.length by omega] at this
  exact this
 have key : ∀ (d i : Nat), i + d = r.length → Ev (fun k => spec_WindowOf.l0 k r (-1) (i : Int)) (match firstE g d i with
   | none => (0, (r.length : Int), true)
   | some s => ((s : Int), (runG g s r.length 0 : Int), true)) := by
  intro d
  induction d with
  | zero =>
   intro i hi
   refine Ev.succ ?_
   simp only [spec_WindowOf.l0, show ¬ (i : Int) < (r.length : Int) by omega, if_false]
   refine Ev.succ ?_
   simp only [spec_WindowOf.j2, Bool.false_eq_true, if_false, show ((-1 : Int) < 0) by omega, if_true]
   exact Ev.now _
  | succ d ih =>
   intro i hi
   have hi2 : i < r.length := by omega
   have hmod : (i + r.length - 1) % r.length < r.length := Nat.mod_lt _ (by omega)
   have next := ih (i + 1) (by omega)
   rw [show ((i + 1 : Nat) : Int) = (i : Int) + 1 by omega] at next
   refine Ev.succ ?_
   simp only [spec_WindowOf.l0, show (i : Int) < (r.length : Int) by omega, if_true, decide_eq_true (show ((-1 : Int) < 0) by omega)]
   refine Ev.succ ?_
   simp only [spec_WindowOf.j2, show (i : Int) < (r.length : Int) by omega, show (0 : Int) ≤ (i : Int) by omega, if_true, show ¬ (r.length : Int) = 0 by omega, if_false, prevI i r.length (by omega) (by omega), show (0 : Int) ≤ (((i + r.length - 1) % r.length : Nat) : Int) by omega, show (((i + r.length - 1) % r.length : Nat) : Int) < (r.length : Int) by omega, wrap_id (n := (i : Int) + 1) (by omega) (by omega)]
   have he : edge g i = (decide (rd r (i : Int) = 1) && !decide (rd r (((i + r.length - 1) % r.length : Nat) : Int) = 1)) := by
    unfold edge
    rw [hgl, hg i hi2, hg _ hmod]
   unfold firstE
   by_cases c1 : rd r (i : Int) = 1
   ·simp only [c1, if_true]
    by_cases c2 : rd r (((i + r.length - 1) % r.length : Nat) : Int) = 1
    ·have e : edge g i = false := by rw [he, decide_eq_true c1, decide_eq_true c2]; rfl
     simp only [c2, if_true, e, Bool.false_eq_true, if_false]
     exact next
    ·have e : edge g i = true := by rw [he, decide_eq_true c1, decide_eq_false c2]; rfl
     simp only [c2, if_false, e, if_true]
     refine Ev.succ ?_
     simp only [spec_WindowOf.l0]
     have hgo := go i (i + 1) e hi2
     rw [show ((i + 1 : Nat) : Int) = (i : Int) + 1 by omega] at hgo
     refine Ev.ifd (fun _ => ?_) (fun _ => hgo)
     rw [decide_eq_false (show ¬ (i : Int) < 0 by omega)]
     exact hgo
   ·have e : edge g i = false := by rw [he, decide_eq_false c1]; rfl
    simp only [c1, if_false, e, Bool.false_eq_true]
    exact next
 exact key r.length 0 (by omega)
theorem holds : ∀ (l0 : List S84) (l1 : List S81) (a2 : Int), l0.length ≤ maxLen → (∀ x ∈ l0, wf84 x) → l1.length ≤ maxLen → (∀ x ∈ l1, wf81 x) → (Lit.int .i64 a2).wf = true → ∃ k, laws_FnExactWindowOf.f k l0 l1 a2 = some true := by
 intro l p id hl _ hp hpw _
 apply Ev.rounds
 unfold laws_FnExactWindowOf.f
 refine Ev.szb (laws_szPathS_eq l 1048576 hl (by omega) (by omega)) (fun h1 => ?_) (fun _ => by exact Ev.now _)
 refine Ev.ifn (by omega) ?_
 refine Ev.szp (laws_szPartS_eq p _ hp (fun x hx => (hpw x hx).1.1) (by omega) (by omega)) (fun h2 => ?_) (fun _ => by exact Ev.now _)
 refine Ev.ifn (by omega) ?_
 have p1 : lsOk p := lsOk_of h2 (by omega)
 have p2 := psOk_conv p1
 have hl' : l.length ≤ 1048576 := by omega
 have hS := spec_WindowOf_eq (l.map convPath) (p.map convPart) id (by rw [List.length_map]; exact hl') p2
 have hI := impl_WindowOf_eq (l.map convPath) (p.map convPart) id (by rw [List.length_map]; exact hl') p2
 generalize windowG (greensP (l.map convPath) (p.map convPart) id) = g at hS hI
 obtain ⟨g0, g1, g2⟩ := g
 repeat (first
  | exact Ev.now _
  | dsimp only
  | (refine Ev.ifp ?_ ?_; focus (first | rfl | omega | (simp; done)))
  | (refine Ev.ifn ?_ ?_; focus (first | omega | (simp; done)))
  | refine Ev.bind (laws_eqIntS_self _ (by first | omega | (simp only [List.length_map, markInts_length]; omega) | (assumption) | (simp; omega))) ?_
  | refine Ev.bindE (laws_eqPart_self ..) ?_
  | refine Ev.bind (laws_eqPartS_self _ (by first | omega | (simp only [List.length_map, markInts_length]; omega) | (assumption) | (simp; omega))) ?_
  | refine Ev.bindE (laws_eqPath_self ..) ?_
  | refine Ev.bind (laws_eqPathS_self _ (by first | omega | (simp only [List.length_map, markInts_length]; omega) | (assumption) | (simp; omega))) ?_
  | refine Ev.bindE (laws_eqWindow_self ..) ?_
  | refine Ev.szb (laws_szIntS_eq _ _ (by assumption) (by omega) (by omega)) (fun _ => ?_) (fun _ => ?_)
  | refine Ev.szb (laws_szPartS_eq _ _ (by assumption) (by omega) (by omega)) (fun _ => ?_) (fun _ => ?_)
  | refine Ev.szb (laws_szPathS_eq _ _ (by assumption) (by omega) (by omega)) (fun _ => ?_) (fun _ => ?_)
  | refine Ev.bind (laws_toIntS_eq _ (by first | omega | (simp only [List.length_map, markInts_length]; omega) | (assumption) | (simp; omega))) ?_
  | refine Ev.bindE (laws_toPart_eq ..) ?_
  | refine Ev.bind (laws_toPartS_eq _ (by first | omega | (simp only [List.length_map, markInts_length]; omega) | (assumption) | (simp; omega))) ?_
  | refine Ev.bindE (laws_toPath_eq ..) ?_
  | refine Ev.bind (laws_toPathS_eq _ (by first | omega | (simp only [List.length_map, markInts_length]; omega) | (assumption) | (simp; omega))) ?_
  | refine Ev.bind (hS) ?_
  | refine Ev.bind (hI) ?_
  | (refine Ev.succ (g := fun k => laws_FnExactWindowOf.j0 k _ _ _ _ _) ?_; simp only [laws_FnExactWindowOf.j0])
  | (refine Ev.ifd (fun _ => by exact Ev.now _) (fun _ => ?_)))
end Go.Proofs.Ytjgigmghcfdomaa.Pure.FnExactWindowOf
