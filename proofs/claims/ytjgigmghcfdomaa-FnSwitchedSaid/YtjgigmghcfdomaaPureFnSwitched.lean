/- The law FnSwitched of the given program, as a statement over numbers and lists alone, for all arguments; no conditions but the machine's own bounds. -/
import Derived.Test.YtjgigmghcfdomaaPFnSwitchedx
import Derived.Test.YtjgigmghcfdomaaBase
namespace Go.Proofs.Ytjgigmghcfdomaa.Pure.FnSwitched
open Go.RowKit Go.Proofs.Ytjgigmghcfdomaa.PFnSwitched Go.Proofs.YtjgigmghcfdomaaW.PrintWords Go.Proofs.YtjgigmghcfdomaaW.PrintLast Go.Proofs.Ytjgigmghcfdomaa.Bas
set_option linter.unusedVariables false
set_option linter.unusedSimpArgs false
theorem spec_l1In_eq (a lo hi : Int) : spec_l1In.f a lo hi = some (decide (lo ≤ a ∧ a ≤ hi)) := by
 unfold spec_l1In.f; grind
theorem impl_InRange_eq (a lo hi : Int) : impl_InRange.f a lo hi = some (decide (lo ≤ a ∧ a ≤ hi)) := by
 unfold impl_InRange.f; grind
theorem spec_Min_eq (a b : Int) : spec_Min.f a b = some (min a b) := by
 unfold spec_Min.f; grind
theorem rdT_Path (xs : List S71) (i : Nat) (h : i < xs.length) : rd_T71 xs (i : Int) = xs[i] := by simp [rd_T71, h]
theorem impl_IsPath_eq (a b c d : Int) : impl_IsPath.f a b c d = some (isPath a b c d) := by
 unfold impl_IsPath.f isPath
 simp only [impl_InRange_eq, Option.bind_some]; grind
theorem spec_IsPath_eq (a b c d : Int) : spec_IsPath.f a b c d = some (isPath a b c d) := by
 unfold spec_IsPath.f isPath
 simp only [spec_l1In_eq, Option.bind_some]; grind
def isP (p : S71) : Bool := isPath p.f0 p.f1 p.f2 p.f3
def okAt (l : List S71) (i : Nat) : Bool := isP (rd_T71 l (i : Int)) && (decide (i = 0) || decide ((rd_T71 l ((i : Int) - 1)).f0 < (rd_T71 l (i : Int)).f0))
def arePaths (l : List S71) : Bool := (List.range l.length).all (okAt l) && decide (l.length ≤ 12)
theorem arePaths_at {l : List S71} (h : arePaths l = true) (i : Nat) (hi : i < l.length) : isP l[i] = true := by
 simp only [arePaths, Bool.and_eq_true, List.all_eq_true, List.mem_range] at h
 have := h.1 i hi
 simp only [okAt, Bool.and_eq_true, rdT_Path _ _ hi] at this
 exact this.1
theorem arePaths_asc {l : List S71} (h : arePaths l = true) (i : Nat) (hi : i + 1 < l.length) : (l[i]'(by omega)).f0 < l[i + 1].f0 := by
 simp only [arePaths, Bool.and_eq_true, List.all_eq_true, List.mem_range] at h
 have := h.1 (i + 1) hi
 simp only [okAt, Bool.and_eq_true, rdT_Path _ _ hi] at this
 rw [show ((i + 1 : Nat) : Int) - 1 = (i : Int) by omega, rdT_Path _ _ (by omega)] at this
 simpa using this.2
def findP (l : List S71) (id : Int) : Int := Go.Proofs.Ytjgigmghcfdomaa.Hnd.fidx (fun x : S71 => x.f0 == id) l 0
theorem findP_hi (l : List S71) (id : Int) : findP l id < l.length := fidx_hi _ _
theorem findP_at {l : List S71} {id : Int} (h : 0 ≤ findP l id) : ∃ (i : Nat) (hi : i < l.length), findP l id = (i : Int) ∧ l[i].f0 = id := by
 rcases fidx_cases (fun x : S71 => x.f0 == id) l 0 with ⟨h1, _⟩ | ⟨i, h1, h2, h3, _⟩
 ·unfold findP at h; omega
 ·exact ⟨i, h2, by unfold findP; omega, by simpa using h3⟩
theorem findP_none {l : List S71} {id : Int} (h : findP l id < 0) : ∀ x ∈ l, x.f0 ≠ id := by
 rcases fidx_cases (fun x : S71 => x.f0 == id) l 0 with ⟨_, h2⟩ | ⟨i, h1, _⟩
 ·intro x hx; simpa using h2 x hx
 ·unfold findP at h; omega
theorem spec_ArePaths_eq (l : List S71) (hl : l.length ≤ 1048576) : Ev (fun k => spec_ArePaths.f k l) (arePaths l) := by
 unfold spec_ArePaths.f arePaths
 refine evAnd (g := fun k i => spec_ArePaths.l0 k l i) (fun i r h hP hr => ?_) (fun i h hP => ?_) ?_
 ·refine Ev.succ ?_
  unfold okAt isP at hP
  rw [Bool.and_eq_true] at hP
  simp only [spec_ArePaths.l0, show (i : Int) < (l.length : Int) by omega, show (0 : Int) ≤ (i : Int) by omega, if_true, spec_IsPath_eq, Option.bind_some, hP.1, wrap_id (n := (i : Int) + 1) (by omega) (by omega)]
  by_cases h0 : i = 0
  ·subst h0; simpa using hr
  ·have h2 := hP.2
   rw [decide_eq_false h0, Bool.false_or, decide_eq_true_eq] at h2
   simp only [show (i : Int) > 0 by omega, if_true, wrap_id (n := (i : Int) - 1) (by omega) (by omega), show (0 : Int) ≤ (i : Int) - 1 by omega, show (i : Int) - 1 < (l.length : Int) by omega, show ¬ (rd_T71 l ((i : Int) - 1)).f0 ≥ (rd_T71 l (i : Int)).f0 by omega, if_false]
   exact hr
 ·refine Ev.succ ?_
  unfold okAt isP at hP
  simp only [spec_ArePaths.l0, show (i : Int) < (l.length : Int) by omega, show (0 : Int) ≤ (i : Int) by omega, if_true, spec_IsPath_eq, Option.bind_some, wrap_id (n := (i : Int) + 1) (by omega) (by omega)]
  cases hp : isPath (rd_T71 l (i : Int)).f0 (rd_T71 l (i : Int)).f1 (rd_T71 l (i : Int)).f2 (rd_T71 l (i : Int)).f3
  ·simp only [Bool.false_eq_true, if_false]; exact Ev.now _
  ·rw [hp, Bool.true_and, Bool.or_eq_false_iff, decide_eq_false_iff_not, decide_eq_false_iff_not] at hP
   simp only [if_true, show (i : Int) > 0 by omega, wrap_id (n := (i : Int) - 1) (by omega) (by omega), show (0 : Int) ≤ (i : Int) - 1 by omega, show (i : Int) - 1 < (l.length : Int) by omega, show (rd_T71 l ((i : Int) - 1)).f0 ≥ (rd_T71 l (i : Int)).f0 by omega]
   exact Ev.now _
 ·refine Ev.succ ?_
  simp only [spec_ArePaths.l0, Int.lt_irrefl, if_false]
  exact evq (Ev.now _) (by by_cases h : l.length ≤ 12 <;> simp [h] <;> omega)
theorem impl_ArePaths_eq (l : List S71) (hl : l.length ≤ 1048576) : Ev (fun k => impl_ArePaths.f k l) (arePaths l) := by
 unfold impl_ArePaths.f arePaths
 by_cases h12 : l.length ≤ 12
 ·simp only [show ¬ ((l.length : Int) > 12) by omega, if_false, decide_eq_true h12]
  refine evAnd (g := fun k i => impl_ArePaths.l0 k l l (l.length : Int) i) (fun i r h hP hr => ?_) (fun i h hP => ?_) ?_
  ·refine Ev.succ ?_
   unfold okAt isP at hP
   rw [Bool.and_eq_true] at hP
   simp only [impl_ArePaths.l0, show (i : Int) < (l.length : Int) by omega, show (0 : Int) ≤ (i : Int) by omega, if_true, impl_IsPath_eq, Option.bind_some, hP.1, wrap_id (n := (i : Int) + 1) (by omega) (by omega)]
   by_cases h0 : i = 0
   ·subst h0; simpa using hr
   ·have h2 := hP.2
    rw [decide_eq_false h0, Bool.false_or, decide_eq_true_eq] at h2
    simp only [show (i : Int) > 0 by omega, if_true, wrap_id (n := (i : Int) - 1) (by omega) (by omega), show (0 : Int) ≤ (i : Int) - 1 by omega, show (i : Int) - 1 < (l.length : Int) by omega, show ¬ (rd_T71 l (i : Int)).f0 ≤ (rd_T71 l ((i : Int) - 1)).f0 by omega, if_false]
    exact hr
  ·refine Ev.succ ?_
   unfold okAt isP at hP
   simp only [impl_ArePaths.l0, show (i : Int) < (l.length : Int) by omega, show (0 : Int) ≤ (i : Int) by omega, if_true, impl_IsPath_eq, Option.bind_some, wrap_id (n := (i : Int) + 1) (by omega) (by omega)]
   cases hp : isPath (rd_T71 l (i : Int)).f0 (rd_T71 l (i : Int)).f1 (rd_T71 l (i : Int)).f2 (rd_T71 l (i : Int)).f3
   ·simp only [Bool.false_eq_true, if_false]; exact Ev.now _
   ·rw [hp, Bool.true_and, Bool.or_eq_false_iff, decide_eq_false_iff_not, decide_eq_false_iff_not] at hP
    simp only [if_true, show (i : Int) > 0 by omega, wrap_id (n := (i : Int) - 1) (by omega) (by omega), show (0 : Int) ≤ (i : Int) - 1 by omega, show (i : Int) - 1 < (l.length : Int) by omega, show (rd_T71 l (i : Int)).f0 ≤ (rd_T71 l ((i : Int) - 1)).f0 by omega]
    exact Ev.now _
  ·refine Ev.succ ?_
   simp only [impl_ArePaths.l0, Int.lt_irrefl, if_false]
   exact Ev.now _
 ·simp only [show (l.length : Int) > 12 by omega, if_true, decide_eq_false h12, Bool.and_false]; exact Ev.now _
theorem spec_FindPath_eq (l : List S71) (id : Int) (hl : l.length ≤ 1048576) : Ev (fun k => spec_FindPath.f k l id) (findP l id) := by
 unfold spec_FindPath.f findP
 have key : ∀ (d i : Nat), i + d = l.length → Ev (fun k => spec_FindPath.l0 k l id (i : Int)) (Go.Proofs.Ytjgigmghcfdomaa.Hnd.fidx (fun x : S71 => x.f0 == id) (l.drop i) (0 + i)) := by
  intro d
  induction d with
  | zero =>
   intro i hi
   refine Ev.succ ?_
   simp only [spec_FindPath.l0, show ¬ (i : Int) < (l.length : Int) by omega, if_false]
   exact evq (Ev.now _) (by rw [List.drop_eq_nil_of_le (by omega)]; rfl)
  | succ d ih =>
   intro i hi
   refine Ev.succ ?_
   have ihh := ih (i + 1) (by omega)
   rw [show ((i + 1 : Nat) : Int) = (i : Int) + 1 by omega] at ihh
   simp only [spec_FindPath.l0, show (i : Int) < (l.length : Int) by omega, show (0 : Int) ≤ (i : Int) by omega, if_true, rdT_Path _ _ (show i < l.length by omega), wrap_id (n := (i : Int) + 1) (by omega) (by omega)]
   rw [fidx_drop _ _ _ _ (by omega)]
   by_cases h1 : l[i].f0 = id
   ·simp only [h1, if_true, beq_self_eq_true, Nat.zero_add]; exact Ev.now _
   ·simp only [h1, if_false, show ((l[i].f0 == id) = true) = False by simp [h1]]; exact ihh
 exact key l.length 0 (by omega)
theorem impl_FindPath_eq (l : List S71) (id : Int) : impl_FindPath.f l id = some (findP l id) := rfl
theorem spec_l6Has_eq (l : List Int) (x : Int) (hl : l.length ≤ 140737488355328) : Ev (fun k => spec_l6Has.f k l x) (decide (x ∈ l)) := by
 unfold spec_l6Has.f
 have key : ∀ (d i : Nat), i + d = l.length → Ev (fun k => spec_l6Has.l0 k l x (i : Int)) (decide (x ∈ l.drop i)) := by
  intro d
  induction d with
  | zero =>
   intro i hi
   refine Ev.succ ?_
   simp only [spec_l6Has.l0, show ¬ (i : Int) < (l.length : Int) by omega, if_false]
   exact evq (Ev.now _) (by simp [List.drop_eq_nil_of_le (show l.length ≤ i by omega)])
  | succ d ih =>
   intro i hi
   refine Ev.succ ?_
   have ihh := ih (i + 1) (by omega)
   rw [show ((i + 1 : Nat) : Int) = (i : Int) + 1 by omega] at ihh
   simp only [spec_l6Has.l0, show (i : Int) < (l.length : Int) by omega, show (0 : Int) ≤ (i : Int) by omega, if_true, rd_nat _ _ (show i < l.length by omega), wrap_id (n := (i : Int) + 1) (by omega) (by omega)]
   rw [mem_drop _ _ (by omega)]
   by_cases h1 : l[i] = x
   ·simp only [h1, if_true, decide_true, Bool.true_or]; exact Ev.now _
   ·rw [decide_eq_false (fun h : x = l[i] => h1 h.symm), Bool.false_or]; simp only [h1, if_false]; exact ihh
 simpa using key l.length 0 (by omega)
theorem slices_Contains_eq (l : List Int) (x : Int) (hl : l.length ≤ 140737488355328) : Ev (fun k => slices_Contains_int_int.f k l x) (decide (x ∈ l)) := by
 unfold slices_Contains_int_int.f slices_Index_int_int.f
 have key : ∀ (d i : Nat), i + d = l.length → ∃ n : Int, Ev (fun k => slices_Index_int_int.l0 k l x (l.length : Int) (i : Int)) n ∧ decide (n ≥ 0) = decide (x ∈ l.drop i) := by
  intro d
  induction d with
  | zero =>
   intro i hi
   refine ⟨-1, Ev.succ ?_, by simp [List.drop_eq_nil_of_le (show l.length ≤ i by omega)]⟩
   simp only [slices_Index_int_int.l0, show ¬ (i : Int) < (l.length : Int) by omega, if_false]
   exact Ev.now _
  | succ d ih =>
   intro i hi
   obtain ⟨n, hn, he⟩ := ih (i + 1) (by omega)
   rw [show ((i + 1 : Nat) : Int) = (i : Int) + 1 by omega] at hn
   rw [mem_drop _ _ (by omega)]
   by_cases h1 : x = l[i]
   ·refine ⟨(i : Int), Ev.succ ?_, by rw [decide_eq_true h1, Bool.true_or]; simp⟩
    simp only [slices_Index_int_int.l0, show (i : Int) < (l.length : Int) by omega, show (0 : Int) ≤ (i : Int) by omega, if_true, rd_nat _ _ (show i < l.length by omega), if_pos h1]
    exact Ev.now _
   ·refine ⟨n, Ev.succ ?_, by rw [he, decide_eq_false h1, Bool.false_or]⟩
    simp only [slices_Index_int_int.l0, show (i : Int) < (l.length : Int) by omega, show (0 : Int) ≤ (i : Int) by omega, if_true, rd_nat _ _ (show i < l.length by omega), if_neg h1, wrap_id (n := (i : Int) + 1) (by omega) (by omega)]
    exact hn
 obtain ⟨n, hn, he⟩ := key l.length 0 (by omega)
 simp only [List.drop_zero] at he
 rw [← he]
 exact Ev.bind (by simpa using hn) (Ev.now _)
theorem spec_Max_eq (a b : Int) : spec_Max.f a b = some (max a b) := by
 unfold spec_Max.f; grind
def clearOf (a b c d : Int) : Int := if isPath a b c d then (if b = 1 then 2 else if b = 3 then 3 else 5) else 0
theorem clearOf_bd (a b c d : Int) : 0 ≤ clearOf a b c d ∧ clearOf a b c d ≤ 5 := by unfold clearOf; split <;> (try split) <;> (try split) <;> omega
theorem impl_ClearOf_eq (a b c d : Int) : impl_ClearOf.f a b c d = some (clearOf a b c d) := by
 unfold impl_ClearOf.f clearOf
 simp only [impl_IsPath_eq, Option.bind_some]; grind
theorem impl_ClearOf_ev (a b c d : Int) : Ev (fun _ => impl_ClearOf.f a b c d) (clearOf a b c d) := Ev.pure (impl_ClearOf_eq a b c d)
theorem spec_l1New_ok (l : List Int) (hl : l.length ≤ 1048576) : EvP (fun k => spec_l1New.f k l) (fun t => t.1 = l ∧ Cur t.1 t.2.1) := by
 unfold spec_l1New.f
 have key : ∀ (d i : Nat) (h : Int), i + d = l.length → EvP (fun k => spec_l1New.l0 k l h (i : Int)) (fun t => t.1 = l ∧ Cur t.1 t.2.1) := by
  intro d
  induction d with
  | zero =>
   intro i h hi
   refine EvP.succ ?_
   simp only [spec_l1New.l0, show ¬ (i : Int) < (l.length : Int) by omega, if_false]
   exact EvP.now ⟨rfl, Int.le_refl _, by show (0 : Int) ≤ (l.length : Int); omega, hl⟩
  | succ d ih =>
   intro i h hi
   refine EvP.succ ?_
   simp only [spec_l1New.l0, show (i : Int) < (l.length : Int) by omega, show (0 : Int) ≤ (i : Int) by omega, if_true, wrap_id (n := (i : Int) + 1) (by omega) (by omega)]
   refine EvP.ifd (fun _ => ?_) (fun _ => EvP.now ⟨rfl, Int.le_refl _, by show (0 : Int) ≤ (l.length : Int); omega, hl⟩)
   have := ih (i + 1) (Go.bits .and .i64 (wrap64 ((wrap64 ((wrap64 (h * 137)) + (wrap64 (rd l i)))) + 11)) 1073741823) (by omega)
   simpa using this
 exact key l.length 0 _ (by omega)
theorem spec_l1Byte_ok (b : List Int) (i h : Int) (hc : Cur b i) : DrP (spec_l1Byte.f b i h) (fun t => 0 ≤ t.1 ∧ t.1 < 256 ∧ Cur b t.2.1) := by
 unfold spec_l1Byte.f
 obtain ⟨h0, h1, h2⟩ := hc
 by_cases hi : i < (b.length : Int)
 ·rw [if_pos hi, if_pos h0]
  refine DrP.now ⟨(and255 _).1, (and255 _).2, ?_⟩
  simp only [wrap_id (n := i + 1) (by omega) (by omega)]
  unfold Cur; omega
 ·rw [if_neg hi]
  exact DrP.now ⟨(and255 _).1, (and255 _).2, h0, h1, h2⟩
theorem spec_l1Below_ok (b : List Int) (i h n : Int) (hc : Cur b i) : DrP (spec_l1Below.f b i h n) (fun t => (n ≤ 0 → t.1 = 0) ∧ (0 < n → 0 ≤ t.1 ∧ t.1 < n) ∧ Cur b t.2.1) := by
 unfold spec_l1Below.f
 by_cases h0 : n ≤ 0
 ·rw [if_pos h0]; exact DrP.now ⟨fun _ => rfl, fun h => absurd h (by omega), hc⟩
 rw [if_neg h0]
 have hm : ∀ x : Int, 0 ≤ x → 0 ≤ Int.tmod x n ∧ Int.tmod x n < n := fun x hx => by rw [tmod_nn hx]; exact ⟨Int.emod_nonneg _ (by omega), Int.emod_lt_of_pos _ (by omega)⟩
 by_cases h1 : n ≤ 256
 ·rw [if_pos h1]
  refine DrP.bind (spec_l1Byte_ok b i h hc) (fun t ht => ?_)
  rw [if_neg (by omega)]
  exact DrP.now ⟨fun h => absurd h h0, fun _ => hm _ ht.1, ht.2.2⟩
 ·rw [if_neg h1]
  refine DrP.bind (spec_l1Byte_ok b i h hc) (fun t ht => ?_)
  refine DrP.bind (spec_l1Byte_ok b _ _ ht.2.2) (fun u hu => ?_)
  refine DrP.bind (spec_l1Byte_ok b _ _ hu.2.2) (fun v hv => ?_)
  rw [if_neg (by omega)]
  refine DrP.now ⟨fun h => absurd h h0, fun _ => hm _ ?_, hv.2.2⟩
  obtain ⟨t1, t2, _⟩ := ht
  obtain ⟨u1, u2, _⟩ := hu
  obtain ⟨v1, v2, _⟩ := hv
  rw [wrap_id (n := t.1 * 65536) (by omega) (by omega), wrap_id (n := u.1 * 256) (by omega) (by omega), wrap_id (n := t.1 * 65536 + u.1 * 256) (by omega) (by omega), wrap_id (by omega) (by omega)]
  omega
theorem spec_l1Once_ok (b : List Int) (i h n : Int) (hc : Cur b i) : DrP (spec_l1Once.f b i h n) (fun t => Cur b t.2.1) := by
 unfold spec_l1Once.f
 refine DrP.bind (spec_l1Below_ok b i h n hc) (fun t ht => ?_)
 exact DrP.now ht.2.2
theorem spec_l1Int_ok (b : List Int) (i h : Int) (l : List Int) (lo hi : Int) (hc : Cur b i) (hne : l.length ≠ 0) (hb : ∀ x ∈ l, lo ≤ x ∧ x ≤ hi) : DrP (spec_l1Int.f b i h l) (fun t => lo ≤ t.1 ∧ t.1 ≤ hi ∧ Cur b t.2.1) := by
 unfold spec_l1Int.f
 refine DrP.bind (spec_l1Below_ok b i h _ hc) (fun t ht => ?_)
 obtain ⟨h1, h2⟩ := ht.2.1 (by omega)
 rw [if_pos h1, if_pos h2]
 refine DrP.now ?_
 have : rd l t.1 ∈ l := by
  obtain ⟨n, hn⟩ := Int.eq_ofNat_of_zero_le h1
  rw [hn, rd_nat _ _ (by omega)]
  exact List.getElem_mem _
 have := hb _ this
 exact ⟨this.1, this.2, ht.2.2⟩
theorem spec_l1Int_cur (b : List Int) (i h : Int) (l : List Int) (hc : Cur b i) (hne : l.length ≠ 0) : DrP (spec_l1Int.f b i h l) (fun t => Cur b t.2.1) := by
 unfold spec_l1Int.f
 refine DrP.bind (spec_l1Below_ok b i h _ hc) (fun t ht => ?_)
 obtain ⟨h1, h2⟩ := ht.2.1 (by omega)
 rw [if_pos h1, if_pos h2]
 exact DrP.now ht.2.2
theorem spec_l4Raw_ok (b : List Int) (i h : Int) (hc : Cur b i) : DrP (spec_l4Raw.f b i h) (fun t => I64 t.1 ∧ Cur b t.2.1) := by
 unfold spec_l4Raw.f
 refine DrP.bind (spec_l1Int_ok b i h _ (-9223372036854775808) 9223372036854775807 hc (by simp) (by decide)) (fun t ht => ?_)
 exact DrP.now ⟨⟨ht.1, ht.2.1⟩, ht.2.2⟩
theorem laws_big_eq (l : List Int) : laws_big.f l = some (decide ((l.length : Int) > 1048576)) := by unfold laws_big.f; rfl
theorem spec_l4Draw_ok (b : List Int) (i h a : Int) (hc : Cur b i) : DrP (spec_l4Draw.f b i h a) (fun t => Cur b t.2.2.2.2.1) := by
 unfold spec_l4Draw.f
 refine DrP.bind (spec_l1Below_ok b i h _ hc) (fun t1 h1 => ?_)
 refine DrP.bind (spec_l1Below_ok b _ _ _ h1.2.2) (fun t2 h2 => ?_)
 split
 ·exact DrP.now h2.2.2
 ·exact DrP.bind (spec_l1Below_ok b _ _ _ h2.2.2) (fun t3 h3 => DrP.now h3.2.2)
theorem spec_l5Draw_ok (b : List Int) (i h : Int) (hc : Cur b i) : EvP (fun k => spec_l5Draw.f k b i h) (fun t => 1 ≤ t.1.length ∧ t.1.length ≤ 7 ∧ Cur b t.2.1) := by
 unfold spec_l5Draw.f
 have key : ∀ (d : Nat) (n : Nat) (xs : List S71) (i h : Int), Cur b i → xs.length = n → n + d = 7 → EvP (fun k => spec_l5Draw.l0 k xs ((n : Int) + 1) b i h) (fun t => 1 ≤ t.1.length ∧ t.1.length ≤ 7 ∧ Cur b t.2.1) := by
  intro d
  induction d with
  | zero =>
   intro n xs i h hc hn hd
   refine EvP.succ ?_
   simp only [spec_l5Draw.l0]
   refine EvP.bindD (spec_l1Below_ok b i h _ hc) (fun t1 h1 => ?_)
   have h2 := h1.2.1 (by omega)
   simp only [wrap_id (n := 2 + t1.1) (by omega) (by omega), show ¬ (n : Int) + 1 ≤ 2 + t1.1 by omega, if_false]
   exact EvP.now ⟨by show 1 ≤ xs.length; omega, by show xs.length ≤ 7; omega, h1.2.2⟩
  | succ d ih =>
   intro n xs i h hc hn hd
   refine EvP.succ ?_
   simp only [spec_l5Draw.l0]
   refine EvP.bindD (spec_l1Below_ok b i h _ hc) (fun t1 h1 => ?_)
   have h2 := h1.2.1 (by omega)
   simp only [wrap_id (n := 2 + t1.1) (by omega) (by omega), wrap_id (n := (n : Int) + 1 + 1) (by omega) (by omega), show xs.length < 4398046511104 by omega, if_true]
   refine EvP.ifd (fun _ => ?_) (fun h3 => EvP.now ⟨by show 1 ≤ xs.length; omega, by show xs.length ≤ 7; omega, h1.2.2⟩)
   refine EvP.bindD (spec_l4Draw_ok b _ _ _ h1.2.2) (fun t2 h4 => ?_)
   have := ih (n + 1) (xs ++ [⟨t2.1, t2.2.1, t2.2.2.1, t2.2.2.2.1⟩]) t2.2.2.2.2.1 t2.2.2.2.2.2 h4 (by rw [List.length_append, List.length_singleton]; omega) (by omega)
   rw [show ((n + 1 : Nat) : Int) + 1 = (n : Int) + 1 + 1 by omega] at this
   exact this
 exact key 7 0 [] i h hc rfl rfl
theorem spec_l4Any_ok (b : List Int) (i h : Int) (hc : Cur b i) : DrP (spec_l4Any.f b i h) (fun t => Cur b t.2.2.2.2.1) := by
 unfold spec_l4Any.f
 refine DrP.bind (spec_l1Below_ok b i h _ hc) (fun t1 h1 => ?_)
 refine DrP.bind (spec_l4Draw_ok b _ _ _ h1.2.2) (fun t2 h2 => ?_)
 refine DrP.bind (spec_l1Below_ok b _ _ _ h2) (fun t3 h3 => ?_)
 split
 ·exact DrP.bind (spec_l1Int_ok b _ _ _ (-9223372036854775808) 9223372036854775807 h3.2.2 (by simp) (by decide)) (fun t4 h4 => DrP.now h4.2.2)
 split
 ·exact DrP.bind (spec_l1Int_ok b _ _ _ (-9223372036854775808) 9223372036854775807 h3.2.2 (by simp) (by decide)) (fun t4 h4 => DrP.now h4.2.2)
 split
 ·exact DrP.bind (spec_l4Raw_ok b _ _ h3.2.2) (fun t4 h4 => DrP.now h4.2)
 split
 ·exact DrP.bind (spec_l4Raw_ok b _ _ h3.2.2) (fun t4 h4 => DrP.now h4.2)
 ·exact DrP.now h3.2.2
theorem spec_l5Any_ok (b : List Int) (i h : Int) (hc : Cur b i) : EvP (fun k => spec_l5Any.f k b i h) (fun t => t.1.length ≤ 7 ∧ Cur b t.2.1) := by
 unfold spec_l5Any.f
 refine EvP.bind (spec_l5Draw_ok b i h hc) (fun t1 h1 => ?_)
 refine EvP.bindD (spec_l1Once_ok b _ _ _ h1.2.2) (fun t2 h2 => ?_)
 refine EvP.ifd (fun _ => ?_) (fun _ => EvP.now ⟨h1.2.1, h2⟩)
 refine EvP.bindD (spec_l1Below_ok b _ _ _ h2) (fun t3 h3 => ?_)
 refine EvP.bindD (spec_l4Any_ok b _ _ h3.2.2) (fun t4 h4 => ?_)
 have h5 := h3.2.1 (by omega)
 simp only [h5.1, h5.2, if_true]
 exact EvP.now ⟨by rw [List.length_set]; exact h1.2.1, h4⟩
/-- Whether two ways through the square cross, as the function finds it in at most 60 rounds. -/
def inter (a b c d : Int) : Bool := (impl_Interleave.f 60 a b c d).getD false
theorem inter_tab : ∀ f t g u : Fin 4, impl_Interleave.f 60 (2 * (f.val : Int)) (2 * (t.val : Int) + 1) (2 * (g.val : Int)) (2 * (u.val : Int) + 1) = some (inter (2 * (f.val : Int)) (2 * (t.val : Int) + 1) (2 * (g.val : Int)) (2 * (u.val : Int) + 1)) ∧ (f = g → inter (2 * (f.val : Int)) (2 * (t.val : Int) + 1) (2 * (g.val : Int)) (2 * (u.val : Int) + 1) = false) := by decide +kernel
theorem four {n : Int} (h : 0 ≤ n ∧ n ≤ 3) : ∃ f : Fin 4, n = (f.val : Int) := ⟨⟨n.toNat, by omega⟩, by show n = ((n.toNat : Nat) : Int); omega⟩
theorem impl_inter {a b c d : Int} (ha : 0 ≤ a ∧ a ≤ 3) (hb : 0 ≤ b ∧ b ≤ 3) (hc : 0 ≤ c ∧ c ≤ 3) (hd : 0 ≤ d ∧ d ≤ 3) : Ev (fun k => impl_Interleave.f k (2 * a) (2 * b + 1) (2 * c) (2 * d + 1)) (inter (2 * a) (2 * b + 1) (2 * c) (2 * d + 1)) ∧ (a = c → inter (2 * a) (2 * b + 1) (2 * c) (2 * d + 1) = false) := by
 obtain ⟨f, rfl⟩ := four ha
 obtain ⟨t, rfl⟩ := four hb
 obtain ⟨g, rfl⟩ := four hc
 obtain ⟨u, rfl⟩ := four hd
 have := inter_tab f t g u
 exact ⟨Ev.of (fun k => impl_Interleave.mono _ _ _ _ k) this.1, fun e => this.2 (Fin.ext (by omega))⟩
def conflict (a b : S71) : Bool := isP a && isP b && !(decide (a.f1 = 2) && decide (b.f1 = 2)) && (if a.f1 = 2 then decide (b.f2 = a.f2) || decide (b.f3 = a.f2) else if b.f1 = 2 then decide (a.f2 = b.f2) || decide (a.f3 = b.f2) else !decide (a.f2 = b.f2) && (decide (a.f3 = b.f3) || inter (2 * a.f2) (2 * a.f3 + 1) (2 * b.f2) (2 * b.f3 + 1)))
theorem impl_InPlace_eq {n : Int} (h : 0 ≤ n ∧ n ≤ 3) : impl_InPlace.f n = some (2 * n) := by
 unfold impl_InPlace.f; rw [impl_InRange_eq, decide_eq_true h]; simp only [Option.bind_some, if_true]; rw [wrap_id (by omega) (by omega)]
theorem impl_OutPlace_eq {n : Int} (h : 0 ≤ n ∧ n ≤ 3) : impl_OutPlace.f n = some (2 * n + 1) := by
 unfold impl_OutPlace.f; rw [impl_InRange_eq, decide_eq_true h]; simp only [Option.bind_some, if_true]; rw [wrap_id (n := 2 * n) (by omega) (by omega), wrap_id (by omega) (by omega)]
theorem or_beq (p : Prop) [Decidable p] (x y : Int) (A : Nat → Option Bool) (h : A = fun _ => if p then some true else some (x == y)) : Ev A (decide p || decide (x = y)) := by
 subst h
 refine Ev.pure ?_
 by_cases hp : p
 ·simp [hp]
 ·simp [hp]; rfl
theorem impl_Conflict_eq (a b : S71) : Ev (fun k => impl_Conflict.f k a.f0 a.f1 a.f2 a.f3 b.f0 b.f1 b.f2 b.f3) (conflict a b) := by
 have hj : ∀ x : Bool, (x = false → isP a = true ∧ isP b = true ∧ ¬ (a.f1 = 2 ∧ b.f1 = 2)) → Ev (fun k => impl_Conflict.j0 k x a.f0 a.f1 a.f2 a.f3 b.f0 b.f1 b.f2 b.f3) (!x && (if a.f1 = 2 then decide (b.f2 = a.f2) || decide (b.f3 = a.f2) else if b.f1 = 2 then decide (a.f2 = b.f2) || decide (a.f3 = b.f2) else !decide (a.f2 = b.f2) && (decide (a.f3 = b.f3) || inter (2 * a.f2) (2 * a.f3 + 1) (2 * b.f2) (2 * b.f3 + 1)))) := by
  intro x hx
  refine Ev.succ ?_
  cases x
  ·obtain ⟨h1, h2, _⟩ := hx rfl
   have ha := isPath_bd h1
   have hb := isPath_bd h2
   simp only [impl_Conflict.j0, Bool.false_eq_true, if_false, Bool.not_false, Bool.true_and]
   by_cases ka : a.f1 = 2
   ·simp only [ka, if_true]
    exact or_beq _ _ _ _ rfl
   simp only [ka, if_false]
   by_cases kb : b.f1 = 2
   ·simp only [kb, if_true]
    exact or_beq _ _ _ _ rfl
   simp only [kb, if_false]
   have hi := impl_inter (a := a.f2) (b := a.f3) (c := b.f2) (d := b.f3) (by omega) (by omega) (by omega) (by omega)
   simp only [impl_InPlace_eq (n := a.f2) (by omega), impl_OutPlace_eq (n := a.f3) (by omega), impl_InPlace_eq (n := b.f2) (by omega), impl_OutPlace_eq (n := b.f3) (by omega), Option.bind_some]
   by_cases e : a.f2 = b.f2
   ·have := hi.2 e
    simp only [e, if_true, decide_true, Bool.not_true, Bool.false_and]
    rw [e] at hi this
    exact evq (Ev.bind hi.1 (Ev.now _)) this
   ·simp only [e, if_false, decide_false, Bool.not_false, Bool.true_and]
    by_cases e2 : a.f3 = b.f3
    ·simp only [e2, if_true, decide_true, Bool.true_or]; exact Ev.now _
    ·simp only [e2, if_false, decide_false, Bool.false_or]
     exact Ev.bind hi.1 (Ev.now _)
  ·simp only [impl_Conflict.j0, if_true, Bool.not_true, Bool.false_and]; exact Ev.now _
 unfold impl_Conflict.f conflict isP
 simp only [impl_IsPath_eq, Option.bind_some]
 cases h1 : isPath a.f0 a.f1 a.f2 a.f3
 ·simpa using hj true (by simp)
 cases h2 : isPath b.f0 b.f1 b.f2 b.f3
 ·simpa using hj true (by simp)
 by_cases ka : a.f1 = 2
 ·by_cases kb : b.f1 = 2
  ·simpa [ka, kb] using hj true (by simp)
  ·have e : (b.f1 == 2) = false := by simp [kb]
   have := hj false (fun _ => ⟨h1, h2, fun h => kb h.2⟩)
   simp only [ka, e, kb, if_true, decide_true, decide_false, Bool.and_false, Bool.not_false, Bool.true_and] at this ⊢
   exact this
 ·have := hj false (fun _ => ⟨h1, h2, fun h => ka h.1⟩)
  simp only [ka, if_false, if_true, decide_false, Bool.false_and, Bool.not_false, Bool.true_and] at this ⊢
  exact this
theorem inter_tabS : ∀ f t g u : Fin 4, spec_Interleave.f 60 (2 * (f.val : Int)) (2 * (t.val : Int) + 1) (2 * (g.val : Int)) (2 * (u.val : Int) + 1) = some (inter (2 * (f.val : Int)) (2 * (t.val : Int) + 1) (2 * (g.val : Int)) (2 * (u.val : Int) + 1)) := by decide +kernel
theorem spec_inter {a b c d : Int} (ha : 0 ≤ a ∧ a ≤ 3) (hb : 0 ≤ b ∧ b ≤ 3) (hc : 0 ≤ c ∧ c ≤ 3) (hd : 0 ≤ d ∧ d ≤ 3) : Ev (fun k => spec_Interleave.f k (2 * a) (2 * b + 1) (2 * c) (2 * d + 1)) (inter (2 * a) (2 * b + 1) (2 * c) (2 * d + 1)) := by
 obtain ⟨f, rfl⟩ := four ha
 obtain ⟨t, rfl⟩ := four hb
 obtain ⟨g, rfl⟩ := four hc
 obtain ⟨u, rfl⟩ := four hd
 exact Ev.of (fun k => spec_Interleave.mono _ _ _ _ k) (inter_tabS f t g u)
theorem spec_InPlace_eq {n : Int} (h : 0 ≤ n ∧ n ≤ 3) : spec_InPlace.f n = some (2 * n) := by
 unfold spec_InPlace.f; rw [spec_l1In_eq, decide_eq_true h]; simp only [Option.bind_some, if_true]; rw [wrap_id (by omega) (by omega)]
theorem spec_OutPlace_eq {n : Int} (h : 0 ≤ n ∧ n ≤ 3) : spec_OutPlace.f n = some (2 * n + 1) := by
 unfold spec_OutPlace.f; rw [spec_l1In_eq, decide_eq_true h]; simp only [Option.bind_some, if_true]; rw [wrap_id (n := 2 * n) (by omega) (by omega), wrap_id (by omega) (by omega)]
theorem spec_Conflict_eq (a b : S71) : Ev (fun k => spec_Conflict.f k a.f0 a.f1 a.f2 a.f3 b.f0 b.f1 b.f2 b.f3) (conflict a b) := by
 have hj : ∀ x : Bool, (x = false → isP a = true ∧ isP b = true ∧ ¬ (a.f1 = 2 ∧ b.f1 = 2)) → Ev (fun k => spec_Conflict.j0 k x a.f0 a.f1 a.f2 a.f3 b.f0 b.f1 b.f2 b.f3) (!x && (if a.f1 = 2 then decide (b.f2 = a.f2) || decide (b.f3 = a.f2) else if b.f1 = 2 then decide (a.f2 = b.f2) || decide (a.f3 = b.f2) else !decide (a.f2 = b.f2) && (decide (a.f3 = b.f3) || inter (2 * a.f2) (2 * a.f3 + 1) (2 * b.f2) (2 * b.f3 + 1)))) := by
  intro x hx
  refine Ev.succ ?_
  cases x
  ·obtain ⟨h1, h2, _⟩ := hx rfl
   have ha := isPath_bd h1
   have hb := isPath_bd h2
   simp only [spec_Conflict.j0, Bool.false_eq_true, if_false, Bool.not_false, Bool.true_and]
   by_cases ka : a.f1 = 2
   ·simp only [ka, if_true]
    exact or_beq _ _ _ _ rfl
   simp only [ka, if_false]
   by_cases kb : b.f1 = 2
   ·simp only [kb, if_true]
    exact or_beq _ _ _ _ rfl
   simp only [kb, if_false]
   have hi := spec_inter (a := a.f2) (b := a.f3) (c := b.f2) (d := b.f3) (by omega) (by omega) (by omega) (by omega)
   simp only [spec_InPlace_eq (n := a.f2) (by omega), spec_OutPlace_eq (n := a.f3) (by omega), spec_InPlace_eq (n := b.f2) (by omega), spec_OutPlace_eq (n := b.f3) (by omega), Option.bind_some]
   by_cases e : a.f2 = b.f2
   ·simp only [e, if_true, decide_true, Bool.not_true, Bool.false_and]
    exact Ev.now _
   ·simp only [e, if_false, decide_false, Bool.not_false, Bool.true_and]
    by_cases e2 : a.f3 = b.f3
    ·simp only [e2, if_true, decide_true, Bool.true_or]; exact Ev.now _
    ·simp only [e2, if_false, decide_false, Bool.false_or]
     exact Ev.bind hi (Ev.now _)
  ·simp only [spec_Conflict.j0, if_true, Bool.not_true, Bool.false_and]; exact Ev.now _
 unfold spec_Conflict.f conflict isP
 simp only [spec_IsPath_eq, Option.bind_some]
 cases h1 : isPath a.f0 a.f1 a.f2 a.f3
 ·simpa using hj true (by simp)
 cases h2 : isPath b.f0 b.f1 b.f2 b.f3
 ·simpa using hj true (by simp)
 by_cases ka : a.f1 = 2
 ·by_cases kb : b.f1 = 2
  ·simpa [ka, kb] using hj true (by simp)
  ·have e : (b.f1 == 2) = false := by simp [kb]
   have := hj false (fun _ => ⟨h1, h2, fun h => kb h.2⟩)
   simp only [ka, e, kb, if_true, decide_true, decide_false, Bool.and_false, Bool.not_false, Bool.true_and] at this ⊢
   exact this
 ·have := hj false (fun _ => ⟨h1, h2, fun h => ka h.1⟩)
  simp only [ka, if_false, if_true, decide_false, Bool.false_and, Bool.not_false, Bool.true_and] at this ⊢
  exact this
def confAt (l : List S71) (a b : Int) : Bool := conflict (rd_T71 l (findP l a)) (rd_T71 l (findP l b))
def tgAt (l : List S71) (v : List Int) (i : Nat) : Bool := decide (0 ≤ findP l (rd v (i : Int))) && (decide (i = 0) || !decide (rd v (i : Int) ≤ rd v ((i : Int) - 1))) && (List.range i).all (fun (j : Nat) => !confAt l (rd v (i : Int)) (rd v (j : Int)))
def together (l : List S71) (v : List Int) : Bool := (List.range v.length).all (tgAt l v) && arePaths l
theorem together_at {l : List S71} {v : List Int} (h : together l v = true) (i : Nat) (hi : i < v.length) : 0 ≤ findP l (rd v (i : Int)) := by
 unfold together at h
 simp only [Bool.and_eq_true, List.all_eq_true, List.mem_range] at h
 have := h.1 i hi
 unfold tgAt at this
 simp only [Bool.and_eq_true, decide_eq_true_eq] at this
 exact this.1.1
theorem impl_IsTogether_eq (l : List S71) (v : List Int) (hl : l.length ≤ 1048576) (hv : v.length ≤ 1048576) : Ev (fun k => impl_IsTogether.f k l v) (together l v) := by
 unfold impl_IsTogether.f together
 refine Ev.bind (impl_ArePaths_eq l hl) ?_
 cases ha : arePaths l
 ·simp only [Bool.false_eq_true, if_false, Bool.and_false]; exact Ev.now _
 simp only [if_true, Bool.and_true]
 have inner : ∀ (i : Nat) (r : Bool), i < v.length → (∀ j : Nat, j ≤ i → 0 ≤ findP l (rd v (j : Int))) → Ev (fun k => impl_IsTogether.l0 k l v v (v.length : Int) ((i : Int) + 1)) r → Ev (fun k => impl_IsTogether.l1 k l v (findP l (rd v (i : Int))) v (v.length : Int) (i : Int) (v.take i) (((v.take i).length : Nat) : Int) 0) ((List.range i).all (fun (j : Nat) => !confAt l (rd v (i : Int)) (rd v (j : Int))) && r) := by
  intro i r hi hf hr
  have hlt : (v.take i).length = i := by rw [List.length_take]; omega
  have hrd : ∀ j : Nat, j < i → rd (v.take i) (j : Int) = rd v (j : Int) := fun j hj => by rw [rd_nat _ _ (by omega), rd_nat _ _ (by omega)]; simp
  have h1 := hf i (Nat.le_refl i)
  have h2 := findP_hi l (rd v (i : Int))
  rw [hlt]
  refine evAnd (g := fun k j => impl_IsTogether.l1 k l v (findP l (rd v (i : Int))) v (v.length : Int) (i : Int) (v.take i) (i : Int) j) (fun j s h hP hs => ?_) (fun j h hP => ?_) ?_
  ·refine Ev.succ ?_
   have h3 := hf j (by omega)
   have h4 := findP_hi l (rd v (j : Int))
   rw [Bool.not_eq_true'] at hP
   simp only [impl_IsTogether.l1, show (j : Int) < (i : Int) by omega, show (0 : Int) ≤ (j : Int) by omega, hlt, hrd j h, h1, h2, h3, h4, if_true, impl_FindPath_eq, Option.bind_some, wrap_id (n := (j : Int) + 1) (by omega) (by omega)]
   refine Ev.bind (impl_Conflict_eq _ _) ?_
   unfold confAt at hP
   simp only [hP, Bool.false_eq_true, if_false]
   exact hs
  ·refine Ev.succ ?_
   have h3 := hf j (by omega)
   have h4 := findP_hi l (rd v (j : Int))
   rw [Bool.not_eq_false'] at hP
   simp only [impl_IsTogether.l1, show (j : Int) < (i : Int) by omega, show (0 : Int) ≤ (j : Int) by omega, hlt, hrd j h, h1, h2, h3, h4, if_true, impl_FindPath_eq, Option.bind_some]
   refine Ev.bind (impl_Conflict_eq _ _) ?_
   unfold confAt at hP
   simp only [hP, if_true]
   exact Ev.now _
  ·refine Ev.succ ?_
   simp only [impl_IsTogether.l1, Int.lt_irrefl, if_false, wrap_id (n := (i : Int) + 1) (by omega) (by omega)]
   exact hr
 have key : ∀ (d i : Nat), i + d = v.length → (∀ j : Nat, j < i → 0 ≤ findP l (rd v (j : Int))) → Ev (fun k => impl_IsTogether.l0 k l v v (v.length : Int) (i : Int)) ((List.range' i d).all (tgAt l v)) := by
  intro d
  induction d with
  | zero =>
   intro i hi hf
   refine Ev.succ ?_
   simp only [impl_IsTogether.l0, show ¬ (i : Int) < (v.length : Int) by omega, if_false]
   exact Ev.now _
  | succ d ih =>
   intro i hi hf
   refine Ev.succ ?_
   rw [List.range'_succ, List.all_cons]
   simp only [impl_IsTogether.l0, show (i : Int) < (v.length : Int) by omega, show (0 : Int) ≤ (i : Int) by omega, if_true, impl_FindPath_eq, Option.bind_some]
   have hj : ∀ b : Bool, 0 ≤ findP l (rd v (i : Int)) ∨ b = true → Ev (fun k => impl_IsTogether.j1 k l v (i : Int) (findP l (rd v (i : Int))) v (v.length : Int) (i : Int) b) (!b && ((List.range i).all (fun (j : Nat) => !confAt l (rd v (i : Int)) (rd v (j : Int))) && (List.range' (i + 1) d).all (tgAt l v))) := by
    intro b hb
    refine Ev.succ ?_
    cases b
    ·have h0 : 0 ≤ findP l (rd v (i : Int)) := by rcases hb with h | h; exact h; cases h
     simp only [impl_IsTogether.j1, Bool.false_eq_true, if_false, show (0 : Int) ≤ (i : Int) by omega, show (i : Int) ≤ (v.length : Int) by omega, if_true, Bool.not_false, Bool.true_and, Int.toNat_natCast]
     have hf' : ∀ j : Nat, j < i + 1 → 0 ≤ findP l (rd v (j : Int)) := fun j hj => by
      by_cases e : j = i
      ·rw [e]; exact h0
      ·exact hf j (by omega)
     refine inner i _ (by omega) (fun j hj => hf' j (by omega)) ?_
     have := ih (i + 1) (by omega) hf'
     rwa [show ((i + 1 : Nat) : Int) = (i : Int) + 1 by omega] at this
    ·simp only [impl_IsTogether.j1, if_true, Bool.not_true, Bool.false_and]; exact Ev.now _
   by_cases h0 : findP l (rd v (i : Int)) < 0
   ·simp only [h0, if_true]
    exact evq (hj true (.inr rfl)) (by simp [tgAt, show ¬ 0 ≤ findP l (rd v (i : Int)) by omega])
   ·simp only [h0, if_false]
    by_cases hi0 : i = 0
    ·subst hi0
     simp only [show ¬ (((0 : Nat) : Int) > 0) by omega, if_false]
     refine evq (hj false (.inl (by omega))) ?_
     unfold tgAt
     rw [decide_eq_true (show 0 ≤ findP l (rd v ((0 : Nat) : Int)) by omega)]
     simp
    ·simp only [show (i : Int) > 0 by omega, if_true, wrap_id (n := (i : Int) - 1) (by omega) (by omega), show (0 : Int) ≤ (i : Int) - 1 by omega, show (i : Int) - 1 < (v.length : Int) by omega]
     refine evq (hj _ (.inl (by omega))) ?_
     unfold tgAt
     rw [decide_eq_true (show 0 ≤ findP l (rd v (i : Int)) by omega), decide_eq_false hi0]
     simp only [Bool.true_and, Bool.false_or, Bool.and_assoc]
 have := key v.length 0 (by omega) (fun j hj => absurd hj (by omega))
 rwa [← List.range_eq_range'] at this
theorem spec_IsTogether_eq (l : List S71) (v : List Int) (hl : l.length ≤ 1048576) (hv : v.length ≤ 1048576) : Ev (fun k => spec_IsTogether.f k l v) (together l v) := by
 unfold spec_IsTogether.f together
 have inner : ∀ (i : Nat) (r : Bool), i < v.length → (∀ j : Nat, j ≤ i → 0 ≤ findP l (rd v (j : Int))) → Ev (fun k => spec_IsTogether.l0 k l v ((i : Int) + 1)) r → Ev (fun k => spec_IsTogether.l1 k l v (i : Int) (findP l (rd v (i : Int))) 0) ((List.range i).all (fun (j : Nat) => !confAt l (rd v (i : Int)) (rd v (j : Int))) && r) := by
  intro i r hi hf hr
  have h1 := hf i (Nat.le_refl i)
  have h2 := findP_hi l (rd v (i : Int))
  refine evAnd (g := fun k j => spec_IsTogether.l1 k l v (i : Int) (findP l (rd v (i : Int))) j) (fun j s h hP hs => ?_) (fun j h hP => ?_) ?_
  ·refine Ev.succ ?_
   have h3 := hf j (by omega)
   have h4 := findP_hi l (rd v (j : Int))
   rw [Bool.not_eq_true'] at hP
   simp only [spec_IsTogether.l1, show (j : Int) < (i : Int) by omega, show (j : Int) < (v.length : Int) by omega, show (0 : Int) ≤ (j : Int) by omega, h1, h2, if_true, wrap_id (n := (j : Int) + 1) (by omega) (by omega)]
   refine Ev.bind (spec_FindPath_eq l _ hl) ?_
   simp only [h3, h4, if_true]
   refine Ev.bind (spec_Conflict_eq _ _) ?_
   unfold confAt at hP
   simp only [hP, Bool.false_eq_true, if_false]
   exact hs
  ·refine Ev.succ ?_
   have h3 := hf j (by omega)
   have h4 := findP_hi l (rd v (j : Int))
   rw [Bool.not_eq_false'] at hP
   simp only [spec_IsTogether.l1, show (j : Int) < (i : Int) by omega, show (j : Int) < (v.length : Int) by omega, show (0 : Int) ≤ (j : Int) by omega, h1, h2, if_true]
   refine Ev.bind (spec_FindPath_eq l _ hl) ?_
   simp only [h3, h4, if_true]
   refine Ev.bind (spec_Conflict_eq _ _) ?_
   unfold confAt at hP
   simp only [hP, if_true]
   exact Ev.now _
  ·refine Ev.succ ?_
   simp only [spec_IsTogether.l1, Int.lt_irrefl, if_false, wrap_id (n := (i : Int) + 1) (by omega) (by omega)]
   exact hr
 have key : ∀ (d i : Nat), i + d = v.length → (∀ j : Nat, j < i → 0 ≤ findP l (rd v (j : Int))) → Ev (fun k => spec_IsTogether.l0 k l v (i : Int)) ((List.range' i d).all (tgAt l v) && arePaths l) := by
  intro d
  induction d with
  | zero =>
   intro i hi hf
   refine Ev.succ ?_
   simp only [spec_IsTogether.l0, show ¬ (i : Int) < (v.length : Int) by omega, if_false]
   exact Ev.bind (spec_ArePaths_eq l hl) (Ev.now _)
  | succ d ih =>
   intro i hi hf
   refine Ev.succ ?_
   rw [List.range'_succ, List.all_cons]
   simp only [spec_IsTogether.l0, show (i : Int) < (v.length : Int) by omega, show (0 : Int) ≤ (i : Int) by omega, if_true]
   refine Ev.bind (spec_FindPath_eq l _ hl) ?_
   have hj : ∀ b : Bool, 0 ≤ findP l (rd v (i : Int)) ∨ b = true → Ev (fun k => spec_IsTogether.j1 k l v (i : Int) (findP l (rd v (i : Int))) b) (!b && ((List.range i).all (fun (j : Nat) => !confAt l (rd v (i : Int)) (rd v (j : Int))) && ((List.range' (i + 1) d).all (tgAt l v) && arePaths l))) := by
    intro b hb
    refine Ev.succ ?_
    cases b
    ·have h0 : 0 ≤ findP l (rd v (i : Int)) := by rcases hb with h | h; exact h; cases h
     simp only [spec_IsTogether.j1, Bool.false_eq_true, if_false, Bool.not_false, Bool.true_and]
     have hf' : ∀ j : Nat, j < i + 1 → 0 ≤ findP l (rd v (j : Int)) := fun j hj => by
      by_cases e : j = i
      ·rw [e]; exact h0
      ·exact hf j (by omega)
     refine inner i _ (by omega) (fun j hj => hf' j (by omega)) ?_
     have := ih (i + 1) (by omega) hf'
     rwa [show ((i + 1 : Nat) : Int) = (i : Int) + 1 by omega] at this
    ·simp only [spec_IsTogether.j1, if_true, Bool.not_true, Bool.false_and]; exact Ev.now _
   by_cases h0 : findP l (rd v (i : Int)) < 0
   ·simp only [h0, if_true]
    exact evq (hj true (.inr rfl)) (by simp [tgAt, show ¬ 0 ≤ findP l (rd v (i : Int)) by omega])
   ·simp only [h0, if_false]
    by_cases hi0 : i = 0
    ·subst hi0
     simp only [show ¬ (((0 : Nat) : Int) > 0) by omega, if_false]
     refine evq (hj false (.inl (by omega))) ?_
     unfold tgAt
     rw [decide_eq_true (show 0 ≤ findP l (rd v ((0 : Nat) : Int)) by omega)]
     simp [Bool.and_assoc]
    ·simp only [show (i : Int) > 0 by omega, if_true, wrap_id (n := (i : Int) - 1) (by omega) (by omega), show (0 : Int) ≤ (i : Int) - 1 by omega, show (i : Int) - 1 < (v.length : Int) by omega]
     refine evq (hj _ (.inl (by omega))) ?_
     unfold tgAt
     rw [decide_eq_true (show 0 ≤ findP l (rd v (i : Int)) by omega), decide_eq_false hi0]
     simp only [Bool.true_and, Bool.false_or, Bool.and_assoc, ge_iff_le]
 have := key v.length 0 (by omega) (fun j hj => absurd hj (by omega))
 rwa [← List.range_eq_range'] at this
def closes (a b : List Int) : List Int := a.filter (fun x => !decide (x ∈ b))
theorem closes_le (a b : List Int) : (closes a b).length ≤ a.length := List.length_filter_le _ _
theorem closes_mem {a b : List Int} {x : Int} (h : x ∈ closes a b) : x ∈ a := (List.mem_filter.1 h).1
theorem closes_step (a b : List Int) (i : Nat) (h : i < a.length) : closes (a.drop i) b = (if a[i] ∈ b then [] else [a[i]]) ++ closes (a.drop (i + 1)) b := by
 unfold closes
 rw [List.drop_eq_getElem_cons h, List.filter_cons]
 by_cases e : a[i] ∈ b <;> simp [e]
theorem impl_Closes_eq (a b : List Int) (ha : a.length ≤ 1048576) (hb : b.length ≤ 1048576) : Ev (fun k => impl_Closes.f k a b) (closes a b) := by
 unfold impl_Closes.f impl_sieve.f
 have key : ∀ (d i : Nat) (o : List Int), o.length ≤ i → i + d = a.length → Ev (fun k => impl_sieve.l0 k b false o a (a.length : Int) (i : Int)) (o ++ closes (a.drop i) b) := by
  intro d
  induction d with
  | zero =>
   intro i o ho hi
   refine Ev.succ ?_
   simp only [impl_sieve.l0, show ¬ (i : Int) < (a.length : Int) by omega, if_false]
   exact evq (Ev.now _) (by rw [List.drop_eq_nil_of_le (show a.length ≤ i by omega)]; simp [closes])
  | succ d ih =>
   intro i o ho hi
   refine Ev.succ ?_
   have hi2 : i < a.length := by omega
   simp only [impl_sieve.l0, show (i : Int) < (a.length : Int) by omega, show (0 : Int) ≤ (i : Int) by omega, if_true, rd_nat _ _ hi2, wrap_id (n := (i : Int) + 1) (by omega) (by omega), show o.length < 17592186044416 by omega]
   refine Ev.bind (slices_Contains_eq _ _ (by omega)) ?_
   rw [closes_step a b i hi2]
   by_cases e : a[i] ∈ b
   ·have := ih (i + 1) o (by omega) (by omega)
    rw [show ((i + 1 : Nat) : Int) = (i : Int) + 1 by omega] at this
    simpa [e] using this
   ·have := ih (i + 1) (o ++ [a[i]]) (by rw [List.length_append, List.length_singleton]; omega) (by omega)
    rw [show ((i + 1 : Nat) : Int) = (i : Int) + 1 by omega] at this
    simpa [e] using this
 exact Ev.bind (by simpa using key a.length 0 [] (Nat.le_refl _) (by omega)) (Ev.now _)
def clrOf (l : List S71) (x : Int) : Int := clearOf (rd_T71 l (findP l x)).f0 (rd_T71 l (findP l x)).f1 (rd_T71 l (findP l x)).f2 (rd_T71 l (findP l x)).f3
def cbIn (l : List S71) (x : Int) (ys : List Int) (m : Int) : Int := ys.foldl (fun m y => if confAt l x y then max m (clrOf l x) else m) m
def cbOut (l : List S71) (xs ys : List Int) (m : Int) : Int := xs.foldl (fun m x => cbIn l x ys m) m
def clearBetween (l : List S71) (a b : List Int) : Int := if together l a && together l b then cbOut l (closes a b) (closes b a) 0 else 0
theorem together_mem {l : List S71} {v : List Int} (h : together l v = true) {x : Int} (hx : x ∈ v) : 0 ≤ findP l x := by
 obtain ⟨i, hi, rfl⟩ := List.getElem_of_mem hx
 have := together_at h i hi
 rwa [rd_nat _ _ hi] at this
theorem mx_max (a b : Int) : mx a b = max a b := by unfold mx; omega
theorem impl_ClearBetween_eq (l : List S71) (a b : List Int) (hl : l.length ≤ 1048576) (ha : a.length ≤ 1048576) (hb : b.length ≤ 1048576) : Ev (fun k => impl_ClearBetween.f k l a b) (clearBetween l a b) := by
 unfold impl_ClearBetween.f clearBetween
 refine Ev.bind (impl_IsTogether_eq l a hl ha) ?_
 cases h1 : together l a
 ·simp only [Bool.false_eq_true, if_false, Bool.false_and]
  refine Ev.succ ?_
  simp only [impl_ClearBetween.j0, if_true]; exact Ev.now _
 simp only [if_true, Bool.true_and]
 refine Ev.bind (impl_IsTogether_eq l b hl hb) ?_
 refine Ev.succ ?_
 cases h2 : together l b
 ·simp only [impl_ClearBetween.j0, Bool.not_false, if_true, Bool.false_eq_true, if_false]; exact Ev.now _
 simp only [impl_ClearBetween.j0, Bool.not_true, Bool.false_eq_true, if_false, if_true]
 refine Ev.bind (impl_Closes_eq a b ha hb) ?_
 have hx : ∀ x ∈ closes a b, 0 ≤ findP l x := fun x h => together_mem h1 (closes_mem h)
 have hy : ∀ x ∈ closes b a, 0 ≤ findP l x := fun x h => together_mem h2 (closes_mem h)
 have lx := closes_le a b
 have ly := closes_le b a
 have hC := impl_Closes_eq b a hb ha
 generalize closes a b = xs at hx lx
 generalize closes b a = ys at hy ly hC
 have inner : ∀ (i : Nat) (hi : i < xs.length) (r : Int → Int), (∀ m : Int, Ev (fun k => impl_ClearBetween.l0 k l a b m xs (xs.length : Int) ((i : Int) + 1)) (r m)) → ∀ (d j : Nat) (m : Int), j + d = ys.length → Ev (fun k => impl_ClearBetween.l1 k l a b m (xs[i]) xs (xs.length : Int) (i : Int) ys (ys.length : Int) (j : Int)) (r (cbIn l xs[i] (ys.drop j) m)) := by
  intro i hi r hr d
  induction d with
  | zero =>
   intro j m hj
   refine Ev.succ ?_
   simp only [impl_ClearBetween.l1, show ¬ (j : Int) < (ys.length : Int) by omega, if_false, wrap_id (n := (i : Int) + 1) (by omega) (by omega)]
   refine evq (hr m) ?_
   rw [List.drop_eq_nil_of_le (show ys.length ≤ j by omega)]; rfl
  | succ d ih =>
   intro j m hj
   refine Ev.succ ?_
   have hj2 : j < ys.length := by omega
   have f1 := hx _ (List.getElem_mem hi)
   have f2 := findP_hi l xs[i]
   have f3 := hy _ (List.getElem_mem hj2)
   have f4 := findP_hi l ys[j]
   simp only [impl_ClearBetween.l1, show (j : Int) < (ys.length : Int) by omega, show (0 : Int) ≤ (j : Int) by omega, if_true, rd_nat _ _ hj2, impl_FindPath_eq, Option.bind_some, f1, f2, f3, f4, wrap_id (n := (j : Int) + 1) (by omega) (by omega)]
   refine Ev.bind (impl_Conflict_eq _ _) ?_
   have ih' := fun m => ih (j + 1) m (by omega)
   rw [show ((j + 1 : Nat) : Int) = (j : Int) + 1 by omega] at ih'
   have e : cbIn l xs[i] (ys.drop j) m = cbIn l xs[i] (ys.drop (j + 1)) (if confAt l xs[i] ys[j] then max m (clrOf l xs[i]) else m) := by
    unfold cbIn; rw [List.drop_eq_getElem_cons hj2, List.foldl_cons]
   rw [e]
   show Ev (fun k => if confAt l xs[i] ys[j] = true then _ else _) _
   cases hc : confAt l xs[i] ys[j]
   ·simp only [Bool.false_eq_true, if_false]; exact ih' m
   ·simp only [if_true]
    refine Ev.bind (impl_ClearOf_ev _ _ _ _) ?_
    simp only [mx_max]
    exact ih' _
 have outer : ∀ (d i : Nat) (m : Int), i + d = xs.length → Ev (fun k => impl_ClearBetween.l0 k l a b m xs (xs.length : Int) (i : Int)) (cbOut l (xs.drop i) ys m) := by
  intro d
  induction d with
  | zero =>
   intro i m hi
   refine Ev.succ ?_
   simp only [impl_ClearBetween.l0, show ¬ (i : Int) < (xs.length : Int) by omega, if_false]
   refine evq (Ev.now _) ?_
   rw [List.drop_eq_nil_of_le (show xs.length ≤ i by omega)]; rfl
  | succ d ih =>
   intro i m hi
   refine Ev.succ ?_
   have hi2 : i < xs.length := by omega
   simp only [impl_ClearBetween.l0, show (i : Int) < (xs.length : Int) by omega, show (0 : Int) ≤ (i : Int) by omega, if_true, rd_nat _ _ hi2]
   refine Ev.bind hC ?_
   have := inner i hi2 (fun m => cbOut l (xs.drop (i + 1)) ys m) (fun m => by
    have := ih (i + 1) m (by omega)
    rwa [show ((i + 1 : Nat) : Int) = (i : Int) + 1 by omega] at this) ys.length 0 m (by omega)
   refine evq this ?_
   unfold cbOut
   rw [List.drop_eq_getElem_cons hi2, List.foldl_cons]; rfl
 exact outer xs.length 0 0 (by omega)
def walkAt (l : List S71) (x : Int) : Bool := decide (0 ≤ findP l x) && decide ((rd_T71 l (findP l x)).f1 = 2)
def leastGreen (l : List S71) (s : List Int) : Int := if s.any (walkAt l) then 7 else 5
theorem impl_LeastGreen_eq (l : List S71) (s : List Int) (hl : l.length ≤ 1048576) (hs : s.length ≤ 1048576) : Ev (fun k => impl_LeastGreen.f k l s) (leastGreen l s) := by
 unfold impl_LeastGreen.f leastGreen
 have key : ∀ (d i : Nat), i + d = s.length → Ev (fun k => impl_LeastGreen.l0 k l s (s.length : Int) (i : Int)) (if (s.drop i).any (walkAt l) then 7 else 5) := by
  intro d
  induction d with
  | zero =>
   intro i hi
   refine Ev.succ ?_
   simp only [impl_LeastGreen.l0, show ¬ (i : Int) < (s.length : Int) by omega, if_false]
   exact evq (Ev.now _) (by rw [List.drop_eq_nil_of_le (show s.length ≤ i by omega)]; rfl)
  | succ d ih =>
   intro i hi
   refine Ev.succ ?_
   have hi2 : i < s.length := by omega
   have ihh := ih (i + 1) (by omega)
   rw [show ((i + 1 : Nat) : Int) = (i : Int) + 1 by omega] at ihh
   have f2 := findP_hi l s[i]
   rw [List.drop_eq_getElem_cons hi2, List.any_cons]
   simp only [impl_LeastGreen.l0, show (i : Int) < (s.length : Int) by omega, show (0 : Int) ≤ (i : Int) by omega, if_true, rd_nat _ _ hi2, impl_FindPath_eq, Option.bind_some, f2, wrap_id (n := (i : Int) + 1) (by omega) (by omega)]
   by_cases h0 : 0 ≤ findP l s[i]
   ·simp only [ge_iff_le, h0, if_true]
    by_cases h1 : (rd_T71 l (findP l s[i])).f1 = 2
    ·have e : walkAt l s[i] = true := by simp [walkAt, h0, h1]
     simp only [h1, if_true, e, Bool.true_or]; exact Ev.now _
    ·have e : walkAt l s[i] = false := by simp [walkAt, h1]
     simp only [h1, if_false, e, Bool.false_or]; exact ihh
   ·have e : walkAt l s[i] = false := by simp [walkAt, h0]
    simp only [ge_iff_le, h0, if_false, e, Bool.false_or]; exact ihh
 simpa using key s.length 0 (by omega)
theorem spec_LeastGreen_eq (l : List S71) (s : List Int) (hl : l.length ≤ 1048576) (hs : s.length ≤ 1048576) : Ev (fun k => spec_LeastGreen.f k l s) (leastGreen l s) := by
 unfold spec_LeastGreen.f leastGreen
 have key : ∀ (d i : Nat), i + d = s.length → Ev (fun k => spec_LeastGreen.l0 k l s (i : Int)) (if (s.drop i).any (walkAt l) then 7 else 5) := by
  intro d
  induction d with
  | zero =>
   intro i hi
   refine Ev.succ ?_
   simp only [spec_LeastGreen.l0, show ¬ (i : Int) < (s.length : Int) by omega, if_false]
   exact evq (Ev.now _) (by rw [List.drop_eq_nil_of_le (show s.length ≤ i by omega)]; rfl)
  | succ d ih =>
   intro i hi
   refine Ev.succ ?_
   have hi2 : i < s.length := by omega
   have ihh := ih (i + 1) (by omega)
   rw [show ((i + 1 : Nat) : Int) = (i : Int) + 1 by omega] at ihh
   have f2 := findP_hi l s[i]
   rw [List.drop_eq_getElem_cons hi2, List.any_cons]
   simp only [spec_LeastGreen.l0, show (i : Int) < (s.length : Int) by omega, show (0 : Int) ≤ (i : Int) by omega, if_true, rd_nat _ _ hi2, wrap_id (n := (i : Int) + 1) (by omega) (by omega)]
   refine Ev.bind (spec_FindPath_eq l _ hl) ?_
   simp only [f2, if_true]
   by_cases h0 : 0 ≤ findP l s[i]
   ·simp only [ge_iff_le, h0, if_true]
    by_cases h1 : (rd_T71 l (findP l s[i])).f1 = 2
    ·have e : walkAt l s[i] = true := by simp [walkAt, h0, h1]
     simp only [h1, if_true, e, Bool.true_or]; exact Ev.now _
    ·have e : walkAt l s[i] = false := by simp [walkAt, h1]
     simp only [h1, if_false, e, Bool.false_or]; exact ihh
   ·have e : walkAt l s[i] = false := by simp [walkAt, h0]
    simp only [ge_iff_le, h0, if_false, e, Bool.false_or]; exact ihh
 simpa using key s.length 0 (by omega)
def put : List Int → Int → List Int
 | [], n => [n]
 | a :: l, n => if a < n then a :: put l n else if a = n then a :: l else n :: a :: l
theorem put_length : ∀ (l : List Int) (n : Int), (put l n).length ≤ l.length + 1
 | [], n => by simp [put]
 | a :: l, n => by
  have := put_length l n
  unfold put
  split
  ·simp; omega
  ·split
   ·simp
   ·simp
theorem spec_l6Put_eq (l : List Int) (n : Int) (hl : l.length ≤ 4194304) : Ev (fun k => spec_l6Put.f k l n) (put l n) := by
 unfold spec_l6Put.f
 have key : ∀ (d i : Nat), i + d = l.length → Ev (fun k => spec_l6Put.l0 k l n (i : Int)) (l.take i ++ put (l.drop i) n) := by
  intro d
  induction d with
  | zero =>
   intro i hi
   refine Ev.succ ?_
   have hlt : (l.take i).length = i := by rw [List.length_take]; omega
   simp only [spec_l6Put.l0, show ¬ (i : Int) < (l.length : Int) by omega, if_false, Option.bind_some, show (0 : Int) ≤ (i : Int) by omega, show (i : Int) ≤ (l.length : Int) by omega, if_true, Int.toNat_natCast, List.length_nil, Nat.zero_add, List.nil_append, List.length_append, List.length_singleton, List.length_drop, hlt, show i < 17592186044416 by omega, show i + 1 < 17592186044416 by omega, show i + 1 + (l.length - i) < 17592186044416 by omega]
   exact evq (Ev.now _) (by rw [List.drop_eq_nil_of_le (show l.length ≤ i by omega)]; simp [put])
  | succ d ih =>
   intro i hi
   refine Ev.succ ?_
   have hi2 : i < l.length := by omega
   have hlt : (l.take i).length = i := by rw [List.length_take]; omega
   have next := ih (i + 1) (by omega)
   rw [show ((i + 1 : Nat) : Int) = (i : Int) + 1 by omega] at next
   simp only [spec_l6Put.l0, show (i : Int) < (l.length : Int) by omega, if_true, Option.bind_some, show (0 : Int) ≤ (i : Int) by omega, show (i : Int) ≤ (l.length : Int) by omega, rd_nat _ _ hi2, wrap_id (n := (i : Int) + 1) (by omega) (by omega), Int.toNat_natCast, List.length_nil, Nat.zero_add, List.nil_append, List.length_append, List.length_singleton, List.length_drop, hlt, show i < 17592186044416 by omega, show i + 1 < 17592186044416 by omega, show i + 1 + (l.length - i) < 17592186044416 by omega, show l.length < 17592186044416 by omega]
   rw [List.drop_eq_getElem_cons hi2]
   unfold put
   by_cases h1 : l[i] < n
   ·simp only [h1, if_true]
    rw [List.take_succ_eq_append_getElem hi2, List.append_assoc, List.singleton_append] at next
    exact next
   ·simp only [h1, if_false]
    by_cases h2 : l[i] = n
    ·simp only [h2, if_true]
     refine evq (Ev.now _) ?_
     rw [← h2, ← List.drop_eq_getElem_cons hi2, List.take_append_drop]
    ·simp only [h2, if_false]
     refine evq (Ev.now _) ?_
     rw [List.append_assoc, List.singleton_append]
 simpa using key l.length 0 (by omega)
theorem laws_contains_eq (l : List Int) (a : Int) (hl : l.length ≤ 1048576) : Ev (fun k => laws_contains.f k l a) (decide (a ∈ l)) := by
 unfold laws_contains.f
 have key : ∀ (d i : Nat), i + d = l.length → Ev (fun k => laws_contains.l0 k l a (i : Int)) (decide (a ∈ l.drop i)) := by
  intro d
  induction d with
  | zero =>
   intro i hi
   refine Ev.succ ?_
   simp only [laws_contains.l0, show ¬ (i : Int) < (l.length : Int) by omega, if_false]
   exact evq (Ev.now _) (by rw [List.drop_eq_nil_of_le (show l.length ≤ i by omega)]; simp)
  | succ d ih =>
   intro i hi
   refine Ev.succ ?_
   have hi2 : i < l.length := by omega
   have next := ih (i + 1) (by omega)
   rw [show ((i + 1 : Nat) : Int) = (i : Int) + 1 by omega] at next
   simp only [laws_contains.l0, show (i : Int) < (l.length : Int) by omega, show (0 : Int) ≤ (i : Int) by omega, if_true, rd_nat _ _ hi2, wrap_id (n := (i : Int) + 1) (by omega) (by omega)]
   rw [List.drop_eq_getElem_cons hi2]
   by_cases h : l[i] = a
   ·simp only [h, if_true]
    exact evq (Ev.now _) (by simp)
   ·simp only [h, if_false]
    exact evq next (decide_eq_decide.2 ⟨List.mem_cons_of_mem _, fun h2 => (List.mem_cons.1 h2).resolve_left (Ne.symm h)⟩)
 simpa using key l.length 0 (by omega)
theorem cbIn_bd (l : List S71) (x : Int) : ∀ (ys : List Int) (m : Int), 0 ≤ m → m ≤ 5 → 0 ≤ cbIn l x ys m ∧ cbIn l x ys m ≤ 5
 | [], m, h0, h5 => ⟨h0, h5⟩
 | y :: ys, m, h0, h5 => by
  have hc := clearOf_bd (rd_T71 l (findP l x)).f0 (rd_T71 l (findP l x)).f1 (rd_T71 l (findP l x)).f2 (rd_T71 l (findP l x)).f3
  show 0 ≤ cbIn l x ys (if confAt l x y then max m (clrOf l x) else m) ∧ cbIn l x ys (if confAt l x y then max m (clrOf l x) else m) ≤ 5
  refine cbIn_bd l x ys _ ?_ ?_
  ·unfold clrOf; split <;> omega
  ·unfold clrOf; split <;> omega
theorem cbOut_bd (l : List S71) (ys : List Int) : ∀ (xs : List Int) (m : Int), 0 ≤ m → m ≤ 5 → 0 ≤ cbOut l xs ys m ∧ cbOut l xs ys m ≤ 5
 | [], m, h0, h5 => ⟨h0, h5⟩
 | x :: xs, m, h0, h5 => by
  have := cbIn_bd l x ys m h0 h5
  exact cbOut_bd l ys xs (cbIn l x ys m) this.1 this.2
theorem clearBetween_bd (l : List S71) (a b : List Int) : 0 ≤ clearBetween l a b ∧ clearBetween l a b ≤ 5 := by
 unfold clearBetween
 split
 ·exact cbOut_bd l _ _ 0 (by omega) (by omega)
 ·omega
theorem rdT_Part (xs : List S85) (i : Nat) (h : i < xs.length) : rd_T85 xs (i : Int) = xs[i] := by simp [rd_T85, h]
def psOk (l : List S85) : Prop := l.length ≤ 1048576 ∧ ∀ x ∈ l, x.f0.length ≤ 1048576
def covers (l : List S71) (st : List (List Int)) : Bool := arePaths l && (st.all (together l) && l.all (fun x => st.any (fun s => decide (x.f0 ∈ s))))
theorem rdL2 (xs : List (List Int)) (i : Nat) (h : i < xs.length) : rd_L2 xs (i : Int) = xs[i] := by simp [rd_L2, h]
theorem impl_isCovered_eq (st : List (List Int)) (id : Int) : impl_isCovered.f st id = some (st.any (fun s => decide (id ∈ s))) := by
 unfold impl_isCovered.f
 rcases fidx_cases (fun x : List Int => decide (id ∈ x)) st 0 with ⟨h1, h2⟩ | ⟨i, h1, h2, h3, _⟩
 ·rw [h1, decide_eq_false (by omega)]
  have : st.any (fun s => decide (id ∈ s)) = false := List.any_eq_false.2 (fun x hx => by rw [h2 x hx]; simp)
  rw [this]
 ·rw [h1, decide_eq_true (by omega)]
  have : st.any (fun s => decide (id ∈ s)) = true := List.any_eq_true.2 ⟨st[i], List.getElem_mem _, h3⟩
  rw [this]
theorem impl_Covers_eq (l : List S71) (st : List (List Int)) (hl : l.length ≤ 1048576) (hs : st.length ≤ 1048576) (ht : ∀ s ∈ st, s.length ≤ 1048576) : Ev (fun k => impl_Covers.f k l st) (covers l st) := by
 unfold impl_Covers.f covers
 refine Ev.bind (impl_ArePaths_eq l hl) ?_
 cases arePaths l
 ·simp only [Bool.false_eq_true, if_false, Bool.false_and]; exact Ev.now _
 simp only [if_true, Bool.true_and]
 have h1 : ∀ (d i : Nat), i + d = l.length → Ev (fun k => impl_Covers.l1 k st l (l.length : Int) (i : Int)) ((l.drop i).all (fun x => st.any (fun s => decide (x.f0 ∈ s)))) := by
  intro d
  induction d with
  | zero =>
   intro i hi
   refine Ev.succ ?_
   simp only [impl_Covers.l1, show ¬ (i : Int) < (l.length : Int) by omega, if_false]
   exact evq (Ev.now _) (by rw [List.drop_eq_nil_of_le (show l.length ≤ i by omega)]; rfl)
  | succ d ih =>
   intro i hi
   refine Ev.succ ?_
   have hi2 : i < l.length := by omega
   have next := ih (i + 1) (by omega)
   rw [show ((i + 1 : Nat) : Int) = (i : Int) + 1 by omega] at next
   rw [List.drop_eq_getElem_cons hi2, List.all_cons]
   simp only [impl_Covers.l1, show (i : Int) < (l.length : Int) by omega, show (0 : Int) ≤ (i : Int) by omega, if_true, rdT_Path _ _ hi2, impl_isCovered_eq, Option.bind_some, wrap_id (n := (i : Int) + 1) (by omega) (by omega)]
   cases st.any (fun s => decide (l[i].f0 ∈ s))
   ·simp only [Bool.false_eq_true, if_false, Bool.false_and]; exact Ev.now _
   ·simp only [if_true, Bool.true_and]; exact next
 have h0 : ∀ (d i : Nat), i + d = st.length → Ev (fun k => impl_Covers.l0 k l st st (st.length : Int) (i : Int)) ((st.drop i).all (together l) && l.all (fun x => st.any (fun s => decide (x.f0 ∈ s)))) := by
  intro d
  induction d with
  | zero =>
   intro i hi
   refine Ev.succ ?_
   simp only [impl_Covers.l0, show ¬ (i : Int) < (st.length : Int) by omega, if_false]
   exact evq (h1 l.length 0 (by omega)) (by rw [List.drop_eq_nil_of_le (show st.length ≤ i by omega)]; rfl)
  | succ d ih =>
   intro i hi
   refine Ev.succ ?_
   have hi2 : i < st.length := by omega
   have next := ih (i + 1) (by omega)
   rw [show ((i + 1 : Nat) : Int) = (i : Int) + 1 by omega] at next
   rw [List.drop_eq_getElem_cons hi2, List.all_cons]
   simp only [impl_Covers.l0, show (i : Int) < (st.length : Int) by omega, show (0 : Int) ≤ (i : Int) by omega, if_true, rdL2 _ _ hi2, wrap_id (n := (i : Int) + 1) (by omega) (by omega)]
   refine Ev.bind (impl_IsTogether_eq l _ hl (ht _ (List.getElem_mem hi2))) ?_
   cases together l st[i]
   ·simp only [Bool.false_eq_true, if_false, Bool.false_and]; exact Ev.now _
   ·simp only [if_true, Bool.true_and]; exact next
 simpa using h0 st.length 0 (by omega)
theorem spec_Covers_eq (l : List S71) (st : List (List Int)) (hl : l.length ≤ 1048576) (hs : st.length ≤ 1048576) (ht : ∀ s ∈ st, s.length ≤ 1048576) : Ev (fun k => spec_Covers.f k l st) (covers l st) := by
 unfold spec_Covers.f covers
 have h2 : ∀ (i : Nat) (hi : i < l.length) (r : Bool), Ev (fun k => spec_Covers.l1 k l st ((i : Int) + 1)) r → ∀ (d j : Nat) (b : Bool), j + d = st.length → Ev (fun k => spec_Covers.l2 k l st (i : Int) b (j : Int)) ((b || (st.drop j).any (fun s => decide (l[i].f0 ∈ s))) && r) := by
  intro i hi r hr d
  induction d with
  | zero =>
   intro j b hj
   refine Ev.succ ?_
   simp only [spec_Covers.l2, show ¬ (j : Int) < (st.length : Int) by omega, if_false, wrap_id (n := (i : Int) + 1) (by omega) (by omega)]
   rw [List.drop_eq_nil_of_le (show st.length ≤ j by omega)]
   cases b
   ·simp only [Bool.false_eq_true, if_false]; exact evq (Ev.now _) (by simp)
   ·simp only [if_true]; exact evq hr (by simp)
  | succ d ih =>
   intro j b hj
   refine Ev.succ ?_
   have hj2 : j < st.length := by omega
   rw [List.drop_eq_getElem_cons hj2, List.any_cons]
   simp only [spec_Covers.l2, show (j : Int) < (st.length : Int) by omega, show (i : Int) < (l.length : Int) by omega, show (0 : Int) ≤ (i : Int) by omega, show (0 : Int) ≤ (j : Int) by omega, if_true, rdL2 _ _ hj2, rdT_Path _ _ hi, wrap_id (n := (j : Int) + 1) (by omega) (by omega)]
   cases b
   ·simp only [Bool.false_eq_true, if_false]
    refine Ev.bind (spec_l6Has_eq _ _ (Nat.le_trans (ht _ (List.getElem_mem hj2)) (by omega))) ?_
    have next := ih (j + 1) (decide (l[i].f0 ∈ st[j])) (by omega)
    rw [show ((j + 1 : Nat) : Int) = (j : Int) + 1 by omega] at next
    exact evq next (by simp)
   ·simp only [if_true]
    have next := ih (j + 1) true (by omega)
    rw [show ((j + 1 : Nat) : Int) = (j : Int) + 1 by omega] at next
    exact evq next (by simp)
 have h1 : ∀ (d i : Nat), i + d = l.length → Ev (fun k => spec_Covers.l1 k l st (i : Int)) ((l.drop i).all (fun x => st.any (fun s => decide (x.f0 ∈ s))) && arePaths l) := by
  intro d
  induction d with
  | zero =>
   intro i hi
   refine Ev.succ ?_
   simp only [spec_Covers.l1, show ¬ (i : Int) < (l.length : Int) by omega, if_false]
   refine Ev.bind (spec_ArePaths_eq l hl) ?_
   exact evq (Ev.now _) (by rw [List.drop_eq_nil_of_le (show l.length ≤ i by omega)]; rfl)
  | succ d ih =>
   intro i hi
   refine Ev.succ ?_
   have hi2 : i < l.length := by omega
   have next := ih (i + 1) (by omega)
   rw [show ((i + 1 : Nat) : Int) = (i : Int) + 1 by omega] at next
   simp only [spec_Covers.l1, show (i : Int) < (l.length : Int) by omega, if_true]
   refine evq (h2 i hi2 _ next st.length 0 false (by omega)) ?_
   rw [List.drop_eq_getElem_cons hi2, List.all_cons, List.drop_zero, Bool.false_or, Bool.and_assoc]
 have h0 : ∀ (d i : Nat), i + d = st.length → Ev (fun k => spec_Covers.l0 k l st (i : Int)) ((st.drop i).all (together l) && (l.all (fun x => st.any (fun s => decide (x.f0 ∈ s))) && arePaths l)) := by
  intro d
  induction d with
  | zero =>
   intro i hi
   refine Ev.succ ?_
   simp only [spec_Covers.l0, show ¬ (i : Int) < (st.length : Int) by omega, if_false]
   exact evq (h1 l.length 0 (by omega)) (by rw [List.drop_eq_nil_of_le (show st.length ≤ i by omega)]; rfl)
  | succ d ih =>
   intro i hi
   refine Ev.succ ?_
   have hi2 : i < st.length := by omega
   have next := ih (i + 1) (by omega)
   rw [show ((i + 1 : Nat) : Int) = (i : Int) + 1 by omega] at next
   rw [List.drop_eq_getElem_cons hi2, List.all_cons]
   simp only [spec_Covers.l0, show (i : Int) < (st.length : Int) by omega, show (0 : Int) ≤ (i : Int) by omega, if_true, rdL2 _ _ hi2, wrap_id (n := (i : Int) + 1) (by omega) (by omega)]
   refine Ev.bind (spec_IsTogether_eq l _ hl (ht _ (List.getElem_mem hi2))) ?_
   cases together l st[i]
   ·simp only [Bool.false_eq_true, if_false, Bool.false_and]; exact Ev.now _
   ·simp only [if_true, Bool.true_and]; exact next
 refine evq (h0 st.length 0 (by omega)) ?_
 rw [List.drop_zero, Bool.and_comm (arePaths l), Bool.and_assoc]
def partOk (l : List S71) (x : S85) : Bool := !decide (x.f0.length = 0) && (together l x.f0 && decide (leastGreen l x.f0 ≤ x.f1 ∧ x.f1 ≤ 60))
def stagesOf (p : List S85) : List (List Int) := p.map (fun x => x.f0)
def isPlan (l : List S71) (p : List S85) : Bool := decide (1 ≤ (p.length : Int) ∧ (p.length : Int) ≤ 6) && (p.all (partOk l) && covers l (stagesOf p))
theorem isPlan_len {l : List S71} {p : List S85} (h : isPlan l p = true) : 1 ≤ p.length ∧ p.length ≤ 6 := by
 unfold isPlan at h
 simp only [Bool.and_eq_true, decide_eq_true_eq] at h
 omega
theorem isPlan_at {l : List S71} {p : List S85} (h : isPlan l p = true) (i : Nat) (hi : i < p.length) : 5 ≤ p[i].f1 ∧ p[i].f1 ≤ 60 := by
 unfold isPlan at h
 simp only [Bool.and_eq_true, List.all_eq_true] at h
 have := h.2.1 _ (List.getElem_mem hi)
 unfold partOk at this
 simp only [Bool.and_eq_true, decide_eq_true_eq] at this
 have h2 : 5 ≤ leastGreen l p[i].f0 := by unfold leastGreen; split <;> omega
 omega
theorem impl_IsPlan_eq (l : List S71) (p : List S85) (hl : l.length ≤ 1048576) (hp : psOk p) : Ev (fun k => impl_IsPlan.f k l p) (isPlan l p) := by
 unfold impl_IsPlan.f isPlan
 obtain ⟨hp, hx⟩ := hp
 simp only [impl_InRange_eq, Option.bind_some]
 by_cases h : 1 ≤ (p.length : Int) ∧ (p.length : Int) ≤ 6
 ·simp only [decide_eq_true h, if_true, Bool.true_and]
  have key : ∀ (d i : Nat) (acc : List (List Int)), i + d = p.length → acc.length = i → (∀ s ∈ acc, s.length ≤ 1048576) → Ev (fun k => impl_IsPlan.l0 k l acc p (p.length : Int) (i : Int)) ((p.drop i).all (partOk l) && covers l (acc ++ stagesOf (p.drop i))) := by
   intro d
   induction d with
   | zero =>
    intro i acc hi ha hacc
    refine Ev.succ ?_
    simp only [impl_IsPlan.l0, show ¬ (i : Int) < (p.length : Int) by omega, if_false]
    refine Ev.bind (impl_Covers_eq l acc hl (by omega) hacc) ?_
    exact evq (Ev.now _) (by rw [List.drop_eq_nil_of_le (show p.length ≤ i by omega)]; simp [stagesOf])
   | succ d ih =>
    intro i acc hi ha hacc
    refine Ev.succ ?_
    have hi2 : i < p.length := by omega
    have hm := hx _ (List.getElem_mem hi2)
    have next := ih (i + 1) (acc ++ [p[i].f0]) (by omega) (by rw [List.length_append, List.length_singleton]; omega) (fun s hs => by
     rcases List.mem_append.1 hs with h | h
     ·exact hacc s h
     ·rw [List.mem_singleton.1 h]; exact hm)
    rw [show ((i + 1 : Nat) : Int) = (i : Int) + 1 by omega] at next
    rw [List.drop_eq_getElem_cons hi2, List.all_cons]
    simp only [impl_IsPlan.l0, show (i : Int) < (p.length : Int) by omega, show (0 : Int) ≤ (i : Int) by omega, if_true, rdT_Part _ _ hi2, wrap_id (n := (i : Int) + 1) (by omega) (by omega)]
    rw [show partOk l p[i] = (!decide (p[i].f0.length = 0) && (together l p[i].f0 && decide (leastGreen l p[i].f0 ≤ p[i].f1 ∧ p[i].f1 ≤ 60))) from rfl]
    by_cases c1 : p[i].f0.length = 0
    ·simp only [show ((p[i].f0.length : Int) = 0) by omega, if_true, decide_eq_true c1, Bool.not_true, Bool.false_and]; exact Ev.now _
    ·simp only [show ¬ ((p[i].f0.length : Int) = 0) by omega, if_false, decide_eq_false c1, Bool.not_false, Bool.true_and]
     refine Ev.bind (impl_IsTogether_eq l _ hl hm) ?_
     cases together l p[i].f0
     ·simp only [Bool.false_eq_true, if_false, Bool.false_and]; exact Ev.now _
     ·simp only [if_true, Bool.true_and]
      refine Ev.bind (impl_LeastGreen_eq l _ hl hm) ?_
      simp only [impl_InRange_eq, Option.bind_some]
      by_cases c2 : leastGreen l p[i].f0 ≤ p[i].f1 ∧ p[i].f1 ≤ 60
      ·simp only [decide_eq_true c2, if_true, Bool.true_and, show acc.length < 5864062014805 by omega]
       exact evq next (by rw [List.append_assoc]; rfl)
      ·simp only [decide_eq_false c2, Bool.false_eq_true, if_false, Bool.false_and]; exact Ev.now _
  simpa [stagesOf] using key p.length 0 [] (by omega) rfl (by simp)
 ·simp only [decide_eq_false h, Bool.false_eq_true, if_false, Bool.false_and]; exact Ev.now _
theorem spec_l8Stages_eq (p : List S85) (hp : p.length ≤ 1048576) : Ev (fun k => spec_l8Stages.f k p) (stagesOf p) := by
 unfold spec_l8Stages.f
 have key : ∀ (d i : Nat) (acc : List (List Int)), i + d = p.length → acc.length = i → Ev (fun k => spec_l8Stages.l0 k p acc (i : Int)) (acc ++ stagesOf (p.drop i)) := by
  intro d
  induction d with
  | zero =>
   intro i acc hi ha
   refine Ev.succ ?_
   simp only [spec_l8Stages.l0, show ¬ (i : Int) < (p.length : Int) by omega, if_false]
   exact evq (Ev.now _) (by rw [List.drop_eq_nil_of_le (show p.length ≤ i by omega)]; simp [stagesOf])
  | succ d ih =>
   intro i acc hi ha
   refine Ev.succ ?_
   have hi2 : i < p.length := by omega
   have next := ih (i + 1) (acc ++ [p[i].f0]) (by omega) (by rw [List.length_append, List.length_singleton]; omega)
   rw [show ((i + 1 : Nat) : Int) = (i : Int) + 1 by omega] at next
   simp only [spec_l8Stages.l0, show (i : Int) < (p.length : Int) by omega, show (0 : Int) ≤ (i : Int) by omega, if_true, rdT_Part _ _ hi2, show acc.length < 5864062014805 by omega, wrap_id (n := (i : Int) + 1) (by omega) (by omega)]
   exact evq next (by rw [List.drop_eq_getElem_cons hi2, List.append_assoc]; rfl)
 simpa using key p.length 0 [] (by omega) rfl
theorem stagesOf_ok {p : List S85} (hp : psOk p) : ∀ s ∈ stagesOf p, s.length ≤ 1048576 := by
 intro s hs
 obtain ⟨x, hx, rfl⟩ := List.mem_map.1 hs
 exact hp.2 x hx
theorem spec_IsPlan_eq (l : List S71) (p : List S85) (hl : l.length ≤ 1048576) (hp : psOk p) : Ev (fun k => spec_IsPlan.f k l p) (isPlan l p) := by
 unfold spec_IsPlan.f isPlan
 have hst := stagesOf_ok hp
 obtain ⟨hp, hx⟩ := hp
 simp only [spec_l1In_eq, Option.bind_some]
 by_cases h : 1 ≤ (p.length : Int) ∧ (p.length : Int) ≤ 6
 ·simp only [decide_eq_true h, if_true, Bool.true_and]
  have key : ∀ (d i : Nat), i + d = p.length → Ev (fun k => spec_IsPlan.l0 k l p (i : Int)) ((p.drop i).all (partOk l) && covers l (stagesOf p)) := by
   intro d
   induction d with
   | zero =>
    intro i hi
    refine Ev.succ ?_
    simp only [spec_IsPlan.l0, show ¬ (i : Int) < (p.length : Int) by omega, if_false]
    refine Ev.bind (spec_l8Stages_eq p hp) ?_
    refine Ev.bind (spec_Covers_eq l _ hl (by unfold stagesOf; rw [List.length_map]; exact hp) hst) ?_
    exact evq (Ev.now _) (by rw [List.drop_eq_nil_of_le (show p.length ≤ i by omega)]; rfl)
   | succ d ih =>
    intro i hi
    refine Ev.succ ?_
    have hi2 : i < p.length := by omega
    have hm := hx _ (List.getElem_mem hi2)
    have next := ih (i + 1) (by omega)
    rw [show ((i + 1 : Nat) : Int) = (i : Int) + 1 by omega] at next
    rw [List.drop_eq_getElem_cons hi2, List.all_cons]
    simp only [spec_IsPlan.l0, show (i : Int) < (p.length : Int) by omega, show (0 : Int) ≤ (i : Int) by omega, if_true, rdT_Part _ _ hi2, wrap_id (n := (i : Int) + 1) (by omega) (by omega)]
    rw [show partOk l p[i] = (!decide (p[i].f0.length = 0) && (together l p[i].f0 && decide (leastGreen l p[i].f0 ≤ p[i].f1 ∧ p[i].f1 ≤ 60))) from rfl]
    by_cases c1 : p[i].f0.length = 0
    ·simp only [show ((p[i].f0.length : Int) = 0) by omega, if_true, decide_eq_true c1, Bool.not_true, Bool.false_and]; exact Ev.now _
    ·simp only [show ¬ ((p[i].f0.length : Int) = 0) by omega, if_false, decide_eq_false c1, Bool.not_false, Bool.true_and]
     refine Ev.bind (spec_IsTogether_eq l _ hl hm) ?_
     cases together l p[i].f0
     ·simp only [Bool.false_eq_true, if_false, Bool.false_and]; exact Ev.now _
     ·simp only [if_true, Bool.true_and]
      refine Ev.bind (spec_LeastGreen_eq l _ hl hm) ?_
      simp only [spec_l1In_eq, Option.bind_some]
      by_cases c2 : leastGreen l p[i].f0 ≤ p[i].f1 ∧ p[i].f1 ≤ 60
      ·simp only [decide_eq_true c2, if_true, Bool.true_and]
       exact next
      ·simp only [decide_eq_false c2, Bool.false_eq_true, if_false, Bool.false_and]; exact Ev.now _
  simpa using key p.length 0 (by omega)
 ·simp only [decide_eq_false h, Bool.false_eq_true, if_false, Bool.false_and]; exact Ev.now _
theorem nxt (i n : Nat) (hi : i < n) (hn : n ≤ 1048576) : Int.tmod (wrap64 ((i : Int) + 1)) (n : Int) = (((i + 1) % n : Nat) : Int) := by
 rw [wrap_id (by omega) (by omega), tmod_nn (by omega), show (i : Int) + 1 = ((i + 1 : Nat) : Int) by omega, ← Int.natCast_emod]
def nextSt (p : List S85) (i : Nat) : List Int := (rd_T85 p (((i + 1) % p.length : Nat) : Int)).f0
def longP (l : List S71) (p : List S85) (i : Nat) : Int := (rd_T85 p (i : Int)).f1 + clearBetween l (rd_T85 p (i : Int)).f0 (nextSt p i)
theorem nextSt_ok {p : List S85} (hp : psOk p) (i : Nat) (hi : i < p.length) : (nextSt p i).length ≤ 1048576 := by
 unfold nextSt
 have : (i + 1) % p.length < p.length := Nat.mod_lt _ (by omega)
 rw [rdT_Part _ _ this]
 exact hp.2 _ (List.getElem_mem _)
theorem longP_bd {l : List S71} {p : List S85} (h : isPlan l p = true) (i : Nat) (hi : i < p.length) : 5 ≤ longP l p i ∧ longP l p i ≤ 65 := by
 unfold longP
 have h1 := isPlan_at h i hi
 have h2 := clearBetween_bd l (rd_T85 p (i : Int)).f0 (nextSt p i)
 rw [rdT_Part _ _ hi] at h2 ⊢
 omega
def sumP (l : List S71) (p : List S85) : Nat → Nat → Int
 | 0, _ => 0
 | n + 1, i => longP l p i + sumP l p n (i + 1)
theorem sumP_succ (l : List S71) (p : List S85) (n i : Nat) : sumP l p (n + 1) i = longP l p i + sumP l p n (i + 1) := rfl
theorem sumP_zero (l : List S71) (p : List S85) (i : Nat) : sumP l p 0 i = 0 := rfl
theorem sumP_bd {l : List S71} {p : List S85} (h : isPlan l p = true) : ∀ (n i : Nat), i + n ≤ p.length → 5 * (n : Int) ≤ sumP l p n i ∧ sumP l p n i ≤ 65 * (n : Int)
 | 0, i, _ => by rw [sumP_zero]; omega
 | n + 1, i, hi => by
  have h1 := sumP_bd h n (i + 1) (by omega)
  have h2 := longP_bd h i (by omega)
  rw [sumP_succ]; omega
def cycleP (l : List S71) (p : List S85) : Int := if isPlan l p = true then sumP l p p.length 0 else 0
theorem cycleP_pos {l : List S71} {p : List S85} (h : isPlan l p = true) : 5 ≤ cycleP l p ∧ cycleP l p ≤ 390 := by
 have h1 := sumP_bd h p.length 0 (by omega)
 have h2 := isPlan_len h
 unfold cycleP
 rw [if_pos h]; omega
/-- Which part a second of the cycle falls into, and how far. -/
def walkP (l : List S71) (p : List S85) : Nat → Nat → Int → Int × Int
 | 0, i, s => ((i : Int), s)
 | n + 1, i, s => if s < longP l p i then ((i : Int), s) else walkP l p n (i + 1) (s - longP l p i)
theorem walkP_succ (l : List S71) (p : List S85) (n i : Nat) (s : Int) : walkP l p (n + 1) i s = if s < longP l p i then ((i : Int), s) else walkP l p n (i + 1) (s - longP l p i) := rfl
theorem walkP_at {l : List S71} {p : List S85} : ∀ (n i : Nat) (s : Int), i + n = p.length → 0 ≤ s → s < sumP l p n i → ∃ j : Nat, j < p.length ∧ (walkP l p n i s).1 = (j : Int) ∧ 0 ≤ (walkP l p n i s).2 ∧ (walkP l p n i s).2 < longP l p j
 | 0, i, s, _, h0, h1 => by rw [sumP_zero] at h1; omega
 | n + 1, i, s, hi, h0, h1 => by
  rw [sumP_succ] at h1
  rw [walkP_succ]
  by_cases c : s < longP l p i
  ·rw [if_pos c]; exact ⟨i, by omega, rfl, h0, c⟩
  ·rw [if_neg c]; exact walkP_at n (i + 1) _ (by omega) (by omega) (by omega)
def partAt (l : List S71) (p : List S85) (s : Int) : Int × Int := if isPlan l p = true ∧ (0 ≤ s ∧ s ≤ 1000000) then walkP l p p.length 0 (s % cycleP l p) else (-1, 0)
theorem partAt_at {l : List S71} {p : List S85} {s : Int} (h : 0 ≤ (partAt l p s).1) : isPlan l p = true ∧ ∃ j : Nat, j < p.length ∧ (partAt l p s).1 = (j : Int) ∧ 0 ≤ (partAt l p s).2 ∧ (partAt l p s).2 < longP l p j := by
 unfold partAt at h ⊢
 by_cases c : isPlan l p = true ∧ (0 ≤ s ∧ s ≤ 1000000)
 ·rw [if_pos c] at h ⊢
  have hc := cycleP_pos c.1
  have h2 : s % cycleP l p < cycleP l p := Int.emod_lt_of_pos _ (by omega)
  have h3 : 0 ≤ s % cycleP l p := Int.emod_nonneg _ (by omega)
  refine ⟨c.1, walkP_at p.length 0 _ (by omega) h3 ?_⟩
  have e : cycleP l p = sumP l p p.length 0 := by unfold cycleP; rw [if_pos c.1]
  rw [e] at h2 ⊢; exact h2
 ·rw [if_neg c] at h; dsimp only at h; omega
theorem impl_nextStage_eq (p : List S85) (i : Nat) (hi : i < p.length) (hp : p.length ≤ 1048576) : impl_nextStage.f p (i : Int) = some (nextSt p i) := by
 unfold impl_nextStage.f nextSt
 have : (i + 1) % p.length < p.length := Nat.mod_lt _ (by omega)
 simp only [nxt i p.length hi hp, show ¬ (p.length : Int) = 0 by omega, if_false, show (0 : Int) ≤ (((i + 1) % p.length : Nat) : Int) by omega, show (((i + 1) % p.length : Nat) : Int) < (p.length : Int) by omega, if_true]
theorem impl_longOf_eq (l : List S71) (p : List S85) (hl : l.length ≤ 1048576) (hp : psOk p) (h : isPlan l p = true) (i : Nat) (hi : i < p.length) : Ev (fun k => impl_longOf.f k l p (i : Int)) (longP l p i) := by
 unfold impl_longOf.f
 have hb := longP_bd h i hi
 simp only [show (0 : Int) ≤ (i : Int) by omega, show (i : Int) < (p.length : Int) by omega, if_true, impl_nextStage_eq p i hi hp.1, Option.bind_some]
 refine Ev.bind (impl_ClearBetween_eq l _ _ hl (by rw [rdT_Part _ _ hi]; exact hp.2 _ (List.getElem_mem _)) (nextSt_ok hp i hi)) ?_
 unfold longP at hb ⊢
 rw [wrap_id (by omega) (by omega)]
 exact Ev.now _
theorem impl_Cycle_eq (l : List S71) (p : List S85) (hl : l.length ≤ 1048576) (hp : psOk p) : Ev (fun k => impl_Cycle.f k l p) (cycleP l p) := by
 unfold impl_Cycle.f cycleP
 refine Ev.bind (impl_IsPlan_eq l p hl hp) ?_
 cases h : isPlan l p
 ·simp only [Bool.false_eq_true, if_false]; exact Ev.now _
 simp only [if_true]
 have hlen := isPlan_len h
 have key : ∀ (d i : Nat) (a : Int), i + d = p.length → 0 ≤ a → a ≤ 65 * (i : Int) → Ev (fun k => impl_Cycle.l0 k l p a (p.length : Int) (i : Int)) (a + sumP l p d i) := by
  intro d
  induction d with
  | zero =>
   intro i a hi h0 h1
   refine Ev.succ ?_
   simp only [impl_Cycle.l0, show ¬ (i : Int) < (p.length : Int) by omega, if_false]
   exact evq (Ev.now _) (by simp [sumP])
  | succ d ih =>
   intro i a hi h0 h1
   refine Ev.succ ?_
   have hb := longP_bd h i (by omega)
   have next := ih (i + 1) (a + longP l p i) (by omega) (by omega) (by omega)
   rw [show ((i + 1 : Nat) : Int) = (i : Int) + 1 by omega] at next
   simp only [impl_Cycle.l0, show (i : Int) < (p.length : Int) by omega, if_true, wrap_id (n := (i : Int) + 1) (by omega) (by omega)]
   refine Ev.bind (impl_longOf_eq l p hl hp h i (by omega)) ?_
   rw [wrap_id (by omega) (by omega)]
   exact evq next (by rw [sumP_succ]; omega)
 simpa using key p.length 0 0 (by omega) (by omega) (by omega)
theorem impl_PartAt_eq (l : List S71) (p : List S85) (s : Int) (hl : l.length ≤ 1048576) (hp : psOk p) : Ev (fun k => impl_PartAt.f k l p s) (partAt l p s) := by
 unfold impl_PartAt.f
 refine Ev.bind (impl_Cycle_eq l p hl hp) ?_
 have jt : ∀ c : Int, Ev (fun k => impl_PartAt.j0 k l p s c true) (-1, 0) := by
  intro c
  refine Ev.succ ?_
  simp only [impl_PartAt.j0, if_true]; exact Ev.now _
 cases h : isPlan l p
 ·have e : cycleP l p = 0 := by unfold cycleP; rw [if_neg (by rw [h]; decide)]
  simp only [e, if_true]
  exact evq (jt 0) (by unfold partAt; rw [if_neg (by rw [h]; simp)])
 have hc := cycleP_pos h
 simp only [show ¬ cycleP l p = 0 by omega, if_false, impl_InRange_eq, Option.bind_some]
 by_cases hs : 0 ≤ s ∧ s ≤ 1000000
 ·rw [decide_eq_true hs]
  have e : partAt l p s = walkP l p p.length 0 (s % cycleP l p) := by unfold partAt; rw [if_pos ⟨h, hs⟩]
  rw [e]
  refine Ev.succ ?_
  simp only [impl_PartAt.j0, Bool.not_true, Bool.false_eq_true, if_false, show ¬ cycleP l p = 0 by omega]
  rw [tmod_nn hs.1]
  have h2 : s % cycleP l p < cycleP l p := Int.emod_lt_of_pos _ (by omega)
  have h3 : 0 ≤ s % cycleP l p := Int.emod_nonneg _ (by omega)
  have e2 : cycleP l p = sumP l p p.length 0 := by unfold cycleP; rw [if_pos h]
  have hlen := isPlan_len h
  have key : ∀ (d i : Nat) (a : Int), i + d = p.length → 0 ≤ a → a < sumP l p d i → a ≤ 400 → Ev (fun k => impl_PartAt.l0 k l p a (i : Int)) (walkP l p d i a) := by
   intro d
   induction d with
   | zero => intro i a hi h0 h1 h2; rw [sumP_zero] at h1; omega
   | succ d ih =>
    intro i a hi h0 h1 h2
    refine Ev.succ ?_
    have hb := longP_bd h i (by omega)
    rw [sumP_succ] at h1
    simp only [impl_PartAt.l0, wrap_id (n := (i : Int) + 1) (by omega) (by omega)]
    refine Ev.bind (impl_longOf_eq l p hl hp h i (by omega)) ?_
    rw [walkP_succ]
    by_cases c : a < longP l p i
    ·rw [if_pos c]; refine Ev.ifn (by omega) ?_; exact Ev.now _
    ·rw [if_neg c]; refine Ev.ifp (by omega) ?_
     refine Ev.bind (impl_longOf_eq l p hl hp h i (by omega)) ?_
     rw [wrap_id (by omega) (by omega)]
     have next := ih (i + 1) (a - longP l p i) (by omega) (by omega) (by omega) (by omega)
     rw [show ((i + 1 : Nat) : Int) = (i : Int) + 1 by omega] at next
     exact next
  exact key p.length 0 _ (by omega) h3 (by rw [← e2]; exact h2) (by omega)
 ·rw [decide_eq_false hs]
  simp only [Bool.not_false]
  exact evq (jt _) (by unfold partAt; rw [if_neg (fun x => hs x.2)])
def lightAt (l : List S71) (p : List S85) (s id : Int) : Int :=
 if findP l id < 0 then 0 else if (partAt l p s).1 < 0 then 0 else
  if id ∈ (rd_T85 p (partAt l p s).1).f0 then
   (if (partAt l p s).2 < (rd_T85 p (partAt l p s).1).f1 ∨ id ∈ nextSt p (partAt l p s).1.toNat then 1
    else if (partAt l p s).2 < (rd_T85 p (partAt l p s).1).f1 + clrOf l id then 2 else 0)
  else 0
theorem impl_LightAt_eq (l : List S71) (p : List S85) (s id : Int) (hl : l.length ≤ 1048576) (hp : psOk p) : Ev (fun k => impl_LightAt.f k l p s id) (lightAt l p s id) := by
 unfold impl_LightAt.f lightAt
 simp only [impl_FindPath_eq, Option.bind_some]
 by_cases h0 : findP l id < 0
 ·simp only [h0, if_true]; exact Ev.now _
 obtain ⟨i, hi, he, hid⟩ := findP_at (show 0 ≤ findP l id by omega)
 have hcl : clrOf l id = clearOf l[i].f0 l[i].f1 l[i].f2 l[i].f3 := by unfold clrOf; rw [he, rdT_Path _ _ hi]
 have hcb := clearOf_bd l[i].f0 l[i].f1 l[i].f2 l[i].f3
 rw [he, hcl]
 simp only [show ¬ ((i : Int) < 0) by omega, if_false, show (0 : Int) ≤ (i : Int) by omega, show (i : Int) < (l.length : Int) by omega, if_true, rdT_Path _ _ hi, hid]
 refine Ev.bind ?_ (Ev.now _)
 unfold impl_shown.f
 refine Ev.bind (impl_PartAt_eq l p s hl hp) ?_
 by_cases h1 : (partAt l p s).1 < 0
 ·simp only [h1, if_true]
  refine Ev.succ ?_
  simp only [impl_shown.j0, if_true]; exact Ev.now _
 obtain ⟨hpl, j, hj, e1, e2, e3⟩ := partAt_at (show 0 ≤ (partAt l p s).1 by omega)
 generalize (partAt l p s).2 = t at e2 e3 ⊢
 have hgr := isPlan_at hpl j hj
 have hpj := hp.2 _ (List.getElem_mem hj)
 rw [e1]
 simp only [show ¬ ((j : Int) < 0) by omega, if_false, show (0 : Int) ≤ (j : Int) by omega, show (j : Int) < (p.length : Int) by omega, if_true, rdT_Part _ _ hj, Int.toNat_natCast]
 refine Ev.bind (slices_Contains_eq p[j].f0 id (by omega)) ?_
 have j1 : ∀ (b : Bool), Ev (fun k => impl_shown.j1 k p (j : Int) t b id l[i].f1 l[i].f2 l[i].f3) (if b = true then 1 else if t < p[j].f1 + clearOf l[i].f0 l[i].f1 l[i].f2 l[i].f3 then 2 else 0) := by
  intro b
  refine Ev.succ ?_
  simp only [impl_shown.j1, show (0 : Int) ≤ (j : Int) by omega, show (j : Int) < (p.length : Int) by omega, if_true, rdT_Part _ _ hj]
  cases b
  ·simp only [Bool.false_eq_true, if_false]
   rw [← hid]
   refine Ev.bind (impl_ClearOf_ev _ _ _ _) ?_
   rw [wrap_id (by omega) (by omega)]
   refine Ev.ifd (fun h => ?_) (fun h => ?_)
   ·rw [if_pos h]; exact Ev.now _
   ·rw [if_neg h]; exact Ev.now _
  ·simp only [if_true]; exact Ev.now _
 by_cases c1 : id ∈ p[j].f0
 ·simp only [decide_eq_true c1, Bool.not_true]
  rw [if_pos c1]
  refine Ev.succ ?_
  simp only [impl_shown.j0, Bool.false_eq_true, if_false, show (0 : Int) ≤ (j : Int) by omega, show (j : Int) < (p.length : Int) by omega, if_true, rdT_Part _ _ hj]
  by_cases c2 : t < p[j].f1
  ·simp only [c2, if_true, true_or]
   exact evq (j1 true) (by simp)
  ·simp only [c2, if_false, false_or, impl_nextStage_eq p j hj hp.1, Option.bind_some]
   have hns := nextSt_ok hp j hj
   refine Ev.bind (slices_Contains_eq (nextSt p j) id (by omega)) ?_
   refine evq (j1 _) ?_
   by_cases c3 : id ∈ nextSt p j <;> simp [c3, hid]
 ·simp only [decide_eq_false c1, Bool.not_false]
  rw [if_neg c1]
  refine Ev.succ ?_
  simp only [impl_shown.j0, if_true]; exact Ev.now _
def lightAfter (l : List S71) (a b : List S85) (t s id : Int) : Int := if (0 ≤ t ∧ t ≤ 200000) ∧ (0 ≤ s ∧ s ≤ 1000000) then (if s < t then lightAt l a s id else lightAt l b (s - t) id) else 0
theorem impl_LightAfter_eq (l : List S71) (a b : List S85) (t s id : Int) (hl : l.length ≤ 1048576) (ha : psOk a) (hb : psOk b) : Ev (fun k => impl_LightAfter.f k l a b t s id) (lightAfter l a b t s id) := by
 unfold impl_LightAfter.f lightAfter
 have jt : Ev (fun k => impl_LightAfter.j0 k l a b t s id true) 0 := by
  refine Ev.succ ?_
  simp only [impl_LightAfter.j0, if_true]; exact Ev.now _
 simp only [impl_InRange_eq, Option.bind_some]
 by_cases h1 : 0 ≤ t ∧ t ≤ 200000
 ·simp only [decide_eq_true h1, if_true]
  by_cases h2 : 0 ≤ s ∧ s ≤ 1000000
  ·simp only [decide_eq_true h2, Bool.not_true]
   rw [if_pos ⟨h1, h2⟩]
   refine Ev.succ ?_
   simp only [impl_LightAfter.j0, Bool.false_eq_true, if_false]
   by_cases c : s < t
   ·simp only [c, if_true]
    exact Ev.bind (impl_LightAt_eq l a s id hl ha) (Ev.now _)
   ·simp only [c, if_false, wrap_id (n := s - t) (by omega) (by omega)]
    exact Ev.bind (impl_LightAt_eq l b (s - t) id hl hb) (Ev.now _)
  ·simp only [decide_eq_false h2, Bool.not_false]
   exact evq jt (by rw [if_neg (fun x => h2 x.2)])
 ·simp only [decide_eq_false h1, Bool.false_eq_true, if_false]
  exact evq jt (by rw [if_neg (fun x => h1 x.1)])
theorem all_eq (x y : List Int) (h : x.length = y.length) : (List.range x.length).all (fun (i : Nat) => decide (rd x (i : Int) = rd y (i : Int))) = decide (x = y) := by
 by_cases e : x = y
 ·subst e
  rw [decide_eq_true rfl, List.all_eq_true]
  intro i _; simp
 ·rw [decide_eq_false e, List.all_eq_false]
  refine Classical.byContradiction (fun hn => e (List.ext_getElem h (fun i h1 h2 => ?_)))
  refine Classical.byContradiction (fun hne => hn ⟨i, List.mem_range.2 h1, ?_⟩)
  rw [rd_nat _ _ h1, rd_nat _ _ h2]
  simpa using hne
theorem slices_Equal_eq (x y : List Int) (hx : x.length ≤ 1048576) : Ev (fun k => slices_Equal_int_int.f k x y) (decide (x = y)) := by
 unfold slices_Equal_int_int.f
 by_cases h : x.length = y.length
 ·simp only [show (x.length : Int) = (y.length : Int) by omega, if_true]
  rw [show (y.length : Int) = (x.length : Int) by omega, ← all_eq x y h]
  refine Ev.all (g := fun k i => slices_Equal_int_int.l0 k x y (x.length : Int) i) x.length _ (fun i r hi hP hr => ?_) (fun i hi hP => ?_) ?_
  ·refine Ev.succ ?_
   simp only [slices_Equal_int_int.l0, show (i : Int) < (x.length : Int) by omega, show (i : Int) < (y.length : Int) by omega, show (0 : Int) ≤ (i : Int) by omega, if_true, of_decide_eq_true hP, wrap_id (n := (i : Int) + 1) (by omega) (by omega)]
   exact hr
  ·refine Ev.succ ?_
   simp only [slices_Equal_int_int.l0, show (i : Int) < (x.length : Int) by omega, show (i : Int) < (y.length : Int) by omega, show (0 : Int) ≤ (i : Int) by omega, if_true, of_decide_eq_false hP, if_false]
   exact Ev.now _
  ·refine Ev.succ ?_
   simp only [slices_Equal_int_int.l0, Int.lt_irrefl, if_false]
   exact Ev.now _
 ·simp only [show ¬ (x.length : Int) = (y.length : Int) by omega, if_false]
  exact evq (Ev.now _) (decide_eq_false (fun e => h (by rw [e]))).symm
theorem impl_StartOf_eq (l : List S71) (p : List S85) (hl : l.length ≤ 1048576) (hp : psOk p) (h : isPlan l p = true) (i : Nat) (hi : i < p.length) : Ev (fun k => impl_StartOf.f k l p (i : Int)) (sumP l p i 0) := by
 unfold impl_StartOf.f
 have hpl := impl_IsPlan_eq l p hl hp
 rw [h] at hpl
 refine Ev.bind hpl ?_
 have hlen := isPlan_len h
 simp only [if_true, show ¬ (i : Int) < 0 by omega, if_false, decide_eq_false (show ¬ (i : Int) ≥ (p.length : Int) by omega)]
 refine Ev.succ ?_
 simp only [impl_StartOf.j0, Bool.false_eq_true, if_false]
 have key : ∀ (d j : Nat) (a : Int), j + d = i → 0 ≤ a → a ≤ 65 * (j : Int) → Ev (fun k => impl_StartOf.l0 k l p a (i : Int) (j : Int)) (a + sumP l p d j) := by
  intro d
  induction d with
  | zero =>
   intro j a hj h0 h1
   refine Ev.succ ?_
   simp only [impl_StartOf.l0, show ¬ (j : Int) < (i : Int) by omega, if_false]
   exact evq (Ev.now _) (by simp [sumP])
  | succ d ih =>
   intro j a hj h0 h1
   refine Ev.succ ?_
   have hb := longP_bd h j (by omega)
   have next := ih (j + 1) (a + longP l p j) (by omega) (by omega) (by omega)
   rw [show ((j + 1 : Nat) : Int) = (j : Int) + 1 by omega] at next
   simp only [impl_StartOf.l0, show (j : Int) < (i : Int) by omega, if_true, wrap_id (n := (j : Int) + 1) (by omega) (by omega)]
   refine Ev.bind (impl_longOf_eq l p hl hp h j (by omega)) ?_
   rw [wrap_id (by omega) (by omega)]
   exact evq next (by rw [sumP_succ]; omega)
 simpa using key i 0 0 (by omega) (by omega) (by omega)
def swFrom (l : List S71) (a b : List S85) : Nat → Nat → List Int
 | 0, _ => []
 | n + 1, i => (if (rd_T85 a (i : Int)).f0 = (rd_T85 b 0).f0 then [sumP l a i 0] else []) ++ swFrom l a b n (i + 1)
theorem swFrom_len (l : List S71) (a b : List S85) : ∀ n i, (swFrom l a b n i).length ≤ n
 | 0, _ => Nat.le_refl _
 | n + 1, i => by
  have := swFrom_len l a b n (i + 1)
  unfold swFrom
  split
  ·simp; omega
  ·simp; omega
theorem swFrom_mem (l : List S71) (a b : List S85) (v : Int) : ∀ n i, v ∈ swFrom l a b n i → ∃ j, i ≤ j ∧ j < i + n ∧ v = sumP l a j 0
 | 0, _, h => by simp [swFrom] at h
 | n + 1, i, h => by
  unfold swFrom at h
  rcases List.mem_append.1 h with h | h
  ·split at h
   ·exact ⟨i, Nat.le_refl _, by omega, by simpa using h⟩
   ·simp at h
  ·obtain ⟨j, h1, h2, h3⟩ := swFrom_mem l a b v n (i + 1) h
   exact ⟨j, by omega, by omega, h3⟩
def switchSeconds (l : List S71) (a b : List S85) : List Int := if isPlan l a = true ∧ isPlan l b = true then swFrom l a b a.length 0 else []
theorem switchSeconds_le (l : List S71) (a b : List S85) : (switchSeconds l a b).length ≤ 6 := by
 unfold switchSeconds
 split
 ·rename_i h
  have := swFrom_len l a b a.length 0
  have := isPlan_len h.1
  omega
 ·simp
theorem impl_SwitchSeconds_eq (l : List S71) (a b : List S85) (hl : l.length ≤ 1048576) (ha : psOk a) (hb : psOk b) : Ev (fun k => impl_SwitchSeconds.f k l a b) (switchSeconds l a b) := by
 unfold impl_SwitchSeconds.f switchSeconds
 simp only [Option.bind_some]
 have jt : Ev (fun k => impl_SwitchSeconds.j0 k l a b [] true) [] := by
  refine Ev.succ ?_
  simp only [impl_SwitchSeconds.j0, if_true]; exact Ev.now _
 refine Ev.bind (impl_IsPlan_eq l a hl ha) ?_
 cases h1 : isPlan l a
 ·simp only [Bool.false_eq_true, if_false, false_and]; exact jt
 simp only [if_true]
 refine Ev.bind (impl_IsPlan_eq l b hl hb) ?_
 cases h2 : isPlan l b
 ·simp only [Bool.false_eq_true, if_false, and_false, Bool.not_false]; exact jt
 simp only [and_self, if_true, Bool.not_true]
 have hla := isPlan_len h1
 have hlb := isPlan_len h2
 have key : ∀ (d i : Nat) (o : List Int), i + d = a.length → o.length ≤ i → Ev (fun k => impl_SwitchSeconds.l0 k l a b o a (a.length : Int) (i : Int)) (o ++ swFrom l a b d i) := by
  intro d
  induction d with
  | zero =>
   intro i o hi ho
   refine Ev.succ ?_
   simp only [impl_SwitchSeconds.l0, show ¬ (i : Int) < (a.length : Int) by omega, if_false]
   exact evq (Ev.now _) (by simp [swFrom])
  | succ d ih =>
   intro i o hi ho
   refine Ev.succ ?_
   have hi2 : i < a.length := by omega
   simp only [impl_SwitchSeconds.l0, show (i : Int) < (a.length : Int) by omega, show (0 : Int) ≤ (i : Int) by omega, show (0 : Int) < (b.length : Int) by omega, if_true, wrap_id (n := (i : Int) + 1) (by omega) (by omega)]
   refine Ev.bind (slices_Equal_eq _ _ (by rw [rdT_Part _ _ hi2]; exact ha.2 _ (List.getElem_mem _))) ?_
   unfold swFrom
   by_cases c : (rd_T85 a (i : Int)).f0 = (rd_T85 b 0).f0
   ·simp only [decide_eq_true c, if_true]
    rw [if_pos c]
    refine Ev.bind (impl_StartOf_eq l a hl ha h1 i hi2) ?_
    simp only [show o.length < 17592186044416 by omega, if_true]
    have next := ih (i + 1) (o ++ [sumP l a i 0]) (by omega) (by rw [List.length_append, List.length_singleton]; omega)
    rw [show ((i + 1 : Nat) : Int) = (i : Int) + 1 by omega] at next
    exact evq next (by rw [List.append_assoc])
   ·simp only [decide_eq_false c, Bool.false_eq_true, if_false]
    rw [if_neg c, List.nil_append]
    have next := ih (i + 1) o (by omega) (by omega)
    rw [show ((i + 1 : Nat) : Int) = (i : Int) + 1 by omega] at next
    exact next
 refine Ev.succ ?_
 simp only [impl_SwitchSeconds.j0, Bool.false_eq_true, if_false]
 simpa using key a.length 0 [] (by omega) (by simp)
def canSwitch (l : List S71) (a b : List S85) : Bool := decide (((switchSeconds l a b).length : Int) > 0)
theorem impl_CanSwitch_eq (l : List S71) (a b : List S85) (hl : l.length ≤ 1048576) (ha : psOk a) (hb : psOk b) : Ev (fun k => impl_CanSwitch.f k l a b) (canSwitch l a b) := by
 unfold impl_CanSwitch.f canSwitch
 exact Ev.bind (impl_SwitchSeconds_eq l a b hl ha hb) (Ev.now _)
def findT (o : List Int) (c : Int) : Nat → Int → Int
 | 0, t => t
 | n + 1, t => if t % c ∈ o then t else findT o c n (t + 1)
def switchAt (l : List S71) (a b : List S85) (s : Int) : Int := if (switchSeconds l a b).length = 0 then -1 else if 0 ≤ s ∧ s ≤ 100000 then findT (switchSeconds l a b) (cycleP l a) 400 s else -1
theorem sumP_add (l : List S71) (p : List S85) : ∀ (m n i : Nat), sumP l p (m + n) i = sumP l p m i + sumP l p n (i + m)
 | 0, n, i => by simp [sumP]
 | m + 1, n, i => by
  rw [show m + 1 + n = (m + n) + 1 by omega]
  rw [sumP_succ, sumP_succ, sumP_add l p m n (i + 1), show i + 1 + m = i + (m + 1) by omega]
  omega
/-- From every second on one of those seconds comes within a cycle. -/
theorem switch_hit {l : List S71} {a b : List S85} (h : ¬ (switchSeconds l a b).length = 0) (s : Int) : isPlan l a = true ∧ ∃ m : Nat, m < 400 ∧ (s + (m : Int)) % cycleP l a ∈ switchSeconds l a b := by
 obtain ⟨v, hv⟩ : ∃ v, v ∈ switchSeconds l a b := by
  cases e : switchSeconds l a b with
  | nil => rw [e] at h; exact absurd rfl h
  | cons x xs => exact ⟨x, List.mem_cons_self⟩
 have hpl : isPlan l a = true := by
  unfold switchSeconds at hv
  split at hv
  ·rename_i c; exact c.1
  ·simp at hv
 have hc := cycleP_pos hpl
 have hvb : 0 ≤ v ∧ v < cycleP l a := by
  have hv2 := hv
  unfold switchSeconds at hv2
  split at hv2
  ·obtain ⟨j, h1, h2, h3⟩ := swFrom_mem l a b v _ _ hv2
   have e : cycleP l a = sumP l a a.length 0 := by unfold cycleP; rw [if_pos hpl]
   have e2 := sumP_add l a j (a.length - j) 0
   rw [show j + (a.length - j) = a.length by omega] at e2
   have b1 := sumP_bd hpl j 0 (by omega)
   have b2 := sumP_bd hpl (a.length - j) (0 + j) (by omega)
   omega
  ·simp at hv2
 refine ⟨hpl, ((v - s) % cycleP l a).toNat, ?_, ?_⟩
 ·have h1 := Int.emod_lt_of_pos (v - s) (show 0 < cycleP l a by omega)
  omega
 ·have h2 := Int.emod_nonneg (v - s) (show cycleP l a ≠ 0 by omega)
  rw [Int.toNat_of_nonneg h2]
  have e : (s + (v - s) % cycleP l a) % cycleP l a = v := by
   have h3 : (s + (v - s) % cycleP l a) % cycleP l a = (s + (v - s)) % cycleP l a := by
    rw [Int.add_emod s (v - s)]
    rw [Int.add_emod s ((v - s) % cycleP l a), Int.emod_emod_of_dvd _ (Int.dvd_refl _)]
   rw [h3, show s + (v - s) = v by omega]
   exact Int.emod_eq_of_lt hvb.1 hvb.2
  rw [e]; exact hv
theorem impl_SwitchAt_eq (l : List S71) (a b : List S85) (s : Int) (hl : l.length ≤ 1048576) (ha : psOk a) (hb : psOk b) : Ev (fun k => impl_SwitchAt.f k l a b s) (switchAt l a b s) := by
 unfold impl_SwitchAt.f switchAt
 have hlen := switchSeconds_le l a b
 have jt : ∀ o, Ev (fun k => impl_SwitchAt.j0 k l a s o true) (-1) := by
  intro o
  refine Ev.succ ?_
  simp only [impl_SwitchAt.j0, if_true]; exact Ev.now _
 refine Ev.bind (impl_SwitchSeconds_eq l a b hl ha hb) ?_
 by_cases h : (switchSeconds l a b).length = 0
 ·simp only [show ((switchSeconds l a b).length : Int) = 0 by omega, h, if_true]; exact jt _
 simp only [show ¬ ((switchSeconds l a b).length : Int) = 0 by omega, h, if_false, impl_InRange_eq, Option.bind_some]
 by_cases hs : 0 ≤ s ∧ s ≤ 100000
 ·rw [decide_eq_true hs, if_pos hs]
  refine Ev.succ ?_
  simp only [impl_SwitchAt.j0, Bool.not_true, Bool.false_eq_true, if_false]
  refine Ev.bind (impl_Cycle_eq l a hl ha) ?_
  obtain ⟨hpl, hit⟩ := switch_hit h s
  have hc := cycleP_pos hpl
  have key : ∀ (d : Nat) (t : Int), 0 ≤ t → t + d ≤ 200000 → (∃ m : Nat, m < d ∧ (t + (m : Int)) % cycleP l a ∈ switchSeconds l a b) → Ev (fun k => impl_SwitchAt.l0 k t (switchSeconds l a b) (cycleP l a)) (findT (switchSeconds l a b) (cycleP l a) d t) := by
   intro d
   induction d with
   | zero => intro t _ _ hm; obtain ⟨m, hm, _⟩ := hm; omega
   | succ d ih =>
    intro t h0 h1 hm
    refine Ev.succ ?_
    simp only [impl_SwitchAt.l0, show ¬ cycleP l a = 0 by omega, if_false, tmod_nn h0, wrap_id (n := t + 1) (by omega) (by omega)]
    refine Ev.bind (slices_Contains_eq _ _ (by omega)) ?_
    unfold findT
    by_cases c : t % cycleP l a ∈ switchSeconds l a b
    ·simp only [decide_eq_true c, if_true]; rw [if_pos c]; exact Ev.now _
    ·simp only [decide_eq_false c, Bool.false_eq_true, if_false]; rw [if_neg c]
     refine ih (t + 1) (by omega) (by omega) ?_
     obtain ⟨m, hm1, hm2⟩ := hm
     cases m with
     | zero => rw [show t + ((0 : Nat) : Int) = t by omega] at hm2; exact absurd hm2 c
     | succ m => exact ⟨m, by omega, by rw [show t + 1 + (m : Int) = t + ((m + 1 : Nat) : Int) by omega]; exact hm2⟩
  exact key 400 s hs.1 (by omega) hit
 ·rw [decide_eq_false hs, if_neg hs]
  exact jt _
/-- The light of a path at a second of a part. -/
def lightV (l : List S71) (p : List S85) (id : Int) (x : Int × Int) : Int :=
 if id ∈ (rd_T85 p x.1).f0 then
  (if x.2 < (rd_T85 p x.1).f1 ∨ id ∈ nextSt p x.1.toNat then 1
   else if x.2 < (rd_T85 p x.1).f1 + clrOf l id then 2 else 0)
 else 0
theorem lightAt_V (l : List S71) (p : List S85) (s id : Int) : lightAt l p s id = if findP l id < 0 then 0 else if (partAt l p s).1 < 0 then 0 else lightV l p id (partAt l p s) := rfl
def partsSum : List S85 → Int
 | [] => 0
 | x :: l => (x.f0.length : Int) + 1 + partsSum l
theorem impl_clonePlan_eq (l : List S85) (hl : psOk l) : Ev (fun k => impl_clonePlan.f k l) l := by
 unfold impl_clonePlan.f
 obtain ⟨hl, hx⟩ := hl
 have key : ∀ (d i : Nat), i + d = l.length → Ev (fun k => impl_clonePlan.l0 k (l.take i) l (l.length : Int) (i : Int)) l := by
  intro d
  induction d with
  | zero =>
   intro i hi
   refine Ev.succ ?_
   simp only [impl_clonePlan.l0, show ¬ (i : Int) < (l.length : Int) by omega, if_false]
   exact evq (Ev.now _) (List.take_of_length_le (by omega))
  | succ d ih =>
   intro i hi
   refine Ev.succ ?_
   have hi2 : i < l.length := by omega
   have hlen : (l.take i).length = i := by rw [List.length_take]; omega
   have hxi := hx _ (List.getElem_mem hi2)
   have hc : slices_Clone_int_int.f l[i].f0 = some l[i].f0 := by unfold slices_Clone_int_int.f; rw [if_pos (by omega)]
   simp only [impl_clonePlan.l0, show (i : Int) < (l.length : Int) by omega, show (0 : Int) ≤ (i : Int) by omega, if_true, rdT_Part _ _ hi2, hc, Option.bind_some, hlen, show i < 4398046511104 by omega, wrap_id (n := (i : Int) + 1) (by omega) (by omega)]
   have next := ih (i + 1) (by omega)
   rw [show ((i + 1 : Nat) : Int) = (i : Int) + 1 by omega, List.take_succ_eq_append_getElem hi2] at next
   exact next
 exact key l.length 0 (by omega)
theorem spec_l8Copy_eq (l : List S85) (hl : psOk l) : Ev (fun k => spec_l8Copy.f k l) l := by
 unfold spec_l8Copy.f
 obtain ⟨hl, hx⟩ := hl
 have key : ∀ (d i : Nat), i + d = l.length → Ev (fun k => spec_l8Copy.l0 k l (l.take i) (i : Int)) l := by
  intro d
  induction d with
  | zero =>
   intro i hi
   refine Ev.succ ?_
   simp only [spec_l8Copy.l0, show ¬ (i : Int) < (l.length : Int) by omega, if_false]
   exact evq (Ev.now _) (List.take_of_length_le (by omega))
  | succ d ih =>
   intro i hi
   refine Ev.succ ?_
   have hi2 : i < l.length := by omega
   have hlen : (l.take i).length = i := by rw [List.length_take]; omega
   have hxi := hx _ (List.getElem_mem hi2)
   simp only [spec_l8Copy.l0, show (i : Int) < (l.length : Int) by omega, show (0 : Int) ≤ (i : Int) by omega, if_true, rdT_Part _ _ hi2, Option.bind_some, List.length_nil, Nat.zero_add, show l[i].f0.length < 17592186044416 by omega, hlen, show i < 4398046511104 by omega, List.nil_append, wrap_id (n := (i : Int) + 1) (by omega) (by omega)]
   have next := ih (i + 1) (by omega)
   rw [show ((i + 1 : Nat) : Int) = (i : Int) + 1 by omega, List.take_succ_eq_append_getElem hi2] at next
   exact next
 exact key l.length 0 (by omega)
def rotP (p : List S85) (i : Int) : List S85 := if 0 ≤ i ∧ i < (p.length : Int) then p.drop i.toNat ++ p.take i.toNat else p
theorem rotP_length (p : List S85) (i : Int) : (rotP p i).length = p.length := by
 unfold rotP
 split
 ·rw [List.length_append, List.length_drop, List.length_take]; omega
 ·rfl
theorem rotP_mem {p : List S85} {i : Int} {x : S85} (h : x ∈ rotP p i) : x ∈ p := by
 unfold rotP at h
 split at h
 ·rcases List.mem_append.1 h with h | h
  ·exact List.mem_of_mem_drop h
  ·exact List.mem_of_mem_take h
 ·exact h
theorem rotP_ok {p : List S85} {i : Int} (h : psOk p) : psOk (rotP p i) := ⟨by rw [rotP_length]; exact h.1, fun x hx => h.2 x (rotP_mem hx)⟩
theorem partsSum_app : ∀ (a b : List S85), partsSum (a ++ b) = partsSum a + partsSum b
 | [], b => by show partsSum b = 0 + partsSum b; omega
 | x :: a, b => by
  have := partsSum_app a b
  show (x.f0.length : Int) + 1 + partsSum (a ++ b) = (x.f0.length : Int) + 1 + partsSum a + partsSum b
  omega
theorem rotP_sum (p : List S85) (i : Int) : partsSum (rotP p i) = partsSum p := by
 unfold rotP
 split
 ·have h := partsSum_app (p.take i.toNat) (p.drop i.toNat)
  rw [List.take_append_drop] at h
  rw [partsSum_app, h]; omega
 ·rfl
theorem impl_RotatePlan_eq (p : List S85) (i : Int) (hp : psOk p) : Ev (fun k => impl_RotatePlan.f k p i) (rotP p i) := by
 unfold impl_RotatePlan.f rotP
 refine Ev.bind (impl_clonePlan_eq p hp) ?_
 have hl := hp.1
 refine Ev.ifp (by omega) ?_
 by_cases h0 : 0 ≤ i
 ·by_cases h1 : i < (p.length : Int)
  ·rw [if_pos h0, if_pos h1, if_pos (by omega), if_pos ⟨h0, h1⟩]; exact Ev.now _
  ·rw [if_pos h0, if_neg h1, if_neg (fun h => h1 h.2)]; exact Ev.now _
 ·rw [if_neg h0, if_neg (fun h => h0 h.1)]; exact Ev.now _
theorem spec_RotatePlan_eq (p : List S85) (i : Int) (hp : psOk p) : Ev (fun k => spec_RotatePlan.f k p i) (rotP p i) := by
 unfold spec_RotatePlan.f rotP
 have hl := hp.1
 rw [wrap_id (by omega) (by omega)]
 simp only [spec_l1In_eq, Option.bind_some]
 by_cases h : 0 ≤ i ∧ i < (p.length : Int)
 ·rw [decide_eq_true (show 0 ≤ i ∧ i ≤ (p.length : Int) - 1 by omega), if_pos h]
  simp only [if_true, h.1, show i ≤ (p.length : Int) by omega]
  refine Ev.bind (spec_l8Copy_eq _ ⟨by rw [List.length_drop]; omega, fun x hx => hp.2 x (List.mem_of_mem_drop hx)⟩) ?_
  refine Ev.bind (spec_l8Copy_eq _ ⟨by rw [List.length_take]; omega, fun x hx => hp.2 x (List.mem_of_mem_take hx)⟩) ?_
  refine Ev.ifp (by rw [List.length_drop, List.length_take]; omega) ?_
  exact Ev.now _
 ·rw [decide_eq_false (show ¬ (0 ≤ i ∧ i ≤ (p.length : Int) - 1) by omega), if_neg h]
  simp only [Bool.false_eq_true, if_false]
  refine Ev.bind (spec_l8Copy_eq p hp) ?_
  exact Ev.now _
def makeFrom (l : List S71) (a b : List S85) : Nat → Nat → List S85 × Bool
 | 0, _ => (b, false)
 | n + 1, i => if canSwitch l a (rotP b (i : Int)) = true then (rotP b (i : Int), true) else makeFrom l a b n (i + 1)
def makeSwitch (l : List S71) (a b : List S85) : List S85 × Bool := makeFrom l a b b.length 0
theorem makeFrom_ok (l : List S71) (a : List S85) {b : List S85} (hb : psOk b) : ∀ n i, psOk (makeFrom l a b n i).1 ∧ partsSum (makeFrom l a b n i).1 = partsSum b ∧ (makeFrom l a b n i).1.length = b.length
 | 0, _ => ⟨hb, rfl, rfl⟩
 | n + 1, i => by
  unfold makeFrom
  split
  ·exact ⟨rotP_ok hb, rotP_sum b i, rotP_length b i⟩
  ·exact makeFrom_ok l a hb n (i + 1)
theorem impl_MakeSwitch_eq (l : List S71) (a b : List S85) (hl : l.length ≤ 1048576) (ha : psOk a) (hb : psOk b) : Ev (fun k => impl_MakeSwitch.f k l a b) (makeSwitch l a b) := by
 unfold impl_MakeSwitch.f makeSwitch
 have hbl := hb.1
 have key : ∀ (d i : Nat), i + d = b.length → Ev (fun k => impl_MakeSwitch.l0 k l a b (b.length : Int) (i : Int)) (makeFrom l a b d i) := by
  intro d
  induction d with
  | zero =>
   intro i hi
   refine Ev.succ ?_
   simp only [impl_MakeSwitch.l0, show ¬ (i : Int) < (b.length : Int) by omega, if_false]
   refine Ev.bind (impl_clonePlan_eq b hb) ?_
   exact Ev.now _
  | succ d ih =>
   intro i hi
   refine Ev.succ ?_
   have next := ih (i + 1) (by omega)
   rw [show ((i + 1 : Nat) : Int) = (i : Int) + 1 by omega] at next
   simp only [impl_MakeSwitch.l0, show (i : Int) < (b.length : Int) by omega, if_true, wrap_id (n := (i : Int) + 1) (by omega) (by omega)]
   refine Ev.bind (impl_RotatePlan_eq b (i : Int) hb) ?_
   refine Ev.bind (impl_CanSwitch_eq l a _ hl ha (rotP_ok hb)) ?_
   unfold makeFrom
   cases canSwitch l a (rotP b (i : Int))
   ·simp only [Bool.false_eq_true, if_false]; exact next
   ·simp only [if_true]; exact Ev.now _
 exact key b.length 0 (by omega)
theorem EvP.ofT {α : Type} {g : Nat → Option α} {v : α} (e : Ev g v) : EvP g (fun _ => True) := EvP.of e trivial
theorem EvP.ofE {α : Type} {g : Nat → Option α} {v : α} (e : Ev g v) : EvP g (fun t => t = v) := EvP.of e rfl
theorem spec_AddToStage_ok (l : List S71) (v : List Int) (hl : l.length ≤ 100) (hv : v.length ≤ 100) : EvP (fun k => spec_AddToStage.f k l v) (fun t => t.length ≤ v.length + l.length) := by
 unfold spec_AddToStage.f
 simp only [Option.bind_some, List.length_nil, Nat.zero_add, show v.length < 17592186044416 by omega, if_true, List.nil_append]
 have jf : ∀ (o : List Int) (i : Int), o.length ≤ v.length + l.length → EvP (fun k => spec_AddToStage.j1 k l v o i false) (fun t => t.length ≤ v.length + l.length) := by
  intro o i ho
  refine EvP.succ ?_
  simp only [spec_AddToStage.j1, Bool.false_eq_true, if_false]
  exact EvP.now ho
 have key : ∀ (d i : Nat) (o : List Int), i + d = l.length → o.length ≤ v.length + i → EvP (fun k => spec_AddToStage.l0 k l v o (i : Int)) (fun t => t.length ≤ v.length + l.length) := by
  intro d
  induction d with
  | zero =>
   intro i o hi ho
   refine EvP.succ ?_
   simp only [spec_AddToStage.l0, show ¬ (i : Int) < (l.length : Int) by omega, if_false]
   exact jf _ _ (by omega)
  | succ d ih =>
   intro i o hi ho
   refine EvP.succ ?_
   have hi2 : i < l.length := by omega
   simp only [spec_AddToStage.l0, show (i : Int) < (l.length : Int) by omega, if_true]
   refine EvP.bind (EvP.ofT (spec_IsTogether_eq l v (by omega) (by omega))) (fun b _ => ?_)
   cases b
   ·exact jf _ _ (by omega)
   refine EvP.succ ?_
   simp only [spec_AddToStage.j1, show (i : Int) < (l.length : Int) by omega, show (0 : Int) ≤ (i : Int) by omega, if_true, wrap_id (n := (i : Int) + 1) (by omega) (by omega)]
   refine EvP.bind (EvP.ofE (spec_l6Put_eq o _ (by omega))) (fun t ht => ?_)
   have htl : t.length ≤ o.length + 1 := by rw [ht]; exact put_length _ _
   refine EvP.bind (EvP.ofT (spec_IsTogether_eq l t (by omega) (by omega))) (fun b _ => ?_)
   have n1 := ih (i + 1) t (by omega) (by omega)
   have n2 := ih (i + 1) o (by omega) (by omega)
   rw [show ((i + 1 : Nat) : Int) = (i : Int) + 1 by omega] at n1 n2
   cases b
   ·simp only [Bool.false_eq_true, if_false]; exact n2
   ·simp only [if_true]; exact n1
 exact key l.length 0 v (by omega) (by omega)
def covOk (n : Nat) (st : List (List Int)) : Prop := st.length ≤ n ∧ ∀ s ∈ st, s.length ≤ 101
theorem spec_CoverOf_ok (l : List S71) (hl : l.length ≤ 100) : EvP (fun k => spec_CoverOf.f k l) (covOk l.length) := by
 unfold spec_CoverOf.f
 have jf : ∀ (o : List (List Int)) (dn : List Int) (i : Int), covOk l.length o → EvP (fun k => spec_CoverOf.j1 k l o dn i false) (covOk l.length) := by
  intro o dn i ho
  refine EvP.succ ?_
  simp only [spec_CoverOf.j1, Bool.false_eq_true, if_false]
  exact EvP.now ho
 have key : ∀ (d i : Nat) (o : List (List Int)) (dn : List Int), i + d = l.length → covOk i o → dn.length ≤ 101 * i → EvP (fun k => spec_CoverOf.l0 k l o dn (i : Int)) (covOk l.length) := by
  intro d
  induction d with
  | zero =>
   intro i o dn hi ho hd
   refine EvP.succ ?_
   simp only [spec_CoverOf.l0, show ¬ (i : Int) < (l.length : Int) by omega, if_false]
   exact jf _ _ _ ⟨by have := ho.1; omega, ho.2⟩
  | succ d ih =>
   intro i o dn hi ho hd
   refine EvP.succ ?_
   have hi2 : i < l.length := by omega
   simp only [spec_CoverOf.l0, show (i : Int) < (l.length : Int) by omega, if_true]
   refine EvP.bind (EvP.ofT (spec_ArePaths_eq l (by omega))) (fun b _ => ?_)
   cases b
   ·exact jf _ _ _ ⟨by have := ho.1; omega, ho.2⟩
   refine EvP.succ ?_
   simp only [spec_CoverOf.j1, show (i : Int) < (l.length : Int) by omega, show (0 : Int) ≤ (i : Int) by omega, if_true, wrap_id (n := (i : Int) + 1) (by omega) (by omega)]
   refine EvP.bind (EvP.ofT (spec_l6Has_eq dn _ (by omega))) (fun b _ => ?_)
   refine EvP.ifd (fun _ => ?_) (fun _ => ?_)
   ·have next := ih (i + 1) o dn (by omega) ⟨by have := ho.1; omega, ho.2⟩ (by omega)
    rw [show ((i + 1 : Nat) : Int) = (i : Int) + 1 by omega] at next
    exact next
   refine EvP.bind (spec_AddToStage_ok l [_] hl (by simp)) (fun s hs => ?_)
   have hsl : s.length ≤ 101 := by rw [List.length_singleton] at hs; omega
   have ho1 := ho.1
   simp only [show o.length < 5864062014805 by omega, if_true]
   have ho' : covOk (i + 1) (o ++ [s]) := ⟨by rw [List.length_append, List.length_singleton]; omega, fun x hx => by
    rcases List.mem_append.1 hx with h | h
    ·exact ho.2 x h
    ·rw [List.mem_singleton.1 h]; exact hsl⟩
   have inner : ∀ (e j : Nat) (dn : List Int), j + e = s.length → dn.length ≤ 101 * i + j → EvP (fun k => spec_CoverOf.l1 k l (o ++ [s]) dn (i : Int) s (j : Int)) (covOk l.length) := by
    intro e
    induction e with
    | zero =>
     intro j dn hj hd
     refine EvP.succ ?_
     simp only [spec_CoverOf.l1, show ¬ (j : Int) < (s.length : Int) by omega, if_false, wrap_id (n := (i : Int) + 1) (by omega) (by omega)]
     have next := ih (i + 1) (o ++ [s]) dn (by omega) ho' (by omega)
     rw [show ((i + 1 : Nat) : Int) = (i : Int) + 1 by omega] at next
     exact next
    | succ e ihe =>
     intro j dn hj hd
     refine EvP.succ ?_
     simp only [spec_CoverOf.l1, show (j : Int) < (s.length : Int) by omega, show (0 : Int) ≤ (j : Int) by omega, if_true, wrap_id (n := (j : Int) + 1) (by omega) (by omega)]
     refine EvP.bind (EvP.ofE (spec_l6Put_eq dn _ (by omega))) (fun t ht => ?_)
     have htl : t.length ≤ dn.length + 1 := by rw [ht]; exact put_length _ _
     have next := ihe (j + 1) t (by omega) (by omega)
     rw [show ((j + 1 : Nat) : Int) = (j : Int) + 1 by omega] at next
     exact next
   exact inner s.length 0 dn (by omega) (by omega)
 exact key l.length 0 [] [] (by omega) ⟨by simp, by simp⟩ (by simp)
/-- What the draw's plans are made of: not many parts, no empty stage. -/
def fair (p : List S85) : Prop := p.length ≤ 100 ∧ ∀ x ∈ p, 1 ≤ x.f0.length ∧ x.f0.length ≤ 101
theorem fair_nil : fair [] := ⟨by simp, by simp⟩
theorem fair_ok {p : List S85} (h : fair p) : psOk p := ⟨by have := h.1; omega, fun x hx => by have := h.2 x hx; omega⟩
theorem spec_PlanFor_ok (l : List S71) (hl : l.length ≤ 100) : EvP (fun k => spec_PlanFor.f k l) fair := by
 unfold spec_PlanFor.f
 refine EvP.bind (spec_CoverOf_ok l hl) (fun st hst => ?_)
 obtain ⟨h1, h2⟩ := hst
 have key : ∀ (d i : Nat) (p : List S85), i + d = st.length → p.length = i → (∀ x ∈ p, x.f0.length ≤ 101) → EvP (fun k => spec_PlanFor.l0 k l p st (i : Int)) fair := by
  intro d
  induction d with
  | zero =>
   intro i p hi hp hx
   refine EvP.succ ?_
   simp only [spec_PlanFor.l0, show ¬ (i : Int) < (st.length : Int) by omega, if_false]
   refine EvP.bind (EvP.ofE (spec_IsPlan_eq l p (by omega) ⟨by omega, fun x h => by have := hx x h; omega⟩)) (fun b hb => ?_)
   refine EvP.ifd (fun h => ?_) (fun _ => EvP.now fair_nil)
   refine EvP.now ⟨by omega, fun x hxm => ⟨?_, hx x hxm⟩⟩
   rw [h] at hb
   have hpl := hb.symm
   unfold isPlan at hpl
   simp only [Bool.and_eq_true, List.all_eq_true] at hpl
   have := hpl.2.1 x hxm
   unfold partOk at this
   simp only [Bool.and_eq_true, Bool.not_eq_true', decide_eq_false_iff_not] at this
   omega
  | succ d ih =>
   intro i p hi hp hx
   refine EvP.succ ?_
   have hi2 : i < st.length := by omega
   have hs := h2 _ (List.getElem_mem hi2)
   simp only [spec_PlanFor.l0, show (i : Int) < (st.length : Int) by omega, show (0 : Int) ≤ (i : Int) by omega, if_true, rdL2 _ _ hi2, show p.length < 4398046511104 by omega, wrap_id (n := (i : Int) + 1) (by omega) (by omega)]
   refine EvP.bind (EvP.ofT (spec_LeastGreen_eq l _ (by omega) (by omega))) (fun g _ => ?_)
   have next := ih (i + 1) (p ++ [(⟨st[i], g⟩ : S85)]) (by omega) (by rw [List.length_append, List.length_singleton]; omega) (fun x h => by
    rcases List.mem_append.1 h with h | h
    ·exact hx x h
    ·rw [List.mem_singleton.1 h]; exact hs)
   rw [show ((i + 1 : Nat) : Int) = (i : Int) + 1 by omega] at next
   exact next
 exact key st.length 0 [] (by omega) rfl (by simp)
theorem fair_set {p : List S85} (h : fair p) (i : Nat) (x : S85) (hx : 1 ≤ x.f0.length ∧ x.f0.length ≤ 101) : fair (p.set i x) := ⟨by rw [List.length_set]; exact h.1, fun y hy => by
 rcases List.mem_or_eq_of_mem_set hy with h2 | h2
 ·exact h.2 y h2
 ·rw [h2]; exact hx⟩
theorem spec_l8Draw_ok (b : List Int) (i h : Int) (hc : Cur b i) : EvP (fun k => spec_l8Draw.f k b i h) (fun t => t.1.length ≤ 7 ∧ fair t.2.1 ∧ Cur b t.2.2.1) := by
 unfold spec_l8Draw.f
 refine EvP.bind (spec_l5Draw_ok b i h hc) (fun t ht => ?_)
 refine EvP.bind (spec_PlanFor_ok t.1 (by have := ht.2.1; omega)) (fun p hp => ?_)
 have l1 : ∀ (l : List S71), l.length ≤ 7 → ∀ (d j : Nat) (p : List S85) (i h : Int), j + d = p.length → fair p → Cur b i → EvP (fun k => spec_l8Draw.l1 k l p (j : Int) b i h) (fun t => t.1.length ≤ 7 ∧ fair t.2.1 ∧ Cur b t.2.2.1) := by
  intro l hl d
  induction d with
  | zero =>
   intro j p i h hj hp hc
   refine EvP.succ ?_
   simp only [spec_l8Draw.l1, show ¬ (j : Int) < (p.length : Int) by omega, if_false]
   exact EvP.now ⟨hl, hp, hc⟩
  | succ d ih =>
   intro j p i h hj hp hc
   refine EvP.succ ?_
   have hp1 := hp.1
   have hj2 : j < p.length := by omega
   simp only [spec_l8Draw.l1, show (j : Int) < (p.length : Int) by omega, show (0 : Int) ≤ (j : Int) by omega, if_true, rdT_Part _ _ hj2, Int.toNat_natCast, wrap_id (n := (j : Int) + 1) (by omega) (by omega)]
   refine EvP.bindD (spec_l1Below_ok b _ _ _ hc) (fun t1 h1 => ?_)
   have next := ih (j + 1) (p.set j (⟨p[j].f0, wrap64 (p[j].f1 + t1.1)⟩ : S85)) t1.2.1 t1.2.2 (by rw [List.length_set]; omega) (fair_set hp j _ (show 1 ≤ p[j].f0.length ∧ p[j].f0.length ≤ 101 from hp.2 _ (List.getElem_mem hj2))) h1.2.2
   rw [show ((j + 1 : Nat) : Int) = (j : Int) + 1 by omega] at next
   exact next
 have l0 : ∀ (d m : Nat) (l : List S71) (p : List S85) (i h : Int), m + d = 4 → l.length ≤ 7 → fair p → Cur b i → EvP (fun k => spec_l8Draw.l0 k l p (m : Int) b i h) (fun t => t.1.length ≤ 7 ∧ fair t.2.1 ∧ Cur b t.2.2.1) := by
  have jf : ∀ (l : List S71) (p : List S85) (m i h : Int), l.length ≤ 7 → fair p → Cur b i → EvP (fun k => spec_l8Draw.j1 k l p m false b i h) (fun t => t.1.length ≤ 7 ∧ fair t.2.1 ∧ Cur b t.2.2.1) := by
   intro l p m i h hl hp hc
   refine EvP.succ ?_
   simp only [spec_l8Draw.j1, Bool.false_eq_true, if_false]
   exact l1 l hl p.length 0 p i h (by omega) hp hc
  intro d
  induction d with
  | zero =>
   intro m l p i h hm hl hp hc
   refine EvP.succ ?_
   simp only [spec_l8Draw.l0, show ¬ (m : Int) < 4 by omega, if_false]
   exact jf _ _ _ _ _ hl hp hc
  | succ d ih =>
   intro m l p i h hm hl hp hc
   refine EvP.succ ?_
   simp only [spec_l8Draw.l0, show (m : Int) < 4 by omega, if_true]
   cases ((p.length : Int) == 0)
   ·exact jf _ _ _ _ _ hl hp hc
   refine EvP.succ ?_
   simp only [spec_l8Draw.j1, if_true, wrap_id (n := (m : Int) + 1) (by omega) (by omega)]
   refine EvP.bind (spec_l5Draw_ok b i h hc) (fun t ht => ?_)
   refine EvP.bind (spec_PlanFor_ok t.1 (by have := ht.2.1; omega)) (fun q hq => ?_)
   have next := ih (m + 1) t.1 q t.2.1 t.2.2 (by omega) ht.2.1 hq ht.2.2
   rw [show ((m + 1 : Nat) : Int) = (m : Int) + 1 by omega] at next
   exact next
 exact l0 4 0 t.1 p _ _ rfl ht.2.1 hp ht.2.2
theorem spec_l8Any_ok (b : List Int) (i h : Int) (hc : Cur b i) : EvP (fun k => spec_l8Any.f k b i h) (fun t => t.1.length ≤ 7 ∧ psOk t.2.1 ∧ Cur b t.2.2.1) := by
 unfold spec_l8Any.f
 refine EvP.bind (spec_l8Draw_ok b i h hc) (fun t ht => ?_)
 obtain ⟨hl, hp, hc⟩ := ht
 have hp1 := hp.1
 refine EvP.ifd (fun _ => EvP.now ⟨hl, fair_ok hp, hc⟩) (fun hn => ?_)
 refine EvP.bindD (spec_l1Below_ok b _ _ _ hc) (fun t1 h1 => ?_)
 obtain ⟨p1, p2⟩ := h1.2.1 (by omega)
 obtain ⟨j, hj⟩ := Int.eq_ofNat_of_zero_le p1
 have hj2 : j < t.2.1.length := by omega
 have hst := hp.2 _ (List.getElem_mem hj2)
 refine EvP.bindD (spec_l1Below_ok b _ _ _ h1.2.2) (fun t2 h2 => ?_)
 refine EvP.ifd (fun _ => ?_) (fun _ => ?_)
 ·refine EvP.bindD (spec_l1Int_cur b _ _ _ h2.2.2 (by simp)) (fun t3 h3 => ?_)
  simp only [p1, p2, if_true]
  rw [hj, rdT_Part _ _ hj2]
  exact EvP.now ⟨hl, fair_ok (fair_set hp _ _ hst), h3⟩
 refine EvP.ifd (fun _ => ?_) (fun _ => ?_)
 ·simp only [p1, p2, if_true]
  rw [hj, rdT_Part _ _ hj2]
  simp only [show (1 : Int) ≤ (t.2.1[j].f0.length : Int) by omega, if_true]
  refine EvP.now ⟨hl, ?_, h2.2.2⟩
  refine ⟨by rw [List.length_set]; omega, fun x hx => ?_⟩
  rcases List.mem_or_eq_of_mem_set hx with h | h
  ·have := hp.2 x h; omega
  ·rw [h]; show (List.drop 1 _).length ≤ _; rw [List.length_drop]; omega
 refine EvP.ifd (fun _ => ?_) (fun _ => ?_)
 ·refine EvP.bind (spec_l5Any_ok b _ _ h2.2.2) (fun t3 h3 => ?_)
  exact EvP.now ⟨h3.1, fair_ok hp, h3.2⟩
 refine EvP.ifd (fun _ => ?_) (fun _ => EvP.now ⟨hl, fair_ok hp, h2.2.2⟩)
 simp only [show (1 : Int) ≤ (t.2.1.length : Int) by omega, if_true]
 refine EvP.now ⟨hl, ⟨?_, fun x hx => ?_⟩, h2.2.2⟩
 ·show (List.drop 1 _).length ≤ _; rw [List.length_drop]; omega
 ·have := hp.2 x (List.mem_of_mem_drop hx); omega
theorem psOk_set {p : List S85} (h : psOk p) (i : Nat) (x : S85) (hx : x.f0.length ≤ 1048576) : psOk (p.set i x) := ⟨by rw [List.length_set]; exact h.1, fun y hy => by
 rcases List.mem_or_eq_of_mem_set hy with h2 | h2
 ·exact h.2 y h2
 ·rw [h2]; exact hx⟩
theorem spec_l18Two_ok (b : List Int) (i h : Int) (hc : Cur b i) : EvP (fun k => spec_l18Two.f k b i h) (fun t => t.1.length ≤ 7 ∧ psOk t.2.1 ∧ psOk t.2.2.1 ∧ Cur b t.2.2.2.1) := by
 unfold spec_l18Two.f
 refine EvP.bind (spec_l8Any_ok b i h hc) (fun t ht => ?_)
 obtain ⟨l, a, i1, h1⟩ := t
 obtain ⟨hl, ha, hc1⟩ := ht
 dsimp only at hl ha hc1 ⊢
 refine EvP.bind (EvP.ofE (spec_l8Copy_eq a ha)) (fun p0 hp0 => ?_)
 have j2 : ∀ (p : List S85) (i h : Int), psOk p → Cur b i → EvP (fun k => spec_l18Two.j2 k l a p b i h) (fun t => t.1.length ≤ 7 ∧ psOk t.2.1 ∧ psOk t.2.2.1 ∧ Cur b t.2.2.2.1) := by
  intro p i h hp hc
  refine EvP.succ ?_
  simp only [spec_l18Two.j2]
  refine EvP.bindD (spec_l1Once_ok b i h _ hc) (fun t1 g1 => ?_)
  refine EvP.ifd (fun _ => ?_) (fun _ => ?_)
  ·refine EvP.bind (spec_PlanFor_ok l (by omega)) (fun q hq => ?_)
   exact EvP.now ⟨hl, ha, fair_ok hq, g1⟩
  ·exact EvP.now ⟨hl, ha, hp, g1⟩
 have j1 : ∀ (p : List S85) (o : Bool) (i h : Int), psOk p → Cur b i → EvP (fun k => spec_l18Two.j1 k l a p o b i h) (fun t => t.1.length ≤ 7 ∧ psOk t.2.1 ∧ psOk t.2.2.1 ∧ Cur b t.2.2.2.1) := by
  intro p o i h hp hc
  refine EvP.succ ?_
  simp only [spec_l18Two.j1]
  refine EvP.ifd (fun _ => ?_) (fun _ => j2 p i h hp hc)
  refine EvP.bindD (spec_l1Below_ok b i h _ hc) (fun t1 g1 => ?_)
  refine EvP.bind (EvP.ofE (spec_RotatePlan_eq p t1.1 hp)) (fun q hq => ?_)
  exact j2 q _ _ (by rw [hq]; exact rotP_ok hp) g1.2.2
 have key : ∀ (d j : Nat) (p : List S85) (i h : Int), j + d = p.length → psOk p → Cur b i → EvP (fun k => spec_l18Two.l0 k l a p (j : Int) b i h) (fun t => t.1.length ≤ 7 ∧ psOk t.2.1 ∧ psOk t.2.2.1 ∧ Cur b t.2.2.2.1) := by
  intro d
  induction d with
  | zero =>
   intro j p i h hj hp hc
   refine EvP.succ ?_
   simp only [spec_l18Two.l0, show ¬ (j : Int) < (p.length : Int) by omega, if_false]
   refine EvP.ifd (fun _ => ?_) (fun _ => j1 p _ i h hp hc)
   refine EvP.bindD (spec_l1Once_ok b i h _ hc) (fun t1 g1 => ?_)
   exact j1 p _ _ _ hp g1
  | succ d ih =>
   intro j p i h hj hp hc
   refine EvP.succ ?_
   have hp1 := hp.1
   have hj2 : j < p.length := by omega
   simp only [spec_l18Two.l0, show (j : Int) < (p.length : Int) by omega, show (0 : Int) ≤ (j : Int) by omega, if_true, rdT_Part _ _ hj2, Int.toNat_natCast, spec_Min_eq, spec_Max_eq, Option.bind_some, wrap_id (n := (j : Int) + 1) (by omega) (by omega)]
   refine EvP.bindD (spec_l1Below_ok b i h _ hc) (fun t1 g1 => ?_)
   have next := ih (j + 1) (p.set j (⟨p[j].f0, min 60 (max 7 (wrap64 (min 60 p[j].f1 + t1.1)))⟩ : S85)) t1.2.1 t1.2.2 (by rw [List.length_set]; omega) (psOk_set hp j _ (show p[j].f0.length ≤ 1048576 from hp.2 _ (List.getElem_mem hj2))) g1.2.2
   rw [show ((j + 1 : Nat) : Int) = (j : Int) + 1 by omega] at next
   exact next
 exact key p0.length 0 p0 i1 h1 (by omega) (by rw [hp0]; exact ha) hc1
theorem spec_DrawSwitchSeconds_ok (l : List Int) (hl : l.length ≤ 1048576) : EvP (fun k => spec_DrawSwitchSeconds.f k l) (fun t => t.1.length ≤ 7 ∧ psOk t.2.1 ∧ psOk t.2.2) := by
 unfold spec_DrawSwitchSeconds.f
 refine EvP.bind (spec_l1New_ok l hl) (fun t ht => ?_)
 refine EvP.bind (spec_l18Two_ok _ _ _ ht.2) (fun t1 h1 => ?_)
 exact EvP.now ⟨h1.1, h1.2.1, h1.2.2.1⟩
theorem spec_DrawSwitchAt_ok (l : List Int) (hl : l.length ≤ 1048576) : EvP (fun k => spec_DrawSwitchAt.f k l) (fun t => t.1.length ≤ 7 ∧ psOk t.2.1 ∧ psOk t.2.2.1) := by
 unfold spec_DrawSwitchAt.f
 refine EvP.bind (spec_DrawSwitchSeconds_ok l hl) (fun t ht => ?_)
 refine EvP.bind (spec_l1New_ok l hl) (fun t1 h1 => ?_)
 refine EvP.bindD (spec_l1Int_cur _ _ _ _ h1.2 (by simp)) (fun t2 _ => ?_)
 exact EvP.now ht
theorem spec_DrawRotatePlan_ok (l : List Int) (hl : l.length ≤ 1048576) : EvP (fun k => spec_DrawRotatePlan.f k l) (fun t => psOk t.1) := by
 unfold spec_DrawRotatePlan.f
 refine EvP.bind (spec_DrawSwitchSeconds_ok l hl) (fun t ht => ?_)
 refine EvP.bind (spec_l1New_ok l hl) (fun t1 h1 => ?_)
 refine EvP.bindD (spec_l1Below_ok _ _ _ _ h1.2) (fun t2 _ => ?_)
 exact EvP.now ht.2.1
theorem spec_DrawMakeSwitch_ok (l : List Int) (hl : l.length ≤ 1048576) : EvP (fun k => spec_DrawMakeSwitch.f k l) (fun t => t.1.length ≤ 7 ∧ psOk t.2.1 ∧ psOk t.2.2) := by
 unfold spec_DrawMakeSwitch.f
 refine EvP.bind (spec_DrawSwitchSeconds_ok l hl) (fun t ht => ?_)
 exact EvP.now ht
theorem laws_ascends_true (l : List Int) (hl : l.length ≤ 1048576) (h : ∀ i (hi : i + 1 < l.length), l[i]'(by omega) < l[i + 1]) : Ev (fun k => laws_ascends.f k l) true := by
 unfold laws_ascends.f
 have key : ∀ (d i : Nat), i + 1 + d = l.length → Ev (fun k => laws_ascends.l0 k l ((i : Int) + 1)) true := by
  intro d
  induction d with
  | zero =>
   intro i hi
   refine Ev.succ ?_
   simp only [laws_ascends.l0, show ¬ (i : Int) + 1 < (l.length : Int) by omega, if_false]
   exact Ev.now _
  | succ d ih =>
   intro i hi
   refine Ev.succ ?_
   have hlt := h i (by omega)
   have next := ih (i + 1) (by omega)
   rw [show ((i + 1 : Nat) : Int) = (i : Int) + 1 by omega] at next
   have r0 : rd l (i : Int) = l[i]'(by omega) := rd_nat _ _ _
   have r1 : rd l ((i : Int) + 1) = l[i + 1]'(by omega) := by rw [show (i : Int) + 1 = ((i + 1 : Nat) : Int) by omega]; exact rd_nat _ _ _
   simp only [laws_ascends.l0, show (i : Int) + 1 < (l.length : Int) by omega, if_true, wrap_id (n := (i : Int) + 1 - 1) (by omega) (by omega), show (i : Int) + 1 - 1 = (i : Int) by omega, wrap_id (n := (i : Int)) (by omega) (by omega), show (0 : Int) ≤ (i : Int) by omega, show (i : Int) < (l.length : Int) by omega, show (0 : Int) ≤ (i : Int) + 1 by omega, r0, r1, show ¬ l[i]'(by omega) ≥ l[i + 1]'(by omega) by omega, if_false, wrap_id (n := (i : Int) + 1 + 1) (by omega) (by omega)]
   exact next
 by_cases h0 : l.length = 0
 ·refine Ev.succ ?_
  simp only [laws_ascends.l0, h0, show ¬ (1 : Int) < ((0 : Nat) : Int) by omega, if_false]
  exact Ev.now _
 ·exact key (l.length - 1) 0 (by omega)
theorem swFrom_asc {l : List S71} {a b : List S85} (h : isPlan l a = true) : ∀ n i, i + n ≤ a.length → (swFrom l a b n i).Pairwise (· < ·)
 | 0, _, _ => List.Pairwise.nil
 | n + 1, i, hi => by
  have ih := swFrom_asc (b := b) h n (i + 1) (by omega)
  unfold swFrom
  split
  ·rw [List.singleton_append, List.pairwise_cons]
   refine ⟨fun v hv => ?_, ih⟩
   obtain ⟨j, h1, h2, h3⟩ := swFrom_mem l a b v _ _ hv
   have e := sumP_add l a i (j - i) 0
   rw [show i + (j - i) = j by omega] at e
   have b1 := sumP_bd h (j - i) (0 + i) (by omega)
   omega
  ·exact ih
theorem switchSeconds_asc (l : List S71) (a b : List S85) : ∀ i (hi : i + 1 < (switchSeconds l a b).length), (switchSeconds l a b)[i]'(by omega) < (switchSeconds l a b)[i + 1] := by
 intro i hi
 have hp : (switchSeconds l a b).Pairwise (· < ·) := by
  unfold switchSeconds
  split
  ·rename_i h; exact swFrom_asc h.1 _ _ (by omega)
  ·exact List.Pairwise.nil
 exact List.pairwise_iff_getElem.1 hp i (i + 1) (by omega) hi (by omega)
theorem ids_lt {l : List S71} (h : arePaths l = true) : ∀ (d i : Nat) (hd : i + d + 1 < l.length), (l[i]'(by omega)).f0 < (l[i + d + 1]).f0
 | 0, i, hd => arePaths_asc h i hd
 | d + 1, i, hd => by
  have h1 := ids_lt h d i (by omega)
  have h2 := arePaths_asc h (i + d + 1) (by omega)
  exact Int.lt_trans h1 h2
theorem findP_self {l : List S71} (h : arePaths l = true) (i : Nat) (hi : i < l.length) : findP l l[i].f0 = (i : Int) := by
 have h0 : 0 ≤ findP l l[i].f0 := Int.not_lt.1 (fun hn => findP_none hn _ (List.getElem_mem hi) rfl)
 obtain ⟨k, hk, e, he⟩ := findP_at h0
 rw [e]
 by_cases h1 : k < i
 ·have := ids_lt h (i - k - 1) k (by omega)
  have e2 : k + (i - k - 1) + 1 = i := by omega
  simp only [e2] at this
  omega
 ·by_cases h2 : i < k
  ·have := ids_lt h (k - i - 1) i (by omega)
   have e2 : i + (k - i - 1) + 1 = k := by omega
   simp only [e2] at this
   omega
  ·omega
theorem together_asc {l : List S71} {v : List Int} (h : together l v = true) : ∀ (d i : Nat), i + d + 1 < v.length → rd v (i : Int) < rd v ((i + d + 1 : Nat) : Int)
 | d, i, hd => by
  have step : ∀ j : Nat, j + 1 < v.length → rd v (j : Int) < rd v ((j + 1 : Nat) : Int) := by
   intro j hj
   have hh := h
   unfold together at hh
   simp only [Bool.and_eq_true, List.all_eq_true, List.mem_range] at hh
   have := hh.1 (j + 1) hj
   unfold tgAt at this
   simp only [Bool.and_eq_true, Bool.or_eq_true, decide_eq_true_eq, Bool.not_eq_true', decide_eq_false_iff_not, show ((j + 1 : Nat) : Int) - 1 = (j : Int) by omega] at this
   omega
  induction d with
  | zero => exact step i hd
  | succ d ih => exact Int.lt_trans (ih (by omega)) (step (i + d + 1) hd)
theorem together_conf {l : List S71} {v : List Int} (h : together l v = true) {x y : Int} (hx : x ∈ v) (hy : y ∈ v) (hlt : y < x) : confAt l x y = false := by
 obtain ⟨p, hp, ex⟩ := List.mem_iff_getElem.1 hx
 obtain ⟨q, hq, ey⟩ := List.mem_iff_getElem.1 hy
 have rx : rd v (p : Int) = x := by rw [rd_nat _ _ hp, ex]
 have ry : rd v (q : Int) = y := by rw [rd_nat _ _ hq, ey]
 have hqp : q < p := by
  refine Nat.lt_of_not_le (fun hle => ?_)
  by_cases e : p = q
  ·rw [e, ry] at rx; omega
  ·have := together_asc h (q - p - 1) p (by omega)
   rw [show p + (q - p - 1) + 1 = q by omega, rx, ry] at this
   omega
 have hh := h
 unfold together at hh
 simp only [Bool.and_eq_true, List.all_eq_true, List.mem_range] at hh
 have := hh.1 p hp
 unfold tgAt at this
 simp only [Bool.and_eq_true, List.all_eq_true, List.mem_range] at this
 have := this.2 q hqp
 rw [rx, ry] at this
 simpa using this
def lightsSafe (l : List S71) (x : List Int) : Prop := x.length = l.length ∧ (∀ i (hi : i < x.length), 0 ≤ x[i] ∧ x[i] ≤ 2) ∧ ∀ i j (hi : i < l.length) (hj : j < i), conflict l[i] (l[j]'(by omega)) = true → rd x (i : Int) = 0 ∨ rd x (j : Int) = 0
theorem impl_IsSafeLights_true (l : List S71) (x : List Int) (hl : l.length ≤ 1048576) (ha : arePaths l = true) (hs : lightsSafe l x) : Ev (fun k => impl_IsSafeLights.f k l x) true := by
 unfold impl_IsSafeLights.f
 obtain ⟨h1, h2, h3⟩ := hs
 refine Ev.bind (impl_ArePaths_eq l hl) ?_
 rw [ha, h1, bne_self_eq_false]
 simp only [if_true]
 refine Ev.succ ?_
 simp only [impl_IsSafeLights.j0, Bool.false_eq_true, if_false]
 have inner : ∀ (i : Nat) (hi : i < l.length), Ev (fun k => impl_IsSafeLights.l0 k l x l (l.length : Int) ((i : Int) + 1)) true → ∀ (d j : Nat), j + d = i → Ev (fun k => impl_IsSafeLights.l1 k l x (i : Int) l (l.length : Int) (i : Int) (l.take i) (i : Int) (j : Int) l[i].f0 l[i].f1 l[i].f2 l[i].f3) true := by
  intro i hi hr d
  have htl : (l.take i).length = i := by rw [List.length_take]; omega
  induction d with
  | zero =>
   intro j hj
   refine Ev.succ ?_
   simp only [impl_IsSafeLights.l1, show ¬ (j : Int) < (i : Int) by omega, if_false, wrap_id (n := (i : Int) + 1) (by omega) (by omega)]
   exact hr
  | succ d ih =>
   intro j hj
   refine Ev.succ ?_
   have next := ih (j + 1) (by omega)
   rw [show ((j + 1 : Nat) : Int) = (j : Int) + 1 by omega] at next
   have hj2 : j < (l.take i).length := by omega
   have hrd : rd_T71 (l.take i) (j : Int) = l[j]'(by omega) := by rw [rdT_Path _ _ hj2]; simp
   simp only [impl_IsSafeLights.l1, show (j : Int) < (i : Int) by omega, show (0 : Int) ≤ (j : Int) by omega, htl, if_true, hrd, wrap_id (n := (j : Int) + 1) (by omega) (by omega)]
   refine Ev.bind (impl_Conflict_eq _ _) ?_
   cases hcf : conflict l[i] (l[j]'(by omega))
   ·simp only [Bool.false_eq_true, if_false]; exact next
   ·simp only [if_true, show (0 : Int) ≤ (i : Int) by omega, show (i : Int) < (x.length : Int) by omega, show (j : Int) < (x.length : Int) by omega]
    rcases h3 i j hi (by omega) hcf with e | e
    ·exact Ev.ifp e next
    ·refine Ev.ifd (fun _ => next) (fun _ => ?_)
     exact Ev.ifp e next
 have key : ∀ (d i : Nat), i + d = l.length → Ev (fun k => impl_IsSafeLights.l0 k l x l (l.length : Int) (i : Int)) true := by
  intro d
  induction d with
  | zero =>
   intro i hi
   refine Ev.succ ?_
   simp only [impl_IsSafeLights.l0, show ¬ (i : Int) < (l.length : Int) by omega, if_false]
   exact Ev.now _
  | succ d ih =>
   intro i hi
   refine Ev.succ ?_
   have next := ih (i + 1) (by omega)
   rw [show ((i + 1 : Nat) : Int) = (i : Int) + 1 by omega] at next
   have hi2 : i < l.length := by omega
   have hx := h2 i (by omega)
   have htl : (l.take i).length = i := by rw [List.length_take]; omega
   have hrx : rd x (i : Int) = x[i]'(by omega) := rd_nat _ _ _
   simp only [impl_IsSafeLights.l0, show (i : Int) < (l.length : Int) by omega, show (0 : Int) ≤ (i : Int) by omega, show (i : Int) < (x.length : Int) by omega, if_true, impl_InRange_eq, Option.bind_some, hrx, hx, and_self, decide_true, show (i : Int) ≤ (l.length : Int) by omega, Int.toNat_natCast, htl, rdT_Path _ _ hi2]
   exact inner i hi2 next i 0 (by omega)
 exact key l.length 0 (by omega)
theorem lightV_bd (l : List S71) (p : List S85) (id : Int) (x : Int × Int) : 0 ≤ lightV l p id x ∧ lightV l p id x ≤ 2 := by
 unfold lightV
 split
 ·split
  ·omega
  ·split <;> omega
 ·omega
theorem lightV_in {l : List S71} {p : List S85} {id : Int} {x : Int × Int} (h : lightV l p id x ≠ 0) : id ∈ (rd_T85 p x.1).f0 := by
 refine Decidable.byContradiction (fun hn => h ?_)
 unfold lightV
 rw [if_neg hn]
/-- A plan's lights are safe at every second. -/
theorem plan_safe {l : List S71} {p : List S85} (h : isPlan l p = true) (s : Int) : lightsSafe l (l.map (fun x => lightAt l p s x.f0)) := by
 have ha : arePaths l = true := by
  have hcv := h
  unfold isPlan at hcv
  rw [Bool.and_eq_true, Bool.and_eq_true] at hcv
  have hcv := hcv.2.2
  unfold covers at hcv
  rw [Bool.and_eq_true] at hcv
  exact hcv.1
 refine ⟨by simp, fun i hi => ?_, fun i j hi hj hcf => ?_⟩
 ·rw [List.getElem_map, lightAt_V]
  split
  ·omega
  ·split
   ·omega
   ·exact lightV_bd ..
 ·rw [rd_nat _ _ (by rw [List.length_map]; exact hi), rd_nat _ _ (by rw [List.length_map]; omega), List.getElem_map, List.getElem_map]
  refine Decidable.byContradiction (fun hn => ?_)
  rw [not_or] at hn
  obtain ⟨n1, n2⟩ := hn
  rw [lightAt_V] at n1 n2
  split at n1
  ·exact n1 rfl
  split at n2
  ·exact n2 rfl
  rename_i f1 f2
  split at n1
  ·exact n1 rfl
  rename_i g
  rw [if_neg g] at n2
  obtain ⟨_, k, hk, ek, _⟩ := partAt_at (l := l) (p := p) (s := s) (by omega)
  have m1 := lightV_in n1
  have m2 := lightV_in n2
  rw [ek, rdT_Part p k hk] at m1 m2
  have htg : together l p[k].f0 = true := by
   have hpl := h
   unfold isPlan at hpl
   simp only [Bool.and_eq_true, List.all_eq_true] at hpl
   have := hpl.2.1 _ (List.getElem_mem hk)
   unfold partOk at this
   simp only [Bool.and_eq_true] at this
   exact this.2.1
  have hlt : (l[j]'(by omega)).f0 < l[i].f0 := by
   have := ids_lt ha (i - j - 1) j (by omega)
   have e2 : j + (i - j - 1) + 1 = i := by omega
   simp only [e2] at this
   exact this
  have hc := together_conf htg m1 m2 hlt
  unfold confAt at hc
  rw [findP_self ha i hi, findP_self ha j (by omega), rdT_Path _ _ hi, rdT_Path _ _ (by omega), hcf] at hc
  cases hc
theorem impl_EqualPlans_self (p : List S85) (hp : psOk p) : Ev (fun k => impl_EqualPlans.f k p p) true := by
 unfold impl_EqualPlans.f
 obtain ⟨hl, hx⟩ := hp
 simp only [if_true]
 have key : ∀ (d i : Nat), i + d = p.length → Ev (fun k => impl_EqualPlans.l0 k p p (i : Int)) true := by
  intro d
  induction d with
  | zero =>
   intro i hi
   refine Ev.succ ?_
   simp only [impl_EqualPlans.l0, show ¬ (i : Int) < (p.length : Int) by omega, if_false]
   exact Ev.now _
  | succ d ih =>
   intro i hi
   refine Ev.succ ?_
   have hi2 : i < p.length := by omega
   have next := ih (i + 1) (by omega)
   rw [show ((i + 1 : Nat) : Int) = (i : Int) + 1 by omega] at next
   have he := slices_Equal_eq p[i].f0 p[i].f0 (hx _ (List.getElem_mem hi2))
   rw [decide_eq_true rfl] at he
   simp only [impl_EqualPlans.l0, show (i : Int) < (p.length : Int) by omega, show (0 : Int) ≤ (i : Int) by omega, if_true, rdT_Part _ _ hi2, wrap_id (n := (i : Int) + 1) (by omega) (by omega)]
   refine Ev.bind he ?_
   simp only [if_true]
   exact next
 exact key p.length 0 (by omega)
theorem rotP_rot (p : List S85) (i : Int) (h0 : 0 ≤ i) (h1 : i < (p.length : Int)) : rotP (rotP p i) (((p.length : Int) - i) % (p.length : Int)) = p := by
 have hr : rotP p i = p.drop i.toNat ++ p.take i.toNat := by unfold rotP; rw [if_pos ⟨h0, h1⟩]
 have hl := rotP_length p i
 by_cases e : i = 0
 ·subst e
  rw [Int.sub_zero, Int.emod_self]
  rw [hr]
  simp only [Int.toNat_zero, List.drop_zero, List.take_zero, List.append_nil]
  unfold rotP
  split
  ·simp
  ·rfl
 ·rw [Int.emod_eq_of_lt (by omega) (by omega)]
  generalize hq : rotP p i = q at hr hl
  unfold rotP
  rw [if_pos (by omega), hr]
  have hd : (p.drop i.toNat).length = ((p.length : Int) - i).toNat := by rw [List.length_drop]; omega
  rw [← hd, List.drop_left, List.take_left, List.take_append_drop]
theorem rotP_zero (p : List S85) : rotP p 0 = p := by
 unfold rotP
 split
 ·simp
 ·rfl
theorem makeFrom_can (l : List S71) (a b : List S85) : ∀ n i, ((makeFrom l a b n i).2 = true → canSwitch l a (makeFrom l a b n i).1 = true) ∧ ((makeFrom l a b n i).2 = false → (makeFrom l a b n i).1 = b ∧ ∀ j : Nat, i ≤ j → j < i + n → canSwitch l a (rotP b (j : Int)) = false)
 | 0, i => ⟨fun h => (by cases h), fun _ => ⟨rfl, fun j h1 h2 => absurd h2 (by omega)⟩⟩
 | n + 1, i => by
  have ih := makeFrom_can l a b n (i + 1)
  unfold makeFrom
  split
  ·rename_i c
   exact ⟨fun _ => c, fun h => (by cases h)⟩
  ·rename_i c
   refine ⟨ih.1, fun h => ⟨(ih.2 h).1, fun j h1 h2 => ?_⟩⟩
   by_cases e : j = i
   ·rw [e]; simpa using c
   ·exact (ih.2 h).2 j (by omega) (by omega)
theorem makeSwitch_can (l : List S71) (a b : List S85) : (makeSwitch l a b).2 = canSwitch l a (makeSwitch l a b).1 := by
 have h := makeFrom_can l a b b.length 0
 unfold makeSwitch
 cases e : (makeFrom l a b b.length 0).2
 ·obtain ⟨h1, h2⟩ := h.2 e
  rw [h1]
  by_cases h0 : b.length = 0
  ·unfold canSwitch switchSeconds
   have hb : isPlan l b = false := by
    unfold isPlan
    rw [decide_eq_false (by omega)]; rfl
   rw [hb]
   simp
  ·have := h2 0 (by omega) (by omega)
   rw [Int.natCast_zero, rotP_zero] at this
   exact this.symm
 ·exact (h.1 e).symm
theorem findT_at (o : List Int) (c : Int) : ∀ (n : Nat) (t : Int), (∃ m : Nat, m < n ∧ (t + (m : Int)) % c ∈ o) → ∃ m0 : Nat, findT o c n t = t + (m0 : Int) ∧ (t + (m0 : Int)) % c ∈ o ∧ ∀ m : Nat, (t + (m : Int)) % c ∈ o → m0 ≤ m
 | 0, t, ⟨m, h, _⟩ => absurd h (by omega)
 | n + 1, t, ⟨m, h1, h2⟩ => by
  unfold findT
  by_cases h : t % c ∈ o
  ·rw [if_pos h]
   exact ⟨0, by omega, by rw [Int.natCast_zero, Int.add_zero]; exact h, fun m _ => Nat.zero_le m⟩
  ·rw [if_neg h]
   have hm : m ≠ 0 := fun e => h (by rw [e, Int.natCast_zero, Int.add_zero] at h2; exact h2)
   obtain ⟨m0, e1, e2, e3⟩ := findT_at o c n (t + 1) ⟨m - 1, by omega, by rw [show t + 1 + ((m - 1 : Nat) : Int) = t + (m : Int) by omega]; exact h2⟩
   refine ⟨m0 + 1, by omega, by rw [show t + ((m0 + 1 : Nat) : Int) = t + 1 + (m0 : Int) by omega]; exact e2, fun k hk => ?_⟩
   have hk0 : k ≠ 0 := fun e => h (by rw [e, Int.natCast_zero, Int.add_zero] at hk; exact hk)
   have := e3 (k - 1) (by rw [show t + 1 + ((k - 1 : Nat) : Int) = t + (k : Int) by omega]; exact hk)
   omega
theorem switchAt_at {l : List S71} {a b : List S85} {s : Int} (h : ¬ (switchSeconds l a b).length = 0) (hs : 0 ≤ s ∧ s ≤ 100000) : isPlan l a = true ∧ isPlan l b = true ∧ s ≤ switchAt l a b s ∧ switchAt l a b s - s < cycleP l a ∧ switchAt l a b s % cycleP l a ∈ switchSeconds l a b := by
 obtain ⟨hpl, m, hm1, hm2⟩ := switch_hit h s
 have hpb : isPlan l b = true := by
  refine Decidable.byContradiction (fun hn => h ?_)
  unfold switchSeconds
  rw [if_neg (fun x => hn x.2)]; rfl
 have hc := cycleP_pos hpl
 obtain ⟨m0, e1, e2, e3⟩ := findT_at (switchSeconds l a b) (cycleP l a) 400 s ⟨m, hm1, hm2⟩
 have e : switchAt l a b s = s + (m0 : Int) := by
  unfold switchAt
  rw [if_neg h, if_pos hs]
  exact e1
 rw [e]
 refine ⟨hpl, hpb, by omega, ?_, e2⟩
 have hmod : (s + (((m : Int) % cycleP l a).toNat : Int)) % cycleP l a ∈ switchSeconds l a b := by
  rw [Int.toNat_of_nonneg (Int.emod_nonneg _ (by omega)), Int.add_emod, Int.emod_emod_of_dvd _ (Int.dvd_refl _), ← Int.add_emod]
  exact hm2
 have h4 := e3 _ hmod
 have h5 := Int.emod_lt_of_pos (m : Int) (show 0 < cycleP l a by omega)
 have h6 := Int.emod_nonneg (m : Int) (show cycleP l a ≠ 0 by omega)
 omega
theorem switchAt_nn (l : List S71) (a b : List S85) (s : Int) : 0 ≤ switchAt l a b s ↔ ¬ (switchSeconds l a b).length = 0 ∧ 0 ≤ s ∧ s ≤ 100000 := by
 by_cases h : (switchSeconds l a b).length = 0
 ·have e : switchAt l a b s = -1 := by unfold switchAt; rw [if_pos h]
  rw [e]
  exact ⟨fun h2 => absurd h2 (by omega), fun h2 => absurd h h2.1⟩
 ·by_cases hs : 0 ≤ s ∧ s ≤ 100000
  ·have := (switchAt_at h hs).2.2.1
   exact ⟨fun _ => ⟨h, hs⟩, fun _ => by omega⟩
  ·have e : switchAt l a b s = -1 := by unfold switchAt; rw [if_neg h, if_neg hs]
   rw [e]
   exact ⟨fun h2 => absurd h2 (by omega), fun h2 => absurd h2.2 hs⟩
theorem switched5 (l0 : List Int) (hl : l0.length ≤ 1048576) : Ev (fun k => laws_FnSwitched.j5 k l0 false) true := by
 refine Ev.succ ?_
 simp only [laws_FnSwitched.j5, Bool.false_eq_true, if_false]
 refine Ev.bindP (spec_DrawMakeSwitch_ok l0 hl) (fun t ht => ?_)
 obtain ⟨l, a, b⟩ := t
 obtain ⟨h1, h2, h3⟩ := ht
 dsimp only at h1 h2 h3 ⊢
 have hm := makeFrom_ok l a h3 b.length 0
 refine Ev.bind (impl_MakeSwitch_eq l a b (by omega) h2 h3) ?_
 refine Ev.bind (impl_CanSwitch_eq l a (makeSwitch l a b).1 (by omega) h2 hm.1) ?_
 rw [← makeSwitch_can]
 have e : (((makeSwitch l a b).1.length : Int) == (b.length : Int)) = true := by
  rw [beq_iff_eq]
  exact congrArg Nat.cast hm.2.2
 rw [e, beq_self_eq_true]
 simp only [if_true]
 exact Ev.now _
theorem switched4 (l0 : List Int) (hl : l0.length ≤ 1048576) : Ev (fun k => laws_FnSwitched.j4 k l0) true := by
 refine Ev.succ ?_
 simp only [laws_FnSwitched.j4]
 refine Ev.bindP (spec_DrawRotatePlan_ok l0 hl) (fun t ht => ?_)
 obtain ⟨p, i⟩ := t
 dsimp only at ht ⊢
 have hpl := ht.1
 refine Ev.bind (impl_RotatePlan_eq p i ht) ?_
 have e := rotP_length p i
 refine Ev.ifp (by rw [e]) ?_
 refine Ev.ifd (fun h0 => ?_) (fun _ => switched5 l0 hl)
 refine Ev.ifd (fun h1 => ?_) (fun _ => switched5 l0 hl)
 refine Ev.ifn (by omega) ?_
 rw [wrap_id (n := (p.length : Int) - i) (by omega) (by omega), tmod_nn (by omega)]
 refine Ev.bind (impl_RotatePlan_eq (rotP p i) _ (rotP_ok ht)) ?_
 rw [rotP_rot p i h0 h1]
 refine Ev.bind (impl_EqualPlans_self p ht) ?_
 exact switched5 l0 hl
theorem after_safe {l : List S71} {a b : List S85} (ha : isPlan l a = true) (hb : isPlan l b = true) (t s : Int) (ht : 0 ≤ t ∧ t ≤ 200000) (hs : 0 ≤ s ∧ s ≤ 1000000) : lightsSafe l (l.map (fun x => lightAfter l a b t s x.f0)) := by
 by_cases h : s < t
 ·have e : (fun x : S71 => lightAfter l a b t s x.f0) = fun x => lightAt l a s x.f0 := by
   funext x
   unfold lightAfter
   rw [if_pos ⟨ht, hs⟩, if_pos h]
  rw [e]
  exact plan_safe ha s
 ·have e : (fun x : S71 => lightAfter l a b t s x.f0) = fun x => lightAt l b (s - t) x.f0 := by
   funext x
   unfold lightAfter
   rw [if_pos ⟨ht, hs⟩, if_neg h]
  rw [e]
  exact plan_safe hb (s - t)
theorem switched1 (l0 : List Int) (hl0 : l0.length ≤ 1048576) (l : List S71) (a b : List S85) (t : Int) (hl : l.length ≤ 7) (ha : psOk a) (hb : psOk b) (pa : isPlan l a = true) (pb : isPlan l b = true) (ht : 0 ≤ t ∧ t ≤ 200000) : Ev (fun k => laws_FnSwitched.j1 k l0 l a b t false) true := by
 have har : arePaths l = true := by
  have hcv := pa
  unfold isPlan at hcv
  rw [Bool.and_eq_true, Bool.and_eq_true] at hcv
  have hcv := hcv.2.2
  unfold covers at hcv
  rw [Bool.and_eq_true] at hcv
  exact hcv.1
 refine Ev.succ ?_
 simp only [laws_FnSwitched.j1, Bool.false_eq_true, if_false, wrap_id (n := t - 8) (by omega) (by omega)]
 have key : ∀ (d : Nat) (s : Int), s + d = t + 12 → -8 ≤ s → Ev (fun k => laws_FnSwitched.l0 k l0 l a b t s) true := by
  intro d
  induction d with
  | zero =>
   intro s hs h8
   refine Ev.succ ?_
   simp only [laws_FnSwitched.l0, wrap_id (n := t + 12) (by omega) (by omega), show ¬ s < t + 12 by omega, if_false]
   exact switched4 l0 hl0
  | succ d ih =>
   intro s hs h8
   refine Ev.succ ?_
   have next := ih (s + 1) (by omega) (by omega)
   simp only [laws_FnSwitched.l0, wrap_id (n := t + 12) (by omega) (by omega), show s < t + 12 by omega, if_true]
   by_cases h0 : s ≥ 0
   ·have hsafe := after_safe pa pb t s ht (by omega)
    have inner : ∀ (e j : Nat), j + e = l.length → Ev (fun k => laws_FnSwitched.l1 k l0 l a b t s ((l.take j).map (fun x => lightAfter l a b t s x.f0)) (j : Int)) true := by
     intro e
     induction e with
     | zero =>
      intro j hj
      refine Ev.succ ?_
      simp only [laws_FnSwitched.l1, show ¬ (j : Int) < (l.length : Int) by omega, if_false, h0, if_true, wrap_id (n := s + 1) (by omega) (by omega)]
      rw [List.take_of_length_le (show l.length ≤ j by omega)]
      refine Ev.bind (impl_IsSafeLights_true l _ (by omega) har hsafe) ?_
      simp only [if_true]
      exact next
     | succ e ihe =>
      intro j hj
      refine Ev.succ ?_
      have hj2 : j < l.length := by omega
      have nx := ihe (j + 1) (by omega)
      rw [show ((j + 1 : Nat) : Int) = (j : Int) + 1 by omega, List.take_succ_eq_append_getElem hj2, List.map_append, List.map_singleton] at nx
      have hlen : ((l.take j).map (fun x => lightAfter l a b t s x.f0)).length = j := by rw [List.length_map, List.length_take]; omega
      simp only [laws_FnSwitched.l1, show (j : Int) < (l.length : Int) by omega, h0, show (0 : Int) ≤ (j : Int) by omega, if_true, rdT_Path _ _ hj2, hlen, show j < 17592186044416 by omega, wrap_id (n := (j : Int) + 1) (by omega) (by omega)]
      refine Ev.bind (impl_LightAfter_eq l a b t s _ (by omega) ha hb) ?_
      exact nx
    exact inner l.length 0 (by omega)
   ·refine Ev.succ ?_
    simp only [laws_FnSwitched.l1, h0, if_false, wrap_id (n := s + 1) (by omega) (by omega)]
    refine Ev.ifd (fun _ => next) (fun _ => next)
 exact key 20 (t - 8) (by omega) (by omega)
theorem switched0 (l0 : List Int) (hl0 : l0.length ≤ 1048576) (l : List S71) (a b : List S85) (s : Int) (hl : l.length ≤ 7) (ha : psOk a) (hb : psOk b) : Ev (fun k => laws_FnSwitched.j0 k l0 l a b s (switchAt l a b s) (switchSeconds l a b) false) true := by
 refine Ev.succ ?_
 simp only [laws_FnSwitched.j0, Bool.false_eq_true, if_false]
 refine Ev.ifd (fun h => ?_) (fun _ => switched4 l0 hl0)
 obtain ⟨h1, h2⟩ := (switchAt_nn l a b s).1 h
 obtain ⟨pa, pb, g1, g2, g3⟩ := switchAt_at h1 h2
 have hc := cycleP_pos pa
 refine Ev.ifn (by omega) ?_
 refine Ev.bind (impl_Cycle_eq l a (by omega) ha) ?_
 rw [wrap_id (n := switchAt l a b s - s) (by omega) (by omega)]
 refine Ev.ifn (by omega) ?_
 refine Ev.bind (impl_Cycle_eq l a (by omega) ha) ?_
 refine Ev.ifn (by omega) ?_
 rw [tmod_nn (by omega)]
 refine Ev.bind (laws_contains_eq _ _ (Nat.le_trans (switchSeconds_le l a b) (by omega))) ?_
 rw [decide_eq_true g3]
 exact switched1 l0 hl0 l a b _ hl ha hb pa pb (by omega)
theorem holds : ∀ (l0 : List Int), l0.length ≤ maxLen → (∀ x ∈ l0, (Lit.int .u8 x).wf = true) → ∃ k, laws_FnSwitched.f k l0 = some true := by
 intro l0 hm _
 apply Ev.rounds
 unfold laws_FnSwitched.f
 simp only [laws_big_eq, Option.bind_some]
 by_cases hb : (l0.length : Int) > 1048576
 ·simp only [hb, decide_true, if_true]; exact Ev.now _
 have hl0 : l0.length ≤ 1048576 := by omega
 simp only [hb, decide_false, Bool.false_eq_true, if_false]
 refine Ev.bindP (spec_DrawSwitchAt_ok l0 hl0) (fun t ht => ?_)
 obtain ⟨l, a, b, s⟩ := t
 obtain ⟨h1, h2, h3⟩ := ht
 dsimp only at h1 h2 h3 ⊢
 refine Ev.bind (impl_SwitchAt_eq l a b s (by omega) h2 h3) ?_
 refine Ev.bind (impl_SwitchSeconds_eq l a b (by omega) h2 h3) ?_
 have hle := switchSeconds_le l a b
 have hnn := switchAt_nn l a b s
 have hasc := laws_ascends_true (switchSeconds l a b) (by omega) (switchSeconds_asc l a b)
 have hcan := impl_CanSwitch_eq l a b (by omega) h2 h3
 have hj : ∀ c : Bool, c = canSwitch l a b → Ev (fun k => laws_FnSwitched.j0 k l0 l a b s (switchAt l a b s) (switchSeconds l a b) (canSwitch l a b != c)) true := by
  intro c e
  rw [e, bne_self_eq_false]
  exact switched0 l0 hl0 l a b s h1 h2 h3
 have hend : ∀ q : Bool, q = false → Ev (fun k => if q = true then laws_FnSwitched.j0 k l0 l a b s (switchAt l a b s) (switchSeconds l a b) true else (laws_ascends.f k (switchSeconds l a b)).bind fun t721 => (if t721 = true then ((impl_CanSwitch.f k l a b).bind fun t722 => (laws_FnSwitched.j0 k l0 l a b s (switchAt l a b s) (switchSeconds l a b) (t722 != (decide (((switchSeconds l a b).length : Int) > 0))))) else (laws_FnSwitched.j0 k l0 l a b s (switchAt l a b s) (switchSeconds l a b) true))) true := by
  intro q e
  subst e
  simp only [Bool.false_eq_true, if_false]
  refine Ev.bind hasc ?_
  simp only [if_true]
  refine Ev.bind hcan ?_
  exact hj _ rfl
 refine Ev.ifd (fun c1 => ?_) (fun c1 => ?_)
 ·refine Ev.ifd (fun c2 => ?_) (fun c2 => ?_)
  ·refine hend _ ?_
   rw [bne_eq_false_iff_eq, decide_eq_decide]
   exact ⟨fun h => (hnn.1 h).2.2, fun h => hnn.2 ⟨by omega, by omega, h⟩⟩
  ·refine hend _ ?_
   rw [decide_eq_false (fun h => c2 (hnn.1 h).2.1)]; rfl
 ·refine hend _ ?_
  rw [decide_eq_false (fun h => (hnn.1 h).1 (by omega))]; rfl
end Go.Proofs.Ytjgigmghcfdomaa.Pure.FnSwitched

