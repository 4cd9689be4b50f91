/- The law FnWaves of the given program, as a statement over numbers and lists alone, for all arguments; no conditions but the machine's own bounds. -/
import Derived.Test.YtjgigmghcfdomaaPFnWavesx
import Derived.Test.YtjgigmghcfdomaaBase
namespace Go.Proofs.Ytjgigmghcfdomaa.Pure.FnWaves
open Go.RowKit Go.Proofs.Ytjgigmghcfdomaa.PFnWaves Go.Proofs.YtjgigmghcfdomaaW.PrintWords Go.Proofs.YtjgigmghcfdomaaW.PrintLast Go.Proofs.Ytjgigmghcfdomaa.Bas
set_option linter.unusedVariables false
set_option linter.unusedSimpArgs false
theorem spec_l1In_eq (a lo hi : Int) : spec_l1In.f a lo hi = some (decide (lo ≤ a ∧ a ≤ hi)) := by
 unfold spec_l1In.f; grind
theorem impl_InRange_eq (a lo hi : Int) : impl_InRange.f a lo hi = some (decide (lo ≤ a ∧ a ≤ hi)) := by
 unfold impl_InRange.f; grind
theorem impl_IsWindow_eq (f l c : Int) : impl_IsWindow.f f l c = some (isWindow f l c) := by
 unfold impl_IsWindow.f isWindow
 simp only [impl_InRange_eq, Option.bind_some]
 by_cases h : 1 ≤ c ∧ c ≤ 200
 ·rw [wrap_id (n := c - 1) (by omega) (by omega)]; grind
 ·grind
theorem impl_Mod_eq (p q : Int) : impl_Mod.f p q = some (gmod p q) := by
 unfold impl_Mod.f gmod
 simp only [impl_InRange_eq, Option.bind_some]
 by_cases h : 1 ≤ q ∧ q ≤ 1000000000000
 ·have h1 : ¬ q = 0 := by omega
  have h5 := Int.emod_lt_of_pos p (show 0 < q by omega)
  have h7 := Int.emod_nonneg p (show q ≠ 0 by omega)
  rcases tmod_cases p q (by omega) with ⟨h2, h3⟩ | ⟨h2, h3⟩
  ·simp [h, h1, h2]; omega
  ·simp only [h, h1, h3]; rw [wrap_id (by omega) (by omega)]; simp; omega
 ·simp [h]
theorem impl_InWindow_eq (f l c o s : Int) : impl_InWindow.f f l c o s = some (inWindow f l c o s) := by
 unfold impl_InWindow.f inWindow
 simp only [impl_InRange_eq, impl_IsWindow_eq, impl_Mod_eq, Option.bind_some]
 by_cases hw : isWindow f l c = true
 ·have hw' := hw
  unfold isWindow at hw'
  simp only [decide_eq_true_eq] at hw'
  by_cases h1 : -1000000 ≤ o ∧ o ≤ 1000000
  ·by_cases h2 : -1000000 ≤ s ∧ s ≤ 1000000
   ·rw [wrap_id (n := s - o) (by omega) (by omega), wrap_id (by omega) (by omega)]
    have h3 : 1 ≤ c ∧ c ≤ 1000000000000 := by omega
    simp [hw, h1, h2, gmod, h3]
   ·simp [hw, h1, h2]
  ·simp [hw, h1]
 ·simp [hw]
def greatestBand (af al bf bl c : Int) : Int := if isWindow af al c && isWindow bf bl c then min al bl else 0
theorem impl_GreatestBand_eq (af al bf bl c : Int) : impl_GreatestBand.f af al bf bl c = some (greatestBand af al bf bl c) := by
 unfold impl_GreatestBand.f greatestBand
 simp only [impl_IsWindow_eq, Option.bind_some]
 cases isWindow af al c <;> cases isWindow bf bl c <;> simp [mn] <;> grind
theorem rdT_Path (xs : List S71) (i : Nat) (h : i < xs.length) : rd_T71 xs (i : Int) = xs[i] := by simp [rd_T71, h]
theorem impl_Band_l0 (af al bf bl c t o : Int) (hc : c ≤ 200) (ht : 0 ≤ t ∧ t ≤ 100000) : ∀ (d : Nat) (n s : Int), 0 ≤ s → c - s = d → 0 ≤ n → n ≤ s →
  Ev (fun k => impl_Band.l0 k c t o n c s af al bf bl) (n + cnt (bandP af al bf bl c t o) d s) := by
 intro d
 induction d with
 | zero =>
  intro n s h0 hd hn hns
  refine Ev.succ ?_
  simp only [impl_Band.l0, show ¬ s < c by omega, if_false]
  exact evq (Ev.now _) (by simp [cnt])
 | succ d ih =>
  intro n s h0 hd hn hns
  refine Ev.succ ?_
  simp only [impl_Band.l0, show s < c by omega, if_true, impl_InWindow_eq, Option.bind_some, wrap_id (n := s + t) (by omega) (by omega), wrap_id (n := s + 1) (by omega) (by omega), wrap_id (n := n + 1) (by omega) (by omega)]
  unfold cnt
  have i1 := ih (n + 1) (s + 1) (by omega) (by omega) (by omega) (by omega)
  have i2 := ih n (s + 1) (by omega) (by omega) (by omega) (by omega)
  rw [Int.add_assoc] at i1
  cases h1 : inWindow af al c 0 s <;> cases h2 : inWindow bf bl c o (s + t) <;> simp only [bandP, h1, h2, Bool.true_and, Bool.false_and, Bool.and_self, Bool.and_false, if_true, if_false, Bool.false_eq_true, Int.zero_add] <;> assumption
theorem impl_Band_eq (af al bf bl c t o : Int) : Ev (fun k => impl_Band.f k af al bf bl c t o) (band af al bf bl c t o) := by
 unfold impl_Band.f band
 simp only [impl_IsWindow_eq, impl_InRange_eq, Option.bind_some]
 have hj : ∀ b : Bool, (b = false → 1 ≤ c ∧ c ≤ 200 ∧ 0 ≤ t ∧ t ≤ 100000) → Ev (fun k => impl_Band.j0 k c t o b af al bf bl) (if b then 0 else cnt (bandP af al bf bl c t o) c.toNat 0) := by
  intro b hb
  refine Ev.succ ?_
  cases b
  ·obtain ⟨h1, h2, h3, h4⟩ := hb rfl
   simp only [impl_Band.j0, Bool.false_eq_true, if_false]
   exact evq (impl_Band_l0 af al bf bl c t o h2 ⟨h3, h4⟩ c.toNat 0 0 (by omega) (by omega) (by omega) (by omega)) (by simp)
  ·simp only [impl_Band.j0, if_true]; exact Ev.now _
 cases ha : isWindow af al c
 ·simpa using hj true (by simp)
 ·have hb := (isWindow_iff _ _ _).1 ha
  cases hb' : isWindow bf bl c
  ·simpa using hj true (by simp)
  ·by_cases ht : 0 ≤ t ∧ t ≤ 100000
   ·by_cases ho : 0 ≤ o ∧ o ≤ 100000
    ·simpa [ht, ho] using hj false (fun _ => ⟨hb.1, hb.2.1, ht.1, ht.2⟩)
    ·simpa [ht, ho] using hj true (by simp)
   ·simpa [ht] using hj true (by simp)
theorem impl_BestOffset_eq (af al bf bl c t : Int) : Ev (fun k => impl_BestOffset.f k af al bf bl c t) (bestOffset af al bf bl c t) := by
 unfold impl_BestOffset.f bestOffset
 simp only [impl_IsWindow_eq, impl_InRange_eq, Option.bind_some]
 have hj : ∀ b : Bool, (b = false → 1 ≤ c ∧ c ≤ 200) → Ev (fun k => impl_BestOffset.j0 k c t b af al bf bl) (if b then -1 else argBest (band af al bf bl c t) c.toNat) := by
  intro b hb
  refine Ev.succ ?_
  cases b
  ·obtain ⟨h1, h2⟩ := hb rfl
   simp only [impl_BestOffset.j0, Bool.false_eq_true, if_false]
   have key : ∀ (d i : Nat) (b : Int), 1 ≤ i → i + d = c.toNat → Ev (fun k => impl_BestOffset.l0 k c t b (band af al bf bl c t b) c (i : Int) af al bf bl) ((List.range' i d).foldl (fun b (o : Nat) => if band af al bf bl c t o > band af al bf bl c t b then (o : Int) else b) b) := by
    intro d
    induction d with
    | zero =>
     intro i b _ hi
     refine Ev.succ ?_
     simp only [impl_BestOffset.l0, show ¬ ((i : Int) < c) by omega, if_false]
     exact Ev.now _
    | succ d ih =>
     intro i b h1 hi
     refine Ev.succ ?_
     simp only [impl_BestOffset.l0, show (i : Int) < c by omega, if_true, wrap_id (n := (i : Int) + 1) (by omega) (by omega)]
     refine Ev.bind (impl_Band_eq _ _ _ _ _ _ _) ?_
     rw [List.range'_succ, List.foldl_cons]
     by_cases hx : band af al bf bl c t i > band af al bf bl c t b <;> simp only [hx, if_true, if_false]
     ·simpa using ih (i + 1) (i : Int) (by omega) (by omega)
     ·simpa using ih (i + 1) b (by omega) (by omega)
   refine Ev.succ ?_
   simp only [impl_BestOffset.l0, show (0 : Int) < c by omega, if_true, show wrap64 (0 + 1) = 1 by unfold wrap64; omega]
   refine Ev.bind (impl_Band_eq _ _ _ _ _ _ _) ?_
   simp only [show band af al bf bl c t 0 > -1 by have := band_nn af al bf bl c t 0; omega, if_true]
   refine evq (key (c.toNat - 1) 1 0 (by omega) (by omega)) ?_
   unfold argBest
   obtain ⟨m, hm⟩ : ∃ m, c.toNat = m + 1 := ⟨c.toNat - 1, by omega⟩
   rw [hm, List.range_eq_range', List.range'_succ, List.foldl_cons]
   simp
  ·simp only [impl_BestOffset.j0, if_true]; exact Ev.now _
 cases ha : isWindow af al c
 ·simpa using hj true (by simp)
 ·have hb := (isWindow_iff _ _ _).1 ha
  cases hb' : isWindow bf bl c
  ·simpa using hj true (by simp)
  ·by_cases ht : 0 ≤ t ∧ t ≤ 100000
   ·simpa [ht] using hj false (fun _ => ⟨hb.1, hb.2.1⟩)
   ·simpa [ht] using hj true (by simp)
theorem impl_IsPath_eq (a b c d : Int) : impl_IsPath.f a b c d = some (isPath a b c d) := by
 unfold impl_IsPath.f isPath
 simp only [impl_InRange_eq, Option.bind_some]; grind
theorem spec_IsPath_eq (a b c d : Int) : spec_IsPath.f a b c d = some (isPath a b c d) := by
 unfold spec_IsPath.f isPath
 simp only [spec_l1In_eq, Option.bind_some]; grind
def isP (p : S71) : Bool := isPath p.f0 p.f1 p.f2 p.f3
def okAt (l : List S71) (i : Nat) : Bool := isP (rd_T71 l (i : Int)) && (decide (i = 0) || decide ((rd_T71 l ((i : Int) - 1)).f0 < (rd_T71 l (i : Int)).f0))
def arePaths (l : List S71) : Bool := (List.range l.length).all (okAt l) && decide (l.length ≤ 12)
theorem arePaths_at {l : List S71} (h : arePaths l = true) (i : Nat) (hi : i < l.length) : isP l[i] = true := by
 simp only [arePaths, Bool.and_eq_true, List.all_eq_true, List.mem_range] at h
 have := h.1 i hi
 simp only [okAt, Bool.and_eq_true, rdT_Path _ _ hi] at this
 exact this.1
def findP (l : List S71) (id : Int) : Int := Go.Proofs.Ytjgigmghcfdomaa.Hnd.fidx (fun x : S71 => x.f0 == id) l 0
theorem findP_hi (l : List S71) (id : Int) : findP l id < l.length := fidx_hi _ _
theorem findP_at {l : List S71} {id : Int} (h : 0 ≤ findP l id) : ∃ (i : Nat) (hi : i < l.length), findP l id = (i : Int) ∧ l[i].f0 = id := by
 rcases fidx_cases (fun x : S71 => x.f0 == id) l 0 with ⟨h1, _⟩ | ⟨i, h1, h2, h3, _⟩
 ·unfold findP at h; omega
 ·exact ⟨i, h2, by unfold findP; omega, by simpa using h3⟩
theorem spec_ArePaths_eq (l : List S71) (hl : l.length ≤ 1048576) : Ev (fun k => spec_ArePaths.f k l) (arePaths l) := by
 unfold spec_ArePaths.f arePaths
 refine evAnd (g := fun k i => spec_ArePaths.l0 k l i) (fun i r h hP hr => ?_) (fun i h hP => ?_) ?_
 ·refine Ev.succ ?_
  unfold okAt isP at hP
  rw [Bool.and_eq_true] at hP
  simp only [spec_ArePaths.l0, show (i : Int) < (l.length : Int) by omega, show (0 : Int) ≤ (i : Int) by omega, if_true, spec_IsPath_eq, Option.bind_some, hP.1, wrap_id (n := (i : Int) + 1) (by omega) (by omega)]
  by_cases h0 : i = 0
  ·subst h0; simpa using hr
  ·have h2 := hP.2
   rw [decide_eq_false h0, Bool.false_or, decide_eq_true_eq] at h2
   simp only [show (i : Int) > 0 by omega, if_true, wrap_id (n := (i : Int) - 1) (by omega) (by omega), show (0 : Int) ≤ (i : Int) - 1 by omega, show (i : Int) - 1 < (l.length : Int) by omega, show ¬ (rd_T71 l ((i : Int) - 1)).f0 ≥ (rd_T71 l (i : Int)).f0 by omega, if_false]
   exact hr
 ·refine Ev.succ ?_
  unfold okAt isP at hP
  simp only [spec_ArePaths.l0, show (i : Int) < (l.length : Int) by omega, show (0 : Int) ≤ (i : Int) by omega, if_true, spec_IsPath_eq, Option.bind_some, wrap_id (n := (i : Int) + 1) (by omega) (by omega)]
  cases hp : isPath (rd_T71 l (i : Int)).f0 (rd_T71 l (i : Int)).f1 (rd_T71 l (i : Int)).f2 (rd_T71 l (i : Int)).f3
  ·simp only [Bool.false_eq_true, if_false]; exact Ev.now _
  ·rw [hp, Bool.true_and, Bool.or_eq_false_iff, decide_eq_false_iff_not, decide_eq_false_iff_not] at hP
   simp only [if_true, show (i : Int) > 0 by omega, wrap_id (n := (i : Int) - 1) (by omega) (by omega), show (0 : Int) ≤ (i : Int) - 1 by omega, show (i : Int) - 1 < (l.length : Int) by omega, show (rd_T71 l ((i : Int) - 1)).f0 ≥ (rd_T71 l (i : Int)).f0 by omega]
   exact Ev.now _
 ·refine Ev.succ ?_
  simp only [spec_ArePaths.l0, Int.lt_irrefl, if_false]
  exact evq (Ev.now _) (by by_cases h : l.length ≤ 12 <;> simp [h] <;> omega)
theorem impl_ArePaths_eq (l : List S71) (hl : l.length ≤ 1048576) : Ev (fun k => impl_ArePaths.f k l) (arePaths l) := by
 unfold impl_ArePaths.f arePaths
 by_cases h12 : l.length ≤ 12
 ·simp only [show ¬ ((l.length : Int) > 12) by omega, if_false, decide_eq_true h12]
  refine evAnd (g := fun k i => impl_ArePaths.l0 k l l (l.length : Int) i) (fun i r h hP hr => ?_) (fun i h hP => ?_) ?_
  ·refine Ev.succ ?_
   unfold okAt isP at hP
   rw [Bool.and_eq_true] at hP
   simp only [impl_ArePaths.l0, show (i : Int) < (l.length : Int) by omega, show (0 : Int) ≤ (i : Int) by omega, if_true, impl_IsPath_eq, Option.bind_some, hP.1, wrap_id (n := (i : Int) + 1) (by omega) (by omega)]
   by_cases h0 : i = 0
   ·subst h0; simpa using hr
   ·have h2 := hP.2
    rw [decide_eq_false h0, Bool.false_or, decide_eq_true_eq] at h2
    simp only [show (i : Int) > 0 by omega, if_true, wrap_id (n := (i : Int) - 1) (by omega) (by omega), show (0 : Int) ≤ (i : Int) - 1 by omega, show (i : Int) - 1 < (l.length : Int) by omega, show ¬ (rd_T71 l (i : Int)).f0 ≤ (rd_T71 l ((i : Int) - 1)).f0 by omega, if_false]
    exact hr
  ·refine Ev.succ ?_
   unfold okAt isP at hP
   simp only [impl_ArePaths.l0, show (i : Int) < (l.length : Int) by omega, show (0 : Int) ≤ (i : Int) by omega, if_true, impl_IsPath_eq, Option.bind_some, wrap_id (n := (i : Int) + 1) (by omega) (by omega)]
   cases hp : isPath (rd_T71 l (i : Int)).f0 (rd_T71 l (i : Int)).f1 (rd_T71 l (i : Int)).f2 (rd_T71 l (i : Int)).f3
   ·simp only [Bool.false_eq_true, if_false]; exact Ev.now _
   ·rw [hp, Bool.true_and, Bool.or_eq_false_iff, decide_eq_false_iff_not, decide_eq_false_iff_not] at hP
    simp only [if_true, show (i : Int) > 0 by omega, wrap_id (n := (i : Int) - 1) (by omega) (by omega), show (0 : Int) ≤ (i : Int) - 1 by omega, show (i : Int) - 1 < (l.length : Int) by omega, show (rd_T71 l (i : Int)).f0 ≤ (rd_T71 l ((i : Int) - 1)).f0 by omega]
    exact Ev.now _
  ·refine Ev.succ ?_
   simp only [impl_ArePaths.l0, Int.lt_irrefl, if_false]
   exact Ev.now _
 ·simp only [show (l.length : Int) > 12 by omega, if_true, decide_eq_false h12, Bool.and_false]; exact Ev.now _
theorem spec_FindPath_eq (l : List S71) (id : Int) (hl : l.length ≤ 1048576) : Ev (fun k => spec_FindPath.f k l id) (findP l id) := by
 unfold spec_FindPath.f findP
 have key : ∀ (d i : Nat), i + d = l.length → Ev (fun k => spec_FindPath.l0 k l id (i : Int)) (Go.Proofs.Ytjgigmghcfdomaa.Hnd.fidx (fun x : S71 => x.f0 == id) (l.drop i) (0 + i)) := by
  intro d
  induction d with
  | zero =>
   intro i hi
   refine Ev.succ ?_
   simp only [spec_FindPath.l0, show ¬ (i : Int) < (l.length : Int) by omega, if_false]
   exact evq (Ev.now _) (by rw [List.drop_eq_nil_of_le (by omega)]; rfl)
  | succ d ih =>
   intro i hi
   refine Ev.succ ?_
   have ihh := ih (i + 1) (by omega)
   rw [show ((i + 1 : Nat) : Int) = (i : Int) + 1 by omega] at ihh
   simp only [spec_FindPath.l0, show (i : Int) < (l.length : Int) by omega, show (0 : Int) ≤ (i : Int) by omega, if_true, rdT_Path _ _ (show i < l.length by omega), wrap_id (n := (i : Int) + 1) (by omega) (by omega)]
   rw [fidx_drop _ _ _ _ (by omega)]
   by_cases h1 : l[i].f0 = id
   ·simp only [h1, if_true, beq_self_eq_true, Nat.zero_add]; exact Ev.now _
   ·simp only [h1, if_false, show ((l[i].f0 == id) = true) = False by simp [h1]]; exact ihh
 exact key l.length 0 (by omega)
theorem impl_FindPath_eq (l : List S71) (id : Int) : impl_FindPath.f l id = some (findP l id) := rfl
theorem spec_l6Has_eq (l : List Int) (x : Int) (hl : l.length ≤ 140737488355328) : Ev (fun k => spec_l6Has.f k l x) (decide (x ∈ l)) := by
 unfold spec_l6Has.f
 have key : ∀ (d i : Nat), i + d = l.length → Ev (fun k => spec_l6Has.l0 k l x (i : Int)) (decide (x ∈ l.drop i)) := by
  intro d
  induction d with
  | zero =>
   intro i hi
   refine Ev.succ ?_
   simp only [spec_l6Has.l0, show ¬ (i : Int) < (l.length : Int) by omega, if_false]
   exact evq (Ev.now _) (by simp [List.drop_eq_nil_of_le (show l.length ≤ i by omega)])
  | succ d ih =>
   intro i hi
   refine Ev.succ ?_
   have ihh := ih (i + 1) (by omega)
   rw [show ((i + 1 : Nat) : Int) = (i : Int) + 1 by omega] at ihh
   simp only [spec_l6Has.l0, show (i : Int) < (l.length : Int) by omega, show (0 : Int) ≤ (i : Int) by omega, if_true, rd_nat _ _ (show i < l.length by omega), wrap_id (n := (i : Int) + 1) (by omega) (by omega)]
   rw [mem_drop _ _ (by omega)]
   by_cases h1 : l[i] = x
   ·simp only [h1, if_true, decide_true, Bool.true_or]; exact Ev.now _
   ·rw [decide_eq_false (fun h : x = l[i] => h1 h.symm), Bool.false_or]; simp only [h1, if_false]; exact ihh
 simpa using key l.length 0 (by omega)
theorem slices_Contains_eq (l : List Int) (x : Int) (hl : l.length ≤ 140737488355328) : Ev (fun k => slices_Contains_int_int.f k l x) (decide (x ∈ l)) := by
 unfold slices_Contains_int_int.f slices_Index_int_int.f
 have key : ∀ (d i : Nat), i + d = l.length → ∃ n : Int, Ev (fun k => slices_Index_int_int.l0 k l x (l.length : Int) (i : Int)) n ∧ decide (n ≥ 0) = decide (x ∈ l.drop i) := by
  intro d
  induction d with
  | zero =>
   intro i hi
   refine ⟨-1, Ev.succ ?_, by simp [List.drop_eq_nil_of_le (show l.length ≤ i by omega)]⟩
   simp only [slices_Index_int_int.l0, show ¬ (i : Int) < (l.length : Int) by omega, if_false]
   exact Ev.now _
  | succ d ih =>
   intro i hi
   obtain ⟨n, hn, he⟩ := ih (i + 1) (by omega)
   rw [show ((i + 1 : Nat) : Int) = (i : Int) + 1 by omega] at hn
   rw [mem_drop _ _ (by omega)]
   by_cases h1 : x = l[i]
   ·refine ⟨(i : Int), Ev.succ ?_, by rw [decide_eq_true h1, Bool.true_or]; simp⟩
    simp only [slices_Index_int_int.l0, show (i : Int) < (l.length : Int) by omega, show (0 : Int) ≤ (i : Int) by omega, if_true, rd_nat _ _ (show i < l.length by omega), if_pos h1]
    exact Ev.now _
   ·refine ⟨n, Ev.succ ?_, by rw [he, decide_eq_false h1, Bool.false_or]⟩
    simp only [slices_Index_int_int.l0, show (i : Int) < (l.length : Int) by omega, show (0 : Int) ≤ (i : Int) by omega, if_true, rd_nat _ _ (show i < l.length by omega), if_neg h1, wrap_id (n := (i : Int) + 1) (by omega) (by omega)]
    exact hn
 obtain ⟨n, hn, he⟩ := key l.length 0 (by omega)
 simp only [List.drop_zero] at he
 rw [← he]
 exact Ev.bind (by simpa using hn) (Ev.now _)
def clearOf (a b c d : Int) : Int := if isPath a b c d then (if b = 1 then 2 else if b = 3 then 3 else 5) else 0
theorem clearOf_bd (a b c d : Int) : 0 ≤ clearOf a b c d ∧ clearOf a b c d ≤ 5 := by unfold clearOf; split <;> (try split) <;> (try split) <;> omega
theorem impl_ClearOf_eq (a b c d : Int) : impl_ClearOf.f a b c d = some (clearOf a b c d) := by
 unfold impl_ClearOf.f clearOf
 simp only [impl_IsPath_eq, Option.bind_some]; grind
theorem impl_ClearOf_ev (a b c d : Int) : Ev (fun _ => impl_ClearOf.f a b c d) (clearOf a b c d) := Ev.pure (impl_ClearOf_eq a b c d)
theorem spec_l1New_ok (l : List Int) (hl : l.length ≤ 1048576) : EvP (fun k => spec_l1New.f k l) (fun t => t.1 = l ∧ Cur t.1 t.2.1) := by
 unfold spec_l1New.f
 have key : ∀ (d i : Nat) (h : Int), i + d = l.length → EvP (fun k => spec_l1New.l0 k l h (i : Int)) (fun t => t.1 = l ∧ Cur t.1 t.2.1) := by
  intro d
  induction d with
  | zero =>
   intro i h hi
   refine EvP.succ ?_
   simp only [spec_l1New.l0, show ¬ (i : Int) < (l.length : Int) by omega, if_false]
   exact EvP.now ⟨rfl, Int.le_refl _, by show (0 : Int) ≤ (l.length : Int); omega, hl⟩
  | succ d ih =>
   intro i h hi
   refine EvP.succ ?_
   simp only [spec_l1New.l0, show (i : Int) < (l.length : Int) by omega, show (0 : Int) ≤ (i : Int) by omega, if_true, wrap_id (n := (i : Int) + 1) (by omega) (by omega)]
   refine EvP.ifd (fun _ => ?_) (fun _ => EvP.now ⟨rfl, Int.le_refl _, by show (0 : Int) ≤ (l.length : Int); omega, hl⟩)
   have := ih (i + 1) (Go.bits .and .i64 (wrap64 ((wrap64 ((wrap64 (h * 137)) + (wrap64 (rd l i)))) + 11)) 1073741823) (by omega)
   simpa using this
 exact key l.length 0 _ (by omega)
theorem spec_l1Byte_ok (b : List Int) (i h : Int) (hc : Cur b i) : DrP (spec_l1Byte.f b i h) (fun t => 0 ≤ t.1 ∧ t.1 < 256 ∧ Cur b t.2.1) := by
 unfold spec_l1Byte.f
 obtain ⟨h0, h1, h2⟩ := hc
 by_cases hi : i < (b.length : Int)
 ·rw [if_pos hi, if_pos h0]
  refine DrP.now ⟨(and255 _).1, (and255 _).2, ?_⟩
  simp only [wrap_id (n := i + 1) (by omega) (by omega)]
  unfold Cur; omega
 ·rw [if_neg hi]
  exact DrP.now ⟨(and255 _).1, (and255 _).2, h0, h1, h2⟩
theorem spec_l1Below_ok (b : List Int) (i h n : Int) (hc : Cur b i) : DrP (spec_l1Below.f b i h n) (fun t => (n ≤ 0 → t.1 = 0) ∧ (0 < n → 0 ≤ t.1 ∧ t.1 < n) ∧ Cur b t.2.1) := by
 unfold spec_l1Below.f
 by_cases h0 : n ≤ 0
 ·rw [if_pos h0]; exact DrP.now ⟨fun _ => rfl, fun h => absurd h (by omega), hc⟩
 rw [if_neg h0]
 have hm : ∀ x : Int, 0 ≤ x → 0 ≤ Int.tmod x n ∧ Int.tmod x n < n := fun x hx => by rw [tmod_nn hx]; exact ⟨Int.emod_nonneg _ (by omega), Int.emod_lt_of_pos _ (by omega)⟩
 by_cases h1 : n ≤ 256
 ·rw [if_pos h1]
  refine DrP.bind (spec_l1Byte_ok b i h hc) (fun t ht => ?_)
  rw [if_neg (by omega)]
  exact DrP.now ⟨fun h => absurd h h0, fun _ => hm _ ht.1, ht.2.2⟩
 ·rw [if_neg h1]
  refine DrP.bind (spec_l1Byte_ok b i h hc) (fun t ht => ?_)
  refine DrP.bind (spec_l1Byte_ok b _ _ ht.2.2) (fun u hu => ?_)
  refine DrP.bind (spec_l1Byte_ok b _ _ hu.2.2) (fun v hv => ?_)
  rw [if_neg (by omega)]
  refine DrP.now ⟨fun h => absurd h h0, fun _ => hm _ ?_, hv.2.2⟩
  obtain ⟨t1, t2, _⟩ := ht
  obtain ⟨u1, u2, _⟩ := hu
  obtain ⟨v1, v2, _⟩ := hv
  rw [wrap_id (n := t.1 * 65536) (by omega) (by omega), wrap_id (n := u.1 * 256) (by omega) (by omega), wrap_id (n := t.1 * 65536 + u.1 * 256) (by omega) (by omega), wrap_id (by omega) (by omega)]
  omega
theorem spec_l1Once_ok (b : List Int) (i h n : Int) (hc : Cur b i) : DrP (spec_l1Once.f b i h n) (fun t => Cur b t.2.1) := by
 unfold spec_l1Once.f
 refine DrP.bind (spec_l1Below_ok b i h n hc) (fun t ht => ?_)
 exact DrP.now ht.2.2
theorem spec_l1Int_ok (b : List Int) (i h : Int) (l : List Int) (lo hi : Int) (hc : Cur b i) (hne : l.length ≠ 0) (hb : ∀ x ∈ l, lo ≤ x ∧ x ≤ hi) : DrP (spec_l1Int.f b i h l) (fun t => lo ≤ t.1 ∧ t.1 ≤ hi ∧ Cur b t.2.1) := by
 unfold spec_l1Int.f
 refine DrP.bind (spec_l1Below_ok b i h _ hc) (fun t ht => ?_)
 obtain ⟨h1, h2⟩ := ht.2.1 (by omega)
 rw [if_pos h1, if_pos h2]
 refine DrP.now ?_
 have : rd l t.1 ∈ l := by
  obtain ⟨n, hn⟩ := Int.eq_ofNat_of_zero_le h1
  rw [hn, rd_nat _ _ (by omega)]
  exact List.getElem_mem _
 have := hb _ this
 exact ⟨this.1, this.2, ht.2.2⟩
theorem spec_l1Int_cur (b : List Int) (i h : Int) (l : List Int) (hc : Cur b i) (hne : l.length ≠ 0) : DrP (spec_l1Int.f b i h l) (fun t => Cur b t.2.1) := by
 unfold spec_l1Int.f
 refine DrP.bind (spec_l1Below_ok b i h _ hc) (fun t ht => ?_)
 obtain ⟨h1, h2⟩ := ht.2.1 (by omega)
 rw [if_pos h1, if_pos h2]
 exact DrP.now ht.2.2
theorem spec_l4Raw_ok (b : List Int) (i h : Int) (hc : Cur b i) : DrP (spec_l4Raw.f b i h) (fun t => I64 t.1 ∧ Cur b t.2.1) := by
 unfold spec_l4Raw.f
 refine DrP.bind (spec_l1Int_ok b i h _ (-9223372036854775808) 9223372036854775807 hc (by simp) (by decide)) (fun t ht => ?_)
 exact DrP.now ⟨⟨ht.1, ht.2.1⟩, ht.2.2⟩
theorem laws_big_eq (l : List Int) : laws_big.f l = some (decide ((l.length : Int) > 1048576)) := by unfold laws_big.f; rfl
theorem spec_l4Draw_ok (b : List Int) (i h a : Int) (hc : Cur b i) : DrP (spec_l4Draw.f b i h a) (fun t => Cur b t.2.2.2.2.1) := by
 unfold spec_l4Draw.f
 refine DrP.bind (spec_l1Below_ok b i h _ hc) (fun t1 h1 => ?_)
 refine DrP.bind (spec_l1Below_ok b _ _ _ h1.2.2) (fun t2 h2 => ?_)
 split
 ·exact DrP.now h2.2.2
 ·exact DrP.bind (spec_l1Below_ok b _ _ _ h2.2.2) (fun t3 h3 => DrP.now h3.2.2)
theorem spec_l5Draw_ok (b : List Int) (i h : Int) (hc : Cur b i) : EvP (fun k => spec_l5Draw.f k b i h) (fun t => 1 ≤ t.1.length ∧ t.1.length ≤ 7 ∧ Cur b t.2.1) := by
 unfold spec_l5Draw.f
 have key : ∀ (d : Nat) (n : Nat) (xs : List S71) (i h : Int), Cur b i → xs.length = n → n + d = 7 → EvP (fun k => spec_l5Draw.l0 k xs ((n : Int) + 1) b i h) (fun t => 1 ≤ t.1.length ∧ t.1.length ≤ 7 ∧ Cur b t.2.1) := by
  intro d
  induction d with
  | zero =>
   intro n xs i h hc hn hd
   refine EvP.succ ?_
   simp only [spec_l5Draw.l0]
   refine EvP.bindD (spec_l1Below_ok b i h _ hc) (fun t1 h1 => ?_)
   have h2 := h1.2.1 (by omega)
   simp only [wrap_id (n := 2 + t1.1) (by omega) (by omega), show ¬ (n : Int) + 1 ≤ 2 + t1.1 by omega, if_false]
   exact EvP.now ⟨by show 1 ≤ xs.length; omega, by show xs.length ≤ 7; omega, h1.2.2⟩
  | succ d ih =>
   intro n xs i h hc hn hd
   refine EvP.succ ?_
   simp only [spec_l5Draw.l0]
   refine EvP.bindD (spec_l1Below_ok b i h _ hc) (fun t1 h1 => ?_)
   have h2 := h1.2.1 (by omega)
   simp only [wrap_id (n := 2 + t1.1) (by omega) (by omega), wrap_id (n := (n : Int) + 1 + 1) (by omega) (by omega), show xs.length < 4398046511104 by omega, if_true]
   refine EvP.ifd (fun _ => ?_) (fun h3 => EvP.now ⟨by show 1 ≤ xs.length; omega, by show xs.length ≤ 7; omega, h1.2.2⟩)
   refine EvP.bindD (spec_l4Draw_ok b _ _ _ h1.2.2) (fun t2 h4 => ?_)
   have := ih (n + 1) (xs ++ [⟨t2.1, t2.2.1, t2.2.2.1, t2.2.2.2.1⟩]) t2.2.2.2.2.1 t2.2.2.2.2.2 h4 (by rw [List.length_append, List.length_singleton]; omega) (by omega)
   rw [show ((n + 1 : Nat) : Int) + 1 = (n : Int) + 1 + 1 by omega] at this
   exact this
 exact key 7 0 [] i h hc rfl rfl
theorem spec_l4Any_ok (b : List Int) (i h : Int) (hc : Cur b i) : DrP (spec_l4Any.f b i h) (fun t => Cur b t.2.2.2.2.1) := by
 unfold spec_l4Any.f
 refine DrP.bind (spec_l1Below_ok b i h _ hc) (fun t1 h1 => ?_)
 refine DrP.bind (spec_l4Draw_ok b _ _ _ h1.2.2) (fun t2 h2 => ?_)
 refine DrP.bind (spec_l1Below_ok b _ _ _ h2) (fun t3 h3 => ?_)
 split
 ·exact DrP.bind (spec_l1Int_ok b _ _ _ (-9223372036854775808) 9223372036854775807 h3.2.2 (by simp) (by decide)) (fun t4 h4 => DrP.now h4.2.2)
 split
 ·exact DrP.bind (spec_l1Int_ok b _ _ _ (-9223372036854775808) 9223372036854775807 h3.2.2 (by simp) (by decide)) (fun t4 h4 => DrP.now h4.2.2)
 split
 ·exact DrP.bind (spec_l4Raw_ok b _ _ h3.2.2) (fun t4 h4 => DrP.now h4.2)
 split
 ·exact DrP.bind (spec_l4Raw_ok b _ _ h3.2.2) (fun t4 h4 => DrP.now h4.2)
 ·exact DrP.now h3.2.2
theorem spec_l5Any_ok (b : List Int) (i h : Int) (hc : Cur b i) : EvP (fun k => spec_l5Any.f k b i h) (fun t => t.1.length ≤ 7 ∧ Cur b t.2.1) := by
 unfold spec_l5Any.f
 refine EvP.bind (spec_l5Draw_ok b i h hc) (fun t1 h1 => ?_)
 refine EvP.bindD (spec_l1Once_ok b _ _ _ h1.2.2) (fun t2 h2 => ?_)
 refine EvP.ifd (fun _ => ?_) (fun _ => EvP.now ⟨h1.2.1, h2⟩)
 refine EvP.bindD (spec_l1Below_ok b _ _ _ h2) (fun t3 h3 => ?_)
 refine EvP.bindD (spec_l4Any_ok b _ _ h3.2.2) (fun t4 h4 => ?_)
 have h5 := h3.2.1 (by omega)
 simp only [h5.1, h5.2, if_true]
 exact EvP.now ⟨by rw [List.length_set]; exact h1.2.1, h4⟩
theorem spec_l21Cycle_ok (b : List Int) (i h : Int) (hc : Cur b i) : DrP (spec_l21Cycle.f b i h) (fun t => Cur b t.2.1) := by
 unfold spec_l21Cycle.f
 exact DrP.bind (spec_l1Int_cur b i h _ hc (by simp)) (fun t ht => DrP.now ht)
theorem spec_l21Window_ok (b : List Int) (i h a : Int) (hc : Cur b i) : DrP (spec_l21Window.f b i h a) (fun t => Cur b t.2.2.1) := by
 unfold spec_l21Window.f
 refine DrP.bind (spec_l1Below_ok b i h _ hc) (fun t1 h1 => ?_)
 refine DrP.bind (spec_l1Below_ok b _ _ _ h1.2.2) (fun t2 h2 => ?_)
 refine DrP.bind (spec_l1Below_ok b _ _ _ h2.2.2) (fun t3 h3 => ?_)
 split
 ·exact DrP.bind (spec_l1Int_cur b _ _ _ h3.2.2 (by simp)) (fun t4 h4 => DrP.now h4)
 split
 ·exact DrP.bind (spec_l1Int_cur b _ _ _ h3.2.2 (by simp)) (fun t4 h4 => DrP.now h4)
 ·exact DrP.now h3.2.2
theorem cnt_app (p : Int → Bool) : ∀ (m n : Nat) (s : Int), cnt p (m + n) s = cnt p m s + cnt p n (s + m)
 | 0, n, s => by simp [cnt]
 | m + 1, n, s => by
  rw [show m + 1 + n = (m + n) + 1 by omega]
  simp only [cnt]
  rw [cnt_app p m n (s + 1), show s + ((m + 1 : Nat) : Int) = s + 1 + (m : Int) by omega]
  omega
theorem cnt_round1 (p : Int → Bool) (c : Nat) (hp : ∀ x, p (x + c) = p x) (s : Int) : cnt p c (s + 1) = cnt p c s := by
 have h1 := cnt_app p 1 c s
 have h2 := cnt_app p c 1 s
 rw [show 1 + c = c + 1 by omega] at h1
 simp only [cnt] at h1 h2
 rw [hp s] at h2
 have e : s + ((1 : Nat) : Int) = s + 1 := rfl
 rw [e] at h1
 omega
theorem cnt_round (p : Int → Bool) (c : Nat) (hp : ∀ x, p (x + c) = p x) (s : Int) : ∀ k : Nat, cnt p c (s + k) = cnt p c s
 | 0 => by simp
 | k + 1 => by
  rw [show s + ((k + 1 : Nat) : Int) = s + k + 1 by omega, cnt_round1 p c hp, cnt_round p c hp s k]
theorem cnt_any (p : Int → Bool) (c : Nat) (hp : ∀ x, p (x + c) = p x) (u : Int) : cnt p c u = cnt p c 0 := by
 by_cases h : 0 ≤ u
 ·have := cnt_round p c hp 0 u.toNat
  rwa [show (0 : Int) + (u.toNat : Int) = u by omega] at this
 ·have := cnt_round p c hp u (-u).toNat
  rw [show u + ((-u).toNat : Int) = 0 by omega] at this
  exact this.symm
theorem cnt_all (p : Int → Bool) : ∀ (n : Nat) (s : Int), (∀ x : Int, s ≤ x → x < s + n → p x = true) → cnt p n s = n
 | 0, _, _ => rfl
 | n + 1, s, h => by
  simp only [cnt]
  rw [h s (by omega) (by omega), cnt_all p n (s + 1) (fun x h1 h2 => h x (by omega) (by omega))]
  simp; omega
/-- In a whole cycle, as many seconds lie within a window as it is long. -/
theorem cnt_win (c : Nat) (hc : 1 ≤ c) (g l : Int) (h0 : 0 ≤ l) (h1 : l ≤ c) : cnt (fun s => decide ((s - g) % (c : Int) < l)) c 0 = l := by
 have hp : ∀ x : Int, (fun s => decide ((s - g) % (c : Int) < l)) (x + c) = (fun s => decide ((s - g) % (c : Int) < l)) x := fun x => by
  simp only [show x + (c : Int) - g = x - g + (c : Int) by omega, Int.add_emod_right]
 rw [← cnt_any _ c hp g]
 obtain ⟨a, ha⟩ := Int.eq_ofNat_of_zero_le h0
 obtain ⟨b, hb⟩ : ∃ b, c = a + b := ⟨c - a, by omega⟩
 have := cnt_app (fun s => decide ((s - g) % (c : Int) < l)) a b g
 rw [← hb] at this
 rw [this, cnt_all _ a g, cnt_none _ b (g + a)]
 ·omega
 ·intro x h2 h3
  simp only [decide_eq_false_iff_not]
  rw [Int.emod_eq_of_lt (by omega) (by omega)]; omega
 ·intro x h2 h3
  simp only [decide_eq_true_eq]
  rw [Int.emod_eq_of_lt (by omega) (by omega)]; omega
theorem inWin {f l c o s : Int} (hw : isWindow f l c = true) (ho : -1000000 ≤ o ∧ o ≤ 1000000) (hs : -1000000 ≤ s ∧ s ≤ 1000000) : inWindow f l c o s = decide ((s - o - f) % c < l) := by
 unfold inWindow
 rw [hw, decide_eq_true ho, decide_eq_true hs]; rfl
/-- Two windows of a cycle, the second one g seconds behind the first one's start. -/
def both (af al bl : Int) (c : Int) (g : Int) (s : Int) : Bool := decide ((s - af) % c < al) && decide ((s - g) % c < bl)
theorem band_both (af al bf bl c t o : Int) (ha : isWindow af al c = true) (hb : isWindow bf bl c = true) (ht : 0 ≤ t ∧ t ≤ 100000) (ho : 0 ≤ o ∧ o ≤ 100000) : band af al bf bl c t o = cnt (both af al bl c (o + bf - t)) c.toNat 0 := by
 unfold band
 rw [ha, hb, decide_eq_true ht, decide_eq_true ho]
 simp only [Bool.and_true, if_true]
 have hc := (isWindow_iff _ _ _).1 ha
 refine cnt_congr _ _ _ _ (fun x h1 h2 => ?_)
 unfold bandP both
 rw [inWin ha (by omega) (by omega), inWin hb (by omega) (by omega)]
 rw [show x - 0 - af = x - af by omega, show x + t - o - bf = x - (o + bf - t) by omega]
theorem both_le (af al bl c g : Int) (hc : 1 ≤ c) (ha : 0 ≤ al ∧ al ≤ c) (hb : 0 ≤ bl ∧ bl ≤ c) : cnt (both af al bl c g) c.toNat 0 ≤ min al bl := by
 obtain ⟨n, hn⟩ := Int.eq_ofNat_of_zero_le (show 0 ≤ c by omega)
 subst hn
 have h1 := cnt_win n (by omega) af al ha.1 ha.2
 have h2 := cnt_win n (by omega) g bl hb.1 hb.2
 have h3 := cnt_mono (both af al bl n g) (fun s => decide ((s - af) % (n : Int) < al)) n 0 (fun x _ _ h => by unfold both at h; rw [Bool.and_eq_true] at h; exact h.1)
 have h4 := cnt_mono (both af al bl n g) (fun s => decide ((s - g) % (n : Int) < bl)) n 0 (fun x _ _ h => by unfold both at h; rw [Bool.and_eq_true] at h; exact h.2)
 rw [Int.toNat_natCast]
 omega
/-- The best offset has the greatest band: as many seconds as the narrower window. -/
theorem best_band (af al bf bl c t : Int) (ha : isWindow af al c = true) (hb : isWindow bf bl c = true) (ht : 0 ≤ t ∧ t ≤ 100000) : band af al bf bl c t (bestOffset af al bf bl c t) = min al bl := by
 have hA := (isWindow_iff _ _ _).1 ha
 have hB := (isWindow_iff _ _ _).1 hb
 have hbo : bestOffset af al bf bl c t = argBest (band af al bf bl c t) c.toNat := by
  unfold bestOffset; rw [ha, hb, decide_eq_true ht]; rfl
 have hbd := argBest_bd (band af al bf bl c t) c.toNat
 have hup : band af al bf bl c t (bestOffset af al bf bl c t) ≤ min al bl := by
  rw [hbo, band_both _ _ _ _ _ _ _ ha hb ht (by omega)]
  exact both_le _ _ _ _ _ (by omega) (by omega) (by omega)
 have hlo : min al bl ≤ band af al bf bl c t (bestOffset af al bf bl c t) := by
  have hm := argBest_max (band af al bf bl c t) c.toNat ((af + t - bf) % c).toNat (by have := Int.emod_lt_of_pos (af + t - bf) (show 0 < c by omega); have := Int.emod_nonneg (af + t - bf) (show c ≠ 0 by omega); omega)
  have h0 := Int.emod_nonneg (af + t - bf) (show c ≠ 0 by omega)
  have h1 := Int.emod_lt_of_pos (af + t - bf) (show 0 < c by omega)
  rw [Int.toNat_of_nonneg h0] at hm
  rw [hbo]
  refine Int.le_trans ?_ hm
  rw [band_both _ _ _ _ _ _ _ ha hb ht (by omega)]
  obtain ⟨n, hn⟩ := Int.eq_ofNat_of_zero_le (show 0 ≤ c by omega)
  have hw := cnt_win n (by omega) af (min al bl) (by omega) (by omega)
  rw [hn, Int.toNat_natCast, ← hw]
  apply Int.le_of_eq
  refine cnt_congr _ _ _ _ (fun x _ _ => ?_)
  unfold both
  have e : (x - ((af + t - bf) % (n : Int) + bf - t)) % (n : Int) = (x - af) % (n : Int) := by
   have e1 : (af + t - bf) % (n : Int) = (af + t - bf) - (n : Int) * ((af + t - bf) / (n : Int)) := Int.emod_def _ _
   rw [e1, show x - (af + t - bf - (n : Int) * ((af + t - bf) / (n : Int)) + bf - t) = x - af + (n : Int) * ((af + t - bf) / (n : Int)) by omega, Int.add_mul_emod_self_left]
  rw [e, ← Bool.decide_and]
  congr 1
  apply propext
  omega
 omega
/-- Whether two ways through the square cross, as the function finds it in at most 60 rounds. -/
def inter (a b c d : Int) : Bool := (impl_Interleave.f 60 a b c d).getD false
theorem inter_tab : ∀ f t g u : Fin 4, impl_Interleave.f 60 (2 * (f.val : Int)) (2 * (t.val : Int) + 1) (2 * (g.val : Int)) (2 * (u.val : Int) + 1) = some (inter (2 * (f.val : Int)) (2 * (t.val : Int) + 1) (2 * (g.val : Int)) (2 * (u.val : Int) + 1)) ∧ (f = g → inter (2 * (f.val : Int)) (2 * (t.val : Int) + 1) (2 * (g.val : Int)) (2 * (u.val : Int) + 1) = false) := by decide +kernel
theorem four {n : Int} (h : 0 ≤ n ∧ n ≤ 3) : ∃ f : Fin 4, n = (f.val : Int) := ⟨⟨n.toNat, by omega⟩, by show n = ((n.toNat : Nat) : Int); omega⟩
theorem impl_inter {a b c d : Int} (ha : 0 ≤ a ∧ a ≤ 3) (hb : 0 ≤ b ∧ b ≤ 3) (hc : 0 ≤ c ∧ c ≤ 3) (hd : 0 ≤ d ∧ d ≤ 3) : Ev (fun k => impl_Interleave.f k (2 * a) (2 * b + 1) (2 * c) (2 * d + 1)) (inter (2 * a) (2 * b + 1) (2 * c) (2 * d + 1)) ∧ (a = c → inter (2 * a) (2 * b + 1) (2 * c) (2 * d + 1) = false) := by
 obtain ⟨f, rfl⟩ := four ha
 obtain ⟨t, rfl⟩ := four hb
 obtain ⟨g, rfl⟩ := four hc
 obtain ⟨u, rfl⟩ := four hd
 have := inter_tab f t g u
 exact ⟨Ev.of (fun k => impl_Interleave.mono _ _ _ _ k) this.1, fun e => this.2 (Fin.ext (by omega))⟩
def conflict (a b : S71) : Bool := isP a && isP b && !(decide (a.f1 = 2) && decide (b.f1 = 2)) && (if a.f1 = 2 then decide (b.f2 = a.f2) || decide (b.f3 = a.f2) else if b.f1 = 2 then decide (a.f2 = b.f2) || decide (a.f3 = b.f2) else !decide (a.f2 = b.f2) && (decide (a.f3 = b.f3) || inter (2 * a.f2) (2 * a.f3 + 1) (2 * b.f2) (2 * b.f3 + 1)))
theorem impl_InPlace_eq {n : Int} (h : 0 ≤ n ∧ n ≤ 3) : impl_InPlace.f n = some (2 * n) := by
 unfold impl_InPlace.f; rw [impl_InRange_eq, decide_eq_true h]; simp only [Option.bind_some, if_true]; rw [wrap_id (by omega) (by omega)]
theorem impl_OutPlace_eq {n : Int} (h : 0 ≤ n ∧ n ≤ 3) : impl_OutPlace.f n = some (2 * n + 1) := by
 unfold impl_OutPlace.f; rw [impl_InRange_eq, decide_eq_true h]; simp only [Option.bind_some, if_true]; rw [wrap_id (n := 2 * n) (by omega) (by omega), wrap_id (by omega) (by omega)]
theorem or_beq (p : Prop) [Decidable p] (x y : Int) (A : Nat → Option Bool) (h : A = fun _ => if p then some true else some (x == y)) : Ev A (decide p || decide (x = y)) := by
 subst h
 refine Ev.pure ?_
 by_cases hp : p
 ·simp [hp]
 ·simp [hp]; rfl
theorem impl_Conflict_eq (a b : S71) : Ev (fun k => impl_Conflict.f k a.f0 a.f1 a.f2 a.f3 b.f0 b.f1 b.f2 b.f3) (conflict a b) := by
 have hj : ∀ x : Bool, (x = false → isP a = true ∧ isP b = true ∧ ¬ (a.f1 = 2 ∧ b.f1 = 2)) → Ev (fun k => impl_Conflict.j0 k x a.f0 a.f1 a.f2 a.f3 b.f0 b.f1 b.f2 b.f3) (!x && (if a.f1 = 2 then decide (b.f2 = a.f2) || decide (b.f3 = a.f2) else if b.f1 = 2 then decide (a.f2 = b.f2) || decide (a.f3 = b.f2) else !decide (a.f2 = b.f2) && (decide (a.f3 = b.f3) || inter (2 * a.f2) (2 * a.f3 + 1) (2 * b.f2) (2 * b.f3 + 1)))) := by
  intro x hx
  refine Ev.succ ?_
  cases x
  ·obtain ⟨h1, h2, _⟩ := hx rfl
   have ha := isPath_bd h1
   have hb := isPath_bd h2
   simp only [impl_Conflict.j0, Bool.false_eq_true, if_false, Bool.not_false, Bool.true_and]
   by_cases ka : a.f1 = 2
   ·simp only [ka, if_true]
    exact or_beq _ _ _ _ rfl
   simp only [ka, if_false]
   by_cases kb : b.f1 = 2
   ·simp only [kb, if_true]
    exact or_beq _ _ _ _ rfl
   simp only [kb, if_false]
   have hi := impl_inter (a := a.f2) (b := a.f3) (c := b.f2) (d := b.f3) (by omega) (by omega) (by omega) (by omega)
   simp only [impl_InPlace_eq (n := a.f2) (by omega), impl_OutPlace_eq (n := a.f3) (by omega), impl_InPlace_eq (n := b.f2) (by omega), impl_OutPlace_eq (n := b.f3) (by omega), Option.bind_some]
   by_cases e : a.f2 = b.f2
   ·have := hi.2 e
    simp only [e, if_true, decide_true, Bool.not_true, Bool.false_and]
    rw [e] at hi this
    exact evq (Ev.bind hi.1 (Ev.now _)) this
   ·simp only [e, if_false, decide_false, Bool.not_false, Bool.true_and]
    by_cases e2 : a.f3 = b.f3
    ·simp only [e2, if_true, decide_true, Bool.true_or]; exact Ev.now _
    ·simp only [e2, if_false, decide_false, Bool.false_or]
     exact Ev.bind hi.1 (Ev.now _)
  ·simp only [impl_Conflict.j0, if_true, Bool.not_true, Bool.false_and]; exact Ev.now _
 unfold impl_Conflict.f conflict isP
 simp only [impl_IsPath_eq, Option.bind_some]
 cases h1 : isPath a.f0 a.f1 a.f2 a.f3
 ·simpa using hj true (by simp)
 cases h2 : isPath b.f0 b.f1 b.f2 b.f3
 ·simpa using hj true (by simp)
 by_cases ka : a.f1 = 2
 ·by_cases kb : b.f1 = 2
  ·simpa [ka, kb] using hj true (by simp)
  ·have e : (b.f1 == 2) = false := by simp [kb]
   have := hj false (fun _ => ⟨h1, h2, fun h => kb h.2⟩)
   simp only [ka, e, kb, if_true, decide_true, decide_false, Bool.and_false, Bool.not_false, Bool.true_and] at this ⊢
   exact this
 ·have := hj false (fun _ => ⟨h1, h2, fun h => ka h.1⟩)
  simp only [ka, if_false, if_true, decide_false, Bool.false_and, Bool.not_false, Bool.true_and] at this ⊢
  exact this
theorem inter_tabS : ∀ f t g u : Fin 4, spec_Interleave.f 60 (2 * (f.val : Int)) (2 * (t.val : Int) + 1) (2 * (g.val : Int)) (2 * (u.val : Int) + 1) = some (inter (2 * (f.val : Int)) (2 * (t.val : Int) + 1) (2 * (g.val : Int)) (2 * (u.val : Int) + 1)) := by decide +kernel
theorem spec_inter {a b c d : Int} (ha : 0 ≤ a ∧ a ≤ 3) (hb : 0 ≤ b ∧ b ≤ 3) (hc : 0 ≤ c ∧ c ≤ 3) (hd : 0 ≤ d ∧ d ≤ 3) : Ev (fun k => spec_Interleave.f k (2 * a) (2 * b + 1) (2 * c) (2 * d + 1)) (inter (2 * a) (2 * b + 1) (2 * c) (2 * d + 1)) := by
 obtain ⟨f, rfl⟩ := four ha
 obtain ⟨t, rfl⟩ := four hb
 obtain ⟨g, rfl⟩ := four hc
 obtain ⟨u, rfl⟩ := four hd
 exact Ev.of (fun k => spec_Interleave.mono _ _ _ _ k) (inter_tabS f t g u)
theorem spec_InPlace_eq {n : Int} (h : 0 ≤ n ∧ n ≤ 3) : spec_InPlace.f n = some (2 * n) := by
 unfold spec_InPlace.f; rw [spec_l1In_eq, decide_eq_true h]; simp only [Option.bind_some, if_true]; rw [wrap_id (by omega) (by omega)]
theorem spec_OutPlace_eq {n : Int} (h : 0 ≤ n ∧ n ≤ 3) : spec_OutPlace.f n = some (2 * n + 1) := by
 unfold spec_OutPlace.f; rw [spec_l1In_eq, decide_eq_true h]; simp only [Option.bind_some, if_true]; rw [wrap_id (n := 2 * n) (by omega) (by omega), wrap_id (by omega) (by omega)]
theorem spec_Conflict_eq (a b : S71) : Ev (fun k => spec_Conflict.f k a.f0 a.f1 a.f2 a.f3 b.f0 b.f1 b.f2 b.f3) (conflict a b) := by
 have hj : ∀ x : Bool, (x = false → isP a = true ∧ isP b = true ∧ ¬ (a.f1 = 2 ∧ b.f1 = 2)) → Ev (fun k => spec_Conflict.j0 k x a.f0 a.f1 a.f2 a.f3 b.f0 b.f1 b.f2 b.f3) (!x && (if a.f1 = 2 then decide (b.f2 = a.f2) || decide (b.f3 = a.f2) else if b.f1 = 2 then decide (a.f2 = b.f2) || decide (a.f3 = b.f2) else !decide (a.f2 = b.f2) && (decide (a.f3 = b.f3) || inter (2 * a.f2) (2 * a.f3 + 1) (2 * b.f2) (2 * b.f3 + 1)))) := by
  intro x hx
  refine Ev.succ ?_
  cases x
  ·obtain ⟨h1, h2, _⟩ := hx rfl
   have ha := isPath_bd h1
   have hb := isPath_bd h2
   simp only [spec_Conflict.j0, Bool.false_eq_true, if_false, Bool.not_false, Bool.true_and]
   by_cases ka : a.f1 = 2
   ·simp only [ka, if_true]
    exact or_beq _ _ _ _ rfl
   simp only [ka, if_false]
   by_cases kb : b.f1 = 2
   ·simp only [kb, if_true]
    exact or_beq _ _ _ _ rfl
   simp only [kb, if_false]
   have hi := spec_inter (a := a.f2) (b := a.f3) (c := b.f2) (d := b.f3) (by omega) (by omega) (by omega) (by omega)
   simp only [spec_InPlace_eq (n := a.f2) (by omega), spec_OutPlace_eq (n := a.f3) (by omega), spec_InPlace_eq (n := b.f2) (by omega), spec_OutPlace_eq (n := b.f3) (by omega), Option.bind_some]
   by_cases e : a.f2 = b.f2
   ·simp only [e, if_true, decide_true, Bool.not_true, Bool.false_and]
    exact Ev.now _
   ·simp only [e, if_false, decide_false, Bool.not_false, Bool.true_and]
    by_cases e2 : a.f3 = b.f3
    ·simp only [e2, if_true, decide_true, Bool.true_or]; exact Ev.now _
    ·simp only [e2, if_false, decide_false, Bool.false_or]
     exact Ev.bind hi (Ev.now _)
  ·simp only [spec_Conflict.j0, if_true, Bool.not_true, Bool.false_and]; exact Ev.now _
 unfold spec_Conflict.f conflict isP
 simp only [spec_IsPath_eq, Option.bind_some]
 cases h1 : isPath a.f0 a.f1 a.f2 a.f3
 ·simpa using hj true (by simp)
 cases h2 : isPath b.f0 b.f1 b.f2 b.f3
 ·simpa using hj true (by simp)
 by_cases ka : a.f1 = 2
 ·by_cases kb : b.f1 = 2
  ·simpa [ka, kb] using hj true (by simp)
  ·have e : (b.f1 == 2) = false := by simp [kb]
   have := hj false (fun _ => ⟨h1, h2, fun h => kb h.2⟩)
   simp only [ka, e, kb, if_true, decide_true, decide_false, Bool.and_false, Bool.not_false, Bool.true_and] at this ⊢
   exact this
 ·have := hj false (fun _ => ⟨h1, h2, fun h => ka h.1⟩)
  simp only [ka, if_false, if_true, decide_false, Bool.false_and, Bool.not_false, Bool.true_and] at this ⊢
  exact this
def confAt (l : List S71) (a b : Int) : Bool := conflict (rd_T71 l (findP l a)) (rd_T71 l (findP l b))
def tgAt (l : List S71) (v : List Int) (i : Nat) : Bool := decide (0 ≤ findP l (rd v (i : Int))) && (decide (i = 0) || !decide (rd v (i : Int) ≤ rd v ((i : Int) - 1))) && (List.range i).all (fun (j : Nat) => !confAt l (rd v (i : Int)) (rd v (j : Int)))
def together (l : List S71) (v : List Int) : Bool := (List.range v.length).all (tgAt l v) && arePaths l
theorem together_at {l : List S71} {v : List Int} (h : together l v = true) (i : Nat) (hi : i < v.length) : 0 ≤ findP l (rd v (i : Int)) := by
 unfold together at h
 simp only [Bool.and_eq_true, List.all_eq_true, List.mem_range] at h
 have := h.1 i hi
 unfold tgAt at this
 simp only [Bool.and_eq_true, decide_eq_true_eq] at this
 exact this.1.1
theorem impl_IsTogether_eq (l : List S71) (v : List Int) (hl : l.length ≤ 1048576) (hv : v.length ≤ 1048576) : Ev (fun k => impl_IsTogether.f k l v) (together l v) := by
 unfold impl_IsTogether.f together
 refine Ev.bind (impl_ArePaths_eq l hl) ?_
 cases ha : arePaths l
 ·simp only [Bool.false_eq_true, if_false, Bool.and_false]; exact Ev.now _
 simp only [if_true, Bool.and_true]
 have inner : ∀ (i : Nat) (r : Bool), i < v.length → (∀ j : Nat, j ≤ i → 0 ≤ findP l (rd v (j : Int))) → Ev (fun k => impl_IsTogether.l0 k l v v (v.length : Int) ((i : Int) + 1)) r → Ev (fun k => impl_IsTogether.l1 k l v (findP l (rd v (i : Int))) v (v.length : Int) (i : Int) (v.take i) (((v.take i).length : Nat) : Int) 0) ((List.range i).all (fun (j : Nat) => !confAt l (rd v (i : Int)) (rd v (j : Int))) && r) := by
  intro i r hi hf hr
  have hlt : (v.take i).length = i := by rw [List.length_take]; omega
  have hrd : ∀ j : Nat, j < i → rd (v.take i) (j : Int) = rd v (j : Int) := fun j hj => by rw [rd_nat _ _ (by omega), rd_nat _ _ (by omega)]; simp
  have h1 := hf i (Nat.le_refl i)
  have h2 := findP_hi l (rd v (i : Int))
  rw [hlt]
  refine evAnd (g := fun k j => impl_IsTogether.l1 k l v (findP l (rd v (i : Int))) v (v.length : Int) (i : Int) (v.take i) (i : Int) j) (fun j s h hP hs => ?_) (fun j h hP => ?_) ?_
  ·refine Ev.succ ?_
   have h3 := hf j (by omega)
   have h4 := findP_hi l (rd v (j : Int))
   rw [Bool.not_eq_true'] at hP
   simp only [impl_IsTogether.l1, show (j : Int) < (i : Int) by omega, show (0 : Int) ≤ (j : Int) by omega, hlt, hrd j h, h1, h2, h3, h4, if_true, impl_FindPath_eq, Option.bind_some, wrap_id (n := (j : Int) + 1) (by omega) (by omega)]
   refine Ev.bind (impl_Conflict_eq _ _) ?_
   unfold confAt at hP
   simp only [hP, Bool.false_eq_true, if_false]
   exact hs
  ·refine Ev.succ ?_
   have h3 := hf j (by omega)
   have h4 := findP_hi l (rd v (j : Int))
   rw [Bool.not_eq_false'] at hP
   simp only [impl_IsTogether.l1, show (j : Int) < (i : Int) by omega, show (0 : Int) ≤ (j : Int) by omega, hlt, hrd j h, h1, h2, h3, h4, if_true, impl_FindPath_eq, Option.bind_some]
   refine Ev.bind (impl_Conflict_eq _ _) ?_
   unfold confAt at hP
   simp only [hP, if_true]
   exact Ev.now _
  ·refine Ev.succ ?_
   simp only [impl_IsTogether.l1, Int.lt_irrefl, if_false, wrap_id (n := (i : Int) + 1) (by omega) (by omega)]
   exact hr
 have key : ∀ (d i : Nat), i + d = v.length → (∀ j : Nat, j < i → 0 ≤ findP l (rd v (j : Int))) → Ev (fun k => impl_IsTogether.l0 k l v v (v.length : Int) (i : Int)) ((List.range' i d).all (tgAt l v)) := by
  intro d
  induction d with
  | zero =>
   intro i hi hf
   refine Ev.succ ?_
   simp only [impl_IsTogether.l0, show ¬ (i : Int) < (v.length : Int) by omega, if_false]
   exact Ev.now _
  | succ d ih =>
   intro i hi hf
   refine Ev.succ ?_
   rw [List.range'_succ, List.all_cons]
   simp only [impl_IsTogether.l0, show (i : Int) < (v.length : Int) by omega, show (0 : Int) ≤ (i : Int) by omega, if_true, impl_FindPath_eq, Option.bind_some]
   have hj : ∀ b : Bool, 0 ≤ findP l (rd v (i : Int)) ∨ b = true → Ev (fun k => impl_IsTogether.j1 k l v (i : Int) (findP l (rd v (i : Int))) v (v.length : Int) (i : Int) b) (!b && ((List.range i).all (fun (j : Nat) => !confAt l (rd v (i : Int)) (rd v (j : Int))) && (List.range' (i + 1) d).all (tgAt l v))) := by
    intro b hb
    refine Ev.succ ?_
    cases b
    ·have h0 : 0 ≤ findP l (rd v (i : Int)) := by rcases hb with h | h; exact h; cases h
     simp only [impl_IsTogether.j1, Bool.false_eq_true, if_false, show (0 : Int) ≤ (i : Int) by omega, show (i : Int) ≤ (v.length : Int) by omega, if_true, Bool.not_false, Bool.true_and, Int.toNat_natCast]
     have hf' : ∀ j : Nat, j < i + 1 → 0 ≤ findP l (rd v (j : Int)) := fun j hj => by
      by_cases e : j = i
      ·rw [e]; exact h0
      ·exact hf j (by omega)
     refine inner i _ (by omega) (fun j hj => hf' j (by omega)) ?_
     have := ih (i + 1) (by omega) hf'
     rwa [show ((i + 1 : Nat) : Int) = (i : Int) + 1 by omega] at this
    ·simp only [impl_IsTogether.j1, if_true, Bool.not_true, Bool.false_and]; exact Ev.now _
   by_cases h0 : findP l (rd v (i : Int)) < 0
   ·simp only [h0, if_true]
    exact evq (hj true (.inr rfl)) (by simp [tgAt, show ¬ 0 ≤ findP l (rd v (i : Int)) by omega])
   ·simp only [h0, if_false]
    by_cases hi0 : i = 0
    ·subst hi0
     simp only [show ¬ (((0 : Nat) : Int) > 0) by omega, if_false]
     refine evq (hj false (.inl (by omega))) ?_
     unfold tgAt
     rw [decide_eq_true (show 0 ≤ findP l (rd v ((0 : Nat) : Int)) by omega)]
     simp
    ·simp only [show (i : Int) > 0 by omega, if_true, wrap_id (n := (i : Int) - 1) (by omega) (by omega), show (0 : Int) ≤ (i : Int) - 1 by omega, show (i : Int) - 1 < (v.length : Int) by omega]
     refine evq (hj _ (.inl (by omega))) ?_
     unfold tgAt
     rw [decide_eq_true (show 0 ≤ findP l (rd v (i : Int)) by omega), decide_eq_false hi0]
     simp only [Bool.true_and, Bool.false_or, Bool.and_assoc]
 have := key v.length 0 (by omega) (fun j hj => absurd hj (by omega))
 rwa [← List.range_eq_range'] at this
theorem spec_IsTogether_eq (l : List S71) (v : List Int) (hl : l.length ≤ 1048576) (hv : v.length ≤ 1048576) : Ev (fun k => spec_IsTogether.f k l v) (together l v) := by
 unfold spec_IsTogether.f together
 have inner : ∀ (i : Nat) (r : Bool), i < v.length → (∀ j : Nat, j ≤ i → 0 ≤ findP l (rd v (j : Int))) → Ev (fun k => spec_IsTogether.l0 k l v ((i : Int) + 1)) r → Ev (fun k => spec_IsTogether.l1 k l v (i : Int) (findP l (rd v (i : Int))) 0) ((List.range i).all (fun (j : Nat) => !confAt l (rd v (i : Int)) (rd v (j : Int))) && r) := by
  intro i r hi hf hr
  have h1 := hf i (Nat.le_refl i)
  have h2 := findP_hi l (rd v (i : Int))
  refine evAnd (g := fun k j => spec_IsTogether.l1 k l v (i : Int) (findP l (rd v (i : Int))) j) (fun j s h hP hs => ?_) (fun j h hP => ?_) ?_
  ·refine Ev.succ ?_
   have h3 := hf j (by omega)
   have h4 := findP_hi l (rd v (j : Int))
   rw [Bool.not_eq_true'] at hP
   simp only [spec_IsTogether.l1, show (j : Int) < (i : Int) by omega, show (j : Int) < (v.length : Int) by omega, show (0 : Int) ≤ (j : Int) by omega, h1, h2, if_true, wrap_id (n := (j : Int) + 1) (by omega) (by omega)]
   refine Ev.bind (spec_FindPath_eq l _ hl) ?_
   simp only [h3, h4, if_true]
   refine Ev.bind (spec_Conflict_eq _ _) ?_
   unfold confAt at hP
   simp only [hP, Bool.false_eq_true, if_false]
   exact hs
  ·refine Ev.succ ?_
   have h3 := hf j (by omega)
   have h4 := findP_hi l (rd v (j : Int))
   rw [Bool.not_eq_false'] at hP
   simp only [spec_IsTogether.l1, show (j : Int) < (i : Int) by omega, show (j : Int) < (v.length : Int) by omega, show (0 : Int) ≤ (j : Int) by omega, h1, h2, if_true]
   refine Ev.bind (spec_FindPath_eq l _ hl) ?_
   simp only [h3, h4, if_true]
   refine Ev.bind (spec_Conflict_eq _ _) ?_
   unfold confAt at hP
   simp only [hP, if_true]
   exact Ev.now _
  ·refine Ev.succ ?_
   simp only [spec_IsTogether.l1, Int.lt_irrefl, if_false, wrap_id (n := (i : Int) + 1) (by omega) (by omega)]
   exact hr
 have key : ∀ (d i : Nat), i + d = v.length → (∀ j : Nat, j < i → 0 ≤ findP l (rd v (j : Int))) → Ev (fun k => spec_IsTogether.l0 k l v (i : Int)) ((List.range' i d).all (tgAt l v) && arePaths l) := by
  intro d
  induction d with
  | zero =>
   intro i hi hf
   refine Ev.succ ?_
   simp only [spec_IsTogether.l0, show ¬ (i : Int) < (v.length : Int) by omega, if_false]
   exact Ev.bind (spec_ArePaths_eq l hl) (Ev.now _)
  | succ d ih =>
   intro i hi hf
   refine Ev.succ ?_
   rw [List.range'_succ, List.all_cons]
   simp only [spec_IsTogether.l0, show (i : Int) < (v.length : Int) by omega, show (0 : Int) ≤ (i : Int) by omega, if_true]
   refine Ev.bind (spec_FindPath_eq l _ hl) ?_
   have hj : ∀ b : Bool, 0 ≤ findP l (rd v (i : Int)) ∨ b = true → Ev (fun k => spec_IsTogether.j1 k l v (i : Int) (findP l (rd v (i : Int))) b) (!b && ((List.range i).all (fun (j : Nat) => !confAt l (rd v (i : Int)) (rd v (j : Int))) && ((List.range' (i + 1) d).all (tgAt l v) && arePaths l))) := by
    intro b hb
    refine Ev.succ ?_
    cases b
    ·have h0 : 0 ≤ findP l (rd v (i : Int)) := by rcases hb with h | h; exact h; cases h
     simp only [spec_IsTogether.j1, Bool.false_eq_true, if_false, Bool.not_false, Bool.true_and]
     have hf' : ∀ j : Nat, j < i + 1 → 0 ≤ findP l (rd v (j : Int)) := fun j hj => by
      by_cases e : j = i
      ·rw [e]; exact h0
      ·exact hf j (by omega)
     refine inner i _ (by omega) (fun j hj => hf' j (by omega)) ?_
     have := ih (i + 1) (by omega) hf'
     rwa [show ((i + 1 : Nat) : Int) = (i : Int) + 1 by omega] at this
    ·simp only [spec_IsTogether.j1, if_true, Bool.not_true, Bool.false_and]; exact Ev.now _
   by_cases h0 : findP l (rd v (i : Int)) < 0
   ·simp only [h0, if_true]
    exact evq (hj true (.inr rfl)) (by simp [tgAt, show ¬ 0 ≤ findP l (rd v (i : Int)) by omega])
   ·simp only [h0, if_false]
    by_cases hi0 : i = 0
    ·subst hi0
     simp only [show ¬ (((0 : Nat) : Int) > 0) by omega, if_false]
     refine evq (hj false (.inl (by omega))) ?_
     unfold tgAt
     rw [decide_eq_true (show 0 ≤ findP l (rd v ((0 : Nat) : Int)) by omega)]
     simp [Bool.and_assoc]
    ·simp only [show (i : Int) > 0 by omega, if_true, wrap_id (n := (i : Int) - 1) (by omega) (by omega), show (0 : Int) ≤ (i : Int) - 1 by omega, show (i : Int) - 1 < (v.length : Int) by omega]
     refine evq (hj _ (.inl (by omega))) ?_
     unfold tgAt
     rw [decide_eq_true (show 0 ≤ findP l (rd v (i : Int)) by omega), decide_eq_false hi0]
     simp only [Bool.true_and, Bool.false_or, Bool.and_assoc, ge_iff_le]
 have := key v.length 0 (by omega) (fun j hj => absurd hj (by omega))
 rwa [← List.range_eq_range'] at this
def closes (a b : List Int) : List Int := a.filter (fun x => !decide (x ∈ b))
theorem closes_le (a b : List Int) : (closes a b).length ≤ a.length := List.length_filter_le _ _
theorem closes_mem {a b : List Int} {x : Int} (h : x ∈ closes a b) : x ∈ a := (List.mem_filter.1 h).1
theorem closes_step (a b : List Int) (i : Nat) (h : i < a.length) : closes (a.drop i) b = (if a[i] ∈ b then [] else [a[i]]) ++ closes (a.drop (i + 1)) b := by
 unfold closes
 rw [List.drop_eq_getElem_cons h, List.filter_cons]
 by_cases e : a[i] ∈ b <;> simp [e]
theorem impl_Closes_eq (a b : List Int) (ha : a.length ≤ 1048576) (hb : b.length ≤ 1048576) : Ev (fun k => impl_Closes.f k a b) (closes a b) := by
 unfold impl_Closes.f impl_sieve.f
 have key : ∀ (d i : Nat) (o : List Int), o.length ≤ i → i + d = a.length → Ev (fun k => impl_sieve.l0 k b false o a (a.length : Int) (i : Int)) (o ++ closes (a.drop i) b) := by
  intro d
  induction d with
  | zero =>
   intro i o ho hi
   refine Ev.succ ?_
   simp only [impl_sieve.l0, show ¬ (i : Int) < (a.length : Int) by omega, if_false]
   exact evq (Ev.now _) (by rw [List.drop_eq_nil_of_le (show a.length ≤ i by omega)]; simp [closes])
  | succ d ih =>
   intro i o ho hi
   refine Ev.succ ?_
   have hi2 : i < a.length := by omega
   simp only [impl_sieve.l0, show (i : Int) < (a.length : Int) by omega, show (0 : Int) ≤ (i : Int) by omega, if_true, rd_nat _ _ hi2, wrap_id (n := (i : Int) + 1) (by omega) (by omega), show o.length < 17592186044416 by omega]
   refine Ev.bind (slices_Contains_eq _ _ (by omega)) ?_
   rw [closes_step a b i hi2]
   by_cases e : a[i] ∈ b
   ·have := ih (i + 1) o (by omega) (by omega)
    rw [show ((i + 1 : Nat) : Int) = (i : Int) + 1 by omega] at this
    simpa [e] using this
   ·have := ih (i + 1) (o ++ [a[i]]) (by rw [List.length_append, List.length_singleton]; omega) (by omega)
    rw [show ((i + 1 : Nat) : Int) = (i : Int) + 1 by omega] at this
    simpa [e] using this
 exact Ev.bind (by simpa using key a.length 0 [] (Nat.le_refl _) (by omega)) (Ev.now _)
def clrOf (l : List S71) (x : Int) : Int := clearOf (rd_T71 l (findP l x)).f0 (rd_T71 l (findP l x)).f1 (rd_T71 l (findP l x)).f2 (rd_T71 l (findP l x)).f3
def cbIn (l : List S71) (x : Int) (ys : List Int) (m : Int) : Int := ys.foldl (fun m y => if confAt l x y then max m (clrOf l x) else m) m
def cbOut (l : List S71) (xs ys : List Int) (m : Int) : Int := xs.foldl (fun m x => cbIn l x ys m) m
def clearBetween (l : List S71) (a b : List Int) : Int := if together l a && together l b then cbOut l (closes a b) (closes b a) 0 else 0
theorem together_mem {l : List S71} {v : List Int} (h : together l v = true) {x : Int} (hx : x ∈ v) : 0 ≤ findP l x := by
 obtain ⟨i, hi, rfl⟩ := List.getElem_of_mem hx
 have := together_at h i hi
 rwa [rd_nat _ _ hi] at this
theorem mx_max (a b : Int) : mx a b = max a b := by unfold mx; omega
theorem impl_ClearBetween_eq (l : List S71) (a b : List Int) (hl : l.length ≤ 1048576) (ha : a.length ≤ 1048576) (hb : b.length ≤ 1048576) : Ev (fun k => impl_ClearBetween.f k l a b) (clearBetween l a b) := by
 unfold impl_ClearBetween.f clearBetween
 refine Ev.bind (impl_IsTogether_eq l a hl ha) ?_
 cases h1 : together l a
 ·simp only [Bool.false_eq_true, if_false, Bool.false_and]
  refine Ev.succ ?_
  simp only [impl_ClearBetween.j0, if_true]; exact Ev.now _
 simp only [if_true, Bool.true_and]
 refine Ev.bind (impl_IsTogether_eq l b hl hb) ?_
 refine Ev.succ ?_
 cases h2 : together l b
 ·simp only [impl_ClearBetween.j0, Bool.not_false, if_true, Bool.false_eq_true, if_false]; exact Ev.now _
 simp only [impl_ClearBetween.j0, Bool.not_true, Bool.false_eq_true, if_false, if_true]
 refine Ev.bind (impl_Closes_eq a b ha hb) ?_
 have hx : ∀ x ∈ closes a b, 0 ≤ findP l x := fun x h => together_mem h1 (closes_mem h)
 have hy : ∀ x ∈ closes b a, 0 ≤ findP l x := fun x h => together_mem h2 (closes_mem h)
 have lx := closes_le a b
 have ly := closes_le b a
 have hC := impl_Closes_eq b a hb ha
 generalize closes a b = xs at hx lx
 generalize closes b a = ys at hy ly hC
 have inner : ∀ (i : Nat) (hi : i < xs.length) (r : Int → Int), (∀ m : Int, Ev (fun k => impl_ClearBetween.l0 k l a b m xs (xs.length : Int) ((i : Int) + 1)) (r m)) → ∀ (d j : Nat) (m : Int), j + d = ys.length → Ev (fun k => impl_ClearBetween.l1 k l a b m (xs[i]) xs (xs.length : Int) (i : Int) ys (ys.length : Int) (j : Int)) (r (cbIn l xs[i] (ys.drop j) m)) := by
  intro i hi r hr d
  induction d with
  | zero =>
   intro j m hj
   refine Ev.succ ?_
   simp only [impl_ClearBetween.l1, show ¬ (j : Int) < (ys.length : Int) by omega, if_false, wrap_id (n := (i : Int) + 1) (by omega) (by omega)]
   refine evq (hr m) ?_
   rw [List.drop_eq_nil_of_le (show ys.length ≤ j by omega)]; rfl
  | succ d ih =>
   intro j m hj
   refine Ev.succ ?_
   have hj2 : j < ys.length := by omega
   have f1 := hx _ (List.getElem_mem hi)
   have f2 := findP_hi l xs[i]
   have f3 := hy _ (List.getElem_mem hj2)
   have f4 := findP_hi l ys[j]
   simp only [impl_ClearBetween.l1, show (j : Int) < (ys.length : Int) by omega, show (0 : Int) ≤ (j : Int) by omega, if_true, rd_nat _ _ hj2, impl_FindPath_eq, Option.bind_some, f1, f2, f3, f4, wrap_id (n := (j : Int) + 1) (by omega) (by omega)]
   refine Ev.bind (impl_Conflict_eq _ _) ?_
   have ih' := fun m => ih (j + 1) m (by omega)
   rw [show ((j + 1 : Nat) : Int) = (j : Int) + 1 by omega] at ih'
   have e : cbIn l xs[i] (ys.drop j) m = cbIn l xs[i] (ys.drop (j + 1)) (if confAt l xs[i] ys[j] then max m (clrOf l xs[i]) else m) := by
    unfold cbIn; rw [List.drop_eq_getElem_cons hj2, List.foldl_cons]
   rw [e]
   show Ev (fun k => if confAt l xs[i] ys[j] = true then _ else _) _
   cases hc : confAt l xs[i] ys[j]
   ·simp only [Bool.false_eq_true, if_false]; exact ih' m
   ·simp only [if_true]
    refine Ev.bind (impl_ClearOf_ev _ _ _ _) ?_
    simp only [mx_max]
    exact ih' _
 have outer : ∀ (d i : Nat) (m : Int), i + d = xs.length → Ev (fun k => impl_ClearBetween.l0 k l a b m xs (xs.length : Int) (i : Int)) (cbOut l (xs.drop i) ys m) := by
  intro d
  induction d with
  | zero =>
   intro i m hi
   refine Ev.succ ?_
   simp only [impl_ClearBetween.l0, show ¬ (i : Int) < (xs.length : Int) by omega, if_false]
   refine evq (Ev.now _) ?_
   rw [List.drop_eq_nil_of_le (show xs.length ≤ i by omega)]; rfl
  | succ d ih =>
   intro i m hi
   refine Ev.succ ?_
   have hi2 : i < xs.length := by omega
   simp only [impl_ClearBetween.l0, show (i : Int) < (xs.length : Int) by omega, show (0 : Int) ≤ (i : Int) by omega, if_true, rd_nat _ _ hi2]
   refine Ev.bind hC ?_
   have := inner i hi2 (fun m => cbOut l (xs.drop (i + 1)) ys m) (fun m => by
    have := ih (i + 1) m (by omega)
    rwa [show ((i + 1 : Nat) : Int) = (i : Int) + 1 by omega] at this) ys.length 0 m (by omega)
   refine evq this ?_
   unfold cbOut
   rw [List.drop_eq_getElem_cons hi2, List.foldl_cons]; rfl
 exact outer xs.length 0 0 (by omega)
def walkAt (l : List S71) (x : Int) : Bool := decide (0 ≤ findP l x) && decide ((rd_T71 l (findP l x)).f1 = 2)
def leastGreen (l : List S71) (s : List Int) : Int := if s.any (walkAt l) then 7 else 5
theorem impl_LeastGreen_eq (l : List S71) (s : List Int) (hl : l.length ≤ 1048576) (hs : s.length ≤ 1048576) : Ev (fun k => impl_LeastGreen.f k l s) (leastGreen l s) := by
 unfold impl_LeastGreen.f leastGreen
 have key : ∀ (d i : Nat), i + d = s.length → Ev (fun k => impl_LeastGreen.l0 k l s (s.length : Int) (i : Int)) (if (s.drop i).any (walkAt l) then 7 else 5) := by
  intro d
  induction d with
  | zero =>
   intro i hi
   refine Ev.succ ?_
   simp only [impl_LeastGreen.l0, show ¬ (i : Int) < (s.length : Int) by omega, if_false]
   exact evq (Ev.now _) (by rw [List.drop_eq_nil_of_le (show s.length ≤ i by omega)]; rfl)
  | succ d ih =>
   intro i hi
   refine Ev.succ ?_
   have hi2 : i < s.length := by omega
   have ihh := ih (i + 1) (by omega)
   rw [show ((i + 1 : Nat) : Int) = (i : Int) + 1 by omega] at ihh
   have f2 := findP_hi l s[i]
   rw [List.drop_eq_getElem_cons hi2, List.any_cons]
   simp only [impl_LeastGreen.l0, show (i : Int) < (s.length : Int) by omega, show (0 : Int) ≤ (i : Int) by omega, if_true, rd_nat _ _ hi2, impl_FindPath_eq, Option.bind_some, f2, wrap_id (n := (i : Int) + 1) (by omega) (by omega)]
   by_cases h0 : 0 ≤ findP l s[i]
   ·simp only [ge_iff_le, h0, if_true]
    by_cases h1 : (rd_T71 l (findP l s[i])).f1 = 2
    ·have e : walkAt l s[i] = true := by simp [walkAt, h0, h1]
     simp only [h1, if_true, e, Bool.true_or]; exact Ev.now _
    ·have e : walkAt l s[i] = false := by simp [walkAt, h1]
     simp only [h1, if_false, e, Bool.false_or]; exact ihh
   ·have e : walkAt l s[i] = false := by simp [walkAt, h0]
    simp only [ge_iff_le, h0, if_false, e, Bool.false_or]; exact ihh
 simpa using key s.length 0 (by omega)
theorem spec_LeastGreen_eq (l : List S71) (s : List Int) (hl : l.length ≤ 1048576) (hs : s.length ≤ 1048576) : Ev (fun k => spec_LeastGreen.f k l s) (leastGreen l s) := by
 unfold spec_LeastGreen.f leastGreen
 have key : ∀ (d i : Nat), i + d = s.length → Ev (fun k => spec_LeastGreen.l0 k l s (i : Int)) (if (s.drop i).any (walkAt l) then 7 else 5) := by
  intro d
  induction d with
  | zero =>
   intro i hi
   refine Ev.succ ?_
   simp only [spec_LeastGreen.l0, show ¬ (i : Int) < (s.length : Int) by omega, if_false]
   exact evq (Ev.now _) (by rw [List.drop_eq_nil_of_le (show s.length ≤ i by omega)]; rfl)
  | succ d ih =>
   intro i hi
   refine Ev.succ ?_
   have hi2 : i < s.length := by omega
   have ihh := ih (i + 1) (by omega)
   rw [show ((i + 1 : Nat) : Int) = (i : Int) + 1 by omega] at ihh
   have f2 := findP_hi l s[i]
   rw [List.drop_eq_getElem_cons hi2, List.any_cons]
   simp only [spec_LeastGreen.l0, show (i : Int) < (s.length : Int) by omega, show (0 : Int) ≤ (i : Int) by omega, if_true, rd_nat _ _ hi2, wrap_id (n := (i : Int) + 1) (by omega) (by omega)]
   refine Ev.bind (spec_FindPath_eq l _ hl) ?_
   simp only [f2, if_true]
   by_cases h0 : 0 ≤ findP l s[i]
   ·simp only [ge_iff_le, h0, if_true]
    by_cases h1 : (rd_T71 l (findP l s[i])).f1 = 2
    ·have e : walkAt l s[i] = true := by simp [walkAt, h0, h1]
     simp only [h1, if_true, e, Bool.true_or]; exact Ev.now _
    ·have e : walkAt l s[i] = false := by simp [walkAt, h1]
     simp only [h1, if_false, e, Bool.false_or]; exact ihh
   ·have e : walkAt l s[i] = false := by simp [walkAt, h0]
    simp only [ge_iff_le, h0, if_false, e, Bool.false_or]; exact ihh
 simpa using key s.length 0 (by omega)
def put : List Int → Int → List Int
 | [], n => [n]
 | a :: l, n => if a < n then a :: put l n else if a = n then a :: l else n :: a :: l
theorem put_length : ∀ (l : List Int) (n : Int), (put l n).length ≤ l.length + 1
 | [], n => by simp [put]
 | a :: l, n => by
  have := put_length l n
  unfold put
  split
  ·simp; omega
  ·split
   ·simp
   ·simp
theorem spec_l6Put_eq (l : List Int) (n : Int) (hl : l.length ≤ 4194304) : Ev (fun k => spec_l6Put.f k l n) (put l n) := by
 unfold spec_l6Put.f
 have key : ∀ (d i : Nat), i + d = l.length → Ev (fun k => spec_l6Put.l0 k l n (i : Int)) (l.take i ++ put (l.drop i) n) := by
  intro d
  induction d with
  | zero =>
   intro i hi
   refine Ev.succ ?_
   have hlt : (l.take i).length = i := by rw [List.length_take]; omega
   simp only [spec_l6Put.l0, show ¬ (i : Int) < (l.length : Int) by omega, if_false, Option.bind_some, show (0 : Int) ≤ (i : Int) by omega, show (i : Int) ≤ (l.length : Int) by omega, if_true, Int.toNat_natCast, List.length_nil, Nat.zero_add, List.nil_append, List.length_append, List.length_singleton, List.length_drop, hlt, show i < 17592186044416 by omega, show i + 1 < 17592186044416 by omega, show i + 1 + (l.length - i) < 17592186044416 by omega]
   exact evq (Ev.now _) (by rw [List.drop_eq_nil_of_le (show l.length ≤ i by omega)]; simp [put])
  | succ d ih =>
   intro i hi
   refine Ev.succ ?_
   have hi2 : i < l.length := by omega
   have hlt : (l.take i).length = i := by rw [List.length_take]; omega
   have next := ih (i + 1) (by omega)
   rw [show ((i + 1 : Nat) : Int) = (i : Int) + 1 by omega] at next
   simp only [spec_l6Put.l0, show (i : Int) < (l.length : Int) by omega, if_true, Option.bind_some, show (0 : Int) ≤ (i : Int) by omega, show (i : Int) ≤ (l.length : Int) by omega, rd_nat _ _ hi2, wrap_id (n := (i : Int) + 1) (by omega) (by omega), Int.toNat_natCast, List.length_nil, Nat.zero_add, List.nil_append, List.length_append, List.length_singleton, List.length_drop, hlt, show i < 17592186044416 by omega, show i + 1 < 17592186044416 by omega, show i + 1 + (l.length - i) < 17592186044416 by omega, show l.length < 17592186044416 by omega]
   rw [List.drop_eq_getElem_cons hi2]
   unfold put
   by_cases h1 : l[i] < n
   ·simp only [h1, if_true]
    rw [List.take_succ_eq_append_getElem hi2, List.append_assoc, List.singleton_append] at next
    exact next
   ·simp only [h1, if_false]
    by_cases h2 : l[i] = n
    ·simp only [h2, if_true]
     refine evq (Ev.now _) ?_
     rw [← h2, ← List.drop_eq_getElem_cons hi2, List.take_append_drop]
    ·simp only [h2, if_false]
     refine evq (Ev.now _) ?_
     rw [List.append_assoc, List.singleton_append]
 simpa using key l.length 0 (by omega)
theorem cbIn_bd (l : List S71) (x : Int) : ∀ (ys : List Int) (m : Int), 0 ≤ m → m ≤ 5 → 0 ≤ cbIn l x ys m ∧ cbIn l x ys m ≤ 5
 | [], m, h0, h5 => ⟨h0, h5⟩
 | y :: ys, m, h0, h5 => by
  have hc := clearOf_bd (rd_T71 l (findP l x)).f0 (rd_T71 l (findP l x)).f1 (rd_T71 l (findP l x)).f2 (rd_T71 l (findP l x)).f3
  show 0 ≤ cbIn l x ys (if confAt l x y then max m (clrOf l x) else m) ∧ cbIn l x ys (if confAt l x y then max m (clrOf l x) else m) ≤ 5
  refine cbIn_bd l x ys _ ?_ ?_
  ·unfold clrOf; split <;> omega
  ·unfold clrOf; split <;> omega
theorem cbOut_bd (l : List S71) (ys : List Int) : ∀ (xs : List Int) (m : Int), 0 ≤ m → m ≤ 5 → 0 ≤ cbOut l xs ys m ∧ cbOut l xs ys m ≤ 5
 | [], m, h0, h5 => ⟨h0, h5⟩
 | x :: xs, m, h0, h5 => by
  have := cbIn_bd l x ys m h0 h5
  exact cbOut_bd l ys xs (cbIn l x ys m) this.1 this.2
theorem clearBetween_bd (l : List S71) (a b : List Int) : 0 ≤ clearBetween l a b ∧ clearBetween l a b ≤ 5 := by
 unfold clearBetween
 split
 ·exact cbOut_bd l _ _ 0 (by omega) (by omega)
 ·omega
theorem rdT_Part (xs : List S85) (i : Nat) (h : i < xs.length) : rd_T85 xs (i : Int) = xs[i] := by simp [rd_T85, h]
def psOk (l : List S85) : Prop := l.length ≤ 1048576 ∧ ∀ x ∈ l, x.f0.length ≤ 1048576
def covers (l : List S71) (st : List (List Int)) : Bool := arePaths l && (st.all (together l) && l.all (fun x => st.any (fun s => decide (x.f0 ∈ s))))
theorem rdL2 (xs : List (List Int)) (i : Nat) (h : i < xs.length) : rd_L2 xs (i : Int) = xs[i] := by simp [rd_L2, h]
theorem impl_isCovered_eq (st : List (List Int)) (id : Int) : impl_isCovered.f st id = some (st.any (fun s => decide (id ∈ s))) := by
 unfold impl_isCovered.f
 rcases fidx_cases (fun x : List Int => decide (id ∈ x)) st 0 with ⟨h1, h2⟩ | ⟨i, h1, h2, h3, _⟩
 ·rw [h1, decide_eq_false (by omega)]
  have : st.any (fun s => decide (id ∈ s)) = false := List.any_eq_false.2 (fun x hx => by rw [h2 x hx]; simp)
  rw [this]
 ·rw [h1, decide_eq_true (by omega)]
  have : st.any (fun s => decide (id ∈ s)) = true := List.any_eq_true.2 ⟨st[i], List.getElem_mem _, h3⟩
  rw [this]
theorem impl_Covers_eq (l : List S71) (st : List (List Int)) (hl : l.length ≤ 1048576) (hs : st.length ≤ 1048576) (ht : ∀ s ∈ st, s.length ≤ 1048576) : Ev (fun k => impl_Covers.f k l st) (covers l st) := by
 unfold impl_Covers.f covers
 refine Ev.bind (impl_ArePaths_eq l hl) ?_
 cases arePaths l
 ·simp only [Bool.false_eq_true, if_false, Bool.false_and]; exact Ev.now _
 simp only [if_true, Bool.true_and]
 have h1 : ∀ (d i : Nat), i + d = l.length → Ev (fun k => impl_Covers.l1 k st l (l.length : Int) (i : Int)) ((l.drop i).all (fun x => st.any (fun s => decide (x.f0 ∈ s)))) := by
  intro d
  induction d with
  | zero =>
   intro i hi
   refine Ev.succ ?_
   simp only [impl_Covers.l1, show ¬ (i : Int) < (l.length : Int) by omega, if_false]
   exact evq (Ev.now _) (by rw [List.drop_eq_nil_of_le (show l.length ≤ i by omega)]; rfl)
  | succ d ih =>
   intro i hi
   refine Ev.succ ?_
   have hi2 : i < l.length := by omega
   have next := ih (i + 1) (by omega)
   rw [show ((i + 1 : Nat) : Int) = (i : Int) + 1 by omega] at next
   rw [List.drop_eq_getElem_cons hi2, List.all_cons]
   simp only [impl_Covers.l1, show (i : Int) < (l.length : Int) by omega, show (0 : Int) ≤ (i : Int) by omega, if_true, rdT_Path _ _ hi2, impl_isCovered_eq, Option.bind_some, wrap_id (n := (i : Int) + 1) (by omega) (by omega)]
   cases st.any (fun s => decide (l[i].f0 ∈ s))
   ·simp only [Bool.false_eq_true, if_false, Bool.false_and]; exact Ev.now _
   ·simp only [if_true, Bool.true_and]; exact next
 have h0 : ∀ (d i : Nat), i + d = st.length → Ev (fun k => impl_Covers.l0 k l st st (st.length : Int) (i : Int)) ((st.drop i).all (together l) && l.all (fun x => st.any (fun s => decide (x.f0 ∈ s)))) := by
  intro d
  induction d with
  | zero =>
   intro i hi
   refine Ev.succ ?_
   simp only [impl_Covers.l0, show ¬ (i : Int) < (st.length : Int) by omega, if_false]
   exact evq (h1 l.length 0 (by omega)) (by rw [List.drop_eq_nil_of_le (show st.length ≤ i by omega)]; rfl)
  | succ d ih =>
   intro i hi
   refine Ev.succ ?_
   have hi2 : i < st.length := by omega
   have next := ih (i + 1) (by omega)
   rw [show ((i + 1 : Nat) : Int) = (i : Int) + 1 by omega] at next
   rw [List.drop_eq_getElem_cons hi2, List.all_cons]
   simp only [impl_Covers.l0, show (i : Int) < (st.length : Int) by omega, show (0 : Int) ≤ (i : Int) by omega, if_true, rdL2 _ _ hi2, wrap_id (n := (i : Int) + 1) (by omega) (by omega)]
   refine Ev.bind (impl_IsTogether_eq l _ hl (ht _ (List.getElem_mem hi2))) ?_
   cases together l st[i]
   ·simp only [Bool.false_eq_true, if_false, Bool.false_and]; exact Ev.now _
   ·simp only [if_true, Bool.true_and]; exact next
 simpa using h0 st.length 0 (by omega)
theorem spec_Covers_eq (l : List S71) (st : List (List Int)) (hl : l.length ≤ 1048576) (hs : st.length ≤ 1048576) (ht : ∀ s ∈ st, s.length ≤ 1048576) : Ev (fun k => spec_Covers.f k l st) (covers l st) := by
 unfold spec_Covers.f covers
 have h2 : ∀ (i : Nat) (hi : i < l.length) (r : Bool), Ev (fun k => spec_Covers.l1 k l st ((i : Int) + 1)) r → ∀ (d j : Nat) (b : Bool), j + d = st.length → Ev (fun k => spec_Covers.l2 k l st (i : Int) b (j : Int)) ((b || (st.drop j).any (fun s => decide (l[i].f0 ∈ s))) && r) := by
  intro i hi r hr d
  induction d with
  | zero =>
   intro j b hj
   refine Ev.succ ?_
   simp only [spec_Covers.l2, show ¬ (j : Int) < (st.length : Int) by omega, if_false, wrap_id (n := (i : Int) + 1) (by omega) (by omega)]
   rw [List.drop_eq_nil_of_le (show st.length ≤ j by omega)]
   cases b
   ·simp only [Bool.false_eq_true, if_false]; exact evq (Ev.now _) (by simp)
   ·simp only [if_true]; exact evq hr (by simp)
  | succ d ih =>
   intro j b hj
   refine Ev.succ ?_
   have hj2 : j < st.length := by omega
   rw [List.drop_eq_getElem_cons hj2, List.any_cons]
   simp only [spec_Covers.l2, show (j : Int) < (st.length : Int) by omega, show (i : Int) < (l.length : Int) by omega, show (0 : Int) ≤ (i : Int) by omega, show (0 : Int) ≤ (j : Int) by omega, if_true, rdL2 _ _ hj2, rdT_Path _ _ hi, wrap_id (n := (j : Int) + 1) (by omega) (by omega)]
   cases b
   ·simp only [Bool.false_eq_true, if_false]
    refine Ev.bind (spec_l6Has_eq _ _ (Nat.le_trans (ht _ (List.getElem_mem hj2)) (by omega))) ?_
    have next := ih (j + 1) (decide (l[i].f0 ∈ st[j])) (by omega)
    rw [show ((j + 1 : Nat) : Int) = (j : Int) + 1 by omega] at next
    exact evq next (by simp)
   ·simp only [if_true]
    have next := ih (j + 1) true (by omega)
    rw [show ((j + 1 : Nat) : Int) = (j : Int) + 1 by omega] at next
    exact evq next (by simp)
 have h1 : ∀ (d i : Nat), i + d = l.length → Ev (fun k => spec_Covers.l1 k l st (i : Int)) ((l.drop i).all (fun x => st.any (fun s => decide (x.f0 ∈ s))) && arePaths l) := by
  intro d
  induction d with
  | zero =>
   intro i hi
   refine Ev.succ ?_
   simp only [spec_Covers.l1, show ¬ (i : Int) < (l.length : Int) by omega, if_false]
   refine Ev.bind (spec_ArePaths_eq l hl) ?_
   exact evq (Ev.now _) (by rw [List.drop_eq_nil_of_le (show l.length ≤ i by omega)]; rfl)
  | succ d ih =>
   intro i hi
   refine Ev.succ ?_
   have hi2 : i < l.length := by omega
   have next := ih (i + 1) (by omega)
   rw [show ((i + 1 : Nat) : Int) = (i : Int) + 1 by omega] at next
   simp only [spec_Covers.l1, show (i : Int) < (l.length : Int) by omega, if_true]
   refine evq (h2 i hi2 _ next st.length 0 false (by omega)) ?_
   rw [List.drop_eq_getElem_cons hi2, List.all_cons, List.drop_zero, Bool.false_or, Bool.and_assoc]
 have h0 : ∀ (d i : Nat), i + d = st.length → Ev (fun k => spec_Covers.l0 k l st (i : Int)) ((st.drop i).all (together l) && (l.all (fun x => st.any (fun s => decide (x.f0 ∈ s))) && arePaths l)) := by
  intro d
  induction d with
  | zero =>
   intro i hi
   refine Ev.succ ?_
   simp only [spec_Covers.l0, show ¬ (i : Int) < (st.length : Int) by omega, if_false]
   exact evq (h1 l.length 0 (by omega)) (by rw [List.drop_eq_nil_of_le (show st.length ≤ i by omega)]; rfl)
  | succ d ih =>
   intro i hi
   refine Ev.succ ?_
   have hi2 : i < st.length := by omega
   have next := ih (i + 1) (by omega)
   rw [show ((i + 1 : Nat) : Int) = (i : Int) + 1 by omega] at next
   rw [List.drop_eq_getElem_cons hi2, List.all_cons]
   simp only [spec_Covers.l0, show (i : Int) < (st.length : Int) by omega, show (0 : Int) ≤ (i : Int) by omega, if_true, rdL2 _ _ hi2, wrap_id (n := (i : Int) + 1) (by omega) (by omega)]
   refine Ev.bind (spec_IsTogether_eq l _ hl (ht _ (List.getElem_mem hi2))) ?_
   cases together l st[i]
   ·simp only [Bool.false_eq_true, if_false, Bool.false_and]; exact Ev.now _
   ·simp only [if_true, Bool.true_and]; exact next
 refine evq (h0 st.length 0 (by omega)) ?_
 rw [List.drop_zero, Bool.and_comm (arePaths l), Bool.and_assoc]
def partOk (l : List S71) (x : S85) : Bool := !decide (x.f0.length = 0) && (together l x.f0 && decide (leastGreen l x.f0 ≤ x.f1 ∧ x.f1 ≤ 60))
def stagesOf (p : List S85) : List (List Int) := p.map (fun x => x.f0)
def isPlan (l : List S71) (p : List S85) : Bool := decide (1 ≤ (p.length : Int) ∧ (p.length : Int) ≤ 6) && (p.all (partOk l) && covers l (stagesOf p))
theorem isPlan_len {l : List S71} {p : List S85} (h : isPlan l p = true) : 1 ≤ p.length ∧ p.length ≤ 6 := by
 unfold isPlan at h
 simp only [Bool.and_eq_true, decide_eq_true_eq] at h
 omega
theorem isPlan_at {l : List S71} {p : List S85} (h : isPlan l p = true) (i : Nat) (hi : i < p.length) : 5 ≤ p[i].f1 ∧ p[i].f1 ≤ 60 := by
 unfold isPlan at h
 simp only [Bool.and_eq_true, List.all_eq_true] at h
 have := h.2.1 _ (List.getElem_mem hi)
 unfold partOk at this
 simp only [Bool.and_eq_true, decide_eq_true_eq] at this
 have h2 : 5 ≤ leastGreen l p[i].f0 := by unfold leastGreen; split <;> omega
 omega
theorem impl_IsPlan_eq (l : List S71) (p : List S85) (hl : l.length ≤ 1048576) (hp : psOk p) : Ev (fun k => impl_IsPlan.f k l p) (isPlan l p) := by
 unfold impl_IsPlan.f isPlan
 obtain ⟨hp, hx⟩ := hp
 simp only [impl_InRange_eq, Option.bind_some]
 by_cases h : 1 ≤ (p.length : Int) ∧ (p.length : Int) ≤ 6
 ·simp only [decide_eq_true h, if_true, Bool.true_and]
  have key : ∀ (d i : Nat) (acc : List (List Int)), i + d = p.length → acc.length = i → (∀ s ∈ acc, s.length ≤ 1048576) → Ev (fun k => impl_IsPlan.l0 k l acc p (p.length : Int) (i : Int)) ((p.drop i).all (partOk l) && covers l (acc ++ stagesOf (p.drop i))) := by
   intro d
   induction d with
   | zero =>
    intro i acc hi ha hacc
    refine Ev.succ ?_
    simp only [impl_IsPlan.l0, show ¬ (i : Int) < (p.length : Int) by omega, if_false]
    refine Ev.bind (impl_Covers_eq l acc hl (by omega) hacc) ?_
    exact evq (Ev.now _) (by rw [List.drop_eq_nil_of_le (show p.length ≤ i by omega)]; simp [stagesOf])
   | succ d ih =>
    intro i acc hi ha hacc
    refine Ev.succ ?_
    have hi2 : i < p.length := by omega
    have hm := hx _ (List.getElem_mem hi2)
    have next := ih (i + 1) (acc ++ [p[i].f0]) (by omega) (by rw [List.length_append, List.length_singleton]; omega) (fun s hs => by
     rcases List.mem_append.1 hs with h | h
     ·exact hacc s h
     ·rw [List.mem_singleton.1 h]; exact hm)
    rw [show ((i + 1 : Nat) : Int) = (i : Int) + 1 by omega] at next
    rw [List.drop_eq_getElem_cons hi2, List.all_cons]
    simp only [impl_IsPlan.l0, show (i : Int) < (p.length : Int) by omega, show (0 : Int) ≤ (i : Int) by omega, if_true, rdT_Part _ _ hi2, wrap_id (n := (i : Int) + 1) (by omega) (by omega)]
    rw [show partOk l p[i] = (!decide (p[i].f0.length = 0) && (together l p[i].f0 && decide (leastGreen l p[i].f0 ≤ p[i].f1 ∧ p[i].f1 ≤ 60))) from rfl]
    by_cases c1 : p[i].f0.length = 0
    ·simp only [show ((p[i].f0.length : Int) = 0) by omega, if_true, decide_eq_true c1, Bool.not_true, Bool.false_and]; exact Ev.now _
    ·simp only [show ¬ ((p[i].f0.length : Int) = 0) by omega, if_false, decide_eq_false c1, Bool.not_false, Bool.true_and]
     refine Ev.bind (impl_IsTogether_eq l _ hl hm) ?_
     cases together l p[i].f0
     ·simp only [Bool.false_eq_true, if_false, Bool.false_and]; exact Ev.now _
     ·simp only [if_true, Bool.true_and]
      refine Ev.bind (impl_LeastGreen_eq l _ hl hm) ?_
      simp only [impl_InRange_eq, Option.bind_some]
      by_cases c2 : leastGreen l p[i].f0 ≤ p[i].f1 ∧ p[i].f1 ≤ 60
      ·simp only [decide_eq_true c2, if_true, Bool.true_and, show acc.length < 5864062014805 by omega]
       exact evq next (by rw [List.append_assoc]; rfl)
      ·simp only [decide_eq_false c2, Bool.false_eq_true, if_false, Bool.false_and]; exact Ev.now _
  simpa [stagesOf] using key p.length 0 [] (by omega) rfl (by simp)
 ·simp only [decide_eq_false h, Bool.false_eq_true, if_false, Bool.false_and]; exact Ev.now _
theorem spec_l8Stages_eq (p : List S85) (hp : p.length ≤ 1048576) : Ev (fun k => spec_l8Stages.f k p) (stagesOf p) := by
 unfold spec_l8Stages.f
 have key : ∀ (d i : Nat) (acc : List (List Int)), i + d = p.length → acc.length = i → Ev (fun k => spec_l8Stages.l0 k p acc (i : Int)) (acc ++ stagesOf (p.drop i)) := by
  intro d
  induction d with
  | zero =>
   intro i acc hi ha
   refine Ev.succ ?_
   simp only [spec_l8Stages.l0, show ¬ (i : Int) < (p.length : Int) by omega, if_false]
   exact evq (Ev.now _) (by rw [List.drop_eq_nil_of_le (show p.length ≤ i by omega)]; simp [stagesOf])
  | succ d ih =>
   intro i acc hi ha
   refine Ev.succ ?_
   have hi2 : i < p.length := by omega
   have next := ih (i + 1) (acc ++ [p[i].f0]) (by omega) (by rw [List.length_append, List.length_singleton]; omega)
   rw [show ((i + 1 : Nat) : Int) = (i : Int) + 1 by omega] at next
   simp only [spec_l8Stages.l0, show (i : Int) < (p.length : Int) by omega, show (0 : Int) ≤ (i : Int) by omega, if_true, rdT_Part _ _ hi2, show acc.length < 5864062014805 by omega, wrap_id (n := (i : Int) + 1) (by omega) (by omega)]
   exact evq next (by rw [List.drop_eq_getElem_cons hi2, List.append_assoc]; rfl)
 simpa using key p.length 0 [] (by omega) rfl
theorem stagesOf_ok {p : List S85} (hp : psOk p) : ∀ s ∈ stagesOf p, s.length ≤ 1048576 := by
 intro s hs
 obtain ⟨x, hx, rfl⟩ := List.mem_map.1 hs
 exact hp.2 x hx
theorem spec_IsPlan_eq (l : List S71) (p : List S85) (hl : l.length ≤ 1048576) (hp : psOk p) : Ev (fun k => spec_IsPlan.f k l p) (isPlan l p) := by
 unfold spec_IsPlan.f isPlan
 have hst := stagesOf_ok hp
 obtain ⟨hp, hx⟩ := hp
 simp only [spec_l1In_eq, Option.bind_some]
 by_cases h : 1 ≤ (p.length : Int) ∧ (p.length : Int) ≤ 6
 ·simp only [decide_eq_true h, if_true, Bool.true_and]
  have key : ∀ (d i : Nat), i + d = p.length → Ev (fun k => spec_IsPlan.l0 k l p (i : Int)) ((p.drop i).all (partOk l) && covers l (stagesOf p)) := by
   intro d
   induction d with
   | zero =>
    intro i hi
    refine Ev.succ ?_
    simp only [spec_IsPlan.l0, show ¬ (i : Int) < (p.length : Int) by omega, if_false]
    refine Ev.bind (spec_l8Stages_eq p hp) ?_
    refine Ev.bind (spec_Covers_eq l _ hl (by unfold stagesOf; rw [List.length_map]; exact hp) hst) ?_
    exact evq (Ev.now _) (by rw [List.drop_eq_nil_of_le (show p.length ≤ i by omega)]; rfl)
   | succ d ih =>
    intro i hi
    refine Ev.succ ?_
    have hi2 : i < p.length := by omega
    have hm := hx _ (List.getElem_mem hi2)
    have next := ih (i + 1) (by omega)
    rw [show ((i + 1 : Nat) : Int) = (i : Int) + 1 by omega] at next
    rw [List.drop_eq_getElem_cons hi2, List.all_cons]
    simp only [spec_IsPlan.l0, show (i : Int) < (p.length : Int) by omega, show (0 : Int) ≤ (i : Int) by omega, if_true, rdT_Part _ _ hi2, wrap_id (n := (i : Int) + 1) (by omega) (by omega)]
    rw [show partOk l p[i] = (!decide (p[i].f0.length = 0) && (together l p[i].f0 && decide (leastGreen l p[i].f0 ≤ p[i].f1 ∧ p[i].f1 ≤ 60))) from rfl]
    by_cases c1 : p[i].f0.length = 0
    ·simp only [show ((p[i].f0.length : Int) = 0) by omega, if_true, decide_eq_true c1, Bool.not_true, Bool.false_and]; exact Ev.now _
    ·simp only [show ¬ ((p[i].f0.length : Int) = 0) by omega, if_false, decide_eq_false c1, Bool.not_false, Bool.true_and]
     refine Ev.bind (spec_IsTogether_eq l _ hl hm) ?_
     cases together l p[i].f0
     ·simp only [Bool.false_eq_true, if_false, Bool.false_and]; exact Ev.now _
     ·simp only [if_true, Bool.true_and]
      refine Ev.bind (spec_LeastGreen_eq l _ hl hm) ?_
      simp only [spec_l1In_eq, Option.bind_some]
      by_cases c2 : leastGreen l p[i].f0 ≤ p[i].f1 ∧ p[i].f1 ≤ 60
      ·simp only [decide_eq_true c2, if_true, Bool.true_and]
       exact next
      ·simp only [decide_eq_false c2, Bool.false_eq_true, if_false, Bool.false_and]; exact Ev.now _
  simpa using key p.length 0 (by omega)
 ·simp only [decide_eq_false h, Bool.false_eq_true, if_false, Bool.false_and]; exact Ev.now _
theorem nxt (i n : Nat) (hi : i < n) (hn : n ≤ 1048576) : Int.tmod (wrap64 ((i : Int) + 1)) (n : Int) = (((i + 1) % n : Nat) : Int) := by
 rw [wrap_id (by omega) (by omega), tmod_nn (by omega), show (i : Int) + 1 = ((i + 1 : Nat) : Int) by omega, ← Int.natCast_emod]
def nextSt (p : List S85) (i : Nat) : List Int := (rd_T85 p (((i + 1) % p.length : Nat) : Int)).f0
def longP (l : List S71) (p : List S85) (i : Nat) : Int := (rd_T85 p (i : Int)).f1 + clearBetween l (rd_T85 p (i : Int)).f0 (nextSt p i)
theorem nextSt_ok {p : List S85} (hp : psOk p) (i : Nat) (hi : i < p.length) : (nextSt p i).length ≤ 1048576 := by
 unfold nextSt
 have : (i + 1) % p.length < p.length := Nat.mod_lt _ (by omega)
 rw [rdT_Part _ _ this]
 exact hp.2 _ (List.getElem_mem _)
theorem longP_bd {l : List S71} {p : List S85} (h : isPlan l p = true) (i : Nat) (hi : i < p.length) : 5 ≤ longP l p i ∧ longP l p i ≤ 65 := by
 unfold longP
 have h1 := isPlan_at h i hi
 have h2 := clearBetween_bd l (rd_T85 p (i : Int)).f0 (nextSt p i)
 rw [rdT_Part _ _ hi] at h2 ⊢
 omega
def sumP (l : List S71) (p : List S85) : Nat → Nat → Int
 | 0, _ => 0
 | n + 1, i => longP l p i + sumP l p n (i + 1)
theorem sumP_succ (l : List S71) (p : List S85) (n i : Nat) : sumP l p (n + 1) i = longP l p i + sumP l p n (i + 1) := rfl
theorem sumP_zero (l : List S71) (p : List S85) (i : Nat) : sumP l p 0 i = 0 := rfl
theorem sumP_bd {l : List S71} {p : List S85} (h : isPlan l p = true) : ∀ (n i : Nat), i + n ≤ p.length → 5 * (n : Int) ≤ sumP l p n i ∧ sumP l p n i ≤ 65 * (n : Int)
 | 0, i, _ => by rw [sumP_zero]; omega
 | n + 1, i, hi => by
  have h1 := sumP_bd h n (i + 1) (by omega)
  have h2 := longP_bd h i (by omega)
  rw [sumP_succ]; omega
def cycleP (l : List S71) (p : List S85) : Int := if isPlan l p = true then sumP l p p.length 0 else 0
theorem cycleP_pos {l : List S71} {p : List S85} (h : isPlan l p = true) : 5 ≤ cycleP l p ∧ cycleP l p ≤ 390 := by
 have h1 := sumP_bd h p.length 0 (by omega)
 have h2 := isPlan_len h
 unfold cycleP
 rw [if_pos h]; omega
/-- Which part a second of the cycle falls into, and how far. -/
def walkP (l : List S71) (p : List S85) : Nat → Nat → Int → Int × Int
 | 0, i, s => ((i : Int), s)
 | n + 1, i, s => if s < longP l p i then ((i : Int), s) else walkP l p n (i + 1) (s - longP l p i)
theorem walkP_succ (l : List S71) (p : List S85) (n i : Nat) (s : Int) : walkP l p (n + 1) i s = if s < longP l p i then ((i : Int), s) else walkP l p n (i + 1) (s - longP l p i) := rfl
theorem walkP_at {l : List S71} {p : List S85} : ∀ (n i : Nat) (s : Int), i + n = p.length → 0 ≤ s → s < sumP l p n i → ∃ j : Nat, j < p.length ∧ (walkP l p n i s).1 = (j : Int) ∧ 0 ≤ (walkP l p n i s).2 ∧ (walkP l p n i s).2 < longP l p j
 | 0, i, s, _, h0, h1 => by rw [sumP_zero] at h1; omega
 | n + 1, i, s, hi, h0, h1 => by
  rw [sumP_succ] at h1
  rw [walkP_succ]
  by_cases c : s < longP l p i
  ·rw [if_pos c]; exact ⟨i, by omega, rfl, h0, c⟩
  ·rw [if_neg c]; exact walkP_at n (i + 1) _ (by omega) (by omega) (by omega)
def partAt (l : List S71) (p : List S85) (s : Int) : Int × Int := if isPlan l p = true ∧ (0 ≤ s ∧ s ≤ 1000000) then walkP l p p.length 0 (s % cycleP l p) else (-1, 0)
theorem partAt_at {l : List S71} {p : List S85} {s : Int} (h : 0 ≤ (partAt l p s).1) : isPlan l p = true ∧ ∃ j : Nat, j < p.length ∧ (partAt l p s).1 = (j : Int) ∧ 0 ≤ (partAt l p s).2 ∧ (partAt l p s).2 < longP l p j := by
 unfold partAt at h ⊢
 by_cases c : isPlan l p = true ∧ (0 ≤ s ∧ s ≤ 1000000)
 ·rw [if_pos c] at h ⊢
  have hc := cycleP_pos c.1
  have h2 : s % cycleP l p < cycleP l p := Int.emod_lt_of_pos _ (by omega)
  have h3 : 0 ≤ s % cycleP l p := Int.emod_nonneg _ (by omega)
  refine ⟨c.1, walkP_at p.length 0 _ (by omega) h3 ?_⟩
  have e : cycleP l p = sumP l p p.length 0 := by unfold cycleP; rw [if_pos c.1]
  rw [e] at h2 ⊢; exact h2
 ·rw [if_neg c] at h; dsimp only at h; omega
theorem impl_nextStage_eq (p : List S85) (i : Nat) (hi : i < p.length) (hp : p.length ≤ 1048576) : impl_nextStage.f p (i : Int) = some (nextSt p i) := by
 unfold impl_nextStage.f nextSt
 have : (i + 1) % p.length < p.length := Nat.mod_lt _ (by omega)
 simp only [nxt i p.length hi hp, show ¬ (p.length : Int) = 0 by omega, if_false, show (0 : Int) ≤ (((i + 1) % p.length : Nat) : Int) by omega, show (((i + 1) % p.length : Nat) : Int) < (p.length : Int) by omega, if_true]
theorem impl_longOf_eq (l : List S71) (p : List S85) (hl : l.length ≤ 1048576) (hp : psOk p) (h : isPlan l p = true) (i : Nat) (hi : i < p.length) : Ev (fun k => impl_longOf.f k l p (i : Int)) (longP l p i) := by
 unfold impl_longOf.f
 have hb := longP_bd h i hi
 simp only [show (0 : Int) ≤ (i : Int) by omega, show (i : Int) < (p.length : Int) by omega, if_true, impl_nextStage_eq p i hi hp.1, Option.bind_some]
 refine Ev.bind (impl_ClearBetween_eq l _ _ hl (by rw [rdT_Part _ _ hi]; exact hp.2 _ (List.getElem_mem _)) (nextSt_ok hp i hi)) ?_
 unfold longP at hb ⊢
 rw [wrap_id (by omega) (by omega)]
 exact Ev.now _
theorem impl_Cycle_eq (l : List S71) (p : List S85) (hl : l.length ≤ 1048576) (hp : psOk p) : Ev (fun k => impl_Cycle.f k l p) (cycleP l p) := by
 unfold impl_Cycle.f cycleP
 refine Ev.bind (impl_IsPlan_eq l p hl hp) ?_
 cases h : isPlan l p
 ·simp only [Bool.false_eq_true, if_false]; exact Ev.now _
 simp only [if_true]
 have hlen := isPlan_len h
 have key : ∀ (d i : Nat) (a : Int), i + d = p.length → 0 ≤ a → a ≤ 65 * (i : Int) → Ev (fun k => impl_Cycle.l0 k l p a (p.length : Int) (i : Int)) (a + sumP l p d i) := by
  intro d
  induction d with
  | zero =>
   intro i a hi h0 h1
   refine Ev.succ ?_
   simp only [impl_Cycle.l0, show ¬ (i : Int) < (p.length : Int) by omega, if_false]
   exact evq (Ev.now _) (by simp [sumP])
  | succ d ih =>
   intro i a hi h0 h1
   refine Ev.succ ?_
   have hb := longP_bd h i (by omega)
   have next := ih (i + 1) (a + longP l p i) (by omega) (by omega) (by omega)
   rw [show ((i + 1 : Nat) : Int) = (i : Int) + 1 by omega] at next
   simp only [impl_Cycle.l0, show (i : Int) < (p.length : Int) by omega, if_true, wrap_id (n := (i : Int) + 1) (by omega) (by omega)]
   refine Ev.bind (impl_longOf_eq l p hl hp h i (by omega)) ?_
   rw [wrap_id (by omega) (by omega)]
   exact evq next (by rw [sumP_succ]; omega)
 simpa using key p.length 0 0 (by omega) (by omega) (by omega)
theorem impl_PartAt_eq (l : List S71) (p : List S85) (s : Int) (hl : l.length ≤ 1048576) (hp : psOk p) : Ev (fun k => impl_PartAt.f k l p s) (partAt l p s) := by
 unfold impl_PartAt.f
 refine Ev.bind (impl_Cycle_eq l p hl hp) ?_
 have jt : ∀ c : Int, Ev (fun k => impl_PartAt.j0 k l p s c true) (-1, 0) := by
  intro c
  refine Ev.succ ?_
  simp only [impl_PartAt.j0, if_true]; exact Ev.now _
 cases h : isPlan l p
 ·have e : cycleP l p = 0 := by unfold cycleP; rw [if_neg (by rw [h]; decide)]
  simp only [e, if_true]
  exact evq (jt 0) (by unfold partAt; rw [if_neg (by rw [h]; simp)])
 have hc := cycleP_pos h
 simp only [show ¬ cycleP l p = 0 by omega, if_false, impl_InRange_eq, Option.bind_some]
 by_cases hs : 0 ≤ s ∧ s ≤ 1000000
 ·rw [decide_eq_true hs]
  have e : partAt l p s = walkP l p p.length 0 (s % cycleP l p) := by unfold partAt; rw [if_pos ⟨h, hs⟩]
  rw [e]
  refine Ev.succ ?_
  simp only [impl_PartAt.j0, Bool.not_true, Bool.false_eq_true, if_false, show ¬ cycleP l p = 0 by omega]
  rw [tmod_nn hs.1]
  have h2 : s % cycleP l p < cycleP l p := Int.emod_lt_of_pos _ (by omega)
  have h3 : 0 ≤ s % cycleP l p := Int.emod_nonneg _ (by omega)
  have e2 : cycleP l p = sumP l p p.length 0 := by unfold cycleP; rw [if_pos h]
  have hlen := isPlan_len h
  have key : ∀ (d i : Nat) (a : Int), i + d = p.length → 0 ≤ a → a < sumP l p d i → a ≤ 400 → Ev (fun k => impl_PartAt.l0 k l p a (i : Int)) (walkP l p d i a) := by
   intro d
   induction d with
   | zero => intro i a hi h0 h1 h2; rw [sumP_zero] at h1; omega
   | succ d ih =>
    intro i a hi h0 h1 h2
    refine Ev.succ ?_
    have hb := longP_bd h i (by omega)
    rw [sumP_succ] at h1
    simp only [impl_PartAt.l0, wrap_id (n := (i : Int) + 1) (by omega) (by omega)]
    refine Ev.bind (impl_longOf_eq l p hl hp h i (by omega)) ?_
    rw [walkP_succ]
    by_cases c : a < longP l p i
    ·rw [if_pos c]; refine Ev.ifn (by omega) ?_; exact Ev.now _
    ·rw [if_neg c]; refine Ev.ifp (by omega) ?_
     refine Ev.bind (impl_longOf_eq l p hl hp h i (by omega)) ?_
     rw [wrap_id (by omega) (by omega)]
     have next := ih (i + 1) (a - longP l p i) (by omega) (by omega) (by omega) (by omega)
     rw [show ((i + 1 : Nat) : Int) = (i : Int) + 1 by omega] at next
     exact next
  exact key p.length 0 _ (by omega) h3 (by rw [← e2]; exact h2) (by omega)
 ·rw [decide_eq_false hs]
  simp only [Bool.not_false]
  exact evq (jt _) (by unfold partAt; rw [if_neg (fun x => hs x.2)])
def lightAt (l : List S71) (p : List S85) (s id : Int) : Int :=
 if findP l id < 0 then 0 else if (partAt l p s).1 < 0 then 0 else
  if id ∈ (rd_T85 p (partAt l p s).1).f0 then
   (if (partAt l p s).2 < (rd_T85 p (partAt l p s).1).f1 ∨ id ∈ nextSt p (partAt l p s).1.toNat then 1
    else if (partAt l p s).2 < (rd_T85 p (partAt l p s).1).f1 + clrOf l id then 2 else 0)
  else 0
theorem impl_LightAt_eq (l : List S71) (p : List S85) (s id : Int) (hl : l.length ≤ 1048576) (hp : psOk p) : Ev (fun k => impl_LightAt.f k l p s id) (lightAt l p s id) := by
 unfold impl_LightAt.f lightAt
 simp only [impl_FindPath_eq, Option.bind_some]
 by_cases h0 : findP l id < 0
 ·simp only [h0, if_true]; exact Ev.now _
 obtain ⟨i, hi, he, hid⟩ := findP_at (show 0 ≤ findP l id by omega)
 have hcl : clrOf l id = clearOf l[i].f0 l[i].f1 l[i].f2 l[i].f3 := by unfold clrOf; rw [he, rdT_Path _ _ hi]
 have hcb := clearOf_bd l[i].f0 l[i].f1 l[i].f2 l[i].f3
 rw [he, hcl]
 simp only [show ¬ ((i : Int) < 0) by omega, if_false, show (0 : Int) ≤ (i : Int) by omega, show (i : Int) < (l.length : Int) by omega, if_true, rdT_Path _ _ hi, hid]
 refine Ev.bind ?_ (Ev.now _)
 unfold impl_shown.f
 refine Ev.bind (impl_PartAt_eq l p s hl hp) ?_
 by_cases h1 : (partAt l p s).1 < 0
 ·simp only [h1, if_true]
  refine Ev.succ ?_
  simp only [impl_shown.j0, if_true]; exact Ev.now _
 obtain ⟨hpl, j, hj, e1, e2, e3⟩ := partAt_at (show 0 ≤ (partAt l p s).1 by omega)
 generalize (partAt l p s).2 = t at e2 e3 ⊢
 have hgr := isPlan_at hpl j hj
 have hpj := hp.2 _ (List.getElem_mem hj)
 rw [e1]
 simp only [show ¬ ((j : Int) < 0) by omega, if_false, show (0 : Int) ≤ (j : Int) by omega, show (j : Int) < (p.length : Int) by omega, if_true, rdT_Part _ _ hj, Int.toNat_natCast]
 refine Ev.bind (slices_Contains_eq p[j].f0 id (by omega)) ?_
 have j1 : ∀ (b : Bool), Ev (fun k => impl_shown.j1 k p (j : Int) t b id l[i].f1 l[i].f2 l[i].f3) (if b = true then 1 else if t < p[j].f1 + clearOf l[i].f0 l[i].f1 l[i].f2 l[i].f3 then 2 else 0) := by
  intro b
  refine Ev.succ ?_
  simp only [impl_shown.j1, show (0 : Int) ≤ (j : Int) by omega, show (j : Int) < (p.length : Int) by omega, if_true, rdT_Part _ _ hj]
  cases b
  ·simp only [Bool.false_eq_true, if_false]
   rw [← hid]
   refine Ev.bind (impl_ClearOf_ev _ _ _ _) ?_
   rw [wrap_id (by omega) (by omega)]
   refine Ev.ifd (fun h => ?_) (fun h => ?_)
   ·rw [if_pos h]; exact Ev.now _
   ·rw [if_neg h]; exact Ev.now _
  ·simp only [if_true]; exact Ev.now _
 by_cases c1 : id ∈ p[j].f0
 ·simp only [decide_eq_true c1, Bool.not_true]
  rw [if_pos c1]
  refine Ev.succ ?_
  simp only [impl_shown.j0, Bool.false_eq_true, if_false, show (0 : Int) ≤ (j : Int) by omega, show (j : Int) < (p.length : Int) by omega, if_true, rdT_Part _ _ hj]
  by_cases c2 : t < p[j].f1
  ·simp only [c2, if_true, true_or]
   exact evq (j1 true) (by simp)
  ·simp only [c2, if_false, false_or, impl_nextStage_eq p j hj hp.1, Option.bind_some]
   have hns := nextSt_ok hp j hj
   refine Ev.bind (slices_Contains_eq (nextSt p j) id (by omega)) ?_
   refine evq (j1 _) ?_
   by_cases c3 : id ∈ nextSt p j <;> simp [c3, hid]
 ·simp only [decide_eq_false c1, Bool.not_false]
  rw [if_neg c1]
  refine Ev.succ ?_
  simp only [impl_shown.j0, if_true]; exact Ev.now _
/-- The light of a path at a second of a part. -/
def lightV (l : List S71) (p : List S85) (id : Int) (x : Int × Int) : Int :=
 if id ∈ (rd_T85 p x.1).f0 then
  (if x.2 < (rd_T85 p x.1).f1 ∨ id ∈ nextSt p x.1.toNat then 1
   else if x.2 < (rd_T85 p x.1).f1 + clrOf l id then 2 else 0)
 else 0
theorem lightAt_V (l : List S71) (p : List S85) (s id : Int) : lightAt l p s id = if findP l id < 0 then 0 else if (partAt l p s).1 < 0 then 0 else lightV l p id (partAt l p s) := rfl
def blocks (l : List S71) (p : List S85) (id : Int) : Nat → Nat → List Int
 | 0, _ => []
 | n + 1, i => (List.range (longP l p i).toNat).map (fun (s : Nat) => lightV l p id ((i : Int), (s : Int))) ++ blocks l p id n (i + 1)
theorem blocks_succ (l : List S71) (p : List S85) (id : Int) (n i : Nat) : blocks l p id (n + 1) i = (List.range (longP l p i).toNat).map (fun (s : Nat) => lightV l p id ((i : Int), (s : Int))) ++ blocks l p id n (i + 1) := rfl
theorem blocks_walk {l : List S71} {p : List S85} (h : isPlan l p = true) (id : Int) : ∀ (n i : Nat), i + n = p.length → blocks l p id n i = (List.range (sumP l p n i).toNat).map (fun (t : Nat) => lightV l p id (walkP l p n i (t : Int)))
 | 0, i, _ => by simp [blocks, sumP]
 | n + 1, i, hi => by
  have h1 := longP_bd h i (by omega)
  have h2 := sumP_bd h n (i + 1) (by omega)
  have ih := blocks_walk h id n (i + 1) (by omega)
  rw [blocks_succ, sumP_succ, ih, show (longP l p i + sumP l p n (i + 1)).toNat = (longP l p i).toNat + (sumP l p n (i + 1)).toNat by omega, List.range_add, List.map_append, List.map_map]
  congr 1
  ·apply List.map_congr_left
   intro t ht
   have := List.mem_range.1 ht
   rw [walkP_succ, if_pos (by omega)]
  ·apply List.map_congr_left
   intro t ht
   have := List.mem_range.1 ht
   show _ = lightV l p id (walkP l p (n + 1) i (((longP l p i).toNat + t : Nat) : Int))
   rw [walkP_succ, if_neg (by omega), show (((longP l p i).toNat + t : Nat) : Int) - longP l p i = (t : Int) by omega]
def rowP (l : List S71) (p : List S85) (id : Int) : List Int := if isPlan l p = true ∧ ¬ findP l id < 0 then blocks l p id p.length 0 else []
def greensP (l : List S71) (p : List S85) (id : Int) : List Bool := if findP l id < 0 then [] else (List.range (cycleP l p).toNat).map (fun (t : Nat) => lightAt l p (t : Int) id == 1)
theorem greens_row (l : List S71) (p : List S85) (id : Int) : greensP l p id = (rowP l p id).map (fun x => x == 1) := by
 unfold greensP rowP
 by_cases h0 : findP l id < 0
 ·rw [if_pos h0, if_neg (fun x => x.2 h0)]; rfl
 rw [if_neg h0]
 by_cases h : isPlan l p = true
 ·rw [if_pos ⟨h, h0⟩, blocks_walk h id p.length 0 (by omega), List.map_map]
  have hc := cycleP_pos h
  have e : cycleP l p = sumP l p p.length 0 := by unfold cycleP; rw [if_pos h]
  rw [← e]
  apply List.map_congr_left
  intro t ht
  have := List.mem_range.1 ht
  show (lightAt l p (t : Int) id == 1) = (lightV l p id (walkP l p p.length 0 (t : Int)) == 1)
  have e2 : partAt l p (t : Int) = walkP l p p.length 0 (t : Int) := by
   unfold partAt
   rw [if_pos ⟨h, by omega⟩, Int.emod_eq_of_lt (by omega) (by omega)]
  obtain ⟨j, _, e3, _⟩ := walkP_at (l := l) (p := p) p.length 0 (t : Int) (by omega) (by omega) (by rw [← e]; omega)
  rw [lightAt_V, if_neg h0, e2, if_neg (by omega)]
 ·rw [if_neg (fun x => h x.1)]
  have e : cycleP l p = 0 := by unfold cycleP; rw [if_neg h]
  rw [e]; rfl
theorem greens_len (l : List S71) (p : List S85) (id : Int) : (greensP l p id).length ≤ 390 := by
 unfold greensP
 split
 ·simp
 ·rw [List.length_map, List.length_range]
  by_cases h : isPlan l p = true
  ·have := cycleP_pos h; omega
  ·have e : cycleP l p = 0 := by unfold cycleP; rw [if_neg h]
   omega
theorem impl_greens_eq (l : List S71) (p : List S85) (id : Int) (hl : l.length ≤ 1048576) (hp : psOk p) : Ev (fun k => impl_greens.f k l p id) (greensP l p id) := by
 unfold impl_greens.f greensP
 simp only [impl_FindPath_eq, Option.bind_some]
 by_cases h0 : findP l id < 0
 ·simp only [h0, if_true]; exact Ev.now _
 simp only [h0, if_false]
 refine Ev.bind (impl_Cycle_eq l p hl hp) ?_
 have hc : 0 ≤ cycleP l p ∧ cycleP l p ≤ 390 := by
  by_cases h : isPlan l p = true
  ·have := cycleP_pos h; omega
  ·have e : cycleP l p = 0 := by unfold cycleP; rw [if_neg h]
   omega
 simp only [hc.1, if_true, show (cycleP l p).toNat ≤ 281474976710656 by omega, List.length_replicate]
 have := Ev.copy (g := fun k ys i => impl_greens.l0 k l p id ys ((cycleP l p).toNat : Int) i) (List.range (cycleP l p).toNat) (fun (t : Nat) => lightAt l p (t : Int) id == 1) false (fun i ys r h hy hr => by
  refine Ev.succ ?_
  rw [List.length_range] at h hy
  rw [List.getElem_range] at hr
  simp only [impl_greens.l0, show (i : Int) < ((cycleP l p).toNat : Int) by omega, show (0 : Int) ≤ (i : Int) by omega, show (i : Int) < (ys.length : Int) by omega, if_true, Int.toNat_natCast, wrap_id (n := (i : Int) + 1) (by omega) (by omega)]
  refine Ev.bind (impl_LightAt_eq l p _ _ hl hp) ?_
  exact hr) (fun ys => by
  refine Ev.succ ?_
  simp only [impl_greens.l0, List.length_range, Int.lt_irrefl, if_false]
  exact Ev.now _)
 rw [List.length_range] at this
 exact this
def gAt (g : List Bool) (i : Nat) : Bool := g.getD i false
def edge (g : List Bool) (i : Nat) : Bool := gAt g i && !gAt g ((i + g.length - 1) % g.length)
def firstE (g : List Bool) : Nat → Nat → Option Nat
 | 0, _ => none
 | n + 1, i => if edge g i = true then some i else firstE g n (i + 1)
def runG (g : List Bool) (s : Nat) : Nat → Nat → Nat
 | 0, m => m
 | n + 1, m => if gAt g ((s + m) % g.length) = true then runG g s n (m + 1) else m
def windowG (g : List Bool) : Int × Int × Bool := if g.length = 0 ∨ 200 < g.length then (0, 0, false) else
 match firstE g g.length 0 with
 | none => (0, (g.length : Int), true)
 | some s => ((s : Int), (runG g s g.length 0 : Int), true)
theorem firstE_at (g : List Bool) (s : Nat) : ∀ n i, firstE g n i = some s → edge g s = true ∧ i ≤ s ∧ s < i + n
 | 0, i, h => by simp [firstE] at h
 | n + 1, i, h => by
  unfold firstE at h
  split at h
  ·rename_i c
   have : i = s := by simpa using h
   subst this
   exact ⟨c, Nat.le_refl _, by omega⟩
  ·have := firstE_at g s n (i + 1) h
   exact ⟨this.1, by omega, by omega⟩
theorem prevI (i n : Nat) (hn : 1 ≤ n) (hb : i + n ≤ 100000000) : Int.tmod (wrap64 (wrap64 ((i : Int) + (n : Int)) - 1)) (n : Int) = (((i + n - 1) % n : Nat) : Int) := by
 rw [wrap_id (n := (i : Int) + (n : Int)) (by omega) (by omega), wrap_id (by omega) (by omega), tmod_nn (by omega), show (i : Int) + (n : Int) - 1 = ((i + n - 1 : Nat) : Int) by omega, ← Int.natCast_emod]
theorem addI (i j n : Nat) (hb : i + j ≤ 100000000) : Int.tmod (wrap64 ((i : Int) + (j : Int))) (n : Int) = (((i + j) % n : Nat) : Int) := by
 rw [wrap_id (by omega) (by omega), tmod_nn (by omega), show (i : Int) + (j : Int) = ((i + j : Nat) : Int) by omega, ← Int.natCast_emod]
theorem rdOf_g (g : List Bool) (i : Nat) : rdOf false g (i : Int) = gAt g i := by simp [rdOf, gAt]
/-- A run that begins behind a gap ends within the round. -/
theorem run_stop (g : List Bool) (s : Nat) (h : edge g s = true) (hs : s < g.length) : gAt g ((s + (g.length - 1)) % g.length) = false := by
 unfold edge at h
 rw [Bool.and_eq_true] at h
 have := h.2
 rw [show s + g.length - 1 = s + (g.length - 1) by omega] at this
 simpa using this
theorem impl_WindowOf_eq (l : List S71) (p : List S85) (id : Int) (hl : l.length ≤ 1048576) (hp : psOk p) : Ev (fun k => impl_WindowOf.f k l p id) (windowG (greensP l p id)) := by
 unfold impl_WindowOf.f
 refine Ev.bind (impl_greens_eq l p id hl hp) ?_
 have hlen := greens_len l p id
 generalize greensP l p id = g at hlen
 unfold windowG
 have jt : Ev (fun k => impl_WindowOf.j0 k g (g.length : Int) true) (0, 0, false) := by
  refine Ev.succ ?_
  simp only [impl_WindowOf.j0, if_true]; exact Ev.now _
 by_cases h0 : g.length = 0
 ·simp only [show (g.length : Int) = 0 by omega, h0, true_or, if_true]
  rw [show (g.length : Int) = 0 by omega] at jt
  exact jt
 simp only [show ¬ (g.length : Int) = 0 by omega, if_false]
 by_cases h1 : 200 < g.length
 ·rw [decide_eq_true (show (g.length : Int) > 200 by omega), if_pos (Or.inr h1)]
  exact jt
 rw [decide_eq_false (show ¬ (g.length : Int) > 200 by omega), if_neg (by omega)]
 refine Ev.succ ?_
 simp only [impl_WindowOf.j0, Bool.false_eq_true, if_false]
 have run : ∀ (s : Nat), edge g s = true → s < g.length → ∀ (n m : Nat), m + n + 1 = g.length → Ev (fun k => impl_WindowOf.l1 k g (g.length : Int) (s : Int) (m : Int)) ((s : Int), (runG g s (n + 1) m : Int), true) := by
  intro s he hs n
  have hst := run_stop g s he hs
  induction n with
  | zero =>
   intro m hm
   refine Ev.succ ?_
   obtain rfl : m = g.length - 1 := by omega
   have hmod : (s + (g.length - 1)) % g.length < g.length := Nat.mod_lt _ (by omega)
   simp only [impl_WindowOf.l1, show ¬ (g.length : Int) = 0 by omega, if_false, addI s (g.length - 1) g.length (by omega), show (0 : Int) ≤ (((s + (g.length - 1)) % g.length : Nat) : Int) by omega, show (((s + (g.length - 1)) % g.length : Nat) : Int) < (g.length : Int) by omega, if_true, rdOf_g, hst, Bool.false_eq_true]
   unfold runG
   rw [hst]
   exact Ev.now _
  | succ n ih =>
   intro m hm
   refine Ev.succ ?_
   have hmod : (s + m) % g.length < g.length := Nat.mod_lt _ (by omega)
   simp only [impl_WindowOf.l1, show ¬ (g.length : Int) = 0 by omega, if_false, addI s m g.length (by omega), show (0 : Int) ≤ (((s + m) % g.length : Nat) : Int) by omega, show (((s + m) % g.length : Nat) : Int) < (g.length : Int) by omega, if_true, rdOf_g, wrap_id (n := (m : Int) + 1) (by omega) (by omega)]
   unfold runG
   cases c : gAt g ((s + m) % g.length)
   ·simp only [Bool.false_eq_true, if_false]; exact Ev.now _
   ·simp only [if_true]
    have next := ih (m + 1) (by omega)
    rw [show ((m + 1 : Nat) : Int) = (m : Int) + 1 by omega] at next
    exact next
 have key : ∀ (d i : Nat), i + d = g.length → Ev (fun k => impl_WindowOf.l0 k g (g.length : Int) (g.length : Int) (i : Int)) (match firstE g d i with
   | none => (0, (g.length : Int), true)
   | some s => ((s : Int), (runG g s g.length 0 : Int), true)) := by
  intro d
  induction d with
  | zero =>
   intro i hi
   refine Ev.succ ?_
   simp only [impl_WindowOf.l0, show ¬ (i : Int) < (g.length : Int) by omega, if_false]
   exact Ev.now _
  | succ d ih =>
   intro i hi
   have hi2 : i < g.length := by omega
   have hmod : (i + g.length - 1) % g.length < g.length := Nat.mod_lt _ (by omega)
   have next := ih (i + 1) (by omega)
   rw [show ((i + 1 : Nat) : Int) = (i : Int) + 1 by omega] at next
   have j2 : ∀ b : Bool, b = edge g i → Ev (fun k => impl_WindowOf.j2 k g (g.length : Int) (i : Int) (g.length : Int) (i : Int) b) (match firstE g (d + 1) i with
     | none => (0, (g.length : Int), true)
     | some s => ((s : Int), (runG g s g.length 0 : Int), true)) := by
    intro b hb
    refine Ev.succ ?_
    simp only [impl_WindowOf.j2, wrap_id (n := (i : Int) + 1) (by omega) (by omega)]
    unfold firstE
    cases b
    ·simp only [Bool.false_eq_true, if_false, ← hb]; exact next
    ·simp only [if_true, ← hb]
     have := run i hb.symm hi2 (g.length - 1) 0 (by omega)
     rw [show g.length - 1 + 1 = g.length by omega] at this
     exact this
   refine Ev.succ ?_
   simp only [impl_WindowOf.l0, show (i : Int) < (g.length : Int) by omega, show (0 : Int) ≤ (i : Int) by omega, if_true, rdOf_g, show ¬ (g.length : Int) = 0 by omega, if_false, prevI i g.length (by omega) (by omega), show (0 : Int) ≤ (((i + g.length - 1) % g.length : Nat) : Int) by omega, show (((i + g.length - 1) % g.length : Nat) : Int) < (g.length : Int) by omega]
   cases c : gAt g i
   ·simp only [Bool.false_eq_true, if_false]
    exact j2 false (by unfold edge; rw [c]; rfl)
   ·simp only [if_true]
    exact j2 _ (by unfold edge; rw [c]; rfl)
 exact key g.length 0 (by omega)
theorem EvP.ofT {α : Type} {g : Nat → Option α} {v : α} (e : Ev g v) : EvP g (fun _ => True) := EvP.of e trivial
theorem EvP.ofE {α : Type} {g : Nat → Option α} {v : α} (e : Ev g v) : EvP g (fun t => t = v) := EvP.of e rfl
theorem spec_AddToStage_ok (l : List S71) (v : List Int) (hl : l.length ≤ 100) (hv : v.length ≤ 100) : EvP (fun k => spec_AddToStage.f k l v) (fun t => t.length ≤ v.length + l.length) := by
 unfold spec_AddToStage.f
 simp only [Option.bind_some, List.length_nil, Nat.zero_add, show v.length < 17592186044416 by omega, if_true, List.nil_append]
 have jf : ∀ (o : List Int) (i : Int), o.length ≤ v.length + l.length → EvP (fun k => spec_AddToStage.j1 k l v o i false) (fun t => t.length ≤ v.length + l.length) := by
  intro o i ho
  refine EvP.succ ?_
  simp only [spec_AddToStage.j1, Bool.false_eq_true, if_false]
  exact EvP.now ho
 have key : ∀ (d i : Nat) (o : List Int), i + d = l.length → o.length ≤ v.length + i → EvP (fun k => spec_AddToStage.l0 k l v o (i : Int)) (fun t => t.length ≤ v.length + l.length) := by
  intro d
  induction d with
  | zero =>
   intro i o hi ho
   refine EvP.succ ?_
   simp only [spec_AddToStage.l0, show ¬ (i : Int) < (l.length : Int) by omega, if_false]
   exact jf _ _ (by omega)
  | succ d ih =>
   intro i o hi ho
   refine EvP.succ ?_
   have hi2 : i < l.length := by omega
   simp only [spec_AddToStage.l0, show (i : Int) < (l.length : Int) by omega, if_true]
   refine EvP.bind (EvP.ofT (spec_IsTogether_eq l v (by omega) (by omega))) (fun b _ => ?_)
   cases b
   ·exact jf _ _ (by omega)
   refine EvP.succ ?_
   simp only [spec_AddToStage.j1, show (i : Int) < (l.length : Int) by omega, show (0 : Int) ≤ (i : Int) by omega, if_true, wrap_id (n := (i : Int) + 1) (by omega) (by omega)]
   refine EvP.bind (EvP.ofE (spec_l6Put_eq o _ (by omega))) (fun t ht => ?_)
   have htl : t.length ≤ o.length + 1 := by rw [ht]; exact put_length _ _
   refine EvP.bind (EvP.ofT (spec_IsTogether_eq l t (by omega) (by omega))) (fun b _ => ?_)
   have n1 := ih (i + 1) t (by omega) (by omega)
   have n2 := ih (i + 1) o (by omega) (by omega)
   rw [show ((i + 1 : Nat) : Int) = (i : Int) + 1 by omega] at n1 n2
   cases b
   ·simp only [Bool.false_eq_true, if_false]; exact n2
   ·simp only [if_true]; exact n1
 exact key l.length 0 v (by omega) (by omega)
def covOk (n : Nat) (st : List (List Int)) : Prop := st.length ≤ n ∧ ∀ s ∈ st, s.length ≤ 101
theorem spec_CoverOf_ok (l : List S71) (hl : l.length ≤ 100) : EvP (fun k => spec_CoverOf.f k l) (covOk l.length) := by
 unfold spec_CoverOf.f
 have jf : ∀ (o : List (List Int)) (dn : List Int) (i : Int), covOk l.length o → EvP (fun k => spec_CoverOf.j1 k l o dn i false) (covOk l.length) := by
  intro o dn i ho
  refine EvP.succ ?_
  simp only [spec_CoverOf.j1, Bool.false_eq_true, if_false]
  exact EvP.now ho
 have key : ∀ (d i : Nat) (o : List (List Int)) (dn : List Int), i + d = l.length → covOk i o → dn.length ≤ 101 * i → EvP (fun k => spec_CoverOf.l0 k l o dn (i : Int)) (covOk l.length) := by
  intro d
  induction d with
  | zero =>
   intro i o dn hi ho hd
   refine EvP.succ ?_
   simp only [spec_CoverOf.l0, show ¬ (i : Int) < (l.length : Int) by omega, if_false]
   exact jf _ _ _ ⟨by have := ho.1; omega, ho.2⟩
  | succ d ih =>
   intro i o dn hi ho hd
   refine EvP.succ ?_
   have hi2 : i < l.length := by omega
   simp only [spec_CoverOf.l0, show (i : Int) < (l.length : Int) by omega, if_true]
   refine EvP.bind (EvP.ofT (spec_ArePaths_eq l (by omega))) (fun b _ => ?_)
   cases b
   ·exact jf _ _ _ ⟨by have := ho.1; omega, ho.2⟩
   refine EvP.succ ?_
   simp only [spec_CoverOf.j1, show (i : Int) < (l.length : Int) by omega, show (0 : Int) ≤ (i : Int) by omega, if_true, wrap_id (n := (i : Int) + 1) (by omega) (by omega)]
   refine EvP.bind (EvP.ofT (spec_l6Has_eq dn _ (by omega))) (fun b _ => ?_)
   refine EvP.ifd (fun _ => ?_) (fun _ => ?_)
   ·have next := ih (i + 1) o dn (by omega) ⟨by have := ho.1; omega, ho.2⟩ (by omega)
    rw [show ((i + 1 : Nat) : Int) = (i : Int) + 1 by omega] at next
    exact next
   refine EvP.bind (spec_AddToStage_ok l [_] hl (by simp)) (fun s hs => ?_)
   have hsl : s.length ≤ 101 := by rw [List.length_singleton] at hs; omega
   have ho1 := ho.1
   simp only [show o.length < 5864062014805 by omega, if_true]
   have ho' : covOk (i + 1) (o ++ [s]) := ⟨by rw [List.length_append, List.length_singleton]; omega, fun x hx => by
    rcases List.mem_append.1 hx with h | h
    ·exact ho.2 x h
    ·rw [List.mem_singleton.1 h]; exact hsl⟩
   have inner : ∀ (e j : Nat) (dn : List Int), j + e = s.length → dn.length ≤ 101 * i + j → EvP (fun k => spec_CoverOf.l1 k l (o ++ [s]) dn (i : Int) s (j : Int)) (covOk l.length) := by
    intro e
    induction e with
    | zero =>
     intro j dn hj hd
     refine EvP.succ ?_
     simp only [spec_CoverOf.l1, show ¬ (j : Int) < (s.length : Int) by omega, if_false, wrap_id (n := (i : Int) + 1) (by omega) (by omega)]
     have next := ih (i + 1) (o ++ [s]) dn (by omega) ho' (by omega)
     rw [show ((i + 1 : Nat) : Int) = (i : Int) + 1 by omega] at next
     exact next
    | succ e ihe =>
     intro j dn hj hd
     refine EvP.succ ?_
     simp only [spec_CoverOf.l1, show (j : Int) < (s.length : Int) by omega, show (0 : Int) ≤ (j : Int) by omega, if_true, wrap_id (n := (j : Int) + 1) (by omega) (by omega)]
     refine EvP.bind (EvP.ofE (spec_l6Put_eq dn _ (by omega))) (fun t ht => ?_)
     have htl : t.length ≤ dn.length + 1 := by rw [ht]; exact put_length _ _
     have next := ihe (j + 1) t (by omega) (by omega)
     rw [show ((j + 1 : Nat) : Int) = (j : Int) + 1 by omega] at next
     exact next
   exact inner s.length 0 dn (by omega) (by omega)
 exact key l.length 0 [] [] (by omega) ⟨by simp, by simp⟩ (by simp)
/-- What the draw's plans are made of: not many parts, no empty stage. -/
def fair (p : List S85) : Prop := p.length ≤ 100 ∧ ∀ x ∈ p, 1 ≤ x.f0.length ∧ x.f0.length ≤ 101
theorem fair_nil : fair [] := ⟨by simp, by simp⟩
theorem fair_ok {p : List S85} (h : fair p) : psOk p := ⟨by have := h.1; omega, fun x hx => by have := h.2 x hx; omega⟩
theorem spec_PlanFor_ok (l : List S71) (hl : l.length ≤ 100) : EvP (fun k => spec_PlanFor.f k l) fair := by
 unfold spec_PlanFor.f
 refine EvP.bind (spec_CoverOf_ok l hl) (fun st hst => ?_)
 obtain ⟨h1, h2⟩ := hst
 have key : ∀ (d i : Nat) (p : List S85), i + d = st.length → p.length = i → (∀ x ∈ p, x.f0.length ≤ 101) → EvP (fun k => spec_PlanFor.l0 k l p st (i : Int)) fair := by
  intro d
  induction d with
  | zero =>
   intro i p hi hp hx
   refine EvP.succ ?_
   simp only [spec_PlanFor.l0, show ¬ (i : Int) < (st.length : Int) by omega, if_false]
   refine EvP.bind (EvP.ofE (spec_IsPlan_eq l p (by omega) ⟨by omega, fun x h => by have := hx x h; omega⟩)) (fun b hb => ?_)
   refine EvP.ifd (fun h => ?_) (fun _ => EvP.now fair_nil)
   refine EvP.now ⟨by omega, fun x hxm => ⟨?_, hx x hxm⟩⟩
   rw [h] at hb
   have hpl := hb.symm
   unfold isPlan at hpl
   simp only [Bool.and_eq_true, List.all_eq_true] at hpl
   have := hpl.2.1 x hxm
   unfold partOk at this
   simp only [Bool.and_eq_true, Bool.not_eq_true', decide_eq_false_iff_not] at this
   omega
  | succ d ih =>
   intro i p hi hp hx
   refine EvP.succ ?_
   have hi2 : i < st.length := by omega
   have hs := h2 _ (List.getElem_mem hi2)
   simp only [spec_PlanFor.l0, show (i : Int) < (st.length : Int) by omega, show (0 : Int) ≤ (i : Int) by omega, if_true, rdL2 _ _ hi2, show p.length < 4398046511104 by omega, wrap_id (n := (i : Int) + 1) (by omega) (by omega)]
   refine EvP.bind (EvP.ofT (spec_LeastGreen_eq l _ (by omega) (by omega))) (fun g _ => ?_)
   have next := ih (i + 1) (p ++ [(⟨st[i], g⟩ : S85)]) (by omega) (by rw [List.length_append, List.length_singleton]; omega) (fun x h => by
    rcases List.mem_append.1 h with h | h
    ·exact hx x h
    ·rw [List.mem_singleton.1 h]; exact hs)
   rw [show ((i + 1 : Nat) : Int) = (i : Int) + 1 by omega] at next
   exact next
 exact key st.length 0 [] (by omega) rfl (by simp)
theorem fair_set {p : List S85} (h : fair p) (i : Nat) (x : S85) (hx : 1 ≤ x.f0.length ∧ x.f0.length ≤ 101) : fair (p.set i x) := ⟨by rw [List.length_set]; exact h.1, fun y hy => by
 rcases List.mem_or_eq_of_mem_set hy with h2 | h2
 ·exact h.2 y h2
 ·rw [h2]; exact hx⟩
theorem spec_l8Draw_ok (b : List Int) (i h : Int) (hc : Cur b i) : EvP (fun k => spec_l8Draw.f k b i h) (fun t => t.1.length ≤ 7 ∧ fair t.2.1 ∧ Cur b t.2.2.1) := by
 unfold spec_l8Draw.f
 refine EvP.bind (spec_l5Draw_ok b i h hc) (fun t ht => ?_)
 refine EvP.bind (spec_PlanFor_ok t.1 (by have := ht.2.1; omega)) (fun p hp => ?_)
 have l1 : ∀ (l : List S71), l.length ≤ 7 → ∀ (d j : Nat) (p : List S85) (i h : Int), j + d = p.length → fair p → Cur b i → EvP (fun k => spec_l8Draw.l1 k l p (j : Int) b i h) (fun t => t.1.length ≤ 7 ∧ fair t.2.1 ∧ Cur b t.2.2.1) := by
  intro l hl d
  induction d with
  | zero =>
   intro j p i h hj hp hc
   refine EvP.succ ?_
   simp only [spec_l8Draw.l1, show ¬ (j : Int) < (p.length : Int) by omega, if_false]
   exact EvP.now ⟨hl, hp, hc⟩
  | succ d ih =>
   intro j p i h hj hp hc
   refine EvP.succ ?_
   have hp1 := hp.1
   have hj2 : j < p.length := by omega
   simp only [spec_l8Draw.l1, show (j : Int) < (p.length : Int) by omega, show (0 : Int) ≤ (j : Int) by omega, if_true, rdT_Part _ _ hj2, Int.toNat_natCast, wrap_id (n := (j : Int) + 1) (by omega) (by omega)]
   refine EvP.bindD (spec_l1Below_ok b _ _ _ hc) (fun t1 h1 => ?_)
   have next := ih (j + 1) (p.set j (⟨p[j].f0, wrap64 (p[j].f1 + t1.1)⟩ : S85)) t1.2.1 t1.2.2 (by rw [List.length_set]; omega) (fair_set hp j _ (show 1 ≤ p[j].f0.length ∧ p[j].f0.length ≤ 101 from hp.2 _ (List.getElem_mem hj2))) h1.2.2
   rw [show ((j + 1 : Nat) : Int) = (j : Int) + 1 by omega] at next
   exact next
 have l0 : ∀ (d m : Nat) (l : List S71) (p : List S85) (i h : Int), m + d = 4 → l.length ≤ 7 → fair p → Cur b i → EvP (fun k => spec_l8Draw.l0 k l p (m : Int) b i h) (fun t => t.1.length ≤ 7 ∧ fair t.2.1 ∧ Cur b t.2.2.1) := by
  have jf : ∀ (l : List S71) (p : List S85) (m i h : Int), l.length ≤ 7 → fair p → Cur b i → EvP (fun k => spec_l8Draw.j1 k l p m false b i h) (fun t => t.1.length ≤ 7 ∧ fair t.2.1 ∧ Cur b t.2.2.1) := by
   intro l p m i h hl hp hc
   refine EvP.succ ?_
   simp only [spec_l8Draw.j1, Bool.false_eq_true, if_false]
   exact l1 l hl p.length 0 p i h (by omega) hp hc
  intro d
  induction d with
  | zero =>
   intro m l p i h hm hl hp hc
   refine EvP.succ ?_
   simp only [spec_l8Draw.l0, show ¬ (m : Int) < 4 by omega, if_false]
   exact jf _ _ _ _ _ hl hp hc
  | succ d ih =>
   intro m l p i h hm hl hp hc
   refine EvP.succ ?_
   simp only [spec_l8Draw.l0, show (m : Int) < 4 by omega, if_true]
   cases ((p.length : Int) == 0)
   ·exact jf _ _ _ _ _ hl hp hc
   refine EvP.succ ?_
   simp only [spec_l8Draw.j1, if_true, wrap_id (n := (m : Int) + 1) (by omega) (by omega)]
   refine EvP.bind (spec_l5Draw_ok b i h hc) (fun t ht => ?_)
   refine EvP.bind (spec_PlanFor_ok t.1 (by have := ht.2.1; omega)) (fun q hq => ?_)
   have next := ih (m + 1) t.1 q t.2.1 t.2.2 (by omega) ht.2.1 hq ht.2.2
   rw [show ((m + 1 : Nat) : Int) = (m : Int) + 1 by omega] at next
   exact next
 exact l0 4 0 t.1 p _ _ rfl ht.2.1 hp ht.2.2
theorem spec_l8Any_ok (b : List Int) (i h : Int) (hc : Cur b i) : EvP (fun k => spec_l8Any.f k b i h) (fun t => t.1.length ≤ 7 ∧ psOk t.2.1 ∧ Cur b t.2.2.1) := by
 unfold spec_l8Any.f
 refine EvP.bind (spec_l8Draw_ok b i h hc) (fun t ht => ?_)
 obtain ⟨hl, hp, hc⟩ := ht
 have hp1 := hp.1
 refine EvP.ifd (fun _ => EvP.now ⟨hl, fair_ok hp, hc⟩) (fun hn => ?_)
 refine EvP.bindD (spec_l1Below_ok b _ _ _ hc) (fun t1 h1 => ?_)
 obtain ⟨p1, p2⟩ := h1.2.1 (by omega)
 obtain ⟨j, hj⟩ := Int.eq_ofNat_of_zero_le p1
 have hj2 : j < t.2.1.length := by omega
 have hst := hp.2 _ (List.getElem_mem hj2)
 refine EvP.bindD (spec_l1Below_ok b _ _ _ h1.2.2) (fun t2 h2 => ?_)
 refine EvP.ifd (fun _ => ?_) (fun _ => ?_)
 ·refine EvP.bindD (spec_l1Int_cur b _ _ _ h2.2.2 (by simp)) (fun t3 h3 => ?_)
  simp only [p1, p2, if_true]
  rw [hj, rdT_Part _ _ hj2]
  exact EvP.now ⟨hl, fair_ok (fair_set hp _ _ hst), h3⟩
 refine EvP.ifd (fun _ => ?_) (fun _ => ?_)
 ·simp only [p1, p2, if_true]
  rw [hj, rdT_Part _ _ hj2]
  simp only [show (1 : Int) ≤ (t.2.1[j].f0.length : Int) by omega, if_true]
  refine EvP.now ⟨hl, ?_, h2.2.2⟩
  refine ⟨by rw [List.length_set]; omega, fun x hx => ?_⟩
  rcases List.mem_or_eq_of_mem_set hx with h | h
  ·have := hp.2 x h; omega
  ·rw [h]; show (List.drop 1 _).length ≤ _; rw [List.length_drop]; omega
 refine EvP.ifd (fun _ => ?_) (fun _ => ?_)
 ·refine EvP.bind (spec_l5Any_ok b _ _ h2.2.2) (fun t3 h3 => ?_)
  exact EvP.now ⟨h3.1, fair_ok hp, h3.2⟩
 refine EvP.ifd (fun _ => ?_) (fun _ => EvP.now ⟨hl, fair_ok hp, h2.2.2⟩)
 simp only [show (1 : Int) ≤ (t.2.1.length : Int) by omega, if_true]
 refine EvP.now ⟨hl, ⟨?_, fun x hx => ?_⟩, h2.2.2⟩
 ·show (List.drop 1 _).length ≤ _; rw [List.length_drop]; omega
 ·have := hp.2 x (List.mem_of_mem_drop hx); omega
def cntG : List Bool → Int
 | [] => 0
 | b :: l => (if b = true then 1 else 0) + cntG l
theorem impl_GreenOf_eq (l : List S71) (p : List S85) (id : Int) (hl : l.length ≤ 1048576) (hp : psOk p) : Ev (fun k => impl_GreenOf.f k l p id) (cntG (greensP l p id)) := by
 unfold impl_GreenOf.f
 refine Ev.bind (impl_greens_eq l p id hl hp) ?_
 have hlen := greens_len l p id
 generalize greensP l p id = g at hlen ⊢
 have key : ∀ (d i : Nat) (a : Int), i + d = g.length → 0 ≤ a → a ≤ (i : Int) → Ev (fun k => impl_GreenOf.l0 k a g (g.length : Int) (i : Int)) (a + cntG (g.drop i)) := by
  intro d
  induction d with
  | zero =>
   intro i a hi h0 h1
   refine Ev.succ ?_
   simp only [impl_GreenOf.l0, show ¬ (i : Int) < (g.length : Int) by omega, if_false]
   exact evq (Ev.now _) (by rw [List.drop_eq_nil_of_le (show g.length ≤ i by omega)]; simp [cntG])
  | succ d ih =>
   intro i a hi h0 h1
   refine Ev.succ ?_
   have hi2 : i < g.length := by omega
   have hr : rdOf false g (i : Int) = g[i] := by simp [rdOf, hi2]
   rw [List.drop_eq_getElem_cons hi2]
   simp only [impl_GreenOf.l0, show (i : Int) < (g.length : Int) by omega, show (0 : Int) ≤ (i : Int) by omega, if_true, hr, wrap_id (n := (i : Int) + 1) (by omega) (by omega), wrap_id (n := a + 1) (by omega) (by omega)]
   unfold cntG
   cases c : g[i]
   ·simp only [Bool.false_eq_true, if_false]
    have next := ih (i + 1) a (by omega) h0 (by omega)
    rw [show ((i + 1 : Nat) : Int) = (i : Int) + 1 by omega] at next
    exact evq next (by omega)
   ·simp only [if_true]
    have next := ih (i + 1) (a + 1) (by omega) (by omega) (by omega)
    rw [show ((i + 1 : Nat) : Int) = (i : Int) + 1 by omega] at next
    exact evq next (by omega)
 simpa using key g.length 0 0 (by omega) (by omega) (by omega)
theorem spec_l9Second_ok (b : List Int) (i h : Int) (hc : Cur b i) : DrP (spec_l9Second.f b i h) (fun t => Cur b t.2.1) := by
 unfold spec_l9Second.f
 refine DrP.bind (spec_l1Below_ok b i h _ hc) (fun t1 h1 => ?_)
 refine DrP.bind (spec_l1Below_ok b _ _ _ h1.2.2) (fun t2 h2 => ?_)
 refine DrP.bind (spec_l1Below_ok b _ _ _ h2.2.2) (fun t3 h3 => ?_)
 refine DrP.bind (spec_l1Int_cur b _ _ _ h3.2.2 (by simp)) (fun t4 h4 => ?_)
 exact DrP.now h4
theorem spec_DrawWindowOf_ok (l : List Int) (hl : l.length ≤ 1048576) : EvP (fun k => spec_DrawWindowOf.f k l) (fun t => t.1.length ≤ 7 ∧ psOk t.2.1) := by
 unfold spec_DrawWindowOf.f
 refine EvP.bind (P := fun t => t.1.length ≤ 7 ∧ psOk t.2.1) ?_ (fun t ht => EvP.now ht)
 unfold spec_DrawGreenOf.f
 refine EvP.bind (P := fun t => t.1.length ≤ 7 ∧ psOk t.2.1) ?_ (fun t ht => EvP.now ht)
 unfold spec_DrawLightAt.f
 refine EvP.bind (spec_l1New_ok l hl) (fun t ht => ?_)
 refine EvP.bind (spec_l8Any_ok _ _ _ ht.2) (fun t1 h1 => ?_)
 refine EvP.bindD (spec_l9Second_ok _ _ _ h1.2.2) (fun t2 h2 => ?_)
 refine EvP.bindD (spec_l1Below_ok _ _ _ _ h2) (fun t3 _ => ?_)
 exact EvP.now ⟨h1.1, h1.2.1⟩
theorem spec_DrawBand_ok (l : List Int) (hl : l.length ≤ 1048576) : EvP (fun k => spec_DrawBand.f k l) (fun _ => True) := by
 unfold spec_DrawBand.f
 refine EvP.bind (spec_l1New_ok l hl) (fun t ht => ?_)
 refine EvP.bindD (spec_l21Cycle_ok _ _ _ ht.2) (fun t1 h1 => ?_)
 refine EvP.bindD (spec_l21Window_ok _ _ _ _ h1) (fun t2 h2 => ?_)
 refine EvP.bindD (spec_l21Window_ok _ _ _ _ h2) (fun t3 h3 => ?_)
 refine EvP.bindD (spec_l1Int_cur _ _ _ _ h3 (by simp)) (fun t4 h4 => ?_)
 refine EvP.bindD (spec_l1Int_cur _ _ _ _ h4 (by simp)) (fun t5 h5 => ?_)
 exact EvP.now trivial
theorem walkP_near {l : List S71} {p : List S85} (h : isPlan l p = true) : ∀ (n i : Nat) (s : Int), i + n = p.length → 0 ≤ s → s < sumP l p n i → ∃ (j : Nat) (t : Int), j < p.length ∧ walkP l p n i s = ((j : Int), t) ∧ 0 ≤ t ∧ t < longP l p j ∧ t ≤ s ∧ s - t + longP l p j ≤ sumP l p n i ∧ ∀ u : Int, 0 ≤ u → u < longP l p j → walkP l p n i (s - t + u) = ((j : Int), u)
 | 0, i, s, _, h0, h1 => by rw [sumP_zero] at h1; omega
 | n + 1, i, s, hi, h0, h1 => by
  rw [sumP_succ] at h1
  have hb := longP_bd h i (by omega)
  have hs := sumP_bd h n (i + 1) (by omega)
  have e0 := sumP_succ l p n i
  by_cases c : s < longP l p i
  ·refine ⟨i, s, by omega, by rw [walkP_succ, if_pos c], h0, c, by omega, by omega, fun u h2 h3 => ?_⟩
   rw [show s - s + u = u by omega, walkP_succ, if_pos h3]
  ·obtain ⟨j, t, e1, e2, e3, e4, e5, e6, e7⟩ := walkP_near h n (i + 1) (s - longP l p i) (by omega) (by omega) (by omega)
   refine ⟨j, t, e1, by rw [walkP_succ, if_neg c]; exact e2, e3, e4, by omega, by omega, fun u h2 h3 => ?_⟩
   rw [walkP_succ, if_neg (by omega), show s - t + u - longP l p i = s - longP l p i - t + u by omega]
   exact e7 u h2 h3
theorem walkP_start {l : List S71} {p : List S85} (h : isPlan l p = true) : ∀ (j n i : Nat), i + n = p.length → j < n → walkP l p n i (sumP l p j i) = (((i + j : Nat) : Int), 0) ∧ sumP l p j i < sumP l p n i
 | j, 0, i, _, hj => absurd hj (by omega)
 | 0, n + 1, i, hi, _ => by
  have hb := longP_bd h i (by omega)
  have hs := sumP_bd h n (i + 1) (by omega)
  rw [sumP_zero, walkP_succ, if_pos (by omega), sumP_succ]
  exact ⟨rfl, by omega⟩
 | j + 1, n + 1, i, hi, hj => by
  have hb := longP_bd h i (by omega)
  have hs := sumP_bd h j (i + 1) (by omega)
  obtain ⟨e1, e2⟩ := walkP_start h j n (i + 1) (by omega) (by omega)
  rw [sumP_succ, sumP_succ, walkP_succ, if_neg (by omega), show longP l p i + sumP l p j (i + 1) - longP l p i = sumP l p j (i + 1) by omega, e1]
  exact ⟨by rw [show i + 1 + j = i + (j + 1) by omega], by omega⟩
theorem greens_gAt {l : List S71} {p : List S85} {id : Int} (h0 : ¬ findP l id < 0) (s : Nat) (hs : (s : Int) < cycleP l p) : gAt (greensP l p id) s = (lightAt l p (s : Int) id == 1) := by
 unfold gAt greensP
 rw [if_neg h0]
 have hn : s < (cycleP l p).toNat := by omega
 simp [hn]
theorem light_walk {l : List S71} {p : List S85} {id : Int} (h : isPlan l p = true) (h0 : ¬ findP l id < 0) (s : Int) (hs0 : 0 ≤ s) (hs : s < cycleP l p) : lightAt l p s id = lightV l p id (walkP l p p.length 0 s) := by
 have hc := cycleP_pos h
 have e : cycleP l p = sumP l p p.length 0 := by unfold cycleP; rw [if_pos h]
 have e2 : partAt l p s = walkP l p p.length 0 s := by
  unfold partAt
  rw [if_pos ⟨h, by omega⟩, Int.emod_eq_of_lt (by omega) (by omega)]
 obtain ⟨j, _, e3, _⟩ := walkP_at (l := l) (p := p) p.length 0 s (by omega) (by omega) (by rw [← e]; omega)
 rw [lightAt_V, if_neg h0, e2, if_neg (by omega)]
theorem lightV_green (l : List S71) (p : List S85) (id : Int) (x : Int × Int) : lightV l p id x = 1 ↔ id ∈ (rd_T85 p x.1).f0 ∧ (x.2 < (rd_T85 p x.1).f1 ∨ id ∈ nextSt p x.1.toNat) := by
 unfold lightV
 by_cases a : id ∈ (rd_T85 p x.1).f0
 ·rw [if_pos a]
  by_cases b : x.2 < (rd_T85 p x.1).f1 ∨ id ∈ nextSt p x.1.toNat
  ·rw [if_pos b]; exact ⟨fun _ => ⟨a, b⟩, fun _ => rfl⟩
  ·rw [if_neg b]
   refine ⟨fun h => ?_, fun h => absurd h.2 b⟩
   split at h <;> omega
 ·rw [if_neg a]; exact ⟨fun h => by omega, fun h => absurd h.1 a⟩
theorem greens_length {l : List S71} {p : List S85} {id : Int} (h0 : ¬ findP l id < 0) : (greensP l p id).length = (cycleP l p).toNat := by
 unfold greensP
 rw [if_neg h0, List.length_map, List.length_range]
theorem edge_run {l : List S71} {p : List S85} {id : Int} (h : isPlan l p = true) (h0 : ¬ findP l id < 0) (s : Nat) (hs : (s : Int) < cycleP l p) (he : edge (greensP l p id) s = true) : ((s : Int) + 5 ≤ cycleP l p) ∧ ∀ m : Nat, m < 5 → gAt (greensP l p id) (s + m) = true := by
 have hc := cycleP_pos h
 have e : cycleP l p = sumP l p p.length 0 := by unfold cycleP; rw [if_pos h]
 have hlen := greens_length (p := p) h0
 unfold edge at he
 rw [Bool.and_eq_true, hlen, Bool.not_eq_true', greens_gAt h0 s hs, beq_iff_eq] at he
 obtain ⟨g1, g2⟩ := he
 obtain ⟨j, t, e1, e2, e3, e4, e5, e6, e7⟩ := walkP_near h p.length 0 (s : Int) (by omega) (by omega) (by rw [← e]; omega)
 rw [light_walk h h0 _ (by omega) hs, e2, lightV_green] at g1
 have hl := longP_bd h j e1
 have hf := isPlan_at h j e1
 have hr := rdT_Part p j e1
 dsimp only at g1
 rw [hr] at g1
 have ht : t = 0 := by
  refine Int.le_antisymm (Int.not_lt.1 (fun hgt => ?_)) e3
  have e8 := e7 (t - 1) (by omega) (by omega)
  have hs1 : (s + (cycleP l p).toNat - 1) % (cycleP l p).toNat = s - 1 := by
   rw [show s + (cycleP l p).toNat - 1 = s - 1 + (cycleP l p).toNat by omega, Nat.add_mod_right, Nat.mod_eq_of_lt (by omega)]
  rw [hs1, greens_gAt h0 (s - 1) (by omega), light_walk h h0 _ (by omega) (by omega), show ((s - 1 : Nat) : Int) = (s : Int) - t + (t - 1) by omega, e8] at g2
  have hg : lightV l p id ((j : Int), t - 1) = 1 := by
   rw [lightV_green]
   dsimp only
   rw [hr]
   exact ⟨g1.1, g1.2.imp (fun x => by omega) (fun x => x)⟩
  rw [hg] at g2
  exact absurd g2 (by decide)
 subst ht
 refine ⟨by omega, fun m hm => ?_⟩
 rw [greens_gAt h0 (s + m) (by omega), beq_iff_eq, light_walk h h0 _ (by omega) (by omega), show ((s + m : Nat) : Int) = (s : Int) - 0 + (m : Int) by omega, e7 _ (by omega) (by omega), lightV_green]
 dsimp only
 rw [hr]
 exact ⟨g1.1, .inl (by omega)⟩
theorem green_some {l : List S71} {p : List S85} {id : Int} (h : isPlan l p = true) (h0 : ¬ findP l id < 0) : ∃ s : Nat, (s : Int) < cycleP l p ∧ gAt (greensP l p id) s = true := by
 have e : cycleP l p = sumP l p p.length 0 := by unfold cycleP; rw [if_pos h]
 obtain ⟨k, hk, _, hid⟩ := findP_at (l := l) (id := id) (by omega)
 have hcv := h
 unfold isPlan at hcv
 rw [Bool.and_eq_true, Bool.and_eq_true] at hcv
 have hcv := hcv.2.2
 unfold covers at hcv
 rw [Bool.and_eq_true, Bool.and_eq_true, List.all_eq_true, List.all_eq_true] at hcv
 have hany := hcv.2.2 _ (List.getElem_mem hk)
 rw [List.any_eq_true] at hany
 obtain ⟨st, hst, hin⟩ := hany
 rw [decide_eq_true_eq, hid] at hin
 unfold stagesOf at hst
 obtain ⟨x, hx, rfl⟩ := List.mem_map.1 hst
 obtain ⟨j, hj, rfl⟩ := List.mem_iff_getElem.1 hx
 obtain ⟨w1, w2⟩ := walkP_start h j p.length 0 (by omega) hj
 have hs := sumP_bd h j 0 (by omega)
 have hf := isPlan_at h j hj
 refine ⟨(sumP l p j 0).toNat, by omega, ?_⟩
 rw [greens_gAt h0 _ (by omega), beq_iff_eq, light_walk h h0 _ (by omega) (by omega), show ((sumP l p j 0).toNat : Int) = sumP l p j 0 by omega, w1, lightV_green]
 dsimp only
 rw [Nat.zero_add, rdT_Part p j hj]
 exact ⟨hin, .inl (by omega)⟩
theorem runG_succ (g : List Bool) (s n m : Nat) : runG g s (n + 1) m = if gAt g ((s + m) % g.length) = true then runG g s n (m + 1) else m := rfl
theorem runG_spec (g : List Bool) (s : Nat) : ∀ n m, m ≤ runG g s n m ∧ runG g s n m ≤ m + n ∧ (∀ j, m ≤ j → j < runG g s n m → gAt g ((s + j) % g.length) = true) ∧ (runG g s n m < m + n → gAt g ((s + runG g s n m) % g.length) = false)
 | 0, m => ⟨Nat.le_refl m, Nat.le_refl m, fun j h1 h2 => absurd h2 (by show ¬ j < m; omega), fun h => absurd h (Nat.lt_irrefl m)⟩
 | n + 1, m => by
  rw [runG_succ]
  by_cases c : gAt g ((s + m) % g.length) = true
  ·rw [if_pos c]
   obtain ⟨a, b, d, e⟩ := runG_spec g s n (m + 1)
   refine ⟨by omega, by omega, fun j h1 h2 => ?_, fun h => e (by omega)⟩
   by_cases hj : j = m
   ·rw [hj]; exact c
   ·exact d j (by omega) h2
  ·rw [if_neg c]
   exact ⟨Nat.le_refl m, by omega, fun j h1 h2 => absurd h2 (by omega), fun _ => by simpa using c⟩
theorem firstE_none (g : List Bool) : ∀ n i, firstE g n i = none → ∀ j, i ≤ j → j < i + n → edge g j = false
 | 0, i, _, j, h1, h2 => absurd h2 (by omega)
 | n + 1, i, h, j, h1, h2 => by
  unfold firstE at h
  split at h
  ·cases h
  ·rename_i c
   by_cases e : j = i
   ·rw [e]; simpa using c
   ·exact firstE_none g n (i + 1) h j (by omega) (by omega)
theorem ring_down (g : List Bool) (h : ∀ i, i < g.length → edge g i = false) : ∀ d s, s < g.length → gAt g s = true → d ≤ s → gAt g (s - d) = true
 | 0, s, _, h2, _ => h2
 | d + 1, s, h1, h2, h3 => by
  have ih := ring_down g h d s h1 h2 (by omega)
  have he := h (s - d) (by omega)
  unfold edge at he
  rw [ih, Bool.true_and, Bool.not_eq_false', show s - d + g.length - 1 = s - (d + 1) + g.length by omega, Nat.add_mod_right, Nat.mod_eq_of_lt (by omega)] at he
  exact he
theorem ring_all (g : List Bool) (h : ∀ i, i < g.length → edge g i = false) (s : Nat) (hs : s < g.length) (hg : gAt g s = true) (x : Nat) (hx : x < g.length) : gAt g x = true := by
 have z := ring_down g h s s hs hg (Nat.le_refl s)
 rw [Nat.sub_self] at z
 have he := h 0 (by omega)
 unfold edge at he
 rw [z, Bool.true_and, Bool.not_eq_false', show 0 + g.length - 1 = g.length - 1 by omega, Nat.mod_eq_of_lt (by omega)] at he
 have := ring_down g h (g.length - 1 - x) (g.length - 1) (by omega) he (by omega)
 rwa [show g.length - 1 - (g.length - 1 - x) = x by omega] at this
theorem cntG_cnt (g : List Bool) : ∀ d i, i + d = g.length → cntG (g.drop i) = cnt (fun x => gAt g x.toNat) d (i : Int)
 | 0, i, h => by rw [List.drop_eq_nil_of_le (show g.length ≤ i by omega)]; rfl
 | d + 1, i, h => by
  have hi : i < g.length := by omega
  have hr : g[i] = gAt g i := by simp [gAt, hi]
  rw [List.drop_eq_getElem_cons hi]
  show (if g[i] = true then 1 else 0) + cntG (g.drop (i + 1)) = (if gAt g ((i : Int).toNat) = true then 1 else 0) + cnt (fun x => gAt g x.toNat) d ((i : Int) + 1)
  rw [cntG_cnt g d (i + 1) (by omega), hr, Int.toNat_natCast]
  rfl
theorem window_ok {l : List S71} {p : List S85} {id : Int} {f L : Int} (hw : windowG (greensP l p id) = (f, L, true)) : isPlan l p = true ∧ (5 ≤ cycleP l p ∧ cycleP l p ≤ 200) ∧ 0 ≤ f ∧ f ≤ cycleP l p - 1 ∧ 5 ≤ L ∧ L ≤ cycleP l p ∧ L ≤ cntG (greensP l p id) ∧ ∀ x : Nat, (x : Int) < cycleP l p → ((x : Int) - f) % cycleP l p < L → lightAt l p (x : Int) id = 1 := by
 unfold windowG at hw
 by_cases hn : (greensP l p id).length = 0 ∨ 200 < (greensP l p id).length
 ·rw [if_pos hn] at hw; cases hw
 rw [if_neg hn] at hw
 have h0 : ¬ findP l id < 0 := fun h0 => hn (.inl (by unfold greensP; rw [if_pos h0]; rfl))
 have hlen := greens_length (p := p) h0
 have hpl : isPlan l p = true := by
  by_cases h : isPlan l p = true
  ·exact h
  ·have e : cycleP l p = 0 := by unfold cycleP; rw [if_neg h]
   exact absurd (.inl (by rw [hlen, e]; rfl)) hn
 have hc := cycleP_pos hpl
 have hcl : ((greensP l p id).length : Int) = cycleP l p := by omega
 suffices H : 0 ≤ f ∧ f ≤ cycleP l p - 1 ∧ 5 ≤ L ∧ L ≤ cycleP l p ∧ ∀ x : Nat, (x : Int) < cycleP l p → ((x : Int) - f) % cycleP l p < L → gAt (greensP l p id) x = true by
  obtain ⟨a1, a2, a3, a4, a5⟩ := H
  refine ⟨hpl, by omega, a1, a2, a3, a4, ?_, fun x h1 h2 => ?_⟩
  ·have e1 := cntG_cnt (greensP l p id) (greensP l p id).length 0 (by omega)
   rw [List.drop_zero] at e1
   have e2 := cnt_win (greensP l p id).length (by omega) f L (by omega) (by omega)
   rw [e1, ← e2]
   refine cnt_mono _ _ _ _ (fun x h1 h2 h3 => ?_)
   rw [decide_eq_true_eq, hcl] at h3
   exact a5 x.toNat (by omega) (by rw [Int.toNat_of_nonneg h1]; exact h3)
  ·have := a5 x h1 h2
   rwa [greens_gAt h0 x h1, beq_iff_eq] at this
 cases hf : firstE (greensP l p id) (greensP l p id).length 0 with
 | none =>
  rw [hf] at hw
  have e1 : (0 : Int) = f := congrArg (fun t => t.1) hw
  have e2 : ((greensP l p id).length : Int) = L := congrArg (fun t => t.2.1) hw
  obtain ⟨s, s1, s2⟩ := green_some hpl h0
  have hne := firstE_none _ _ _ hf
  refine ⟨by omega, by omega, by omega, by omega, fun x h1 _ => ?_⟩
  exact ring_all _ (fun i hi => hne i (by omega) (by omega)) s (by omega) s2 x (by omega)
 | some s =>
  rw [hf] at hw
  have e1 : (s : Int) = f := congrArg (fun t => t.1) hw
  have e2 : (runG (greensP l p id) s (greensP l p id).length 0 : Int) = L := congrArg (fun t => t.2.1) hw
  obtain ⟨he, _, s2⟩ := firstE_at _ _ _ _ hf
  obtain ⟨r1, r2⟩ := edge_run hpl h0 s (by omega) he
  obtain ⟨b1, b2, b3, b4⟩ := runG_spec (greensP l p id) s (greensP l p id).length 0
  have h5 : 5 ≤ runG (greensP l p id) s (greensP l p id).length 0 := by
   refine Nat.le_of_not_lt (fun hlt => ?_)
   have q1 := b4 (by omega)
   have q2 := r2 _ hlt
   rw [Nat.mod_eq_of_lt (by omega), q2] at q1
   cases q1
  refine ⟨by omega, by omega, by omega, by omega, fun x h1 h2 => ?_⟩
  subst e1
  by_cases hx : s ≤ x
  ·rw [Int.emod_eq_of_lt (by omega) (by omega)] at h2
   have q := b3 (x - s) (by omega) (by omega)
   rwa [show s + (x - s) = x by omega, Nat.mod_eq_of_lt (by omega)] at q
  ·have em : ((x : Int) - (s : Int)) % cycleP l p = (x : Int) - s + cycleP l p := by
    rw [← Int.add_emod_right]
    exact Int.emod_eq_of_lt (by omega) (by omega)
   rw [em] at h2
   have q := b3 (x + (greensP l p id).length - s) (by omega) (by omega)
   rwa [show s + (x + (greensP l p id).length - s) = x + (greensP l p id).length by omega, Nat.add_mod_right, Nat.mod_eq_of_lt (by omega)] at q
theorem band_le (af al bf bl c t o : Int) : band af al bf bl c t o ≤ greatestBand af al bf bl c := by
 by_cases h : (isWindow af al c && isWindow bf bl c && decide (0 ≤ t ∧ t ≤ 100000) && decide (0 ≤ o ∧ o ≤ 100000)) = true
 ·have hh := h
  simp only [Bool.and_eq_true, decide_eq_true_eq] at hh
  obtain ⟨⟨⟨ha, hb⟩, ht⟩, ho⟩ := hh
  have hA := (isWindow_iff _ _ _).1 ha
  have hB := (isWindow_iff _ _ _).1 hb
  rw [band_both _ _ _ _ _ _ _ ha hb ht ho]
  unfold greatestBand
  rw [ha, hb]
  simp only [Bool.and_true, if_true]
  exact both_le _ _ _ _ _ (by omega) (by omega) (by omega)
 ·have e : band af al bf bl c t o = 0 := by unfold band; rw [if_neg h]
  rw [e]
  unfold greatestBand
  split
  ·rename_i w
   rw [Bool.and_eq_true] at w
   have hA := (isWindow_iff _ _ _).1 w.1
   have hB := (isWindow_iff _ _ _).1 w.2
   omega
  ·omega
theorem best_nn (af al bf bl c t : Int) : 0 ≤ bestOffset af al bf bl c t ↔ isWindow af al c = true ∧ isWindow bf bl c = true ∧ 0 ≤ t ∧ t ≤ 100000 := by
 unfold bestOffset
 by_cases h : (isWindow af al c && isWindow bf bl c && decide (0 ≤ t ∧ t ≤ 100000)) = true
 ·rw [if_pos h]
  simp only [Bool.and_eq_true, decide_eq_true_eq] at h
  exact ⟨fun _ => ⟨h.1.1, h.1.2, h.2⟩, fun _ => (argBest_bd _ _).1⟩
 ·rw [if_neg h]
  simp only [Bool.and_eq_true, decide_eq_true_eq] at h
  exact ⟨fun h2 => absurd h2 (by omega), fun h2 => absurd ⟨⟨h2.1, h2.2.1⟩, h2.2.2⟩ h⟩
theorem best_hi {af al bf bl c t : Int} (h : 0 ≤ bestOffset af al bf bl c t) : bestOffset af al bf bl c t < c ∧ band af al bf bl c t (bestOffset af al bf bl c t) = greatestBand af al bf bl c := by
 obtain ⟨ha, hb, ht⟩ := (best_nn _ _ _ _ _ _).1 h
 have hA := (isWindow_iff _ _ _).1 ha
 refine ⟨?_, ?_⟩
 ·have := argBest_bd (band af al bf bl c t) c.toNat
  have e : bestOffset af al bf bl c t = argBest (band af al bf bl c t) c.toNat := by unfold bestOffset; rw [ha, hb, decide_eq_true ht]; rfl
  omega
 ·rw [best_band _ _ _ _ _ _ ha hb ht]
  unfold greatestBand
  rw [ha, hb]; rfl
theorem waves2 (l : List Int) (hl : l.length ≤ 1048576) : Ev (fun k => laws_FnWaves.j2 k l false) true := by
 refine Ev.succ ?_
 simp only [laws_FnWaves.j2, Bool.false_eq_true, if_false]
 refine Ev.bindP (spec_DrawWindowOf_ok l hl) (fun t ht => ?_)
 obtain ⟨q, p, id⟩ := t
 dsimp only at ht ⊢
 have hq : q.length ≤ 1048576 := by omega
 refine Ev.bind (impl_WindowOf_eq q p id hq ht.2) ?_
 rcases hw : windowG (greensP q p id) with ⟨f, L, ok⟩
 cases ok
 ·simp only [Bool.false_eq_true, if_false]; exact Ev.now _
 obtain ⟨h1, h2, h3, h4, h5, h6, h7, h8⟩ := window_ok hw
 dsimp only
 simp only [if_true]
 refine Ev.bind (impl_Cycle_eq q p hq ht.2) ?_
 have hwin : isWindow f L (cycleP q p) = true := (isWindow_iff _ _ _).2 (by omega)
 simp only [impl_IsWindow_eq, Option.bind_some, hwin, if_true]
 refine Ev.bind (impl_GreenOf_eq q p id hq ht.2) ?_
 refine Ev.ifn (by omega) ?_
 rw [decide_eq_false (show ¬ L < 5 by omega)]
 refine Ev.succ ?_
 simp only [laws_FnWaves.j3, Bool.false_eq_true, if_false]
 have key : ∀ (d i : Nat), (i : Int) + d = cycleP q p → Ev (fun k => laws_FnWaves.l0 k q p id (cycleP q p) (i : Int) f L) true := by
  intro d
  induction d with
  | zero =>
   intro i hi
   refine Ev.succ ?_
   simp only [laws_FnWaves.l0, show ¬ (i : Int) < cycleP q p by omega, if_false]
   exact Ev.now _
  | succ d ih =>
   intro i hi
   refine Ev.succ ?_
   have next := ih (i + 1) (by omega)
   rw [show ((i + 1 : Nat) : Int) = (i : Int) + 1 by omega] at next
   simp only [laws_FnWaves.l0, show (i : Int) < cycleP q p by omega, if_true, impl_InWindow_eq, Option.bind_some, inWin hwin (show -1000000 ≤ (0 : Int) ∧ (0 : Int) ≤ 1000000 by omega) (show -1000000 ≤ (i : Int) ∧ (i : Int) ≤ 1000000 by omega), decide_eq_true_eq, wrap_id (n := (i : Int) + 1) (by omega) (by omega), Int.sub_zero]
   refine Ev.ifd (fun hin => ?_) (fun _ => next)
   refine Ev.bind (impl_LightAt_eq q p (i : Int) id hq ht.2) ?_
   refine Ev.ifp (h8 i (by omega) hin) next
 exact key (cycleP q p).toNat 0 (by omega)
theorem waves1 (l : List Int) (hl : l.length ≤ 1048576) (af al bf bl c t : Int) : Ev (fun k => laws_FnWaves.j1 k l c t (greatestBand af al bf bl c) (bestOffset af al bf bl c t) false af al bf bl) true := by
 refine Ev.succ ?_
 simp only [laws_FnWaves.j1, Bool.false_eq_true, if_false]
 refine Ev.ifd (fun h => ?_) (fun _ => waves2 l hl)
 obtain ⟨h1, h2⟩ := best_hi h
 refine Ev.ifn (by omega) ?_
 refine Ev.bind (impl_Band_eq ..) ?_
 rw [h2, bne_self_eq_false]
 exact waves2 l hl
theorem waves0 (l : List Int) (hl : l.length ≤ 1048576) (af al bf bl c t : Int) : Ev (fun k => laws_FnWaves.j0 k l c t (greatestBand af al bf bl c) false af al bf bl) true := by
 refine Ev.succ ?_
 simp only [laws_FnWaves.j0, Bool.false_eq_true, if_false]
 refine Ev.bind (impl_BestOffset_eq ..) ?_
 simp only [impl_IsWindow_eq, Option.bind_some]
 have hb := best_nn af al bf bl c t
 have hj : ∀ b, b = false → Ev (fun k => laws_FnWaves.j1 k l c t (greatestBand af al bf bl c) (bestOffset af al bf bl c t) b af al bf bl) true := fun b e => e ▸ waves1 l hl af al bf bl c t
 refine Ev.ifd (fun h1 => ?_) (fun h1 => hj _ ?_)
 ·refine Ev.ifd (fun h2 => ?_) (fun h2 => hj _ ?_)
  ·refine Ev.ifd (fun h3 => hj _ ?_) (fun h3 => hj _ ?_)
   ·rw [bne_eq_false_iff_eq, decide_eq_decide]
    exact ⟨fun h => (hb.1 h).2.2.2, fun h => hb.2 ⟨h1, h2, h3, h⟩⟩
   ·rw [decide_eq_false (fun h => h3 (hb.1 h).2.2.1)]; rfl
  ·rw [decide_eq_false (fun h => h2 (hb.1 h).2.1)]; rfl
 ·rw [decide_eq_false (fun h => h1 (hb.1 h).1)]; rfl
theorem holds : ∀ (l0 : List Int), l0.length ≤ maxLen → (∀ x ∈ l0, (Lit.int .u8 x).wf = true) → ∃ k, laws_FnWaves.f k l0 = some true := by
 intro l hm _
 apply Ev.rounds
 unfold laws_FnWaves.f
 simp only [laws_big_eq, Option.bind_some]
 by_cases hb : (l.length : Int) > 1048576
 ·simp only [hb, decide_true, if_true]; exact Ev.now _
 have hl : l.length ≤ 1048576 := by omega
 simp only [hb, decide_false, Bool.false_eq_true, if_false]
 refine Ev.bindP (spec_DrawBand_ok l hl) (fun t _ => ?_)
 obtain ⟨af, al, bf, bl, c, tr, o⟩ := t
 dsimp only
 refine Ev.bind (impl_Band_eq ..) ?_
 simp only [impl_GreatestBand_eq, Option.bind_some]
 have h1 := band_le af al bf bl c tr o
 have h2 := band_nn af al bf bl c tr o
 refine Ev.ifn (by omega) ?_
 rw [decide_eq_false (show ¬ band af al bf bl c tr o > greatestBand af al bf bl c by omega)]
 exact waves0 l hl af al bf bl c tr
end Go.Proofs.Ytjgigmghcfdomaa.Pure.FnWaves

