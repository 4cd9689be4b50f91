/- The law FnStreets of the given program, as a statement over numbers and lists alone, for all arguments; no conditions but the machine's own bounds. -/
import Derived.Test.YtdaofiiedclmpaaPFnStreetsx
import Derived.Test.YtdaofiiedclmpaaBase
namespace Go.Proofs.Ytdaofiiedclmpaa.Pure.FnStreets
open Go.RowKit Go.Proofs.Ytdaofiiedclmpaa.PFnStreets Go.Proofs.YtdaofiiedclmpaaW.PrintWords Go.Proofs.YtdaofiiedclmpaaW.PrintLast Go.Proofs.Ytdaofiiedclmpaa.Bas
set_option linter.unusedVariables false
set_option linter.unusedSimpArgs false
theorem impl_InRange_eq (a lo hi : Int) : impl_InRange.f a lo hi = some (decide (lo ≤ a ∧ a ≤ hi)) := by
 unfold impl_InRange.f; grind
theorem impl_isCrossing_eq (a : Int) : impl_isCrossing.f a = some (decide (1 ≤ a ∧ a ≤ 8)) := by
 unfold impl_isCrossing.f; rw [impl_InRange_eq]; rfl
theorem rdT_Street (xs : List S47) (i : Nat) (h : i < xs.length) : rd_T47 xs (i : Int) = xs[i] := by simp [rd_T47, h]
theorem spec_l6Has_eq (l : List Int) (x : Int) (hl : l.length ≤ 140737488355328) : Ev (fun k => spec_l6Has.f k l x) (decide (x ∈ l)) := by
 unfold spec_l6Has.f
 have key : ∀ (d i : Nat), i + d = l.length → Ev (fun k => spec_l6Has.l0 k l x (i : Int)) (decide (x ∈ l.drop i)) := by
  intro d
  induction d with
  | zero =>
   intro i hi
   refine Ev.succ ?_
   simp only [spec_l6Has.l0, show ¬ (i : Int) < (l.length : Int) by omega, if_false]
   exact evq (Ev.now _) (by simp [List.drop_eq_nil_of_le (show l.length ≤ i by omega)])
  | succ d ih =>
   intro i hi
   refine Ev.succ ?_
   have ihh := ih (i + 1) (by omega)
   rw [show ((i + 1 : Nat) : Int) = (i : Int) + 1 by omega] at ihh
   simp only [spec_l6Has.l0, show (i : Int) < (l.length : Int) by omega, show (0 : Int) ≤ (i : Int) by omega, if_true, rd_nat _ _ (show i < l.length by omega), wrap_id (n := (i : Int) + 1) (by omega) (by omega)]
   rw [mem_drop _ _ (by omega)]
   by_cases h1 : l[i] = x
   ·simp only [h1, if_true, decide_true, Bool.true_or]; exact Ev.now _
   ·rw [decide_eq_false (fun h : x = l[i] => h1 h.symm), Bool.false_or]; simp only [h1, if_false]; exact ihh
 simpa using key l.length 0 (by omega)
theorem slices_Contains_eq (l : List Int) (x : Int) (hl : l.length ≤ 140737488355328) : Ev (fun k => slices_Contains_int_int.f k l x) (decide (x ∈ l)) := by
 unfold slices_Contains_int_int.f slices_Index_int_int.f
 have key : ∀ (d i : Nat), i + d = l.length → ∃ n : Int, Ev (fun k => slices_Index_int_int.l0 k l x (l.length : Int) (i : Int)) n ∧ decide (n ≥ 0) = decide (x ∈ l.drop i) := by
  intro d
  induction d with
  | zero =>
   intro i hi
   refine ⟨-1, Ev.succ ?_, by simp [List.drop_eq_nil_of_le (show l.length ≤ i by omega)]⟩
   simp only [slices_Index_int_int.l0, show ¬ (i : Int) < (l.length : Int) by omega, if_false]
   exact Ev.now _
  | succ d ih =>
   intro i hi
   obtain ⟨n, hn, he⟩ := ih (i + 1) (by omega)
   rw [show ((i + 1 : Nat) : Int) = (i : Int) + 1 by omega] at hn
   rw [mem_drop _ _ (by omega)]
   by_cases h1 : x = l[i]
   ·refine ⟨(i : Int), Ev.succ ?_, by rw [decide_eq_true h1, Bool.true_or]; simp⟩
    simp only [slices_Index_int_int.l0, show (i : Int) < (l.length : Int) by omega, show (0 : Int) ≤ (i : Int) by omega, if_true, rd_nat _ _ (show i < l.length by omega), if_pos h1]
    exact Ev.now _
   ·refine ⟨n, Ev.succ ?_, by rw [he, decide_eq_false h1, Bool.false_or]⟩
    simp only [slices_Index_int_int.l0, show (i : Int) < (l.length : Int) by omega, show (0 : Int) ≤ (i : Int) by omega, if_true, rd_nat _ _ (show i < l.length by omega), if_neg h1, wrap_id (n := (i : Int) + 1) (by omega) (by omega)]
    exact hn
 obtain ⟨n, hn, he⟩ := key l.length 0 (by omega)
 simp only [List.drop_zero] at he
 rw [← he]
 exact Ev.bind (by simpa using hn) (Ev.now _)
def findS (l : List S47) (a b : Int) : Int := Go.Proofs.Ytdaofiiedclmpaa.Hnd.fidx (fun x : S47 => x.f0 == a && x.f1 == b) l 0
theorem findS_lo (l : List S47) (a b : Int) : -1 ≤ findS l a b := fidx_lo _ _
theorem findS_hi (l : List S47) (a b : Int) : findS l a b < l.length := fidx_hi _ _
theorem findS_neg (l : List S47) (a b : Int) : findS l a b < 0 ↔ ∀ x ∈ l, ¬ (x.f0 = a ∧ x.f1 = b) := by
 rcases fidx_cases (fun x : S47 => x.f0 == a && x.f1 == b) l 0 with ⟨h1, h2⟩ | ⟨i, h1, h2, h3, _⟩
 ·refine ⟨fun _ x hx => by simpa using h2 x hx, fun _ => by unfold findS; omega⟩
 ·refine ⟨fun h => by unfold findS at h; omega, fun h => absurd (show l[i].f0 = a ∧ l[i].f1 = b by simpa using h3) (h _ (List.getElem_mem _))⟩
theorem findS_at {l : List S47} {a b : Int} (h : 0 ≤ findS l a b) : ∃ (i : Nat) (hi : i < l.length), findS l a b = (i : Int) ∧ l[i].f0 = a ∧ l[i].f1 = b := by
 rcases fidx_cases (fun x : S47 => x.f0 == a && x.f1 == b) l 0 with ⟨h1, _⟩ | ⟨i, h1, h2, h3, _⟩
 ·unfold findS at h; omega
 ·exact ⟨i, h2, by unfold findS; omega, by simpa using h3⟩
def secOf (l : List S47) (a b : Int) : Int := if 0 ≤ findS l a b then (rd_T47 l (findS l a b)).f2 else 0
def cross (n : Int) : Bool := decide (1 ≤ n ∧ n ≤ 8)
def stB (a b c f : Int) : Bool := cross a && cross b && !decide (a = b) && decide (1 ≤ c ∧ c ≤ 300) && decide (f < 0)
def stAt (l : List S47) (i : Nat) : Bool := stB (rd_T47 l (i : Int)).f0 (rd_T47 l (i : Int)).f1 (rd_T47 l (i : Int)).f2 (findS (l.take i) (rd_T47 l (i : Int)).f0 (rd_T47 l (i : Int)).f1)
def areStreets (l : List S47) : Bool := (List.range l.length).all (stAt l) && decide (l.length ≤ 16)
theorem areStreets_len {l : List S47} (h : areStreets l = true) : l.length ≤ 16 := by simp [areStreets] at h; exact h.2
theorem areStreets_at {l : List S47} (h : areStreets l = true) (i : Nat) (hi : i < l.length) : 1 ≤ l[i].f0 ∧ l[i].f0 ≤ 8 ∧ 1 ≤ l[i].f1 ∧ l[i].f1 ≤ 8 ∧ l[i].f0 ≠ l[i].f1 ∧ 1 ≤ l[i].f2 ∧ l[i].f2 ≤ 300 := by
 simp only [areStreets, Bool.and_eq_true, List.all_eq_true, List.mem_range] at h
 have := h.1 i hi
 simp only [stAt, stB, cross, rdT_Street _ _ hi, Bool.and_eq_true, decide_eq_true_eq, Bool.not_eq_true', decide_eq_false_iff_not] at this
 omega
theorem secOf_pos {l : List S47} (h : areStreets l = true) (a b : Int) : (secOf l a b = 0 ↔ findS l a b < 0) ∧ 0 ≤ secOf l a b ∧ secOf l a b ≤ 300 := by
 unfold secOf
 by_cases h0 : 0 ≤ findS l a b
 ·obtain ⟨i, hi, he, _⟩ := findS_at h0
  have := areStreets_at h i hi
  rw [if_pos h0, he, rdT_Street _ _ hi]
  omega
 ·rw [if_neg h0]; omega
theorem impl_streetOf_eq (l : List S47) (a b : Int) : impl_streetOf.f l a b = some (findS l a b) := rfl
theorem impl_AreStreets_eq (l : List S47) (hl : l.length ≤ 1048576) : Ev (fun k => impl_AreStreets.f k l) (areStreets l) := by
 unfold impl_AreStreets.f areStreets
 by_cases h16 : l.length ≤ 16
 ·simp only [show ¬ ((l.length : Int) > 16) by omega, if_false, decide_eq_true h16, Bool.and_true]
  have key : ∀ (d i : Nat), i + d = l.length → Ev (fun k => impl_AreStreets.l0 k l l (l.length : Int) (i : Int)) ((List.range' i d).all (stAt l)) := by
   intro d
   induction d with
   | zero =>
    intro i hi
    refine Ev.succ ?_
    simp only [impl_AreStreets.l0, show ¬ (i : Int) < (l.length : Int) by omega, if_false]
    exact Ev.now _
   | succ d ih =>
    intro i hi
    refine Ev.succ ?_
    have ihh := ih (i + 1) (by omega)
    rw [show ((i + 1 : Nat) : Int) = (i : Int) + 1 by omega] at ihh
    simp only [impl_AreStreets.l0, show (i : Int) < (l.length : Int) by omega, show (0 : Int) ≤ (i : Int) by omega, if_true, impl_isCrossing_eq, impl_InRange_eq, Option.bind_some]
    have hj : ∀ b : Bool, Ev (fun k => impl_AreStreets.j1 k l (i : Int) l (l.length : Int) (i : Int) b (rd_T47 l (i : Int)).f0 (rd_T47 l (i : Int)).f1 (rd_T47 l (i : Int)).f2) (!b && decide (findS (l.take i) (rd_T47 l (i : Int)).f0 (rd_T47 l (i : Int)).f1 < 0) && (List.range' (i + 1) d).all (stAt l)) := by
     intro b
     refine Ev.succ ?_
     cases b
     ·simp only [impl_AreStreets.j1, Bool.false_eq_true, if_false, show (0 : Int) ≤ (i : Int) by omega, show (i : Int) ≤ (l.length : Int) by omega, if_true, impl_streetOf_eq, Option.bind_some, Int.toNat_natCast, wrap_id (n := (i : Int) + 1) (by omega) (by omega), Bool.not_false, Bool.true_and]
      by_cases hf : findS (l.take i) (rd_T47 l (i : Int)).f0 (rd_T47 l (i : Int)).f1 < 0
      ·simp only [show ¬ findS (l.take i) (rd_T47 l (i : Int)).f0 (rd_T47 l (i : Int)).f1 ≥ 0 by omega, if_false, decide_eq_true hf, Bool.true_and]; exact ihh
      ·simp only [show findS (l.take i) (rd_T47 l (i : Int)).f0 (rd_T47 l (i : Int)).f1 ≥ 0 by omega, if_true, decide_eq_false hf, Bool.false_and]; exact Ev.now _
     ·simp only [impl_AreStreets.j1, if_true, Bool.not_true, Bool.false_and]; exact Ev.now _
    rw [List.range'_succ, List.all_cons]
    show Ev _ (stB _ _ _ _ && _)
    generalize (rd_T47 l (i : Int)).f0 = a at hj ⊢
    generalize (rd_T47 l (i : Int)).f1 = b at hj ⊢
    generalize (rd_T47 l (i : Int)).f2 = c at hj ⊢
    unfold stB cross
    by_cases h1 : 1 ≤ a ∧ a ≤ 8
    ·by_cases h2 : 1 ≤ b ∧ b ≤ 8
     ·by_cases h3 : a = b
      ·simp only [decide_eq_true h1, decide_eq_true h2, h3, if_true, decide_true, Bool.not_true, Bool.and_false, Bool.false_and]
       rw [h3] at hj
       exact hj true
      ·simp only [decide_eq_true h1, decide_eq_true h2, h3, if_true, if_false, decide_false, Bool.not_false, Bool.true_and]
       exact evq (hj _) (by rw [Bool.not_not])
     ·simp only [decide_eq_true h1, decide_eq_false h2, if_true, Bool.false_eq_true, if_false, Bool.and_false, Bool.false_and]; exact hj true
    ·simp only [decide_eq_false h1, Bool.false_eq_true, if_false, Bool.false_and]; exact hj true
  have := key l.length 0 (by omega)
  rwa [← List.range_eq_range'] at this
 ·simp only [show (l.length : Int) > 16 by omega, if_true, decide_eq_false h16, Bool.and_false]; exact Ev.now _
theorem spec_l20Seconds_eq (l : List S47) (a b : Int) (hl : l.length ≤ 1048576) : Ev (fun k => spec_l20Seconds.f k l a b) (secOf l a b) := by
 unfold spec_l20Seconds.f
 have key : ∀ (d i : Nat), i + d = l.length → Ev (fun k => spec_l20Seconds.l0 k l a b (i : Int)) (if 0 ≤ Go.Proofs.Ytdaofiiedclmpaa.Hnd.fidx (fun x : S47 => x.f0 == a && x.f1 == b) (l.drop i) (0 + i) then (rd_T47 l (Go.Proofs.Ytdaofiiedclmpaa.Hnd.fidx (fun x : S47 => x.f0 == a && x.f1 == b) (l.drop i) (0 + i))).f2 else 0) := by
  intro d
  induction d with
  | zero =>
   intro i hi
   refine Ev.succ ?_
   simp only [spec_l20Seconds.l0, show ¬ (i : Int) < (l.length : Int) by omega, if_false]
   rw [List.drop_eq_nil_of_le (by omega)]
   exact Ev.now _
  | succ d ih =>
   intro i hi
   refine Ev.succ ?_
   have ihh := ih (i + 1) (by omega)
   rw [show ((i + 1 : Nat) : Int) = (i : Int) + 1 by omega] at ihh
   rw [fidx_drop _ _ _ _ (by omega)]
   simp only [spec_l20Seconds.l0, show (i : Int) < (l.length : Int) by omega, show (0 : Int) ≤ (i : Int) by omega, if_true, rdT_Street _ _ (show i < l.length by omega), wrap_id (n := (i : Int) + 1) (by omega) (by omega)]
   by_cases h1 : l[i].f0 = a
   ·by_cases h2 : l[i].f1 = b
    ·have hb : (l[i].f0 == a && l[i].f1 == b) = true := by simp [h1, h2]
     simp only [hb, if_true, Nat.zero_add, show (0 : Int) ≤ (i : Int) by omega, rdT_Street _ _ (show i < l.length by omega)]
     simp only [h1, h2, if_true]; exact Ev.now _
    ·have hb : (l[i].f0 == a && l[i].f1 == b) = false := by simp [h2]
     simp only [hb, if_false, Bool.false_eq_true]
     simp only [h1, h2, if_true, if_false]; exact ihh
   ·have hb : (l[i].f0 == a && l[i].f1 == b) = false := by simp [h1]
    simp only [hb, if_false, Bool.false_eq_true]
    simp only [h1, if_false]; exact ihh
 exact key l.length 0 (by omega)
def chAt (l : List S47) (c : List Int) (i : Nat) : Bool := cross (rd c (i : Int)) && !decide (rd c (i : Int) ∈ c.take i) && (decide (i = 0) || decide (0 ≤ findS l (rd c ((i : Int) - 1)) (rd c (i : Int))))
def isChain (l : List S47) (c : List Int) : Bool := areStreets l && decide (1 ≤ c.length ∧ c.length ≤ 8) && (List.range c.length).all (chAt l c)
/-- No nine different numbers lie in 1 .. 8. -/
theorem pigeon : ∀ (n : Nat) (c : List Int), c.Nodup → (∀ x ∈ c, 1 ≤ x ∧ x ≤ (n : Int)) → c.length ≤ n
 | 0, c, _, h => by
  cases c with
  | nil => simp
  | cons x xs => have := h x (by simp); omega
 | n + 1, c, hn, h => by
  have h1 := pigeon n (c.filter (fun x => decide (x ≠ (n : Int) + 1))) (List.Pairwise.filter _ hn) (fun x hx => by
   have hm := List.mem_filter.1 hx
   have := h x hm.1
   have hne : x ≠ (n : Int) + 1 := of_decide_eq_true hm.2
   have : x ≤ (n : Int) + 1 := by have := this.2; push_cast at this; omega
   have := h x hm.1
   omega)
  have h2 : ∀ (l : List Int) (a : Int), l.Nodup → l.length ≤ (l.filter (fun x => decide (x ≠ a))).length + 1 := by
   intro l a
   induction l with
   | nil => intro _; simp
   | cons x xs ih =>
    intro hnd
    rw [List.nodup_cons] at hnd
    by_cases hx : x = a
    ·subst hx
     have : (xs.filter (fun y => decide (y ≠ x))) = xs := List.filter_eq_self.2 (fun y hy => by simp; intro e; exact hnd.1 (e ▸ hy))
     rw [List.filter_cons, this]; simp
    ·have := ih hnd.2
     rw [List.filter_cons]; simp [hx]; simpa using this
  have := h2 c ((n : Int) + 1) hn
  omega
theorem chain_nodup (c : List Int) (h : ∀ i, i < c.length → rd c (i : Int) ∉ c.take i) : c.Nodup := by
 rw [List.nodup_iff_pairwise_ne, List.pairwise_iff_getElem]
 intro i j hi hj hij e
 have := h j hj
 rw [rd_nat _ _ hj] at this
 exact this (List.mem_take_iff_getElem.2 ⟨i, by omega, e⟩)
theorem chain_le {l : List S47} {c : List Int} (h : (List.range c.length).all (chAt l c) = true) : c.length ≤ 8 := by
 simp only [List.all_eq_true, List.mem_range, chAt, cross, Bool.and_eq_true, decide_eq_true_eq, Bool.not_eq_true', decide_eq_false_iff_not] at h
 refine pigeon 8 c (chain_nodup c (fun i hi => (h i hi).1.2)) (fun x hx => ?_)
 obtain ⟨i, hi, rfl⟩ := List.getElem_of_mem hx
 have := (h i hi).1.1
 rwa [rd_nat _ _ hi] at this
theorem impl_IsChain_eq (l : List S47) (c : List Int) (hl : l.length ≤ 1048576) (hc : c.length ≤ 1048576) : Ev (fun k => impl_IsChain.f k l c) (isChain l c) := by
 unfold impl_IsChain.f isChain
 refine Ev.bind (impl_AreStreets_eq l hl) ?_
 have jt : Ev (fun k => impl_IsChain.j0 k l c true) false := by
  refine Ev.succ ?_
  simp only [impl_IsChain.j0, if_true]; exact Ev.now _
 cases ha : areStreets l
 ·simp only [Bool.false_eq_true, if_false, Bool.false_and]; exact jt
 simp only [if_true, Bool.true_and, impl_InRange_eq, Option.bind_some]
 by_cases h8 : 1 ≤ c.length ∧ c.length ≤ 8
 ·rw [decide_eq_true h8, decide_eq_true (show (1 : Int) ≤ (c.length : Int) ∧ (c.length : Int) ≤ 8 by omega), Bool.true_and]
  refine Ev.succ ?_
  simp only [impl_IsChain.j0, Bool.not_true, Bool.false_eq_true, if_false]
  have key : ∀ (d i : Nat), i + d = c.length → Ev (fun k => impl_IsChain.l0 k l c c (c.length : Int) (i : Int)) ((List.range' i d).all (chAt l c)) := by
   intro d
   induction d with
   | zero =>
    intro i hi
    refine Ev.succ ?_
    simp only [impl_IsChain.l0, show ¬ (i : Int) < (c.length : Int) by omega, if_false]
    exact Ev.now _
   | succ d ih =>
    intro i hi
    refine Ev.succ ?_
    have ihh := ih (i + 1) (by omega)
    rw [show ((i + 1 : Nat) : Int) = (i : Int) + 1 by omega] at ihh
    simp only [impl_IsChain.l0, show (i : Int) < (c.length : Int) by omega, show (i : Int) ≤ (c.length : Int) by omega, show (0 : Int) ≤ (i : Int) by omega, if_true, impl_isCrossing_eq, Option.bind_some, Int.toNat_natCast, wrap_id (n := (i : Int) + 1) (by omega) (by omega)]
    rw [List.range'_succ, List.all_cons, show chAt l c i = (decide (1 ≤ rd c (i : Int) ∧ rd c (i : Int) ≤ 8) && !decide (rd c (i : Int) ∈ c.take i) && (decide (i = 0) || decide (0 ≤ findS l (rd c ((i : Int) - 1)) (rd c (i : Int))))) from rfl]
    by_cases h1 : 1 ≤ rd c (i : Int) ∧ rd c (i : Int) ≤ 8
    ·simp only [decide_eq_true h1, if_true, Bool.true_and]
     refine Ev.bind (slices_Contains_eq _ _ (by simp; omega)) ?_
     by_cases h2 : rd c (i : Int) ∈ c.take i
     ·simp only [decide_eq_true h2, if_true, Bool.not_true, Bool.false_and]; exact Ev.now _
     ·simp only [decide_eq_false h2, Bool.false_eq_true, if_false, Bool.not_false, Bool.true_and]
      by_cases h0 : i = 0
      ·subst h0; simpa using ihh
      ·simp only [show (i : Int) > 0 by omega, if_true, wrap_id (n := (i : Int) - 1) (by omega) (by omega), show (0 : Int) ≤ (i : Int) - 1 by omega, show (i : Int) - 1 < (c.length : Int) by omega, impl_streetOf_eq, Option.bind_some, decide_eq_false h0, Bool.false_or]
       by_cases h3 : 0 ≤ findS l (rd c ((i : Int) - 1)) (rd c (i : Int))
       ·simp only [show ¬ findS l (rd c ((i : Int) - 1)) (rd c (i : Int)) < 0 by omega, if_false, decide_eq_true h3, Bool.true_and]; exact ihh
       ·simp only [show findS l (rd c ((i : Int) - 1)) (rd c (i : Int)) < 0 by omega, if_true, decide_eq_false h3, Bool.false_and]; exact Ev.now _
    ·simp only [decide_eq_false h1, Bool.false_eq_true, if_false, Bool.false_and]; exact Ev.now _
  have := key c.length 0 (by omega)
  rwa [← List.range_eq_range'] at this
 ·rw [decide_eq_false h8, decide_eq_false (show ¬ ((1 : Int) ≤ (c.length : Int) ∧ (c.length : Int) ≤ 8) by omega), Bool.false_and]; exact jt
def trav (l : List S47) (c : List Int) : Nat → Int
 | 0 => 0
 | i + 1 => trav l c i + secOf l (rd c (i : Int)) (rd c ((i : Int) + 1))
theorem trav_bd {l : List S47} (h : areStreets l = true) (c : List Int) : ∀ i, 0 ≤ trav l c i ∧ trav l c i ≤ 300 * i
 | 0 => by simp [trav]
 | i + 1 => by
  have := trav_bd h c i
  have := secOf_pos h (rd c (i : Int)) (rd c ((i : Int) + 1))
  unfold trav
  push_cast
  omega
def chainTravel (l : List S47) (c : List Int) : List Int := if isChain l c then (List.range c.length).map (trav l c) else []
theorem isChain_iff {l : List S47} {c : List Int} (h : isChain l c = true) : areStreets l = true ∧ 1 ≤ c.length ∧ c.length ≤ 8 ∧ ∀ i, i < c.length → chAt l c i = true := by
 simp only [isChain, Bool.and_eq_true, decide_eq_true_eq, List.all_eq_true, List.mem_range] at h
 exact ⟨h.1.1, h.1.2.1, h.1.2.2, h.2⟩
theorem chainTravel_le (l : List S47) (c : List Int) : (chainTravel l c).length ≤ 8 := by
 unfold chainTravel
 split
 ·rename_i h; simpa using (isChain_iff h).2.2.1
 ·simp
theorem trav_next {l : List S47} {c : List Int} (i : Nat) (h : i ≠ 0) : trav l c i = trav l c (i - 1) + secOf l (rd c ((i : Int) - 1)) (rd c (i : Int)) := by
 obtain ⟨j, rfl⟩ : ∃ j, i = j + 1 := ⟨i - 1, by omega⟩
 show trav l c j + _ = trav l c (j + 1 - 1) + _
 rw [show ((j + 1 : Nat) : Int) - 1 = (j : Int) by omega, show ((j + 1 : Nat) : Int) = (j : Int) + 1 by omega]; rfl
theorem impl_ChainTravel_eq (l : List S47) (c : List Int) (hl : l.length ≤ 1048576) (hc : c.length ≤ 1048576) : Ev (fun k => impl_ChainTravel.f k l c) (chainTravel l c) := by
 unfold impl_ChainTravel.f chainTravel
 simp only [Option.bind_some]
 refine Ev.bind (impl_IsChain_eq l c hl hc) ?_
 cases hch : isChain l c
 ·simp only [Bool.false_eq_true, if_false]; exact Ev.now _
 obtain ⟨hs, h1, h8, hat⟩ := isChain_iff hch
 simp only [if_true]
 have key : ∀ (d i : Nat), i + d = c.length → Ev (fun k => impl_ChainTravel.l0 k l c ((List.range i).map (trav l c)) (trav l c (i - 1)) c (c.length : Int) (i : Int)) ((List.range c.length).map (trav l c)) := by
  intro d
  induction d with
  | zero =>
   intro i hi
   refine Ev.succ ?_
   simp only [impl_ChainTravel.l0, show ¬ (i : Int) < (c.length : Int) by omega, if_false]
   exact evq (Ev.now _) (by rw [show i = c.length by omega])
  | succ d ih =>
   intro i hi
   refine Ev.succ ?_
   have ihh := ih (i + 1) (by omega)
   rw [show ((i + 1 : Nat) : Int) = (i : Int) + 1 by omega, List.range_succ, List.map_append, show i + 1 - 1 = i by omega] at ihh
   have tb := trav_bd hs c (i - 1)
   simp only [impl_ChainTravel.l0, show (i : Int) < (c.length : Int) by omega, show (0 : Int) ≤ (i : Int) by omega, if_true, List.length_map, List.length_range, show i < 17592186044416 by omega, wrap_id (n := (i : Int) + 1) (by omega) (by omega)]
   by_cases h0 : i = 0
   ·subst h0; simpa [trav] using ihh
   ·have hfs : 0 ≤ findS l (rd c ((i : Int) - 1)) (rd c (i : Int)) := by
     have := hat i (by omega)
     simp only [chAt, Bool.and_eq_true, Bool.or_eq_true, decide_eq_true_eq] at this
     rcases this.2 with h | h
     ·exact absurd h h0
     ·exact h
    have hhi := findS_hi l (rd c ((i : Int) - 1)) (rd c (i : Int))
    have hsec : (rd_T47 l (findS l (rd c ((i : Int) - 1)) (rd c (i : Int)))).f2 = secOf l (rd c ((i : Int) - 1)) (rd c (i : Int)) := by unfold secOf; rw [if_pos hfs]
    have hsb := secOf_pos hs (rd c ((i : Int) - 1)) (rd c (i : Int))
    simp only [show (i : Int) > 0 by omega, if_true, wrap_id (n := (i : Int) - 1) (by omega) (by omega), show (0 : Int) ≤ (i : Int) - 1 by omega, show (i : Int) - 1 < (c.length : Int) by omega, impl_streetOf_eq, Option.bind_some, hfs, hhi, hsec]
    rw [wrap_id (by omega) (by omega), ← trav_next i h0]
    exact ihh
 have := key c.length 0 (by omega)
 simpa [trav] using this
theorem spec_l1New_ok (l : List Int) (hl : l.length ≤ 1048576) : EvP (fun k => spec_l1New.f k l) (fun t => t.1 = l ∧ Cur t.1 t.2.1) := by
 unfold spec_l1New.f
 have key : ∀ (d i : Nat) (h : Int), i + d = l.length → EvP (fun k => spec_l1New.l0 k l h (i : Int)) (fun t => t.1 = l ∧ Cur t.1 t.2.1) := by
  intro d
  induction d with
  | zero =>
   intro i h hi
   refine EvP.succ ?_
   simp only [spec_l1New.l0, show ¬ (i : Int) < (l.length : Int) by omega, if_false]
   exact EvP.now ⟨rfl, Int.le_refl _, by show (0 : Int) ≤ (l.length : Int); omega, hl⟩
  | succ d ih =>
   intro i h hi
   refine EvP.succ ?_
   simp only [spec_l1New.l0, show (i : Int) < (l.length : Int) by omega, show (0 : Int) ≤ (i : Int) by omega, if_true, wrap_id (n := (i : Int) + 1) (by omega) (by omega)]
   refine EvP.ifd (fun _ => ?_) (fun _ => EvP.now ⟨rfl, Int.le_refl _, by show (0 : Int) ≤ (l.length : Int); omega, hl⟩)
   have := ih (i + 1) (Go.bits .and .i64 (wrap64 ((wrap64 ((wrap64 (h * 137)) + (wrap64 (rd l i)))) + 11)) 1073741823) (by omega)
   simpa using this
 exact key l.length 0 _ (by omega)
theorem spec_l1Byte_ok (b : List Int) (i h : Int) (hc : Cur b i) : DrP (spec_l1Byte.f b i h) (fun t => 0 ≤ t.1 ∧ t.1 < 256 ∧ Cur b t.2.1) := by
 unfold spec_l1Byte.f
 obtain ⟨h0, h1, h2⟩ := hc
 by_cases hi : i < (b.length : Int)
 ·rw [if_pos hi, if_pos h0]
  refine DrP.now ⟨(and255 _).1, (and255 _).2, ?_⟩
  simp only [wrap_id (n := i + 1) (by omega) (by omega)]
  unfold Cur; omega
 ·rw [if_neg hi]
  exact DrP.now ⟨(and255 _).1, (and255 _).2, h0, h1, h2⟩
theorem spec_l1Below_ok (b : List Int) (i h n : Int) (hc : Cur b i) : DrP (spec_l1Below.f b i h n) (fun t => (n ≤ 0 → t.1 = 0) ∧ (0 < n → 0 ≤ t.1 ∧ t.1 < n) ∧ Cur b t.2.1) := by
 unfold spec_l1Below.f
 by_cases h0 : n ≤ 0
 ·rw [if_pos h0]; exact DrP.now ⟨fun _ => rfl, fun h => absurd h (by omega), hc⟩
 rw [if_neg h0]
 have hm : ∀ x : Int, 0 ≤ x → 0 ≤ Int.tmod x n ∧ Int.tmod x n < n := fun x hx => by rw [tmod_nn hx]; exact ⟨Int.emod_nonneg _ (by omega), Int.emod_lt_of_pos _ (by omega)⟩
 by_cases h1 : n ≤ 256
 ·rw [if_pos h1]
  refine DrP.bind (spec_l1Byte_ok b i h hc) (fun t ht => ?_)
  rw [if_neg (by omega)]
  exact DrP.now ⟨fun h => absurd h h0, fun _ => hm _ ht.1, ht.2.2⟩
 ·rw [if_neg h1]
  refine DrP.bind (spec_l1Byte_ok b i h hc) (fun t ht => ?_)
  refine DrP.bind (spec_l1Byte_ok b _ _ ht.2.2) (fun u hu => ?_)
  refine DrP.bind (spec_l1Byte_ok b _ _ hu.2.2) (fun v hv => ?_)
  rw [if_neg (by omega)]
  refine DrP.now ⟨fun h => absurd h h0, fun _ => hm _ ?_, hv.2.2⟩
  obtain ⟨t1, t2, _⟩ := ht
  obtain ⟨u1, u2, _⟩ := hu
  obtain ⟨v1, v2, _⟩ := hv
  rw [wrap_id (n := t.1 * 65536) (by omega) (by omega), wrap_id (n := u.1 * 256) (by omega) (by omega), wrap_id (n := t.1 * 65536 + u.1 * 256) (by omega) (by omega), wrap_id (by omega) (by omega)]
  omega
theorem spec_l1Once_ok (b : List Int) (i h n : Int) (hc : Cur b i) : DrP (spec_l1Once.f b i h n) (fun t => Cur b t.2.1) := by
 unfold spec_l1Once.f
 refine DrP.bind (spec_l1Below_ok b i h n hc) (fun t ht => ?_)
 exact DrP.now ht.2.2
theorem spec_l1Int_ok (b : List Int) (i h : Int) (l : List Int) (lo hi : Int) (hc : Cur b i) (hne : l.length ≠ 0) (hb : ∀ x ∈ l, lo ≤ x ∧ x ≤ hi) : DrP (spec_l1Int.f b i h l) (fun t => lo ≤ t.1 ∧ t.1 ≤ hi ∧ Cur b t.2.1) := by
 unfold spec_l1Int.f
 refine DrP.bind (spec_l1Below_ok b i h _ hc) (fun t ht => ?_)
 obtain ⟨h1, h2⟩ := ht.2.1 (by omega)
 rw [if_pos h1, if_pos h2]
 refine DrP.now ?_
 have : rd l t.1 ∈ l := by
  obtain ⟨n, hn⟩ := Int.eq_ofNat_of_zero_le h1
  rw [hn, rd_nat _ _ (by omega)]
  exact List.getElem_mem _
 have := hb _ this
 exact ⟨this.1, this.2, ht.2.2⟩
theorem spec_l1Int_cur (b : List Int) (i h : Int) (l : List Int) (hc : Cur b i) (hne : l.length ≠ 0) : DrP (spec_l1Int.f b i h l) (fun t => Cur b t.2.1) := by
 unfold spec_l1Int.f
 refine DrP.bind (spec_l1Below_ok b i h _ hc) (fun t ht => ?_)
 obtain ⟨h1, h2⟩ := ht.2.1 (by omega)
 rw [if_pos h1, if_pos h2]
 exact DrP.now ht.2.2
theorem laws_big_eq (l : List Int) : laws_big.f l = some (decide ((l.length : Int) > 1048576)) := by unfold laws_big.f; rfl
namespace BF
structure E where
 a : Int
 b : Int
 s : Int
def upd (d : Int → Int) (v x : Int) : Int → Int := fun u => if u = v then x else d u
def rel (d : Int → Int) (e : E) : Int → Int := if d e.a < 0 then d else if d e.b < 0 ∨ d e.a + e.s < d e.b then upd d e.b (d e.a + e.s) else d
def round (es : List E) (d : Int → Int) : Int → Int := es.foldl rel d
/-- Each place that was reached is reached still, and no later. -/
def le (d' d : Int → Int) : Prop := ∀ v, 0 ≤ d v → 0 ≤ d' v ∧ d' v ≤ d v
theorem le_refl (d : Int → Int) : le d d := fun _ h => ⟨h, Int.le_refl _⟩
theorem le_trans {a b c : Int → Int} (h : le a b) (k : le b c) : le a c := fun v hv => ⟨(h v (k v hv).1).1, Int.le_trans (h v (k v hv).1).2 (k v hv).2⟩
theorem rel_le (d : Int → Int) (e : E) (hs : 0 ≤ e.s) : le (rel d e) d := by
 intro v hv
 unfold rel
 split
 ·exact ⟨hv, Int.le_refl _⟩
 ·split
  ·rename_i h1 h2
   unfold upd
   split
   ·rename_i h3; subst h3; omega
   ·exact ⟨hv, Int.le_refl _⟩
  ·exact ⟨hv, Int.le_refl _⟩
theorem round_le : ∀ (es : List E), (∀ e ∈ es, 0 ≤ e.s) → ∀ d, le (round es d) d
 | [], _, d => le_refl d
 | e :: es, h, d => le_trans (round_le es (fun x hx => h x (List.mem_cons_of_mem _ hx)) (rel d e)) (rel_le d e (h e List.mem_cons_self))
/-- Walks out of c: how many streets, where, how long. -/
def W (es : List E) (c : Int) : Nat → Int → Int → Prop
 | 0, v, L => v = c ∧ L = 0
 | n + 1, v, L => ∃ e ∈ es, ∃ L', W es c n e.a L' ∧ v = e.b ∧ L = L' + e.s
/-- What a round does for one street: its end is reached no later than by it. -/
theorem round_edge : ∀ (es : List E), (∀ e ∈ es, 0 ≤ e.s) → ∀ (d : Int → Int) (e : E), e ∈ es → 0 ≤ d e.a → 0 ≤ round es d e.b ∧ round es d e.b ≤ d e.a + e.s
 | [], _, _, _, h, _ => absurd h (by simp)
 | x :: es, hs, d, e, h, h0 => by
  have hs' := fun y hy => hs y (List.mem_cons_of_mem x hy)
  show 0 ≤ round es (rel d x) e.b ∧ round es (rel d x) e.b ≤ d e.a + e.s
  rcases List.mem_cons.1 h with rfl | h
  ·have hr := round_le es hs' (rel d e)
   have h1 : 0 ≤ rel d e e.b ∧ rel d e e.b ≤ d e.a + e.s := by
    have := hs e List.mem_cons_self
    unfold rel
    rw [if_neg (by omega)]
    split
    ·unfold upd; rw [if_pos rfl]; omega
    ·omega
   have := hr e.b h1.1
   omega
  ·have h2 := rel_le d x (hs x List.mem_cons_self) e.a h0
   have := round_edge es hs' (rel d x) e h h2.1
   omega
def A (es : List E) (c : Int) (k : Nat) (d : Int → Int) : Prop := ∀ n v L, n ≤ k → W es c n v L → 0 ≤ d v ∧ d v ≤ L
theorem A_round (es : List E) (hs : ∀ e ∈ es, 0 ≤ e.s) (c : Int) (k : Nat) (d : Int → Int) (h : A es c k d) : A es c (k + 1) (round es d) := by
 intro n v L hn hw
 cases n with
 | zero =>
  have h0 := h 0 v L (by omega) hw
  have := round_le es hs d v h0.1
  omega
 | succ n =>
  obtain ⟨e, he, L', hw', rfl, rfl⟩ := hw
  have h0 := h n e.a L' (by omega) hw'
  have := round_edge es hs d e he h0.1
  omega
def B (es : List E) (c : Int) (d : Int → Int) : Prop := ∀ v, 0 ≤ d v → ∃ n, W es c n v (d v)
theorem B_rel (es : List E) (c : Int) (d : Int → Int) (e : E) (he : e ∈ es) (h : B es c d) : B es c (rel d e) := by
 intro v hv
 unfold rel at hv ⊢
 split
 ·rename_i h1; rw [if_pos h1] at hv; exact h v hv
 ·rename_i h1
  rw [if_neg h1] at hv
  split
  ·rename_i h2
   rw [if_pos h2] at hv
   unfold upd at hv ⊢
   by_cases hb : v = e.b
   ·obtain ⟨n, hn⟩ := h e.a (by omega)
    refine ⟨n + 1, e, he, d e.a, hn, hb, ?_⟩
    rw [if_pos hb]
   ·rw [if_neg hb] at hv ⊢
    exact h v hv
  ·rename_i h2; rw [if_neg h2] at hv; exact h v hv
theorem B_fold (es : List E) (c : Int) : ∀ (fs : List E), (∀ e ∈ fs, e ∈ es) → ∀ d, B es c d → B es c (round fs d)
 | [], _, _, h => h
 | f :: fs, hf, d, h => B_fold es c fs (fun e he => hf e (List.mem_cons_of_mem _ he)) (rel d f) (B_rel es c d f (hf f List.mem_cons_self) h)
/-- Longer walks: a walk's end put behind another way to the same place. -/
theorem W_len {es : List E} (hs : ∀ e ∈ es, 0 ≤ e.s) {c : Int} : ∀ {n : Nat} {v L : Int}, W es c n v L → 0 ≤ L
 | 0, _, _, h => by have := h.2; omega
 | n + 1, _, _, ⟨e, he, L', hw, _, hl⟩ => by have := W_len hs hw; have := hs e he; omega
/-- The places on the way, the last first. -/
def T (es : List E) (c : Int) : List Int → Int → Int → Prop
 | [], v, L => v = c ∧ L = 0
 | p :: ps, v, L => ∃ e ∈ es, ∃ L', p = e.a ∧ T es c ps e.a L' ∧ v = e.b ∧ L = L' + e.s
theorem T_of_W {es : List E} {c : Int} : ∀ {n : Nat} {v L : Int}, W es c n v L → ∃ ps : List Int, ps.length = n ∧ T es c ps v L
 | 0, _, _, h => ⟨[], rfl, h⟩
 | n + 1, _, _, ⟨e, he, L', hw, hv, hl⟩ => by
  obtain ⟨ps, h1, h2⟩ := T_of_W hw
  exact ⟨e.a :: ps, by simp [h1], e, he, L', rfl, h2, hv, hl⟩
theorem W_of_T {es : List E} {c : Int} : ∀ {ps : List Int} {v L : Int}, T es c ps v L → W es c ps.length v L
 | [], _, _, h => h
 | _ :: _, _, _, ⟨e, he, L', _, ht, hv, hl⟩ => ⟨e, he, L', W_of_T ht, hv, hl⟩
theorem T_len {es : List E} (hs : ∀ e ∈ es, 0 ≤ e.s) {c : Int} {ps : List Int} {v L : Int} (h : T es c ps v L) : 0 ≤ L := W_len hs (W_of_T h)
/-- Where a place lies on the way, the way to it is no longer and has fewer streets. -/
theorem T_part {es : List E} (hs : ∀ e ∈ es, 0 ≤ e.s) {c : Int} : ∀ {ps : List Int} {v L x : Int}, T es c ps v L → x ∈ ps → ∃ qs L', qs.length < ps.length ∧ L' ≤ L ∧ T es c qs x L'
 | [], _, _, _, _, hx => absurd hx (by simp)
 | p :: ps, v, L, x, ⟨e, he, L', hp, ht, hv, hl⟩, hx => by
  have h0 := hs e he
  rcases List.mem_cons.1 hx with rfl | hx
  ·exact ⟨ps, L', by simp, by omega, hp ▸ ht⟩
  ·obtain ⟨qs, M, h1, h2, h3⟩ := T_part hs ht hx
   exact ⟨qs, M, by simp; omega, by omega, h3⟩
/-- Every way can be made one on which no place comes twice. -/
theorem T_simple {es : List E} (hs : ∀ e ∈ es, 0 ≤ e.s) {c : Int} : ∀ (n : Nat) {ps : List Int} {v L : Int}, ps.length ≤ n → T es c ps v L → ∃ qs L', qs.length ≤ ps.length ∧ L' ≤ L ∧ T es c qs v L' ∧ (v :: qs).Nodup
 | 0, ps, v, L, hn, h => by
  have : ps = [] := List.eq_nil_of_length_eq_zero (by omega)
  subst this
  exact ⟨[], L, Nat.le_refl _, Int.le_refl _, h, by simp⟩
 | n + 1, ps, v, L, hn, h => by
  cases ps with
  | nil => exact ⟨[], L, Nat.le_refl _, Int.le_refl _, h, by simp⟩
  | cons p ps =>
   obtain ⟨e, he, L', hp, ht, hve, hl⟩ := h
   have h0 := hs e he
   have hn' : ps.length ≤ n := by simp at hn; omega
   obtain ⟨rs, M, k0, k1, k2, k3⟩ := T_simple hs n hn' ht
   by_cases hv2 : v ∈ e.a :: rs
   ·rcases List.mem_cons.1 hv2 with h4 | h4
    ·exact ⟨rs, M, by simp; omega, by omega, by rw [h4]; exact k2, by rw [h4]; exact k3⟩
    ·obtain ⟨qs, N, j1, j2, j3⟩ := T_part hs k2 h4
     obtain ⟨us, O, i0, i1, i2, i3⟩ := T_simple hs n (by omega) j3
     exact ⟨us, O, by simp; omega, by omega, i2, i3⟩
   ·exact ⟨e.a :: rs, M + e.s, by simp; omega, by omega, ⟨e, he, M, rfl, k2, hve, rfl⟩, List.nodup_cons.2 ⟨hv2, k3⟩⟩
theorem nodup_le : ∀ (n : Nat) (l : List Int), l.Nodup → (∀ x ∈ l, 1 ≤ x ∧ x ≤ n) → l.length ≤ n
 | 0, l, _, h => by
  cases l with
  | nil => simp
  | cons x l => have := h x List.mem_cons_self; omega
 | n + 1, l, hd, h => by
  by_cases hm : ((n + 1 : Nat) : Int) ∈ l
  ·have h1 := nodup_le n (l.erase ((n + 1 : Nat) : Int)) (hd.erase _) (fun x hx => by
    have h2 := (hd.mem_erase_iff).1 hx
    have h3 := h x h2.2
    have h4 := h2.1
    omega)
   rw [List.length_erase_of_mem hm] at h1
   omega
  ·have h1 := nodup_le n l hd (fun x hx => by
    have h3 := h x hx
    have : x ≠ ((n + 1 : Nat) : Int) := fun e => hm (e ▸ hx)
    omega)
   omega
theorem T_mem {es : List E} {c : Int} (hc : 1 ≤ c ∧ c ≤ 8) (he : ∀ e ∈ es, (1 ≤ e.a ∧ e.a ≤ 8) ∧ 1 ≤ e.b ∧ e.b ≤ 8) : ∀ {ps : List Int} {v L : Int}, T es c ps v L → ∀ x ∈ v :: ps, 1 ≤ x ∧ x ≤ 8
 | [], v, L, h, x, hx => by
  have : x = c := by have := h.1; simp at hx; omega
  omega
 | p :: ps, v, L, ⟨e, hm, L', hp, ht, hv, hl⟩, x, hx => by
  rcases List.mem_cons.1 hx with rfl | hx
  ·have := he e hm; omega
  ·have := T_mem hc he ht x (by rw [← hp]; exact hx)
   exact this
/-- Behind seven rounds nothing is left to better. -/
theorem fix (es : List E) (hs : ∀ e ∈ es, 0 ≤ e.s) (c : Int) (hc : 1 ≤ c ∧ c ≤ 8) (he : ∀ e ∈ es, (1 ≤ e.a ∧ e.a ≤ 8) ∧ 1 ≤ e.b ∧ e.b ≤ 8) (d : Int → Int) (hA : A es c 7 d) (hB : B es c d) : ∀ e ∈ es, rel d e = d := by
 intro e hm
 unfold rel
 split
 ·rfl
 ·rename_i h1
  rw [if_neg]
  obtain ⟨n, hn⟩ := hB e.a (by omega)
  have hw : W es c (n + 1) e.b (d e.a + e.s) := ⟨e, hm, d e.a, hn, rfl, rfl⟩
  obtain ⟨ps, _, ht⟩ := T_of_W hw
  obtain ⟨qs, L', _, k1, k2, k3⟩ := T_simple hs ps.length (Nat.le_refl _) ht
  have hl := nodup_le 8 (e.b :: qs) k3 (T_mem hc he k2)
  have := hA qs.length e.b L' (by simp at hl; omega) (W_of_T k2)
  omega
end BF

/-- One street's bettering, on the row of the nine cells. -/
def relL (d : List Int) (e : BF.E) : List Int := if rd d e.a < 0 then d else if rd d e.b < 0 ∨ rd d e.a + e.s < rd d e.b then d.set e.b.toNat (rd d e.a + e.s) else d
def roundL (es : List BF.E) (d : List Int) : List Int := es.foldl relL d
theorem relL_length (d : List Int) (e : BF.E) : (relL d e).length = d.length := by
 unfold relL; split
 ·rfl
 ·split <;> simp
theorem roundL_length : ∀ (es : List BF.E) (d : List Int), (roundL es d).length = d.length
 | [], _ => rfl
 | e :: es, d => (roundL_length es (relL d e)).trans (relL_length d e)
theorem rd_set (d : List Int) (t x u : Int) (h1 : 1 ≤ t) (h2 : t < d.length) : rd (d.set t.toNat x) u = if u = t then x else rd d u := by
 unfold rd
 by_cases h : u = t
 ·subst h
  rw [if_pos rfl]
  simp [List.getElem?_set, show u.toNat < d.length by omega]
 ·rw [if_neg h]
  have : ¬ t.toNat = u.toNat := by omega
  simp [List.getElem?_set, this]
def see (d : List Int) (u : Int) : Int := if u ≤ 8 then rd d u else -1
theorem relL_fun (d : List Int) (e : BF.E) (hl : d.length = 9) (ha : e.a ≤ 8) (hb : 1 ≤ e.b ∧ e.b ≤ 8) : see (relL d e) = BF.rel (see d) e := by
 funext u
 unfold relL BF.rel
 have ea : see d e.a = rd d e.a := if_pos ha
 have eb : see d e.b = rd d e.b := if_pos hb.2
 rw [ea, eb]
 by_cases h : rd d e.a < 0
 ·rw [if_pos h, if_pos h]
 ·rw [if_neg h, if_neg h]
  by_cases k : rd d e.b < 0 ∨ rd d e.a + e.s < rd d e.b
  ·rw [if_pos k, if_pos k]
   unfold see BF.upd
   dsimp only
   by_cases hu : u ≤ 8
   ·rw [if_pos hu, rd_set _ _ _ _ hb.1 (by omega), if_pos hu]
   ·rw [if_neg hu, if_neg hu, if_neg (by omega)]
  ·rw [if_neg k, if_neg k]
def Ok (es : List BF.E) : Prop := ∀ e ∈ es, (1 ≤ e.a ∧ e.a ≤ 8) ∧ (1 ≤ e.b ∧ e.b ≤ 8)
theorem roundL_fun : ∀ (es : List BF.E) (d : List Int), d.length = 9 → Ok es → see (roundL es d) = BF.round es (see d)
 | [], _, _, _ => rfl
 | e :: es, d, hl, h => by
  have h0 := h e List.mem_cons_self
  have := roundL_fun es (relL d e) (by rw [relL_length]; exact hl) (fun x hx => h x (List.mem_cons_of_mem _ hx))
  show see (roundL es (relL d e)) = BF.round es (BF.rel (see d) e)
  rw [this, relL_fun d e hl h0.1.2 h0.2]
/-- Behind eight rounds (and more) the row stays. -/
def rounds (es : List BF.E) : Nat → List Int → List Int
 | 0, d => d
 | n + 1, d => rounds es n (roundL es d)
theorem rounds_length (es : List BF.E) : ∀ (n : Nat) (d : List Int), (rounds es n d).length = d.length
 | 0, _ => rfl
 | n + 1, d => (rounds_length es n (roundL es d)).trans (roundL_length es d)
def start (c : Int) : List Int := (List.replicate 9 (-1)).set c.toNat 0
theorem rounds_inv (es : List BF.E) (c : Int) (hs : ∀ e ∈ es, 0 ≤ e.s) (hk : Ok es) : ∀ (n k : Nat) (d : List Int), d.length = 9 → BF.A es c k (see d) → BF.B es c (see d) → BF.A es c (k + n) (see (rounds es n d)) ∧ BF.B es c (see (rounds es n d))
 | 0, k, d, _, hA, hB => ⟨hA, hB⟩
 | n + 1, k, d, hl, hA, hB => by
  have hf := roundL_fun es d hl hk
  have h1 := BF.A_round es hs c k _ hA
  have h2 := BF.B_fold es c es (fun e he => he) _ hB
  rw [← hf] at h1 h2
  have := rounds_inv es c hs hk n (k + 1) (roundL es d) (by rw [roundL_length]; exact hl) h1 h2
  rw [show k + 1 + n = k + (n + 1) by omega] at this
  exact this
theorem see_start (c u : Int) (hc : 1 ≤ c ∧ c ≤ 8) : see (start c) u = if u = c then 0 else -1 := by
 unfold see start
 by_cases hu : u ≤ 8
 ·rw [if_pos hu, rd_set _ _ _ _ hc.1 (by simp; omega)]
  by_cases h : u = c
  ·rw [if_pos h, if_pos h]
  ·rw [if_neg h, if_neg h]
   unfold rd
   rw [List.getD_eq_getElem?_getD, List.getElem?_replicate, if_pos (by omega)]; rfl
 ·rw [if_neg hu, if_neg (by omega)]
/-- Behind seven rounds no street betters the row. -/
theorem settled (es : List BF.E) (c : Int) (hc : 1 ≤ c ∧ c ≤ 8) (hk : Ok es) (hs : ∀ e ∈ es, 0 ≤ e.s) : ∀ e ∈ es, relL (rounds es 7 (start c)) e = rounds es 7 (start c) := by
 have hlen : (start c).length = 9 := by simp [start]
 have hlen7 : (rounds es 7 (start c)).length = 9 := by rw [rounds_length]; exact hlen
 have hA : BF.A es c 0 (see (start c)) := by
  intro n v L hn hw
  obtain rfl : n = 0 := by omega
  rw [see_start c v hc, if_pos hw.1, hw.2]; omega
 have hB : BF.B es c (see (start c)) := by
  intro v hv
  rw [see_start c v hc] at hv ⊢
  by_cases h : v = c
  ·rw [if_pos h]; exact ⟨0, h, rfl⟩
  ·rw [if_neg h] at hv; omega
 obtain ⟨h1, h2⟩ := rounds_inv es c hs hk 7 0 (start c) hlen hA hB
 have hf := BF.fix es hs c hc hk (see (rounds es 7 (start c))) h1 h2
 intro e he
 have h0 := hk e he
 have h3 := relL_fun (rounds es 7 (start c)) e hlen7 h0.1.2 h0.2
 rw [hf e he] at h3
 have hl2 : (relL (rounds es 7 (start c)) e).length = 9 := by rw [relL_length]; exact hlen7
 apply List.ext_getElem (by rw [hl2, hlen7])
 intro i i1 i2
 have := congrFun h3 (i : Int)
 unfold see at this
 rw [if_pos (by omega), if_pos (by omega), rd_nat _ _ i1, rd_nat _ _ i2] at this
 exact this

def chg (d : List Int) (e : BF.E) : Bool := decide (¬ rd d e.a < 0) && decide (rd d e.b < 0 ∨ rd d e.a + e.s < rd d e.b)
theorem relL_chg (d : List Int) (e : BF.E) (h : chg d e = false) : relL d e = d := by
 unfold chg at h
 unfold relL
 by_cases h1 : rd d e.a < 0
 ·rw [if_pos h1]
 ·rw [if_neg h1]
  rw [decide_eq_true h1, Bool.true_and, decide_eq_false_iff_not] at h
  rw [if_neg h]
theorem chg_fix (d : List Int) (e : BF.E) (hl : d.length = 9) (hb : 1 ≤ e.b ∧ e.b ≤ 8) (hs : 0 ≤ e.s) (h : relL d e = d) : chg d e = false := by
 unfold chg
 by_cases h1 : rd d e.a < 0
 ·simp [h1]
 ·by_cases h2 : rd d e.b < 0 ∨ rd d e.a + e.s < rd d e.b
  ·exfalso
   unfold relL at h
   rw [if_neg h1, if_pos h2] at h
   have := rd_set d e.b (rd d e.a + e.s) e.b hb.1 (by omega)
   rw [if_pos rfl, h] at this
   omega
  ·rw [decide_eq_false h2, Bool.and_false]
/-- A round as the reference runs it: the row, and whether a street bettered it. -/
def runC (es : List BF.E) (x : List Int × Bool) : List Int × Bool := es.foldl (fun x e => (relL x.1 e, x.2 || chg x.1 e)) x
theorem runC_fst : ∀ (es : List BF.E) (x : List Int × Bool), (runC es x).1 = roundL es x.1
 | [], _ => rfl
 | e :: es, x => runC_fst es (relL x.1 e, x.2 || chg x.1 e)
theorem runC_true : ∀ (es : List BF.E) (d : List Int), (runC es (d, true)).2 = true
 | [], _ => rfl
 | e :: es, d => by
  show (runC es (relL d e, true || chg d e)).2 = true
  rw [Bool.true_or]; exact runC_true es _
theorem runC_false : ∀ (es : List BF.E) (d : List Int), (runC es (d, false)).2 = false → roundL es d = d
 | [], _, _ => rfl
 | e :: es, d, h => by
  have h' : (runC es (relL d e, false || chg d e)).2 = false := h
  rw [Bool.false_or] at h'
  cases hc : chg d e
  ·rw [hc] at h'
   have h3 := relL_chg d e hc
   rw [h3] at h'
   show roundL es (relL d e) = d
   rw [h3]; exact runC_false es d h'
  ·rw [hc, runC_true] at h'; cases h'
theorem runC_fix : ∀ (es : List BF.E) (d : List Int), d.length = 9 → Ok es → (∀ e ∈ es, 0 ≤ e.s) → (∀ e ∈ es, relL d e = d) → (runC es (d, false)).2 = false
 | [], _, _, _, _, _ => rfl
 | e :: es, d, hl, hk, hs, h => by
  show (runC es (relL d e, false || chg d e)).2 = false
  rw [Bool.false_or, chg_fix d e hl (hk e List.mem_cons_self).2 (hs e List.mem_cons_self) (h e List.mem_cons_self), h e List.mem_cons_self]
  exact runC_fix es d hl (fun x hx => hk x (List.mem_cons_of_mem _ hx)) (fun x hx => hs x (List.mem_cons_of_mem _ hx)) (fun x hx => h x (List.mem_cons_of_mem _ hx))
theorem roundL_fix : ∀ (es : List BF.E) (d : List Int), (∀ e ∈ es, relL d e = d) → roundL es d = d
 | [], _, _ => rfl
 | e :: es, d, h => by
  show roundL es (relL d e) = d
  rw [h e List.mem_cons_self]
  exact roundL_fix es d (fun x hx => h x (List.mem_cons_of_mem _ hx))
theorem rounds_stay (es : List BF.E) (d : List Int) (h : roundL es d = d) : ∀ n, rounds es n d = d
 | 0 => rfl
 | n + 1 => by show rounds es n (roundL es d) = d; rw [h]; exact rounds_stay es d h n
theorem rounds_add (es : List BF.E) : ∀ (m n : Nat) (d : List Int), rounds es (m + n) d = rounds es n (rounds es m d)
 | 0, n, d => by rw [Nat.zero_add]; rfl
 | m + 1, n, d => by
  rw [show m + 1 + n = (m + n) + 1 by omega]
  exact rounds_add es m n (roundL es d)
/-- Eight rounds are as seven. -/
theorem rounds8 (es : List BF.E) (c : Int) (hc : 1 ≤ c ∧ c ≤ 8) (hk : Ok es) (hs : ∀ e ∈ es, 0 ≤ e.s) : rounds es 8 (start c) = rounds es 7 (start c) := by
 rw [show 8 = 7 + 1 from rfl, rounds_add es 7 1]
 exact roundL_fix es _ (settled es c hc hk hs)
/-- Where the reference stops, the row is that behind seven rounds. -/
theorem stops (es : List BF.E) (c : Int) (m : Nat) (hm : m ≤ 7) (h : (runC es (rounds es m (start c), false)).2 = false) : rounds es m (start c) = rounds es 7 (start c) := by
 have h1 := rounds_stay es _ (runC_false es _ h) (7 - m)
 rw [← rounds_add, show m + (7 - m) = 7 by omega] at h1
 exact h1.symm
def esOf (l : List S47) : List BF.E := l.map (fun x => ⟨x.f0, x.f1, x.f2⟩)
theorem esOf_ok {l : List S47} (h : areStreets l = true) : Ok (esOf l) ∧ ∀ e ∈ esOf l, 0 ≤ e.s := by
 have key : ∀ e ∈ esOf l, ((1 ≤ e.a ∧ e.a ≤ 8) ∧ 1 ≤ e.b ∧ e.b ≤ 8) ∧ 0 ≤ e.s := by
  intro e he
  obtain ⟨x, hx, rfl⟩ := List.mem_map.1 he
  obtain ⟨i, hi, rfl⟩ := List.getElem_of_mem hx
  have := areStreets_at h i hi
  dsimp only
  omega
 exact ⟨fun e he => (key e he).1, fun e he => (key e he).2⟩
theorem relL_bd (d : List Int) (e : BF.E) (M : Int) (hl : d.length = 9) (hb : 1 ≤ e.b ∧ e.b ≤ 8) (hs : 0 ≤ e.s ∧ e.s ≤ 300) (h : ∀ u, rd d u ≤ M) : ∀ u, rd (relL d e) u ≤ M + 300 := by
 intro u
 have hu := h u
 have h1 := h e.a
 unfold relL
 split
 ·omega
 ·split
  ·rw [rd_set _ _ _ _ hb.1 (by omega)]
   split <;> omega
  ·omega
theorem roundL_bd : ∀ (es : List BF.E), Ok es → (∀ e ∈ es, 0 ≤ e.s ∧ e.s ≤ 300) → ∀ (d : List Int) (M : Int), d.length = 9 → (∀ u, rd d u ≤ M) → ∀ u, rd (roundL es d) u ≤ M + 300 * (es.length : Int)
 | [], _, _, d, M, _, h => fun u => by have := h u; show rd d u ≤ _; simp; omega
 | e :: es, hk, hs, d, M, hl, h => fun u => by
  have h1 := relL_bd d e M hl (hk e List.mem_cons_self).2 (hs e List.mem_cons_self) h
  have := roundL_bd es (fun x hx => hk x (List.mem_cons_of_mem _ hx)) (fun x hx => hs x (List.mem_cons_of_mem _ hx)) (relL d e) (M + 300) (by rw [relL_length]; exact hl) h1 u
  show rd (roundL es (relL d e)) u ≤ _
  rw [List.length_cons]; omega
def travel (l : List S47) (a b : Int) : Int := if areStreets l && decide (1 ≤ a ∧ a ≤ 8) && decide (1 ≤ b ∧ b ≤ 8) then rd (rounds (esOf l) 7 (start a)) b else -1
theorem tr_l2 (l : List S47) (ha : areStreets l = true) (b j : Int) (r : Int) : ∀ (n i : Nat) (d : List Int) (M : Int), i + n = l.length → d.length = 9 → (∀ u, rd d u ≤ M) → M + 300 * (n : Int) ≤ 1000000 → Ev (fun k => impl_Travel.l1 k l b (roundL (esOf (l.drop i)) d) (wrap64 (j + 1))) r → Ev (fun k => impl_Travel.l2 k l b d j l (l.length : Int) (i : Int)) r := by
 intro n
 induction n with
 | zero =>
  intro i d M hi hl hd hM hr
  refine Ev.succ ?_
  simp only [impl_Travel.l2, show ¬ (i : Int) < (l.length : Int) by omega, if_false]
  rw [List.drop_eq_nil_of_le (show l.length ≤ i by omega)] at hr
  exact hr
 | succ n ih =>
  intro i d M hi hl hd hM hr
  refine Ev.succ ?_
  have hi2 : i < l.length := by omega
  have ht := areStreets_at ha i hi2
  have hlen := areStreets_len ha
  have h1 := hd l[i].f0
  have hbd := relL_bd d ⟨l[i].f0, l[i].f1, l[i].f2⟩ M hl (by dsimp only; omega) (by dsimp only; omega) hd
  rw [List.drop_eq_getElem_cons hi2] at hr
  have hr' : Ev (fun k => impl_Travel.l1 k l b (roundL (esOf (l.drop (i + 1))) (relL d ⟨l[i].f0, l[i].f1, l[i].f2⟩)) (wrap64 (j + 1))) r := hr
  have next := ih (i + 1) (relL d ⟨l[i].f0, l[i].f1, l[i].f2⟩) (M + 300) (by omega) (by rw [relL_length]; exact hl) hbd (by omega) hr'
  rw [show ((i + 1 : Nat) : Int) = (i : Int) + 1 by omega] at next
  simp only [impl_Travel.l2, show (i : Int) < (l.length : Int) by omega, show (0 : Int) ≤ (i : Int) by omega, if_true, rdT_Street _ _ hi2, show (0 : Int) ≤ l[i].f0 by omega, show l[i].f0 < (d.length : Int) by omega, show (0 : Int) ≤ l[i].f1 by omega, show l[i].f1 < (d.length : Int) by omega, wrap_id (n := (i : Int) + 1) (by omega) (by omega)]
  unfold relL at next
  dsimp only at next
  by_cases c1 : rd d l[i].f0 < 0
  ·rw [if_pos c1] at next
   simp only [show ¬ rd d l[i].f0 ≥ 0 by omega, if_false]
   exact next
  ·have hw : wrap64 (rd d l[i].f0 + l[i].f2) = rd d l[i].f0 + l[i].f2 := wrap_id (by omega) (by omega)
   rw [if_neg c1] at next
   simp only [show rd d l[i].f0 ≥ 0 by omega, if_true, hw]
   by_cases c2 : rd d l[i].f1 < 0
   ·rw [if_pos (Or.inl c2)] at next
    simp only [c2, if_true]
    exact next
   ·simp only [c2, if_false]
    by_cases c3 : rd d l[i].f0 + l[i].f2 < rd d l[i].f1
    ·rw [if_pos (Or.inr c3)] at next
     simp only [c3, if_true]
     exact next
    ·rw [if_neg (by omega)] at next
     simp only [c3, if_false]
     exact next
theorem tr_l1 (l : List S47) (ha : areStreets l = true) (c b : Int) (hc : 1 ≤ c ∧ c ≤ 8) (hb : 1 ≤ b ∧ b ≤ 8) : ∀ (j m : Nat), m + j = 8 → (∀ u, rd (rounds (esOf l) m (start c)) u ≤ 4800 * (m : Int)) → Ev (fun k => impl_Travel.l1 k l b (rounds (esOf l) m (start c)) (m : Int)) (rd (rounds (esOf l) 8 (start c)) b) := by
 obtain ⟨hk, hs⟩ := esOf_ok ha
 have hlen := areStreets_len ha
 have hs3 : ∀ e ∈ esOf l, 0 ≤ e.s ∧ e.s ≤ 300 := by
  intro e he
  obtain ⟨x, hx, rfl⟩ := List.mem_map.1 he
  obtain ⟨i, hi, rfl⟩ := List.getElem_of_mem hx
  have := areStreets_at ha i hi
  dsimp only; omega
 have h9 : ∀ m, (rounds (esOf l) m (start c)).length = 9 := fun m => by rw [rounds_length]; simp [start]
 intro j
 induction j with
 | zero =>
  intro m hm hbd
  obtain rfl : m = 8 := by omega
  refine Ev.succ ?_
  have := h9 8
  simp only [impl_Travel.l1, show ¬ (((8 : Nat) : Int) < 8) by omega, if_false, show (0 : Int) ≤ b by omega, if_true, this, show b < ((9 : Nat) : Int) by omega]
  exact Ev.now _
 | succ j ih =>
  intro m hm hbd
  refine Ev.succ ?_
  simp only [impl_Travel.l1, show (m : Int) < 8 by omega, if_true]
  refine tr_l2 l ha b _ _ l.length 0 _ (4800 * (m : Int)) (by omega) (h9 m) hbd (by omega) ?_
  rw [List.drop_zero]
  have e : roundL (esOf l) (rounds (esOf l) m (start c)) = rounds (esOf l) (m + 1) (start c) := by rw [rounds_add]; rfl
  rw [e, wrap_id (by omega) (by omega), show (m : Int) + 1 = ((m + 1 : Nat) : Int) by omega]
  refine ih (m + 1) (by omega) (fun u => ?_)
  rw [← e]
  have := roundL_bd (esOf l) hk hs3 _ _ (h9 m) hbd u
  have hel : (esOf l).length = l.length := by simp [esOf]
  rw [hel] at this
  omega
theorem tr_l0 (l : List S47) (ha : areStreets l = true) (c b : Int) (hc : 1 ≤ c ∧ c ≤ 8) (hb : 1 ≤ b ∧ b ≤ 8) : ∀ (n i : Nat), i + n = 9 → Ev (fun k => impl_Travel.l0 k l c b (List.replicate i (-1) ++ List.replicate n 0) (i : Int)) (rd (rounds (esOf l) 8 (start c)) b) := by
 intro n
 induction n with
 | zero =>
  intro i hi
  obtain rfl : i = 9 := by omega
  refine Ev.succ ?_
  have h1 := tr_l1 l ha c b hc hb 8 0 rfl (fun u => by
   show rd (start c) u ≤ _
   unfold start
   rw [rd_set _ _ _ _ hc.1 (by simp; omega)]
   split
   ·omega
   ·unfold rd
    rw [List.getD_eq_getElem?_getD, List.getElem?_replicate]
    split <;> simp)
  simp only [impl_Travel.l0, show ¬ (((9 : Nat) : Int) < 9) by omega, if_false, show (0 : Int) ≤ c by omega, if_true, List.replicate_zero, List.append_nil, List.length_replicate, show c < ((9 : Nat) : Int) by omega]
  exact h1
 | succ n ih =>
  intro i hi
  refine Ev.succ ?_
  have := ih (i + 1) (by omega)
  have hset : (List.replicate i (-1 : Int) ++ List.replicate (n + 1) 0).set i (-1) = List.replicate (i + 1) (-1) ++ List.replicate n 0 := by
   rw [List.set_append, if_neg (by simp), List.length_replicate, Nat.sub_self, List.replicate_succ (n := n), List.set_cons_zero, List.replicate_succ', List.append_assoc, List.singleton_append]
  simp only [impl_Travel.l0, show (i : Int) < 9 by omega, if_true, show (0 : Int) ≤ (i : Int) by omega, List.length_append, List.length_replicate, show (i : Int) < ((i + (n + 1) : Nat) : Int) by omega, Int.toNat_natCast, hset, wrap_id (n := (i : Int) + 1) (by omega) (by omega)]
  rw [show ((i + 1 : Nat) : Int) = (i : Int) + 1 by omega] at this
  exact this
theorem impl_Travel_eq (l : List S47) (a b : Int) (hl : l.length ≤ 1048576) : Ev (fun k => impl_Travel.f k l a b) (travel l a b) := by
 unfold impl_Travel.f travel
 have hj : ∀ r : Int, r = -1 → Ev (fun k => impl_Travel.j0 k l a b true) r := by
  rintro r rfl
  refine Ev.succ ?_
  simp only [impl_Travel.j0, if_true]; exact Ev.now _
 refine Ev.bind (impl_AreStreets_eq l hl) ?_
 cases ha : areStreets l
 ·simp only [Bool.false_eq_true, if_false, Bool.false_and]; exact hj _ rfl
 simp only [if_true, Bool.true_and, impl_isCrossing_eq, Option.bind_some]
 by_cases h1 : 1 ≤ a ∧ a ≤ 8
 ·rw [decide_eq_true h1]
  simp only [if_true, Bool.true_and]
  by_cases h2 : 1 ≤ b ∧ b ≤ 8
  ·rw [decide_eq_true h2]
   simp only [if_true]
   obtain ⟨hk, hs⟩ := esOf_ok ha
   have := tr_l0 l ha a b h1 h2 9 0 rfl
   rw [rounds8 (esOf l) a h1 hk hs] at this
   refine Ev.succ ?_
   simp only [impl_Travel.j0, Bool.not_true, Bool.false_eq_true, if_false, show (9 : Int) ≤ 35184372088832 by omega, if_true]
   exact this
  ·rw [decide_eq_false h2]
   simp only [Bool.false_eq_true, if_false]; exact hj _ rfl
 ·rw [decide_eq_false h1]
  simp only [Bool.false_eq_true, if_false, Bool.false_and]; exact hj _ rfl
theorem relL_lo (d : List Int) (e : BF.E) (hl : d.length = 9) (hb : 1 ≤ e.b ∧ e.b ≤ 8) (hs : 0 ≤ e.s) (h : ∀ u, -1 ≤ rd d u) : ∀ u, -1 ≤ rd (relL d e) u := by
 intro u
 have hu := h u
 unfold relL
 split
 ·exact hu
 ·split
  ·rw [rd_set _ _ _ _ hb.1 (by omega)]
   split <;> omega
  ·exact hu
theorem roundL_lo : ∀ (es : List BF.E), Ok es → (∀ e ∈ es, 0 ≤ e.s) → ∀ (d : List Int), d.length = 9 → (∀ u, -1 ≤ rd d u) → ∀ u, -1 ≤ rd (roundL es d) u
 | [], _, _, _, _, h => h
 | e :: es, hk, hs, d, hl, h => roundL_lo es (fun x hx => hk x (List.mem_cons_of_mem _ hx)) (fun x hx => hs x (List.mem_cons_of_mem _ hx)) (relL d e) (by rw [relL_length]; exact hl) (relL_lo d e hl (hk e List.mem_cons_self).2 (hs e List.mem_cons_self) h)
theorem rounds_lo (es : List BF.E) (hk : Ok es) (hs : ∀ e ∈ es, 0 ≤ e.s) : ∀ (n : Nat) (d : List Int), d.length = 9 → (∀ u, -1 ≤ rd d u) → ∀ u, -1 ≤ rd (rounds es n d) u
 | 0, _, _, h => h
 | n + 1, d, hl, h => rounds_lo es hk hs n (roundL es d) (by rw [roundL_length]; exact hl) (roundL_lo es hk hs d hl h)
theorem start_lo (c u : Int) (hc : 1 ≤ c ∧ c ≤ 8) : -1 ≤ rd (start c) u := by
 unfold start
 rw [rd_set _ _ _ _ hc.1 (by simp; omega)]
 split
 ·omega
 ·unfold rd
  rw [List.getD_eq_getElem?_getD, List.getElem?_replicate]
  split <;> simp
theorem travel_lo (l : List S47) (a b : Int) : -1 ≤ travel l a b := by
 unfold travel
 split
 ·rename_i h
  simp only [Bool.and_eq_true, decide_eq_true_eq] at h
  obtain ⟨hk, hs⟩ := esOf_ok h.1.1
  exact rounds_lo _ hk hs 7 _ (by simp [start]) (fun u => start_lo a u h.1.2) b
 ·omega
def reach (l : List S47) (a s : Int) : Nat → Nat → List Int
 | 0, _ => []
 | n + 1, i => if 0 ≤ travel l a (i : Int) ∧ travel l a (i : Int) ≤ s then (i : Int) :: reach l a s n (i + 1) else reach l a s n (i + 1)
theorem reach_len (l : List S47) (a s : Int) : ∀ n i, (reach l a s n i).length ≤ n
 | 0, _ => Nat.le_refl _
 | n + 1, i => by
  have := reach_len l a s n (i + 1)
  unfold reach
  split
  ·simp; omega
  ·omega
theorem reach_le (l : List S47) (a s : Int) : (reach l a s 8 1).length ≤ 1048576 := Nat.le_trans (reach_len l a s 8 1) (by omega)
theorem impl_ReachedIn_eq (l : List S47) (a s : Int) (hl : l.length ≤ 1048576) : Ev (fun k => impl_ReachedIn.f k l a s) (reach l a s 8 1) := by
 unfold impl_ReachedIn.f
 have key : ∀ (n i : Nat) (acc : List Int), i + n = 9 → acc.length ≤ i → Ev (fun k => impl_ReachedIn.l0 k l a s acc (i : Int)) (acc ++ reach l a s n i) := by
  intro n
  induction n with
  | zero =>
   intro i acc hi ha
   refine Ev.succ ?_
   simp only [impl_ReachedIn.l0, show ¬ (i : Int) ≤ 8 by omega, if_false]
   exact evq (Ev.now _) (by simp [reach])
  | succ n ih =>
   intro i acc hi ha
   refine Ev.succ ?_
   simp only [impl_ReachedIn.l0, show (i : Int) ≤ 8 by omega, if_true, wrap_id (n := (i : Int) + 1) (by omega) (by omega)]
   refine Ev.bind (impl_Travel_eq l a i hl) ?_
   have h1 := ih (i + 1) acc (by omega) (by omega)
   have h2 := ih (i + 1) (acc ++ [(i : Int)]) (by omega) (by simp; omega)
   have hlo := travel_lo l a (i : Int)
   rw [show ((i + 1 : Nat) : Int) = (i : Int) + 1 by omega] at h1 h2
   unfold reach
   by_cases c1 : travel l a (i : Int) = -1
   ·simp only [c1, if_true]
    rw [if_neg (by omega)]
    exact h1
   ·simp only [c1, if_false]
    by_cases c2 : travel l a (i : Int) ≤ s
    ·simp only [c2, if_true, show acc.length < 17592186044416 by omega]
     rw [if_pos ⟨by omega, trivial⟩]
     rw [List.append_assoc, List.singleton_append] at h2
     exact h2
    ·simp only [c2, if_false]
     rw [if_neg (by simp)]
     exact h1
 exact key 8 1 [] rfl (by simp)
def put : List Int → Int → List Int
 | [], n => [n]
 | a :: l, n => if a < n then a :: put l n else if a = n then a :: l else n :: a :: l
theorem put_length : ∀ (l : List Int) (n : Int), (put l n).length ≤ l.length + 1
 | [], n => by simp [put]
 | a :: l, n => by
  have := put_length l n
  unfold put
  split
  ·simp; omega
  ·split
   ·simp
   ·simp
theorem put_mem : ∀ (l : List Int) (n x : Int), x ∈ put l n ↔ x = n ∨ x ∈ l
 | [], n, x => by simp [put]
 | a :: l, n, x => by
  have := put_mem l n x
  unfold put
  split
  ·simp only [List.mem_cons, this]
   constructor
   ·rintro (h | h | h) <;> simp [h]
   ·rintro (h | h | h) <;> simp [h]
  ·split
   ·rename_i h; simp only [List.mem_cons]
    constructor
    ·rintro (h | h) <;> simp [h]
    ·rintro (h2 | h2 | h2)
     ·left; omega
     ·simp [h2]
     ·simp [h2]
   ·simp
theorem put_asc : ∀ (l : List Int) (n : Int), l.Pairwise (· < ·) → (put l n).Pairwise (· < ·)
 | [], n, _ => by simp [put]
 | a :: l, n, h => by
  obtain ⟨h1, h2⟩ := List.pairwise_cons.1 h
  have := put_asc l n h2
  unfold put
  split
  ·rename_i hlt
   refine List.pairwise_cons.2 ⟨fun x hx => ?_, this⟩
   rcases (put_mem l n x).1 hx with rfl | hx
   ·exact hlt
   ·exact h1 x hx
  ·split
   ·exact h
   ·refine List.pairwise_cons.2 ⟨fun x hx => ?_, h⟩
    rcases List.mem_cons.1 hx with rfl | hx
    ·omega
    ·have := h1 x hx; omega
theorem spec_l6Put_eq (l : List Int) (n : Int) (hl : l.length ≤ 4194304) : Ev (fun k => spec_l6Put.f k l n) (put l n) := by
 unfold spec_l6Put.f
 have key : ∀ (d i : Nat), i + d = l.length → Ev (fun k => spec_l6Put.l0 k l n (i : Int)) (l.take i ++ put (l.drop i) n) := by
  intro d
  induction d with
  | zero =>
   intro i hi
   refine Ev.succ ?_
   have hlt : (l.take i).length = i := by rw [List.length_take]; omega
   simp only [spec_l6Put.l0, show ¬ (i : Int) < (l.length : Int) by omega, if_false, Option.bind_some, show (0 : Int) ≤ (i : Int) by omega, show (i : Int) ≤ (l.length : Int) by omega, if_true, Int.toNat_natCast, List.length_nil, Nat.zero_add, List.nil_append, List.length_append, List.length_singleton, List.length_drop, hlt, show i < 17592186044416 by omega, show i + 1 < 17592186044416 by omega, show i + 1 + (l.length - i) < 17592186044416 by omega]
   exact evq (Ev.now _) (by rw [List.drop_eq_nil_of_le (show l.length ≤ i by omega)]; simp [put])
  | succ d ih =>
   intro i hi
   refine Ev.succ ?_
   have hi2 : i < l.length := by omega
   have hlt : (l.take i).length = i := by rw [List.length_take]; omega
   have next := ih (i + 1) (by omega)
   rw [show ((i + 1 : Nat) : Int) = (i : Int) + 1 by omega] at next
   simp only [spec_l6Put.l0, show (i : Int) < (l.length : Int) by omega, if_true, Option.bind_some, show (0 : Int) ≤ (i : Int) by omega, show (i : Int) ≤ (l.length : Int) by omega, rd_nat _ _ hi2, wrap_id (n := (i : Int) + 1) (by omega) (by omega), Int.toNat_natCast, List.length_nil, Nat.zero_add, List.nil_append, List.length_append, List.length_singleton, List.length_drop, hlt, show i < 17592186044416 by omega, show i + 1 < 17592186044416 by omega, show i + 1 + (l.length - i) < 17592186044416 by omega, show l.length < 17592186044416 by omega]
   rw [List.drop_eq_getElem_cons hi2]
   unfold put
   by_cases h1 : l[i] < n
   ·simp only [h1, if_true]
    rw [List.take_succ_eq_append_getElem hi2, List.append_assoc, List.singleton_append] at next
    exact next
   ·simp only [h1, if_false]
    by_cases h2 : l[i] = n
    ·simp only [h2, if_true]
     refine evq (Ev.now _) ?_
     rw [← h2, ← List.drop_eq_getElem_cons hi2, List.take_append_drop]
    ·simp only [h2, if_false]
     refine evq (Ev.now _) ?_
     rw [List.append_assoc, List.singleton_append]
 simpa using key l.length 0 (by omega)
def toOf (l : List S47) (a : Int) : List Int := (l.filter (fun x => x.f0 == a)).map (fun x => x.f1)
def streetsFrom (l : List S47) (a : Int) : List Int := (toOf l a).foldl put []
theorem toOf_step (l : List S47) (a : Int) (i : Nat) (h : i < l.length) : toOf (l.drop i) a = (if l[i].f0 = a then [l[i].f1] else []) ++ toOf (l.drop (i + 1)) a := by
 unfold toOf
 rw [List.drop_eq_getElem_cons h, List.filter_cons]
 by_cases e : l[i].f0 = a <;> simp [e]
theorem spec_StreetsFrom_eq (l : List S47) (a : Int) (hl : l.length ≤ 1048576) : Ev (fun k => spec_StreetsFrom.f k l a) (streetsFrom l a) := by
 unfold spec_StreetsFrom.f streetsFrom
 have key : ∀ (d i : Nat) (o : List Int), o.length ≤ i → i + d = l.length → Ev (fun k => spec_StreetsFrom.l0 k l a o (i : Int)) ((toOf (l.drop i) a).foldl put o) := by
  intro d
  induction d with
  | zero =>
   intro i o ho hi
   refine Ev.succ ?_
   simp only [spec_StreetsFrom.l0, show ¬ (i : Int) < (l.length : Int) by omega, if_false]
   exact evq (Ev.now _) (by rw [List.drop_eq_nil_of_le (show l.length ≤ i by omega)]; rfl)
  | succ d ih =>
   intro i o ho hi
   refine Ev.succ ?_
   have hi2 : i < l.length := by omega
   rw [toOf_step l a i hi2]
   simp only [spec_StreetsFrom.l0, show (i : Int) < (l.length : Int) by omega, show (0 : Int) ≤ (i : Int) by omega, if_true, rdT_Street _ _ hi2, wrap_id (n := (i : Int) + 1) (by omega) (by omega)]
   by_cases h : l[i].f0 = a
   ·simp only [h, if_true, List.singleton_append, List.foldl_cons]
    refine Ev.bind (spec_l6Put_eq o _ (by omega)) ?_
    have hp := put_length o l[i].f1
    have := ih (i + 1) (put o l[i].f1) (by omega) (by omega)
    rw [show ((i + 1 : Nat) : Int) = (i : Int) + 1 by omega] at this
    exact this
   ·simp only [h, if_false, List.nil_append]
    have := ih (i + 1) o (by omega) (by omega)
    rw [show ((i + 1 : Nat) : Int) = (i : Int) + 1 by omega] at this
    exact this
 simpa using key l.length 0 [] (Nat.le_refl _) (by omega)
theorem foldPut_len : ∀ (xs o : List Int), (xs.foldl put o).length ≤ o.length + xs.length
 | [], _ => by simp
 | x :: xs, o => by
  have h1 := foldPut_len xs (put o x)
  have h2 := put_length o x
  show (xs.foldl put (put o x)).length ≤ _
  simp; omega
theorem toOf_len (l : List S47) (a : Int) : (toOf l a).length ≤ l.length := by
 unfold toOf; rw [List.length_map]; exact List.length_filter_le _ _
theorem streetsFrom_le (l : List S47) (a : Int) : (streetsFrom l a).length ≤ l.length := by
 have h1 := foldPut_len (toOf l a) []
 have h2 := toOf_len l a
 unfold streetsFrom
 simp at h1; omega
theorem foldPut_mem : ∀ (xs o : List Int) (x : Int), x ∈ xs.foldl put o ↔ x ∈ xs ∨ x ∈ o
 | [], o, x => by simp
 | y :: xs, o, x => by
  show x ∈ xs.foldl put (put o y) ↔ _
  rw [foldPut_mem xs (put o y) x, put_mem, List.mem_cons]
  constructor
  ·rintro (h | h | h) <;> simp [h]
  ·rintro ((h | h) | h) <;> simp [h]
theorem foldPut_asc : ∀ (xs o : List Int), o.Pairwise (· < ·) → (xs.foldl put o).Pairwise (· < ·)
 | [], _, h => h
 | y :: xs, o, h => foldPut_asc xs (put o y) (put_asc o y h)
theorem asc_ext : ∀ (l m : List Int), l.Pairwise (· < ·) → m.Pairwise (· < ·) → (∀ x, x ∈ l ↔ x ∈ m) → l = m
 | [], [], _, _, _ => rfl
 | [], b :: m, _, _, h => absurd ((h b).2 (by simp)) (by simp)
 | a :: l, [], _, _, h => absurd ((h a).1 (by simp)) (by simp)
 | a :: l, b :: m, hl, hm, h => by
  obtain ⟨l1, l2⟩ := List.pairwise_cons.1 hl
  obtain ⟨m1, m2⟩ := List.pairwise_cons.1 hm
  have hab : a = b := by
   rcases List.mem_cons.1 ((h a).1 (by simp)) with e | e
   ·exact e
   ·rcases List.mem_cons.1 ((h b).2 (by simp)) with e2 | e2
    ·exact e2.symm
    ·have := m1 a e
     have := l1 b e2
     omega
  subst hab
  rw [asc_ext l m l2 m2 (fun x => ?_)]
  constructor
  ·intro hx
   rcases List.mem_cons.1 ((h x).1 (List.mem_cons_of_mem _ hx)) with e | e
   ·have := l1 x hx; omega
   ·exact e
  ·intro hx
   rcases List.mem_cons.1 ((h x).2 (List.mem_cons_of_mem _ hx)) with e | e
   ·have := m1 x hx; omega
   ·exact e
theorem compact_asc (zs : List Int) (hs : ∀ i j, (hij : i < j) → (hj : j < zs.length) → zs[i]'(by omega) ≤ zs[j]) : (Go.Lib.compact zs).Pairwise (· < ·) ∧ ∀ x, x ∈ Go.Lib.compact zs ↔ x ∈ zs := by
 have key : ∀ m, m ≤ zs.length → (Go.Lib.compactUpTo zs.toArray m).Pairwise (· < ·) ∧ ∀ x, x ∈ Go.Lib.compactUpTo zs.toArray m ↔ x ∈ zs.take m := by
  intro m
  induction m with
  | zero => intro _; simp [Go.Lib.compactUpTo]
  | succ m ih =>
   intro hm
   obtain ⟨h1, h2⟩ := ih (by omega)
   have hm2 : m < zs.length := by omega
   have hg : zs.toArray[m]! = zs[m] := by simp [hm2]
   rw [Go.Lib.compactUpTo_succ, hg, List.take_succ_eq_append_getElem hm2]
   by_cases hk : Go.Lib.keeps zs.toArray m = true
   ·rw [if_pos hk]
    refine ⟨List.pairwise_append.2 ⟨h1, by simp, fun x hx y hy => ?_⟩, fun x => by simp only [List.mem_append, List.mem_singleton, h2]⟩
    obtain rfl : y = zs[m] := by simpa using hy
    obtain ⟨i, hi, rfl⟩ := List.getElem_of_mem ((h2 x).1 hx)
    rw [List.length_take] at hi
    rw [List.getElem_take]
    have h3 := hs i m (by omega) hm2
    by_cases he : zs[i] = zs[m]
    ·exfalso
     have hm0 : 0 < m := by omega
     have hg1 : zs.toArray[m - 1]! = zs[m - 1] := by simp [show m - 1 < zs.length by omega]
     have h4 : zs[i] ≤ zs[m - 1] := by
      by_cases e : i = m - 1
      ·subst e; exact Int.le_refl _
      ·exact hs i (m - 1) (by omega) (by omega)
     have h5 := hs (m - 1) m (by omega) hm2
     have := Go.Lib.keeps_neg (d := zs.toArray) hm0 (by rw [hg, hg1]; omega)
     rw [hk] at this; cases this
    ·omega
   ·rw [if_neg hk, List.append_nil]
    refine ⟨h1, fun x => ?_⟩
    rw [h2, List.mem_append, List.mem_singleton]
    refine ⟨Or.inl, ?_⟩
    rintro (h | rfl)
    ·exact h
    ·have hm0 : 0 < m := by
      rcases Nat.eq_zero_or_pos m with e | e
      ·subst e
       exact absurd (Go.Lib.keeps_lt_one zs.toArray 0 (by omega)) hk
      ·exact e
     have hg1 : zs.toArray[m - 1]! = zs[m - 1] := by simp [show m - 1 < zs.length by omega]
     have he : zs[m] = zs[m - 1] := by
      by_cases e : zs[m] = zs[m - 1]
      ·exact e
      ·exact absurd (Go.Lib.keeps_pos (d := zs.toArray) (m := m) (by rw [hg, hg1]; exact e)) hk
     rw [he]
     exact List.mem_take_iff_getElem.2 ⟨m - 1, by omega, rfl⟩
 have := key zs.length (Nat.le_refl _)
 rw [List.take_length] at this
 unfold Go.Lib.compact
 exact this
theorem compact_sorted (xs : List Int) : Go.Lib.compact (Go.Proofs.Ytdaofiiedclmpaa.Srt.sorted xs) = xs.foldl put [] := by
 have hp : (Go.Proofs.Ytdaofiiedclmpaa.Srt.sorted xs).Pairwise (fun a b => decide (a ≤ b) = true) := by
  unfold Go.Proofs.Ytdaofiiedclmpaa.Srt.sorted
  exact List.pairwise_mergeSort (fun a b c h1 h2 => by simp at *; omega) (fun a b => by simp; omega) xs
 obtain ⟨h1, h2⟩ := compact_asc (Go.Proofs.Ytdaofiiedclmpaa.Srt.sorted xs) (fun i j hij hj => by
  have := List.pairwise_iff_getElem.1 hp i j (by omega) hj hij
  simpa using this)
 refine asc_ext _ _ h1 (foldPut_asc xs [] (by simp)) (fun x => ?_)
 rw [h2, foldPut_mem]
 unfold Go.Proofs.Ytdaofiiedclmpaa.Srt.sorted
 simp [List.mem_mergeSort]
theorem impl_StreetsFrom_eq (l : List S47) (a : Int) (hl : l.length ≤ 1048576) : Ev (fun k => impl_StreetsFrom.f k l a) (streetsFrom l a) := by
 unfold impl_StreetsFrom.f streetsFrom
 have key : ∀ (d i : Nat) (o : List Int), o.length ≤ i → i + d = l.length → Ev (fun k => impl_StreetsFrom.l0 k a o l (l.length : Int) (i : Int)) (Go.Lib.compact (Go.Proofs.Ytdaofiiedclmpaa.Srt.sorted (o ++ toOf (l.drop i) a))) := by
  intro d
  induction d with
  | zero =>
   intro i o ho hi
   refine Ev.succ ?_
   simp only [impl_StreetsFrom.l0, show ¬ (i : Int) < (l.length : Int) by omega, if_false, show o.length < 4611686018427387904 by omega, if_true]
   exact evq (Ev.now _) (by rw [List.drop_eq_nil_of_le (show l.length ≤ i by omega)]; simp [toOf])
  | succ d ih =>
   intro i o ho hi
   refine Ev.succ ?_
   have hi2 : i < l.length := by omega
   rw [toOf_step l a i hi2]
   simp only [impl_StreetsFrom.l0, show (i : Int) < (l.length : Int) by omega, show (0 : Int) ≤ (i : Int) by omega, if_true, rdT_Street _ _ hi2, wrap_id (n := (i : Int) + 1) (by omega) (by omega), show o.length < 17592186044416 by omega]
   by_cases h : l[i].f0 = a
   ·simp only [h, if_true]
    have := ih (i + 1) (o ++ [l[i].f1]) (by rw [List.length_append, List.length_singleton]; omega) (by omega)
    rw [show ((i + 1 : Nat) : Int) = (i : Int) + 1 by omega] at this
    rw [List.append_assoc] at this
    exact this
   ·simp only [h, if_false, List.nil_append]
    have := ih (i + 1) o (by omega) (by omega)
    rw [show ((i + 1 : Nat) : Int) = (i : Int) + 1 by omega] at this
    exact this
 have := key l.length 0 [] (Nat.le_refl _) (by omega)
 rw [List.nil_append, List.drop_zero, compact_sorted] at this
 exact this
theorem laws_contains_eq (l : List Int) (a : Int) (hl : l.length ≤ 1048576) : Ev (fun k => laws_contains.f k l a) (decide (a ∈ l)) := by
 unfold laws_contains.f
 have key : ∀ (d i : Nat), i + d = l.length → Ev (fun k => laws_contains.l0 k l a (i : Int)) (decide (a ∈ l.drop i)) := by
  intro d
  induction d with
  | zero =>
   intro i hi
   refine Ev.succ ?_
   simp only [laws_contains.l0, show ¬ (i : Int) < (l.length : Int) by omega, if_false]
   exact evq (Ev.now _) (by rw [List.drop_eq_nil_of_le (show l.length ≤ i by omega)]; simp)
  | succ d ih =>
   intro i hi
   refine Ev.succ ?_
   have hi2 : i < l.length := by omega
   have next := ih (i + 1) (by omega)
   rw [show ((i + 1 : Nat) : Int) = (i : Int) + 1 by omega] at next
   simp only [laws_contains.l0, show (i : Int) < (l.length : Int) by omega, show (0 : Int) ≤ (i : Int) by omega, if_true, rd_nat _ _ hi2, wrap_id (n := (i : Int) + 1) (by omega) (by omega)]
   rw [List.drop_eq_getElem_cons hi2]
   by_cases h : l[i] = a
   ·simp only [h, if_true]
    exact evq (Ev.now _) (by simp)
   ·simp only [h, if_false]
    exact evq next (decide_eq_decide.2 ⟨List.mem_cons_of_mem _, fun h2 => (List.mem_cons.1 h2).resolve_left (Ne.symm h)⟩)
 simpa using key l.length 0 (by omega)
theorem start_len (c : Int) : (start c).length = 9 := by simp [start]
theorem start_hi (c u : Int) (hc : 1 ≤ c ∧ c ≤ 8) : rd (start c) u ≤ 0 := by
 unfold start
 rw [rd_set _ _ _ _ hc.1 (by simp; omega)]
 split
 ·omega
 ·unfold rd
  rw [List.getD_eq_getElem?_getD, List.getElem?_replicate]
  split <;> simp
theorem rounds_hi (l : List S47) (ha : areStreets l = true) : ∀ (n : Nat) (d : List Int) (M : Int), d.length = 9 → (∀ u, rd d u ≤ M) → ∀ u, rd (rounds (esOf l) n d) u ≤ M + 4800 * (n : Int)
 | 0, d, M, _, h => fun u => by have := h u; show rd d u ≤ _; omega
 | n + 1, d, M, hl, h => fun u => by
  obtain ⟨hk, hs⟩ := esOf_ok ha
  have hlen := areStreets_len ha
  have hs3 : ∀ e ∈ esOf l, 0 ≤ e.s ∧ e.s ≤ 300 := by
   intro e he
   obtain ⟨x, hx, rfl⟩ := List.mem_map.1 he
   obtain ⟨i, hi, rfl⟩ := List.getElem_of_mem hx
   have := areStreets_at ha i hi
   dsimp only; omega
  have h1 := roundL_bd (esOf l) hk hs3 d M hl h
  have hel : (esOf l).length = l.length := by simp [esOf]
  rw [hel] at h1
  have := rounds_hi l ha n (roundL (esOf l) d) (M + 4800) (by rw [roundL_length]; exact hl) (fun u => by have := h1 u; omega) u
  show rd (rounds (esOf l) n (roundL (esOf l) d)) u ≤ _
  omega
theorem travel_in {l : List S47} {a b : Int} (h : 0 ≤ travel l a b) : areStreets l = true ∧ (1 ≤ a ∧ a ≤ 8) ∧ (1 ≤ b ∧ b ≤ 8) ∧ travel l a b = rd (rounds (esOf l) 7 (start a)) b := by
 unfold travel at h ⊢
 split at h
 ·rename_i c
  rw [if_pos c]
  simp only [Bool.and_eq_true, decide_eq_true_eq] at c
  exact ⟨c.1.1, c.1.2, c.2, rfl⟩
 ·omega
theorem travel_hi (l : List S47) (a b : Int) : travel l a b ≤ 33600 := by
 by_cases h : 0 ≤ travel l a b
 ·obtain ⟨h1, h2, h3, h4⟩ := travel_in h
  have := rounds_hi l h1 7 (start a) 0 (start_len a) (fun u => start_hi a u h2) b
  omega
 ·omega
theorem travel_hop {l : List S47} {a : Int} (i : Nat) (hi : i < l.length) (h : 0 ≤ travel l a l[i].f0) : 0 ≤ travel l a l[i].f1 ∧ travel l a l[i].f1 ≤ travel l a l[i].f0 + l[i].f2 := by
 obtain ⟨h1, h2, h3, h4⟩ := travel_in h
 obtain ⟨hk, hs⟩ := esOf_ok h1
 have hat := areStreets_at h1 i hi
 have hm : (⟨l[i].f0, l[i].f1, l[i].f2⟩ : BF.E) ∈ esOf l := List.mem_map.2 ⟨l[i], List.getElem_mem _, rfl⟩
 have hfix := settled (esOf l) a h2 hk hs _ hm
 have hc := chg_fix _ _ (by rw [rounds_length]; exact start_len a) (hk _ hm).2 (hs _ hm) hfix
 have e1 : travel l a l[i].f1 = rd (rounds (esOf l) 7 (start a)) l[i].f1 := by
  unfold travel
  rw [if_pos (by simp only [Bool.and_eq_true, decide_eq_true_eq]; exact ⟨⟨h1, h2⟩, by omega⟩)]
 rw [h4] at h
 unfold chg at hc
 dsimp only at hc
 rw [decide_eq_true (show ¬ rd (rounds (esOf l) 7 (start a)) l[i].f0 < 0 by omega), Bool.true_and, decide_eq_false_iff_not] at hc
 rw [e1, h4]
 omega
theorem travel_home {l : List S47} {a : Int} (h1 : areStreets l = true) (h2 : 1 ≤ a ∧ a ≤ 8) : travel l a a = 0 := by
 obtain ⟨hk, hs⟩ := esOf_ok h1
 have hA : BF.A (esOf l) a 0 (see (start a)) := by
  intro n v L hn hw
  obtain rfl : n = 0 := by omega
  rw [see_start a v h2, if_pos hw.1, hw.2]; omega
 have hB : BF.B (esOf l) a (see (start a)) := by
  intro v hv
  rw [see_start a v h2] at hv ⊢
  by_cases h : v = a
  ·rw [if_pos h]; exact ⟨0, h, rfl⟩
  ·rw [if_neg h] at hv; omega
 have h := (rounds_inv (esOf l) a hs hk 7 0 (start a) (start_len a) hA hB).1 0 a 0 (by omega) ⟨rfl, rfl⟩
 unfold see at h
 rw [if_pos h2.2] at h
 unfold travel
 rw [if_pos (by simp only [Bool.and_eq_true, decide_eq_true_eq]; exact ⟨⟨h1, h2⟩, h2⟩)]
 omega
theorem reach_mem (l : List S47) (a s b : Int) (h0 : 0 ≤ travel l a b) (h1 : travel l a b ≤ s) : ∀ (n i : Nat), (i : Int) ≤ b → b < (i : Int) + n → b ∈ reach l a s n i
 | 0, i, h2, h3 => by omega
 | n + 1, i, h2, h3 => by
  unfold reach
  by_cases e : (i : Int) = b
  ·rw [e, if_pos ⟨h0, h1⟩]; exact List.mem_cons_self
  ·have := reach_mem l a s b h0 h1 n (i + 1) (by omega) (by omega)
   split
   ·exact List.mem_cons_of_mem _ this
   ·exact this
/-- Along a chain no crossing is reached later than the chain reaches it. -/
theorem chain_near {l : List S47} {c : List Int} (h : isChain l c = true) : ∀ (i : Nat), i < c.length → 0 ≤ travel l (rd c 0) (rd c (i : Int)) ∧ travel l (rd c 0) (rd c (i : Int)) ≤ trav l c i
 | 0, h0 => by
  obtain ⟨hs, h1, h8, hat⟩ := isChain_iff h
  have := hat 0 h0
  simp only [chAt, cross, Bool.and_eq_true, decide_eq_true_eq] at this
  have := travel_home hs this.1.1
  rw [show ((0 : Nat) : Int) = 0 from rfl] at *
  rw [this]
  exact ⟨Int.le_refl _, Int.le_refl _⟩
 | i + 1, hi => by
  have ih := chain_near h i (by omega)
  obtain ⟨hs, h1, h8, hat⟩ := isChain_iff h
  have hc := hat (i + 1) hi
  simp only [chAt, Bool.and_eq_true, Bool.or_eq_true, decide_eq_true_eq] at hc
  have hf : 0 ≤ findS l (rd c (i : Int)) (rd c ((i : Int) + 1)) := by
   have := hc.2
   rw [show ((i + 1 : Nat) : Int) - 1 = (i : Int) by omega, show ((i + 1 : Nat) : Int) = (i : Int) + 1 by omega] at this
   omega
  obtain ⟨j, hj, e1, e2, e3⟩ := findS_at hf
  have e4 : secOf l (rd c (i : Int)) (rd c ((i : Int) + 1)) = l[j].f2 := by
   unfold secOf
   rw [if_pos hf, e1, rdT_Street _ _ hj]
  have := travel_hop (a := rd c 0) j hj (by rw [e2]; exact ih.1)
  rw [e2, e3] at this
  rw [show ((i + 1 : Nat) : Int) = (i : Int) + 1 by omega]
  unfold trav
  rw [e4]
  omega
theorem chain_out {l : List S47} {c : List Int} (h : isChain l c = true) (i : Nat) (h0 : i ≠ 0) (hi : i < c.length) : rd c (i : Int) ∈ streetsFrom l (rd c ((i : Int) - 1)) := by
 obtain ⟨hs, h1, h8, hat⟩ := isChain_iff h
 have hc := hat i hi
 simp only [chAt, Bool.and_eq_true, Bool.or_eq_true, decide_eq_true_eq] at hc
 obtain ⟨j, hj, e1, e2, e3⟩ := findS_at (show 0 ≤ findS l (rd c ((i : Int) - 1)) (rd c (i : Int)) by have := hc.2; omega)
 unfold streetsFrom
 rw [foldPut_mem]
 left
 unfold toOf
 exact List.mem_map.2 ⟨l[j], List.mem_filter.2 ⟨List.getElem_mem _, by simp [e2]⟩, e3⟩
theorem spec_l20Draw_ok (b : List Int) (i h : Int) (hc : Cur b i) : EvP (fun k => spec_l20Draw.f k b i h) (fun t => t.1.length ≤ 10 ∧ Cur b t.2.1) := by
 unfold spec_l20Draw.f
 refine EvP.bindD (spec_l1Below_ok b i h _ hc) (fun t ht => ?_)
 have key : ∀ (d : Nat) (l : List S47) (i h : Int), Cur b i → l.length + d ≤ 10 → EvP (fun k => spec_l20Draw.l0 k l (d : Int) b i h) (fun t => t.1.length ≤ 10 ∧ Cur b t.2.1) := by
  intro d
  induction d with
  | zero =>
   intro l i h hc hl
   refine EvP.succ ?_
   simp only [spec_l20Draw.l0, show ¬ ((0 : Nat) : Int) > 0 by omega, if_false]
   exact EvP.now ⟨by show l.length ≤ 10; omega, hc⟩
  | succ d ih =>
   intro l i h hc hl
   refine EvP.succ ?_
   simp only [spec_l20Draw.l0, show ((d + 1 : Nat) : Int) > 0 by omega, if_true, wrap_id (n := ((d + 1 : Nat) : Int) - 1) (by omega) (by omega), show ((d + 1 : Nat) : Int) - 1 = (d : Int) by omega, wrap_id (n := (d : Int)) (by omega) (by omega), show l.length < 5864062014805 by omega]
   refine EvP.bindD (spec_l1Below_ok b _ _ _ hc) (fun t1 h1 => ?_)
   refine EvP.bindD (spec_l1Below_ok b _ _ _ h1.2.2) (fun t2 h2 => ?_)
   refine EvP.bindD (spec_l1Below_ok b _ _ _ h2.2.2) (fun t3 h3 => ?_)
   refine EvP.ifd (fun _ => ih l _ _ h3.2.2 (by omega)) (fun _ => ?_)
   refine EvP.bind (P := fun _ => True) (EvP.of (spec_l20Seconds_eq l _ _ (by omega)) trivial) (fun t4 _ => ?_)
   refine EvP.ifd (fun _ => ih _ _ _ h3.2.2 (by rw [List.length_append, List.length_singleton]; omega)) (fun _ => ih l _ _ h3.2.2 (by omega))
 obtain ⟨a1, a2⟩ := ht.2.1 (by omega)
 obtain ⟨n, hn⟩ := Int.eq_ofNat_of_zero_le a1
 rw [hn]
 exact key n [] _ _ ht.2.2 (by rw [List.length_nil]; omega)
theorem spec_l20Any_ok (b : List Int) (i h : Int) (hc : Cur b i) : EvP (fun k => spec_l20Any.f k b i h) (fun t => t.1.length ≤ 11 ∧ Cur b t.2.1) := by
 unfold spec_l20Any.f
 refine EvP.bind (spec_l20Draw_ok b i h hc) (fun t ht => ?_)
 obtain ⟨hl, hc⟩ := ht
 refine EvP.ifd (fun _ => EvP.now ⟨by show t.1.length ≤ 11; omega, hc⟩) (fun hn => ?_)
 refine EvP.bindD (spec_l1Below_ok b _ _ _ hc) (fun t1 h1 => ?_)
 obtain ⟨p1, p2⟩ := h1.2.1 (by omega)
 refine EvP.bindD (spec_l1Below_ok b _ _ _ h1.2.2) (fun t2 h2 => ?_)
 refine EvP.ifd (fun _ => ?_) (fun _ => ?_)
 ·refine EvP.bindD (spec_l1Int_cur b _ _ _ h2.2.2 (by simp)) (fun t3 h3 => ?_)
  simp only [p1, p2, if_true]
  exact EvP.now ⟨by show (List.set _ _ _).length ≤ 11; rw [List.length_set]; omega, h3⟩
 refine EvP.ifd (fun _ => ?_) (fun _ => ?_)
 ·refine EvP.bindD (spec_l1Int_cur b _ _ _ h2.2.2 (by simp)) (fun t3 h3 => ?_)
  simp only [p1, p2, if_true]
  exact EvP.now ⟨by show (List.set _ _ _).length ≤ 11; rw [List.length_set]; omega, h3⟩
 refine EvP.ifd (fun _ => ?_) (fun _ => EvP.now ⟨by show t.1.length ≤ 11; omega, h2.2.2⟩)
 simp only [show (0 : Int) < (t.1.length : Int) by omega, show t.1.length < 5864062014805 by omega, if_true]
 exact EvP.now ⟨by show (t.1 ++ [_]).length ≤ 11; rw [List.length_append, List.length_singleton]; omega, h2.2.2⟩
theorem spec_DrawTravel_ok (l : List Int) (hl : l.length ≤ 1048576) : EvP (fun k => spec_DrawTravel.f k l) (fun t => t.1.length ≤ 11) := by
 unfold spec_DrawTravel.f
 refine EvP.bind (P := fun t => t.1.length ≤ 11) ?_ (fun u hu => ?_)
 ·unfold spec_DrawStreetsFrom.f
  refine EvP.bind (spec_l1New_ok l hl) (fun t ht => ?_)
  refine EvP.bind (spec_l20Any_ok _ _ _ ht.2) (fun t1 h1 => ?_)
  refine EvP.bindD (spec_l1Below_ok _ _ _ _ h1.2) (fun t2 _ => ?_)
  exact EvP.now h1.1
 ·refine EvP.bind (spec_l1New_ok l hl) (fun t ht => ?_)
  refine EvP.bindD (spec_l1Below_ok _ _ _ _ ht.2) (fun t2 _ => ?_)
  exact EvP.now hu
theorem spec_l20Chain_ok (b : List Int) (i h : Int) (l : List S47) (hl : l.length ≤ 11) (hc : Cur b i) : EvP (fun k => spec_l20Chain.f k b i h l) (fun t => t.1.length ≤ 4) := by
 unfold spec_l20Chain.f
 refine EvP.bindD (spec_l1Below_ok b i h _ hc) (fun t ht => ?_)
 have key : ∀ (d m : Nat) (c : List Int) (i h : Int), Cur b i → m + d = 3 → c.length = m + 1 → EvP (fun k => spec_l20Chain.l0 k l c (m : Int) b i h) (fun t => t.1.length ≤ 4) := by
  intro d
  induction d with
  | zero =>
   intro m c i h hc hm hl
   refine EvP.succ ?_
   simp only [spec_l20Chain.l0, show ¬ (m : Int) < 3 by omega, if_false]
   exact EvP.now (by show c.length ≤ 4; omega)
  | succ d ih =>
   intro m c i h hc hm hcl
   refine EvP.succ ?_
   simp only [spec_l20Chain.l0, show (m : Int) < 3 by omega, if_true, wrap_id (n := (c.length : Int) - 1) (by omega) (by omega), show (0 : Int) ≤ (c.length : Int) - 1 by omega, show (c.length : Int) - 1 < (c.length : Int) by omega, wrap_id (n := (m : Int) + 1) (by omega) (by omega), show c.length < 17592186044416 by omega]
   have hsl := streetsFrom_le l (rd c ((c.length : Int) - 1))
   refine EvP.bind (P := fun t => t = streetsFrom l (rd c ((c.length : Int) - 1))) (EvP.of (spec_StreetsFrom_eq l _ (by omega)) rfl) (fun t1 e1 => ?_)
   subst e1
   refine EvP.ifd (fun _ => EvP.now (by show c.length ≤ 4; omega)) (fun hn => ?_)
   refine EvP.bindD (spec_l1Below_ok b _ _ _ hc) (fun t2 h2 => ?_)
   obtain ⟨p1, p2⟩ := h2.2.1 (by omega)
   simp only [p1, p2, if_true]
   refine EvP.bind (P := fun _ => True) (EvP.of (spec_l6Has_eq c _ (by omega)) trivial) (fun t3 _ => ?_)
   refine EvP.ifd (fun _ => ?_) (fun _ => ?_)
   ·refine EvP.bindD (spec_l1Once_ok b _ _ _ h2.2.2) (fun t4 h4 => ?_)
    refine EvP.ifd (fun _ => ?_) (fun _ => EvP.now (by show c.length ≤ 4; omega))
    have := ih (m + 1) (c ++ [rd (streetsFrom l (rd c ((c.length : Int) - 1))) t2.1]) _ t4.2.2 h4 (by omega) (by rw [List.length_append, List.length_singleton]; omega)
    rw [show ((m + 1 : Nat) : Int) = (m : Int) + 1 by omega] at this
    exact this
   ·have := ih (m + 1) (c ++ [rd (streetsFrom l (rd c ((c.length : Int) - 1))) t2.1]) _ t2.2.2 h2.2.2 (by omega) (by rw [List.length_append, List.length_singleton]; omega)
    rw [show ((m + 1 : Nat) : Int) = (m : Int) + 1 by omega] at this
    exact this
 exact key 3 0 _ _ _ ht.2.2 rfl rfl
theorem spec_DrawChainTravel_ok (l : List Int) (hl : l.length ≤ 1048576) : EvP (fun k => spec_DrawChainTravel.f k l) (fun t => t.1.length ≤ 11 ∧ t.2.length ≤ 4) := by
 unfold spec_DrawChainTravel.f
 refine EvP.bind (P := fun t => t.1.length ≤ 11 ∧ t.2.length ≤ 4) ?_ (fun u hu => EvP.now hu)
 unfold spec_DrawIsChain.f
 refine EvP.bind (spec_l1New_ok l hl) (fun t ht => ?_)
 refine EvP.bind (spec_l20Any_ok _ _ _ ht.2) (fun t1 h1 => ?_)
 refine EvP.bind (spec_l20Chain_ok _ _ _ _ h1.1 h1.2) (fun t2 h2 => ?_)
 exact EvP.now ⟨h1.1, h2⟩
theorem streets1 (b : List Int) (hb : b.length ≤ 1048576) : Ev (fun k => laws_FnStreets.j1 k b) true := by
 refine Ev.succ ?_
 simp only [laws_FnStreets.j1]
 refine Ev.bindP (spec_DrawChainTravel_ok b hb) (fun t ht => ?_)
 obtain ⟨l, c⟩ := t
 obtain ⟨hl, hc⟩ := ht
 dsimp only at hl hc ⊢
 refine Ev.bind (impl_ChainTravel_eq l c (by omega) (by omega)) ?_
 refine Ev.bind (impl_IsChain_eq l c (by omega) (by omega)) ?_
 have hch : isChain l c = decide (((chainTravel l c).length : Int) > 0) := by
  unfold chainTravel
  cases h : isChain l c
  ·simp
  ·have := (isChain_iff h).2.1
   simp; omega
 refine Ev.ifn (by rw [← hch]; simp) ?_
 have key : ∀ (d i : Nat), i + d = (chainTravel l c).length → Ev (fun k => laws_FnStreets.l1 k l c (chainTravel l c) (i : Int)) true := by
  intro d
  induction d with
  | zero =>
   intro i hi
   refine Ev.succ ?_
   simp only [laws_FnStreets.l1, show ¬ (i : Int) < ((chainTravel l c).length : Int) by omega, if_false]
   exact Ev.now _
  | succ d ih =>
   intro i hi
   have h : isChain l c = true := by rw [hch]; simp; omega
   have hlen : (chainTravel l c).length = c.length := by unfold chainTravel; rw [if_pos h]; simp
   have hi2 : i < c.length := by omega
   have e1 : rd (chainTravel l c) (i : Int) = trav l c i := by
    rw [rd_nat _ _ (by omega)]
    unfold chainTravel
    simp only [if_pos h]
    simp
   obtain ⟨n1, n2⟩ := chain_near h i hi2
   refine Ev.succ ?_
   have next := ih (i + 1) (by omega)
   rw [show ((i + 1 : Nat) : Int) = (i : Int) + 1 by omega] at next
   simp only [laws_FnStreets.l1, show (i : Int) < ((chainTravel l c).length : Int) by omega, show (0 : Int) < (c.length : Int) by omega, show (0 : Int) ≤ (i : Int) by omega, show (i : Int) < (c.length : Int) by omega, if_true, e1, wrap_id (n := (i : Int) + 1) (by omega) (by omega)]
   refine Ev.bind (impl_Travel_eq l _ _ (by omega)) ?_
   simp only [show ¬ travel l (rd c 0) (rd c (i : Int)) < 0 by omega, show ¬ travel l (rd c 0) (rd c (i : Int)) > trav l c i by omega, if_false]
   by_cases h0 : i = 0
   ·subst h0
    simp only [show ¬ (((0 : Nat) : Int) > 0) by omega, if_false]
    exact next
   ·simp only [show (i : Int) > 0 by omega, if_true, wrap_id (n := (i : Int) - 1) (by omega) (by omega), show (0 : Int) ≤ (i : Int) - 1 by omega, show (i : Int) - 1 < (c.length : Int) by omega]
    refine Ev.bind (impl_StreetsFrom_eq l _ (by omega)) ?_
    refine Ev.bind (laws_contains_eq _ _ (Nat.le_trans (streetsFrom_le _ _) (by omega))) ?_
    simp only [decide_eq_true (chain_out h i h0 hi2), if_true]
    exact next
 exact key (chainTravel l c).length 0 (by omega)
theorem holds : ∀ (l0 : List Int), l0.length ≤ maxLen → (∀ x ∈ l0, (Lit.int .u8 x).wf = true) → ∃ k, laws_FnStreets.f k l0 = some true := by
 intro b _ _
 apply Ev.rounds
 unfold laws_FnStreets.f
 have e : laws_big.f b = some (decide ((b.length : Int) > 1048576)) := rfl
 simp only [e, Option.bind_some]
 by_cases hb : (b.length : Int) > 1048576
 ·simp only [decide_eq_true hb, if_true]; exact Ev.now _
 simp only [decide_eq_false hb, Bool.false_eq_true, if_false]
 have hb' : b.length ≤ 1048576 := by omega
 refine Ev.bindP (spec_DrawTravel_ok b hb') (fun t ht => ?_)
 obtain ⟨l, a, c⟩ := t
 dsimp only at ht ⊢
 refine Ev.bind (impl_Travel_eq l a c (by omega)) ?_
 by_cases h : travel l a c ≥ 0
 ·refine Ev.ifp h ?_
  obtain ⟨g1, g2, g3, g4⟩ := travel_in h
  have hhi := travel_hi l a
  have key : ∀ (d i : Nat), i + d = l.length → Ev (fun k => laws_FnStreets.l0 k b l a c (travel l a c) (i : Int)) true := by
   intro d
   induction d with
   | zero =>
    intro i hi
    refine Ev.succ ?_
    simp only [laws_FnStreets.l0, show ¬ (i : Int) < (l.length : Int) by omega, if_false]
    refine Ev.bind (impl_ReachedIn_eq l a _ (by omega)) ?_
    refine Ev.bind (laws_contains_eq _ _ (reach_le _ _ _)) ?_
    simp only [decide_eq_true (reach_mem l a _ c h (Int.le_refl _) 8 1 (by omega) (by omega)), if_true]
    by_cases hac : a = c
    ·refine Ev.ifp hac ?_
     refine Ev.ifp (by rw [← hac]; exact travel_home g1 g2) ?_
     exact streets1 b hb'
    ·refine Ev.ifn hac ?_
     exact streets1 b hb'
   | succ d ih =>
    intro i hi
    refine Ev.succ ?_
    have hi2 : i < l.length := by omega
    have next := ih (i + 1) (by omega)
    rw [show ((i + 1 : Nat) : Int) = (i : Int) + 1 by omega] at next
    simp only [laws_FnStreets.l0, show (i : Int) < (l.length : Int) by omega, show (0 : Int) ≤ (i : Int) by omega, if_true, rdT_Street _ _ hi2, wrap_id (n := (i : Int) + 1) (by omega) (by omega)]
    refine Ev.bind (impl_Travel_eq l _ _ (by omega)) ?_
    refine Ev.bind (impl_Travel_eq l _ _ (by omega)) ?_
    by_cases h0 : travel l a l[i].f0 ≥ 0
    ·obtain ⟨k1, k2⟩ := travel_hop i hi2 h0
     have k3 := hhi l[i].f0
     have k4 := areStreets_at g1 i hi2
     simp only [h0, if_true, show ¬ travel l a l[i].f1 < 0 by omega, if_false, wrap_id (n := travel l a l[i].f0 + l[i].f2) (by omega) (by omega), show ¬ travel l a l[i].f1 > travel l a l[i].f0 + l[i].f2 by omega]
     exact next
    ·simp only [h0, if_false]
     exact next
  exact key l.length 0 (by omega)
 ·refine Ev.ifn h ?_
  exact streets1 b hb'
end Go.Proofs.Ytdaofiiedclmpaa.Pure.FnStreets
