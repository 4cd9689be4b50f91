/- The law FnExactReachedIn of the given program, as a statement over numbers and lists alone, for all arguments; no conditions but the machine's own bounds. -/
import Derived.Test.YtdaofiiedclmpaaPFnExactReachedInx
import Derived.Test.YtdaofiiedclmpaaBase
namespace Go.Proofs.Ytdaofiiedclmpaa.Pure.FnExactReachedIn
open Go.RowKit Go.Proofs.Ytdaofiiedclmpaa.PFnExactReachedIn Go.Proofs.YtdaofiiedclmpaaW.PrintWords Go.Proofs.YtdaofiiedclmpaaW.PrintLast Go.Proofs.Ytdaofiiedclmpaa.Bas
set_option linter.unusedVariables false
set_option linter.unusedSimpArgs false
def wf79 (x : S79) : Prop := (Lit.int .i64 x.f0).wf = true ∧ (Lit.int .i64 x.f1).wf = true ∧ (Lit.int .i64 x.f2).wf = true
theorem spec_l1In_eq (a lo hi : Int) : spec_l1In.f a lo hi = some (decide (lo ≤ a ∧ a ≤ hi)) := by
  unfold spec_l1In.f; grind
theorem impl_InRange_eq (a lo hi : Int) : impl_InRange.f a lo hi = some (decide (lo ≤ a ∧ a ≤ hi)) := by
  unfold impl_InRange.f; grind
theorem impl_isCrossing_eq (a : Int) : impl_isCrossing.f a = some (decide (1 ≤ a ∧ a ≤ 8)) := by
  unfold impl_isCrossing.f; rw [impl_InRange_eq]; rfl
theorem laws_eqIntS_self (l : List Int) (hl : l.length ≤ 140737488355328) : Ev (fun k => laws_eqIntS.f k l l) true := by
  unfold laws_eqIntS.f
  simp only [if_true]
  have := Ev.all (g := fun k i => laws_eqIntS.l0 k l l i) l.length (fun _ => true) (fun i r h _ hr => by
    refine Ev.succ ?_
    have h1 : (i : Int) < (l.length : Int) := by omega
    have h2 : (0 : Int) ≤ (i : Int) := by omega
    simp only [laws_eqIntS.l0, h1, h2, if_true, wrap_id (n := (i : Int) + 1) (by omega) (by omega)]
    exact hr) (fun i h hf => by simp at hf) (by
    refine Ev.succ ?_
    simp only [laws_eqIntS.l0, Int.lt_irrefl, if_false]
    exact Ev.now _)
  exact evq this (by rw [List.all_eq_true]; intros; rfl)
theorem laws_markIntS_eq (l : List Int) (c : Int) (hl : l.length ≤ 140737488355328) (h0 : 0 ≤ c) (h9 : c ≤ 1000000000000000) : Ev (fun k => laws_markIntS.f k l c) (c + 1 * l.length, markInts l.length c) := by
  unfold laws_markIntS.f
  refine Ev.mark (g := fun k ys c i => laws_markIntS.l0 k ys c i) 1 (fun c => c) l c (fun i ys r h hy hr => ?_) (fun ys c' hy => ?_)
  · refine Ev.succ ?_
    have h1 : (i : Int) < (ys.length : Int) := by omega
    have h2 : (0 : Int) ≤ (i : Int) := by omega
    simp only [laws_markIntS.l0, h1, h2, if_true, Int.toNat_natCast, wrap_id (n := (i : Int) + 1) (by omega) (by omega), wrap_id (n := c + 1 * (i : Int) + 1) (by omega) (by omega)]
    exact hr
  · refine Ev.succ ?_
    simp only [laws_markIntS.l0, hy, Int.lt_irrefl, if_false]
    exact Ev.now _
theorem laws_heldIntS_eq (n : Nat) (c : Int) (hl : n ≤ 140737488355328) (h0 : 0 ≤ c) (h9 : c ≤ 1000000000000000) : Ev (fun k => laws_heldIntS.f k (markInts n c) c) (c + 1 * n) := by
  unfold laws_heldIntS.f
  refine Ev.held (g := fun k c' i => laws_heldIntS.l0 k (markInts n c) c' i) 1 n c (fun i r h hr => ?_) (fun c' => ?_)
  · refine Ev.succ ?_
    have hn := markInts_length n c
    have h1 : (i : Int) < ((markInts n c).length : Int) := by omega
    have h2 : (0 : Int) ≤ (i : Int) := by omega
    have h3 : rd (markInts n c) (i : Int) = c + 1 * (i : Int) := by rw [rd_nat _ _ (by omega)]; simp [markInts]
    simp only [laws_heldIntS.l0, h1, h2, h3, if_true, wrap_id (n := (i : Int) + 1) (by omega) (by omega), wrap_id (n := c + 1 * (i : Int) + 1) (by omega) (by omega)]
    exact hr
  · refine Ev.succ ?_
    simp only [laws_heldIntS.l0, markInts_length, Int.lt_irrefl, if_false]
    exact Ev.now _
theorem rdT_lawsStreet (xs : List S79) (i : Nat) (h : i < xs.length) : rd_T79 xs (i : Int) = xs[i] := by simp [rd_T79, h]
theorem rdT_Street (xs : List S47) (i : Nat) (h : i < xs.length) : rd_T47 xs (i : Int) = xs[i] := by simp [rd_T47, h]
theorem laws_toStreet_eq (a0 : Int) (a1 : Int) (a2 : Int) : laws_toStreet.f a0 a1 a2 = some (a0, a1, a2) := rfl
theorem laws_eqStreet_self (a0 : Int) (a1 : Int) (a2 : Int) : laws_eqStreet.f a0 a1 a2 a0 a1 a2 = some true := by unfold laws_eqStreet.f; simp
theorem laws_szStreetS_eq (l : List S79) (a : Int) (hl : l.length ≤ maxLen) (h0 : 0 ≤ a) (h1 : a ≤ 1048576) : laws_szStreetS.f l a = some (if (l.length : Int) ≤ a then a - l.length else -1) := by
  unfold maxLen at hl; unfold laws_szStreetS.f; rw [wrap_id (by omega) (by omega)]; grind
def convStreet (x : S79) : S47 := ⟨x.f0, x.f1, x.f2⟩
theorem laws_toStreetS_eq (l : List S79) (hl : l.length ≤ 1048576) : Ev (fun k => laws_toStreetS.f k l) (l.map convStreet) := by
  unfold laws_toStreetS.f
  simp only [show (0 : Int) ≤ l.length by omega, Int.toNat_natCast, show l.length ≤ 11728124029610 by omega, if_true]
  exact Ev.copy (g := fun k ys i => laws_toStreetS.l0 k l ys i) l convStreet z47 (fun i ys r h hy hr => by
    refine Ev.succ ?_
    have h1 : (i : Int) < (l.length : Int) := by omega
    have h2 : (0 : Int) ≤ (i : Int) := by omega
    have h3 : (i : Int) < (ys.length : Int) := by omega
    simp only [laws_toStreetS.l0, h1, h2, h3, if_true, rdT_lawsStreet _ _ h, laws_toStreet_eq, Option.bind_some, Int.toNat_natCast, wrap_id (n := (i : Int) + 1) (by omega) (by omega)]
    exact hr) (fun ys => by
    refine Ev.succ ?_
    simp only [laws_toStreetS.l0, Int.lt_irrefl, if_false]
    exact Ev.now _)
theorem laws_eqStreetS_self (l : List S47) (hl : l.length ≤ 1048576) : Ev (fun k => laws_eqStreetS.f k l l) true := by
  unfold laws_eqStreetS.f
  simp only [if_true]
  have := Ev.all (g := fun k i => laws_eqStreetS.l0 k l l i) l.length (fun _ => true) (fun i r h _ hr => by
    refine Ev.succ ?_
    have h1 : (i : Int) < (l.length : Int) := by omega
    have h2 : (0 : Int) ≤ (i : Int) := by omega
    simp only [laws_eqStreetS.l0, h1, h2, if_true, laws_eqStreet_self, Option.bind_some, wrap_id (n := (i : Int) + 1) (by omega) (by omega)]
    exact hr) (fun i h hf => by simp at hf) (by
    refine Ev.succ ?_
    simp only [laws_eqStreetS.l0, Int.lt_irrefl, if_false]
    exact Ev.now _)
  exact evq this (by rw [List.all_eq_true]; intros; rfl)
def mkStreet (c : Int) : S47 := ⟨c, c + 1, c + 2⟩
def marksStreet (n : Nat) (c : Int) : List S47 := (List.range n).map fun (i : Nat) => mkStreet (c + 3 * (i : Int))
theorem marksStreet_length (n : Nat) (c : Int) : (marksStreet n c).length = n := by simp [marksStreet]
theorem laws_markStreetS_eq (l : List S47) (c : Int) (hl : l.length ≤ 1048576) (h0 : 0 ≤ c) (h9 : c ≤ 1000000000000000) : Ev (fun k => laws_markStreetS.f k l c) (c + 3 * l.length, marksStreet l.length c) := by
  unfold laws_markStreetS.f
  refine Ev.mark (g := fun k ys c i => laws_markStreetS.l0 k ys c i) 3 mkStreet l c (fun i ys r h hy hr => ?_) (fun ys c' hy => ?_)
  · refine Ev.succ ?_
    have h1 : (i : Int) < (ys.length : Int) := by omega
    have h2 : (0 : Int) ≤ (i : Int) := by omega
    have h4 : i < ys.length := by omega
    have r0 : ∀ (zs : List S47) (x : S47), i < zs.length → rd_T47 (zs.set i x) (i : Int) = x := fun zs x hz => by rw [rdT_Street _ _ (by simpa using hz)]; simp
    simp only [laws_markStreetS.l0, h1, h2, h4, if_true, Option.bind_some, Int.toNat_natCast, List.set_set, r0, wrap_id (n := (i : Int) + 1) (by omega) (by omega), wrap_id (n := c + 3 * (i : Int) + 1) (by omega) (by omega), wrap_id (n := c + 3 * (i : Int) + 2) (by omega) (by omega), wrap_id (n := c + 3 * (i : Int) + 3) (by omega) (by omega), show c + 3 * (i : Int) + 1 + 1 = c + 3 * (i : Int) + 2 by omega, show c + 3 * (i : Int) + 2 + 1 = c + 3 * (i : Int) + 3 by omega]
    exact hr
  · refine Ev.succ ?_
    simp only [laws_markStreetS.l0, hy, Int.lt_irrefl, if_false]
    exact Ev.now _
def findS (l : List S47) (a b : Int) : Int := Go.Proofs.Ytdaofiiedclmpaa.Hnd.fidx (fun x : S47 => x.f0 == a && x.f1 == b) l 0
theorem findS_lo (l : List S47) (a b : Int) : -1 ≤ findS l a b := fidx_lo _ _
theorem findS_hi (l : List S47) (a b : Int) : findS l a b < l.length := fidx_hi _ _
theorem findS_neg (l : List S47) (a b : Int) : findS l a b < 0 ↔ ∀ x ∈ l, ¬ (x.f0 = a ∧ x.f1 = b) := by
  rcases fidx_cases (fun x : S47 => x.f0 == a && x.f1 == b) l 0 with ⟨h1, h2⟩ | ⟨i, h1, h2, h3, _⟩
  · refine ⟨fun _ x hx => by simpa using h2 x hx, fun _ => by unfold findS; omega⟩
  · refine ⟨fun h => by unfold findS at h; omega, fun h => absurd (show l[i].f0 = a ∧ l[i].f1 = b by simpa using h3) (h _ (List.getElem_mem _))⟩
theorem findS_at {l : List S47} {a b : Int} (h : 0 ≤ findS l a b) : ∃ (i : Nat) (hi : i < l.length), findS l a b = (i : Int) ∧ l[i].f0 = a ∧ l[i].f1 = b := by
  rcases fidx_cases (fun x : S47 => x.f0 == a && x.f1 == b) l 0 with ⟨h1, _⟩ | ⟨i, h1, h2, h3, _⟩
  · unfold findS at h; omega
  · exact ⟨i, h2, by unfold findS; omega, by simpa using h3⟩
def secOf (l : List S47) (a b : Int) : Int := if 0 ≤ findS l a b then (rd_T47 l (findS l a b)).f2 else 0
def cross (n : Int) : Bool := decide (1 ≤ n ∧ n ≤ 8)
def stB (a b c f : Int) : Bool := cross a && cross b && !decide (a = b) && decide (1 ≤ c ∧ c ≤ 300) && decide (f < 0)
def stAt (l : List S47) (i : Nat) : Bool := stB (rd_T47 l (i : Int)).f0 (rd_T47 l (i : Int)).f1 (rd_T47 l (i : Int)).f2 (findS (l.take i) (rd_T47 l (i : Int)).f0 (rd_T47 l (i : Int)).f1)
def areStreets (l : List S47) : Bool := (List.range l.length).all (stAt l) && decide (l.length ≤ 16)
theorem areStreets_len {l : List S47} (h : areStreets l = true) : l.length ≤ 16 := by simp [areStreets] at h; exact h.2
theorem areStreets_at {l : List S47} (h : areStreets l = true) (i : Nat) (hi : i < l.length) : 1 ≤ l[i].f0 ∧ l[i].f0 ≤ 8 ∧ 1 ≤ l[i].f1 ∧ l[i].f1 ≤ 8 ∧ l[i].f0 ≠ l[i].f1 ∧ 1 ≤ l[i].f2 ∧ l[i].f2 ≤ 300 := by
  simp only [areStreets, Bool.and_eq_true, List.all_eq_true, List.mem_range] at h
  have := h.1 i hi
  simp only [stAt, stB, cross, rdT_Street _ _ hi, Bool.and_eq_true, decide_eq_true_eq, Bool.not_eq_true', decide_eq_false_iff_not] at this
  omega
theorem secOf_pos {l : List S47} (h : areStreets l = true) (a b : Int) : (secOf l a b = 0 ↔ findS l a b < 0) ∧ 0 ≤ secOf l a b ∧ secOf l a b ≤ 300 := by
  unfold secOf
  by_cases h0 : 0 ≤ findS l a b
  · obtain ⟨i, hi, he, _⟩ := findS_at h0
    have := areStreets_at h i hi
    rw [if_pos h0, he, rdT_Street _ _ hi]
    omega
  · rw [if_neg h0]; omega
theorem impl_streetOf_eq (l : List S47) (a b : Int) : impl_streetOf.f l a b = some (findS l a b) := rfl
theorem impl_AreStreets_eq (l : List S47) (hl : l.length ≤ 1048576) : Ev (fun k => impl_AreStreets.f k l) (areStreets l) := by
  unfold impl_AreStreets.f areStreets
  by_cases h16 : l.length ≤ 16
  · simp only [show ¬ ((l.length : Int) > 16) by omega, if_false, decide_eq_true h16, Bool.and_true]
    have key : ∀ (d i : Nat), i + d = l.length → Ev (fun k => impl_AreStreets.l0 k l l (l.length : Int) (i : Int)) ((List.range' i d).all (stAt l)) := by
      intro d
      induction d with
      | zero =>
        intro i hi
        refine Ev.succ ?_
        simp only [impl_AreStreets.l0, show ¬ (i : Int) < (l.length : Int) by omega, if_false]
        exact Ev.now _
      | succ d ih =>
        intro i hi
        refine Ev.succ ?_
        have ihh := ih (i + 1) (by omega)
        rw [show ((i + 1 : Nat) : Int) = (i : Int) + 1 by omega] at ihh
        simp only [impl_AreStreets.l0, show (i : Int) < (l.length : Int) by omega, show (0 : Int) ≤ (i : Int) by omega, if_true, impl_isCrossing_eq, impl_InRange_eq, Option.bind_some]
        have hj : ∀ b : Bool, Ev (fun k => impl_AreStreets.j1 k l (i : Int) l (l.length : Int) (i : Int) b (rd_T47 l (i : Int)).f0 (rd_T47 l (i : Int)).f1 (rd_T47 l (i : Int)).f2) (!b && decide (findS (l.take i) (rd_T47 l (i : Int)).f0 (rd_T47 l (i : Int)).f1 < 0) && (List.range' (i + 1) d).all (stAt l)) := by
          intro b
          refine Ev.succ ?_
          cases b
          · simp only [impl_AreStreets.j1, Bool.false_eq_true, if_false, show (0 : Int) ≤ (i : Int) by omega, show (i : Int) ≤ (l.length : Int) by omega, if_true, impl_streetOf_eq, Option.bind_some, Int.toNat_natCast, wrap_id (n := (i : Int) + 1) (by omega) (by omega), Bool.not_false, Bool.true_and]
            by_cases hf : findS (l.take i) (rd_T47 l (i : Int)).f0 (rd_T47 l (i : Int)).f1 < 0
            · simp only [show ¬ findS (l.take i) (rd_T47 l (i : Int)).f0 (rd_T47 l (i : Int)).f1 ≥ 0 by omega, if_false, decide_eq_true hf, Bool.true_and]; exact ihh
            · simp only [show findS (l.take i) (rd_T47 l (i : Int)).f0 (rd_T47 l (i : Int)).f1 ≥ 0 by omega, if_true, decide_eq_false hf, Bool.false_and]; exact Ev.now _
          · simp only [impl_AreStreets.j1, if_true, Bool.not_true, Bool.false_and]; exact Ev.now _
        rw [List.range'_succ, List.all_cons]
        show Ev _ (stB _ _ _ _ && _)
        generalize (rd_T47 l (i : Int)).f0 = a at hj ⊢
        generalize (rd_T47 l (i : Int)).f1 = b at hj ⊢
        generalize (rd_T47 l (i : Int)).f2 = c at hj ⊢
        unfold stB cross
        by_cases h1 : 1 ≤ a ∧ a ≤ 8
        · by_cases h2 : 1 ≤ b ∧ b ≤ 8
          · by_cases h3 : a = b
            · simp only [decide_eq_true h1, decide_eq_true h2, h3, if_true, decide_true, Bool.not_true, Bool.and_false, Bool.false_and]
              rw [h3] at hj
              exact hj true
            · simp only [decide_eq_true h1, decide_eq_true h2, h3, if_true, if_false, decide_false, Bool.not_false, Bool.true_and]
              exact evq (hj _) (by rw [Bool.not_not])
          · simp only [decide_eq_true h1, decide_eq_false h2, if_true, Bool.false_eq_true, if_false, Bool.and_false, Bool.false_and]; exact hj true
        · simp only [decide_eq_false h1, Bool.false_eq_true, if_false, Bool.false_and]; exact hj true
    have := key l.length 0 (by omega)
    rwa [← List.range_eq_range'] at this
  · simp only [show (l.length : Int) > 16 by omega, if_true, decide_eq_false h16, Bool.and_false]; exact Ev.now _
theorem findS_take (l : List S47) (i : Nat) (hi : i ≤ l.length) (a b : Int) : decide (findS (l.take i) a b < 0) = (List.range i).all (fun (j : Nat) => !decide ((rd_T47 l (j : Int)).f0 = a ∧ (rd_T47 l (j : Int)).f1 = b)) := by
  rw [Bool.eq_iff_iff, decide_eq_true_eq, findS_neg, List.all_eq_true]
  constructor
  · intro h j hj
    have hj' := List.mem_range.1 hj
    rw [rdT_Street _ _ (by omega)]
    rw [Bool.not_eq_true', decide_eq_false_iff_not]
    exact h l[j] (List.mem_take_iff_getElem.2 ⟨j, by omega, rfl⟩)
  · intro h x hx
    obtain ⟨j, hj, rfl⟩ := List.mem_take_iff_getElem.1 hx
    have := h j (List.mem_range.2 (by omega))
    rw [rdT_Street _ _ (by omega), Bool.not_eq_true', decide_eq_false_iff_not] at this
    exact this
theorem spec_AreStreets_eq (l : List S47) (hl : l.length ≤ 1048576) : Ev (fun k => spec_AreStreets.f k l) (areStreets l) := by
  unfold spec_AreStreets.f areStreets
  have inner : ∀ (i : Nat) (a b c : Int) (r : Bool), i < l.length → Ev (fun k => spec_AreStreets.l0 k l ((i : Int) + 1)) r → Ev (fun k => spec_AreStreets.l1 k l (i : Int) 0 a b c) (decide (findS (l.take i) a b < 0) && r) := by
    intro i a b c r hi hr
    rw [findS_take l i (by omega)]
    refine evAnd (g := fun k j => spec_AreStreets.l1 k l (i : Int) j a b c) (fun j s h hP hs => ?_) (fun j h hP => ?_) ?_
    · refine Ev.succ ?_
      rw [Bool.not_eq_true', decide_eq_false_iff_not] at hP
      simp only [spec_AreStreets.l1, show (j : Int) < (i : Int) by omega, show (j : Int) < (l.length : Int) by omega, show (0 : Int) ≤ (j : Int) by omega, if_true, wrap_id (n := (j : Int) + 1) (by omega) (by omega)]
      by_cases e1 : (rd_T47 l (j : Int)).f0 = a
      · have e2 : ¬ (rd_T47 l (j : Int)).f1 = b := fun e => hP ⟨e1, e⟩
        simp only [e1, e2, if_true, if_false]; exact hs
      · simp only [e1, if_false]; exact hs
    · refine Ev.succ ?_
      rw [Bool.not_eq_false', decide_eq_true_eq] at hP
      simp only [spec_AreStreets.l1, show (j : Int) < (i : Int) by omega, show (j : Int) < (l.length : Int) by omega, show (0 : Int) ≤ (j : Int) by omega, if_true, hP.1, hP.2]
      exact Ev.now _
    · refine Ev.succ ?_
      simp only [spec_AreStreets.l1, Int.lt_irrefl, if_false, wrap_id (n := (i : Int) + 1) (by omega) (by omega)]
      exact hr
  have key : ∀ (d i : Nat), i + d = l.length → Ev (fun k => spec_AreStreets.l0 k l (i : Int)) ((List.range' i d).all (stAt l) && decide (l.length ≤ 16)) := by
    intro d
    induction d with
    | zero =>
      intro i hi
      refine Ev.succ ?_
      simp only [spec_AreStreets.l0, show ¬ (i : Int) < (l.length : Int) by omega, if_false]
      exact evq (Ev.now _) (by by_cases h : l.length ≤ 16 <;> simp [h] <;> omega)
    | succ d ih =>
      intro i hi
      refine Ev.succ ?_
      have ihh := ih (i + 1) (by omega)
      rw [show ((i + 1 : Nat) : Int) = (i : Int) + 1 by omega] at ihh
      simp only [spec_AreStreets.l0, show (i : Int) < (l.length : Int) by omega, show (0 : Int) ≤ (i : Int) by omega, if_true, spec_l1In_eq, Option.bind_some]
      have hj : ∀ b : Bool, Ev (fun k => spec_AreStreets.j1 k l (i : Int) b (rd_T47 l (i : Int)).f0 (rd_T47 l (i : Int)).f1 (rd_T47 l (i : Int)).f2) (!b && decide (findS (l.take i) (rd_T47 l (i : Int)).f0 (rd_T47 l (i : Int)).f1 < 0) && ((List.range' (i + 1) d).all (stAt l) && decide (l.length ≤ 16))) := by
        intro b
        refine Ev.succ ?_
        cases b
        · simp only [spec_AreStreets.j1, Bool.false_eq_true, if_false, Bool.not_false, Bool.true_and]; exact inner i _ _ _ _ (by omega) ihh
        · simp only [spec_AreStreets.j1, if_true, Bool.not_true, Bool.false_and]; exact Ev.now _
      rw [List.range'_succ, List.all_cons]
      show Ev _ ((stB _ _ _ _ && _) && _)
      generalize (rd_T47 l (i : Int)).f0 = a at hj ⊢
      generalize (rd_T47 l (i : Int)).f1 = b at hj ⊢
      generalize (rd_T47 l (i : Int)).f2 = c at hj ⊢
      unfold stB cross
      by_cases h1 : 1 ≤ a ∧ a ≤ 8
      · by_cases h2 : 1 ≤ b ∧ b ≤ 8
        · by_cases h3 : a = b
          · simp only [decide_eq_true h1, decide_eq_true h2, h3, if_true, decide_true, Bool.not_true, Bool.and_false, Bool.false_and]
            rw [h3] at hj
            exact hj true
          · simp only [decide_eq_true h1, decide_eq_true h2, h3, if_true, if_false, decide_false, Bool.not_false, Bool.true_and]
            exact evq (hj _) (by rw [Bool.not_not]; simp only [Bool.and_assoc])
        · simp only [decide_eq_true h1, decide_eq_false h2, if_true, Bool.false_eq_true, if_false, Bool.and_false, Bool.false_and]; exact hj true
      · simp only [decide_eq_false h1, Bool.false_eq_true, if_false, Bool.false_and]; exact hj true
  have := key l.length 0 (by omega)
  rwa [← List.range_eq_range'] at this
namespace BF
structure E where
  a : Int
  b : Int
  s : Int
def upd (d : Int → Int) (v x : Int) : Int → Int := fun u => if u = v then x else d u
def rel (d : Int → Int) (e : E) : Int → Int := if d e.a < 0 then d else if d e.b < 0 ∨ d e.a + e.s < d e.b then upd d e.b (d e.a + e.s) else d
def round (es : List E) (d : Int → Int) : Int → Int := es.foldl rel d
/-- Each place that was reached is reached still, and no later. -/
def le (d' d : Int → Int) : Prop := ∀ v, 0 ≤ d v → 0 ≤ d' v ∧ d' v ≤ d v
theorem le_refl (d : Int → Int) : le d d := fun _ h => ⟨h, Int.le_refl _⟩
theorem le_trans {a b c : Int → Int} (h : le a b) (k : le b c) : le a c := fun v hv => ⟨(h v (k v hv).1).1, Int.le_trans (h v (k v hv).1).2 (k v hv).2⟩
theorem rel_le (d : Int → Int) (e : E) (hs : 0 ≤ e.s) : le (rel d e) d := by
  intro v hv
  unfold rel
  split
  · exact ⟨hv, Int.le_refl _⟩
  · split
    · rename_i h1 h2
      unfold upd
      split
      · rename_i h3; subst h3; omega
      · exact ⟨hv, Int.le_refl _⟩
    · exact ⟨hv, Int.le_refl _⟩
theorem round_le : ∀ (es : List E), (∀ e ∈ es, 0 ≤ e.s) → ∀ d, le (round es d) d
  | [], _, d => le_refl d
  | e :: es, h, d => le_trans (round_le es (fun x hx => h x (List.mem_cons_of_mem _ hx)) (rel d e)) (rel_le d e (h e List.mem_cons_self))
/-- Walks out of c: how many streets, where, how long. -/
def W (es : List E) (c : Int) : Nat → Int → Int → Prop
  | 0, v, L => v = c ∧ L = 0
  | n + 1, v, L => ∃ e ∈ es, ∃ L', W es c n e.a L' ∧ v = e.b ∧ L = L' + e.s
/-- What a round does for one street: its end is reached no later than by it. -/
theorem round_edge : ∀ (es : List E), (∀ e ∈ es, 0 ≤ e.s) → ∀ (d : Int → Int) (e : E), e ∈ es → 0 ≤ d e.a → 0 ≤ round es d e.b ∧ round es d e.b ≤ d e.a + e.s
  | [], _, _, _, h, _ => absurd h (by simp)
  | x :: es, hs, d, e, h, h0 => by
    have hs' := fun y hy => hs y (List.mem_cons_of_mem x hy)
    show 0 ≤ round es (rel d x) e.b ∧ round es (rel d x) e.b ≤ d e.a + e.s
    rcases List.mem_cons.1 h with rfl | h
    · have hr := round_le es hs' (rel d e)
      have h1 : 0 ≤ rel d e e.b ∧ rel d e e.b ≤ d e.a + e.s := by
        have := hs e List.mem_cons_self
        unfold rel
        rw [if_neg (by omega)]
        split
        · unfold upd; rw [if_pos rfl]; omega
        · omega
      have := hr e.b h1.1
      omega
    · have h2 := rel_le d x (hs x List.mem_cons_self) e.a h0
      have := round_edge es hs' (rel d x) e h h2.1
      omega
def A (es : List E) (c : Int) (k : Nat) (d : Int → Int) : Prop := ∀ n v L, n ≤ k → W es c n v L → 0 ≤ d v ∧ d v ≤ L
theorem A_round (es : List E) (hs : ∀ e ∈ es, 0 ≤ e.s) (c : Int) (k : Nat) (d : Int → Int) (h : A es c k d) : A es c (k + 1) (round es d) := by
  intro n v L hn hw
  cases n with
  | zero =>
    have h0 := h 0 v L (by omega) hw
    have := round_le es hs d v h0.1
    omega
  | succ n =>
    obtain ⟨e, he, L', hw', rfl, rfl⟩ := hw
    have h0 := h n e.a L' (by omega) hw'
    have := round_edge es hs d e he h0.1
    omega
def B (es : List E) (c : Int) (d : Int → Int) : Prop := ∀ v, 0 ≤ d v → ∃ n, W es c n v (d v)
theorem B_rel (es : List E) (c : Int) (d : Int → Int) (e : E) (he : e ∈ es) (h : B es c d) : B es c (rel d e) := by
  intro v hv
  unfold rel at hv ⊢
  split
  · rename_i h1; rw [if_pos h1] at hv; exact h v hv
  · rename_i h1
    rw [if_neg h1] at hv
    split
    · rename_i h2
      rw [if_pos h2] at hv
      unfold upd at hv ⊢
      by_cases hb : v = e.b
      · obtain ⟨n, hn⟩ := h e.a (by omega)
        refine ⟨n + 1, e, he, d e.a, hn, hb, ?_⟩
        rw [if_pos hb]
      · rw [if_neg hb] at hv ⊢
        exact h v hv
    · rename_i h2; rw [if_neg h2] at hv; exact h v hv
theorem B_fold (es : List E) (c : Int) : ∀ (fs : List E), (∀ e ∈ fs, e ∈ es) → ∀ d, B es c d → B es c (round fs d)
  | [], _, _, h => h
  | f :: fs, hf, d, h => B_fold es c fs (fun e he => hf e (List.mem_cons_of_mem _ he)) (rel d f) (B_rel es c d f (hf f List.mem_cons_self) h)
/-- Longer walks: a walk's end put behind another way to the same place. -/
theorem W_len {es : List E} (hs : ∀ e ∈ es, 0 ≤ e.s) {c : Int} : ∀ {n : Nat} {v L : Int}, W es c n v L → 0 ≤ L
  | 0, _, _, h => by have := h.2; omega
  | n + 1, _, _, ⟨e, he, L', hw, _, hl⟩ => by have := W_len hs hw; have := hs e he; omega
/-- The places on the way, the last first. -/
def T (es : List E) (c : Int) : List Int → Int → Int → Prop
  | [], v, L => v = c ∧ L = 0
  | p :: ps, v, L => ∃ e ∈ es, ∃ L', p = e.a ∧ T es c ps e.a L' ∧ v = e.b ∧ L = L' + e.s
theorem T_of_W {es : List E} {c : Int} : ∀ {n : Nat} {v L : Int}, W es c n v L → ∃ ps : List Int, ps.length = n ∧ T es c ps v L
  | 0, _, _, h => ⟨[], rfl, h⟩
  | n + 1, _, _, ⟨e, he, L', hw, hv, hl⟩ => by
    obtain ⟨ps, h1, h2⟩ := T_of_W hw
    exact ⟨e.a :: ps, by simp [h1], e, he, L', rfl, h2, hv, hl⟩
theorem W_of_T {es : List E} {c : Int} : ∀ {ps : List Int} {v L : Int}, T es c ps v L → W es c ps.length v L
  | [], _, _, h => h
  | _ :: _, _, _, ⟨e, he, L', _, ht, hv, hl⟩ => ⟨e, he, L', W_of_T ht, hv, hl⟩
theorem T_len {es : List E} (hs : ∀ e ∈ es, 0 ≤ e.s) {c : Int} {ps : List Int} {v L : Int} (h : T es c ps v L) : 0 ≤ L := W_len hs (W_of_T h)
/-- Where a place lies on the way, the way to it is no longer and has fewer streets. -/
theorem T_part {es : List E} (hs : ∀ e ∈ es, 0 ≤ e.s) {c : Int} : ∀ {ps : List Int} {v L x : Int}, T es c ps v L → x ∈ ps → ∃ qs L', qs.length < ps.length ∧ L' ≤ L ∧ T es c qs x L'
  | [], _, _, _, _, hx => absurd hx (by simp)
  | p :: ps, v, L, x, ⟨e, he, L', hp, ht, hv, hl⟩, hx => by
    have h0 := hs e he
    rcases List.mem_cons.1 hx with rfl | hx
    · exact ⟨ps, L', by simp, by omega, hp ▸ ht⟩
    · obtain ⟨qs, M, h1, h2, h3⟩ := T_part hs ht hx
      exact ⟨qs, M, by simp; omega, by omega, h3⟩
/-- Every way can be made one on which no place comes twice. -/
theorem T_simple {es : List E} (hs : ∀ e ∈ es, 0 ≤ e.s) {c : Int} : ∀ (n : Nat) {ps : List Int} {v L : Int}, ps.length ≤ n → T es c ps v L → ∃ qs L', qs.length ≤ ps.length ∧ L' ≤ L ∧ T es c qs v L' ∧ (v :: qs).Nodup
  | 0, ps, v, L, hn, h => by
    have : ps = [] := List.eq_nil_of_length_eq_zero (by omega)
    subst this
    exact ⟨[], L, Nat.le_refl _, Int.le_refl _, h, by simp⟩
  | n + 1, ps, v, L, hn, h => by
    cases ps with
    | nil => exact ⟨[], L, Nat.le_refl _, Int.le_refl _, h, by simp⟩
    | cons p ps =>
      obtain ⟨e, he, L', hp, ht, hve, hl⟩ := h
      have h0 := hs e he
      have hn' : ps.length ≤ n := by simp at hn; omega
      obtain ⟨rs, M, k0, k1, k2, k3⟩ := T_simple hs n hn' ht
      by_cases hv2 : v ∈ e.a :: rs
      · rcases List.mem_cons.1 hv2 with h4 | h4
        · exact ⟨rs, M, by simp; omega, by omega, by rw [h4]; exact k2, by rw [h4]; exact k3⟩
        · obtain ⟨qs, N, j1, j2, j3⟩ := T_part hs k2 h4
          obtain ⟨us, O, i0, i1, i2, i3⟩ := T_simple hs n (by omega) j3
          exact ⟨us, O, by simp; omega, by omega, i2, i3⟩
      · exact ⟨e.a :: rs, M + e.s, by simp; omega, by omega, ⟨e, he, M, rfl, k2, hve, rfl⟩, List.nodup_cons.2 ⟨hv2, k3⟩⟩
theorem nodup_le : ∀ (n : Nat) (l : List Int), l.Nodup → (∀ x ∈ l, 1 ≤ x ∧ x ≤ n) → l.length ≤ n
  | 0, l, _, h => by
    cases l with
    | nil => simp
    | cons x l => have := h x List.mem_cons_self; omega
  | n + 1, l, hd, h => by
    by_cases hm : ((n + 1 : Nat) : Int) ∈ l
    · have h1 := nodup_le n (l.erase ((n + 1 : Nat) : Int)) (hd.erase _) (fun x hx => by
        have h2 := (hd.mem_erase_iff).1 hx
        have h3 := h x h2.2
        have h4 := h2.1
        omega)
      rw [List.length_erase_of_mem hm] at h1
      omega
    · have h1 := nodup_le n l hd (fun x hx => by
        have h3 := h x hx
        have : x ≠ ((n + 1 : Nat) : Int) := fun e => hm (e ▸ hx)
        omega)
      omega
theorem T_mem {es : List E} {c : Int} (hc : 1 ≤ c ∧ c ≤ 8) (he : ∀ e ∈ es, (1 ≤ e.a ∧ e.a ≤ 8) ∧ 1 ≤ e.b ∧ e.b ≤ 8) : ∀ {ps : List Int} {v L : Int}, T es c ps v L → ∀ x ∈ v :: ps, 1 ≤ x ∧ x ≤ 8
  | [], v, L, h, x, hx => by
    have : x = c := by have := h.1; simp at hx; omega
    omega
  | p :: ps, v, L, ⟨e, hm, L', hp, ht, hv, hl⟩, x, hx => by
    rcases List.mem_cons.1 hx with rfl | hx
    · have := he e hm; omega
    · have := T_mem hc he ht x (by rw [← hp]; exact hx)
      exact this
/-- Behind seven rounds nothing is left to better. -/
theorem fix (es : List E) (hs : ∀ e ∈ es, 0 ≤ e.s) (c : Int) (hc : 1 ≤ c ∧ c ≤ 8) (he : ∀ e ∈ es, (1 ≤ e.a ∧ e.a ≤ 8) ∧ 1 ≤ e.b ∧ e.b ≤ 8) (d : Int → Int) (hA : A es c 7 d) (hB : B es c d) : ∀ e ∈ es, rel d e = d := by
  intro e hm
  unfold rel
  split
  · rfl
  · rename_i h1
    rw [if_neg]
    obtain ⟨n, hn⟩ := hB e.a (by omega)
    have hw : W es c (n + 1) e.b (d e.a + e.s) := ⟨e, hm, d e.a, hn, rfl, rfl⟩
    obtain ⟨ps, _, ht⟩ := T_of_W hw
    obtain ⟨qs, L', _, k1, k2, k3⟩ := T_simple hs ps.length (Nat.le_refl _) ht
    have hl := nodup_le 8 (e.b :: qs) k3 (T_mem hc he k2)
    have := hA qs.length e.b L' (by simp at hl; omega) (W_of_T k2)
    omega
end BF

/-- One street's bettering, on the row of the nine cells. -/
def relL (d : List Int) (e : BF.E) : List Int := if rd d e.a < 0 then d else if rd d e.b < 0 ∨ rd d e.a + e.s < rd d e.b then d.set e.b.toNat (rd d e.a + e.s) else d
def roundL (es : List BF.E) (d : List Int) : List Int := es.foldl relL d
theorem relL_length (d : List Int) (e : BF.E) : (relL d e).length = d.length := by
  unfold relL; split
  · rfl
  · split <;> simp
theorem roundL_length : ∀ (es : List BF.E) (d : List Int), (roundL es d).length = d.length
  | [], _ => rfl
  | e :: es, d => (roundL_length es (relL d e)).trans (relL_length d e)
theorem rd_set (d : List Int) (t x u : Int) (h1 : 1 ≤ t) (h2 : t < d.length) : rd (d.set t.toNat x) u = if u = t then x else rd d u := by
  unfold rd
  by_cases h : u = t
  · subst h
    rw [if_pos rfl]
    simp [List.getElem?_set, show u.toNat < d.length by omega]
  · rw [if_neg h]
    have : ¬ t.toNat = u.toNat := by omega
    simp [List.getElem?_set, this]
def see (d : List Int) (u : Int) : Int := if u ≤ 8 then rd d u else -1
theorem relL_fun (d : List Int) (e : BF.E) (hl : d.length = 9) (ha : e.a ≤ 8) (hb : 1 ≤ e.b ∧ e.b ≤ 8) : see (relL d e) = BF.rel (see d) e := by
  funext u
  unfold relL BF.rel
  have ea : see d e.a = rd d e.a := if_pos ha
  have eb : see d e.b = rd d e.b := if_pos hb.2
  rw [ea, eb]
  by_cases h : rd d e.a < 0
  · rw [if_pos h, if_pos h]
  · rw [if_neg h, if_neg h]
    by_cases k : rd d e.b < 0 ∨ rd d e.a + e.s < rd d e.b
    · rw [if_pos k, if_pos k]
      unfold see BF.upd
      dsimp only
      by_cases hu : u ≤ 8
      · rw [if_pos hu, rd_set _ _ _ _ hb.1 (by omega), if_pos hu]
      · rw [if_neg hu, if_neg hu, if_neg (by omega)]
    · rw [if_neg k, if_neg k]
def Ok (es : List BF.E) : Prop := ∀ e ∈ es, (1 ≤ e.a ∧ e.a ≤ 8) ∧ (1 ≤ e.b ∧ e.b ≤ 8)
theorem roundL_fun : ∀ (es : List BF.E) (d : List Int), d.length = 9 → Ok es → see (roundL es d) = BF.round es (see d)
  | [], _, _, _ => rfl
  | e :: es, d, hl, h => by
    have h0 := h e List.mem_cons_self
    have := roundL_fun es (relL d e) (by rw [relL_length]; exact hl) (fun x hx => h x (List.mem_cons_of_mem _ hx))
    show see (roundL es (relL d e)) = BF.round es (BF.rel (see d) e)
    rw [this, relL_fun d e hl h0.1.2 h0.2]
/-- Behind eight rounds (and more) the row stays. -/
def rounds (es : List BF.E) : Nat → List Int → List Int
  | 0, d => d
  | n + 1, d => rounds es n (roundL es d)
theorem rounds_length (es : List BF.E) : ∀ (n : Nat) (d : List Int), (rounds es n d).length = d.length
  | 0, _ => rfl
  | n + 1, d => (rounds_length es n (roundL es d)).trans (roundL_length es d)
def start (c : Int) : List Int := (List.replicate 9 (-1)).set c.toNat 0
theorem rounds_inv (es : List BF.E) (c : Int) (hs : ∀ e ∈ es, 0 ≤ e.s) (hk : Ok es) : ∀ (n k : Nat) (d : List Int), d.length = 9 → BF.A es c k (see d) → BF.B es c (see d) → BF.A es c (k + n) (see (rounds es n d)) ∧ BF.B es c (see (rounds es n d))
  | 0, k, d, _, hA, hB => ⟨hA, hB⟩
  | n + 1, k, d, hl, hA, hB => by
    have hf := roundL_fun es d hl hk
    have h1 := BF.A_round es hs c k _ hA
    have h2 := BF.B_fold es c es (fun e he => he) _ hB
    rw [← hf] at h1 h2
    have := rounds_inv es c hs hk n (k + 1) (roundL es d) (by rw [roundL_length]; exact hl) h1 h2
    rw [show k + 1 + n = k + (n + 1) by omega] at this
    exact this
theorem see_start (c u : Int) (hc : 1 ≤ c ∧ c ≤ 8) : see (start c) u = if u = c then 0 else -1 := by
  unfold see start
  by_cases hu : u ≤ 8
  · rw [if_pos hu, rd_set _ _ _ _ hc.1 (by simp; omega)]
    by_cases h : u = c
    · rw [if_pos h, if_pos h]
    · rw [if_neg h, if_neg h]
      unfold rd
      rw [List.getD_eq_getElem?_getD, List.getElem?_replicate, if_pos (by omega)]; rfl
  · rw [if_neg hu, if_neg (by omega)]
/-- Behind seven rounds no street betters the row. -/
theorem settled (es : List BF.E) (c : Int) (hc : 1 ≤ c ∧ c ≤ 8) (hk : Ok es) (hs : ∀ e ∈ es, 0 ≤ e.s) : ∀ e ∈ es, relL (rounds es 7 (start c)) e = rounds es 7 (start c) := by
  have hlen : (start c).length = 9 := by simp [start]
  have hlen7 : (rounds es 7 (start c)).length = 9 := by rw [rounds_length]; exact hlen
  have hA : BF.A es c 0 (see (start c)) := by
    intro n v L hn hw
    obtain rfl : n = 0 := by omega
    rw [see_start c v hc, if_pos hw.1, hw.2]; omega
  have hB : BF.B es c (see (start c)) := by
    intro v hv
    rw [see_start c v hc] at hv ⊢
    by_cases h : v = c
    · rw [if_pos h]; exact ⟨0, h, rfl⟩
    · rw [if_neg h] at hv; omega
  obtain ⟨h1, h2⟩ := rounds_inv es c hs hk 7 0 (start c) hlen hA hB
  have hf := BF.fix es hs c hc hk (see (rounds es 7 (start c))) h1 h2
  intro e he
  have h0 := hk e he
  have h3 := relL_fun (rounds es 7 (start c)) e hlen7 h0.1.2 h0.2
  rw [hf e he] at h3
  have hl2 : (relL (rounds es 7 (start c)) e).length = 9 := by rw [relL_length]; exact hlen7
  apply List.ext_getElem (by rw [hl2, hlen7])
  intro i i1 i2
  have := congrFun h3 (i : Int)
  unfold see at this
  rw [if_pos (by omega), if_pos (by omega), rd_nat _ _ i1, rd_nat _ _ i2] at this
  exact this

def chg (d : List Int) (e : BF.E) : Bool := decide (¬ rd d e.a < 0) && decide (rd d e.b < 0 ∨ rd d e.a + e.s < rd d e.b)
theorem relL_chg (d : List Int) (e : BF.E) (h : chg d e = false) : relL d e = d := by
  unfold chg at h
  unfold relL
  by_cases h1 : rd d e.a < 0
  · rw [if_pos h1]
  · rw [if_neg h1]
    rw [decide_eq_true h1, Bool.true_and, decide_eq_false_iff_not] at h
    rw [if_neg h]
theorem chg_fix (d : List Int) (e : BF.E) (hl : d.length = 9) (hb : 1 ≤ e.b ∧ e.b ≤ 8) (hs : 0 ≤ e.s) (h : relL d e = d) : chg d e = false := by
  unfold chg
  by_cases h1 : rd d e.a < 0
  · simp [h1]
  · by_cases h2 : rd d e.b < 0 ∨ rd d e.a + e.s < rd d e.b
    · exfalso
      unfold relL at h
      rw [if_neg h1, if_pos h2] at h
      have := rd_set d e.b (rd d e.a + e.s) e.b hb.1 (by omega)
      rw [if_pos rfl, h] at this
      omega
    · rw [decide_eq_false h2, Bool.and_false]
/-- A round as the reference runs it: the row, and whether a street bettered it. -/
def runC (es : List BF.E) (x : List Int × Bool) : List Int × Bool := es.foldl (fun x e => (relL x.1 e, x.2 || chg x.1 e)) x
theorem runC_fst : ∀ (es : List BF.E) (x : List Int × Bool), (runC es x).1 = roundL es x.1
  | [], _ => rfl
  | e :: es, x => runC_fst es (relL x.1 e, x.2 || chg x.1 e)
theorem runC_true : ∀ (es : List BF.E) (d : List Int), (runC es (d, true)).2 = true
  | [], _ => rfl
  | e :: es, d => by
    show (runC es (relL d e, true || chg d e)).2 = true
    rw [Bool.true_or]; exact runC_true es _
theorem runC_false : ∀ (es : List BF.E) (d : List Int), (runC es (d, false)).2 = false → roundL es d = d
  | [], _, _ => rfl
  | e :: es, d, h => by
    have h' : (runC es (relL d e, false || chg d e)).2 = false := h
    rw [Bool.false_or] at h'
    cases hc : chg d e
    · rw [hc] at h'
      have h3 := relL_chg d e hc
      rw [h3] at h'
      show roundL es (relL d e) = d
      rw [h3]; exact runC_false es d h'
    · rw [hc, runC_true] at h'; cases h'
theorem runC_fix : ∀ (es : List BF.E) (d : List Int), d.length = 9 → Ok es → (∀ e ∈ es, 0 ≤ e.s) → (∀ e ∈ es, relL d e = d) → (runC es (d, false)).2 = false
  | [], _, _, _, _, _ => rfl
  | e :: es, d, hl, hk, hs, h => by
    show (runC es (relL d e, false || chg d e)).2 = false
    rw [Bool.false_or, chg_fix d e hl (hk e List.mem_cons_self).2 (hs e List.mem_cons_self) (h e List.mem_cons_self), h e List.mem_cons_self]
    exact runC_fix es d hl (fun x hx => hk x (List.mem_cons_of_mem _ hx)) (fun x hx => hs x (List.mem_cons_of_mem _ hx)) (fun x hx => h x (List.mem_cons_of_mem _ hx))
theorem roundL_fix : ∀ (es : List BF.E) (d : List Int), (∀ e ∈ es, relL d e = d) → roundL es d = d
  | [], _, _ => rfl
  | e :: es, d, h => by
    show roundL es (relL d e) = d
    rw [h e List.mem_cons_self]
    exact roundL_fix es d (fun x hx => h x (List.mem_cons_of_mem _ hx))
theorem rounds_stay (es : List BF.E) (d : List Int) (h : roundL es d = d) : ∀ n, rounds es n d = d
  | 0 => rfl
  | n + 1 => by show rounds es n (roundL es d) = d; rw [h]; exact rounds_stay es d h n
theorem rounds_add (es : List BF.E) : ∀ (m n : Nat) (d : List Int), rounds es (m + n) d = rounds es n (rounds es m d)
  | 0, n, d => by rw [Nat.zero_add]; rfl
  | m + 1, n, d => by
    rw [show m + 1 + n = (m + n) + 1 by omega]
    exact rounds_add es m n (roundL es d)
/-- Eight rounds are as seven. -/
theorem rounds8 (es : List BF.E) (c : Int) (hc : 1 ≤ c ∧ c ≤ 8) (hk : Ok es) (hs : ∀ e ∈ es, 0 ≤ e.s) : rounds es 8 (start c) = rounds es 7 (start c) := by
  rw [show 8 = 7 + 1 from rfl, rounds_add es 7 1]
  exact roundL_fix es _ (settled es c hc hk hs)
/-- Where the reference stops, the row is that behind seven rounds. -/
theorem stops (es : List BF.E) (c : Int) (m : Nat) (hm : m ≤ 7) (h : (runC es (rounds es m (start c), false)).2 = false) : rounds es m (start c) = rounds es 7 (start c) := by
  have h1 := rounds_stay es _ (runC_false es _ h) (7 - m)
  rw [← rounds_add, show m + (7 - m) = 7 by omega] at h1
  exact h1.symm
def esOf (l : List S47) : List BF.E := l.map (fun x => ⟨x.f0, x.f1, x.f2⟩)
theorem esOf_ok {l : List S47} (h : areStreets l = true) : Ok (esOf l) ∧ ∀ e ∈ esOf l, 0 ≤ e.s := by
  have key : ∀ e ∈ esOf l, ((1 ≤ e.a ∧ e.a ≤ 8) ∧ 1 ≤ e.b ∧ e.b ≤ 8) ∧ 0 ≤ e.s := by
    intro e he
    obtain ⟨x, hx, rfl⟩ := List.mem_map.1 he
    obtain ⟨i, hi, rfl⟩ := List.getElem_of_mem hx
    have := areStreets_at h i hi
    dsimp only
    omega
  exact ⟨fun e he => (key e he).1, fun e he => (key e he).2⟩
theorem relL_bd (d : List Int) (e : BF.E) (M : Int) (hl : d.length = 9) (hb : 1 ≤ e.b ∧ e.b ≤ 8) (hs : 0 ≤ e.s ∧ e.s ≤ 300) (h : ∀ u, rd d u ≤ M) : ∀ u, rd (relL d e) u ≤ M + 300 := by
  intro u
  have hu := h u
  have h1 := h e.a
  unfold relL
  split
  · omega
  · split
    · rw [rd_set _ _ _ _ hb.1 (by omega)]
      split <;> omega
    · omega
theorem l20_l2 (l : List S47) (ha : areStreets l = true) (r : List Int) : ∀ (n i : Nat) (d : List Int) (b : Bool) (M : Int), i + n = l.length → d.length = 9 → (∀ u, rd d u ≤ M) → M + 300 * (n : Int) ≤ 1000000 → Ev (fun k => spec_l20Times.l1 k l (runC (esOf (l.drop i)) (d, b)).1 (runC (esOf (l.drop i)) (d, b)).2) r → Ev (fun k => spec_l20Times.l2 k l d b (i : Int)) r := by
  intro n
  induction n with
  | zero =>
    intro i d b M hi hl hd hM hr
    refine Ev.succ ?_
    simp only [spec_l20Times.l2, show ¬ (i : Int) < (l.length : Int) by omega, if_false]
    rw [List.drop_eq_nil_of_le (show l.length ≤ i by omega)] at hr
    exact hr
  | succ n ih =>
    intro i d b M hi hl hd hM hr
    refine Ev.succ ?_
    have hi2 : i < l.length := by omega
    have ht := areStreets_at ha i hi2
    have hlen := areStreets_len ha
    have h1 := hd l[i].f0
    have hbd := relL_bd d ⟨l[i].f0, l[i].f1, l[i].f2⟩ M hl (by dsimp only; omega) (by dsimp only; omega) hd
    rw [List.drop_eq_getElem_cons hi2] at hr
    have hr' : Ev (fun k => spec_l20Times.l1 k l (runC (esOf (l.drop (i + 1))) (relL d ⟨l[i].f0, l[i].f1, l[i].f2⟩, b || chg d ⟨l[i].f0, l[i].f1, l[i].f2⟩)).1 (runC (esOf (l.drop (i + 1))) (relL d ⟨l[i].f0, l[i].f1, l[i].f2⟩, b || chg d ⟨l[i].f0, l[i].f1, l[i].f2⟩)).2) r := hr
    have next := ih (i + 1) (relL d ⟨l[i].f0, l[i].f1, l[i].f2⟩) (b || chg d ⟨l[i].f0, l[i].f1, l[i].f2⟩) (M + 300) (by omega) (by rw [relL_length]; exact hl) hbd (by omega) hr'
    rw [show ((i + 1 : Nat) : Int) = (i : Int) + 1 by omega] at next
    simp only [spec_l20Times.l2, show (i : Int) < (l.length : Int) by omega, show (0 : Int) ≤ (i : Int) by omega, if_true, rdT_Street _ _ hi2, show (0 : Int) ≤ l[i].f0 by omega, show l[i].f0 < (d.length : Int) by omega, show (0 : Int) ≤ l[i].f1 by omega, show l[i].f1 < (d.length : Int) by omega, wrap_id (n := (i : Int) + 1) (by omega) (by omega)]
    unfold relL chg at next
    dsimp only at next
    by_cases c1 : rd d l[i].f0 < 0
    · simpa [c1] using next
    · have hw : wrap64 (rd d l[i].f0 + l[i].f2) = rd d l[i].f0 + l[i].f2 := wrap_id (by omega) (by omega)
      simp only [c1, if_false, hw] at next ⊢
      by_cases c2 : rd d l[i].f1 < 0
      · simpa [c2] using next
      · by_cases c3 : rd d l[i].f0 + l[i].f2 < rd d l[i].f1
        · simpa [c2, c3] using next
        · simpa [c2, c3] using next
theorem roundL_bd : ∀ (es : List BF.E), Ok es → (∀ e ∈ es, 0 ≤ e.s ∧ e.s ≤ 300) → ∀ (d : List Int) (M : Int), d.length = 9 → (∀ u, rd d u ≤ M) → ∀ u, rd (roundL es d) u ≤ M + 300 * (es.length : Int)
  | [], _, _, d, M, _, h => fun u => by have := h u; show rd d u ≤ _; simp; omega
  | e :: es, hk, hs, d, M, hl, h => fun u => by
    have h1 := relL_bd d e M hl (hk e List.mem_cons_self).2 (hs e List.mem_cons_self) h
    have := roundL_bd es (fun x hx => hk x (List.mem_cons_of_mem _ hx)) (fun x hx => hs x (List.mem_cons_of_mem _ hx)) (relL d e) (M + 300) (by rw [relL_length]; exact hl) h1 u
    show rd (roundL es (relL d e)) u ≤ _
    rw [List.length_cons]; omega
theorem l20_l1 (l : List S47) (ha : areStreets l = true) (c : Int) (hc : 1 ≤ c ∧ c ≤ 8) : ∀ (j m : Nat), m + j = 7 → (∀ u, rd (rounds (esOf l) m (start c)) u ≤ 4800 * (m : Int)) → Ev (fun k => spec_l20Times.l1 k l (rounds (esOf l) m (start c)) true) (rounds (esOf l) 7 (start c)) := by
  obtain ⟨hk, hs⟩ := esOf_ok ha
  have hlen := areStreets_len ha
  have hs3 : ∀ e ∈ esOf l, 0 ≤ e.s ∧ e.s ≤ 300 := by
    intro e he
    obtain ⟨x, hx, rfl⟩ := List.mem_map.1 he
    obtain ⟨i, hi, rfl⟩ := List.getElem_of_mem hx
    have := areStreets_at ha i hi
    dsimp only; omega
  have h9 : ∀ m, (rounds (esOf l) m (start c)).length = 9 := fun m => by rw [rounds_length]; simp [start]
  intro j
  induction j with
  | zero =>
    intro m hm hb
    obtain rfl : m = 7 := by omega
    refine Ev.succ ?_
    simp only [spec_l20Times.l1, if_true]
    refine l20_l2 l ha _ l.length 0 _ false (4800 * 7) (by omega) (h9 7) (fun u => by have := hb u; omega) (by omega) ?_
    rw [List.drop_zero, runC_fix _ _ (h9 7) hk hs (settled _ c hc hk hs), runC_fst]
    refine Ev.succ ?_
    simp only [spec_l20Times.l1, Bool.false_eq_true, if_false]
    exact evq (Ev.now _) (roundL_fix _ _ (settled _ c hc hk hs))
  | succ j ih =>
    intro m hm hb
    refine Ev.succ ?_
    simp only [spec_l20Times.l1, if_true]
    refine l20_l2 l ha _ l.length 0 _ false (4800 * (m : Int)) (by omega) (h9 m) hb (by omega) ?_
    rw [List.drop_zero, runC_fst]
    cases hf : (runC (esOf l) (rounds (esOf l) m (start c), false)).2
    · refine Ev.succ ?_
      simp only [spec_l20Times.l1, Bool.false_eq_true, if_false]
      refine evq (Ev.now _) ?_
      rw [runC_false _ _ hf]
      exact stops _ c m (by omega) hf
    · have e : roundL (esOf l) (rounds (esOf l) m (start c)) = rounds (esOf l) (m + 1) (start c) := by rw [rounds_add]; rfl
      show Ev (fun k => spec_l20Times.l1 k l (roundL (esOf l) (rounds (esOf l) m (start c))) true) _
      rw [e]
      refine ih (m + 1) (by omega) (fun u => ?_)
      rw [← e]
      have := roundL_bd (esOf l) hk hs3 _ _ (h9 m) hb u
      have hel : (esOf l).length = l.length := by simp [esOf]
      rw [hel] at this
      omega
theorem spec_l20Times_eq (l : List S47) (ha : areStreets l = true) (c : Int) (hc : 1 ≤ c ∧ c ≤ 8) : Ev (fun k => spec_l20Times.f k l c) (rounds (esOf l) 7 (start c)) := by
  unfold spec_l20Times.f
  have h1 := l20_l1 l ha c hc 7 0 rfl (fun u => by
    show rd (start c) u ≤ _
    unfold start
    rw [rd_set _ _ _ _ hc.1 (by simp; omega)]
    split
    · omega
    · unfold rd
      rw [List.getD_eq_getElem?_getD, List.getElem?_replicate]
      split <;> simp)
  have key : ∀ (n i : Nat), i + n = 9 → Ev (fun k => spec_l20Times.l0 k l c (List.replicate i (-1)) (i : Int)) (rounds (esOf l) 7 (start c)) := by
    intro n
    induction n with
    | zero =>
      intro i hi
      obtain rfl : i = 9 := by omega
      refine Ev.succ ?_
      simp only [spec_l20Times.l0, show ¬ (((9 : Nat) : Int) ≤ 8) by omega, if_false, show (0 : Int) ≤ c by omega, List.length_replicate, show c < ((9 : Nat) : Int) by omega, if_true]
      exact h1
    | succ n ih =>
      intro i hi
      refine Ev.succ ?_
      have := ih (i + 1) (by omega)
      simp only [spec_l20Times.l0, show (i : Int) ≤ 8 by omega, if_true, List.length_replicate, show i < 17592186044416 by omega, wrap_id (n := (i : Int) + 1) (by omega) (by omega)]
      rw [List.replicate_succ'] at this
      exact this
  exact key 9 0 rfl
def travel (l : List S47) (a b : Int) : Int := if areStreets l && decide (1 ≤ a ∧ a ≤ 8) && decide (1 ≤ b ∧ b ≤ 8) then rd (rounds (esOf l) 7 (start a)) b else -1
theorem spec_Travel_eq (l : List S47) (a b : Int) (hl : l.length ≤ 1048576) : Ev (fun k => spec_Travel.f k l a b) (travel l a b) := by
  unfold spec_Travel.f travel
  refine Ev.bind (spec_AreStreets_eq l hl) ?_
  cases ha : areStreets l
  · simp only [Bool.false_eq_true, if_false, Bool.false_and]; exact Ev.now _
  simp only [if_true, Bool.true_and, spec_l1In_eq, Option.bind_some]
  by_cases h1 : 1 ≤ a ∧ a ≤ 8
  · rw [decide_eq_true h1]
    simp only [if_true, Bool.true_and]
    by_cases h2 : 1 ≤ b ∧ b ≤ 8
    · rw [decide_eq_true h2]
      simp only [if_true]
      refine Ev.bind (spec_l20Times_eq l ha a h1) ?_
      have : (rounds (esOf l) 7 (start a)).length = 9 := by rw [rounds_length]; simp [start]
      simp only [show (0 : Int) ≤ b by omega, this, show b < ((9 : Nat) : Int) by omega, if_true]
      exact Ev.now _
    · rw [decide_eq_false h2]
      simp only [Bool.false_eq_true, if_false]; exact Ev.now _
  · rw [decide_eq_false h1]
    simp only [Bool.false_eq_true, if_false, Bool.false_and]; exact Ev.now _
theorem tr_l2 (l : List S47) (ha : areStreets l = true) (b j : Int) (r : Int) : ∀ (n i : Nat) (d : List Int) (M : Int), i + n = l.length → d.length = 9 → (∀ u, rd d u ≤ M) → M + 300 * (n : Int) ≤ 1000000 → Ev (fun k => impl_Travel.l1 k l b (roundL (esOf (l.drop i)) d) (wrap64 (j + 1))) r → Ev (fun k => impl_Travel.l2 k l b d j l (l.length : Int) (i : Int)) r := by
  intro n
  induction n with
  | zero =>
    intro i d M hi hl hd hM hr
    refine Ev.succ ?_
    simp only [impl_Travel.l2, show ¬ (i : Int) < (l.length : Int) by omega, if_false]
    rw [List.drop_eq_nil_of_le (show l.length ≤ i by omega)] at hr
    exact hr
  | succ n ih =>
    intro i d M hi hl hd hM hr
    refine Ev.succ ?_
    have hi2 : i < l.length := by omega
    have ht := areStreets_at ha i hi2
    have hlen := areStreets_len ha
    have h1 := hd l[i].f0
    have hbd := relL_bd d ⟨l[i].f0, l[i].f1, l[i].f2⟩ M hl (by dsimp only; omega) (by dsimp only; omega) hd
    rw [List.drop_eq_getElem_cons hi2] at hr
    have hr' : Ev (fun k => impl_Travel.l1 k l b (roundL (esOf (l.drop (i + 1))) (relL d ⟨l[i].f0, l[i].f1, l[i].f2⟩)) (wrap64 (j + 1))) r := hr
    have next := ih (i + 1) (relL d ⟨l[i].f0, l[i].f1, l[i].f2⟩) (M + 300) (by omega) (by rw [relL_length]; exact hl) hbd (by omega) hr'
    rw [show ((i + 1 : Nat) : Int) = (i : Int) + 1 by omega] at next
    simp only [impl_Travel.l2, show (i : Int) < (l.length : Int) by omega, show (0 : Int) ≤ (i : Int) by omega, if_true, rdT_Street _ _ hi2, show (0 : Int) ≤ l[i].f0 by omega, show l[i].f0 < (d.length : Int) by omega, show (0 : Int) ≤ l[i].f1 by omega, show l[i].f1 < (d.length : Int) by omega, wrap_id (n := (i : Int) + 1) (by omega) (by omega)]
    unfold relL at next
    dsimp only at next
    by_cases c1 : rd d l[i].f0 < 0
    · rw [if_pos c1] at next
      simp only [show ¬ rd d l[i].f0 ≥ 0 by omega, if_false]
      exact next
    · have hw : wrap64 (rd d l[i].f0 + l[i].f2) = rd d l[i].f0 + l[i].f2 := wrap_id (by omega) (by omega)
      rw [if_neg c1] at next
      simp only [show rd d l[i].f0 ≥ 0 by omega, if_true, hw]
      by_cases c2 : rd d l[i].f1 < 0
      · rw [if_pos (Or.inl c2)] at next
        simp only [c2, if_true]
        exact next
      · simp only [c2, if_false]
        by_cases c3 : rd d l[i].f0 + l[i].f2 < rd d l[i].f1
        · rw [if_pos (Or.inr c3)] at next
          simp only [c3, if_true]
          exact next
        · rw [if_neg (by omega)] at next
          simp only [c3, if_false]
          exact next
theorem tr_l1 (l : List S47) (ha : areStreets l = true) (c b : Int) (hc : 1 ≤ c ∧ c ≤ 8) (hb : 1 ≤ b ∧ b ≤ 8) : ∀ (j m : Nat), m + j = 8 → (∀ u, rd (rounds (esOf l) m (start c)) u ≤ 4800 * (m : Int)) → Ev (fun k => impl_Travel.l1 k l b (rounds (esOf l) m (start c)) (m : Int)) (rd (rounds (esOf l) 8 (start c)) b) := by
  obtain ⟨hk, hs⟩ := esOf_ok ha
  have hlen := areStreets_len ha
  have hs3 : ∀ e ∈ esOf l, 0 ≤ e.s ∧ e.s ≤ 300 := by
    intro e he
    obtain ⟨x, hx, rfl⟩ := List.mem_map.1 he
    obtain ⟨i, hi, rfl⟩ := List.getElem_of_mem hx
    have := areStreets_at ha i hi
    dsimp only; omega
  have h9 : ∀ m, (rounds (esOf l) m (start c)).length = 9 := fun m => by rw [rounds_length]; simp [start]
  intro j
  induction j with
  | zero =>
    intro m hm hbd
    obtain rfl : m = 8 := by omega
    refine Ev.succ ?_
    have := h9 8
    simp only [impl_Travel.l1, show ¬ (((8 : Nat) : Int) < 8) by omega, if_false, show (0 : Int) ≤ b by omega, if_true, this, show b < ((9 : Nat) : Int) by omega]
    exact Ev.now _
  | succ j ih =>
    intro m hm hbd
    refine Ev.succ ?_
    simp only [impl_Travel.l1, show (m : Int) < 8 by omega, if_true]
    refine tr_l2 l ha b _ _ l.length 0 _ (4800 * (m : Int)) (by omega) (h9 m) hbd (by omega) ?_
    rw [List.drop_zero]
    have e : roundL (esOf l) (rounds (esOf l) m (start c)) = rounds (esOf l) (m + 1) (start c) := by rw [rounds_add]; rfl
    rw [e, wrap_id (by omega) (by omega), show (m : Int) + 1 = ((m + 1 : Nat) : Int) by omega]
    refine ih (m + 1) (by omega) (fun u => ?_)
    rw [← e]
    have := roundL_bd (esOf l) hk hs3 _ _ (h9 m) hbd u
    have hel : (esOf l).length = l.length := by simp [esOf]
    rw [hel] at this
    omega
theorem tr_l0 (l : List S47) (ha : areStreets l = true) (c b : Int) (hc : 1 ≤ c ∧ c ≤ 8) (hb : 1 ≤ b ∧ b ≤ 8) : ∀ (n i : Nat), i + n = 9 → Ev (fun k => impl_Travel.l0 k l c b (List.replicate i (-1) ++ List.replicate n 0) (i : Int)) (rd (rounds (esOf l) 8 (start c)) b) := by
  intro n
  induction n with
  | zero =>
    intro i hi
    obtain rfl : i = 9 := by omega
    refine Ev.succ ?_
    have h1 := tr_l1 l ha c b hc hb 8 0 rfl (fun u => by
      show rd (start c) u ≤ _
      unfold start
      rw [rd_set _ _ _ _ hc.1 (by simp; omega)]
      split
      · omega
      · unfold rd
        rw [List.getD_eq_getElem?_getD, List.getElem?_replicate]
        split <;> simp)
    simp only [impl_Travel.l0, show ¬ (((9 : Nat) : Int) < 9) by omega, if_false, show (0 : Int) ≤ c by omega, if_true, List.replicate_zero, List.append_nil, List.length_replicate, show c < ((9 : Nat) : Int) by omega]
    exact h1
  | succ n ih =>
    intro i hi
    refine Ev.succ ?_
    have := ih (i + 1) (by omega)
    have hset : (List.replicate i (-1 : Int) ++ List.replicate (n + 1) 0).set i (-1) = List.replicate (i + 1) (-1) ++ List.replicate n 0 := by
      rw [List.set_append, if_neg (by simp), List.length_replicate, Nat.sub_self, List.replicate_succ (n := n), List.set_cons_zero, List.replicate_succ', List.append_assoc, List.singleton_append]
    simp only [impl_Travel.l0, show (i : Int) < 9 by omega, if_true, show (0 : Int) ≤ (i : Int) by omega, List.length_append, List.length_replicate, show (i : Int) < ((i + (n + 1) : Nat) : Int) by omega, Int.toNat_natCast, hset, wrap_id (n := (i : Int) + 1) (by omega) (by omega)]
    rw [show ((i + 1 : Nat) : Int) = (i : Int) + 1 by omega] at this
    exact this
theorem impl_Travel_eq (l : List S47) (a b : Int) (hl : l.length ≤ 1048576) : Ev (fun k => impl_Travel.f k l a b) (travel l a b) := by
  unfold impl_Travel.f travel
  have hj : ∀ r : Int, r = -1 → Ev (fun k => impl_Travel.j0 k l a b true) r := by
    rintro r rfl
    refine Ev.succ ?_
    simp only [impl_Travel.j0, if_true]; exact Ev.now _
  refine Ev.bind (impl_AreStreets_eq l hl) ?_
  cases ha : areStreets l
  · simp only [Bool.false_eq_true, if_false, Bool.false_and]; exact hj _ rfl
  simp only [if_true, Bool.true_and, impl_isCrossing_eq, Option.bind_some]
  by_cases h1 : 1 ≤ a ∧ a ≤ 8
  · rw [decide_eq_true h1]
    simp only [if_true, Bool.true_and]
    by_cases h2 : 1 ≤ b ∧ b ≤ 8
    · rw [decide_eq_true h2]
      simp only [if_true]
      obtain ⟨hk, hs⟩ := esOf_ok ha
      have := tr_l0 l ha a b h1 h2 9 0 rfl
      rw [rounds8 (esOf l) a h1 hk hs] at this
      refine Ev.succ ?_
      simp only [impl_Travel.j0, Bool.not_true, Bool.false_eq_true, if_false, show (9 : Int) ≤ 35184372088832 by omega, if_true]
      exact this
    · rw [decide_eq_false h2]
      simp only [Bool.false_eq_true, if_false]; exact hj _ rfl
  · rw [decide_eq_false h1]
    simp only [Bool.false_eq_true, if_false, Bool.false_and]; exact hj _ rfl
theorem relL_lo (d : List Int) (e : BF.E) (hl : d.length = 9) (hb : 1 ≤ e.b ∧ e.b ≤ 8) (hs : 0 ≤ e.s) (h : ∀ u, -1 ≤ rd d u) : ∀ u, -1 ≤ rd (relL d e) u := by
  intro u
  have hu := h u
  unfold relL
  split
  · exact hu
  · split
    · rw [rd_set _ _ _ _ hb.1 (by omega)]
      split <;> omega
    · exact hu
theorem roundL_lo : ∀ (es : List BF.E), Ok es → (∀ e ∈ es, 0 ≤ e.s) → ∀ (d : List Int), d.length = 9 → (∀ u, -1 ≤ rd d u) → ∀ u, -1 ≤ rd (roundL es d) u
  | [], _, _, _, _, h => h
  | e :: es, hk, hs, d, hl, h => roundL_lo es (fun x hx => hk x (List.mem_cons_of_mem _ hx)) (fun x hx => hs x (List.mem_cons_of_mem _ hx)) (relL d e) (by rw [relL_length]; exact hl) (relL_lo d e hl (hk e List.mem_cons_self).2 (hs e List.mem_cons_self) h)
theorem rounds_lo (es : List BF.E) (hk : Ok es) (hs : ∀ e ∈ es, 0 ≤ e.s) : ∀ (n : Nat) (d : List Int), d.length = 9 → (∀ u, -1 ≤ rd d u) → ∀ u, -1 ≤ rd (rounds es n d) u
  | 0, _, _, h => h
  | n + 1, d, hl, h => rounds_lo es hk hs n (roundL es d) (by rw [roundL_length]; exact hl) (roundL_lo es hk hs d hl h)
theorem start_lo (c u : Int) (hc : 1 ≤ c ∧ c ≤ 8) : -1 ≤ rd (start c) u := by
  unfold start
  rw [rd_set _ _ _ _ hc.1 (by simp; omega)]
  split
  · omega
  · unfold rd
    rw [List.getD_eq_getElem?_getD, List.getElem?_replicate]
    split <;> simp
theorem travel_lo (l : List S47) (a b : Int) : -1 ≤ travel l a b := by
  unfold travel
  split
  · rename_i h
    simp only [Bool.and_eq_true, decide_eq_true_eq] at h
    obtain ⟨hk, hs⟩ := esOf_ok h.1.1
    exact rounds_lo _ hk hs 7 _ (by simp [start]) (fun u => start_lo a u h.1.2) b
  · omega
def reach (l : List S47) (a s : Int) : Nat → Nat → List Int
  | 0, _ => []
  | n + 1, i => if 0 ≤ travel l a (i : Int) ∧ travel l a (i : Int) ≤ s then (i : Int) :: reach l a s n (i + 1) else reach l a s n (i + 1)
theorem reach_len (l : List S47) (a s : Int) : ∀ n i, (reach l a s n i).length ≤ n
  | 0, _ => Nat.le_refl _
  | n + 1, i => by
    have := reach_len l a s n (i + 1)
    unfold reach
    split
    · simp; omega
    · omega
theorem reach_le (l : List S47) (a s : Int) : (reach l a s 8 1).length ≤ 1048576 := Nat.le_trans (reach_len l a s 8 1) (by omega)
theorem spec_ReachedIn_eq (l : List S47) (a s : Int) (hl : l.length ≤ 1048576) : Ev (fun k => spec_ReachedIn.f k l a s) (reach l a s 8 1) := by
  unfold spec_ReachedIn.f
  have key : ∀ (n i : Nat) (acc : List Int), i + n = 9 → acc.length ≤ i → Ev (fun k => spec_ReachedIn.l0 k l a s acc (i : Int)) (acc ++ reach l a s n i) := by
    intro n
    induction n with
    | zero =>
      intro i acc hi ha
      refine Ev.succ ?_
      simp only [spec_ReachedIn.l0, show ¬ (i : Int) ≤ 8 by omega, if_false]
      exact evq (Ev.now _) (by simp [reach])
    | succ n ih =>
      intro i acc hi ha
      refine Ev.succ ?_
      simp only [spec_ReachedIn.l0, show (i : Int) ≤ 8 by omega, if_true, wrap_id (n := (i : Int) + 1) (by omega) (by omega)]
      refine Ev.bind (spec_Travel_eq l a i hl) ?_
      have h1 := ih (i + 1) acc (by omega) (by omega)
      have h2 := ih (i + 1) (acc ++ [(i : Int)]) (by omega) (by simp; omega)
      rw [show ((i + 1 : Nat) : Int) = (i : Int) + 1 by omega] at h1 h2
      unfold reach
      by_cases c1 : travel l a (i : Int) ≥ 0
      · simp only [c1, if_true]
        by_cases c2 : travel l a (i : Int) ≤ s
        · simp only [c2, if_true, show acc.length < 17592186044416 by omega]
          rw [if_pos (by first | exact ⟨trivial, trivial⟩ | exact ⟨c1, c2⟩)]
          rw [List.append_assoc, List.singleton_append] at h2
          exact h2
        · simp only [c2, if_false]
          rw [if_neg (by simp)]
          exact h1
      · simp only [c1, if_false]
        rw [if_neg (by first | omega | simp)]
        exact h1
  exact key 8 1 [] rfl (by simp)
theorem impl_ReachedIn_eq (l : List S47) (a s : Int) (hl : l.length ≤ 1048576) : Ev (fun k => impl_ReachedIn.f k l a s) (reach l a s 8 1) := by
  unfold impl_ReachedIn.f
  have key : ∀ (n i : Nat) (acc : List Int), i + n = 9 → acc.length ≤ i → Ev (fun k => impl_ReachedIn.l0 k l a s acc (i : Int)) (acc ++ reach l a s n i) := by
    intro n
    induction n with
    | zero =>
      intro i acc hi ha
      refine Ev.succ ?_
      simp only [impl_ReachedIn.l0, show ¬ (i : Int) ≤ 8 by omega, if_false]
      exact evq (Ev.now _) (by simp [reach])
    | succ n ih =>
      intro i acc hi ha
      refine Ev.succ ?_
      simp only [impl_ReachedIn.l0, show (i : Int) ≤ 8 by omega, if_true, wrap_id (n := (i : Int) + 1) (by omega) (by omega)]
      refine Ev.bind (impl_Travel_eq l a i hl) ?_
      have h1 := ih (i + 1) acc (by omega) (by omega)
      have h2 := ih (i + 1) (acc ++ [(i : Int)]) (by omega) (by simp; omega)
      have hlo := travel_lo l a (i : Int)
      rw [show ((i + 1 : Nat) : Int) = (i : Int) + 1 by omega] at h1 h2
      unfold reach
      by_cases c1 : travel l a (i : Int) = -1
      · simp only [c1, if_true]
        rw [if_neg (by omega)]
        exact h1
      · simp only [c1, if_false]
        by_cases c2 : travel l a (i : Int) ≤ s
        · simp only [c2, if_true, show acc.length < 17592186044416 by omega]
          rw [if_pos ⟨by omega, trivial⟩]
          rw [List.append_assoc, List.singleton_append] at h2
          exact h2
        · simp only [c2, if_false]
          rw [if_neg (by simp)]
          exact h1
  exact key 8 1 [] rfl (by simp)
theorem holds : ∀ (l0 : List S79) (a1 : Int) (a2 : Int), l0.length ≤ maxLen → (∀ x ∈ l0, wf79 x) → (Lit.int .i64 a1).wf = true → (Lit.int .i64 a2).wf = true → ∃ k, laws_FnExactReachedIn.f k l0 a1 a2 = some true := by
  intros
  apply Ev.rounds
  unfold laws_FnExactReachedIn.f
  repeat (first
    | exact Ev.now _
    | dsimp only
    | (refine Ev.ifp ?_ ?_; focus (first | rfl | omega | (simp; done)))
    | (refine Ev.ifn ?_ ?_; focus (first | omega | (simp; done)))
    | refine Ev.bind (laws_eqIntS_self _ (by first | omega | (simp only [List.length_map, markInts_length]; omega) | (exact Nat.le_trans (reach_len _ _ _ _ _) (by omega)) | (simp; omega))) ?_
    | refine Ev.bindE (laws_eqStreet_self ..) ?_
    | refine Ev.bind (laws_eqStreetS_self _ (by first | omega | (simp only [List.length_map, markInts_length]; omega) | (exact Nat.le_trans (reach_len _ _ _ _ _) (by omega)) | (simp; omega))) ?_
    | refine Ev.bind (laws_heldIntS_eq _ _ (by first | omega | (simp only [List.length_map, markInts_length]; omega) | (exact Nat.le_trans (reach_len _ _ _ _ _) (by omega)) | (simp; omega)) (by omega) (by first | omega | (simp only [List.length_map, markInts_length]; omega) | (exact Nat.le_trans (reach_len _ _ _ _ _) (by omega)) | (simp; omega))) ?_
    | refine Ev.bind (laws_markIntS_eq _ _ (by first | omega | (simp only [List.length_map, markInts_length]; omega) | (exact Nat.le_trans (reach_len _ _ _ _ _) (by omega)) | (simp; omega)) (by omega) (by first | omega | (simp only [List.length_map, markInts_length]; omega) | (exact Nat.le_trans (reach_len _ _ _ _ _) (by omega)) | (simp; omega))) ?_
    | refine Ev.bind (laws_markStreetS_eq _ _ (by first | omega | (simp only [List.length_map, markInts_length]; omega) | (exact Nat.le_trans (reach_len _ _ _ _ _) (by omega)) | (simp; omega)) (by omega) (by first | omega | (simp only [List.length_map, markInts_length]; omega) | (exact Nat.le_trans (reach_len _ _ _ _ _) (by omega)) | (simp; omega))) ?_
    | refine Ev.szb (laws_szStreetS_eq _ _ (by assumption) (by omega) (by omega)) (fun _ => ?_) (fun _ => ?_)
    | refine Ev.bindE (laws_toStreet_eq ..) ?_
    | refine Ev.bind (laws_toStreetS_eq _ (by first | omega | (simp only [List.length_map, markInts_length]; omega) | (exact Nat.le_trans (reach_len _ _ _ _ _) (by omega)) | (simp; omega))) ?_
    | refine Ev.bind (spec_ReachedIn_eq _ _ _ (by first | omega | (simp only [List.length_map, markInts_length]; omega) | (exact Nat.le_trans (reach_len _ _ _ _ _) (by omega)) | (simp; omega))) ?_
    | refine Ev.bind (impl_ReachedIn_eq _ _ _ (by first | omega | (simp only [List.length_map, markInts_length]; omega) | (exact Nat.le_trans (reach_len _ _ _ _ _) (by omega)) | (simp; omega))) ?_
    | (refine Ev.succ (g := fun k => laws_FnExactReachedIn.j0 k _ _ _ _ _ _) ?_; simp only [laws_FnExactReachedIn.j0])
    | (refine Ev.ifd (fun _ => by exact Ev.now _) (fun _ => ?_)))
end Go.Proofs.Ytdaofiiedclmpaa.Pure.FnExactReachedIn
