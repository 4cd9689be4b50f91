/- The law FnExactAreStreets of the given program, as a statement over numbers and lists alone, for all arguments; no conditions but the machine's own bounds. -/
import Derived.Test.YtdaofiiedclmpaaPFnExactAreStreetsx
import Derived.Test.YtdaofiiedclmpaaBase
namespace Go.Proofs.Ytdaofiiedclmpaa.Pure.FnExactAreStreets
open Go.RowKit Go.Proofs.Ytdaofiiedclmpaa.PFnExactAreStreets Go.Proofs.YtdaofiiedclmpaaW.PrintWords Go.Proofs.YtdaofiiedclmpaaW.PrintLast Go.Proofs.Ytdaofiiedclmpaa.Bas
set_option linter.unusedVariables false
set_option linter.unusedSimpArgs false
def wf79 (x : S79) : Prop := (Lit.int .i64 x.f0).wf = true ∧ (Lit.int .i64 x.f1).wf = true ∧ (Lit.int .i64 x.f2).wf = true
theorem spec_l1In_eq (a lo hi : Int) : spec_l1In.f a lo hi = some (decide (lo ≤ a ∧ a ≤ hi)) := by
  unfold spec_l1In.f; grind
theorem impl_InRange_eq (a lo hi : Int) : impl_InRange.f a lo hi = some (decide (lo ≤ a ∧ a ≤ hi)) := by
  unfold impl_InRange.f; grind
theorem impl_isCrossing_eq (a : Int) : impl_isCrossing.f a = some (decide (1 ≤ a ∧ a ≤ 8)) := by
  unfold impl_isCrossing.f; rw [impl_InRange_eq]; rfl
theorem rdT_lawsStreet (xs : List S79) (i : Nat) (h : i < xs.length) : rd_T79 xs (i : Int) = xs[i] := by simp [rd_T79, h]
theorem rdT_Street (xs : List S47) (i : Nat) (h : i < xs.length) : rd_T47 xs (i : Int) = xs[i] := by simp [rd_T47, h]
theorem laws_toStreet_eq (a0 : Int) (a1 : Int) (a2 : Int) : laws_toStreet.f a0 a1 a2 = some (a0, a1, a2) := rfl
theorem laws_eqStreet_self (a0 : Int) (a1 : Int) (a2 : Int) : laws_eqStreet.f a0 a1 a2 a0 a1 a2 = some true := by unfold laws_eqStreet.f; simp
theorem laws_szStreetS_eq (l : List S79) (a : Int) (hl : l.length ≤ maxLen) (h0 : 0 ≤ a) (h1 : a ≤ 1048576) : laws_szStreetS.f l a = some (if (l.length : Int) ≤ a then a - l.length else -1) := by
  unfold maxLen at hl; unfold laws_szStreetS.f; rw [wrap_id (by omega) (by omega)]; grind
def convStreet (x : S79) : S47 := ⟨x.f0, x.f1, x.f2⟩
theorem laws_toStreetS_eq (l : List S79) (hl : l.length ≤ 1048576) : Ev (fun k => laws_toStreetS.f k l) (l.map convStreet) := by
  unfold laws_toStreetS.f
  simp only [show (0 : Int) ≤ l.length by omega, Int.toNat_natCast, show l.length ≤ 11728124029610 by omega, if_true]
  exact Ev.copy (g := fun k ys i => laws_toStreetS.l0 k l ys i) l convStreet z47 (fun i ys r h hy hr => by
    refine Ev.succ ?_
    have h1 : (i : Int) < (l.length : Int) := by omega
    have h2 : (0 : Int) ≤ (i : Int) := by omega
    have h3 : (i : Int) < (ys.length : Int) := by omega
    simp only [laws_toStreetS.l0, h1, h2, h3, if_true, rdT_lawsStreet _ _ h, laws_toStreet_eq, Option.bind_some, Int.toNat_natCast, wrap_id (n := (i : Int) + 1) (by omega) (by omega)]
    exact hr) (fun ys => by
    refine Ev.succ ?_
    simp only [laws_toStreetS.l0, Int.lt_irrefl, if_false]
    exact Ev.now _)
theorem laws_eqStreetS_self (l : List S47) (hl : l.length ≤ 1048576) : Ev (fun k => laws_eqStreetS.f k l l) true := by
  unfold laws_eqStreetS.f
  simp only [if_true]
  have := Ev.all (g := fun k i => laws_eqStreetS.l0 k l l i) l.length (fun _ => true) (fun i r h _ hr => by
    refine Ev.succ ?_
    have h1 : (i : Int) < (l.length : Int) := by omega
    have h2 : (0 : Int) ≤ (i : Int) := by omega
    simp only [laws_eqStreetS.l0, h1, h2, if_true, laws_eqStreet_self, Option.bind_some, wrap_id (n := (i : Int) + 1) (by omega) (by omega)]
    exact hr) (fun i h hf => by simp at hf) (by
    refine Ev.succ ?_
    simp only [laws_eqStreetS.l0, Int.lt_irrefl, if_false]
    exact Ev.now _)
  exact evq this (by rw [List.all_eq_true]; intros; rfl)
def findS (l : List S47) (a b : Int) : Int := Go.Proofs.Ytdaofiiedclmpaa.Hnd.fidx (fun x : S47 => x.f0 == a && x.f1 == b) l 0
theorem findS_lo (l : List S47) (a b : Int) : -1 ≤ findS l a b := fidx_lo _ _
theorem findS_hi (l : List S47) (a b : Int) : findS l a b < l.length := fidx_hi _ _
theorem findS_neg (l : List S47) (a b : Int) : findS l a b < 0 ↔ ∀ x ∈ l, ¬ (x.f0 = a ∧ x.f1 = b) := by
  rcases fidx_cases (fun x : S47 => x.f0 == a && x.f1 == b) l 0 with ⟨h1, h2⟩ | ⟨i, h1, h2, h3, _⟩
  · refine ⟨fun _ x hx => by simpa using h2 x hx, fun _ => by unfold findS; omega⟩
  · refine ⟨fun h => by unfold findS at h; omega, fun h => absurd (show l[i].f0 = a ∧ l[i].f1 = b by simpa using h3) (h _ (List.getElem_mem _))⟩
theorem findS_at {l : List S47} {a b : Int} (h : 0 ≤ findS l a b) : ∃ (i : Nat) (hi : i < l.length), findS l a b = (i : Int) ∧ l[i].f0 = a ∧ l[i].f1 = b := by
  rcases fidx_cases (fun x : S47 => x.f0 == a && x.f1 == b) l 0 with ⟨h1, _⟩ | ⟨i, h1, h2, h3, _⟩
  · unfold findS at h; omega
  · exact ⟨i, h2, by unfold findS; omega, by simpa using h3⟩
def secOf (l : List S47) (a b : Int) : Int := if 0 ≤ findS l a b then (rd_T47 l (findS l a b)).f2 else 0
def cross (n : Int) : Bool := decide (1 ≤ n ∧ n ≤ 8)
def stB (a b c f : Int) : Bool := cross a && cross b && !decide (a = b) && decide (1 ≤ c ∧ c ≤ 300) && decide (f < 0)
def stAt (l : List S47) (i : Nat) : Bool := stB (rd_T47 l (i : Int)).f0 (rd_T47 l (i : Int)).f1 (rd_T47 l (i : Int)).f2 (findS (l.take i) (rd_T47 l (i : Int)).f0 (rd_T47 l (i : Int)).f1)
def areStreets (l : List S47) : Bool := (List.range l.length).all (stAt l) && decide (l.length ≤ 16)
theorem areStreets_len {l : List S47} (h : areStreets l = true) : l.length ≤ 16 := by simp [areStreets] at h; exact h.2
theorem areStreets_at {l : List S47} (h : areStreets l = true) (i : Nat) (hi : i < l.length) : 1 ≤ l[i].f0 ∧ l[i].f0 ≤ 8 ∧ 1 ≤ l[i].f1 ∧ l[i].f1 ≤ 8 ∧ l[i].f0 ≠ l[i].f1 ∧ 1 ≤ l[i].f2 ∧ l[i].f2 ≤ 300 := by
  simp only [areStreets, Bool.and_eq_true, List.all_eq_true, List.mem_range] at h
  have := h.1 i hi
  simp only [stAt, stB, cross, rdT_Street _ _ hi, Bool.and_eq_true, decide_eq_true_eq, Bool.not_eq_true', decide_eq_false_iff_not] at this
  omega
theorem secOf_pos {l : List S47} (h : areStreets l = true) (a b : Int) : (secOf l a b = 0 ↔ findS l a b < 0) ∧ 0 ≤ secOf l a b ∧ secOf l a b ≤ 300 := by
  unfold secOf
  by_cases h0 : 0 ≤ findS l a b
  · obtain ⟨i, hi, he, _⟩ := findS_at h0
    have := areStreets_at h i hi
    rw [if_pos h0, he, rdT_Street _ _ hi]
    omega
  · rw [if_neg h0]; omega
theorem impl_streetOf_eq (l : List S47) (a b : Int) : impl_streetOf.f l a b = some (findS l a b) := rfl
theorem impl_AreStreets_eq (l : List S47) (hl : l.length ≤ 1048576) : Ev (fun k => impl_AreStreets.f k l) (areStreets l) := by
  unfold impl_AreStreets.f areStreets
  by_cases h16 : l.length ≤ 16
  · simp only [show ¬ ((l.length : Int) > 16) by omega, if_false, decide_eq_true h16, Bool.and_true]
    have key : ∀ (d i : Nat), i + d = l.length → Ev (fun k => impl_AreStreets.l0 k l l (l.length : Int) (i : Int)) ((List.range' i d).all (stAt l)) := by
      intro d
      induction d with
      | zero =>
        intro i hi
        refine Ev.succ ?_
        simp only [impl_AreStreets.l0, show ¬ (i : Int) < (l.length : Int) by omega, if_false]
        exact Ev.now _
      | succ d ih =>
        intro i hi
        refine Ev.succ ?_
        have ihh := ih (i + 1) (by omega)
        rw [show ((i + 1 : Nat) : Int) = (i : Int) + 1 by omega] at ihh
        simp only [impl_AreStreets.l0, show (i : Int) < (l.length : Int) by omega, show (0 : Int) ≤ (i : Int) by omega, if_true, impl_isCrossing_eq, impl_InRange_eq, Option.bind_some]
        have hj : ∀ b : Bool, Ev (fun k => impl_AreStreets.j1 k l (i : Int) l (l.length : Int) (i : Int) b (rd_T47 l (i : Int)).f0 (rd_T47 l (i : Int)).f1 (rd_T47 l (i : Int)).f2) (!b && decide (findS (l.take i) (rd_T47 l (i : Int)).f0 (rd_T47 l (i : Int)).f1 < 0) && (List.range' (i + 1) d).all (stAt l)) := by
          intro b
          refine Ev.succ ?_
          cases b
          · simp only [impl_AreStreets.j1, Bool.false_eq_true, if_false, show (0 : Int) ≤ (i : Int) by omega, show (i : Int) ≤ (l.length : Int) by omega, if_true, impl_streetOf_eq, Option.bind_some, Int.toNat_natCast, wrap_id (n := (i : Int) + 1) (by omega) (by omega), Bool.not_false, Bool.true_and]
            by_cases hf : findS (l.take i) (rd_T47 l (i : Int)).f0 (rd_T47 l (i : Int)).f1 < 0
            · simp only [show ¬ findS (l.take i) (rd_T47 l (i : Int)).f0 (rd_T47 l (i : Int)).f1 ≥ 0 by omega, if_false, decide_eq_true hf, Bool.true_and]; exact ihh
            · simp only [show findS (l.take i) (rd_T47 l (i : Int)).f0 (rd_T47 l (i : Int)).f1 ≥ 0 by omega, if_true, decide_eq_false hf, Bool.false_and]; exact Ev.now _
          · simp only [impl_AreStreets.j1, if_true, Bool.not_true, Bool.false_and]; exact Ev.now _
        rw [List.range'_succ, List.all_cons]
        show Ev _ (stB _ _ _ _ && _)
        generalize (rd_T47 l (i : Int)).f0 = a at hj ⊢
        generalize (rd_T47 l (i : Int)).f1 = b at hj ⊢
        generalize (rd_T47 l (i : Int)).f2 = c at hj ⊢
        unfold stB cross
        by_cases h1 : 1 ≤ a ∧ a ≤ 8
        · by_cases h2 : 1 ≤ b ∧ b ≤ 8
          · by_cases h3 : a = b
            · simp only [decide_eq_true h1, decide_eq_true h2, h3, if_true, decide_true, Bool.not_true, Bool.and_false, Bool.false_and]
              rw [h3] at hj
              exact hj true
            · simp only [decide_eq_true h1, decide_eq_true h2, h3, if_true, if_false, decide_false, Bool.not_false, Bool.true_and]
              exact evq (hj _) (by rw [Bool.not_not])
          · simp only [decide_eq_true h1, decide_eq_false h2, if_true, Bool.false_eq_true, if_false, Bool.and_false, Bool.false_and]; exact hj true
        · simp only [decide_eq_false h1, Bool.false_eq_true, if_false, Bool.false_and]; exact hj true
    have := key l.length 0 (by omega)
    rwa [← List.range_eq_range'] at this
  · simp only [show (l.length : Int) > 16 by omega, if_true, decide_eq_false h16, Bool.and_false]; exact Ev.now _
theorem findS_take (l : List S47) (i : Nat) (hi : i ≤ l.length) (a b : Int) : decide (findS (l.take i) a b < 0) = (List.range i).all (fun (j : Nat) => !decide ((rd_T47 l (j : Int)).f0 = a ∧ (rd_T47 l (j : Int)).f1 = b)) := by
  rw [Bool.eq_iff_iff, decide_eq_true_eq, findS_neg, List.all_eq_true]
  constructor
  · intro h j hj
    have hj' := List.mem_range.1 hj
    rw [rdT_Street _ _ (by omega)]
    rw [Bool.not_eq_true', decide_eq_false_iff_not]
    exact h l[j] (List.mem_take_iff_getElem.2 ⟨j, by omega, rfl⟩)
  · intro h x hx
    obtain ⟨j, hj, rfl⟩ := List.mem_take_iff_getElem.1 hx
    have := h j (List.mem_range.2 (by omega))
    rw [rdT_Street _ _ (by omega), Bool.not_eq_true', decide_eq_false_iff_not] at this
    exact this
theorem spec_AreStreets_eq (l : List S47) (hl : l.length ≤ 1048576) : Ev (fun k => spec_AreStreets.f k l) (areStreets l) := by
  unfold spec_AreStreets.f areStreets
  have inner : ∀ (i : Nat) (a b c : Int) (r : Bool), i < l.length → Ev (fun k => spec_AreStreets.l0 k l ((i : Int) + 1)) r → Ev (fun k => spec_AreStreets.l1 k l (i : Int) 0 a b c) (decide (findS (l.take i) a b < 0) && r) := by
    intro i a b c r hi hr
    rw [findS_take l i (by omega)]
    refine evAnd (g := fun k j => spec_AreStreets.l1 k l (i : Int) j a b c) (fun j s h hP hs => ?_) (fun j h hP => ?_) ?_
    · refine Ev.succ ?_
      rw [Bool.not_eq_true', decide_eq_false_iff_not] at hP
      simp only [spec_AreStreets.l1, show (j : Int) < (i : Int) by omega, show (j : Int) < (l.length : Int) by omega, show (0 : Int) ≤ (j : Int) by omega, if_true, wrap_id (n := (j : Int) + 1) (by omega) (by omega)]
      by_cases e1 : (rd_T47 l (j : Int)).f0 = a
      · have e2 : ¬ (rd_T47 l (j : Int)).f1 = b := fun e => hP ⟨e1, e⟩
        simp only [e1, e2, if_true, if_false]; exact hs
      · simp only [e1, if_false]; exact hs
    · refine Ev.succ ?_
      rw [Bool.not_eq_false', decide_eq_true_eq] at hP
      simp only [spec_AreStreets.l1, show (j : Int) < (i : Int) by omega, show (j : Int) < (l.length : Int) by omega, show (0 : Int) ≤ (j : Int) by omega, if_true, hP.1, hP.2]
      exact Ev.now _
    · refine Ev.succ ?_
      simp only [spec_AreStreets.l1, Int.lt_irrefl, if_false, wrap_id (n := (i : Int) + 1) (by omega) (by omega)]
      exact hr
  have key : ∀ (d i : Nat), i + d = l.length → Ev (fun k => spec_AreStreets.l0 k l (i : Int)) ((List.range' i d).all (stAt l) && decide (l.length ≤ 16)) := by
    intro d
    induction d with
    | zero =>
      intro i hi
      refine Ev.succ ?_
      simp only [spec_AreStreets.l0, show ¬ (i : Int) < (l.length : Int) by omega, if_false]
      exact evq (Ev.now _) (by by_cases h : l.length ≤ 16 <;> simp [h] <;> omega)
    | succ d ih =>
      intro i hi
      refine Ev.succ ?_
      have ihh := ih (i + 1) (by omega)
      rw [show ((i + 1 : Nat) : Int) = (i : Int) + 1 by omega] at ihh
      simp only [spec_AreStreets.l0, show (i : Int) < (l.length : Int) by omega, show (0 : Int) ≤ (i : Int) by omega, if_true, spec_l1In_eq, Option.bind_some]
      have hj : ∀ b : Bool, Ev (fun k => spec_AreStreets.j1 k l (i : Int) b (rd_T47 l (i : Int)).f0 (rd_T47 l (i : Int)).f1 (rd_T47 l (i : Int)).f2) (!b && decide (findS (l.take i) (rd_T47 l (i : Int)).f0 (rd_T47 l (i : Int)).f1 < 0) && ((List.range' (i + 1) d).all (stAt l) && decide (l.length ≤ 16))) := by
        intro b
        refine Ev.succ ?_
        cases b
        · simp only [spec_AreStreets.j1, Bool.false_eq_true, if_false, Bool.not_false, Bool.true_and]; exact inner i _ _ _ _ (by omega) ihh
        · simp only [spec_AreStreets.j1, if_true, Bool.not_true, Bool.false_and]; exact Ev.now _
      rw [List.range'_succ, List.all_cons]
      show Ev _ ((stB _ _ _ _ && _) && _)
      generalize (rd_T47 l (i : Int)).f0 = a at hj ⊢
      generalize (rd_T47 l (i : Int)).f1 = b at hj ⊢
      generalize (rd_T47 l (i : Int)).f2 = c at hj ⊢
      unfold stB cross
      by_cases h1 : 1 ≤ a ∧ a ≤ 8
      · by_cases h2 : 1 ≤ b ∧ b ≤ 8
        · by_cases h3 : a = b
          · simp only [decide_eq_true h1, decide_eq_true h2, h3, if_true, decide_true, Bool.not_true, Bool.and_false, Bool.false_and]
            rw [h3] at hj
            exact hj true
          · simp only [decide_eq_true h1, decide_eq_true h2, h3, if_true, if_false, decide_false, Bool.not_false, Bool.true_and]
            exact evq (hj _) (by rw [Bool.not_not]; simp only [Bool.and_assoc])
        · simp only [decide_eq_true h1, decide_eq_false h2, if_true, Bool.false_eq_true, if_false, Bool.and_false, Bool.false_and]; exact hj true
      · simp only [decide_eq_false h1, Bool.false_eq_true, if_false, Bool.false_and]; exact hj true
  have := key l.length 0 (by omega)
  rwa [← List.range_eq_range'] at this
theorem holds : ∀ (l0 : List S79), l0.length ≤ maxLen → (∀ x ∈ l0, wf79 x) → ∃ k, laws_FnExactAreStreets.f k l0 = some true := by
  intros
  apply Ev.rounds
  unfold laws_FnExactAreStreets.f
  repeat (first
    | exact Ev.now _
    | dsimp only
    | (refine Ev.ifp ?_ ?_; focus (first | rfl | omega | (simp; done)))
    | (refine Ev.ifn ?_ ?_; focus (first | omega | (simp; done)))
    | refine Ev.bindE (laws_eqStreet_self ..) ?_
    | refine Ev.bind (laws_eqStreetS_self _ (by first | omega | (simp only [List.length_map, markInts_length]; omega) | (simp; omega))) ?_
    | refine Ev.szb (laws_szStreetS_eq _ _ (by assumption) (by omega) (by omega)) (fun _ => ?_) (fun _ => ?_)
    | refine Ev.bindE (laws_toStreet_eq ..) ?_
    | refine Ev.bind (laws_toStreetS_eq _ (by first | omega | (simp only [List.length_map, markInts_length]; omega) | (simp; omega))) ?_
    | refine Ev.bind (spec_AreStreets_eq _ (by first | omega | (simp only [List.length_map, markInts_length]; omega) | (simp; omega))) ?_
    | refine Ev.bind (impl_AreStreets_eq _ (by first | omega | (simp only [List.length_map, markInts_length]; omega) | (simp; omega))) ?_
    | (refine Ev.ifd (fun _ => by exact Ev.now _) (fun _ => ?_)))
end Go.Proofs.Ytdaofiiedclmpaa.Pure.FnExactAreStreets
