/- The law FnExactChainTravel of the given program, as a statement over numbers and lists alone, for all arguments; no conditions but the machine's own bounds. -/
import Derived.Test.YtdaofiiedclmpaaPFnExactChainTravelx
import Derived.Test.YtdaofiiedclmpaaBase
namespace Go.Proofs.Ytdaofiiedclmpaa.Pure.FnExactChainTravel
open Go.RowKit Go.Proofs.Ytdaofiiedclmpaa.PFnExactChainTravel Go.Proofs.YtdaofiiedclmpaaW.PrintWords Go.Proofs.YtdaofiiedclmpaaW.PrintLast Go.Proofs.Ytdaofiiedclmpaa.Bas
set_option linter.unusedVariables false
set_option linter.unusedSimpArgs false
def wf79 (x : S79) : Prop := (Lit.int .i64 x.f0).wf = true ∧ (Lit.int .i64 x.f1).wf = true ∧ (Lit.int .i64 x.f2).wf = true
theorem spec_l1In_eq (a lo hi : Int) : spec_l1In.f a lo hi = some (decide (lo ≤ a ∧ a ≤ hi)) := by
  unfold spec_l1In.f; grind
theorem impl_InRange_eq (a lo hi : Int) : impl_InRange.f a lo hi = some (decide (lo ≤ a ∧ a ≤ hi)) := by
  unfold impl_InRange.f; grind
theorem impl_isCrossing_eq (a : Int) : impl_isCrossing.f a = some (decide (1 ≤ a ∧ a ≤ 8)) := by
  unfold impl_isCrossing.f; rw [impl_InRange_eq]; rfl
theorem laws_toIntS_eq (l : List Int) (hl : l.length ≤ 1048576) : Ev (fun k => laws_toIntS.f k l) l := by
  unfold laws_toIntS.f
  simp only [show (0 : Int) ≤ l.length by omega, Int.toNat_natCast, show l.length ≤ 35184372088832 by omega, if_true]
  have := Ev.copy (g := fun k ys i => laws_toIntS.l0 k l ys i) l id 0 (fun i ys r h hy hr => by
    refine Ev.succ ?_
    have h1 : (i : Int) < (l.length : Int) := by omega
    have h2 : (0 : Int) ≤ (i : Int) := by omega
    have h3 : (i : Int) < (ys.length : Int) := by omega
    simp only [laws_toIntS.l0, h1, h2, h3, if_true, rd_nat _ _ h, Int.toNat_natCast, wrap_id (n := (i : Int) + 1) (by omega) (by omega)]
    exact hr) (fun ys => by
    refine Ev.succ ?_
    simp only [laws_toIntS.l0, Int.lt_irrefl, if_false]
    exact Ev.now _)
  simpa using this
theorem laws_eqIntS_self (l : List Int) (hl : l.length ≤ 140737488355328) : Ev (fun k => laws_eqIntS.f k l l) true := by
  unfold laws_eqIntS.f
  simp only [if_true]
  have := Ev.all (g := fun k i => laws_eqIntS.l0 k l l i) l.length (fun _ => true) (fun i r h _ hr => by
    refine Ev.succ ?_
    have h1 : (i : Int) < (l.length : Int) := by omega
    have h2 : (0 : Int) ≤ (i : Int) := by omega
    simp only [laws_eqIntS.l0, h1, h2, if_true, wrap_id (n := (i : Int) + 1) (by omega) (by omega)]
    exact hr) (fun i h hf => by simp at hf) (by
    refine Ev.succ ?_
    simp only [laws_eqIntS.l0, Int.lt_irrefl, if_false]
    exact Ev.now _)
  exact evq this (by rw [List.all_eq_true]; intros; rfl)
theorem laws_markIntS_eq (l : List Int) (c : Int) (hl : l.length ≤ 140737488355328) (h0 : 0 ≤ c) (h9 : c ≤ 1000000000000000) : Ev (fun k => laws_markIntS.f k l c) (c + 1 * l.length, markInts l.length c) := by
  unfold laws_markIntS.f
  refine Ev.mark (g := fun k ys c i => laws_markIntS.l0 k ys c i) 1 (fun c => c) l c (fun i ys r h hy hr => ?_) (fun ys c' hy => ?_)
  · refine Ev.succ ?_
    have h1 : (i : Int) < (ys.length : Int) := by omega
    have h2 : (0 : Int) ≤ (i : Int) := by omega
    simp only [laws_markIntS.l0, h1, h2, if_true, Int.toNat_natCast, wrap_id (n := (i : Int) + 1) (by omega) (by omega), wrap_id (n := c + 1 * (i : Int) + 1) (by omega) (by omega)]
    exact hr
  · refine Ev.succ ?_
    simp only [laws_markIntS.l0, hy, Int.lt_irrefl, if_false]
    exact Ev.now _
theorem laws_heldIntS_eq (n : Nat) (c : Int) (hl : n ≤ 140737488355328) (h0 : 0 ≤ c) (h9 : c ≤ 1000000000000000) : Ev (fun k => laws_heldIntS.f k (markInts n c) c) (c + 1 * n) := by
  unfold laws_heldIntS.f
  refine Ev.held (g := fun k c' i => laws_heldIntS.l0 k (markInts n c) c' i) 1 n c (fun i r h hr => ?_) (fun c' => ?_)
  · refine Ev.succ ?_
    have hn := markInts_length n c
    have h1 : (i : Int) < ((markInts n c).length : Int) := by omega
    have h2 : (0 : Int) ≤ (i : Int) := by omega
    have h3 : rd (markInts n c) (i : Int) = c + 1 * (i : Int) := by rw [rd_nat _ _ (by omega)]; simp [markInts]
    simp only [laws_heldIntS.l0, h1, h2, h3, if_true, wrap_id (n := (i : Int) + 1) (by omega) (by omega), wrap_id (n := c + 1 * (i : Int) + 1) (by omega) (by omega)]
    exact hr
  · refine Ev.succ ?_
    simp only [laws_heldIntS.l0, markInts_length, Int.lt_irrefl, if_false]
    exact Ev.now _
theorem rdT_lawsStreet (xs : List S79) (i : Nat) (h : i < xs.length) : rd_T79 xs (i : Int) = xs[i] := by simp [rd_T79, h]
theorem rdT_Street (xs : List S47) (i : Nat) (h : i < xs.length) : rd_T47 xs (i : Int) = xs[i] := by simp [rd_T47, h]
theorem laws_toStreet_eq (a0 : Int) (a1 : Int) (a2 : Int) : laws_toStreet.f a0 a1 a2 = some (a0, a1, a2) := rfl
theorem laws_eqStreet_self (a0 : Int) (a1 : Int) (a2 : Int) : laws_eqStreet.f a0 a1 a2 a0 a1 a2 = some true := by unfold laws_eqStreet.f; simp
theorem laws_szStreetS_eq (l : List S79) (a : Int) (hl : l.length ≤ maxLen) (h0 : 0 ≤ a) (h1 : a ≤ 1048576) : laws_szStreetS.f l a = some (if (l.length : Int) ≤ a then a - l.length else -1) := by
  unfold maxLen at hl; unfold laws_szStreetS.f; rw [wrap_id (by omega) (by omega)]; grind
def convStreet (x : S79) : S47 := ⟨x.f0, x.f1, x.f2⟩
theorem laws_toStreetS_eq (l : List S79) (hl : l.length ≤ 1048576) : Ev (fun k => laws_toStreetS.f k l) (l.map convStreet) := by
  unfold laws_toStreetS.f
  simp only [show (0 : Int) ≤ l.length by omega, Int.toNat_natCast, show l.length ≤ 11728124029610 by omega, if_true]
  exact Ev.copy (g := fun k ys i => laws_toStreetS.l0 k l ys i) l convStreet z47 (fun i ys r h hy hr => by
    refine Ev.succ ?_
    have h1 : (i : Int) < (l.length : Int) := by omega
    have h2 : (0 : Int) ≤ (i : Int) := by omega
    have h3 : (i : Int) < (ys.length : Int) := by omega
    simp only [laws_toStreetS.l0, h1, h2, h3, if_true, rdT_lawsStreet _ _ h, laws_toStreet_eq, Option.bind_some, Int.toNat_natCast, wrap_id (n := (i : Int) + 1) (by omega) (by omega)]
    exact hr) (fun ys => by
    refine Ev.succ ?_
    simp only [laws_toStreetS.l0, Int.lt_irrefl, if_false]
    exact Ev.now _)
theorem laws_eqStreetS_self (l : List S47) (hl : l.length ≤ 1048576) : Ev (fun k => laws_eqStreetS.f k l l) true := by
  unfold laws_eqStreetS.f
  simp only [if_true]
  have := Ev.all (g := fun k i => laws_eqStreetS.l0 k l l i) l.length (fun _ => true) (fun i r h _ hr => by
    refine Ev.succ ?_
    have h1 : (i : Int) < (l.length : Int) := by omega
    have h2 : (0 : Int) ≤ (i : Int) := by omega
    simp only [laws_eqStreetS.l0, h1, h2, if_true, laws_eqStreet_self, Option.bind_some, wrap_id (n := (i : Int) + 1) (by omega) (by omega)]
    exact hr) (fun i h hf => by simp at hf) (by
    refine Ev.succ ?_
    simp only [laws_eqStreetS.l0, Int.lt_irrefl, if_false]
    exact Ev.now _)
  exact evq this (by rw [List.all_eq_true]; intros; rfl)
def mkStreet (c : Int) : S47 := ⟨c, c + 1, c + 2⟩
def marksStreet (n : Nat) (c : Int) : List S47 := (List.range n).map fun (i : Nat) => mkStreet (c + 3 * (i : Int))
theorem marksStreet_length (n : Nat) (c : Int) : (marksStreet n c).length = n := by simp [marksStreet]
theorem laws_markStreetS_eq (l : List S47) (c : Int) (hl : l.length ≤ 1048576) (h0 : 0 ≤ c) (h9 : c ≤ 1000000000000000) : Ev (fun k => laws_markStreetS.f k l c) (c + 3 * l.length, marksStreet l.length c) := by
  unfold laws_markStreetS.f
  refine Ev.mark (g := fun k ys c i => laws_markStreetS.l0 k ys c i) 3 mkStreet l c (fun i ys r h hy hr => ?_) (fun ys c' hy => ?_)
  · refine Ev.succ ?_
    have h1 : (i : Int) < (ys.length : Int) := by omega
    have h2 : (0 : Int) ≤ (i : Int) := by omega
    have h4 : i < ys.length := by omega
    have r0 : ∀ (zs : List S47) (x : S47), i < zs.length → rd_T47 (zs.set i x) (i : Int) = x := fun zs x hz => by rw [rdT_Street _ _ (by simpa using hz)]; simp
    simp only [laws_markStreetS.l0, h1, h2, h4, if_true, Option.bind_some, Int.toNat_natCast, List.set_set, r0, wrap_id (n := (i : Int) + 1) (by omega) (by omega), wrap_id (n := c + 3 * (i : Int) + 1) (by omega) (by omega), wrap_id (n := c + 3 * (i : Int) + 2) (by omega) (by omega), wrap_id (n := c + 3 * (i : Int) + 3) (by omega) (by omega), show c + 3 * (i : Int) + 1 + 1 = c + 3 * (i : Int) + 2 by omega, show c + 3 * (i : Int) + 2 + 1 = c + 3 * (i : Int) + 3 by omega]
    exact hr
  · refine Ev.succ ?_
    simp only [laws_markStreetS.l0, hy, Int.lt_irrefl, if_false]
    exact Ev.now _
theorem spec_l6Has_eq (l : List Int) (x : Int) (hl : l.length ≤ 140737488355328) : Ev (fun k => spec_l6Has.f k l x) (decide (x ∈ l)) := by
  unfold spec_l6Has.f
  have key : ∀ (d i : Nat), i + d = l.length → Ev (fun k => spec_l6Has.l0 k l x (i : Int)) (decide (x ∈ l.drop i)) := by
    intro d
    induction d with
    | zero =>
      intro i hi
      refine Ev.succ ?_
      simp only [spec_l6Has.l0, show ¬ (i : Int) < (l.length : Int) by omega, if_false]
      exact evq (Ev.now _) (by simp [List.drop_eq_nil_of_le (show l.length ≤ i by omega)])
    | succ d ih =>
      intro i hi
      refine Ev.succ ?_
      have ihh := ih (i + 1) (by omega)
      rw [show ((i + 1 : Nat) : Int) = (i : Int) + 1 by omega] at ihh
      simp only [spec_l6Has.l0, show (i : Int) < (l.length : Int) by omega, show (0 : Int) ≤ (i : Int) by omega, if_true, rd_nat _ _ (show i < l.length by omega), wrap_id (n := (i : Int) + 1) (by omega) (by omega)]
      rw [mem_drop _ _ (by omega)]
      by_cases h1 : l[i] = x
      · simp only [h1, if_true, decide_true, Bool.true_or]; exact Ev.now _
      · rw [decide_eq_false (fun h : x = l[i] => h1 h.symm), Bool.false_or]; simp only [h1, if_false]; exact ihh
  simpa using key l.length 0 (by omega)
theorem slices_Contains_eq (l : List Int) (x : Int) (hl : l.length ≤ 140737488355328) : Ev (fun k => slices_Contains_int_int.f k l x) (decide (x ∈ l)) := by
  unfold slices_Contains_int_int.f slices_Index_int_int.f
  have key : ∀ (d i : Nat), i + d = l.length → ∃ n : Int, Ev (fun k => slices_Index_int_int.l0 k l x (l.length : Int) (i : Int)) n ∧ decide (n ≥ 0) = decide (x ∈ l.drop i) := by
    intro d
    induction d with
    | zero =>
      intro i hi
      refine ⟨-1, Ev.succ ?_, by simp [List.drop_eq_nil_of_le (show l.length ≤ i by omega)]⟩
      simp only [slices_Index_int_int.l0, show ¬ (i : Int) < (l.length : Int) by omega, if_false]
      exact Ev.now _
    | succ d ih =>
      intro i hi
      obtain ⟨n, hn, he⟩ := ih (i + 1) (by omega)
      rw [show ((i + 1 : Nat) : Int) = (i : Int) + 1 by omega] at hn
      rw [mem_drop _ _ (by omega)]
      by_cases h1 : x = l[i]
      · refine ⟨(i : Int), Ev.succ ?_, by rw [decide_eq_true h1, Bool.true_or]; simp⟩
        simp only [slices_Index_int_int.l0, show (i : Int) < (l.length : Int) by omega, show (0 : Int) ≤ (i : Int) by omega, if_true, rd_nat _ _ (show i < l.length by omega), if_pos h1]
        exact Ev.now _
      · refine ⟨n, Ev.succ ?_, by rw [he, decide_eq_false h1, Bool.false_or]⟩
        simp only [slices_Index_int_int.l0, show (i : Int) < (l.length : Int) by omega, show (0 : Int) ≤ (i : Int) by omega, if_true, rd_nat _ _ (show i < l.length by omega), if_neg h1, wrap_id (n := (i : Int) + 1) (by omega) (by omega)]
        exact hn
  obtain ⟨n, hn, he⟩ := key l.length 0 (by omega)
  simp only [List.drop_zero] at he
  rw [← he]
  exact Ev.bind (by simpa using hn) (Ev.now _)
def findS (l : List S47) (a b : Int) : Int := Go.Proofs.Ytdaofiiedclmpaa.Hnd.fidx (fun x : S47 => x.f0 == a && x.f1 == b) l 0
theorem findS_lo (l : List S47) (a b : Int) : -1 ≤ findS l a b := fidx_lo _ _
theorem findS_hi (l : List S47) (a b : Int) : findS l a b < l.length := fidx_hi _ _
theorem findS_neg (l : List S47) (a b : Int) : findS l a b < 0 ↔ ∀ x ∈ l, ¬ (x.f0 = a ∧ x.f1 = b) := by
  rcases fidx_cases (fun x : S47 => x.f0 == a && x.f1 == b) l 0 with ⟨h1, h2⟩ | ⟨i, h1, h2, h3, _⟩
  · refine ⟨fun _ x hx => by simpa using h2 x hx, fun _ => by unfold findS; omega⟩
  · refine ⟨fun h => by unfold findS at h; omega, fun h => absurd (show l[i].f0 = a ∧ l[i].f1 = b by simpa using h3) (h _ (List.getElem_mem _))⟩
theorem findS_at {l : List S47} {a b : Int} (h : 0 ≤ findS l a b) : ∃ (i : Nat) (hi : i < l.length), findS l a b = (i : Int) ∧ l[i].f0 = a ∧ l[i].f1 = b := by
  rcases fidx_cases (fun x : S47 => x.f0 == a && x.f1 == b) l 0 with ⟨h1, _⟩ | ⟨i, h1, h2, h3, _⟩
  · unfold findS at h; omega
  · exact ⟨i, h2, by unfold findS; omega, by simpa using h3⟩
def secOf (l : List S47) (a b : Int) : Int := if 0 ≤ findS l a b then (rd_T47 l (findS l a b)).f2 else 0
def cross (n : Int) : Bool := decide (1 ≤ n ∧ n ≤ 8)
def stB (a b c f : Int) : Bool := cross a && cross b && !decide (a = b) && decide (1 ≤ c ∧ c ≤ 300) && decide (f < 0)
def stAt (l : List S47) (i : Nat) : Bool := stB (rd_T47 l (i : Int)).f0 (rd_T47 l (i : Int)).f1 (rd_T47 l (i : Int)).f2 (findS (l.take i) (rd_T47 l (i : Int)).f0 (rd_T47 l (i : Int)).f1)
def areStreets (l : List S47) : Bool := (List.range l.length).all (stAt l) && decide (l.length ≤ 16)
theorem areStreets_len {l : List S47} (h : areStreets l = true) : l.length ≤ 16 := by simp [areStreets] at h; exact h.2
theorem areStreets_at {l : List S47} (h : areStreets l = true) (i : Nat) (hi : i < l.length) : 1 ≤ l[i].f0 ∧ l[i].f0 ≤ 8 ∧ 1 ≤ l[i].f1 ∧ l[i].f1 ≤ 8 ∧ l[i].f0 ≠ l[i].f1 ∧ 1 ≤ l[i].f2 ∧ l[i].f2 ≤ 300 := by
  simp only [areStreets, Bool.and_eq_true, List.all_eq_true, List.mem_range] at h
  have := h.1 i hi
  simp only [stAt, stB, cross, rdT_Street _ _ hi, Bool.and_eq_true, decide_eq_true_eq, Bool.not_eq_true', decide_eq_false_iff_not] at this
  omega
theorem secOf_pos {l : List S47} (h : areStreets l = true) (a b : Int) : (secOf l a b = 0 ↔ findS l a b < 0) ∧ 0 ≤ secOf l a b ∧ secOf l a b ≤ 300 := by
  unfold secOf
  by_cases h0 : 0 ≤ findS l a b
  · obtain ⟨i, hi, he, _⟩ := findS_at h0
    have := areStreets_at h i hi
    rw [if_pos h0, he, rdT_Street _ _ hi]
    omega
  · rw [if_neg h0]; omega
theorem impl_streetOf_eq (l : List S47) (a b : Int) : impl_streetOf.f l a b = some (findS l a b) := rfl
theorem impl_AreStreets_eq (l : List S47) (hl : l.length ≤ 1048576) : Ev (fun k => impl_AreStreets.f k l) (areStreets l) := by
  unfold impl_AreStreets.f areStreets
  by_cases h16 : l.length ≤ 16
  · simp only [show ¬ ((l.length : Int) > 16) by omega, if_false, decide_eq_true h16, Bool.and_true]
    have key : ∀ (d i : Nat), i + d = l.length → Ev (fun k => impl_AreStreets.l0 k l l (l.length : Int) (i : Int)) ((List.range' i d).all (stAt l)) := by
      intro d
      induction d with
      | zero =>
        intro i hi
        refine Ev.succ ?_
        simp only [impl_AreStreets.l0, show ¬ (i : Int) < (l.length : Int) by omega, if_false]
        exact Ev.now _
      | succ d ih =>
        intro i hi
        refine Ev.succ ?_
        have ihh := ih (i + 1) (by omega)
        rw [show ((i + 1 : Nat) : Int) = (i : Int) + 1 by omega] at ihh
        simp only [impl_AreStreets.l0, show (i : Int) < (l.length : Int) by omega, show (0 : Int) ≤ (i : Int) by omega, if_true, impl_isCrossing_eq, impl_InRange_eq, Option.bind_some]
        have hj : ∀ b : Bool, Ev (fun k => impl_AreStreets.j1 k l (i : Int) l (l.length : Int) (i : Int) b (rd_T47 l (i : Int)).f0 (rd_T47 l (i : Int)).f1 (rd_T47 l (i : Int)).f2) (!b && decide (findS (l.take i) (rd_T47 l (i : Int)).f0 (rd_T47 l (i : Int)).f1 < 0) && (List.range' (i + 1) d).all (stAt l)) := by
          intro b
          refine Ev.succ ?_
          cases b
          · simp only [impl_AreStreets.j1, Bool.false_eq_true, if_false, show (0 : Int) ≤ (i : Int) by omega, show (i : Int) ≤ (l.length : Int) by omega, if_true, impl_streetOf_eq, Option.bind_some, Int.toNat_natCast, wrap_id (n := (i : Int) + 1) (by omega) (by omega), Bool.not_false, Bool.true_and]
            by_cases hf : findS (l.take i) (rd_T47 l (i : Int)).f0 (rd_T47 l (i : Int)).f1 < 0
            · simp only [show ¬ findS (l.take i) (rd_T47 l (i : Int)).f0 (rd_T47 l (i : Int)).f1 ≥ 0 by omega, if_false, decide_eq_true hf, Bool.true_and]; exact ihh
            · simp only [show findS (l.take i) (rd_T47 l (i : Int)).f0 (rd_T47 l (i : Int)).f1 ≥ 0 by omega, if_true, decide_eq_false hf, Bool.false_and]; exact Ev.now _
          · simp only [impl_AreStreets.j1, if_true, Bool.not_true, Bool.false_and]; exact Ev.now _
        rw [List.range'_succ, List.all_cons]
        show Ev _ (stB _ _ _ _ && _)
        generalize (rd_T47 l (i : Int)).f0 = a at hj ⊢
        generalize (rd_T47 l (i : Int)).f1 = b at hj ⊢
        generalize (rd_T47 l (i : Int)).f2 = c at hj ⊢
        unfold stB cross
        by_cases h1 : 1 ≤ a ∧ a ≤ 8
        · by_cases h2 : 1 ≤ b ∧ b ≤ 8
          · by_cases h3 : a = b
            · simp only [decide_eq_true h1, decide_eq_true h2, h3, if_true, decide_true, Bool.not_true, Bool.and_false, Bool.false_and]
              rw [h3] at hj
              exact hj true
            · simp only [decide_eq_true h1, decide_eq_true h2, h3, if_true, if_false, decide_false, Bool.not_false, Bool.true_and]
              exact evq (hj _) (by rw [Bool.not_not])
          · simp only [decide_eq_true h1, decide_eq_false h2, if_true, Bool.false_eq_true, if_false, Bool.and_false, Bool.false_and]; exact hj true
        · simp only [decide_eq_false h1, Bool.false_eq_true, if_false, Bool.false_and]; exact hj true
    have := key l.length 0 (by omega)
    rwa [← List.range_eq_range'] at this
  · simp only [show (l.length : Int) > 16 by omega, if_true, decide_eq_false h16, Bool.and_false]; exact Ev.now _
theorem findS_take (l : List S47) (i : Nat) (hi : i ≤ l.length) (a b : Int) : decide (findS (l.take i) a b < 0) = (List.range i).all (fun (j : Nat) => !decide ((rd_T47 l (j : Int)).f0 = a ∧ (rd_T47 l (j : Int)).f1 = b)) := by
  rw [Bool.eq_iff_iff, decide_eq_true_eq, findS_neg, List.all_eq_true]
  constructor
  · intro h j hj
    have hj' := List.mem_range.1 hj
    rw [rdT_Street _ _ (by omega)]
    rw [Bool.not_eq_true', decide_eq_false_iff_not]
    exact h l[j] (List.mem_take_iff_getElem.2 ⟨j, by omega, rfl⟩)
  · intro h x hx
    obtain ⟨j, hj, rfl⟩ := List.mem_take_iff_getElem.1 hx
    have := h j (List.mem_range.2 (by omega))
    rw [rdT_Street _ _ (by omega), Bool.not_eq_true', decide_eq_false_iff_not] at this
    exact this
theorem spec_AreStreets_eq (l : List S47) (hl : l.length ≤ 1048576) : Ev (fun k => spec_AreStreets.f k l) (areStreets l) := by
  unfold spec_AreStreets.f areStreets
  have inner : ∀ (i : Nat) (a b c : Int) (r : Bool), i < l.length → Ev (fun k => spec_AreStreets.l0 k l ((i : Int) + 1)) r → Ev (fun k => spec_AreStreets.l1 k l (i : Int) 0 a b c) (decide (findS (l.take i) a b < 0) && r) := by
    intro i a b c r hi hr
    rw [findS_take l i (by omega)]
    refine evAnd (g := fun k j => spec_AreStreets.l1 k l (i : Int) j a b c) (fun j s h hP hs => ?_) (fun j h hP => ?_) ?_
    · refine Ev.succ ?_
      rw [Bool.not_eq_true', decide_eq_false_iff_not] at hP
      simp only [spec_AreStreets.l1, show (j : Int) < (i : Int) by omega, show (j : Int) < (l.length : Int) by omega, show (0 : Int) ≤ (j : Int) by omega, if_true, wrap_id (n := (j : Int) + 1) (by omega) (by omega)]
      by_cases e1 : (rd_T47 l (j : Int)).f0 = a
      · have e2 : ¬ (rd_T47 l (j : Int)).f1 = b := fun e => hP ⟨e1, e⟩
        simp only [e1, e2, if_true, if_false]; exact hs
      · simp only [e1, if_false]; exact hs
    · refine Ev.succ ?_
      rw [Bool.not_eq_false', decide_eq_true_eq] at hP
      simp only [spec_AreStreets.l1, show (j : Int) < (i : Int) by omega, show (j : Int) < (l.length : Int) by omega, show (0 : Int) ≤ (j : Int) by omega, if_true, hP.1, hP.2]
      exact Ev.now _
    · refine Ev.succ ?_
      simp only [spec_AreStreets.l1, Int.lt_irrefl, if_false, wrap_id (n := (i : Int) + 1) (by omega) (by omega)]
      exact hr
  have key : ∀ (d i : Nat), i + d = l.length → Ev (fun k => spec_AreStreets.l0 k l (i : Int)) ((List.range' i d).all (stAt l) && decide (l.length ≤ 16)) := by
    intro d
    induction d with
    | zero =>
      intro i hi
      refine Ev.succ ?_
      simp only [spec_AreStreets.l0, show ¬ (i : Int) < (l.length : Int) by omega, if_false]
      exact evq (Ev.now _) (by by_cases h : l.length ≤ 16 <;> simp [h] <;> omega)
    | succ d ih =>
      intro i hi
      refine Ev.succ ?_
      have ihh := ih (i + 1) (by omega)
      rw [show ((i + 1 : Nat) : Int) = (i : Int) + 1 by omega] at ihh
      simp only [spec_AreStreets.l0, show (i : Int) < (l.length : Int) by omega, show (0 : Int) ≤ (i : Int) by omega, if_true, spec_l1In_eq, Option.bind_some]
      have hj : ∀ b : Bool, Ev (fun k => spec_AreStreets.j1 k l (i : Int) b (rd_T47 l (i : Int)).f0 (rd_T47 l (i : Int)).f1 (rd_T47 l (i : Int)).f2) (!b && decide (findS (l.take i) (rd_T47 l (i : Int)).f0 (rd_T47 l (i : Int)).f1 < 0) && ((List.range' (i + 1) d).all (stAt l) && decide (l.length ≤ 16))) := by
        intro b
        refine Ev.succ ?_
        cases b
        · simp only [spec_AreStreets.j1, Bool.false_eq_true, if_false, Bool.not_false, Bool.true_and]; exact inner i _ _ _ _ (by omega) ihh
        · simp only [spec_AreStreets.j1, if_true, Bool.not_true, Bool.false_and]; exact Ev.now _
      rw [List.range'_succ, List.all_cons]
      show Ev _ ((stB _ _ _ _ && _) && _)
      generalize (rd_T47 l (i : Int)).f0 = a at hj ⊢
      generalize (rd_T47 l (i : Int)).f1 = b at hj ⊢
      generalize (rd_T47 l (i : Int)).f2 = c at hj ⊢
      unfold stB cross
      by_cases h1 : 1 ≤ a ∧ a ≤ 8
      · by_cases h2 : 1 ≤ b ∧ b ≤ 8
        · by_cases h3 : a = b
          · simp only [decide_eq_true h1, decide_eq_true h2, h3, if_true, decide_true, Bool.not_true, Bool.and_false, Bool.false_and]
            rw [h3] at hj
            exact hj true
          · simp only [decide_eq_true h1, decide_eq_true h2, h3, if_true, if_false, decide_false, Bool.not_false, Bool.true_and]
            exact evq (hj _) (by rw [Bool.not_not]; simp only [Bool.and_assoc])
        · simp only [decide_eq_true h1, decide_eq_false h2, if_true, Bool.false_eq_true, if_false, Bool.and_false, Bool.false_and]; exact hj true
      · simp only [decide_eq_false h1, Bool.false_eq_true, if_false, Bool.false_and]; exact hj true
  have := key l.length 0 (by omega)
  rwa [← List.range_eq_range'] at this
theorem spec_l20Seconds_eq (l : List S47) (a b : Int) (hl : l.length ≤ 1048576) : Ev (fun k => spec_l20Seconds.f k l a b) (secOf l a b) := by
  unfold spec_l20Seconds.f
  have key : ∀ (d i : Nat), i + d = l.length → Ev (fun k => spec_l20Seconds.l0 k l a b (i : Int)) (if 0 ≤ Go.Proofs.Ytdaofiiedclmpaa.Hnd.fidx (fun x : S47 => x.f0 == a && x.f1 == b) (l.drop i) (0 + i) then (rd_T47 l (Go.Proofs.Ytdaofiiedclmpaa.Hnd.fidx (fun x : S47 => x.f0 == a && x.f1 == b) (l.drop i) (0 + i))).f2 else 0) := by
    intro d
    induction d with
    | zero =>
      intro i hi
      refine Ev.succ ?_
      simp only [spec_l20Seconds.l0, show ¬ (i : Int) < (l.length : Int) by omega, if_false]
      rw [List.drop_eq_nil_of_le (by omega)]
      exact Ev.now _
    | succ d ih =>
      intro i hi
      refine Ev.succ ?_
      have ihh := ih (i + 1) (by omega)
      rw [show ((i + 1 : Nat) : Int) = (i : Int) + 1 by omega] at ihh
      rw [fidx_drop _ _ _ _ (by omega)]
      simp only [spec_l20Seconds.l0, show (i : Int) < (l.length : Int) by omega, show (0 : Int) ≤ (i : Int) by omega, if_true, rdT_Street _ _ (show i < l.length by omega), wrap_id (n := (i : Int) + 1) (by omega) (by omega)]
      by_cases h1 : l[i].f0 = a
      · by_cases h2 : l[i].f1 = b
        · have hb : (l[i].f0 == a && l[i].f1 == b) = true := by simp [h1, h2]
          simp only [hb, if_true, Nat.zero_add, show (0 : Int) ≤ (i : Int) by omega, rdT_Street _ _ (show i < l.length by omega)]
          simp only [h1, h2, if_true]; exact Ev.now _
        · have hb : (l[i].f0 == a && l[i].f1 == b) = false := by simp [h2]
          simp only [hb, if_false, Bool.false_eq_true]
          simp only [h1, h2, if_true, if_false]; exact ihh
      · have hb : (l[i].f0 == a && l[i].f1 == b) = false := by simp [h1]
        simp only [hb, if_false, Bool.false_eq_true]
        simp only [h1, if_false]; exact ihh
  exact key l.length 0 (by omega)
def chAt (l : List S47) (c : List Int) (i : Nat) : Bool := cross (rd c (i : Int)) && !decide (rd c (i : Int) ∈ c.take i) && (decide (i = 0) || decide (0 ≤ findS l (rd c ((i : Int) - 1)) (rd c (i : Int))))
def isChain (l : List S47) (c : List Int) : Bool := areStreets l && decide (1 ≤ c.length ∧ c.length ≤ 8) && (List.range c.length).all (chAt l c)
/-- No nine different numbers lie in 1 .. 8. -/
theorem pigeon : ∀ (n : Nat) (c : List Int), c.Nodup → (∀ x ∈ c, 1 ≤ x ∧ x ≤ (n : Int)) → c.length ≤ n
  | 0, c, _, h => by
    cases c with
    | nil => simp
    | cons x xs => have := h x (by simp); omega
  | n + 1, c, hn, h => by
    have h1 := pigeon n (c.filter (fun x => decide (x ≠ (n : Int) + 1))) (List.Pairwise.filter _ hn) (fun x hx => by
      have hm := List.mem_filter.1 hx
      have := h x hm.1
      have hne : x ≠ (n : Int) + 1 := of_decide_eq_true hm.2
      have : x ≤ (n : Int) + 1 := by have := this.2; push_cast at this; omega
      have := h x hm.1
      omega)
    have h2 : ∀ (l : List Int) (a : Int), l.Nodup → l.length ≤ (l.filter (fun x => decide (x ≠ a))).length + 1 := by
      intro l a
      induction l with
      | nil => intro _; simp
      | cons x xs ih =>
        intro hnd
        rw [List.nodup_cons] at hnd
        by_cases hx : x = a
        · subst hx
          have : (xs.filter (fun y => decide (y ≠ x))) = xs := List.filter_eq_self.2 (fun y hy => by simp; intro e; exact hnd.1 (e ▸ hy))
          rw [List.filter_cons, this]; simp
        · have := ih hnd.2
          rw [List.filter_cons]; simp [hx]; simpa using this
    have := h2 c ((n : Int) + 1) hn
    omega
theorem chain_nodup (c : List Int) (h : ∀ i, i < c.length → rd c (i : Int) ∉ c.take i) : c.Nodup := by
  rw [List.nodup_iff_pairwise_ne, List.pairwise_iff_getElem]
  intro i j hi hj hij e
  have := h j hj
  rw [rd_nat _ _ hj] at this
  exact this (List.mem_take_iff_getElem.2 ⟨i, by omega, e⟩)
theorem chain_le {l : List S47} {c : List Int} (h : (List.range c.length).all (chAt l c) = true) : c.length ≤ 8 := by
  simp only [List.all_eq_true, List.mem_range, chAt, cross, Bool.and_eq_true, decide_eq_true_eq, Bool.not_eq_true', decide_eq_false_iff_not] at h
  refine pigeon 8 c (chain_nodup c (fun i hi => (h i hi).1.2)) (fun x hx => ?_)
  obtain ⟨i, hi, rfl⟩ := List.getElem_of_mem hx
  have := (h i hi).1.1
  rwa [rd_nat _ _ hi] at this
theorem impl_IsChain_eq (l : List S47) (c : List Int) (hl : l.length ≤ 1048576) (hc : c.length ≤ 1048576) : Ev (fun k => impl_IsChain.f k l c) (isChain l c) := by
  unfold impl_IsChain.f isChain
  refine Ev.bind (impl_AreStreets_eq l hl) ?_
  have jt : Ev (fun k => impl_IsChain.j0 k l c true) false := by
    refine Ev.succ ?_
    simp only [impl_IsChain.j0, if_true]; exact Ev.now _
  cases ha : areStreets l
  · simp only [Bool.false_eq_true, if_false, Bool.false_and]; exact jt
  simp only [if_true, Bool.true_and, impl_InRange_eq, Option.bind_some]
  by_cases h8 : 1 ≤ c.length ∧ c.length ≤ 8
  · rw [decide_eq_true h8, decide_eq_true (show (1 : Int) ≤ (c.length : Int) ∧ (c.length : Int) ≤ 8 by omega), Bool.true_and]
    refine Ev.succ ?_
    simp only [impl_IsChain.j0, Bool.not_true, Bool.false_eq_true, if_false]
    have key : ∀ (d i : Nat), i + d = c.length → Ev (fun k => impl_IsChain.l0 k l c c (c.length : Int) (i : Int)) ((List.range' i d).all (chAt l c)) := by
      intro d
      induction d with
      | zero =>
        intro i hi
        refine Ev.succ ?_
        simp only [impl_IsChain.l0, show ¬ (i : Int) < (c.length : Int) by omega, if_false]
        exact Ev.now _
      | succ d ih =>
        intro i hi
        refine Ev.succ ?_
        have ihh := ih (i + 1) (by omega)
        rw [show ((i + 1 : Nat) : Int) = (i : Int) + 1 by omega] at ihh
        simp only [impl_IsChain.l0, show (i : Int) < (c.length : Int) by omega, show (i : Int) ≤ (c.length : Int) by omega, show (0 : Int) ≤ (i : Int) by omega, if_true, impl_isCrossing_eq, Option.bind_some, Int.toNat_natCast, wrap_id (n := (i : Int) + 1) (by omega) (by omega)]
        rw [List.range'_succ, List.all_cons, show chAt l c i = (decide (1 ≤ rd c (i : Int) ∧ rd c (i : Int) ≤ 8) && !decide (rd c (i : Int) ∈ c.take i) && (decide (i = 0) || decide (0 ≤ findS l (rd c ((i : Int) - 1)) (rd c (i : Int))))) from rfl]
        by_cases h1 : 1 ≤ rd c (i : Int) ∧ rd c (i : Int) ≤ 8
        · simp only [decide_eq_true h1, if_true, Bool.true_and]
          refine Ev.bind (slices_Contains_eq _ _ (by simp; omega)) ?_
          by_cases h2 : rd c (i : Int) ∈ c.take i
          · simp only [decide_eq_true h2, if_true, Bool.not_true, Bool.false_and]; exact Ev.now _
          · simp only [decide_eq_false h2, Bool.false_eq_true, if_false, Bool.not_false, Bool.true_and]
            by_cases h0 : i = 0
            · subst h0; simpa using ihh
            · simp only [show (i : Int) > 0 by omega, if_true, wrap_id (n := (i : Int) - 1) (by omega) (by omega), show (0 : Int) ≤ (i : Int) - 1 by omega, show (i : Int) - 1 < (c.length : Int) by omega, impl_streetOf_eq, Option.bind_some, decide_eq_false h0, Bool.false_or]
              by_cases h3 : 0 ≤ findS l (rd c ((i : Int) - 1)) (rd c (i : Int))
              · simp only [show ¬ findS l (rd c ((i : Int) - 1)) (rd c (i : Int)) < 0 by omega, if_false, decide_eq_true h3, Bool.true_and]; exact ihh
              · simp only [show findS l (rd c ((i : Int) - 1)) (rd c (i : Int)) < 0 by omega, if_true, decide_eq_false h3, Bool.false_and]; exact Ev.now _
        · simp only [decide_eq_false h1, Bool.false_eq_true, if_false, Bool.false_and]; exact Ev.now _
    have := key c.length 0 (by omega)
    rwa [← List.range_eq_range'] at this
  · rw [decide_eq_false h8, decide_eq_false (show ¬ ((1 : Int) ≤ (c.length : Int) ∧ (c.length : Int) ≤ 8) by omega), Bool.false_and]; exact jt
theorem spec_IsChain_eq (l : List S47) (c : List Int) (hl : l.length ≤ 1048576) (hc : c.length ≤ 1048576) : Ev (fun k => spec_IsChain.f k l c) (isChain l c) := by
  unfold spec_IsChain.f
  have key : ∀ (d i : Nat), i + d = c.length → Ev (fun k => spec_IsChain.l0 k l c (i : Int)) ((List.range' i d).all (fun (i : Nat) => cross (rd c (i : Int)) && !decide (rd c (i : Int) ∈ c.take i) && (decide (i = 0) || !decide (secOf l (rd c ((i : Int) - 1)) (rd c (i : Int)) = 0))) && (areStreets l && decide (1 ≤ c.length))) := by
    intro d
    induction d with
    | zero =>
      intro i hi
      refine Ev.succ ?_
      simp only [spec_IsChain.l0, show ¬ (i : Int) < (c.length : Int) by omega, if_false]
      refine Ev.bind (spec_AreStreets_eq l hl) ?_
      refine Ev.pure ?_
      cases areStreets l
      · simp
      · rw [if_pos rfl, Bool.true_and]; exact congrArg some (decide_eq_decide.2 (by omega))
    | succ d ih =>
      intro i hi
      refine Ev.succ ?_
      have ihh := ih (i + 1) (by omega)
      rw [show ((i + 1 : Nat) : Int) = (i : Int) + 1 by omega] at ihh
      simp only [spec_IsChain.l0, show (i : Int) < (c.length : Int) by omega, show (i : Int) ≤ (c.length : Int) by omega, show (0 : Int) ≤ (i : Int) by omega, if_true, spec_l1In_eq, Option.bind_some, Int.toNat_natCast, wrap_id (n := (i : Int) + 1) (by omega) (by omega)]
      rw [List.range'_succ, List.all_cons]
      show Ev _ ((decide (1 ≤ rd c (i : Int) ∧ rd c (i : Int) ≤ 8) && _ && _ && _) && _)
      by_cases h1 : 1 ≤ rd c (i : Int) ∧ rd c (i : Int) ≤ 8
      · simp only [decide_eq_true h1, if_true, Bool.true_and]
        refine Ev.bind (spec_l6Has_eq _ _ (by simp; omega)) ?_
        by_cases h2 : rd c (i : Int) ∈ c.take i
        · simp only [decide_eq_true h2, if_true, Bool.not_true, Bool.false_and]; exact Ev.now _
        · simp only [decide_eq_false h2, Bool.false_eq_true, if_false, Bool.not_false, Bool.true_and]
          by_cases h0 : i = 0
          · subst h0; simpa using ihh
          · simp only [show (i : Int) > 0 by omega, if_true, wrap_id (n := (i : Int) - 1) (by omega) (by omega), show (0 : Int) ≤ (i : Int) - 1 by omega, show (i : Int) - 1 < (c.length : Int) by omega, decide_eq_false h0, Bool.false_or]
            refine Ev.bind (spec_l20Seconds_eq l _ _ hl) ?_
            by_cases h3 : secOf l (rd c ((i : Int) - 1)) (rd c (i : Int)) = 0
            · simp only [h3, if_true, decide_true, Bool.not_true, Bool.false_and]; exact Ev.now _
            · simp only [h3, if_false, decide_false, Bool.not_false, Bool.true_and]; exact ihh
      · simp only [decide_eq_false h1, Bool.false_eq_true, if_false, Bool.false_and]; exact Ev.now _
  have := key c.length 0 (by omega)
  rw [← List.range_eq_range'] at this
  refine evq this ?_
  unfold isChain
  cases ha : areStreets l
  · simp
  have hch : ∀ (i : Nat), (cross (rd c (i : Int)) && !decide (rd c (i : Int) ∈ c.take i) && (decide (i = 0) || !decide (secOf l (rd c ((i : Int) - 1)) (rd c (i : Int)) = 0))) = chAt l c i := by
    intro i
    unfold chAt
    have hs := (secOf_pos ha (rd c ((i : Int) - 1)) (rd c (i : Int))).1
    congr 2
    by_cases h : findS l (rd c ((i : Int) - 1)) (rd c (i : Int)) < 0
    · rw [decide_eq_true (hs.2 h), decide_eq_false (show ¬ 0 ≤ findS l (rd c ((i : Int) - 1)) (rd c (i : Int)) by omega)]; rfl
    · rw [decide_eq_false (fun e => h (hs.1 e)), decide_eq_true (show 0 ≤ findS l (rd c ((i : Int) - 1)) (rd c (i : Int)) by omega)]; rfl
  simp only [hch, Bool.true_and]
  cases hall : (List.range c.length).all (chAt l c)
  · simp
  · have := chain_le hall
    by_cases h : 1 ≤ c.length
    · simp [h, this]
    · simp [h]
def trav (l : List S47) (c : List Int) : Nat → Int
  | 0 => 0
  | i + 1 => trav l c i + secOf l (rd c (i : Int)) (rd c ((i : Int) + 1))
theorem trav_bd {l : List S47} (h : areStreets l = true) (c : List Int) : ∀ i, 0 ≤ trav l c i ∧ trav l c i ≤ 300 * i
  | 0 => by simp [trav]
  | i + 1 => by
    have := trav_bd h c i
    have := secOf_pos h (rd c (i : Int)) (rd c ((i : Int) + 1))
    unfold trav
    push_cast
    omega
def chainTravel (l : List S47) (c : List Int) : List Int := if isChain l c then (List.range c.length).map (trav l c) else []
theorem isChain_iff {l : List S47} {c : List Int} (h : isChain l c = true) : areStreets l = true ∧ 1 ≤ c.length ∧ c.length ≤ 8 ∧ ∀ i, i < c.length → chAt l c i = true := by
  simp only [isChain, Bool.and_eq_true, decide_eq_true_eq, List.all_eq_true, List.mem_range] at h
  exact ⟨h.1.1, h.1.2.1, h.1.2.2, h.2⟩
theorem chainTravel_le (l : List S47) (c : List Int) : (chainTravel l c).length ≤ 8 := by
  unfold chainTravel
  split
  · rename_i h; simpa using (isChain_iff h).2.2.1
  · simp
theorem trav_next {l : List S47} {c : List Int} (i : Nat) (h : i ≠ 0) : trav l c i = trav l c (i - 1) + secOf l (rd c ((i : Int) - 1)) (rd c (i : Int)) := by
  obtain ⟨j, rfl⟩ : ∃ j, i = j + 1 := ⟨i - 1, by omega⟩
  show trav l c j + _ = trav l c (j + 1 - 1) + _
  rw [show ((j + 1 : Nat) : Int) - 1 = (j : Int) by omega, show ((j + 1 : Nat) : Int) = (j : Int) + 1 by omega]; rfl
theorem impl_ChainTravel_eq (l : List S47) (c : List Int) (hl : l.length ≤ 1048576) (hc : c.length ≤ 1048576) : Ev (fun k => impl_ChainTravel.f k l c) (chainTravel l c) := by
  unfold impl_ChainTravel.f chainTravel
  simp only [Option.bind_some]
  refine Ev.bind (impl_IsChain_eq l c hl hc) ?_
  cases hch : isChain l c
  · simp only [Bool.false_eq_true, if_false]; exact Ev.now _
  obtain ⟨hs, h1, h8, hat⟩ := isChain_iff hch
  simp only [if_true]
  have key : ∀ (d i : Nat), i + d = c.length → Ev (fun k => impl_ChainTravel.l0 k l c ((List.range i).map (trav l c)) (trav l c (i - 1)) c (c.length : Int) (i : Int)) ((List.range c.length).map (trav l c)) := by
    intro d
    induction d with
    | zero =>
      intro i hi
      refine Ev.succ ?_
      simp only [impl_ChainTravel.l0, show ¬ (i : Int) < (c.length : Int) by omega, if_false]
      exact evq (Ev.now _) (by rw [show i = c.length by omega])
    | succ d ih =>
      intro i hi
      refine Ev.succ ?_
      have ihh := ih (i + 1) (by omega)
      rw [show ((i + 1 : Nat) : Int) = (i : Int) + 1 by omega, List.range_succ, List.map_append, show i + 1 - 1 = i by omega] at ihh
      have tb := trav_bd hs c (i - 1)
      simp only [impl_ChainTravel.l0, show (i : Int) < (c.length : Int) by omega, show (0 : Int) ≤ (i : Int) by omega, if_true, List.length_map, List.length_range, show i < 17592186044416 by omega, wrap_id (n := (i : Int) + 1) (by omega) (by omega)]
      by_cases h0 : i = 0
      · subst h0; simpa [trav] using ihh
      · have hfs : 0 ≤ findS l (rd c ((i : Int) - 1)) (rd c (i : Int)) := by
          have := hat i (by omega)
          simp only [chAt, Bool.and_eq_true, Bool.or_eq_true, decide_eq_true_eq] at this
          rcases this.2 with h | h
          · exact absurd h h0
          · exact h
        have hhi := findS_hi l (rd c ((i : Int) - 1)) (rd c (i : Int))
        have hsec : (rd_T47 l (findS l (rd c ((i : Int) - 1)) (rd c (i : Int)))).f2 = secOf l (rd c ((i : Int) - 1)) (rd c (i : Int)) := by unfold secOf; rw [if_pos hfs]
        have hsb := secOf_pos hs (rd c ((i : Int) - 1)) (rd c (i : Int))
        simp only [show (i : Int) > 0 by omega, if_true, wrap_id (n := (i : Int) - 1) (by omega) (by omega), show (0 : Int) ≤ (i : Int) - 1 by omega, show (i : Int) - 1 < (c.length : Int) by omega, impl_streetOf_eq, Option.bind_some, hfs, hhi, hsec]
        rw [wrap_id (by omega) (by omega), ← trav_next i h0]
        exact ihh
  have := key c.length 0 (by omega)
  simpa [trav] using this
theorem spec_ChainTravel_eq (l : List S47) (c : List Int) (hl : l.length ≤ 1048576) (hc : c.length ≤ 1048576) : Ev (fun k => spec_ChainTravel.f k l c) (chainTravel l c) := by
  unfold spec_ChainTravel.f chainTravel
  cases hch : isChain l c
  · simp only [Bool.false_eq_true, if_false]
    refine Ev.succ ?_
    have jf : Ev (fun k => spec_ChainTravel.j1 k l c [] 0 0 false) [] := by
      refine Ev.succ ?_
      simp only [spec_ChainTravel.j1, Bool.false_eq_true, if_false]; exact Ev.now _
    by_cases h0 : (0 : Int) < (c.length : Int)
    · simp only [spec_ChainTravel.l0, h0, if_true]
      refine Ev.bind (spec_IsChain_eq l c hl hc) ?_
      rw [hch]; exact jf
    · simp only [spec_ChainTravel.l0, h0, if_false]; exact jf
  obtain ⟨hs, h1, h8, hat⟩ := isChain_iff hch
  simp only [if_true]
  have key : ∀ (d i : Nat), i + d = c.length → Ev (fun k => spec_ChainTravel.l0 k l c ((List.range i).map (trav l c)) (trav l c (i - 1)) (i : Int)) ((List.range c.length).map (trav l c)) := by
    intro d
    induction d with
    | zero =>
      intro i hi
      refine Ev.succ ?_
      simp only [spec_ChainTravel.l0, show ¬ (i : Int) < (c.length : Int) by omega, if_false]
      refine Ev.succ ?_
      simp only [spec_ChainTravel.j1, Bool.false_eq_true, if_false]
      exact evq (Ev.now _) (by rw [show i = c.length by omega])
    | succ d ih =>
      intro i hi
      refine Ev.succ ?_
      have ihh := ih (i + 1) (by omega)
      rw [show ((i + 1 : Nat) : Int) = (i : Int) + 1 by omega, List.range_succ, List.map_append, show i + 1 - 1 = i by omega] at ihh
      have tb := trav_bd hs c (i - 1)
      simp only [spec_ChainTravel.l0, show (i : Int) < (c.length : Int) by omega, if_true]
      refine Ev.bind (spec_IsChain_eq l c hl hc) ?_
      rw [hch]
      refine Ev.succ ?_
      simp only [spec_ChainTravel.j1, if_true, List.length_map, List.length_range, show i < 17592186044416 by omega, wrap_id (n := (i : Int) + 1) (by omega) (by omega)]
      by_cases h0 : i = 0
      · subst h0; simpa [trav] using ihh
      · have hsb := secOf_pos hs (rd c ((i : Int) - 1)) (rd c (i : Int))
        simp only [show (i : Int) > 0 by omega, if_true, wrap_id (n := (i : Int) - 1) (by omega) (by omega), show (0 : Int) ≤ (i : Int) - 1 by omega, show (i : Int) - 1 < (c.length : Int) by omega, show (0 : Int) ≤ (i : Int) by omega, show (i : Int) < (c.length : Int) by omega]
        refine Ev.bind (spec_l20Seconds_eq l _ _ hl) ?_
        rw [wrap_id (by omega) (by omega), ← trav_next i h0]
        exact ihh
  have := key c.length 0 (by omega)
  simpa [trav] using this
theorem holds : ∀ (l0 : List S79) (l1 : List Int), l0.length ≤ maxLen → (∀ x ∈ l0, wf79 x) → l1.length ≤ maxLen → (∀ x ∈ l1, (Lit.int .i64 x).wf = true) → ∃ k, laws_FnExactChainTravel.f k l0 l1 = some true := by
  intros
  apply Ev.rounds
  unfold laws_FnExactChainTravel.f
  repeat (first
    | exact Ev.now _
    | dsimp only
    | (refine Ev.ifp ?_ ?_; focus (first | rfl | omega | (simp; done)))
    | (refine Ev.ifn ?_ ?_; focus (first | omega | (simp; done)))
    | refine Ev.bind (laws_eqIntS_self _ (by first | omega | (simp only [List.length_map, markInts_length]; omega) | (exact Nat.le_trans (chainTravel_le _ _) (by omega)) | (simp; omega))) ?_
    | refine Ev.bindE (laws_eqStreet_self ..) ?_
    | refine Ev.bind (laws_eqStreetS_self _ (by first | omega | (simp only [List.length_map, markInts_length]; omega) | (exact Nat.le_trans (chainTravel_le _ _) (by omega)) | (simp; omega))) ?_
    | refine Ev.bind (laws_heldIntS_eq _ _ (by first | omega | (simp only [List.length_map, markInts_length]; omega) | (exact Nat.le_trans (chainTravel_le _ _) (by omega)) | (simp; omega)) (by omega) (by first | omega | (simp only [List.length_map, markInts_length]; omega) | (exact Nat.le_trans (chainTravel_le _ _) (by omega)) | (simp; omega))) ?_
    | refine Ev.bind (laws_markIntS_eq _ _ (by first | omega | (simp only [List.length_map, markInts_length]; omega) | (exact Nat.le_trans (chainTravel_le _ _) (by omega)) | (simp; omega)) (by omega) (by first | omega | (simp only [List.length_map, markInts_length]; omega) | (exact Nat.le_trans (chainTravel_le _ _) (by omega)) | (simp; omega))) ?_
    | refine Ev.bind (laws_markStreetS_eq _ _ (by first | omega | (simp only [List.length_map, markInts_length]; omega) | (exact Nat.le_trans (chainTravel_le _ _) (by omega)) | (simp; omega)) (by omega) (by first | omega | (simp only [List.length_map, markInts_length]; omega) | (exact Nat.le_trans (chainTravel_le _ _) (by omega)) | (simp; omega))) ?_
    | refine Ev.szb (laws_szStreetS_eq _ _ (by assumption) (by omega) (by omega)) (fun _ => ?_) (fun _ => ?_)
    | refine Ev.bind (laws_toIntS_eq _ (by first | omega | (simp only [List.length_map, markInts_length]; omega) | (exact Nat.le_trans (chainTravel_le _ _) (by omega)) | (simp; omega))) ?_
    | refine Ev.bindE (laws_toStreet_eq ..) ?_
    | refine Ev.bind (laws_toStreetS_eq _ (by first | omega | (simp only [List.length_map, markInts_length]; omega) | (exact Nat.le_trans (chainTravel_le _ _) (by omega)) | (simp; omega))) ?_
    | refine Ev.bind (spec_ChainTravel_eq _ _ (by first | omega | (simp only [List.length_map, markInts_length]; omega) | (exact Nat.le_trans (chainTravel_le _ _) (by omega)) | (simp; omega)) (by first | omega | (simp only [List.length_map, markInts_length]; omega) | (exact Nat.le_trans (chainTravel_le _ _) (by omega)) | (simp; omega))) ?_
    | refine Ev.bind (impl_ChainTravel_eq _ _ (by first | omega | (simp only [List.length_map, markInts_length]; omega) | (exact Nat.le_trans (chainTravel_le _ _) (by omega)) | (simp; omega)) (by first | omega | (simp only [List.length_map, markInts_length]; omega) | (exact Nat.le_trans (chainTravel_le _ _) (by omega)) | (simp; omega))) ?_
    | (refine Ev.succ (g := fun k => laws_FnExactChainTravel.j0 k _ _ _ _ _) ?_; simp only [laws_FnExactChainTravel.j0])
    | (refine Ev.ifd (fun _ => by exact Ev.now _) (fun _ => ?_)))
end Go.Proofs.Ytdaofiiedclmpaa.Pure.FnExactChainTravel
