/- The law FnExactShiftOffsets of the given program, as a statement over numbers and lists alone, for all arguments; no conditions but the machine's own bounds. -/
import Derived.Test.YtaokklehbkiahaaPFnExactShiftOffsetsx
import Derived.Test.YtaokklehbkiahaaBase
namespace Go.Proofs.Ytaokklehbkiahaa.Pure.FnExactShiftOffsets
open Go.RowKit Go.Proofs.Ytaokklehbkiahaa.PFnExactShiftOffsets Go.Proofs.YtaokklehbkiahaaW.PrintWords Go.Proofs.YtaokklehbkiahaaW.PrintLast Go.Proofs.Ytaokklehbkiahaa.Bas
set_option linter.unusedVariables false
set_option linter.unusedSimpArgs false
theorem spec_l1In_eq (a lo hi : Int) : spec_l1In.f a lo hi = some (decide (lo ≤ a ∧ a ≤ hi)) := by
  unfold spec_l1In.f; grind
theorem impl_InRange_eq (a lo hi : Int) : impl_InRange.f a lo hi = some (decide (lo ≤ a ∧ a ≤ hi)) := by
  unfold impl_InRange.f; grind
theorem impl_Mod_eq (p q : Int) : impl_Mod.f p q = some (gmod p q) := by
  unfold impl_Mod.f gmod
  simp only [impl_InRange_eq, Option.bind_some]
  by_cases h : 1 ≤ q ∧ q ≤ 1000000000000
  · have h1 : ¬ q = 0 := by omega
    have h5 := Int.emod_lt_of_pos p (show 0 < q by omega)
    have h7 := Int.emod_nonneg p (show q ≠ 0 by omega)
    rcases tmod_cases p q (by omega) with ⟨h2, h3⟩ | ⟨h2, h3⟩
    · simp [h, h1, h2]; omega
    · simp only [h, h1, h3]; rw [wrap_id (by omega) (by omega)]; simp; omega
  · simp [h]
theorem spec_Mod_eq (p q : Int) : spec_Mod.f p q = some (gmod p q) := by
  unfold spec_Mod.f gmod
  simp only [spec_l1In_eq, Option.bind_some]
  by_cases h : 1 ≤ q ∧ q ≤ 1000000000000
  · have h1 : ¬ q = 0 := by omega
    have h5 := Int.emod_lt_of_pos p (show 0 < q by omega)
    have h7 := Int.emod_nonneg p (show q ≠ 0 by omega)
    rcases tmod_cases p q (by omega) with ⟨h2, h3⟩ | ⟨h2, h3⟩
    · rw [h2, wrap_id (by omega) (by omega), tmod_nn (by omega), Int.add_emod_right, Int.emod_emod]
      simp [h, h1]
    · rw [h2, wrap_id (by omega) (by omega), Int.sub_add_cancel, tmod_nn (by omega), Int.emod_emod]
      simp [h, h1]
  · simp [h]
theorem laws_toIntS_eq (l : List Int) (hl : l.length ≤ 1048576) : Ev (fun k => laws_toIntS.f k l) l := by
  unfold laws_toIntS.f
  simp only [show (0 : Int) ≤ l.length by omega, Int.toNat_natCast, show l.length ≤ 35184372088832 by omega, if_true]
  have := Ev.copy (g := fun k ys i => laws_toIntS.l0 k l ys i) l id 0 (fun i ys r h hy hr => by
    refine Ev.succ ?_
    have h1 : (i : Int) < (l.length : Int) := by omega
    have h2 : (0 : Int) ≤ (i : Int) := by omega
    have h3 : (i : Int) < (ys.length : Int) := by omega
    simp only [laws_toIntS.l0, h1, h2, h3, if_true, rd_nat _ _ h, Int.toNat_natCast, wrap_id (n := (i : Int) + 1) (by omega) (by omega)]
    exact hr) (fun ys => by
    refine Ev.succ ?_
    simp only [laws_toIntS.l0, Int.lt_irrefl, if_false]
    exact Ev.now _)
  simpa using this
theorem laws_eqIntS_self (l : List Int) (hl : l.length ≤ 140737488355328) : Ev (fun k => laws_eqIntS.f k l l) true := by
  unfold laws_eqIntS.f
  simp only [if_true]
  have := Ev.all (g := fun k i => laws_eqIntS.l0 k l l i) l.length (fun _ => true) (fun i r h _ hr => by
    refine Ev.succ ?_
    have h1 : (i : Int) < (l.length : Int) := by omega
    have h2 : (0 : Int) ≤ (i : Int) := by omega
    simp only [laws_eqIntS.l0, h1, h2, if_true, wrap_id (n := (i : Int) + 1) (by omega) (by omega)]
    exact hr) (fun i h hf => by simp at hf) (by
    refine Ev.succ ?_
    simp only [laws_eqIntS.l0, Int.lt_irrefl, if_false]
    exact Ev.now _)
  exact evq this (by rw [List.all_eq_true]; intros; rfl)
theorem laws_markIntS_eq (l : List Int) (c : Int) (hl : l.length ≤ 140737488355328) (h0 : 0 ≤ c) (h9 : c ≤ 1000000000000000) : Ev (fun k => laws_markIntS.f k l c) (c + 1 * l.length, markInts l.length c) := by
  unfold laws_markIntS.f
  refine Ev.mark (g := fun k ys c i => laws_markIntS.l0 k ys c i) 1 (fun c => c) l c (fun i ys r h hy hr => ?_) (fun ys c' hy => ?_)
  · refine Ev.succ ?_
    have h1 : (i : Int) < (ys.length : Int) := by omega
    have h2 : (0 : Int) ≤ (i : Int) := by omega
    simp only [laws_markIntS.l0, h1, h2, if_true, Int.toNat_natCast, wrap_id (n := (i : Int) + 1) (by omega) (by omega), wrap_id (n := c + 1 * (i : Int) + 1) (by omega) (by omega)]
    exact hr
  · refine Ev.succ ?_
    simp only [laws_markIntS.l0, hy, Int.lt_irrefl, if_false]
    exact Ev.now _
theorem laws_heldIntS_eq (n : Nat) (c : Int) (hl : n ≤ 140737488355328) (h0 : 0 ≤ c) (h9 : c ≤ 1000000000000000) : Ev (fun k => laws_heldIntS.f k (markInts n c) c) (c + 1 * n) := by
  unfold laws_heldIntS.f
  refine Ev.held (g := fun k c' i => laws_heldIntS.l0 k (markInts n c) c' i) 1 n c (fun i r h hr => ?_) (fun c' => ?_)
  · refine Ev.succ ?_
    have hn := markInts_length n c
    have h1 : (i : Int) < ((markInts n c).length : Int) := by omega
    have h2 : (0 : Int) ≤ (i : Int) := by omega
    have h3 : rd (markInts n c) (i : Int) = c + 1 * (i : Int) := by rw [rd_nat _ _ (by omega)]; simp [markInts]
    simp only [laws_heldIntS.l0, h1, h2, h3, if_true, wrap_id (n := (i : Int) + 1) (by omega) (by omega), wrap_id (n := c + 1 * (i : Int) + 1) (by omega) (by omega)]
    exact hr
  · refine Ev.succ ?_
    simp only [laws_heldIntS.l0, markInts_length, Int.lt_irrefl, if_false]
    exact Ev.now _
def shiftOk (v : List Int) (n c : Int) : Bool := decide (1 ≤ c ∧ c ≤ 200) && decide (-1000000 ≤ n ∧ n ≤ 1000000) && (List.range v.length).all (fun (i : Nat) => decide (-1000000 ≤ rd v (i : Int) ∧ rd v (i : Int) ≤ 1000000))
def shiftOffsets (v : List Int) (n c : Int) : List Int := if shiftOk v n c then v.map (fun x => (x + n) % c) else v
theorem shift_l0 {g : Nat → List Int → Int → Option (List Int)} (v : List Int) (n c : Int) (hl : v.length ≤ 1048576)
    (h1 : ∀ (i : Nat) (ys : List Int) (r : List Int) (h : i < v.length), ys.length = v.length → (-1000000 ≤ v[i] ∧ v[i] ≤ 1000000) → Ev (fun k => g k (ys.set i ((v[i] + n) % c)) ((i : Int) + 1)) r → Ev (fun k => g k ys (i : Int)) r)
    (h2 : ∀ (i : Nat) (ys : List Int) (h : i < v.length), ys.length = v.length → ¬ (-1000000 ≤ v[i] ∧ v[i] ≤ 1000000) → Ev (fun k => g k ys (i : Int)) v)
    (h3 : ∀ ys, ys.length = v.length → Ev (fun k => g k ys (v.length : Int)) ys) :
    Ev (fun k => g k v 0) (if (List.range v.length).all (fun (i : Nat) => decide (-1000000 ≤ rd v (i : Int) ∧ rd v (i : Int) ≤ 1000000)) then v.map (fun x => (x + n) % c) else v) := by
  have key : ∀ (d i : Nat), i + d = v.length → Ev (fun k => g k ((v.take i).map (fun x => (x + n) % c) ++ v.drop i) (i : Int)) (if (List.range' i d).all (fun (i : Nat) => decide (-1000000 ≤ rd v (i : Int) ∧ rd v (i : Int) ≤ 1000000)) then v.map (fun x => (x + n) % c) else v) := by
    intro d
    induction d with
    | zero =>
      intro i hi
      obtain rfl : i = v.length := by omega
      simpa using h3 (v.map (fun x => (x + n) % c)) (by simp)
    | succ d ih =>
      intro i hi
      rw [List.range'_succ, List.all_cons]
      have hr : rd v (i : Int) = v[i] := rd_nat v i (by omega)
      by_cases hP : -1000000 ≤ v[i] ∧ v[i] ≤ 1000000
      · refine h1 i _ _ (by omega) (by simp; omega) hP ?_
        have := ih (i + 1) (by omega)
        have e : ((v.take i).map (fun x => (x + n) % c) ++ v.drop i).set i ((v[i] + n) % c) = (v.take (i + 1)).map (fun x => (x + n) % c) ++ v.drop (i + 1) := by
          have hli : (List.map (fun x => (x + n) % c) (List.take i v)).length = i := by simp; omega
          rw [List.set_append_right _ _ (by omega), hli, Nat.sub_self, List.drop_eq_getElem_cons (by omega), List.set_cons_zero, List.take_succ_eq_append_getElem (by omega), List.map_append, List.append_assoc]
          rfl
        rw [e, hr, decide_eq_true hP, Bool.true_and]
        simpa using this
      · rw [hr, decide_eq_false hP, Bool.false_and]
        simpa using h2 i _ (by omega) (by simp; omega) hP
  have := key v.length 0 (by omega)
  rw [← List.range_eq_range'] at this
  simpa using this
theorem spec_ShiftOffsets_eq (v : List Int) (n c : Int) (hl : v.length ≤ 1048576) : Ev (fun k => spec_ShiftOffsets.f k v n c) (shiftOffsets v n c) := by
  unfold spec_ShiftOffsets.f shiftOffsets shiftOk
  simp only [Option.bind_some, List.length_nil, show 0 + v.length < 17592186044416 by omega, if_true, List.nil_append, spec_l1In_eq]
  have hj : ∀ b : Bool, (b = false → (1 ≤ c ∧ c ≤ 200) ∧ -1000000 ≤ n ∧ n ≤ 1000000) → Ev (fun k => spec_ShiftOffsets.j0 k v n c v b) (if !b && (List.range v.length).all (fun (i : Nat) => decide (-1000000 ≤ rd v (i : Int) ∧ rd v (i : Int) ≤ 1000000)) then v.map (fun x => (x + n) % c) else v) := by
    intro b hb
    refine Ev.succ ?_
    cases b
    · obtain ⟨hc, hn⟩ := hb rfl
      simp only [spec_ShiftOffsets.j0, Bool.false_eq_true, if_false, Bool.not_false, Bool.true_and]
      refine shift_l0 (g := fun k ys i => spec_ShiftOffsets.l0 k v n c ys i) v n c hl (fun i ys r h hy hP hr => ?_) (fun i ys h hy hP => ?_) (fun ys hy => ?_)
      · refine Ev.succ ?_
        have e1 : wrap64 (v[i] + n) = v[i] + n := wrap_id (by omega) (by omega)
        simp only [spec_ShiftOffsets.l0, hy, show (i : Int) < (v.length : Int) by omega, show (0 : Int) ≤ (i : Int) by omega, if_true, rd_nat v i h, spec_l1In_eq, Option.bind_some, decide_eq_true hP, spec_Mod_eq, e1, Int.toNat_natCast, wrap_id (n := (i : Int) + 1) (by omega) (by omega)]
        simp only [gmod, show 1 ≤ c ∧ c ≤ 1000000000000 by omega, and_self, if_true]
        exact hr
      · refine Ev.succ ?_
        simp only [spec_ShiftOffsets.l0, hy, show (i : Int) < (v.length : Int) by omega, show (0 : Int) ≤ (i : Int) by omega, if_true, rd_nat v i h, spec_l1In_eq, Option.bind_some, decide_eq_false hP, Bool.false_eq_true, if_false, List.length_nil, show 0 + v.length < 17592186044416 by omega, List.nil_append]
        exact Ev.now _
      · refine Ev.succ ?_
        simp only [spec_ShiftOffsets.l0, hy, Int.lt_irrefl, if_false]
        exact Ev.now _
    · simp only [spec_ShiftOffsets.j0, if_true, Bool.not_true, Bool.false_and, Bool.false_eq_true, if_false]; exact Ev.now _
  by_cases hc : 1 ≤ c ∧ c ≤ 200
  · by_cases hn : -1000000 ≤ n ∧ n ≤ 1000000
    · simpa [hc, hn] using hj false (fun _ => ⟨hc, hn⟩)
    · simpa [hc, hn] using hj true (by simp)
  · simpa [hc] using hj true (by simp)
theorem impl_ShiftOffsets_eq (v : List Int) (n c : Int) (hl : v.length ≤ 1048576) : Ev (fun k => impl_ShiftOffsets.f k v n c) (shiftOffsets v n c) := by
  unfold impl_ShiftOffsets.f shiftOffsets shiftOk
  have hcl : slices_Clone_int_int.f v = some v := by unfold slices_Clone_int_int.f; rw [if_pos (by omega)]
  simp only [hcl, Option.bind_some, impl_InRange_eq]
  have hj : ∀ b : Bool, (b = false → (1 ≤ c ∧ c ≤ 200) ∧ -1000000 ≤ n ∧ n ≤ 1000000) → Ev (fun k => impl_ShiftOffsets.j0 k v n c v b) (if !b && (List.range v.length).all (fun (i : Nat) => decide (-1000000 ≤ rd v (i : Int) ∧ rd v (i : Int) ≤ 1000000)) then v.map (fun x => (x + n) % c) else v) := by
    intro b hb
    refine Ev.succ ?_
    cases b
    · obtain ⟨hc, hn⟩ := hb rfl
      simp only [impl_ShiftOffsets.j0, Bool.false_eq_true, if_false, Bool.not_false, Bool.true_and]
      refine shift_l0 (g := fun k ys i => impl_ShiftOffsets.l0 k v n c ys v (v.length : Int) i) v n c hl (fun i ys r h hy hP hr => ?_) (fun i ys h hy hP => ?_) (fun ys hy => ?_)
      · refine Ev.succ ?_
        have e1 : wrap64 (v[i] + n) = v[i] + n := wrap_id (by omega) (by omega)
        simp only [impl_ShiftOffsets.l0, hy, show (i : Int) < (v.length : Int) by omega, show (0 : Int) ≤ (i : Int) by omega, if_true, rd_nat v i h, impl_InRange_eq, Option.bind_some, decide_eq_true hP, impl_Mod_eq, e1, Int.toNat_natCast, wrap_id (n := (i : Int) + 1) (by omega) (by omega)]
        simp only [gmod, show 1 ≤ c ∧ c ≤ 1000000000000 by omega, and_self, if_true]
        exact hr
      · refine Ev.succ ?_
        simp only [impl_ShiftOffsets.l0, show (i : Int) < (v.length : Int) by omega, show (0 : Int) ≤ (i : Int) by omega, if_true, rd_nat v i h, impl_InRange_eq, Option.bind_some, decide_eq_false hP, Bool.false_eq_true, if_false, hcl]
        exact Ev.now _
      · refine Ev.succ ?_
        simp only [impl_ShiftOffsets.l0, Int.lt_irrefl, if_false]
        exact Ev.now _
    · simp only [impl_ShiftOffsets.j0, if_true, Bool.not_true, Bool.false_and, Bool.false_eq_true, if_false]; exact Ev.now _
  by_cases hc : 1 ≤ c ∧ c ≤ 200
  · by_cases hn : -1000000 ≤ n ∧ n ≤ 1000000
    · simpa [hc, hn] using hj false (fun _ => ⟨hc, hn⟩)
    · simpa [hc, hn] using hj true (by simp)
  · simpa [hc] using hj true (by simp)
theorem shiftOffsets_length (v : List Int) (n c : Int) : (shiftOffsets v n c).length = v.length := by unfold shiftOffsets; split <;> simp
theorem holds : ∀ (l0 : List Int) (a1 : Int) (a2 : Int), l0.length ≤ maxLen → (∀ x ∈ l0, (Lit.int .i64 x).wf = true) → (Lit.int .i64 a1).wf = true → (Lit.int .i64 a2).wf = true → ∃ k, laws_FnExactShiftOffsets.f k l0 a1 a2 = some true := by
  intros
  apply Ev.rounds
  unfold laws_FnExactShiftOffsets.f
  repeat (first
    | exact Ev.now _
    | dsimp only
    | (refine Ev.ifp ?_ ?_; focus (first | rfl | omega | (simp; done)))
    | (refine Ev.ifn ?_ ?_; focus (first | omega | (simp; done)))
    | refine Ev.bind (laws_eqIntS_self _ (by first | omega | (simp only [List.length_map, markInts_length]; omega) | (simp only [shiftOffsets_length]; omega) | (simp; omega))) ?_
    | refine Ev.bind (laws_heldIntS_eq _ _ (by first | omega | (simp only [List.length_map, markInts_length]; omega) | (simp only [shiftOffsets_length]; omega) | (simp; omega)) (by omega) (by omega)) ?_
    | refine Ev.bind (laws_markIntS_eq _ _ (by first | omega | (simp only [List.length_map, markInts_length]; omega) | (simp only [shiftOffsets_length]; omega) | (simp; omega)) (by omega) (by omega)) ?_
    | refine Ev.bind (laws_toIntS_eq _ (by first | omega | (simp only [List.length_map, markInts_length]; omega) | (simp only [shiftOffsets_length]; omega) | (simp; omega))) ?_
    | refine Ev.bind (spec_ShiftOffsets_eq _ _ _ (by first | omega | (simp only [List.length_map, markInts_length]; omega) | (simp only [shiftOffsets_length]; omega) | (simp; omega))) ?_
    | refine Ev.bind (impl_ShiftOffsets_eq _ _ _ (by first | omega | (simp only [List.length_map, markInts_length]; omega) | (simp only [shiftOffsets_length]; omega) | (simp; omega))) ?_
    | (refine Ev.succ (g := fun k => laws_FnExactShiftOffsets.j0 k _ _ _ _ _ _) ?_; simp only [laws_FnExactShiftOffsets.j0])
    | (refine Ev.ifd (fun _ => by exact Ev.now _) (fun _ => ?_)))
end Go.Proofs.Ytaokklehbkiahaa.Pure.FnExactShiftOffsets
