/- The law FnExactPairBands of the given program, as a statement over numbers and lists alone, for all arguments; no conditions but the machine's own bounds. -/
import Derived.Test.YtaokklehbkiahaaPFnExactPairBandsx
import Derived.Test.YtaokklehbkiahaaBase
namespace Go.Proofs.Ytaokklehbkiahaa.Pure.FnExactPairBands
open Go.RowKit Go.Proofs.Ytaokklehbkiahaa.PFnExactPairBands Go.Proofs.YtaokklehbkiahaaW.PrintWords Go.Proofs.YtaokklehbkiahaaW.PrintLast Go.Proofs.Ytaokklehbkiahaa.Bas
set_option linter.unusedVariables false
set_option linter.unusedSimpArgs false
def wf41 (x : S41) : Prop := (Lit.int .i64 x.f0).wf = true ∧ (Lit.int .i64 x.f1).wf = true
theorem spec_l1In_eq (a lo hi : Int) : spec_l1In.f a lo hi = some (decide (lo ≤ a ∧ a ≤ hi)) := by
  unfold spec_l1In.f; grind
theorem impl_InRange_eq (a lo hi : Int) : impl_InRange.f a lo hi = some (decide (lo ≤ a ∧ a ≤ hi)) := by
  unfold impl_InRange.f; grind
theorem spec_Min_eq (a b : Int) : spec_Min.f a b = some (min a b) := by
  unfold spec_Min.f; grind
theorem impl_IsWindow_eq (f l c : Int) : impl_IsWindow.f f l c = some (isWindow f l c) := by
  unfold impl_IsWindow.f isWindow
  simp only [impl_InRange_eq, Option.bind_some]
  by_cases h : 1 ≤ c ∧ c ≤ 200
  · rw [wrap_id (n := c - 1) (by omega) (by omega)]; grind
  · grind
theorem spec_IsWindow_eq (f l c : Int) : spec_IsWindow.f f l c = some (isWindow f l c) := by
  unfold spec_IsWindow.f isWindow
  simp only [spec_l1In_eq, Option.bind_some]
  by_cases h : 1 ≤ c ∧ c ≤ 200
  · rw [wrap_id (n := c - 1) (by omega) (by omega)]; grind
  · grind
theorem impl_Mod_eq (p q : Int) : impl_Mod.f p q = some (gmod p q) := by
  unfold impl_Mod.f gmod
  simp only [impl_InRange_eq, Option.bind_some]
  by_cases h : 1 ≤ q ∧ q ≤ 1000000000000
  · have h1 : ¬ q = 0 := by omega
    have h5 := Int.emod_lt_of_pos p (show 0 < q by omega)
    have h7 := Int.emod_nonneg p (show q ≠ 0 by omega)
    rcases tmod_cases p q (by omega) with ⟨h2, h3⟩ | ⟨h2, h3⟩
    · simp [h, h1, h2]; omega
    · simp only [h, h1, h3]; rw [wrap_id (by omega) (by omega)]; simp; omega
  · simp [h]
theorem spec_Mod_eq (p q : Int) : spec_Mod.f p q = some (gmod p q) := by
  unfold spec_Mod.f gmod
  simp only [spec_l1In_eq, Option.bind_some]
  by_cases h : 1 ≤ q ∧ q ≤ 1000000000000
  · have h1 : ¬ q = 0 := by omega
    have h5 := Int.emod_lt_of_pos p (show 0 < q by omega)
    have h7 := Int.emod_nonneg p (show q ≠ 0 by omega)
    rcases tmod_cases p q (by omega) with ⟨h2, h3⟩ | ⟨h2, h3⟩
    · rw [h2, wrap_id (by omega) (by omega), tmod_nn (by omega), Int.add_emod_right, Int.emod_emod]
      simp [h, h1]
    · rw [h2, wrap_id (by omega) (by omega), Int.sub_add_cancel, tmod_nn (by omega), Int.emod_emod]
      simp [h, h1]
  · simp [h]
theorem impl_InWindow_eq (f l c o s : Int) : impl_InWindow.f f l c o s = some (inWindow f l c o s) := by
  unfold impl_InWindow.f inWindow
  simp only [impl_InRange_eq, impl_IsWindow_eq, impl_Mod_eq, Option.bind_some]
  by_cases hw : isWindow f l c = true
  · have hw' := hw
    unfold isWindow at hw'
    simp only [decide_eq_true_eq] at hw'
    by_cases h1 : -1000000 ≤ o ∧ o ≤ 1000000
    · by_cases h2 : -1000000 ≤ s ∧ s ≤ 1000000
      · rw [wrap_id (n := s - o) (by omega) (by omega), wrap_id (by omega) (by omega)]
        have h3 : 1 ≤ c ∧ c ≤ 1000000000000 := by omega
        simp [hw, h1, h2, gmod, h3]
      · simp [hw, h1, h2]
    · simp [hw, h1]
  · simp [hw]
theorem spec_InWindow_eq (f l c o s : Int) : spec_InWindow.f f l c o s = some (inWindow f l c o s) := by
  unfold spec_InWindow.f inWindow
  simp only [spec_l1In_eq, spec_IsWindow_eq, spec_Mod_eq, Option.bind_some]
  by_cases hw : isWindow f l c = true
  · have hw' := hw
    unfold isWindow at hw'
    simp only [decide_eq_true_eq] at hw'
    by_cases h1 : -1000000 ≤ o ∧ o ≤ 1000000
    · by_cases h2 : -1000000 ≤ s ∧ s ≤ 1000000
      · rw [wrap_id (n := s - o) (by omega) (by omega), wrap_id (by omega) (by omega)]
        have h3 : 1 ≤ c ∧ c ≤ 1000000000000 := by omega
        simp [hw, h1, h2, gmod, h3]
      · simp [hw, h1, h2]
    · simp [hw, h1]
  · simp [hw]
theorem laws_toWindow_eq (a b : Int) : laws_toWindow.f a b = some (a, b) := rfl
theorem laws_toIntS_eq (l : List Int) (hl : l.length ≤ 1048576) : Ev (fun k => laws_toIntS.f k l) l := by
  unfold laws_toIntS.f
  simp only [show (0 : Int) ≤ l.length by omega, Int.toNat_natCast, show l.length ≤ 35184372088832 by omega, if_true]
  have := Ev.copy (g := fun k ys i => laws_toIntS.l0 k l ys i) l id 0 (fun i ys r h hy hr => by
    refine Ev.succ ?_
    have h1 : (i : Int) < (l.length : Int) := by omega
    have h2 : (0 : Int) ≤ (i : Int) := by omega
    have h3 : (i : Int) < (ys.length : Int) := by omega
    simp only [laws_toIntS.l0, h1, h2, h3, if_true, rd_nat _ _ h, Int.toNat_natCast, wrap_id (n := (i : Int) + 1) (by omega) (by omega)]
    exact hr) (fun ys => by
    refine Ev.succ ?_
    simp only [laws_toIntS.l0, Int.lt_irrefl, if_false]
    exact Ev.now _)
  simpa using this
theorem laws_eqIntS_self (l : List Int) (hl : l.length ≤ 140737488355328) : Ev (fun k => laws_eqIntS.f k l l) true := by
  unfold laws_eqIntS.f
  simp only [if_true]
  have := Ev.all (g := fun k i => laws_eqIntS.l0 k l l i) l.length (fun _ => true) (fun i r h _ hr => by
    refine Ev.succ ?_
    have h1 : (i : Int) < (l.length : Int) := by omega
    have h2 : (0 : Int) ≤ (i : Int) := by omega
    simp only [laws_eqIntS.l0, h1, h2, if_true, wrap_id (n := (i : Int) + 1) (by omega) (by omega)]
    exact hr) (fun i h hf => by simp at hf) (by
    refine Ev.succ ?_
    simp only [laws_eqIntS.l0, Int.lt_irrefl, if_false]
    exact Ev.now _)
  exact evq this (by rw [List.all_eq_true]; intros; rfl)
theorem laws_markIntS_eq (l : List Int) (c : Int) (hl : l.length ≤ 140737488355328) (h0 : 0 ≤ c) (h9 : c ≤ 1000000000000000) : Ev (fun k => laws_markIntS.f k l c) (c + 1 * l.length, markInts l.length c) := by
  unfold laws_markIntS.f
  refine Ev.mark (g := fun k ys c i => laws_markIntS.l0 k ys c i) 1 (fun c => c) l c (fun i ys r h hy hr => ?_) (fun ys c' hy => ?_)
  · refine Ev.succ ?_
    have h1 : (i : Int) < (ys.length : Int) := by omega
    have h2 : (0 : Int) ≤ (i : Int) := by omega
    simp only [laws_markIntS.l0, h1, h2, if_true, Int.toNat_natCast, wrap_id (n := (i : Int) + 1) (by omega) (by omega), wrap_id (n := c + 1 * (i : Int) + 1) (by omega) (by omega)]
    exact hr
  · refine Ev.succ ?_
    simp only [laws_markIntS.l0, hy, Int.lt_irrefl, if_false]
    exact Ev.now _
theorem laws_heldIntS_eq (n : Nat) (c : Int) (hl : n ≤ 140737488355328) (h0 : 0 ≤ c) (h9 : c ≤ 1000000000000000) : Ev (fun k => laws_heldIntS.f k (markInts n c) c) (c + 1 * n) := by
  unfold laws_heldIntS.f
  refine Ev.held (g := fun k c' i => laws_heldIntS.l0 k (markInts n c) c' i) 1 n c (fun i r h hr => ?_) (fun c' => ?_)
  · refine Ev.succ ?_
    have hn := markInts_length n c
    have h1 : (i : Int) < ((markInts n c).length : Int) := by omega
    have h2 : (0 : Int) ≤ (i : Int) := by omega
    have h3 : rd (markInts n c) (i : Int) = c + 1 * (i : Int) := by rw [rd_nat _ _ (by omega)]; simp [markInts]
    simp only [laws_heldIntS.l0, h1, h2, h3, if_true, wrap_id (n := (i : Int) + 1) (by omega) (by omega), wrap_id (n := c + 1 * (i : Int) + 1) (by omega) (by omega)]
    exact hr
  · refine Ev.succ ?_
    simp only [laws_heldIntS.l0, markInts_length, Int.lt_irrefl, if_false]
    exact Ev.now _
theorem rdT_lawsWindow (xs : List S41) (i : Nat) (h : i < xs.length) : rd_T41 xs (i : Int) = xs[i] := by simp [rd_T41, h]
theorem rdT_Window (xs : List S43) (i : Nat) (h : i < xs.length) : rd_T43 xs (i : Int) = xs[i] := by simp [rd_T43, h]
theorem laws_eqWindow_self (a0 : Int) (a1 : Int) : laws_eqWindow.f a0 a1 a0 a1 = some true := by unfold laws_eqWindow.f; simp
theorem laws_szWindowS_eq (l : List S41) (a : Int) (hl : l.length ≤ maxLen) (h0 : 0 ≤ a) (h1 : a ≤ 1048576) : laws_szWindowS.f l a = some (if (l.length : Int) ≤ a then a - l.length else -1) := by
  unfold maxLen at hl; unfold laws_szWindowS.f; rw [wrap_id (by omega) (by omega)]; grind
def convWindow (x : S41) : S43 := ⟨x.f0, x.f1⟩
theorem laws_toWindowS_eq (l : List S41) (hl : l.length ≤ 1048576) : Ev (fun k => laws_toWindowS.f k l) (l.map convWindow) := by
  unfold laws_toWindowS.f
  simp only [show (0 : Int) ≤ l.length by omega, Int.toNat_natCast, show l.length ≤ 17592186044416 by omega, if_true]
  exact Ev.copy (g := fun k ys i => laws_toWindowS.l0 k l ys i) l convWindow z43 (fun i ys r h hy hr => by
    refine Ev.succ ?_
    have h1 : (i : Int) < (l.length : Int) := by omega
    have h2 : (0 : Int) ≤ (i : Int) := by omega
    have h3 : (i : Int) < (ys.length : Int) := by omega
    simp only [laws_toWindowS.l0, h1, h2, h3, if_true, rdT_lawsWindow _ _ h, laws_toWindow_eq, Option.bind_some, Int.toNat_natCast, wrap_id (n := (i : Int) + 1) (by omega) (by omega)]
    exact hr) (fun ys => by
    refine Ev.succ ?_
    simp only [laws_toWindowS.l0, Int.lt_irrefl, if_false]
    exact Ev.now _)
theorem laws_eqWindowS_self (l : List S43) (hl : l.length ≤ 1048576) : Ev (fun k => laws_eqWindowS.f k l l) true := by
  unfold laws_eqWindowS.f
  simp only [if_true]
  have := Ev.all (g := fun k i => laws_eqWindowS.l0 k l l i) l.length (fun _ => true) (fun i r h _ hr => by
    refine Ev.succ ?_
    have h1 : (i : Int) < (l.length : Int) := by omega
    have h2 : (0 : Int) ≤ (i : Int) := by omega
    simp only [laws_eqWindowS.l0, h1, h2, if_true, laws_eqWindow_self, Option.bind_some, wrap_id (n := (i : Int) + 1) (by omega) (by omega)]
    exact hr) (fun i h hf => by simp at hf) (by
    refine Ev.succ ?_
    simp only [laws_eqWindowS.l0, Int.lt_irrefl, if_false]
    exact Ev.now _)
  exact evq this (by rw [List.all_eq_true]; intros; rfl)
def mkWindow (c : Int) : S43 := ⟨c, c + 1⟩
def marksWindow (n : Nat) (c : Int) : List S43 := (List.range n).map fun (i : Nat) => mkWindow (c + 2 * (i : Int))
theorem marksWindow_length (n : Nat) (c : Int) : (marksWindow n c).length = n := by simp [marksWindow]
theorem laws_markWindowS_eq (l : List S43) (c : Int) (hl : l.length ≤ 1048576) (h0 : 0 ≤ c) (h9 : c ≤ 1000000000000000) : Ev (fun k => laws_markWindowS.f k l c) (c + 2 * l.length, marksWindow l.length c) := by
  unfold laws_markWindowS.f
  refine Ev.mark (g := fun k ys c i => laws_markWindowS.l0 k ys c i) 2 mkWindow l c (fun i ys r h hy hr => ?_) (fun ys c' hy => ?_)
  · refine Ev.succ ?_
    have h1 : (i : Int) < (ys.length : Int) := by omega
    have h2 : (0 : Int) ≤ (i : Int) := by omega
    have h4 : i < ys.length := by omega
    have r0 : ∀ (zs : List S43) (x : S43), i < zs.length → rd_T43 (zs.set i x) (i : Int) = x := fun zs x hz => by rw [rdT_Window _ _ (by simpa using hz)]; simp
    simp only [laws_markWindowS.l0, h1, h2, h4, if_true, Option.bind_some, Int.toNat_natCast, List.set_set, r0, wrap_id (n := (i : Int) + 1) (by omega) (by omega), wrap_id (n := c + 2 * (i : Int) + 1) (by omega) (by omega), wrap_id (n := c + 2 * (i : Int) + 2) (by omega) (by omega), show c + 2 * (i : Int) + 1 + 1 = c + 2 * (i : Int) + 2 by omega]
    exact hr
  · refine Ev.succ ?_
    simp only [laws_markWindowS.l0, hy, Int.lt_irrefl, if_false]
    exact Ev.now _
def inAll (l : List Int) : Bool := (List.range l.length).all (fun (i : Nat) => decide (0 ≤ rd l (i : Int) ∧ rd l (i : Int) ≤ 100000))
theorem inAll_at {l : List Int} (h : inAll l = true) (i : Nat) (hi : i < l.length) : 0 ≤ rd l (i : Int) ∧ rd l (i : Int) ≤ 100000 := by
  unfold inAll at h
  rw [List.all_eq_true] at h
  exact of_decide_eq_true (h i (List.mem_range.2 hi))
theorem impl_sized_l1 (w : List S43) (ls : List (List Int)) (j : Int) (l : List Int) (b : Bool) (hl : l.length ≤ 1048576) (hb : Ev (fun k => impl_sized.l0 k w ls (ls.length : Int) (wrap64 (j + 1))) b) :
    Ev (fun k => impl_sized.l1 k w ls (ls.length : Int) j l (l.length : Int) 0) (inAll l && b) := by
  unfold inAll
  have key : ∀ (d i : Nat), i + d = l.length → Ev (fun k => impl_sized.l1 k w ls (ls.length : Int) j l (l.length : Int) (i : Int)) ((List.range' i d).all (fun (i : Nat) => decide (0 ≤ rd l (i : Int) ∧ rd l (i : Int) ≤ 100000)) && b) := by
    intro d
    induction d with
    | zero =>
      intro i hi
      refine Ev.succ ?_
      simp only [impl_sized.l1, show ¬ (i : Int) < (l.length : Int) by omega, if_false]
      simpa using hb
    | succ d ih =>
      intro i hi
      refine Ev.succ ?_
      simp only [impl_sized.l1, show (i : Int) < (l.length : Int) by omega, show (0 : Int) ≤ (i : Int) by omega, if_true, impl_InRange_eq, Option.bind_some, wrap_id (n := (i : Int) + 1) (by omega) (by omega)]
      rw [List.range'_succ, List.all_cons]
      by_cases hP : 0 ≤ rd l (i : Int) ∧ rd l (i : Int) ≤ 100000
      · have := ih (i + 1) (by omega)
        rw [show ((i + 1 : Nat) : Int) = (i : Int) + 1 by omega] at this
        rw [decide_eq_true hP, Bool.true_and]; simp only [if_true]; exact this
      · rw [decide_eq_false hP]; simp only [Bool.false_eq_true, if_false, Bool.false_and]; exact Ev.now _
  have := key l.length 0 (by omega)
  rwa [← List.range_eq_range'] at this
theorem impl_sized_l0 (w : List S43) (ls : List (List Int)) (hs : ls.length ≤ 100) (hl : ∀ l ∈ ls, l.length ≤ 1048576) : ∀ (d i : Nat), i + d = ls.length →
    Ev (fun k => impl_sized.l0 k w ls (ls.length : Int) (i : Int)) ((ls.drop i).all (fun l => decide (l.length = w.length) && inAll l)) := by
  intro d
  induction d with
  | zero =>
    intro i hi
    refine Ev.succ ?_
    simp only [impl_sized.l0, show ¬ (i : Int) < (ls.length : Int) by omega, if_false]
    exact evq (Ev.now _) (by simp [List.drop_eq_nil_of_le (show ls.length ≤ i by omega)])
  | succ d ih =>
    intro i hi
    have hr : rd_L3 ls (i : Int) = ls[i] := by simp [rd_L3, show i < ls.length by omega]
    refine Ev.succ ?_
    simp only [impl_sized.l0, show (i : Int) < (ls.length : Int) by omega, show (0 : Int) ≤ (i : Int) by omega, if_true, hr]
    rw [List.drop_eq_getElem_cons (by omega), List.all_cons]
    by_cases hP : ls[i].length = w.length
    · have h2 := ih (i + 1) (by omega)
      rw [show ((i + 1 : Nat) : Int) = (i : Int) + 1 by omega] at h2
      simp only [show (ls[i].length : Int) = (w.length : Int) by omega, if_true, decide_eq_true hP, Bool.true_and]
      have := impl_sized_l1 w ls (i : Int) ls[i] _ (hl _ (List.getElem_mem _)) (by rw [wrap_id (by omega) (by omega)]; exact h2)
      rw [show (ls[i].length : Int) = (w.length : Int) by omega] at this
      exact this
    · simp only [show ¬ (ls[i].length : Int) = (w.length : Int) by omega, if_false, decide_eq_false hP, Bool.false_and]; exact Ev.now _
theorem impl_sized_eq (w : List S43) (ls : List (List Int)) (hs : ls.length ≤ 100) (hl : ∀ l ∈ ls, l.length ≤ 1048576) :
    Ev (fun k => impl_sized.f k w ls) (decide (1 ≤ w.length ∧ w.length ≤ 8) && ls.all (fun l => decide (l.length = w.length) && inAll l)) := by
  unfold impl_sized.f
  simp only [impl_InRange_eq, Option.bind_some]
  by_cases h : 1 ≤ w.length ∧ w.length ≤ 8
  · simp only [decide_eq_true h, decide_eq_true (show (1 : Int) ≤ (w.length : Int) ∧ (w.length : Int) ≤ 8 by omega), if_true, Bool.true_and]
    simpa using impl_sized_l0 w ls hs hl ls.length 0 (by omega)
  · simp only [decide_eq_false h, decide_eq_false (show ¬ ((1 : Int) ≤ (w.length : Int) ∧ (w.length : Int) ≤ 8) by omega), Bool.false_eq_true, if_false, Bool.false_and]
    exact Ev.now _
def sizedOk (w : List S43) (t o : List Int) : Bool := decide (1 ≤ w.length ∧ w.length ≤ 8) && decide (t.length = w.length) && decide (o.length = w.length) && inAll t && inAll o
theorem sizedOk_iff (w : List S43) (t o : List Int) : sizedOk w t o = true ↔ 1 ≤ w.length ∧ w.length ≤ 8 ∧ t.length = w.length ∧ o.length = w.length ∧ inAll t = true ∧ inAll o = true := by
  simp [sizedOk, and_assoc]
theorem spec_l22Ok_eq (w : List S43) (t o : List Int) (ht : t.length ≤ 1048576) (ho : o.length ≤ 1048576) : Ev (fun k => spec_l22Ok.f k w t o) (sizedOk w t o) := by
  unfold spec_l22Ok.f
  have k1 : ∀ (d i : Nat), i + d = o.length → Ev (fun k => spec_l22Ok.l1 k w t o (i : Int)) ((List.range' i d).all (fun (i : Nat) => decide (0 ≤ rd o (i : Int) ∧ rd o (i : Int) ≤ 100000)) && (decide (1 ≤ w.length ∧ w.length ≤ 8) && decide (t.length = w.length) && decide (o.length = w.length))) := by
    intro d
    induction d with
    | zero =>
      intro i hi
      refine Ev.succ ?_
      simp only [spec_l22Ok.l1, show ¬ (i : Int) < (o.length : Int) by omega, if_false, spec_l1In_eq, Option.bind_some]
      refine Ev.pure ?_
      by_cases h1 : 1 ≤ w.length ∧ w.length ≤ 8
      · by_cases h2 : t.length = w.length
        · by_cases h3 : o.length = w.length
          · simp [h1, h2, h3, show (1 : Int) ≤ (w.length : Int) ∧ (w.length : Int) ≤ 8 by omega]
          · simp [h1, h2, h3, show (1 : Int) ≤ (w.length : Int) ∧ (w.length : Int) ≤ 8 by omega]; omega
        · simp [h1, h2, show (1 : Int) ≤ (w.length : Int) ∧ (w.length : Int) ≤ 8 by omega]; omega
      · simp [h1, show ¬ ((1 : Int) ≤ (w.length : Int) ∧ (w.length : Int) ≤ 8) by omega]
    | succ d ih =>
      intro i hi
      refine Ev.succ ?_
      simp only [spec_l22Ok.l1, show (i : Int) < (o.length : Int) by omega, show (0 : Int) ≤ (i : Int) by omega, if_true, spec_l1In_eq, Option.bind_some, wrap_id (n := (i : Int) + 1) (by omega) (by omega)]
      rw [List.range'_succ, List.all_cons]
      by_cases hP : 0 ≤ rd o (i : Int) ∧ rd o (i : Int) ≤ 100000
      · have := ih (i + 1) (by omega)
        rw [show ((i + 1 : Nat) : Int) = (i : Int) + 1 by omega] at this
        rw [decide_eq_true hP, Bool.true_and]; simp only [if_true]; exact this
      · rw [decide_eq_false hP]; simp only [Bool.false_eq_true, if_false, Bool.false_and]; exact Ev.now _
  have k0 : ∀ (d i : Nat), i + d = t.length → Ev (fun k => spec_l22Ok.l0 k w t o (i : Int)) ((List.range' i d).all (fun (i : Nat) => decide (0 ≤ rd t (i : Int) ∧ rd t (i : Int) ≤ 100000)) && (inAll o && (decide (1 ≤ w.length ∧ w.length ≤ 8) && decide (t.length = w.length) && decide (o.length = w.length)))) := by
    intro d
    induction d with
    | zero =>
      intro i hi
      refine Ev.succ ?_
      simp only [spec_l22Ok.l0, show ¬ (i : Int) < (t.length : Int) by omega, if_false]
      have := k1 o.length 0 (by omega)
      rw [← List.range_eq_range'] at this
      exact evq this (by simp [inAll])
    | succ d ih =>
      intro i hi
      refine Ev.succ ?_
      simp only [spec_l22Ok.l0, show (i : Int) < (t.length : Int) by omega, show (0 : Int) ≤ (i : Int) by omega, if_true, spec_l1In_eq, Option.bind_some, wrap_id (n := (i : Int) + 1) (by omega) (by omega)]
      rw [List.range'_succ, List.all_cons]
      by_cases hP : 0 ≤ rd t (i : Int) ∧ rd t (i : Int) ≤ 100000
      · have := ih (i + 1) (by omega)
        rw [show ((i + 1 : Nat) : Int) = (i : Int) + 1 by omega] at this
        rw [decide_eq_true hP, Bool.true_and]; simp only [if_true]; exact this
      · rw [decide_eq_false hP]; simp only [Bool.false_eq_true, if_false, Bool.false_and]; exact Ev.now _
  have := k0 t.length 0 (by omega)
  rw [← List.range_eq_range'] at this
  refine evq this ?_
  show (inAll t && _) = _
  unfold sizedOk
  cases inAll t <;> cases inAll o <;> simp
def allIn (w : List S43) (c : Int) (t o : List Int) (s : Int) (a d : Nat) : Bool := (List.range' a d).all (fun (i : Nat) => inWindow (rd_T43 w (i : Int)).f0 (rd_T43 w (i : Int)).f1 c (rd o (i : Int)) (s + rd t (i : Int)))
def bandM (w : List S43) (c : Int) (t o : List Int) (a d : Nat) : Int := if 1 ≤ c ∧ c ≤ 200 then cnt (fun s => allIn w c t o s a d) c.toNat 0 else 0
theorem impl_bandOf_eq (w : List S43) (c : Int) (t o : List Int) (a d : Nat) (b : Int) (ht : t.length = w.length) (ho : o.length = w.length) (hw : w.length ≤ 8) (hit : inAll t = true) (hb : b = (a : Int) + d - 1) (had : a + d ≤ w.length) :
    Ev (fun k => impl_bandOf.f k w c t o (a : Int) b) (bandM w c t o a d) := by
  unfold impl_bandOf.f bandM
  simp only [impl_InRange_eq, Option.bind_some]
  by_cases hc : 1 ≤ c ∧ c ≤ 200
  · simp only [hc, if_true, and_self, decide_true]
    have inner : ∀ (n s : Int) (r : Int), 0 ≤ s → s < c → 0 ≤ n → n ≤ s → Ev (fun k => impl_bandOf.l0 k w c t o (a : Int) b (n + if allIn w c t o s a d then 1 else 0) c (s + 1)) r →
        ∀ (e i : Nat) (p : Bool), i + e = a + d → (p && (List.range' i e).all (fun (i : Nat) => inWindow (rd_T43 w (i : Int)).f0 (rd_T43 w (i : Int)).f1 c (rd o (i : Int)) (s + rd t (i : Int)))) = allIn w c t o s a d →
        Ev (fun k => impl_bandOf.l1 k w c t o (a : Int) b n s p (i : Int) c s) r := by
      intro n s r h0 hs hn hns hr e
      induction e with
      | zero =>
        intro i p hi hp
        refine Ev.succ ?_
        simp only [impl_bandOf.l1, show ¬ (i : Int) ≤ b by omega, if_false, wrap_id (n := s + 1) (by omega) (by omega), wrap_id (n := n + 1) (by omega) (by omega)]
        simp only [List.range'_zero, List.all_nil, Bool.and_true] at hp
        rw [← hp] at hr
        cases p <;> simpa using hr
      | succ e ih =>
        intro i p hi hp
        refine Ev.succ ?_
        have hti := inAll_at hit i (by omega)
        have hiw : (i : Int) < (w.length : Int) := by omega
        have hit : (i : Int) < (t.length : Int) := by omega
        have hio : (i : Int) < (o.length : Int) := by omega
        simp only [impl_bandOf.l1, show (i : Int) ≤ b by omega, hiw, hit, hio, show (0 : Int) ≤ (i : Int) by omega, if_true, impl_InWindow_eq, Option.bind_some, wrap_id (n := (i : Int) + 1) (by omega) (by omega), wrap_id (n := s + rd t (i : Int)) (by omega) (by omega)]
        rw [List.range'_succ, List.all_cons] at hp
        cases p
        · simp only [Bool.false_eq_true, if_false]
          have := ih (i + 1) false (by omega) (by simpa using hp)
          simpa using this
        · simp only [if_true]
          have := ih (i + 1) (inWindow (rd_T43 w (i : Int)).f0 (rd_T43 w (i : Int)).f1 c (rd o (i : Int)) (s + rd t (i : Int))) (by omega) (by simpa using hp)
          simpa using this
    have outer : ∀ (e : Nat) (n s : Int), 0 ≤ s → c - s = e → 0 ≤ n → n ≤ s → Ev (fun k => impl_bandOf.l0 k w c t o (a : Int) b n c s) (n + cnt (fun s => allIn w c t o s a d) e s) := by
      intro e
      induction e with
      | zero =>
        intro n s h0 hs hn hns
        refine Ev.succ ?_
        simp only [impl_bandOf.l0, show ¬ s < c by omega, if_false]
        exact evq (Ev.now _) (by simp [cnt])
      | succ e ih =>
        intro n s h0 hs hn hns
        refine Ev.succ ?_
        simp only [impl_bandOf.l0, show s < c by omega, if_true]
        refine inner n s _ h0 (by omega) hn hns ?_ d a true (by omega) (by rw [Bool.true_and]; rfl)
        refine evq (ih (n + if allIn w c t o s a d then 1 else 0) (s + 1) (by omega) (by omega) (by split <;> omega) (by split <;> omega)) ?_
        rw [Int.add_assoc]; rfl
    exact evq (outer c.toNat 0 0 (by omega) (by omega) (by omega) (by omega)) (by simp)
  · simp only [hc, if_false, decide_false, Bool.false_eq_true]; exact Ev.now _
def throughBand (w : List S43) (c : Int) (t o : List Int) : Int := if sizedOk w t o then bandM w c t o 0 w.length else 0
theorem spec_ThroughBand_eq (w : List S43) (c : Int) (t o : List Int) (hw : w.length ≤ 1048576) (ht : t.length ≤ 1048576) (ho : o.length ≤ 1048576) : Ev (fun k => spec_ThroughBand.f k w c t o) (throughBand w c t o) := by
  unfold spec_ThroughBand.f throughBand
  have stop : ∀ n s : Int, (s < min c 200 → sizedOk w t o = false) → Ev (fun k => spec_ThroughBand.l0 k w c t o n s) n := by
    intro n s h
    refine Ev.succ ?_
    simp only [spec_ThroughBand.l0, spec_Min_eq, Option.bind_some]
    by_cases hs : s < min c 200
    · simp only [hs, if_true]
      refine Ev.bind (spec_l22Ok_eq w t o ht ho) ?_
      refine Ev.succ ?_
      simp only [spec_ThroughBand.j1, h hs, Bool.false_eq_true, if_false]; exact Ev.now _
    · simp only [hs, if_false]
      refine Ev.succ ?_
      simp only [spec_ThroughBand.j1, Bool.false_eq_true, if_false]; exact Ev.now _
  cases hs : sizedOk w t o
  · simp only [Bool.false_eq_true, if_false]; exact stop 0 0 (fun _ => hs)
  · obtain ⟨g1, g2, g3, g4, g5, g6⟩ := (sizedOk_iff _ _ _).1 hs
    simp only [if_true]
    have inner : ∀ (n s : Int) (r : Int), 0 ≤ s → s < min c 200 → 0 ≤ n → n ≤ s → Ev (fun k => spec_ThroughBand.l0 k w c t o (n + if allIn w c t o s 0 w.length then 1 else 0) (s + 1)) r →
        ∀ (e i : Nat) (p : Bool), i + e = w.length → (p && (List.range' i e).all (fun (i : Nat) => inWindow (rd_T43 w (i : Int)).f0 (rd_T43 w (i : Int)).f1 c (rd o (i : Int)) (s + rd t (i : Int)))) = allIn w c t o s 0 w.length →
        Ev (fun k => spec_ThroughBand.l1 k w c t o n s p (i : Int)) r := by
      intro n s r h0 hs hn hns hr e
      induction e with
      | zero =>
        intro i p hi hp
        refine Ev.succ ?_
        simp only [spec_ThroughBand.l1, show ¬ (i : Int) < (w.length : Int) by omega, if_false, wrap_id (n := s + 1) (by omega) (by omega), wrap_id (n := n + 1) (by omega) (by omega)]
        simp only [List.range'_zero, List.all_nil, Bool.and_true] at hp
        rw [← hp] at hr
        cases p <;> simpa using hr
      | succ e ih =>
        intro i p hi hp
        refine Ev.succ ?_
        have hti := inAll_at g5 i (by omega)
        have hiw : (i : Int) < (w.length : Int) := by omega
        have hit : (i : Int) < (t.length : Int) := by omega
        have hio : (i : Int) < (o.length : Int) := by omega
        simp only [spec_ThroughBand.l1, hiw, hit, hio, show (0 : Int) ≤ (i : Int) by omega, if_true, spec_InWindow_eq, Option.bind_some, wrap_id (n := (i : Int) + 1) (by omega) (by omega), wrap_id (n := s + rd t (i : Int)) (by omega) (by omega)]
        rw [List.range'_succ, List.all_cons] at hp
        cases p
        · simp only [Bool.false_eq_true, if_false]
          have := ih (i + 1) false (by omega) (by simpa using hp)
          simpa using this
        · simp only [if_true]
          have := ih (i + 1) (inWindow (rd_T43 w (i : Int)).f0 (rd_T43 w (i : Int)).f1 c (rd o (i : Int)) (s + rd t (i : Int))) (by omega) (by simpa using hp)
          simpa using this
    have outer : ∀ (e : Nat) (n s : Int), 0 ≤ s → s + e = max (min c 200) 0 → 0 ≤ n → n ≤ s → Ev (fun k => spec_ThroughBand.l0 k w c t o n s) (n + cnt (fun s => allIn w c t o s 0 w.length) e s) := by
      intro e
      induction e with
      | zero =>
        intro n s h0 hse hn hns
        exact evq (stop n s (fun h => by omega)) (by simp [cnt])
      | succ e ih =>
        intro n s h0 hse hn hns
        refine Ev.succ ?_
        simp only [spec_ThroughBand.l0, spec_Min_eq, Option.bind_some, show s < min c 200 by omega, if_true]
        refine Ev.bind (spec_l22Ok_eq w t o ht ho) ?_
        refine Ev.succ ?_
        simp only [spec_ThroughBand.j1, hs, if_true]
        refine inner n s _ h0 (by omega) hn hns ?_ w.length 0 true (by omega) (by rw [Bool.true_and]; rfl)
        refine evq (ih (n + if allIn w c t o s 0 w.length then 1 else 0) (s + 1) (by omega) (by omega) (by split <;> omega) (by split <;> omega)) ?_
        rw [Int.add_assoc]; rfl
    refine evq (outer (min c 200).toNat 0 0 (by omega) (by omega) (by omega) (by omega)) ?_
    unfold bandM
    by_cases hc : 1 ≤ c ∧ c ≤ 200
    · rw [if_pos hc, show min c 200 = c by omega]; simp
    · rw [if_neg hc, Int.zero_add]
      by_cases hc1 : c < 1
      · rw [show (min c 200).toNat = 0 by omega]; rfl
      · refine cnt_none _ _ _ (fun x _ _ => ?_)
        have hwin : isWindow (rd_T43 w 0).f0 (rd_T43 w 0).f1 c = false := by
          unfold isWindow; rw [decide_eq_false]; omega
        unfold allIn
        obtain ⟨m, hm⟩ : ∃ m, w.length = m + 1 := ⟨w.length - 1, by omega⟩
        rw [hm, List.range'_succ, List.all_cons]
        simp [inWindow, hwin]
def pairBands (w : List S43) (c : Int) (t o : List Int) : List Int := if sizedOk w t o then (List.range (w.length - 1)).map (fun i => bandM w c t o i 2) else []
theorem pairBands_le (w : List S43) (c : Int) (t o : List Int) : (pairBands w c t o).length ≤ 8 := by
  unfold pairBands
  split
  · rename_i h
    have := (sizedOk_iff _ _ _).1 h
    simp; omega
  · simp
theorem impl_PairBands_eq (w : List S43) (c : Int) (t o : List Int) (hw : w.length ≤ 1048576) (ht : t.length ≤ 1048576) (ho : o.length ≤ 1048576) : Ev (fun k => impl_PairBands.f k w c t o) (pairBands w c t o) := by
  unfold impl_PairBands.f pairBands
  simp only [Option.bind_some]
  refine Ev.bind (impl_sized_eq w [t, o] (by simp) (by simp; omega)) ?_
  have e : (decide (1 ≤ w.length ∧ w.length ≤ 8) && [t, o].all (fun l => decide (l.length = w.length) && inAll l)) = sizedOk w t o := by
    unfold sizedOk
    rw [Bool.eq_iff_iff]
    simp only [List.all_cons, List.all_nil, Bool.and_true, Bool.and_eq_true, decide_eq_true_eq]
    grind
  rw [e]
  cases hs : sizedOk w t o
  · simp only [Bool.false_eq_true, if_false]; exact Ev.now _
  obtain ⟨h1, h2, h3, h4, h5, h6⟩ := (sizedOk_iff _ _ _).1 hs
  simp only [if_true]
  have key : ∀ (d i : Nat), 1 ≤ i → i + d = w.length → Ev (fun k => impl_PairBands.l0 k w c t o ((List.range (i - 1)).map (fun i => bandM w c t o i 2)) (i : Int)) ((List.range (w.length - 1)).map (fun i => bandM w c t o i 2)) := by
    intro d
    induction d with
    | zero =>
      intro i _ hi
      refine Ev.succ ?_
      simp only [impl_PairBands.l0, show ¬ (i : Int) < (w.length : Int) by omega, if_false]
      exact evq (Ev.now _) (by rw [show i = w.length by omega])
    | succ d ih =>
      intro i hi1 hi
      refine Ev.succ ?_
      have ihh := ih (i + 1) (by omega) (by omega)
      obtain ⟨j, rfl⟩ : ∃ j, i = j + 1 := ⟨i - 1, by omega⟩
      rw [show ((j + 1 + 1 : Nat) : Int) = ((j + 1 : Nat) : Int) + 1 by omega, show j + 1 + 1 - 1 = j + 1 by omega, List.range_succ, List.map_append] at ihh
      simp only [impl_PairBands.l0, show ((j + 1 : Nat) : Int) < (w.length : Int) by omega, if_true, wrap_id (n := ((j + 1 : Nat) : Int) - 1) (by omega) (by omega), wrap_id (n := ((j + 1 : Nat) : Int) + 1) (by omega) (by omega), show ((j + 1 : Nat) : Int) - 1 = (j : Int) by omega, wrap_id (n := (j : Int)) (by omega) (by omega)]
      refine Ev.bind (impl_bandOf_eq w c t o j 2 _ h3 h4 h2 h5 (by omega) (by omega)) ?_
      simp only [List.length_map, List.length_range, show j + 1 - 1 < 17592186044416 by omega, if_true]
      exact ihh
  have := key (w.length - 1) 1 (by omega) (by omega)
  simpa using this
theorem rd_cut (l : List Int) (a n k : Nat) (h : a + n ≤ l.length) (hk : k < n) : rd ((l.take (a + n)).drop a) (k : Int) = rd l ((a + k : Nat) : Int) := by
  rw [rd_nat _ _ (by simp; omega), rd_nat _ _ (by omega)]; simp
theorem rdW_cut (l : List S43) (a n k : Nat) (h : a + n ≤ l.length) (hk : k < n) : rd_T43 ((l.take (a + n)).drop a) (k : Int) = rd_T43 l ((a + k : Nat) : Int) := by
  rw [rdT_Window _ _ (by simp; omega), rdT_Window _ _ (by omega)]; simp
theorem pair_cut (w : List S43) (c : Int) (t o : List Int) (j : Nat) (hj : j + 2 ≤ w.length) (ht : t.length = w.length) (ho : o.length = w.length) (h8 : w.length ≤ 8) (hit : inAll t = true) (hio : inAll o = true) :
    throughBand ((w.take (j + 2)).drop j) c ((t.take (j + 2)).drop j) ((o.take (j + 2)).drop j) = bandM w c t o j 2 := by
  have l1 : ((w.take (j + 2)).drop j).length = 2 := by simp; omega
  have l2 : ((t.take (j + 2)).drop j).length = 2 := by simp; omega
  have l3 : ((o.take (j + 2)).drop j).length = 2 := by simp; omega
  have a1 : inAll ((t.take (j + 2)).drop j) = true := by
    unfold inAll; rw [l2, List.all_eq_true]
    intro k hk
    rw [rd_cut t j 2 k (by omega) (List.mem_range.1 hk)]
    exact decide_eq_true (inAll_at hit _ (by have := List.mem_range.1 hk; omega))
  have a2 : inAll ((o.take (j + 2)).drop j) = true := by
    unfold inAll; rw [l3, List.all_eq_true]
    intro k hk
    rw [rd_cut o j 2 k (by omega) (List.mem_range.1 hk)]
    exact decide_eq_true (inAll_at hio _ (by have := List.mem_range.1 hk; omega))
  unfold throughBand
  rw [if_pos ((sizedOk_iff _ _ _).2 ⟨by omega, by omega, by omega, by omega, a1, a2⟩), l1]
  unfold bandM
  have e : (fun s => allIn ((w.take (j + 2)).drop j) c ((t.take (j + 2)).drop j) ((o.take (j + 2)).drop j) s 0 2) = (fun s => allIn w c t o s j 2) := by
    funext s
    unfold allIn
    simp only [List.range'_succ, List.range'_zero, List.all_cons, List.all_nil, Bool.and_true]
    have r0 := rd_cut t j 2 0 (by omega) (by omega)
    have r1 := rd_cut t j 2 1 (by omega) (by omega)
    have s0 := rd_cut o j 2 0 (by omega) (by omega)
    have s1 := rd_cut o j 2 1 (by omega) (by omega)
    have w0 := rdW_cut w j 2 0 (by omega) (by omega)
    have w1 := rdW_cut w j 2 1 (by omega) (by omega)
    simp only [Nat.add_zero, Nat.zero_add] at r0 r1 s0 s1 w0 w1 ⊢
    rw [r0, r1, s0, s1, w0, w1]
  rw [e]
theorem spec_PairBands_eq (w : List S43) (c : Int) (t o : List Int) (hw : w.length ≤ 1048576) (ht : t.length ≤ 1048576) (ho : o.length ≤ 1048576) : Ev (fun k => spec_PairBands.f k w c t o) (pairBands w c t o) := by
  unfold spec_PairBands.f pairBands
  cases hs : sizedOk w t o
  · simp only [Bool.false_eq_true, if_false]
    refine Ev.succ ?_
    by_cases h1 : (1 : Int) < (w.length : Int)
    · simp only [spec_PairBands.l0, h1, if_true]
      refine Ev.bind (spec_l22Ok_eq w t o ht ho) ?_
      simp only [hs, Bool.false_eq_true, if_false]; exact Ev.now _
    · simp only [spec_PairBands.l0, h1, if_false]; exact Ev.now _
  obtain ⟨h1, h2, h3, h4, h5, h6⟩ := (sizedOk_iff _ _ _).1 hs
  simp only [if_true]
  have key : ∀ (d i : Nat), 1 ≤ i → i + d = w.length → Ev (fun k => spec_PairBands.l0 k w c t o ((List.range (i - 1)).map (fun i => bandM w c t o i 2)) (i : Int)) ((List.range (w.length - 1)).map (fun i => bandM w c t o i 2)) := by
    intro d
    induction d with
    | zero =>
      intro i _ hi
      refine Ev.succ ?_
      simp only [spec_PairBands.l0, show ¬ (i : Int) < (w.length : Int) by omega, if_false]
      exact evq (Ev.now _) (by rw [show i = w.length by omega])
    | succ d ih =>
      intro i hi1 hi
      refine Ev.succ ?_
      have ihh := ih (i + 1) (by omega) (by omega)
      obtain ⟨j, rfl⟩ : ∃ j, i = j + 1 := ⟨i - 1, by omega⟩
      rw [show ((j + 1 + 1 : Nat) : Int) = ((j + 1 : Nat) : Int) + 1 by omega, show j + 1 + 1 - 1 = j + 1 by omega, List.range_succ, List.map_append] at ihh
      simp only [spec_PairBands.l0, show ((j + 1 : Nat) : Int) < (w.length : Int) by omega, if_true, wrap_id (n := ((j + 1 : Nat) : Int) - 1) (by omega) (by omega), wrap_id (n := ((j + 1 : Nat) : Int) + 1) (by omega) (by omega), show ((j + 1 : Nat) : Int) - 1 = (j : Int) by omega, wrap_id (n := (j : Int)) (by omega) (by omega)]
      refine Ev.bind (spec_l22Ok_eq w t o ht ho) ?_
      simp only [hs, if_true, show (0 : Int) ≤ (j : Int) by omega, show (j : Int) ≤ ((j + 1 : Nat) : Int) + 1 by omega, show ((j + 1 : Nat) : Int) + 1 ≤ (w.length : Int) by omega, show ((j + 1 : Nat) : Int) + 1 ≤ (t.length : Int) by omega, show ((j + 1 : Nat) : Int) + 1 ≤ (o.length : Int) by omega, show (((j + 1 : Nat) : Int) + 1).toNat = j + 2 by omega, Int.toNat_natCast]
      refine Ev.bind (spec_ThroughBand_eq _ _ _ _ (by simp; omega) (by simp; omega) (by simp; omega)) ?_
      rw [pair_cut w c t o j (by omega) h3 h4 h2 h5 h6]
      simp only [List.length_map, List.length_range, show j + 1 - 1 < 17592186044416 by omega, if_true]
      exact ihh
  have := key (w.length - 1) 1 (by omega) (by omega)
  simpa using this
theorem holds : ∀ (l0 : List S41) (a1 : Int) (l2 : List Int) (l3 : List Int), l0.length ≤ maxLen → (∀ x ∈ l0, wf41 x) → (Lit.int .i64 a1).wf = true → l2.length ≤ maxLen → (∀ x ∈ l2, (Lit.int .i64 x).wf = true) → l3.length ≤ maxLen → (∀ x ∈ l3, (Lit.int .i64 x).wf = true) → ∃ k, laws_FnExactPairBands.f k l0 a1 l2 l3 = some true := by
  intros
  apply Ev.rounds
  unfold laws_FnExactPairBands.f
  repeat (first
    | exact Ev.now _
    | dsimp only
    | (refine Ev.ifp ?_ ?_; focus (first | rfl | omega | (simp; done)))
    | (refine Ev.ifn ?_ ?_; focus (first | omega | (simp; done)))
    | refine Ev.bind (laws_eqIntS_self _ (by first | omega | (simp only [List.length_map, markInts_length]; omega) | (exact Nat.le_trans (pairBands_le _ _ _ _) (by omega)) | (simp; omega))) ?_
    | refine Ev.bindE (laws_eqWindow_self ..) ?_
    | refine Ev.bind (laws_eqWindowS_self _ (by first | omega | (simp only [List.length_map, markInts_length]; omega) | (exact Nat.le_trans (pairBands_le _ _ _ _) (by omega)) | (simp; omega))) ?_
    | refine Ev.bind (laws_heldIntS_eq _ _ (by first | omega | (simp only [List.length_map, markInts_length]; omega) | (exact Nat.le_trans (pairBands_le _ _ _ _) (by omega)) | (simp; omega)) (by omega) (by first | omega | (simp only [List.length_map, markInts_length]; omega) | (exact Nat.le_trans (pairBands_le _ _ _ _) (by omega)) | (simp; omega))) ?_
    | refine Ev.bind (laws_markIntS_eq _ _ (by first | omega | (simp only [List.length_map, markInts_length]; omega) | (exact Nat.le_trans (pairBands_le _ _ _ _) (by omega)) | (simp; omega)) (by omega) (by first | omega | (simp only [List.length_map, markInts_length]; omega) | (exact Nat.le_trans (pairBands_le _ _ _ _) (by omega)) | (simp; omega))) ?_
    | refine Ev.bind (laws_markWindowS_eq _ _ (by first | omega | (simp only [List.length_map, markInts_length]; omega) | (exact Nat.le_trans (pairBands_le _ _ _ _) (by omega)) | (simp; omega)) (by omega) (by first | omega | (simp only [List.length_map, markInts_length]; omega) | (exact Nat.le_trans (pairBands_le _ _ _ _) (by omega)) | (simp; omega))) ?_
    | refine Ev.szb (laws_szWindowS_eq _ _ (by assumption) (by omega) (by omega)) (fun _ => ?_) (fun _ => ?_)
    | refine Ev.bind (laws_toIntS_eq _ (by first | omega | (simp only [List.length_map, markInts_length]; omega) | (exact Nat.le_trans (pairBands_le _ _ _ _) (by omega)) | (simp; omega))) ?_
    | refine Ev.bindE (laws_toWindow_eq ..) ?_
    | refine Ev.bind (laws_toWindowS_eq _ (by first | omega | (simp only [List.length_map, markInts_length]; omega) | (exact Nat.le_trans (pairBands_le _ _ _ _) (by omega)) | (simp; omega))) ?_
    | refine Ev.bind (spec_PairBands_eq _ _ _ _ (by first | omega | (simp only [List.length_map, markInts_length]; omega) | (exact Nat.le_trans (pairBands_le _ _ _ _) (by omega)) | (simp; omega)) (by first | omega | (simp only [List.length_map, markInts_length]; omega) | (exact Nat.le_trans (pairBands_le _ _ _ _) (by omega)) | (simp; omega)) (by first | omega | (simp only [List.length_map, markInts_length]; omega) | (exact Nat.le_trans (pairBands_le _ _ _ _) (by omega)) | (simp; omega))) ?_
    | refine Ev.bind (impl_PairBands_eq _ _ _ _ (by first | omega | (simp only [List.length_map, markInts_length]; omega) | (exact Nat.le_trans (pairBands_le _ _ _ _) (by omega)) | (simp; omega)) (by first | omega | (simp only [List.length_map, markInts_length]; omega) | (exact Nat.le_trans (pairBands_le _ _ _ _) (by omega)) | (simp; omega)) (by first | omega | (simp only [List.length_map, markInts_length]; omega) | (exact Nat.le_trans (pairBands_le _ _ _ _) (by omega)) | (simp; omega))) ?_
    | (refine Ev.succ (g := fun k => laws_FnExactPairBands.j0 k _ _ _ _ _ _ _) ?_; simp only [laws_FnExactPairBands.j0])
    | (refine Ev.ifd (fun _ => by exact Ev.now _) (fun _ => ?_)))
end Go.Proofs.Ytaokklehbkiahaa.Pure.FnExactPairBands
