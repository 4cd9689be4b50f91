/- The law FnExactBestOffset of the given program, as a statement over numbers and lists alone, for all arguments; no conditions but the machine's own bounds. -/
import Derived.Test.YtaokklehbkiahaaPFnExactBestOffsetx
import Derived.Test.YtaokklehbkiahaaBase
namespace Go.Proofs.Ytaokklehbkiahaa.Pure.FnExactBestOffset
open Go.RowKit Go.Proofs.Ytaokklehbkiahaa.PFnExactBestOffset Go.Proofs.YtaokklehbkiahaaW.PrintWords Go.Proofs.YtaokklehbkiahaaW.PrintLast Go.Proofs.Ytaokklehbkiahaa.Bas
set_option linter.unusedVariables false
set_option linter.unusedSimpArgs false
theorem spec_l1In_eq (a lo hi : Int) : spec_l1In.f a lo hi = some (decide (lo ≤ a ∧ a ≤ hi)) := by
  unfold spec_l1In.f; grind
theorem impl_InRange_eq (a lo hi : Int) : impl_InRange.f a lo hi = some (decide (lo ≤ a ∧ a ≤ hi)) := by
  unfold impl_InRange.f; grind
theorem impl_IsWindow_eq (f l c : Int) : impl_IsWindow.f f l c = some (isWindow f l c) := by
  unfold impl_IsWindow.f isWindow
  simp only [impl_InRange_eq, Option.bind_some]
  by_cases h : 1 ≤ c ∧ c ≤ 200
  · rw [wrap_id (n := c - 1) (by omega) (by omega)]; grind
  · grind
theorem spec_IsWindow_eq (f l c : Int) : spec_IsWindow.f f l c = some (isWindow f l c) := by
  unfold spec_IsWindow.f isWindow
  simp only [spec_l1In_eq, Option.bind_some]
  by_cases h : 1 ≤ c ∧ c ≤ 200
  · rw [wrap_id (n := c - 1) (by omega) (by omega)]; grind
  · grind
theorem impl_Mod_eq (p q : Int) : impl_Mod.f p q = some (gmod p q) := by
  unfold impl_Mod.f gmod
  simp only [impl_InRange_eq, Option.bind_some]
  by_cases h : 1 ≤ q ∧ q ≤ 1000000000000
  · have h1 : ¬ q = 0 := by omega
    have h5 := Int.emod_lt_of_pos p (show 0 < q by omega)
    have h7 := Int.emod_nonneg p (show q ≠ 0 by omega)
    rcases tmod_cases p q (by omega) with ⟨h2, h3⟩ | ⟨h2, h3⟩
    · simp [h, h1, h2]; omega
    · simp only [h, h1, h3]; rw [wrap_id (by omega) (by omega)]; simp; omega
  · simp [h]
theorem spec_Mod_eq (p q : Int) : spec_Mod.f p q = some (gmod p q) := by
  unfold spec_Mod.f gmod
  simp only [spec_l1In_eq, Option.bind_some]
  by_cases h : 1 ≤ q ∧ q ≤ 1000000000000
  · have h1 : ¬ q = 0 := by omega
    have h5 := Int.emod_lt_of_pos p (show 0 < q by omega)
    have h7 := Int.emod_nonneg p (show q ≠ 0 by omega)
    rcases tmod_cases p q (by omega) with ⟨h2, h3⟩ | ⟨h2, h3⟩
    · rw [h2, wrap_id (by omega) (by omega), tmod_nn (by omega), Int.add_emod_right, Int.emod_emod]
      simp [h, h1]
    · rw [h2, wrap_id (by omega) (by omega), Int.sub_add_cancel, tmod_nn (by omega), Int.emod_emod]
      simp [h, h1]
  · simp [h]
theorem impl_InWindow_eq (f l c o s : Int) : impl_InWindow.f f l c o s = some (inWindow f l c o s) := by
  unfold impl_InWindow.f inWindow
  simp only [impl_InRange_eq, impl_IsWindow_eq, impl_Mod_eq, Option.bind_some]
  by_cases hw : isWindow f l c = true
  · have hw' := hw
    unfold isWindow at hw'
    simp only [decide_eq_true_eq] at hw'
    by_cases h1 : -1000000 ≤ o ∧ o ≤ 1000000
    · by_cases h2 : -1000000 ≤ s ∧ s ≤ 1000000
      · rw [wrap_id (n := s - o) (by omega) (by omega), wrap_id (by omega) (by omega)]
        have h3 : 1 ≤ c ∧ c ≤ 1000000000000 := by omega
        simp [hw, h1, h2, gmod, h3]
      · simp [hw, h1, h2]
    · simp [hw, h1]
  · simp [hw]
theorem spec_InWindow_eq (f l c o s : Int) : spec_InWindow.f f l c o s = some (inWindow f l c o s) := by
  unfold spec_InWindow.f inWindow
  simp only [spec_l1In_eq, spec_IsWindow_eq, spec_Mod_eq, Option.bind_some]
  by_cases hw : isWindow f l c = true
  · have hw' := hw
    unfold isWindow at hw'
    simp only [decide_eq_true_eq] at hw'
    by_cases h1 : -1000000 ≤ o ∧ o ≤ 1000000
    · by_cases h2 : -1000000 ≤ s ∧ s ≤ 1000000
      · rw [wrap_id (n := s - o) (by omega) (by omega), wrap_id (by omega) (by omega)]
        have h3 : 1 ≤ c ∧ c ≤ 1000000000000 := by omega
        simp [hw, h1, h2, gmod, h3]
      · simp [hw, h1, h2]
    · simp [hw, h1]
  · simp [hw]
theorem laws_toWindow_eq (a b : Int) : laws_toWindow.f a b = some (a, b) := rfl
theorem impl_Band_l0 (af al bf bl c t o : Int) (hc : c ≤ 200) (ht : 0 ≤ t ∧ t ≤ 100000) : ∀ (d : Nat) (n s : Int), 0 ≤ s → c - s = d → 0 ≤ n → n ≤ s →
    Ev (fun k => impl_Band.l0 k c t o n c s af al bf bl) (n + cnt (bandP af al bf bl c t o) d s) := by
  intro d
  induction d with
  | zero =>
    intro n s h0 hd hn hns
    refine Ev.succ ?_
    simp only [impl_Band.l0, show ¬ s < c by omega, if_false]
    exact evq (Ev.now _) (by simp [cnt])
  | succ d ih =>
    intro n s h0 hd hn hns
    refine Ev.succ ?_
    simp only [impl_Band.l0, show s < c by omega, if_true, impl_InWindow_eq, Option.bind_some, wrap_id (n := s + t) (by omega) (by omega), wrap_id (n := s + 1) (by omega) (by omega), wrap_id (n := n + 1) (by omega) (by omega)]
    unfold cnt
    have i1 := ih (n + 1) (s + 1) (by omega) (by omega) (by omega) (by omega)
    have i2 := ih n (s + 1) (by omega) (by omega) (by omega) (by omega)
    rw [Int.add_assoc] at i1
    cases h1 : inWindow af al c 0 s <;> cases h2 : inWindow bf bl c o (s + t) <;> simp only [bandP, h1, h2, Bool.true_and, Bool.false_and, Bool.and_self, Bool.and_false, if_true, if_false, Bool.false_eq_true, Int.zero_add] <;> assumption
theorem impl_Band_eq (af al bf bl c t o : Int) : Ev (fun k => impl_Band.f k af al bf bl c t o) (band af al bf bl c t o) := by
  unfold impl_Band.f band
  simp only [impl_IsWindow_eq, impl_InRange_eq, Option.bind_some]
  have hj : ∀ b : Bool, (b = false → 1 ≤ c ∧ c ≤ 200 ∧ 0 ≤ t ∧ t ≤ 100000) → Ev (fun k => impl_Band.j0 k c t o b af al bf bl) (if b then 0 else cnt (bandP af al bf bl c t o) c.toNat 0) := by
    intro b hb
    refine Ev.succ ?_
    cases b
    · obtain ⟨h1, h2, h3, h4⟩ := hb rfl
      simp only [impl_Band.j0, Bool.false_eq_true, if_false]
      exact evq (impl_Band_l0 af al bf bl c t o h2 ⟨h3, h4⟩ c.toNat 0 0 (by omega) (by omega) (by omega) (by omega)) (by simp)
    · simp only [impl_Band.j0, if_true]; exact Ev.now _
  cases ha : isWindow af al c
  · simpa using hj true (by simp)
  · have hb := (isWindow_iff _ _ _).1 ha
    cases hb' : isWindow bf bl c
    · simpa using hj true (by simp)
    · by_cases ht : 0 ≤ t ∧ t ≤ 100000
      · by_cases ho : 0 ≤ o ∧ o ≤ 100000
        · simpa [ht, ho] using hj false (fun _ => ⟨hb.1, hb.2.1, ht.1, ht.2⟩)
        · simpa [ht, ho] using hj true (by simp)
      · simpa [ht] using hj true (by simp)
theorem spec_Band_l0 (af al bf bl c t o : Int) (hc : c ≤ 200) (ht : 0 ≤ t ∧ t ≤ 100000) : ∀ (d : Nat) (n s : Int), 0 ≤ s → c - s = d → 0 ≤ n → n ≤ s →
    Ev (fun k => spec_Band.l0 k c t o n s af al bf bl) (n + cnt (bandP af al bf bl c t o) d s) := by
  intro d
  induction d with
  | zero =>
    intro n s h0 hd hn hns
    refine Ev.succ ?_
    simp only [spec_Band.l0, show ¬ s < c by omega, if_false]
    exact evq (Ev.now _) (by simp [cnt])
  | succ d ih =>
    intro n s h0 hd hn hns
    refine Ev.succ ?_
    simp only [spec_Band.l0, show s < c by omega, if_true, spec_InWindow_eq, Option.bind_some, wrap_id (n := s + t) (by omega) (by omega), wrap_id (n := s + 1) (by omega) (by omega), wrap_id (n := n + 1) (by omega) (by omega)]
    unfold cnt
    have i1 := ih (n + 1) (s + 1) (by omega) (by omega) (by omega) (by omega)
    have i2 := ih n (s + 1) (by omega) (by omega) (by omega) (by omega)
    rw [Int.add_assoc] at i1
    cases h1 : inWindow af al c 0 s <;> cases h2 : inWindow bf bl c o (s + t) <;> simp only [bandP, h1, h2, Bool.true_and, Bool.false_and, Bool.and_self, Bool.and_false, if_true, if_false, Bool.false_eq_true, Int.zero_add] <;> assumption
theorem spec_Band_eq (af al bf bl c t o : Int) : Ev (fun k => spec_Band.f k af al bf bl c t o) (band af al bf bl c t o) := by
  unfold spec_Band.f band
  simp only [spec_IsWindow_eq, spec_l1In_eq, Option.bind_some]
  have hj : ∀ b : Bool, (b = false → 1 ≤ c ∧ c ≤ 200 ∧ 0 ≤ t ∧ t ≤ 100000) → Ev (fun k => spec_Band.j0 k c t o b af al bf bl) (if b then 0 else cnt (bandP af al bf bl c t o) c.toNat 0) := by
    intro b hb
    refine Ev.succ ?_
    cases b
    · obtain ⟨h1, h2, h3, h4⟩ := hb rfl
      simp only [spec_Band.j0, Bool.false_eq_true, if_false]
      exact evq (spec_Band_l0 af al bf bl c t o h2 ⟨h3, h4⟩ c.toNat 0 0 (by omega) (by omega) (by omega) (by omega)) (by simp)
    · simp only [spec_Band.j0, if_true]; exact Ev.now _
  cases ha : isWindow af al c
  · simpa using hj true (by simp)
  · have hb := (isWindow_iff _ _ _).1 ha
    cases hb' : isWindow bf bl c
    · simpa using hj true (by simp)
    · by_cases ht : 0 ≤ t ∧ t ≤ 100000
      · by_cases ho : 0 ≤ o ∧ o ≤ 100000
        · simpa [ht, ho] using hj false (fun _ => ⟨hb.1, hb.2.1, ht.1, ht.2⟩)
        · simpa [ht, ho] using hj true (by simp)
      · simpa [ht] using hj true (by simp)
theorem spec_BestOffset_eq (af al bf bl c t : Int) : Ev (fun k => spec_BestOffset.f k af al bf bl c t) (bestOffset af al bf bl c t) := by
  unfold spec_BestOffset.f bestOffset
  simp only [spec_IsWindow_eq, spec_l1In_eq, Option.bind_some]
  have hj : ∀ b : Bool, (b = false → 1 ≤ c ∧ c ≤ 200) → Ev (fun k => spec_BestOffset.j0 k c t b af al bf bl) (if b then -1 else argBest (band af al bf bl c t) c.toNat) := by
    intro b hb
    refine Ev.succ ?_
    cases b
    · obtain ⟨h1, h2⟩ := hb rfl
      simp only [spec_BestOffset.j0, Bool.false_eq_true, if_false]
      have h := Ev.fold (g := fun k b i => spec_BestOffset.l0 k c t b i af al bf bl) c.toNat (fun b (o : Nat) => if band af al bf bl c t o > band af al bf bl c t b then (o : Int) else b) id (fun _ _ => True) (fun i s r h _ hr => by
        refine Ev.succ ?_
        have hr' := hr trivial
        simp only [spec_BestOffset.l0, show (i : Int) < c by omega, if_true, wrap_id (n := (i : Int) + 1) (by omega) (by omega)]
        refine Ev.bind (spec_Band_eq _ _ _ _ _ _ _) ?_
        refine Ev.bind (spec_Band_eq _ _ _ _ _ _ _) ?_
        by_cases hx : band af al bf bl c t i > band af al bf bl c t s <;> simp only [hx, if_true, if_false] at hr' ⊢ <;> exact hr') (fun _ _ _ _ => trivial) (fun s _ => by
        refine Ev.succ ?_
        simp only [spec_BestOffset.l0, show ¬ ((c.toNat : Int) < c) by omega, if_false]
        exact Ev.now _) 0 trivial
      obtain ⟨K, hK⟩ := h
      obtain ⟨K2, hK2⟩ := spec_Band_eq af al bf bl c t 0
      refine ⟨K + K2, fun k hk => ?_⟩
      have := hK (k + 1) (by omega)
      simp only [spec_BestOffset.l0, show (0 : Int) < c by omega, if_true, hK2 k (by omega), Option.bind_some, Int.lt_irrefl, gt_iff_lt, if_false, show wrap64 (0 + 1) = 1 by unfold wrap64; omega] at this
      exact this
    · simp only [spec_BestOffset.j0, if_true]; exact Ev.now _
  cases ha : isWindow af al c
  · simpa using hj true (by simp)
  · have hb := (isWindow_iff _ _ _).1 ha
    cases hb' : isWindow bf bl c
    · simpa using hj true (by simp)
    · by_cases ht : 0 ≤ t ∧ t ≤ 100000
      · simpa [ht] using hj false (fun _ => ⟨hb.1, hb.2.1⟩)
      · simpa [ht] using hj true (by simp)
theorem impl_BestOffset_eq (af al bf bl c t : Int) : Ev (fun k => impl_BestOffset.f k af al bf bl c t) (bestOffset af al bf bl c t) := by
  unfold impl_BestOffset.f bestOffset
  simp only [impl_IsWindow_eq, impl_InRange_eq, Option.bind_some]
  have hj : ∀ b : Bool, (b = false → 1 ≤ c ∧ c ≤ 200) → Ev (fun k => impl_BestOffset.j0 k c t b af al bf bl) (if b then -1 else argBest (band af al bf bl c t) c.toNat) := by
    intro b hb
    refine Ev.succ ?_
    cases b
    · obtain ⟨h1, h2⟩ := hb rfl
      simp only [impl_BestOffset.j0, Bool.false_eq_true, if_false]
      have key : ∀ (d i : Nat) (b : Int), 1 ≤ i → i + d = c.toNat → Ev (fun k => impl_BestOffset.l0 k c t b (band af al bf bl c t b) c (i : Int) af al bf bl) ((List.range' i d).foldl (fun b (o : Nat) => if band af al bf bl c t o > band af al bf bl c t b then (o : Int) else b) b) := by
        intro d
        induction d with
        | zero =>
          intro i b _ hi
          refine Ev.succ ?_
          simp only [impl_BestOffset.l0, show ¬ ((i : Int) < c) by omega, if_false]
          exact Ev.now _
        | succ d ih =>
          intro i b h1 hi
          refine Ev.succ ?_
          simp only [impl_BestOffset.l0, show (i : Int) < c by omega, if_true, wrap_id (n := (i : Int) + 1) (by omega) (by omega)]
          refine Ev.bind (impl_Band_eq _ _ _ _ _ _ _) ?_
          rw [List.range'_succ, List.foldl_cons]
          by_cases hx : band af al bf bl c t i > band af al bf bl c t b <;> simp only [hx, if_true, if_false]
          · simpa using ih (i + 1) (i : Int) (by omega) (by omega)
          · simpa using ih (i + 1) b (by omega) (by omega)
      refine Ev.succ ?_
      simp only [impl_BestOffset.l0, show (0 : Int) < c by omega, if_true, show wrap64 (0 + 1) = 1 by unfold wrap64; omega]
      refine Ev.bind (impl_Band_eq _ _ _ _ _ _ _) ?_
      simp only [show band af al bf bl c t 0 > -1 by have := band_nn af al bf bl c t 0; omega, if_true]
      refine evq (key (c.toNat - 1) 1 0 (by omega) (by omega)) ?_
      unfold argBest
      obtain ⟨m, hm⟩ : ∃ m, c.toNat = m + 1 := ⟨c.toNat - 1, by omega⟩
      rw [hm, List.range_eq_range', List.range'_succ, List.foldl_cons]
      simp
    · simp only [impl_BestOffset.j0, if_true]; exact Ev.now _
  cases ha : isWindow af al c
  · simpa using hj true (by simp)
  · have hb := (isWindow_iff _ _ _).1 ha
    cases hb' : isWindow bf bl c
    · simpa using hj true (by simp)
    · by_cases ht : 0 ≤ t ∧ t ≤ 100000
      · simpa [ht] using hj false (fun _ => ⟨hb.1, hb.2.1⟩)
      · simpa [ht] using hj true (by simp)
theorem holds : ∀ (a0_0 : Int) (a0_1 : Int) (a1_0 : Int) (a1_1 : Int) (a2 : Int) (a3 : Int), (Lit.int .i64 a0_0).wf = true → (Lit.int .i64 a0_1).wf = true → (Lit.int .i64 a1_0).wf = true → (Lit.int .i64 a1_1).wf = true → (Lit.int .i64 a2).wf = true → (Lit.int .i64 a3).wf = true → ∃ k, laws_FnExactBestOffset.f k a0_0 a0_1 a1_0 a1_1 a2 a3 = some true := by
  intro a b c d e f _ _ _ _ _ _
  apply Ev.rounds
  unfold laws_FnExactBestOffset.f
  simp only [laws_toWindow_eq, Option.bind_some]
  refine Ev.bind (spec_BestOffset_eq _ _ _ _ _ _) ?_
  refine Ev.bind (impl_BestOffset_eq _ _ _ _ _ _) ?_
  simp only [if_true]; exact Ev.now _
end Go.Proofs.Ytaokklehbkiahaa.Pure.FnExactBestOffset
