/- The law FnChains of the given program, as a statement over numbers and lists alone, for all arguments; no conditions but the machine's own bounds. -/
import Derived.Test.YtaokklehbkiahaaPFnChainsx
import Derived.Test.YtaokklehbkiahaaBase
namespace Go.Proofs.Ytaokklehbkiahaa.Pure.FnChains
open Go.RowKit Go.Proofs.Ytaokklehbkiahaa.PFnChains Go.Proofs.YtaokklehbkiahaaW.PrintWords Go.Proofs.YtaokklehbkiahaaW.PrintLast Go.Proofs.Ytaokklehbkiahaa.Bas
set_option linter.unusedVariables false
set_option linter.unusedSimpArgs false
theorem spec_l1In_eq (a lo hi : Int) : spec_l1In.f a lo hi = some (decide (lo ≤ a ∧ a ≤ hi)) := by
  unfold spec_l1In.f; grind
theorem impl_InRange_eq (a lo hi : Int) : impl_InRange.f a lo hi = some (decide (lo ≤ a ∧ a ≤ hi)) := by
  unfold impl_InRange.f; grind
theorem impl_IsWindow_eq (f l c : Int) : impl_IsWindow.f f l c = some (isWindow f l c) := by
  unfold impl_IsWindow.f isWindow
  simp only [impl_InRange_eq, Option.bind_some]
  by_cases h : 1 ≤ c ∧ c ≤ 200
  · rw [wrap_id (n := c - 1) (by omega) (by omega)]; grind
  · grind
theorem spec_IsWindow_eq (f l c : Int) : spec_IsWindow.f f l c = some (isWindow f l c) := by
  unfold spec_IsWindow.f isWindow
  simp only [spec_l1In_eq, Option.bind_some]
  by_cases h : 1 ≤ c ∧ c ≤ 200
  · rw [wrap_id (n := c - 1) (by omega) (by omega)]; grind
  · grind
theorem impl_Mod_eq (p q : Int) : impl_Mod.f p q = some (gmod p q) := by
  unfold impl_Mod.f gmod
  simp only [impl_InRange_eq, Option.bind_some]
  by_cases h : 1 ≤ q ∧ q ≤ 1000000000000
  · have h1 : ¬ q = 0 := by omega
    have h5 := Int.emod_lt_of_pos p (show 0 < q by omega)
    have h7 := Int.emod_nonneg p (show q ≠ 0 by omega)
    rcases tmod_cases p q (by omega) with ⟨h2, h3⟩ | ⟨h2, h3⟩
    · simp [h, h1, h2]; omega
    · simp only [h, h1, h3]; rw [wrap_id (by omega) (by omega)]; simp; omega
  · simp [h]
theorem spec_Mod_eq (p q : Int) : spec_Mod.f p q = some (gmod p q) := by
  unfold spec_Mod.f gmod
  simp only [spec_l1In_eq, Option.bind_some]
  by_cases h : 1 ≤ q ∧ q ≤ 1000000000000
  · have h1 : ¬ q = 0 := by omega
    have h5 := Int.emod_lt_of_pos p (show 0 < q by omega)
    have h7 := Int.emod_nonneg p (show q ≠ 0 by omega)
    rcases tmod_cases p q (by omega) with ⟨h2, h3⟩ | ⟨h2, h3⟩
    · rw [h2, wrap_id (by omega) (by omega), tmod_nn (by omega), Int.add_emod_right, Int.emod_emod]
      simp [h, h1]
    · rw [h2, wrap_id (by omega) (by omega), Int.sub_add_cancel, tmod_nn (by omega), Int.emod_emod]
      simp [h, h1]
  · simp [h]
theorem impl_InWindow_eq (f l c o s : Int) : impl_InWindow.f f l c o s = some (inWindow f l c o s) := by
  unfold impl_InWindow.f inWindow
  simp only [impl_InRange_eq, impl_IsWindow_eq, impl_Mod_eq, Option.bind_some]
  by_cases hw : isWindow f l c = true
  · have hw' := hw
    unfold isWindow at hw'
    simp only [decide_eq_true_eq] at hw'
    by_cases h1 : -1000000 ≤ o ∧ o ≤ 1000000
    · by_cases h2 : -1000000 ≤ s ∧ s ≤ 1000000
      · rw [wrap_id (n := s - o) (by omega) (by omega), wrap_id (by omega) (by omega)]
        have h3 : 1 ≤ c ∧ c ≤ 1000000000000 := by omega
        simp [hw, h1, h2, gmod, h3]
      · simp [hw, h1, h2]
    · simp [hw, h1]
  · simp [hw]
theorem spec_InWindow_eq (f l c o s : Int) : spec_InWindow.f f l c o s = some (inWindow f l c o s) := by
  unfold spec_InWindow.f inWindow
  simp only [spec_l1In_eq, spec_IsWindow_eq, spec_Mod_eq, Option.bind_some]
  by_cases hw : isWindow f l c = true
  · have hw' := hw
    unfold isWindow at hw'
    simp only [decide_eq_true_eq] at hw'
    by_cases h1 : -1000000 ≤ o ∧ o ≤ 1000000
    · by_cases h2 : -1000000 ≤ s ∧ s ≤ 1000000
      · rw [wrap_id (n := s - o) (by omega) (by omega), wrap_id (by omega) (by omega)]
        have h3 : 1 ≤ c ∧ c ≤ 1000000000000 := by omega
        simp [hw, h1, h2, gmod, h3]
      · simp [hw, h1, h2]
    · simp [hw, h1]
  · simp [hw]
def greatestBand (af al bf bl c : Int) : Int := if isWindow af al c && isWindow bf bl c then min al bl else 0
theorem impl_GreatestBand_eq (af al bf bl c : Int) : impl_GreatestBand.f af al bf bl c = some (greatestBand af al bf bl c) := by
  unfold impl_GreatestBand.f greatestBand
  simp only [impl_IsWindow_eq, Option.bind_some]
  cases isWindow af al c <;> cases isWindow bf bl c <;> simp [mn] <;> grind
theorem rdT_Window (xs : List S43) (i : Nat) (h : i < xs.length) : rd_T43 xs (i : Int) = xs[i] := by simp [rd_T43, h]
theorem impl_Band_l0 (af al bf bl c t o : Int) (hc : c ≤ 200) (ht : 0 ≤ t ∧ t ≤ 100000) : ∀ (d : Nat) (n s : Int), 0 ≤ s → c - s = d → 0 ≤ n → n ≤ s →
    Ev (fun k => impl_Band.l0 k c t o n c s af al bf bl) (n + cnt (bandP af al bf bl c t o) d s) := by
  intro d
  induction d with
  | zero =>
    intro n s h0 hd hn hns
    refine Ev.succ ?_
    simp only [impl_Band.l0, show ¬ s < c by omega, if_false]
    exact evq (Ev.now _) (by simp [cnt])
  | succ d ih =>
    intro n s h0 hd hn hns
    refine Ev.succ ?_
    simp only [impl_Band.l0, show s < c by omega, if_true, impl_InWindow_eq, Option.bind_some, wrap_id (n := s + t) (by omega) (by omega), wrap_id (n := s + 1) (by omega) (by omega), wrap_id (n := n + 1) (by omega) (by omega)]
    unfold cnt
    have i1 := ih (n + 1) (s + 1) (by omega) (by omega) (by omega) (by omega)
    have i2 := ih n (s + 1) (by omega) (by omega) (by omega) (by omega)
    rw [Int.add_assoc] at i1
    cases h1 : inWindow af al c 0 s <;> cases h2 : inWindow bf bl c o (s + t) <;> simp only [bandP, h1, h2, Bool.true_and, Bool.false_and, Bool.and_self, Bool.and_false, if_true, if_false, Bool.false_eq_true, Int.zero_add] <;> assumption
theorem impl_Band_eq (af al bf bl c t o : Int) : Ev (fun k => impl_Band.f k af al bf bl c t o) (band af al bf bl c t o) := by
  unfold impl_Band.f band
  simp only [impl_IsWindow_eq, impl_InRange_eq, Option.bind_some]
  have hj : ∀ b : Bool, (b = false → 1 ≤ c ∧ c ≤ 200 ∧ 0 ≤ t ∧ t ≤ 100000) → Ev (fun k => impl_Band.j0 k c t o b af al bf bl) (if b then 0 else cnt (bandP af al bf bl c t o) c.toNat 0) := by
    intro b hb
    refine Ev.succ ?_
    cases b
    · obtain ⟨h1, h2, h3, h4⟩ := hb rfl
      simp only [impl_Band.j0, Bool.false_eq_true, if_false]
      exact evq (impl_Band_l0 af al bf bl c t o h2 ⟨h3, h4⟩ c.toNat 0 0 (by omega) (by omega) (by omega) (by omega)) (by simp)
    · simp only [impl_Band.j0, if_true]; exact Ev.now _
  cases ha : isWindow af al c
  · simpa using hj true (by simp)
  · have hb := (isWindow_iff _ _ _).1 ha
    cases hb' : isWindow bf bl c
    · simpa using hj true (by simp)
    · by_cases ht : 0 ≤ t ∧ t ≤ 100000
      · by_cases ho : 0 ≤ o ∧ o ≤ 100000
        · simpa [ht, ho] using hj false (fun _ => ⟨hb.1, hb.2.1, ht.1, ht.2⟩)
        · simpa [ht, ho] using hj true (by simp)
      · simpa [ht] using hj true (by simp)
theorem spec_Band_l0 (af al bf bl c t o : Int) (hc : c ≤ 200) (ht : 0 ≤ t ∧ t ≤ 100000) : ∀ (d : Nat) (n s : Int), 0 ≤ s → c - s = d → 0 ≤ n → n ≤ s →
    Ev (fun k => spec_Band.l0 k c t o n s af al bf bl) (n + cnt (bandP af al bf bl c t o) d s) := by
  intro d
  induction d with
  | zero =>
    intro n s h0 hd hn hns
    refine Ev.succ ?_
    simp only [spec_Band.l0, show ¬ s < c by omega, if_false]
    exact evq (Ev.now _) (by simp [cnt])
  | succ d ih =>
    intro n s h0 hd hn hns
    refine Ev.succ ?_
    simp only [spec_Band.l0, show s < c by omega, if_true, spec_InWindow_eq, Option.bind_some, wrap_id (n := s + t) (by omega) (by omega), wrap_id (n := s + 1) (by omega) (by omega), wrap_id (n := n + 1) (by omega) (by omega)]
    unfold cnt
    have i1 := ih (n + 1) (s + 1) (by omega) (by omega) (by omega) (by omega)
    have i2 := ih n (s + 1) (by omega) (by omega) (by omega) (by omega)
    rw [Int.add_assoc] at i1
    cases h1 : inWindow af al c 0 s <;> cases h2 : inWindow bf bl c o (s + t) <;> simp only [bandP, h1, h2, Bool.true_and, Bool.false_and, Bool.and_self, Bool.and_false, if_true, if_false, Bool.false_eq_true, Int.zero_add] <;> assumption
theorem spec_Band_eq (af al bf bl c t o : Int) : Ev (fun k => spec_Band.f k af al bf bl c t o) (band af al bf bl c t o) := by
  unfold spec_Band.f band
  simp only [spec_IsWindow_eq, spec_l1In_eq, Option.bind_some]
  have hj : ∀ b : Bool, (b = false → 1 ≤ c ∧ c ≤ 200 ∧ 0 ≤ t ∧ t ≤ 100000) → Ev (fun k => spec_Band.j0 k c t o b af al bf bl) (if b then 0 else cnt (bandP af al bf bl c t o) c.toNat 0) := by
    intro b hb
    refine Ev.succ ?_
    cases b
    · obtain ⟨h1, h2, h3, h4⟩ := hb rfl
      simp only [spec_Band.j0, Bool.false_eq_true, if_false]
      exact evq (spec_Band_l0 af al bf bl c t o h2 ⟨h3, h4⟩ c.toNat 0 0 (by omega) (by omega) (by omega) (by omega)) (by simp)
    · simp only [spec_Band.j0, if_true]; exact Ev.now _
  cases ha : isWindow af al c
  · simpa using hj true (by simp)
  · have hb := (isWindow_iff _ _ _).1 ha
    cases hb' : isWindow bf bl c
    · simpa using hj true (by simp)
    · by_cases ht : 0 ≤ t ∧ t ≤ 100000
      · by_cases ho : 0 ≤ o ∧ o ≤ 100000
        · simpa [ht, ho] using hj false (fun _ => ⟨hb.1, hb.2.1, ht.1, ht.2⟩)
        · simpa [ht, ho] using hj true (by simp)
      · simpa [ht] using hj true (by simp)
def leastWindow (l : List S43) : Int := if l.length = 0 then 0 else (List.range l.length).foldl (fun m (i : Nat) => min m (rd_T43 l (i : Int)).f1) (rd_T43 l 0).f1
theorem impl_LeastWindow_eq (l : List S43) (hl : l.length ≤ 1048576) : Ev (fun k => impl_LeastWindow.f k l) (leastWindow l) := by
  unfold impl_LeastWindow.f leastWindow
  by_cases h0 : l.length = 0
  · simp only [h0]; exact Ev.now _
  · simp only [h0, show ¬ (l.length : Int) = 0 by omega, show (0 : Int) < l.length by omega, if_true, if_false]
    exact Ev.fold (g := fun k m i => impl_LeastWindow.l0 k m l (l.length : Int) i) l.length (fun m (i : Nat) => min m (rd_T43 l (i : Int)).f1) id (fun _ _ => True) (fun i s r h _ hr => by
      refine Ev.succ ?_
      have h1 : (i : Int) < (l.length : Int) := by omega
      have h2 : (0 : Int) ≤ (i : Int) := by omega
      simp only [impl_LeastWindow.l0, h1, h2, if_true, wrap_id (n := (i : Int) + 1) (by omega) (by omega), show mn s (rd_T43 l (i : Int)).f1 = min s (rd_T43 l (i : Int)).f1 by unfold mn; grind]
      exact hr trivial) (fun _ _ _ _ => trivial) (fun s _ => by
      refine Ev.succ ?_
      simp only [impl_LeastWindow.l0, Int.lt_irrefl, if_false]
      exact Ev.now _) _ trivial
theorem spec_BestOffset_eq (af al bf bl c t : Int) : Ev (fun k => spec_BestOffset.f k af al bf bl c t) (bestOffset af al bf bl c t) := by
  unfold spec_BestOffset.f bestOffset
  simp only [spec_IsWindow_eq, spec_l1In_eq, Option.bind_some]
  have hj : ∀ b : Bool, (b = false → 1 ≤ c ∧ c ≤ 200) → Ev (fun k => spec_BestOffset.j0 k c t b af al bf bl) (if b then -1 else argBest (band af al bf bl c t) c.toNat) := by
    intro b hb
    refine Ev.succ ?_
    cases b
    · obtain ⟨h1, h2⟩ := hb rfl
      simp only [spec_BestOffset.j0, Bool.false_eq_true, if_false]
      have h := Ev.fold (g := fun k b i => spec_BestOffset.l0 k c t b i af al bf bl) c.toNat (fun b (o : Nat) => if band af al bf bl c t o > band af al bf bl c t b then (o : Int) else b) id (fun _ _ => True) (fun i s r h _ hr => by
        refine Ev.succ ?_
        have hr' := hr trivial
        simp only [spec_BestOffset.l0, show (i : Int) < c by omega, if_true, wrap_id (n := (i : Int) + 1) (by omega) (by omega)]
        refine Ev.bind (spec_Band_eq _ _ _ _ _ _ _) ?_
        refine Ev.bind (spec_Band_eq _ _ _ _ _ _ _) ?_
        by_cases hx : band af al bf bl c t i > band af al bf bl c t s <;> simp only [hx, if_true, if_false] at hr' ⊢ <;> exact hr') (fun _ _ _ _ => trivial) (fun s _ => by
        refine Ev.succ ?_
        simp only [spec_BestOffset.l0, show ¬ ((c.toNat : Int) < c) by omega, if_false]
        exact Ev.now _) 0 trivial
      obtain ⟨K, hK⟩ := h
      obtain ⟨K2, hK2⟩ := spec_Band_eq af al bf bl c t 0
      refine ⟨K + K2, fun k hk => ?_⟩
      have := hK (k + 1) (by omega)
      simp only [spec_BestOffset.l0, show (0 : Int) < c by omega, if_true, hK2 k (by omega), Option.bind_some, Int.lt_irrefl, gt_iff_lt, if_false, show wrap64 (0 + 1) = 1 by unfold wrap64; omega] at this
      exact this
    · simp only [spec_BestOffset.j0, if_true]; exact Ev.now _
  cases ha : isWindow af al c
  · simpa using hj true (by simp)
  · have hb := (isWindow_iff _ _ _).1 ha
    cases hb' : isWindow bf bl c
    · simpa using hj true (by simp)
    · by_cases ht : 0 ≤ t ∧ t ≤ 100000
      · simpa [ht] using hj false (fun _ => ⟨hb.1, hb.2.1⟩)
      · simpa [ht] using hj true (by simp)
theorem impl_BestOffset_eq (af al bf bl c t : Int) : Ev (fun k => impl_BestOffset.f k af al bf bl c t) (bestOffset af al bf bl c t) := by
  unfold impl_BestOffset.f bestOffset
  simp only [impl_IsWindow_eq, impl_InRange_eq, Option.bind_some]
  have hj : ∀ b : Bool, (b = false → 1 ≤ c ∧ c ≤ 200) → Ev (fun k => impl_BestOffset.j0 k c t b af al bf bl) (if b then -1 else argBest (band af al bf bl c t) c.toNat) := by
    intro b hb
    refine Ev.succ ?_
    cases b
    · obtain ⟨h1, h2⟩ := hb rfl
      simp only [impl_BestOffset.j0, Bool.false_eq_true, if_false]
      have key : ∀ (d i : Nat) (b : Int), 1 ≤ i → i + d = c.toNat → Ev (fun k => impl_BestOffset.l0 k c t b (band af al bf bl c t b) c (i : Int) af al bf bl) ((List.range' i d).foldl (fun b (o : Nat) => if band af al bf bl c t o > band af al bf bl c t b then (o : Int) else b) b) := by
        intro d
        induction d with
        | zero =>
          intro i b _ hi
          refine Ev.succ ?_
          simp only [impl_BestOffset.l0, show ¬ ((i : Int) < c) by omega, if_false]
          exact Ev.now _
        | succ d ih =>
          intro i b h1 hi
          refine Ev.succ ?_
          simp only [impl_BestOffset.l0, show (i : Int) < c by omega, if_true, wrap_id (n := (i : Int) + 1) (by omega) (by omega)]
          refine Ev.bind (impl_Band_eq _ _ _ _ _ _ _) ?_
          rw [List.range'_succ, List.foldl_cons]
          by_cases hx : band af al bf bl c t i > band af al bf bl c t b <;> simp only [hx, if_true, if_false]
          · simpa using ih (i + 1) (i : Int) (by omega) (by omega)
          · simpa using ih (i + 1) b (by omega) (by omega)
      refine Ev.succ ?_
      simp only [impl_BestOffset.l0, show (0 : Int) < c by omega, if_true, show wrap64 (0 + 1) = 1 by unfold wrap64; omega]
      refine Ev.bind (impl_Band_eq _ _ _ _ _ _ _) ?_
      simp only [show band af al bf bl c t 0 > -1 by have := band_nn af al bf bl c t 0; omega, if_true]
      refine evq (key (c.toNat - 1) 1 0 (by omega) (by omega)) ?_
      unfold argBest
      obtain ⟨m, hm⟩ : ∃ m, c.toNat = m + 1 := ⟨c.toNat - 1, by omega⟩
      rw [hm, List.range_eq_range', List.range'_succ, List.foldl_cons]
      simp
    · simp only [impl_BestOffset.j0, if_true]; exact Ev.now _
  cases ha : isWindow af al c
  · simpa using hj true (by simp)
  · have hb := (isWindow_iff _ _ _).1 ha
    cases hb' : isWindow bf bl c
    · simpa using hj true (by simp)
    · by_cases ht : 0 ≤ t ∧ t ≤ 100000
      · simpa [ht] using hj false (fun _ => ⟨hb.1, hb.2.1⟩)
      · simpa [ht] using hj true (by simp)
def inAll (l : List Int) : Bool := (List.range l.length).all (fun (i : Nat) => decide (0 ≤ rd l (i : Int) ∧ rd l (i : Int) ≤ 100000))
theorem inAll_at {l : List Int} (h : inAll l = true) (i : Nat) (hi : i < l.length) : 0 ≤ rd l (i : Int) ∧ rd l (i : Int) ≤ 100000 := by
  unfold inAll at h
  rw [List.all_eq_true] at h
  exact of_decide_eq_true (h i (List.mem_range.2 hi))
theorem impl_sized_l1 (w : List S43) (ls : List (List Int)) (j : Int) (l : List Int) (b : Bool) (hl : l.length ≤ 1048576) (hb : Ev (fun k => impl_sized.l0 k w ls (ls.length : Int) (wrap64 (j + 1))) b) :
    Ev (fun k => impl_sized.l1 k w ls (ls.length : Int) j l (l.length : Int) 0) (inAll l && b) := by
  unfold inAll
  have key : ∀ (d i : Nat), i + d = l.length → Ev (fun k => impl_sized.l1 k w ls (ls.length : Int) j l (l.length : Int) (i : Int)) ((List.range' i d).all (fun (i : Nat) => decide (0 ≤ rd l (i : Int) ∧ rd l (i : Int) ≤ 100000)) && b) := by
    intro d
    induction d with
    | zero =>
      intro i hi
      refine Ev.succ ?_
      simp only [impl_sized.l1, show ¬ (i : Int) < (l.length : Int) by omega, if_false]
      simpa using hb
    | succ d ih =>
      intro i hi
      refine Ev.succ ?_
      simp only [impl_sized.l1, show (i : Int) < (l.length : Int) by omega, show (0 : Int) ≤ (i : Int) by omega, if_true, impl_InRange_eq, Option.bind_some, wrap_id (n := (i : Int) + 1) (by omega) (by omega)]
      rw [List.range'_succ, List.all_cons]
      by_cases hP : 0 ≤ rd l (i : Int) ∧ rd l (i : Int) ≤ 100000
      · have := ih (i + 1) (by omega)
        rw [show ((i + 1 : Nat) : Int) = (i : Int) + 1 by omega] at this
        rw [decide_eq_true hP, Bool.true_and]; simp only [if_true]; exact this
      · rw [decide_eq_false hP]; simp only [Bool.false_eq_true, if_false, Bool.false_and]; exact Ev.now _
  have := key l.length 0 (by omega)
  rwa [← List.range_eq_range'] at this
theorem impl_sized_l0 (w : List S43) (ls : List (List Int)) (hs : ls.length ≤ 100) (hl : ∀ l ∈ ls, l.length ≤ 1048576) : ∀ (d i : Nat), i + d = ls.length →
    Ev (fun k => impl_sized.l0 k w ls (ls.length : Int) (i : Int)) ((ls.drop i).all (fun l => decide (l.length = w.length) && inAll l)) := by
  intro d
  induction d with
  | zero =>
    intro i hi
    refine Ev.succ ?_
    simp only [impl_sized.l0, show ¬ (i : Int) < (ls.length : Int) by omega, if_false]
    exact evq (Ev.now _) (by simp [List.drop_eq_nil_of_le (show ls.length ≤ i by omega)])
  | succ d ih =>
    intro i hi
    have hr : rd_L2 ls (i : Int) = ls[i] := by simp [rd_L2, show i < ls.length by omega]
    refine Ev.succ ?_
    simp only [impl_sized.l0, show (i : Int) < (ls.length : Int) by omega, show (0 : Int) ≤ (i : Int) by omega, if_true, hr]
    rw [List.drop_eq_getElem_cons (by omega), List.all_cons]
    by_cases hP : ls[i].length = w.length
    · have h2 := ih (i + 1) (by omega)
      rw [show ((i + 1 : Nat) : Int) = (i : Int) + 1 by omega] at h2
      simp only [show (ls[i].length : Int) = (w.length : Int) by omega, if_true, decide_eq_true hP, Bool.true_and]
      have := impl_sized_l1 w ls (i : Int) ls[i] _ (hl _ (List.getElem_mem _)) (by rw [wrap_id (by omega) (by omega)]; exact h2)
      rw [show (ls[i].length : Int) = (w.length : Int) by omega] at this
      exact this
    · simp only [show ¬ (ls[i].length : Int) = (w.length : Int) by omega, if_false, decide_eq_false hP, Bool.false_and]; exact Ev.now _
theorem impl_sized_eq (w : List S43) (ls : List (List Int)) (hs : ls.length ≤ 100) (hl : ∀ l ∈ ls, l.length ≤ 1048576) :
    Ev (fun k => impl_sized.f k w ls) (decide (1 ≤ w.length ∧ w.length ≤ 8) && ls.all (fun l => decide (l.length = w.length) && inAll l)) := by
  unfold impl_sized.f
  simp only [impl_InRange_eq, Option.bind_some]
  by_cases h : 1 ≤ w.length ∧ w.length ≤ 8
  · simp only [decide_eq_true h, decide_eq_true (show (1 : Int) ≤ (w.length : Int) ∧ (w.length : Int) ≤ 8 by omega), if_true, Bool.true_and]
    simpa using impl_sized_l0 w ls hs hl ls.length 0 (by omega)
  · simp only [decide_eq_false h, decide_eq_false (show ¬ ((1 : Int) ≤ (w.length : Int) ∧ (w.length : Int) ≤ 8) by omega), Bool.false_eq_true, if_false, Bool.false_and]
    exact Ev.now _
def sizedOk (w : List S43) (t o : List Int) : Bool := decide (1 ≤ w.length ∧ w.length ≤ 8) && decide (t.length = w.length) && decide (o.length = w.length) && inAll t && inAll o
theorem sizedOk_iff (w : List S43) (t o : List Int) : sizedOk w t o = true ↔ 1 ≤ w.length ∧ w.length ≤ 8 ∧ t.length = w.length ∧ o.length = w.length ∧ inAll t = true ∧ inAll o = true := by
  simp [sizedOk, and_assoc]
def allIn (w : List S43) (c : Int) (t o : List Int) (s : Int) (a d : Nat) : Bool := (List.range' a d).all (fun (i : Nat) => inWindow (rd_T43 w (i : Int)).f0 (rd_T43 w (i : Int)).f1 c (rd o (i : Int)) (s + rd t (i : Int)))
def bandM (w : List S43) (c : Int) (t o : List Int) (a d : Nat) : Int := if 1 ≤ c ∧ c ≤ 200 then cnt (fun s => allIn w c t o s a d) c.toNat 0 else 0
theorem impl_bandOf_eq (w : List S43) (c : Int) (t o : List Int) (a d : Nat) (b : Int) (ht : t.length = w.length) (ho : o.length = w.length) (hw : w.length ≤ 8) (hit : inAll t = true) (hb : b = (a : Int) + d - 1) (had : a + d ≤ w.length) :
    Ev (fun k => impl_bandOf.f k w c t o (a : Int) b) (bandM w c t o a d) := by
  unfold impl_bandOf.f bandM
  simp only [impl_InRange_eq, Option.bind_some]
  by_cases hc : 1 ≤ c ∧ c ≤ 200
  · simp only [hc, if_true, and_self, decide_true]
    have inner : ∀ (n s : Int) (r : Int), 0 ≤ s → s < c → 0 ≤ n → n ≤ s → Ev (fun k => impl_bandOf.l0 k w c t o (a : Int) b (n + if allIn w c t o s a d then 1 else 0) c (s + 1)) r →
        ∀ (e i : Nat) (p : Bool), i + e = a + d → (p && (List.range' i e).all (fun (i : Nat) => inWindow (rd_T43 w (i : Int)).f0 (rd_T43 w (i : Int)).f1 c (rd o (i : Int)) (s + rd t (i : Int)))) = allIn w c t o s a d →
        Ev (fun k => impl_bandOf.l1 k w c t o (a : Int) b n s p (i : Int) c s) r := by
      intro n s r h0 hs hn hns hr e
      induction e with
      | zero =>
        intro i p hi hp
        refine Ev.succ ?_
        simp only [impl_bandOf.l1, show ¬ (i : Int) ≤ b by omega, if_false, wrap_id (n := s + 1) (by omega) (by omega), wrap_id (n := n + 1) (by omega) (by omega)]
        simp only [List.range'_zero, List.all_nil, Bool.and_true] at hp
        rw [← hp] at hr
        cases p <;> simpa using hr
      | succ e ih =>
        intro i p hi hp
        refine Ev.succ ?_
        have hti := inAll_at hit i (by omega)
        have hiw : (i : Int) < (w.length : Int) := by omega
        have hit : (i : Int) < (t.length : Int) := by omega
        have hio : (i : Int) < (o.length : Int) := by omega
        simp only [impl_bandOf.l1, show (i : Int) ≤ b by omega, hiw, hit, hio, show (0 : Int) ≤ (i : Int) by omega, if_true, impl_InWindow_eq, Option.bind_some, wrap_id (n := (i : Int) + 1) (by omega) (by omega), wrap_id (n := s + rd t (i : Int)) (by omega) (by omega)]
        rw [List.range'_succ, List.all_cons] at hp
        cases p
        · simp only [Bool.false_eq_true, if_false]
          have := ih (i + 1) false (by omega) (by simpa using hp)
          simpa using this
        · simp only [if_true]
          have := ih (i + 1) (inWindow (rd_T43 w (i : Int)).f0 (rd_T43 w (i : Int)).f1 c (rd o (i : Int)) (s + rd t (i : Int))) (by omega) (by simpa using hp)
          simpa using this
    have outer : ∀ (e : Nat) (n s : Int), 0 ≤ s → c - s = e → 0 ≤ n → n ≤ s → Ev (fun k => impl_bandOf.l0 k w c t o (a : Int) b n c s) (n + cnt (fun s => allIn w c t o s a d) e s) := by
      intro e
      induction e with
      | zero =>
        intro n s h0 hs hn hns
        refine Ev.succ ?_
        simp only [impl_bandOf.l0, show ¬ s < c by omega, if_false]
        exact evq (Ev.now _) (by simp [cnt])
      | succ e ih =>
        intro n s h0 hs hn hns
        refine Ev.succ ?_
        simp only [impl_bandOf.l0, show s < c by omega, if_true]
        refine inner n s _ h0 (by omega) hn hns ?_ d a true (by omega) (by rw [Bool.true_and]; rfl)
        refine evq (ih (n + if allIn w c t o s a d then 1 else 0) (s + 1) (by omega) (by omega) (by split <;> omega) (by split <;> omega)) ?_
        rw [Int.add_assoc]; rfl
    exact evq (outer c.toNat 0 0 (by omega) (by omega) (by omega) (by omega)) (by simp)
  · simp only [hc, if_false, decide_false, Bool.false_eq_true]; exact Ev.now _
def throughBand (w : List S43) (c : Int) (t o : List Int) : Int := if sizedOk w t o then bandM w c t o 0 w.length else 0
theorem impl_ThroughBand_eq (w : List S43) (c : Int) (t o : List Int) (hw : w.length ≤ 1048576) (ht : t.length ≤ 1048576) (ho : o.length ≤ 1048576) : Ev (fun k => impl_ThroughBand.f k w c t o) (throughBand w c t o) := by
  unfold impl_ThroughBand.f throughBand
  refine Ev.bind (impl_sized_eq w [t, o] (by simp) (by simp; omega)) ?_
  have e : (decide (1 ≤ w.length ∧ w.length ≤ 8) && [t, o].all (fun l => decide (l.length = w.length) && inAll l)) = sizedOk w t o := by
    unfold sizedOk
    rw [Bool.eq_iff_iff]
    simp only [List.all_cons, List.all_nil, Bool.and_true, Bool.and_eq_true, decide_eq_true_eq]
    grind
  rw [e]
  cases hs : sizedOk w t o
  · simp only [Bool.false_eq_true, if_false]; exact Ev.now _
  · obtain ⟨h1, h2, h3, h4, h5, h6⟩ := (sizedOk_iff _ _ _).1 hs
    simp only [if_true, wrap_id (n := (w.length : Int) - 1) (by omega) (by omega)]
    refine Ev.bind (impl_bandOf_eq w c t o 0 w.length _ h3 h4 h2 h5 (by omega) (by omega)) ?_
    exact Ev.now _
def shiftOk (v : List Int) (n c : Int) : Bool := decide (1 ≤ c ∧ c ≤ 200) && decide (-1000000 ≤ n ∧ n ≤ 1000000) && (List.range v.length).all (fun (i : Nat) => decide (-1000000 ≤ rd v (i : Int) ∧ rd v (i : Int) ≤ 1000000))
def shiftOffsets (v : List Int) (n c : Int) : List Int := if shiftOk v n c then v.map (fun x => (x + n) % c) else v
theorem shift_l0 {g : Nat → List Int → Int → Option (List Int)} (v : List Int) (n c : Int) (hl : v.length ≤ 1048576)
    (h1 : ∀ (i : Nat) (ys : List Int) (r : List Int) (h : i < v.length), ys.length = v.length → (-1000000 ≤ v[i] ∧ v[i] ≤ 1000000) → Ev (fun k => g k (ys.set i ((v[i] + n) % c)) ((i : Int) + 1)) r → Ev (fun k => g k ys (i : Int)) r)
    (h2 : ∀ (i : Nat) (ys : List Int) (h : i < v.length), ys.length = v.length → ¬ (-1000000 ≤ v[i] ∧ v[i] ≤ 1000000) → Ev (fun k => g k ys (i : Int)) v)
    (h3 : ∀ ys, ys.length = v.length → Ev (fun k => g k ys (v.length : Int)) ys) :
    Ev (fun k => g k v 0) (if (List.range v.length).all (fun (i : Nat) => decide (-1000000 ≤ rd v (i : Int) ∧ rd v (i : Int) ≤ 1000000)) then v.map (fun x => (x + n) % c) else v) := by
  have key : ∀ (d i : Nat), i + d = v.length → Ev (fun k => g k ((v.take i).map (fun x => (x + n) % c) ++ v.drop i) (i : Int)) (if (List.range' i d).all (fun (i : Nat) => decide (-1000000 ≤ rd v (i : Int) ∧ rd v (i : Int) ≤ 1000000)) then v.map (fun x => (x + n) % c) else v) := by
    intro d
    induction d with
    | zero =>
      intro i hi
      obtain rfl : i = v.length := by omega
      simpa using h3 (v.map (fun x => (x + n) % c)) (by simp)
    | succ d ih =>
      intro i hi
      rw [List.range'_succ, List.all_cons]
      have hr : rd v (i : Int) = v[i] := rd_nat v i (by omega)
      by_cases hP : -1000000 ≤ v[i] ∧ v[i] ≤ 1000000
      · refine h1 i _ _ (by omega) (by simp; omega) hP ?_
        have := ih (i + 1) (by omega)
        have e : ((v.take i).map (fun x => (x + n) % c) ++ v.drop i).set i ((v[i] + n) % c) = (v.take (i + 1)).map (fun x => (x + n) % c) ++ v.drop (i + 1) := by
          have hli : (List.map (fun x => (x + n) % c) (List.take i v)).length = i := by simp; omega
          rw [List.set_append_right _ _ (by omega), hli, Nat.sub_self, List.drop_eq_getElem_cons (by omega), List.set_cons_zero, List.take_succ_eq_append_getElem (by omega), List.map_append, List.append_assoc]
          rfl
        rw [e, hr, decide_eq_true hP, Bool.true_and]
        simpa using this
      · rw [hr, decide_eq_false hP, Bool.false_and]
        simpa using h2 i _ (by omega) (by simp; omega) hP
  have := key v.length 0 (by omega)
  rw [← List.range_eq_range'] at this
  simpa using this
theorem impl_ShiftOffsets_eq (v : List Int) (n c : Int) (hl : v.length ≤ 1048576) : Ev (fun k => impl_ShiftOffsets.f k v n c) (shiftOffsets v n c) := by
  unfold impl_ShiftOffsets.f shiftOffsets shiftOk
  have hcl : slices_Clone_int_int.f v = some v := by unfold slices_Clone_int_int.f; rw [if_pos (by omega)]
  simp only [hcl, Option.bind_some, impl_InRange_eq]
  have hj : ∀ b : Bool, (b = false → (1 ≤ c ∧ c ≤ 200) ∧ -1000000 ≤ n ∧ n ≤ 1000000) → Ev (fun k => impl_ShiftOffsets.j0 k v n c v b) (if !b && (List.range v.length).all (fun (i : Nat) => decide (-1000000 ≤ rd v (i : Int) ∧ rd v (i : Int) ≤ 1000000)) then v.map (fun x => (x + n) % c) else v) := by
    intro b hb
    refine Ev.succ ?_
    cases b
    · obtain ⟨hc, hn⟩ := hb rfl
      simp only [impl_ShiftOffsets.j0, Bool.false_eq_true, if_false, Bool.not_false, Bool.true_and]
      refine shift_l0 (g := fun k ys i => impl_ShiftOffsets.l0 k v n c ys v (v.length : Int) i) v n c hl (fun i ys r h hy hP hr => ?_) (fun i ys h hy hP => ?_) (fun ys hy => ?_)
      · refine Ev.succ ?_
        have e1 : wrap64 (v[i] + n) = v[i] + n := wrap_id (by omega) (by omega)
        simp only [impl_ShiftOffsets.l0, hy, show (i : Int) < (v.length : Int) by omega, show (0 : Int) ≤ (i : Int) by omega, if_true, rd_nat v i h, impl_InRange_eq, Option.bind_some, decide_eq_true hP, impl_Mod_eq, e1, Int.toNat_natCast, wrap_id (n := (i : Int) + 1) (by omega) (by omega)]
        simp only [gmod, show 1 ≤ c ∧ c ≤ 1000000000000 by omega, and_self, if_true]
        exact hr
      · refine Ev.succ ?_
        simp only [impl_ShiftOffsets.l0, show (i : Int) < (v.length : Int) by omega, show (0 : Int) ≤ (i : Int) by omega, if_true, rd_nat v i h, impl_InRange_eq, Option.bind_some, decide_eq_false hP, Bool.false_eq_true, if_false, hcl]
        exact Ev.now _
      · refine Ev.succ ?_
        simp only [impl_ShiftOffsets.l0, Int.lt_irrefl, if_false]
        exact Ev.now _
    · simp only [impl_ShiftOffsets.j0, if_true, Bool.not_true, Bool.false_and, Bool.false_eq_true, if_false]; exact Ev.now _
  by_cases hc : 1 ≤ c ∧ c ≤ 200
  · by_cases hn : -1000000 ≤ n ∧ n ≤ 1000000
    · simpa [hc, hn] using hj false (fun _ => ⟨hc, hn⟩)
    · simpa [hc, hn] using hj true (by simp)
  · simpa [hc] using hj true (by simp)
theorem shiftOffsets_length (v : List Int) (n c : Int) : (shiftOffsets v n c).length = v.length := by unfold shiftOffsets; split <;> simp
/-- The next offset behind i of them. -/
def nextOff (w : List S43) (c : Int) (t o : List Int) (i : Nat) : Int := (rd o ((i : Int) - 1) + bestOffset (rd_T43 w ((i : Int) - 1)).f0 (rd_T43 w ((i : Int) - 1)).f1 (rd_T43 w (i : Int)).f0 (rd_T43 w (i : Int)).f1 c (rd t (i : Int) - rd t ((i : Int) - 1))) % c
def offs (w : List S43) (c : Int) (t : List Int) : Nat → List Int
  | 0 => []
  | i + 1 => offs w c t i ++ [if i = 0 then 0 else nextOff w c t (offs w c t i) i]
theorem offs_length (w : List S43) (c : Int) (t : List Int) : ∀ i, (offs w c t i).length = i
  | 0 => rfl
  | i + 1 => by simp [offs, offs_length w c t i]
def winAt (w : List S43) (c : Int) (i : Nat) : Bool := isWindow (rd_T43 w (i : Int)).f0 (rd_T43 w (i : Int)).f1 c
def stepAt (t : List Int) (i : Nat) : Bool := decide (0 ≤ rd t (i : Int) ∧ rd t (i : Int) ≤ 100000) && (decide (i = 0) || !decide (rd t ((i : Int) - 1) > rd t (i : Int)))
def chainOk (w : List S43) (c : Int) (t : List Int) : Bool := decide (1 ≤ w.length ∧ w.length ≤ 8) && decide (t.length = w.length) && (List.range w.length).all (fun i => winAt w c i && stepAt t i)
def chainOffsets (w : List S43) (c : Int) (t : List Int) : List Int × Bool := if chainOk w c t then (offs w c t w.length, true) else ([], false)
theorem chainOffsets_le (w : List S43) (c : Int) (t : List Int) : (chainOffsets w c t).1.length ≤ 8 := by
  unfold chainOffsets
  split
  · rename_i h
    unfold chainOk at h
    simp only [Bool.and_eq_true, decide_eq_true_eq] at h
    simp only [offs_length]; omega
  · simp
/-- Each offset lies within the cycle. -/
theorem offs_bd (w : List S43) (c : Int) (t : List Int) (hc : 1 ≤ c) : ∀ (n i : Nat), i < n → 0 ≤ rd (offs w c t n) (i : Int) ∧ rd (offs w c t n) (i : Int) < c
  | 0, i, h => absurd h (by omega)
  | n + 1, i, h => by
    have hl := offs_length w c t n
    rw [rd_nat _ _ (by rw [offs_length]; exact h)]
    by_cases e : i = n
    · subst e
      have hx : (offs w c t (i + 1))[i]'(by rw [offs_length]; exact h) = if i = 0 then 0 else nextOff w c t (offs w c t i) i := by simp [offs, hl]
      rw [hx]
      split
      · omega
      · exact ⟨Int.emod_nonneg _ (by omega), Int.emod_lt_of_pos _ (by omega)⟩
    · have hx : (offs w c t (n + 1))[i]'(by rw [offs_length]; exact h) = (offs w c t n)[i]'(by rw [hl]; omega) := by simp only [offs]; rw [List.getElem_append_left]
      rw [hx, ← rd_nat]
      exact offs_bd w c t hc n i (by omega)
theorem bestOffset_bd (af al bf bl c t : Int) : -1 ≤ bestOffset af al bf bl c t ∧ bestOffset af al bf bl c t ≤ 200 := by
  unfold bestOffset
  split
  · rename_i h
    simp only [Bool.and_eq_true, isWindow_iff] at h
    have := argBest_bd (band af al bf bl c t) c.toNat
    omega
  · omega
theorem cmp_Less_eq (a b : Int) : cmp_Less_int.f a b = some (decide (a < b)) := by
  unfold cmp_Less_int.f; simp [cmp_isNaN_int.f]
def sortedN (v : List Int) (n : Nat) : Bool := (List.range n).all (fun (i : Nat) => !decide (rd v ((i : Int) + 1) < rd v (i : Int)))
theorem slices_IsSorted_eq (v : List Int) (hl : v.length ≤ 1048576) : Ev (fun k => slices_IsSorted_int_int.f k v) (sortedN v (v.length - 1)) := by
  unfold slices_IsSorted_int_int.f
  have key : ∀ (n : Nat), n < v.length ∨ n = 0 → Ev (fun k => slices_IsSorted_int_int.l0 k v (n : Int)) (sortedN v n) := by
    intro n
    induction n with
    | zero =>
      intro _
      refine Ev.succ ?_
      simp only [slices_IsSorted_int_int.l0, show ¬ ((0 : Nat) : Int) > 0 by omega, if_false]
      exact Ev.now _
    | succ n ih =>
      intro h
      refine Ev.succ ?_
      have e1 : ((n + 1 : Nat) : Int) - 1 = (n : Int) := by omega
      simp only [slices_IsSorted_int_int.l0, show ((n + 1 : Nat) : Int) > 0 by omega, show (0 : Int) ≤ ((n + 1 : Nat) : Int) by omega, show ((n + 1 : Nat) : Int) < (v.length : Int) by omega, if_true, e1, wrap_id (n := (n : Int)) (by omega) (by omega), show (0 : Int) ≤ (n : Int) by omega, show (n : Int) < (v.length : Int) by omega, cmp_Less_eq, Option.bind_some]
      have e2 : sortedN v (n + 1) = (sortedN v n && !decide (rd v ((n + 1 : Nat) : Int) < rd v (n : Int))) := by
        unfold sortedN; rw [List.range_succ, List.all_append]; simp
      rw [e2]
      by_cases hP : rd v ((n + 1 : Nat) : Int) < rd v (n : Int)
      · simp only [decide_eq_true hP, if_true, Bool.not_true, Bool.and_false]; exact Ev.now _
      · simp only [decide_eq_false hP, Bool.false_eq_true, if_false, Bool.not_false, Bool.and_true]; exact ih (by omega)
  by_cases h0 : v.length = 0
  · have hw : wrap64 ((v.length : Int) - 1) = -1 := by rw [wrap_id (by omega) (by omega)]; omega
    rw [hw]
    refine Ev.succ ?_
    simp only [slices_IsSorted_int_int.l0, show ¬ (-1 : Int) > 0 by omega, if_false]
    exact evq (Ev.now _) (by simp [sortedN, h0])
  · have hw : wrap64 ((v.length : Int) - 1) = ((v.length - 1 : Nat) : Int) := by rw [wrap_id (by omega) (by omega)]; omega
    rw [hw]
    exact key _ (by omega)
theorem chainOk_split (w : List S43) (c : Int) (t : List Int) (h1 : 1 ≤ w.length ∧ w.length ≤ 8) (h2 : t.length = w.length) : chainOk w c t = (inAll t && sortedN t (t.length - 1) && (List.range w.length).all (fun i => winAt w c i)) := by
  unfold chainOk
  rw [decide_eq_true h1, decide_eq_true h2, Bool.true_and, Bool.true_and, Bool.eq_iff_iff]
  simp only [inAll, sortedN, Bool.and_eq_true, List.all_eq_true, List.mem_range, stepAt, Bool.or_eq_true, decide_eq_true_eq, Bool.not_eq_true', decide_eq_false_iff_not]
  constructor
  · intro h
    refine ⟨⟨fun i hi => (h i (by omega)).2.1, fun i hi => ?_⟩, fun i hi => (h i hi).1⟩
    rcases (h (i + 1) (by omega)).2.2 with h3 | h3
    · omega
    · rw [show ((i + 1 : Nat) : Int) - 1 = (i : Int) by omega, show ((i + 1 : Nat) : Int) = (i : Int) + 1 by omega] at h3; omega
  · rintro ⟨⟨h3, h4⟩, h5⟩ i hi
    refine ⟨h5 i hi, h3 i (by omega), ?_⟩
    by_cases e : i = 0
    · exact .inl e
    · right
      have := h4 (i - 1) (by omega)
      rw [show ((i - 1 : Nat) : Int) = (i : Int) - 1 by omega, show (i : Int) - 1 + 1 = (i : Int) by omega] at this
      omega
theorem impl_ChainOffsets_eq (w : List S43) (c : Int) (t : List Int) (hw : w.length ≤ 1048576) (ht : t.length ≤ 1048576) : Ev (fun k => impl_ChainOffsets.f k w c t) (chainOffsets w c t) := by
  unfold impl_ChainOffsets.f chainOffsets
  refine Ev.bind (impl_sized_eq w [t] (by simp) (by simp; omega)) ?_
  simp only [List.all_cons, List.all_nil, Bool.and_true]
  have jt : Ev (fun k => impl_ChainOffsets.j0 k w c t true) ([], false) := by
    refine Ev.succ ?_
    simp only [impl_ChainOffsets.j0, if_true]; exact Ev.now _
  by_cases h1 : 1 ≤ w.length ∧ w.length ≤ 8
  · by_cases h2 : t.length = w.length
    · rw [decide_eq_true h1, decide_eq_true h2, Bool.true_and, Bool.true_and, chainOk_split w c t h1 h2]
      cases h3 : inAll t
      · simp only [Bool.false_eq_true, if_false, Bool.false_and]; exact jt
      simp only [if_true, Bool.true_and]
      refine Ev.bind (slices_IsSorted_eq t ht) ?_
      cases h4 : sortedN t (t.length - 1)
      · simp only [Bool.not_false, Bool.false_and, Bool.false_eq_true, if_false]; exact jt
      simp only [Bool.not_true, Bool.true_and]
      refine Ev.succ ?_
      simp only [impl_ChainOffsets.j0, Bool.false_eq_true, if_false]
      have hok : (List.range w.length).all (fun i => winAt w c i) = true → Ev (fun k => impl_ChainOffsets.l1 k w c t [0] 1) (offs w c t w.length, true) := by
        intro hall
        have hc : 1 ≤ c ∧ c ≤ 200 := by
          rw [List.all_eq_true] at hall
          have := hall 0 (List.mem_range.2 (by omega))
          have := (isWindow_iff _ _ _).1 this
          omega
        have key : ∀ (d i : Nat), 1 ≤ i → i + d = w.length → Ev (fun k => impl_ChainOffsets.l1 k w c t (offs w c t i) (i : Int)) (offs w c t w.length, true) := by
          intro d
          induction d with
          | zero =>
            intro i _ hi
            refine Ev.succ ?_
            obtain rfl : i = w.length := by omega
            simp only [impl_ChainOffsets.l1, Int.lt_irrefl, if_false]; exact Ev.now _
          | succ d ih =>
            intro i hi1 hi
            refine Ev.succ ?_
            have hl := offs_length w c t i
            have ti := inAll_at h3 i (by omega)
            have ti1 := inAll_at h3 (i - 1) (by omega)
            rw [show ((i - 1 : Nat) : Int) = (i : Int) - 1 by omega] at ti1
            have ob := offs_bd w c t hc.1 i (i - 1) (by omega)
            rw [show ((i - 1 : Nat) : Int) = (i : Int) - 1 by omega] at ob
            have bb := bestOffset_bd (rd_T43 w ((i : Int) - 1)).f0 (rd_T43 w ((i : Int) - 1)).f1 (rd_T43 w (i : Int)).f0 (rd_T43 w (i : Int)).f1 c (rd t (i : Int) - rd t ((i : Int) - 1))
            simp only [impl_ChainOffsets.l1, wrap_id (n := (i : Int) - 1) (by omega) (by omega), show (i : Int) < (w.length : Int) by omega, show (0 : Int) ≤ (i : Int) - 1 by omega, hl, show (i : Int) - 1 < (i : Int) by omega, show (i : Int) - 1 < (w.length : Int) by omega, show (0 : Int) ≤ (i : Int) by omega, show (i : Int) < (t.length : Int) by omega, show (i : Int) - 1 < (t.length : Int) by omega, if_true, wrap_id (n := rd t (i : Int) - rd t ((i : Int) - 1)) (by omega) (by omega), wrap_id (n := (i : Int) + 1) (by omega) (by omega)]
            refine Ev.bind (impl_BestOffset_eq _ _ _ _ _ _) ?_
            simp only [impl_Mod_eq, Option.bind_some, gmod, show 1 ≤ c ∧ c ≤ 1000000000000 by omega, and_self, if_true, show i < 17592186044416 by omega]
            rw [wrap_id (by omega) (by omega)]
            have := ih (i + 1) (by omega) (by omega)
            simp only [offs, show ¬ i = 0 by omega, if_false, nextOff] at this
            exact this
        exact key (w.length - 1) 1 (by omega) (by omega)
      have loop : ∀ (d i : Nat), i + d = w.length → ((List.range' i d).all (fun i => winAt w c i) = true → (List.range w.length).all (fun i => winAt w c i) = true) → Ev (fun k => impl_ChainOffsets.l0 k w c t w (w.length : Int) (i : Int)) (if (List.range' i d).all (fun i => winAt w c i) then (offs w c t w.length, true) else ([], false)) := by
        intro d
        induction d with
        | zero =>
          intro i hi hall
          refine Ev.succ ?_
          simp only [impl_ChainOffsets.l0, show ¬ (i : Int) < (w.length : Int) by omega, if_false]
          simpa using hok (hall (by simp))
        | succ d ih =>
          intro i hi hall
          refine Ev.succ ?_
          simp only [impl_ChainOffsets.l0, show (i : Int) < (w.length : Int) by omega, show (0 : Int) ≤ (i : Int) by omega, if_true, impl_IsWindow_eq, Option.bind_some, wrap_id (n := (i : Int) + 1) (by omega) (by omega)]
          rw [List.range'_succ, List.all_cons] at hall ⊢
          show Ev (fun k => if winAt w c i = true then _ else _) _
          cases hP : winAt w c i
          · simp only [Bool.false_eq_true, if_false, Bool.false_and]; exact Ev.now _
          · simp only [if_true, Bool.true_and]
            have := ih (i + 1) (by omega) (fun h => hall (by rw [hP, h]; rfl))
            simpa using this
      have := loop w.length 0 (by omega) (fun h => by rwa [← List.range_eq_range'] at h)
      rwa [← List.range_eq_range'] at this
    · have : chainOk w c t = false := by unfold chainOk; rw [decide_eq_false h2]; simp
      rw [this, decide_eq_false h2]; simp only [Bool.false_and, Bool.and_false, Bool.false_eq_true, if_false]; exact jt
  · have : chainOk w c t = false := by unfold chainOk; rw [decide_eq_false h1]; simp
    rw [this, decide_eq_false h1]; simp only [Bool.false_and, Bool.false_eq_true, if_false]; exact jt
theorem spec_ChainOffsets_eq (w : List S43) (c : Int) (t : List Int) (hw : w.length ≤ 1048576) (ht : t.length ≤ 1048576) : Ev (fun k => spec_ChainOffsets.f k w c t) (chainOffsets w c t) := by
  unfold spec_ChainOffsets.f chainOffsets
  have fin : ∀ (i : Nat), i = w.length ∨ t.length ≠ w.length → i ≤ w.length → Ev (fun k => spec_ChainOffsets.j1 k w c t (offs w c t i) (i : Int) false) (if decide (1 ≤ w.length ∧ w.length ≤ 8) && decide (i = w.length) then (offs w c t i, true) else ([], false)) := by
    intro i _ _
    refine Ev.succ ?_
    simp only [spec_ChainOffsets.j1, Bool.false_eq_true, if_false, spec_l1In_eq, Option.bind_some, offs_length]
    refine Ev.pure ?_
    by_cases h1 : 1 ≤ w.length ∧ w.length ≤ 8
    · by_cases h2 : i = w.length
      · simp [h1, h2, show (1 : Int) ≤ (w.length : Int) ∧ (w.length : Int) ≤ 8 by omega]
      · simp [h1, h2, show (1 : Int) ≤ (w.length : Int) ∧ (w.length : Int) ≤ 8 by omega, show ¬ (i : Int) = (w.length : Int) by omega]
    · simp [h1, show ¬ ((1 : Int) ≤ (w.length : Int) ∧ (w.length : Int) ≤ 8) by omega]
  by_cases h2 : t.length = w.length
  · have e2 : ((t.length : Int) == (w.length : Int)) = true := by simp [h2]
    have key : ∀ (d i : Nat), i + d = w.length → (1 ≤ i → 1 ≤ c ∧ c ≤ 200) → (∀ j, j < i → 0 ≤ rd t (j : Int) ∧ rd t (j : Int) ≤ 100000) → Ev (fun k => spec_ChainOffsets.l0 k w c t (offs w c t i) (i : Int)) (if decide (1 ≤ w.length ∧ w.length ≤ 8) && (List.range' i d).all (fun i => winAt w c i && stepAt t i) then (offs w c t w.length, true) else ([], false)) := by
      intro d
      induction d with
      | zero =>
        intro i hi hc htb
        refine Ev.succ ?_
        simp only [spec_ChainOffsets.l0, show ¬ (i : Int) < (w.length : Int) by omega, if_false]
        obtain rfl : i = w.length := by omega
        simpa using fin w.length (.inl rfl) (by omega)
      | succ d ih =>
        intro i hi hc htb
        refine Ev.succ ?_
        simp only [spec_ChainOffsets.l0, show (i : Int) < (w.length : Int) by omega, if_true, e2]
        refine Ev.succ ?_
        simp only [spec_ChainOffsets.j1, if_true, show (i : Int) < (w.length : Int) by omega, show (0 : Int) ≤ (i : Int) by omega, spec_IsWindow_eq, Option.bind_some, show (i : Int) < (t.length : Int) by omega, spec_l1In_eq, wrap_id (n := (i : Int) - 1) (by omega) (by omega)]
        rw [List.range'_succ, List.all_cons]
        have jt : Ev (fun k => spec_ChainOffsets.j2 k w c t (offs w c t i) (i : Int) true) ([], false) := by
          refine Ev.succ ?_
          simp only [spec_ChainOffsets.j2, if_true]; exact Ev.now _
        show Ev (fun k => if winAt w c i = true then _ else _) _
        cases hP : winAt w c i
        · simp only [Bool.false_eq_true, if_false, Bool.false_and, Bool.and_false]; exact jt
        have hc' : 1 ≤ c ∧ c ≤ 200 := by have := (isWindow_iff _ _ _).1 hP; omega
        have hl := offs_length w c t i
        simp only [if_true, Bool.true_and]
        by_cases hr : 0 ≤ rd t (i : Int) ∧ rd t (i : Int) ≤ 100000
        · simp only [decide_eq_true hr, if_true]
          have rest : Ev (fun k => spec_ChainOffsets.l0 k w c t (offs w c t (i + 1)) ((i : Int) + 1)) (if decide (1 ≤ w.length ∧ w.length ≤ 8) && (List.range' (i + 1) d).all (fun i => winAt w c i && stepAt t i) then (offs w c t w.length, true) else ([], false)) := by
            have := ih (i + 1) (by omega) (fun _ => hc') (fun j hj => by
              by_cases e : j = i
              · rw [e]; exact hr
              · exact htb j (by omega))
            simpa using this
          by_cases h0 : i = 0
          · subst h0
            simp only [show ¬ ((0 : Nat) : Int) > 0 by omega, if_false]
            refine Ev.succ ?_
            simp only [spec_ChainOffsets.j2, Bool.false_eq_true, if_false, show ¬ ((0 : Nat) : Int) > 0 by omega, hl, show 0 < 17592186044416 by omega, if_true, wrap_id (n := ((0 : Nat) : Int) + 1) (by omega) (by omega)]
            have hs : stepAt t 0 = true := by unfold stepAt; rw [decide_eq_true hr]; simp
            rw [hs, Bool.true_and]
            simpa [offs] using rest
          · simp only [show (i : Int) > 0 by omega, if_true, show (0 : Int) ≤ (i : Int) - 1 by omega, show (i : Int) - 1 < (t.length : Int) by omega]
            by_cases hgt : rd t ((i : Int) - 1) > rd t (i : Int)
            · simp only [decide_eq_true hgt]
              refine evq jt ?_
              have hs : stepAt t i = false := by unfold stepAt; rw [decide_eq_false h0, decide_eq_true hgt]; simp
              simp [hs]
            · simp only [decide_eq_false hgt]
              have ob := offs_bd w c t hc'.1 i (i - 1) (by omega)
              rw [show ((i - 1 : Nat) : Int) = (i : Int) - 1 by omega] at ob
              have ti1 := htb (i - 1) (by omega)
              rw [show ((i - 1 : Nat) : Int) = (i : Int) - 1 by omega] at ti1
              have bb := bestOffset_bd (rd_T43 w ((i : Int) - 1)).f0 (rd_T43 w ((i : Int) - 1)).f1 (rd_T43 w (i : Int)).f0 (rd_T43 w (i : Int)).f1 c (rd t (i : Int) - rd t ((i : Int) - 1))
              refine Ev.succ ?_
              simp only [spec_ChainOffsets.j2, Bool.false_eq_true, if_false, show (i : Int) > 0 by omega, if_true, wrap_id (n := (i : Int) - 1) (by omega) (by omega), show (0 : Int) ≤ (i : Int) - 1 by omega, hl, show (i : Int) - 1 < (i : Int) by omega, show (i : Int) - 1 < (w.length : Int) by omega, show (0 : Int) ≤ (i : Int) by omega, show (i : Int) < (w.length : Int) by omega, show (i : Int) < (t.length : Int) by omega, show (i : Int) - 1 < (t.length : Int) by omega, wrap_id (n := rd t (i : Int) - rd t ((i : Int) - 1)) (by omega) (by omega), wrap_id (n := (i : Int) + 1) (by omega) (by omega)]
              refine Ev.bind (spec_BestOffset_eq _ _ _ _ _ _) ?_
              simp only [spec_Mod_eq, Option.bind_some, gmod, show 1 ≤ c ∧ c ≤ 1000000000000 by omega, and_self, if_true, show i < 17592186044416 by omega]
              rw [wrap_id (by omega) (by omega)]
              have hs : stepAt t i = true := by unfold stepAt; rw [decide_eq_true hr, decide_eq_false hgt]; simp
              simp only [offs, h0, if_false, nextOff] at rest
              rw [hs, Bool.true_and]
              exact rest
        · simp only [decide_eq_false hr, Bool.false_eq_true, if_false]
          refine evq jt ?_
          have hs : stepAt t i = false := by unfold stepAt; rw [decide_eq_false hr]; rfl
          simp [hs]
    have := key w.length 0 (by omega) (by omega) (fun j hj => absurd hj (by omega))
    rw [← List.range_eq_range'] at this
    refine evq this ?_
    unfold chainOk
    rw [decide_eq_true h2, Bool.and_true]
  · have e2 : ((t.length : Int) == (w.length : Int)) = false := by simp; omega
    have hf : chainOk w c t = false := by unfold chainOk; rw [decide_eq_false h2]; simp
    rw [hf]
    have hj := fin 0 (.inr h2) (by omega)
    have hne : (decide (1 ≤ w.length ∧ w.length ≤ 8) && decide (0 = w.length)) = false := by
      by_cases h : 1 ≤ w.length ∧ w.length ≤ 8
      · rw [decide_eq_false (show ¬ 0 = w.length by omega)]; simp
      · rw [decide_eq_false h]; rfl
    rw [hne] at hj
    refine Ev.succ ?_
    by_cases h0 : (0 : Int) < (w.length : Int)
    · simp only [spec_ChainOffsets.l0, h0, if_true, e2]; exact hj
    · simp only [spec_ChainOffsets.l0, h0, if_false]; exact hj
def pairBands (w : List S43) (c : Int) (t o : List Int) : List Int := if sizedOk w t o then (List.range (w.length - 1)).map (fun i => bandM w c t o i 2) else []
theorem pairBands_le (w : List S43) (c : Int) (t o : List Int) : (pairBands w c t o).length ≤ 8 := by
  unfold pairBands
  split
  · rename_i h
    have := (sizedOk_iff _ _ _).1 h
    simp; omega
  · simp
theorem impl_PairBands_eq (w : List S43) (c : Int) (t o : List Int) (hw : w.length ≤ 1048576) (ht : t.length ≤ 1048576) (ho : o.length ≤ 1048576) : Ev (fun k => impl_PairBands.f k w c t o) (pairBands w c t o) := by
  unfold impl_PairBands.f pairBands
  simp only [Option.bind_some]
  refine Ev.bind (impl_sized_eq w [t, o] (by simp) (by simp; omega)) ?_
  have e : (decide (1 ≤ w.length ∧ w.length ≤ 8) && [t, o].all (fun l => decide (l.length = w.length) && inAll l)) = sizedOk w t o := by
    unfold sizedOk
    rw [Bool.eq_iff_iff]
    simp only [List.all_cons, List.all_nil, Bool.and_true, Bool.and_eq_true, decide_eq_true_eq]
    grind
  rw [e]
  cases hs : sizedOk w t o
  · simp only [Bool.false_eq_true, if_false]; exact Ev.now _
  obtain ⟨h1, h2, h3, h4, h5, h6⟩ := (sizedOk_iff _ _ _).1 hs
  simp only [if_true]
  have key : ∀ (d i : Nat), 1 ≤ i → i + d = w.length → Ev (fun k => impl_PairBands.l0 k w c t o ((List.range (i - 1)).map (fun i => bandM w c t o i 2)) (i : Int)) ((List.range (w.length - 1)).map (fun i => bandM w c t o i 2)) := by
    intro d
    induction d with
    | zero =>
      intro i _ hi
      refine Ev.succ ?_
      simp only [impl_PairBands.l0, show ¬ (i : Int) < (w.length : Int) by omega, if_false]
      exact evq (Ev.now _) (by rw [show i = w.length by omega])
    | succ d ih =>
      intro i hi1 hi
      refine Ev.succ ?_
      have ihh := ih (i + 1) (by omega) (by omega)
      obtain ⟨j, rfl⟩ : ∃ j, i = j + 1 := ⟨i - 1, by omega⟩
      rw [show ((j + 1 + 1 : Nat) : Int) = ((j + 1 : Nat) : Int) + 1 by omega, show j + 1 + 1 - 1 = j + 1 by omega, List.range_succ, List.map_append] at ihh
      simp only [impl_PairBands.l0, show ((j + 1 : Nat) : Int) < (w.length : Int) by omega, if_true, wrap_id (n := ((j + 1 : Nat) : Int) - 1) (by omega) (by omega), wrap_id (n := ((j + 1 : Nat) : Int) + 1) (by omega) (by omega), show ((j + 1 : Nat) : Int) - 1 = (j : Int) by omega, wrap_id (n := (j : Int)) (by omega) (by omega)]
      refine Ev.bind (impl_bandOf_eq w c t o j 2 _ h3 h4 h2 h5 (by omega) (by omega)) ?_
      simp only [List.length_map, List.length_range, show j + 1 - 1 < 17592186044416 by omega, if_true]
      exact ihh
  have := key (w.length - 1) 1 (by omega) (by omega)
  simpa using this
theorem spec_l1New_ok (l : List Int) (hl : l.length ≤ 1048576) : EvP (fun k => spec_l1New.f k l) (fun t => t.1 = l ∧ Cur t.1 t.2.1) := by
  unfold spec_l1New.f
  have key : ∀ (d i : Nat) (h : Int), i + d = l.length → EvP (fun k => spec_l1New.l0 k l h (i : Int)) (fun t => t.1 = l ∧ Cur t.1 t.2.1) := by
    intro d
    induction d with
    | zero =>
      intro i h hi
      refine EvP.succ ?_
      simp only [spec_l1New.l0, show ¬ (i : Int) < (l.length : Int) by omega, if_false]
      exact EvP.now ⟨rfl, Int.le_refl _, by show (0 : Int) ≤ (l.length : Int); omega, hl⟩
    | succ d ih =>
      intro i h hi
      refine EvP.succ ?_
      simp only [spec_l1New.l0, show (i : Int) < (l.length : Int) by omega, show (0 : Int) ≤ (i : Int) by omega, if_true, wrap_id (n := (i : Int) + 1) (by omega) (by omega)]
      refine EvP.ifd (fun _ => ?_) (fun _ => EvP.now ⟨rfl, Int.le_refl _, by show (0 : Int) ≤ (l.length : Int); omega, hl⟩)
      have := ih (i + 1) (Go.bits .and .i64 (wrap64 ((wrap64 ((wrap64 (h * 137)) + (wrap64 (rd l i)))) + 11)) 1073741823) (by omega)
      simpa using this
  exact key l.length 0 _ (by omega)
theorem spec_l1Byte_ok (b : List Int) (i h : Int) (hc : Cur b i) : DrP (spec_l1Byte.f b i h) (fun t => 0 ≤ t.1 ∧ t.1 < 256 ∧ Cur b t.2.1) := by
  unfold spec_l1Byte.f
  obtain ⟨h0, h1, h2⟩ := hc
  by_cases hi : i < (b.length : Int)
  · rw [if_pos hi, if_pos h0]
    refine DrP.now ⟨(and255 _).1, (and255 _).2, ?_⟩
    simp only [wrap_id (n := i + 1) (by omega) (by omega)]
    unfold Cur; omega
  · rw [if_neg hi]
    exact DrP.now ⟨(and255 _).1, (and255 _).2, h0, h1, h2⟩
theorem spec_l1Below_ok (b : List Int) (i h n : Int) (hc : Cur b i) : DrP (spec_l1Below.f b i h n) (fun t => (n ≤ 0 → t.1 = 0) ∧ (0 < n → 0 ≤ t.1 ∧ t.1 < n) ∧ Cur b t.2.1) := by
  unfold spec_l1Below.f
  by_cases h0 : n ≤ 0
  · rw [if_pos h0]; exact DrP.now ⟨fun _ => rfl, fun h => absurd h (by omega), hc⟩
  rw [if_neg h0]
  have hm : ∀ x : Int, 0 ≤ x → 0 ≤ Int.tmod x n ∧ Int.tmod x n < n := fun x hx => by rw [tmod_nn hx]; exact ⟨Int.emod_nonneg _ (by omega), Int.emod_lt_of_pos _ (by omega)⟩
  by_cases h1 : n ≤ 256
  · rw [if_pos h1]
    refine DrP.bind (spec_l1Byte_ok b i h hc) (fun t ht => ?_)
    rw [if_neg (by omega)]
    exact DrP.now ⟨fun h => absurd h h0, fun _ => hm _ ht.1, ht.2.2⟩
  · rw [if_neg h1]
    refine DrP.bind (spec_l1Byte_ok b i h hc) (fun t ht => ?_)
    refine DrP.bind (spec_l1Byte_ok b _ _ ht.2.2) (fun u hu => ?_)
    refine DrP.bind (spec_l1Byte_ok b _ _ hu.2.2) (fun v hv => ?_)
    rw [if_neg (by omega)]
    refine DrP.now ⟨fun h => absurd h h0, fun _ => hm _ ?_, hv.2.2⟩
    obtain ⟨t1, t2, _⟩ := ht
    obtain ⟨u1, u2, _⟩ := hu
    obtain ⟨v1, v2, _⟩ := hv
    rw [wrap_id (n := t.1 * 65536) (by omega) (by omega), wrap_id (n := u.1 * 256) (by omega) (by omega), wrap_id (n := t.1 * 65536 + u.1 * 256) (by omega) (by omega), wrap_id (by omega) (by omega)]
    omega
theorem spec_l1Once_ok (b : List Int) (i h n : Int) (hc : Cur b i) : DrP (spec_l1Once.f b i h n) (fun t => Cur b t.2.1) := by
  unfold spec_l1Once.f
  refine DrP.bind (spec_l1Below_ok b i h n hc) (fun t ht => ?_)
  exact DrP.now ht.2.2
theorem spec_l1Int_ok (b : List Int) (i h : Int) (l : List Int) (lo hi : Int) (hc : Cur b i) (hne : l.length ≠ 0) (hb : ∀ x ∈ l, lo ≤ x ∧ x ≤ hi) : DrP (spec_l1Int.f b i h l) (fun t => lo ≤ t.1 ∧ t.1 ≤ hi ∧ Cur b t.2.1) := by
  unfold spec_l1Int.f
  refine DrP.bind (spec_l1Below_ok b i h _ hc) (fun t ht => ?_)
  obtain ⟨h1, h2⟩ := ht.2.1 (by omega)
  rw [if_pos h1, if_pos h2]
  refine DrP.now ?_
  have : rd l t.1 ∈ l := by
    obtain ⟨n, hn⟩ := Int.eq_ofNat_of_zero_le h1
    rw [hn, rd_nat _ _ (by omega)]
    exact List.getElem_mem _
  have := hb _ this
  exact ⟨this.1, this.2, ht.2.2⟩
theorem spec_l1Int_cur (b : List Int) (i h : Int) (l : List Int) (hc : Cur b i) (hne : l.length ≠ 0) : DrP (spec_l1Int.f b i h l) (fun t => Cur b t.2.1) := by
  unfold spec_l1Int.f
  refine DrP.bind (spec_l1Below_ok b i h _ hc) (fun t ht => ?_)
  obtain ⟨h1, h2⟩ := ht.2.1 (by omega)
  rw [if_pos h1, if_pos h2]
  exact DrP.now ht.2.2
theorem laws_big_eq (l : List Int) : laws_big.f l = some (decide ((l.length : Int) > 1048576)) := by unfold laws_big.f; rfl
theorem spec_l21Cycle_ok (b : List Int) (i h : Int) (hc : Cur b i) : DrP (spec_l21Cycle.f b i h) (fun t => Cur b t.2.1) := by
  unfold spec_l21Cycle.f
  exact DrP.bind (spec_l1Int_cur b i h _ hc (by simp)) (fun t ht => DrP.now ht)
theorem spec_l21Window_ok (b : List Int) (i h a : Int) (hc : Cur b i) : DrP (spec_l21Window.f b i h a) (fun t => Cur b t.2.2.1) := by
  unfold spec_l21Window.f
  refine DrP.bind (spec_l1Below_ok b i h _ hc) (fun t1 h1 => ?_)
  refine DrP.bind (spec_l1Below_ok b _ _ _ h1.2.2) (fun t2 h2 => ?_)
  refine DrP.bind (spec_l1Below_ok b _ _ _ h2.2.2) (fun t3 h3 => ?_)
  split
  · exact DrP.bind (spec_l1Int_cur b _ _ _ h3.2.2 (by simp)) (fun t4 h4 => DrP.now h4)
  split
  · exact DrP.bind (spec_l1Int_cur b _ _ _ h3.2.2 (by simp)) (fun t4 h4 => DrP.now h4)
  · exact DrP.now h3.2.2
theorem spec_l22Case_ok (b : List Int) (i h : Int) (hc : Cur b i) : EvP (fun k => spec_l22Case.f k b i h) (fun t => t.1.length ≤ 4 ∧ t.2.2.1.length ≤ 5 ∧ Cur b t.2.2.2.1) := by
  unfold spec_l22Case.f
  refine EvP.bindD (spec_l21Cycle_ok b i h hc) (fun t1 h1 => ?_)
  refine EvP.bindD (spec_l1Below_ok b _ _ _ h1) (fun t2 h2 => ?_)
  have key : ∀ (d n : Nat) (xs : List S43) (ys : List Int) (z i h : Int), Cur b i → xs.length = n → ys.length = n → 1 ≤ n + d → n + d ≤ 4 → EvP (fun k => spec_l22Case.l0 k t1.1 xs ys z (d : Int) b i h) (fun t => t.1.length ≤ 4 ∧ t.2.2.1.length ≤ 5 ∧ Cur b t.2.2.2.1) := by
    intro d
    induction d with
    | zero =>
      intro n xs ys z i h hc hx hy h1 h4
      refine EvP.succ ?_
      simp only [spec_l22Case.l0, show ¬ ((0 : Nat) : Int) > 0 by omega, if_false, show (0 : Int) < (ys.length : Int) by omega, if_true, show ys.length < 17592186044416 by omega]
      refine EvP.bindD (spec_l1Below_ok b _ _ _ hc) (fun t3 h3 => ?_)
      refine EvP.ifd (fun _ => ?_) (fun _ => ?_)
      · refine EvP.bindD (spec_l1Int_cur b _ _ _ h3.2.2 (by simp)) (fun t5 h5 => ?_)
        exact EvP.now ⟨by show xs.length ≤ 4; omega, by rw [List.length_set]; omega, h5⟩
      refine EvP.ifd (fun _ => ?_) (fun _ => ?_)
      · exact EvP.now ⟨by show xs.length ≤ 4; omega, by rw [List.length_append, List.length_singleton]; omega, h3.2.2⟩
      · exact EvP.now ⟨by show xs.length ≤ 4; omega, by show ys.length ≤ 5; omega, h3.2.2⟩
    | succ d ih =>
      intro n xs ys z i h hc hx hy h1 h4
      refine EvP.succ ?_
      simp only [spec_l22Case.l0, show ((d + 1 : Nat) : Int) > 0 by omega, if_true, show xs.length < 8796093022208 by omega, show ys.length < 17592186044416 by omega, show ((d + 1 : Nat) : Int) - 1 = (d : Int) by omega, wrap_id (n := (d : Int)) (by omega) (by omega)]
      refine EvP.bindD (spec_l21Window_ok b _ _ _ hc) (fun t3 h3 => ?_)
      refine EvP.bindD (spec_l1Below_ok b _ _ _ h3) (fun t5 h5 => ?_)
      exact ih (n + 1) (xs ++ [⟨t3.1, t3.2.1⟩]) (ys ++ [z]) _ _ _ h5.2.2 (by rw [List.length_append, List.length_singleton]; omega) (by rw [List.length_append, List.length_singleton]; omega) (by omega) (by omega)
  obtain ⟨a1, a2⟩ := h2.2.1 (by omega)
  rw [wrap_id (n := 1 + t2.1) (by omega) (by omega)]
  obtain ⟨n, hn⟩ := Int.eq_ofNat_of_zero_le (show 0 ≤ 1 + t2.1 by omega)
  rw [hn]
  exact key n 0 [] [] 0 _ _ h2.2.2 rfl rfl (by omega) (by omega)
theorem spec_DrawChainOffsets_ok (l : List Int) (hl : l.length ≤ 1048576) : EvP (fun k => spec_DrawChainOffsets.f k l) (fun t => t.1.length ≤ 4 ∧ t.2.2.length ≤ 5) := by
  unfold spec_DrawChainOffsets.f
  refine EvP.bind (spec_l1New_ok l hl) (fun t ht => ?_)
  refine EvP.bind (spec_l22Case_ok _ _ _ ht.2) (fun t1 h1 => ?_)
  exact EvP.now ⟨h1.1, h1.2.1⟩
theorem spec_DrawThroughBand_j0 (b : List Int) (i h : Int) (hc : Cur b i) (xs : List S43) (c : Int) (ys zs : List Int) (hx : xs.length ≤ 4) (hy : ys.length ≤ 5) (hz : zs.length ≤ 8) : EvP (fun k => spec_DrawThroughBand.j0 k xs c ys zs b i h) (fun t => t.1.length ≤ 4 ∧ t.2.2.1.length ≤ 5 ∧ t.2.2.2.length ≤ 8) := by
  refine EvP.succ ?_
  simp only [spec_DrawThroughBand.j0]
  refine EvP.ifd (fun h0 => ?_) (fun _ => EvP.now ⟨hx, hy, hz⟩)
  simp only [show (0 : Int) < (zs.length : Int) by omega, if_true]
  refine EvP.bindD (spec_l1Once_ok b _ _ _ hc) (fun t1 h1 => ?_)
  refine EvP.ifd (fun _ => ?_) (fun _ => EvP.now ⟨hx, hy, hz⟩)
  refine EvP.bindD (spec_l1Int_cur b _ _ _ h1 (by simp)) (fun t2 h2 => ?_)
  exact EvP.now ⟨hx, hy, by rw [List.length_set]; exact hz⟩
theorem spec_DrawThroughBand_ok (l : List Int) (hl : l.length ≤ 1048576) : EvP (fun k => spec_DrawThroughBand.f k l) (fun t => t.1.length ≤ 4 ∧ t.2.2.1.length ≤ 5 ∧ t.2.2.2.length ≤ 8) := by
  unfold spec_DrawThroughBand.f
  refine EvP.bind (spec_l1New_ok l hl) (fun t ht => ?_)
  refine EvP.bind (spec_l22Case_ok _ _ _ ht.2) (fun t1 h1 => ?_)
  refine EvP.bind (EvP.of (spec_ChainOffsets_eq t1.1 t1.2.1 t1.2.2.1 (by omega) (by omega)) (P := fun u => u.1.length ≤ 8) (chainOffsets_le _ _ _)) (fun u hu => ?_)
  refine EvP.bindD (spec_l1Once_ok _ _ _ _ h1.2.2) (fun t2 h2 => ?_)
  have := h1.2.1
  simp only [Option.bind_some, List.nil_append, List.length_nil, show 0 + t1.2.2.1.length < 17592186044416 by omega, if_true]
  refine EvP.ifd (fun _ => ?_) (fun _ => ?_)
  · exact spec_DrawThroughBand_j0 _ _ _ h2 _ _ _ _ h1.1 h1.2.1 (by omega)
  · exact spec_DrawThroughBand_j0 _ _ _ h2 _ _ _ _ h1.1 h1.2.1 hu
theorem spec_DrawShiftOffsets_ok (l : List Int) (hl : l.length ≤ 1048576) : EvP (fun k => spec_DrawShiftOffsets.f k l) (fun t => t.1.length ≤ 8) := by
  unfold spec_DrawShiftOffsets.f
  refine EvP.bind (spec_DrawThroughBand_ok l hl) (fun t0 h0 => ?_)
  refine EvP.bind (spec_l1New_ok l hl) (fun t ht => ?_)
  refine EvP.bindD (spec_l1Int_cur _ _ _ _ ht.2 (by simp)) (fun t1 h1 => ?_)
  refine EvP.bindD (spec_l1Int_cur _ _ _ _ h1 (by simp)) (fun t2 h2 => ?_)
  exact EvP.now h0.2.2
theorem cnt_app (p : Int → Bool) : ∀ (m n : Nat) (s : Int), cnt p (m + n) s = cnt p m s + cnt p n (s + m)
  | 0, n, s => by simp [cnt]
  | m + 1, n, s => by
    rw [show m + 1 + n = (m + n) + 1 by omega]
    simp only [cnt]
    rw [cnt_app p m n (s + 1), show s + ((m + 1 : Nat) : Int) = s + 1 + (m : Int) by omega]
    omega
theorem cnt_shift (q : Int → Bool) (u : Int) : ∀ (n : Nat) (s : Int), cnt (fun x => q (x + u)) n s = cnt q n (s + u)
  | 0, _ => rfl
  | n + 1, s => by
    simp only [cnt]
    rw [cnt_shift q u n (s + 1), show s + 1 + u = s + u + 1 by omega]
theorem cnt_round1 (p : Int → Bool) (c : Nat) (hp : ∀ x, p (x + c) = p x) (s : Int) : cnt p c (s + 1) = cnt p c s := by
  have h1 := cnt_app p 1 c s
  have h2 := cnt_app p c 1 s
  rw [show 1 + c = c + 1 by omega] at h1
  simp only [cnt] at h1 h2
  rw [hp s] at h2
  have e : s + ((1 : Nat) : Int) = s + 1 := rfl
  rw [e] at h1
  omega
theorem cnt_round (p : Int → Bool) (c : Nat) (hp : ∀ x, p (x + c) = p x) (s : Int) : ∀ k : Nat, cnt p c (s + k) = cnt p c s
  | 0 => by simp
  | k + 1 => by
    rw [show s + ((k + 1 : Nat) : Int) = s + k + 1 by omega, cnt_round1 p c hp, cnt_round p c hp s k]
theorem cnt_any (p : Int → Bool) (c : Nat) (hp : ∀ x, p (x + c) = p x) (u : Int) : cnt p c u = cnt p c 0 := by
  by_cases h : 0 ≤ u
  · have := cnt_round p c hp 0 u.toNat
    rwa [show (0 : Int) + (u.toNat : Int) = u by omega] at this
  · have := cnt_round p c hp u (-u).toNat
    rw [show u + ((-u).toNat : Int) = 0 by omega] at this
    exact this.symm
theorem cnt_all (p : Int → Bool) : ∀ (n : Nat) (s : Int), (∀ x : Int, s ≤ x → x < s + n → p x = true) → cnt p n s = n
  | 0, _, _ => rfl
  | n + 1, s, h => by
    simp only [cnt]
    rw [h s (by omega) (by omega), cnt_all p n (s + 1) (fun x h1 h2 => h x (by omega) (by omega))]
    simp; omega
/-- In a whole cycle, as many seconds lie within a window as it is long. -/
theorem cnt_win (c : Nat) (hc : 1 ≤ c) (g l : Int) (h0 : 0 ≤ l) (h1 : l ≤ c) : cnt (fun s => decide ((s - g) % (c : Int) < l)) c 0 = l := by
  have hp : ∀ x : Int, (fun s => decide ((s - g) % (c : Int) < l)) (x + c) = (fun s => decide ((s - g) % (c : Int) < l)) x := fun x => by
    simp only [show x + (c : Int) - g = x - g + (c : Int) by omega, Int.add_emod_right]
  rw [← cnt_any _ c hp g]
  obtain ⟨a, ha⟩ := Int.eq_ofNat_of_zero_le h0
  obtain ⟨b, hb⟩ : ∃ b, c = a + b := ⟨c - a, by omega⟩
  have := cnt_app (fun s => decide ((s - g) % (c : Int) < l)) a b g
  rw [← hb] at this
  rw [this, cnt_all _ a g, cnt_none _ b (g + a)]
  · omega
  · intro x h2 h3
    simp only [decide_eq_false_iff_not]
    rw [Int.emod_eq_of_lt (by omega) (by omega)]; omega
  · intro x h2 h3
    simp only [decide_eq_true_eq]
    rw [Int.emod_eq_of_lt (by omega) (by omega)]; omega
theorem inWin {f l c o s : Int} (hw : isWindow f l c = true) (ho : -1000000 ≤ o ∧ o ≤ 1000000) (hs : -1000000 ≤ s ∧ s ≤ 1000000) : inWindow f l c o s = decide ((s - o - f) % c < l) := by
  unfold inWindow
  rw [hw, decide_eq_true ho, decide_eq_true hs]; rfl
/-- Two windows of a cycle, the second one g seconds behind the first one's start. -/
def both (af al bl : Int) (c : Int) (g : Int) (s : Int) : Bool := decide ((s - af) % c < al) && decide ((s - g) % c < bl)
theorem both_round (af al bl c g : Int) (x : Int) : both af al bl c g (x + c) = both af al bl c g x := by
  unfold both
  rw [show x + c - af = x - af + c by omega, show x + c - g = x - g + c by omega, Int.add_emod_right, Int.add_emod_right]
theorem band_both (af al bf bl c t o : Int) (ha : isWindow af al c = true) (hb : isWindow bf bl c = true) (ht : 0 ≤ t ∧ t ≤ 100000) (ho : 0 ≤ o ∧ o ≤ 100000) : band af al bf bl c t o = cnt (both af al bl c (o + bf - t)) c.toNat 0 := by
  unfold band
  rw [ha, hb, decide_eq_true ht, decide_eq_true ho]
  simp only [Bool.and_true, if_true]
  have hc := (isWindow_iff _ _ _).1 ha
  refine cnt_congr _ _ _ _ (fun x h1 h2 => ?_)
  unfold bandP both
  rw [inWin ha (by omega) (by omega), inWin hb (by omega) (by omega)]
  rw [show x - 0 - af = x - af by omega, show x + t - o - bf = x - (o + bf - t) by omega]
theorem both_le (af al bl c g : Int) (hc : 1 ≤ c) (ha : 0 ≤ al ∧ al ≤ c) (hb : 0 ≤ bl ∧ bl ≤ c) : cnt (both af al bl c g) c.toNat 0 ≤ min al bl := by
  obtain ⟨n, hn⟩ := Int.eq_ofNat_of_zero_le (show 0 ≤ c by omega)
  subst hn
  have h1 := cnt_win n (by omega) af al ha.1 ha.2
  have h2 := cnt_win n (by omega) g bl hb.1 hb.2
  have h3 := cnt_mono (both af al bl n g) (fun s => decide ((s - af) % (n : Int) < al)) n 0 (fun x _ _ h => by unfold both at h; rw [Bool.and_eq_true] at h; exact h.1)
  have h4 := cnt_mono (both af al bl n g) (fun s => decide ((s - g) % (n : Int) < bl)) n 0 (fun x _ _ h => by unfold both at h; rw [Bool.and_eq_true] at h; exact h.2)
  rw [Int.toNat_natCast]
  omega
/-- The best offset has the greatest band: as many seconds as the narrower window. -/
theorem best_band (af al bf bl c t : Int) (ha : isWindow af al c = true) (hb : isWindow bf bl c = true) (ht : 0 ≤ t ∧ t ≤ 100000) : band af al bf bl c t (bestOffset af al bf bl c t) = min al bl := by
  have hA := (isWindow_iff _ _ _).1 ha
  have hB := (isWindow_iff _ _ _).1 hb
  have hbo : bestOffset af al bf bl c t = argBest (band af al bf bl c t) c.toNat := by
    unfold bestOffset; rw [ha, hb, decide_eq_true ht]; rfl
  have hbd := argBest_bd (band af al bf bl c t) c.toNat
  have hup : band af al bf bl c t (bestOffset af al bf bl c t) ≤ min al bl := by
    rw [hbo, band_both _ _ _ _ _ _ _ ha hb ht (by omega)]
    exact both_le _ _ _ _ _ (by omega) (by omega) (by omega)
  have hlo : min al bl ≤ band af al bf bl c t (bestOffset af al bf bl c t) := by
    have hm := argBest_max (band af al bf bl c t) c.toNat ((af + t - bf) % c).toNat (by have := Int.emod_lt_of_pos (af + t - bf) (show 0 < c by omega); have := Int.emod_nonneg (af + t - bf) (show c ≠ 0 by omega); omega)
    have h0 := Int.emod_nonneg (af + t - bf) (show c ≠ 0 by omega)
    have h1 := Int.emod_lt_of_pos (af + t - bf) (show 0 < c by omega)
    rw [Int.toNat_of_nonneg h0] at hm
    rw [hbo]
    refine Int.le_trans ?_ hm
    rw [band_both _ _ _ _ _ _ _ ha hb ht (by omega)]
    obtain ⟨n, hn⟩ := Int.eq_ofNat_of_zero_le (show 0 ≤ c by omega)
    have hw := cnt_win n (by omega) af (min al bl) (by omega) (by omega)
    rw [hn, Int.toNat_natCast, ← hw]
    apply Int.le_of_eq
    refine cnt_congr _ _ _ _ (fun x _ _ => ?_)
    unfold both
    have e : (x - ((af + t - bf) % (n : Int) + bf - t)) % (n : Int) = (x - af) % (n : Int) := by
      have e1 : (af + t - bf) % (n : Int) = (af + t - bf) - (n : Int) * ((af + t - bf) / (n : Int)) := Int.emod_def _ _
      rw [e1, show x - (af + t - bf - (n : Int) * ((af + t - bf) / (n : Int)) + bf - t) = x - af + (n : Int) * ((af + t - bf) / (n : Int)) by omega, Int.add_mul_emod_self_left]
    rw [e, ← Bool.decide_and]
    congr 1
    apply propext
    omega
  omega
theorem least_at (f : Nat → Int) (n : Nat) (a : Int) : (List.range n).foldl (fun m (i : Nat) => min m (f i)) a = a ∨ ∃ j, j < n ∧ (List.range n).foldl (fun m (i : Nat) => min m (f i)) a = f j := by
  induction n with
  | zero => exact .inl rfl
  | succ n ih =>
    rw [List.range_succ, List.foldl_append]
    simp only [List.foldl_cons, List.foldl_nil]
    by_cases h : (List.range n).foldl (fun m (i : Nat) => min m (f i)) a ≤ f n
    · rw [Int.min_eq_left h]
      rcases ih with e | ⟨j, h1, h2⟩
      · exact .inl e
      · exact .inr ⟨j, by omega, h2⟩
    · exact .inr ⟨n, by omega, by rw [Int.min_eq_right (by omega)]⟩
theorem leastWindow_at (w : List S43) (h : 1 ≤ w.length) : ∃ j, j < w.length ∧ leastWindow w = (rd_T43 w (j : Int)).f1 := by
  unfold leastWindow
  rw [if_neg (by omega)]
  rcases least_at (fun i => (rd_T43 w (i : Int)).f1) w.length (rd_T43 w 0).f1 with e | ⟨j, h1, h2⟩
  · exact ⟨0, by omega, e⟩
  · exact ⟨j, h1, h2⟩
theorem bandM_win (w : List S43) (c : Int) (t o : List Int) (a d j : Nat) (hj : a ≤ j ∧ j < a + d) (hw : winAt w c j = true) : bandM w c t o a d ≤ (rd_T43 w (j : Int)).f1 := by
  have hb := (isWindow_iff _ _ _).1 hw
  unfold bandM
  rw [if_pos (by omega)]
  obtain ⟨n, hn⟩ := Int.eq_ofNat_of_zero_le (show 0 ≤ c by omega)
  have h1 := cnt_win n (by omega) (rd o (j : Int) + (rd_T43 w (j : Int)).f0 - rd t (j : Int)) (rd_T43 w (j : Int)).f1 (by omega) (by omega)
  rw [hn, Int.toNat_natCast]
  refine Int.le_trans (cnt_mono _ _ _ _ (fun s _ _ h => ?_)) (Int.le_of_eq h1)
  unfold allIn at h
  rw [List.all_eq_true] at h
  have := h j (by rw [List.mem_range'_1]; omega)
  unfold inWindow at this
  simp only [Bool.and_eq_true, decide_eq_true_eq] at this ⊢
  have e := this.2
  rwa [show s + rd t (j : Int) - rd o (j : Int) - (rd_T43 w (j : Int)).f0 = s - (rd o (j : Int) + (rd_T43 w (j : Int)).f0 - rd t (j : Int)) by omega] at e
theorem bandM_nn (w : List S43) (c : Int) (t o : List Int) (a d : Nat) : 0 ≤ bandM w c t o a d := by
  unfold bandM; split
  · exact (cnt_bd _ _ _).1
  · omega
theorem throughBand_nn (w : List S43) (c : Int) (t o : List Int) : 0 ≤ throughBand w c t o := by
  unfold throughBand; split
  · exact bandM_nn ..
  · omega
theorem chainOk_iff {w : List S43} {c : Int} {t : List Int} (h : chainOk w c t = true) : 1 ≤ w.length ∧ w.length ≤ 8 ∧ t.length = w.length ∧ ∀ i, i < w.length → winAt w c i = true ∧ stepAt t i = true := by
  unfold chainOk at h
  simp only [Bool.and_eq_true, decide_eq_true_eq, List.all_eq_true, List.mem_range] at h
  exact ⟨h.1.1.1, h.1.1.2, h.1.2, h.2⟩
theorem through_le {w : List S43} {c : Int} {t : List Int} (h : chainOk w c t = true) (o : List Int) : throughBand w c t o ≤ leastWindow w := by
  obtain ⟨h1, h2, h3, h4⟩ := chainOk_iff h
  obtain ⟨j, hj, e⟩ := leastWindow_at w h1
  rw [e]
  unfold throughBand
  split
  · exact bandM_win w c t o 0 w.length j (by omega) (h4 j hj).1
  · have := (isWindow_iff _ _ _).1 (h4 j hj).1; omega
theorem through_pair (w : List S43) (c : Int) (t o : List Int) (i : Nat) (hi : i < (pairBands w c t o).length) : throughBand w c t o ≤ rd (pairBands w c t o) (i : Int) := by
  rw [rd_nat _ _ hi]
  unfold pairBands at hi ⊢
  unfold throughBand
  by_cases hs : sizedOk w t o = true
  · simp only [hs, if_true, List.length_map, List.length_range] at hi ⊢
    simp only [List.getElem_map, List.getElem_range]
    unfold bandM
    split
    · refine cnt_mono _ _ _ _ (fun s _ _ h => ?_)
      unfold allIn at h ⊢
      rw [List.all_eq_true] at h ⊢
      intro j hj
      rw [List.mem_range'_1] at hj
      exact h j (by rw [List.mem_range'_1]; omega)
    · omega
  · simp [hs] at hi
theorem offs_at (w : List S43) (c : Int) (t : List Int) : ∀ (n i : Nat), i < n → rd (offs w c t n) (i : Int) = if i = 0 then 0 else nextOff w c t (offs w c t i) i
  | 0, i, h => absurd h (by omega)
  | n + 1, i, h => by
    have hl := offs_length w c t n
    rw [rd_nat _ _ (by rw [offs_length]; exact h)]
    by_cases e : i = n
    · subst e; simp [offs, hl]
    · have hx : (offs w c t (n + 1))[i]'(by rw [offs_length]; exact h) = (offs w c t n)[i]'(by rw [hl]; omega) := by simp only [offs]; rw [List.getElem_append_left]
      rw [hx, ← rd_nat]
      exact offs_at w c t n i (by omega)
theorem pair_best {w : List S43} {c : Int} {t : List Int} (h : chainOk w c t = true) (i : Nat) (hi : i + 1 < w.length) : bandM w c t (offs w c t w.length) i 2 = greatestBand (rd_T43 w (i : Int)).f0 (rd_T43 w (i : Int)).f1 (rd_T43 w ((i : Int) + 1)).f0 (rd_T43 w ((i : Int) + 1)).f1 c := by
  obtain ⟨h1, h2, h3, h4⟩ := chainOk_iff h
  obtain ⟨a1, a2⟩ := h4 i (by omega)
  obtain ⟨b1, b2⟩ := h4 (i + 1) hi
  have o1 := offs_bd w c t (by have := (isWindow_iff _ _ _).1 a1; omega) w.length i (by omega)
  have o2 := offs_bd w c t (by have := (isWindow_iff _ _ _).1 a1; omega) w.length (i + 1) hi
  have e1 := offs_at w c t w.length i (by omega)
  have e2 := offs_at w c t w.length (i + 1) hi
  have e3 := offs_at w c t (i + 1) i (by omega)
  rw [if_neg (by omega)] at e2
  unfold nextOff at e2
  unfold winAt at a1 b1
  unfold stepAt at a2 b2
  rw [show ((i + 1 : Nat) : Int) - 1 = (i : Int) by omega] at e2 b2
  rw [show ((i + 1 : Nat) : Int) = (i : Int) + 1 by omega] at e2 b1 b2 o2
  rw [e3, ← e1] at e2
  simp only [Bool.and_eq_true, decide_eq_true_eq, Bool.or_eq_true, Bool.not_eq_true', decide_eq_false_iff_not] at a2 b2
  generalize hO : rd (offs w c t w.length) (i : Int) = O at *
  generalize hO2 : rd (offs w c t w.length) ((i : Int) + 1) = O2 at *
  generalize hA : rd_T43 w (i : Int) = A at *
  generalize hB : rd_T43 w ((i : Int) + 1) = B at *
  generalize hT1 : rd t (i : Int) = t1 at *
  generalize hT2 : rd t ((i : Int) + 1) = t2 at *
  have ht : 0 ≤ t2 - t1 ∧ t2 - t1 ≤ 100000 := by omega
  have hbest := best_band A.f0 A.f1 B.f0 B.f1 c (t2 - t1) a1 b1 ht
  have hbb := bestOffset_bd A.f0 A.f1 B.f0 B.f1 c (t2 - t1)
  have hb0 : 0 ≤ bestOffset A.f0 A.f1 B.f0 B.f1 c (t2 - t1) := by
    unfold bestOffset; rw [a1, b1, decide_eq_true ht]; exact (argBest_bd _ _).1
  rw [band_both _ _ _ _ _ _ _ a1 b1 ht (by omega)] at hbest
  generalize bestOffset A.f0 A.f1 B.f0 B.f1 c (t2 - t1) = best at *
  have hA' := (isWindow_iff _ _ _).1 a1
  have hc : (c.toNat : Int) = c := by omega
  unfold greatestBand
  rw [a1, b1]
  simp only [Bool.and_true, if_true]
  rw [← hbest, ← cnt_any (both A.f0 A.f1 B.f1 c (best + B.f0 - (t2 - t1))) c.toNat (fun x => by rw [hc]; exact both_round ..) (0 + (t1 - O)), ← cnt_shift]
  unfold bandM
  rw [if_pos (by omega)]
  refine cnt_congr _ _ _ _ (fun s s1 s2 => ?_)
  unfold allIn both
  rw [show List.range' i 2 = [i, i + 1] by rfl]
  simp only [List.all_cons, List.all_nil, Bool.and_true, show ((i + 1 : Nat) : Int) = (i : Int) + 1 by omega, hO, hO2, hA, hB, hT1, hT2]
  rw [inWin a1 (by omega) (by omega), inWin b1 (by omega) (by omega)]
  have em := Int.emod_def (O + best) c
  rw [show s + t1 - O - A.f0 = s + (t1 - O) - A.f0 by omega]
  rw [e2, em, show s + t2 - (O + best - c * ((O + best) / c)) - B.f0 = s + (t1 - O) - (best + B.f0 - (t2 - t1)) + c * ((O + best) / c) by omega, Int.add_mul_emod_self_left]
theorem chains2 (l : List Int) (hl : l.length ≤ 1048576) : Ev (fun k => laws_FnChains.j2 k l) true := by
  refine Ev.succ ?_
  simp only [laws_FnChains.j2]
  refine Ev.bindP (spec_DrawThroughBand_ok l hl) (fun t ht => ?_)
  refine Ev.bind (impl_ThroughBand_eq _ _ _ _ (by omega) (by omega) (by omega)) ?_
  refine Ev.bind (impl_PairBands_eq _ _ _ _ (by omega) (by omega) (by omega)) ?_
  have hp := through_pair t.1 t.2.1 t.2.2.1 t.2.2.2
  have h0 := throughBand_nn t.1 t.2.1 t.2.2.1 t.2.2.2
  have hle := pairBands_le t.1 t.2.1 t.2.2.1 t.2.2.2
  generalize throughBand t.1 t.2.1 t.2.2.1 t.2.2.2 = d at hp h0
  generalize pairBands t.1 t.2.1 t.2.2.1 t.2.2.2 = p at hp hle
  have key : ∀ (e i : Nat), i + e = p.length → Ev (fun k => laws_FnChains.l1 k l d p (i : Int)) true := by
    intro e
    induction e with
    | zero =>
      intro i hi
      refine Ev.succ ?_
      simp only [laws_FnChains.l1, show ¬ (i : Int) < (p.length : Int) by omega, if_false]
      refine Ev.bindP (spec_DrawShiftOffsets_ok l hl) (fun u hu => ?_)
      refine Ev.bind (impl_ShiftOffsets_eq _ _ _ (by omega)) ?_
      simp only [shiftOffsets_length, if_true]
      exact evq (Ev.now _) (decide_eq_true h0)
    | succ e ih =>
      intro i hi
      refine Ev.succ ?_
      have ihh := ih (i + 1) (by omega)
      rw [show ((i + 1 : Nat) : Int) = (i : Int) + 1 by omega] at ihh
      have := hp i (by omega)
      simp only [laws_FnChains.l1, show (i : Int) < (p.length : Int) by omega, show (0 : Int) ≤ (i : Int) by omega, if_true, show ¬ d > rd p (i : Int) by omega, if_false, wrap_id (n := (i : Int) + 1) (by omega) (by omega)]
      exact ihh
  exact key p.length 0 (by omega)
theorem sized_offs {w : List S43} {c : Int} {t : List Int} (h : chainOk w c t = true) : sizedOk w t (offs w c t w.length) = true := by
  obtain ⟨h1, h2, h3, h4⟩ := chainOk_iff h
  have hc := (isWindow_iff _ _ _).1 (h4 0 (by omega)).1
  rw [sizedOk_iff]
  refine ⟨h1, h2, h3, offs_length .., ?_, ?_⟩
  · unfold inAll
    rw [List.all_eq_true]
    intro i hi
    rw [List.mem_range] at hi
    have := (h4 i (by omega)).2
    unfold stepAt at this
    rw [Bool.and_eq_true] at this
    exact this.1
  · unfold inAll
    rw [List.all_eq_true]
    intro i hi
    rw [List.mem_range, offs_length] at hi
    have := offs_bd w c t (by omega) w.length i hi
    exact decide_eq_true (by omega)
theorem holds : ∀ (l0 : List Int), l0.length ≤ maxLen → (∀ x ∈ l0, (Lit.int .u8 x).wf = true) → ∃ k, laws_FnChains.f k l0 = some true := by
  intro l hm _
  apply Ev.rounds
  unfold laws_FnChains.f
  simp only [laws_big_eq, Option.bind_some]
  by_cases hb : (l.length : Int) > 1048576
  · simp only [hb, decide_true, if_true]; exact Ev.now _
  have hl : l.length ≤ 1048576 := by omega
  simp only [hb, decide_false, Bool.false_eq_true, if_false]
  refine Ev.bindP (spec_DrawChainOffsets_ok l hl) (fun t ht => ?_)
  obtain ⟨w, c, tr⟩ := t
  dsimp only at ht ⊢
  refine Ev.bind (impl_ChainOffsets_eq w c tr (by omega) (by omega)) ?_
  cases hk : chainOk w c tr
  · have e : chainOffsets w c tr = ([], false) := by unfold chainOffsets; rw [hk]; rfl
    rw [e]
    simp only [Bool.false_eq_true, if_false]
    exact chains2 l hl
  · have e : chainOffsets w c tr = (offs w c tr w.length, true) := by unfold chainOffsets; rw [hk]; rfl
    obtain ⟨h1, h2, h3, h4⟩ := chainOk_iff hk
    rw [e]
    simp only [if_true]
    refine Ev.bind (impl_PairBands_eq w c tr _ (by omega) (by omega) (by rw [offs_length]; omega)) ?_
    have e0 : rd (offs w c tr w.length) 0 = 0 := by have := offs_at w c tr w.length 0 (by omega); simpa using this
    have ep : pairBands w c tr (offs w c tr w.length) = (List.range (w.length - 1)).map (fun i => bandM w c tr (offs w c tr w.length) i 2) := by unfold pairBands; rw [sized_offs hk]; rfl
    have el : (pairBands w c tr (offs w c tr w.length)).length = w.length - 1 := by rw [ep]; simp
    simp only [offs_length, if_true, show (0 : Int) < (w.length : Int) by omega, e0, wrap_id (n := (w.length : Int) - 1) (by omega) (by omega)]
    have ej : ((pairBands w c tr (offs w c tr w.length)).length : Int) = (w.length : Int) - 1 := by rw [el]; omega
    rw [ej, bne_self_eq_false]
    refine Ev.succ ?_
    simp only [laws_FnChains.j0, Bool.false_eq_true, if_false]
    have key : ∀ (d i : Nat), i + d = w.length - 1 → Ev (fun k => laws_FnChains.l0 k l w c tr (offs w c tr w.length) (pairBands w c tr (offs w c tr w.length)) (i : Int)) true := by
      intro d
      induction d with
      | zero =>
        intro i hi
        refine Ev.succ ?_
        simp only [laws_FnChains.l0, show ¬ (i : Int) < ((pairBands w c tr (offs w c tr w.length)).length : Int) by omega, if_false]
        refine Ev.bind (impl_ThroughBand_eq w c tr _ (by omega) (by omega) (by rw [offs_length]; omega)) ?_
        refine Ev.bind (impl_LeastWindow_eq w (by omega)) ?_
        have := through_le hk (offs w c tr w.length)
        refine Ev.ifn (by omega) ?_
        exact chains2 l hl
      | succ d ih =>
        intro i hi
        refine Ev.succ ?_
        have ihh := ih (i + 1) (by omega)
        rw [show ((i + 1 : Nat) : Int) = (i : Int) + 1 by omega] at ihh
        have er : rd (pairBands w c tr (offs w c tr w.length)) (i : Int) = bandM w c tr (offs w c tr w.length) i 2 := by
          rw [rd_nat _ _ (by omega)]; simp [ep]
        simp only [laws_FnChains.l0, show (i : Int) < ((pairBands w c tr (offs w c tr w.length)).length : Int) by omega, show (0 : Int) ≤ (i : Int) by omega, show (i : Int) < (w.length : Int) by omega, wrap_id (n := (i : Int) + 1) (by omega) (by omega), show (0 : Int) ≤ (i : Int) + 1 by omega, show (i : Int) + 1 < (w.length : Int) by omega, if_true, impl_GreatestBand_eq, Option.bind_some, er, pair_best hk i (by omega)]
        exact ihh
    exact key (w.length - 1) 0 (by omega)
end Go.Proofs.Ytaokklehbkiahaa.Pure.FnChains
