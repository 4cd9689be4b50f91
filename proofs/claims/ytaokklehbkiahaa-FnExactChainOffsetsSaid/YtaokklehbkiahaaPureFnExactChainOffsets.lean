/- The law FnExactChainOffsets of the given program, as a statement over numbers and lists alone, for all arguments; no conditions but the machine's own bounds. -/
import Derived.Test.YtaokklehbkiahaaPFnExactChainOffsetsx
import Derived.Test.YtaokklehbkiahaaBase
namespace Go.Proofs.Ytaokklehbkiahaa.Pure.FnExactChainOffsets
open Go.RowKit Go.Proofs.Ytaokklehbkiahaa.PFnExactChainOffsets Go.Proofs.YtaokklehbkiahaaW.PrintWords Go.Proofs.YtaokklehbkiahaaW.PrintLast Go.Proofs.Ytaokklehbkiahaa.Bas
set_option linter.unusedVariables false
set_option linter.unusedSimpArgs false
def wf41 (x : S41) : Prop := (Lit.int .i64 x.f0).wf = true ∧ (Lit.int .i64 x.f1).wf = true
theorem spec_l1In_eq (a lo hi : Int) : spec_l1In.f a lo hi = some (decide (lo ≤ a ∧ a ≤ hi)) := by
  unfold spec_l1In.f; grind
theorem impl_InRange_eq (a lo hi : Int) : impl_InRange.f a lo hi = some (decide (lo ≤ a ∧ a ≤ hi)) := by
  unfold impl_InRange.f; grind
theorem impl_IsWindow_eq (f l c : Int) : impl_IsWindow.f f l c = some (isWindow f l c) := by
  unfold impl_IsWindow.f isWindow
  simp only [impl_InRange_eq, Option.bind_some]
  by_cases h : 1 ≤ c ∧ c ≤ 200
  · rw [wrap_id (n := c - 1) (by omega) (by omega)]; grind
  · grind
theorem spec_IsWindow_eq (f l c : Int) : spec_IsWindow.f f l c = some (isWindow f l c) := by
  unfold spec_IsWindow.f isWindow
  simp only [spec_l1In_eq, Option.bind_some]
  by_cases h : 1 ≤ c ∧ c ≤ 200
  · rw [wrap_id (n := c - 1) (by omega) (by omega)]; grind
  · grind
theorem impl_Mod_eq (p q : Int) : impl_Mod.f p q = some (gmod p q) := by
  unfold impl_Mod.f gmod
  simp only [impl_InRange_eq, Option.bind_some]
  by_cases h : 1 ≤ q ∧ q ≤ 1000000000000
  · have h1 : ¬ q = 0 := by omega
    have h5 := Int.emod_lt_of_pos p (show 0 < q by omega)
    have h7 := Int.emod_nonneg p (show q ≠ 0 by omega)
    rcases tmod_cases p q (by omega) with ⟨h2, h3⟩ | ⟨h2, h3⟩
    · simp [h, h1, h2]; omega
    · simp only [h, h1, h3]; rw [wrap_id (by omega) (by omega)]; simp; omega
  · simp [h]
theorem spec_Mod_eq (p q : Int) : spec_Mod.f p q = some (gmod p q) := by
  unfold spec_Mod.f gmod
  simp only [spec_l1In_eq, Option.bind_some]
  by_cases h : 1 ≤ q ∧ q ≤ 1000000000000
  · have h1 : ¬ q = 0 := by omega
    have h5 := Int.emod_lt_of_pos p (show 0 < q by omega)
    have h7 := Int.emod_nonneg p (show q ≠ 0 by omega)
    rcases tmod_cases p q (by omega) with ⟨h2, h3⟩ | ⟨h2, h3⟩
    · rw [h2, wrap_id (by omega) (by omega), tmod_nn (by omega), Int.add_emod_right, Int.emod_emod]
      simp [h, h1]
    · rw [h2, wrap_id (by omega) (by omega), Int.sub_add_cancel, tmod_nn (by omega), Int.emod_emod]
      simp [h, h1]
  · simp [h]
theorem impl_InWindow_eq (f l c o s : Int) : impl_InWindow.f f l c o s = some (inWindow f l c o s) := by
  unfold impl_InWindow.f inWindow
  simp only [impl_InRange_eq, impl_IsWindow_eq, impl_Mod_eq, Option.bind_some]
  by_cases hw : isWindow f l c = true
  · have hw' := hw
    unfold isWindow at hw'
    simp only [decide_eq_true_eq] at hw'
    by_cases h1 : -1000000 ≤ o ∧ o ≤ 1000000
    · by_cases h2 : -1000000 ≤ s ∧ s ≤ 1000000
      · rw [wrap_id (n := s - o) (by omega) (by omega), wrap_id (by omega) (by omega)]
        have h3 : 1 ≤ c ∧ c ≤ 1000000000000 := by omega
        simp [hw, h1, h2, gmod, h3]
      · simp [hw, h1, h2]
    · simp [hw, h1]
  · simp [hw]
theorem spec_InWindow_eq (f l c o s : Int) : spec_InWindow.f f l c o s = some (inWindow f l c o s) := by
  unfold spec_InWindow.f inWindow
  simp only [spec_l1In_eq, spec_IsWindow_eq, spec_Mod_eq, Option.bind_some]
  by_cases hw : isWindow f l c = true
  · have hw' := hw
    unfold isWindow at hw'
    simp only [decide_eq_true_eq] at hw'
    by_cases h1 : -1000000 ≤ o ∧ o ≤ 1000000
    · by_cases h2 : -1000000 ≤ s ∧ s ≤ 1000000
      · rw [wrap_id (n := s - o) (by omega) (by omega), wrap_id (by omega) (by omega)]
        have h3 : 1 ≤ c ∧ c ≤ 1000000000000 := by omega
        simp [hw, h1, h2, gmod, h3]
      · simp [hw, h1, h2]
    · simp [hw, h1]
  · simp [hw]
theorem laws_toWindow_eq (a b : Int) : laws_toWindow.f a b = some (a, b) := rfl
theorem laws_toIntS_eq (l : List Int) (hl : l.length ≤ 1048576) : Ev (fun k => laws_toIntS.f k l) l := by
  unfold laws_toIntS.f
  simp only [show (0 : Int) ≤ l.length by omega, Int.toNat_natCast, show l.length ≤ 35184372088832 by omega, if_true]
  have := Ev.copy (g := fun k ys i => laws_toIntS.l0 k l ys i) l id 0 (fun i ys r h hy hr => by
    refine Ev.succ ?_
    have h1 : (i : Int) < (l.length : Int) := by omega
    have h2 : (0 : Int) ≤ (i : Int) := by omega
    have h3 : (i : Int) < (ys.length : Int) := by omega
    simp only [laws_toIntS.l0, h1, h2, h3, if_true, rd_nat _ _ h, Int.toNat_natCast, wrap_id (n := (i : Int) + 1) (by omega) (by omega)]
    exact hr) (fun ys => by
    refine Ev.succ ?_
    simp only [laws_toIntS.l0, Int.lt_irrefl, if_false]
    exact Ev.now _)
  simpa using this
theorem laws_eqIntS_self (l : List Int) (hl : l.length ≤ 140737488355328) : Ev (fun k => laws_eqIntS.f k l l) true := by
  unfold laws_eqIntS.f
  simp only [if_true]
  have := Ev.all (g := fun k i => laws_eqIntS.l0 k l l i) l.length (fun _ => true) (fun i r h _ hr => by
    refine Ev.succ ?_
    have h1 : (i : Int) < (l.length : Int) := by omega
    have h2 : (0 : Int) ≤ (i : Int) := by omega
    simp only [laws_eqIntS.l0, h1, h2, if_true, wrap_id (n := (i : Int) + 1) (by omega) (by omega)]
    exact hr) (fun i h hf => by simp at hf) (by
    refine Ev.succ ?_
    simp only [laws_eqIntS.l0, Int.lt_irrefl, if_false]
    exact Ev.now _)
  exact evq this (by rw [List.all_eq_true]; intros; rfl)
theorem laws_markIntS_eq (l : List Int) (c : Int) (hl : l.length ≤ 140737488355328) (h0 : 0 ≤ c) (h9 : c ≤ 1000000000000000) : Ev (fun k => laws_markIntS.f k l c) (c + 1 * l.length, markInts l.length c) := by
  unfold laws_markIntS.f
  refine Ev.mark (g := fun k ys c i => laws_markIntS.l0 k ys c i) 1 (fun c => c) l c (fun i ys r h hy hr => ?_) (fun ys c' hy => ?_)
  · refine Ev.succ ?_
    have h1 : (i : Int) < (ys.length : Int) := by omega
    have h2 : (0 : Int) ≤ (i : Int) := by omega
    simp only [laws_markIntS.l0, h1, h2, if_true, Int.toNat_natCast, wrap_id (n := (i : Int) + 1) (by omega) (by omega), wrap_id (n := c + 1 * (i : Int) + 1) (by omega) (by omega)]
    exact hr
  · refine Ev.succ ?_
    simp only [laws_markIntS.l0, hy, Int.lt_irrefl, if_false]
    exact Ev.now _
theorem laws_heldIntS_eq (n : Nat) (c : Int) (hl : n ≤ 140737488355328) (h0 : 0 ≤ c) (h9 : c ≤ 1000000000000000) : Ev (fun k => laws_heldIntS.f k (markInts n c) c) (c + 1 * n) := by
  unfold laws_heldIntS.f
  refine Ev.held (g := fun k c' i => laws_heldIntS.l0 k (markInts n c) c' i) 1 n c (fun i r h hr => ?_) (fun c' => ?_)
  · refine Ev.succ ?_
    have hn := markInts_length n c
    have h1 : (i : Int) < ((markInts n c).length : Int) := by omega
    have h2 : (0 : Int) ≤ (i : Int) := by omega
    have h3 : rd (markInts n c) (i : Int) = c + 1 * (i : Int) := by rw [rd_nat _ _ (by omega)]; simp [markInts]
    simp only [laws_heldIntS.l0, h1, h2, h3, if_true, wrap_id (n := (i : Int) + 1) (by omega) (by omega), wrap_id (n := c + 1 * (i : Int) + 1) (by omega) (by omega)]
    exact hr
  · refine Ev.succ ?_
    simp only [laws_heldIntS.l0, markInts_length, Int.lt_irrefl, if_false]
    exact Ev.now _
theorem rdT_lawsWindow (xs : List S41) (i : Nat) (h : i < xs.length) : rd_T41 xs (i : Int) = xs[i] := by simp [rd_T41, h]
theorem rdT_Window (xs : List S43) (i : Nat) (h : i < xs.length) : rd_T43 xs (i : Int) = xs[i] := by simp [rd_T43, h]
theorem laws_eqWindow_self (a0 : Int) (a1 : Int) : laws_eqWindow.f a0 a1 a0 a1 = some true := by unfold laws_eqWindow.f; simp
theorem laws_szWindowS_eq (l : List S41) (a : Int) (hl : l.length ≤ maxLen) (h0 : 0 ≤ a) (h1 : a ≤ 1048576) : laws_szWindowS.f l a = some (if (l.length : Int) ≤ a then a - l.length else -1) := by
  unfold maxLen at hl; unfold laws_szWindowS.f; rw [wrap_id (by omega) (by omega)]; grind
def convWindow (x : S41) : S43 := ⟨x.f0, x.f1⟩
theorem laws_toWindowS_eq (l : List S41) (hl : l.length ≤ 1048576) : Ev (fun k => laws_toWindowS.f k l) (l.map convWindow) := by
  unfold laws_toWindowS.f
  simp only [show (0 : Int) ≤ l.length by omega, Int.toNat_natCast, show l.length ≤ 17592186044416 by omega, if_true]
  exact Ev.copy (g := fun k ys i => laws_toWindowS.l0 k l ys i) l convWindow z43 (fun i ys r h hy hr => by
    refine Ev.succ ?_
    have h1 : (i : Int) < (l.length : Int) := by omega
    have h2 : (0 : Int) ≤ (i : Int) := by omega
    have h3 : (i : Int) < (ys.length : Int) := by omega
    simp only [laws_toWindowS.l0, h1, h2, h3, if_true, rdT_lawsWindow _ _ h, laws_toWindow_eq, Option.bind_some, Int.toNat_natCast, wrap_id (n := (i : Int) + 1) (by omega) (by omega)]
    exact hr) (fun ys => by
    refine Ev.succ ?_
    simp only [laws_toWindowS.l0, Int.lt_irrefl, if_false]
    exact Ev.now _)
theorem laws_eqWindowS_self (l : List S43) (hl : l.length ≤ 1048576) : Ev (fun k => laws_eqWindowS.f k l l) true := by
  unfold laws_eqWindowS.f
  simp only [if_true]
  have := Ev.all (g := fun k i => laws_eqWindowS.l0 k l l i) l.length (fun _ => true) (fun i r h _ hr => by
    refine Ev.succ ?_
    have h1 : (i : Int) < (l.length : Int) := by omega
    have h2 : (0 : Int) ≤ (i : Int) := by omega
    simp only [laws_eqWindowS.l0, h1, h2, if_true, laws_eqWindow_self, Option.bind_some, wrap_id (n := (i : Int) + 1) (by omega) (by omega)]
    exact hr) (fun i h hf => by simp at hf) (by
    refine Ev.succ ?_
    simp only [laws_eqWindowS.l0, Int.lt_irrefl, if_false]
    exact Ev.now _)
  exact evq this (by rw [List.all_eq_true]; intros; rfl)
def mkWindow (c : Int) : S43 := ⟨c, c + 1⟩
def marksWindow (n : Nat) (c : Int) : List S43 := (List.range n).map fun (i : Nat) => mkWindow (c + 2 * (i : Int))
theorem marksWindow_length (n : Nat) (c : Int) : (marksWindow n c).length = n := by simp [marksWindow]
theorem laws_markWindowS_eq (l : List S43) (c : Int) (hl : l.length ≤ 1048576) (h0 : 0 ≤ c) (h9 : c ≤ 1000000000000000) : Ev (fun k => laws_markWindowS.f k l c) (c + 2 * l.length, marksWindow l.length c) := by
  unfold laws_markWindowS.f
  refine Ev.mark (g := fun k ys c i => laws_markWindowS.l0 k ys c i) 2 mkWindow l c (fun i ys r h hy hr => ?_) (fun ys c' hy => ?_)
  · refine Ev.succ ?_
    have h1 : (i : Int) < (ys.length : Int) := by omega
    have h2 : (0 : Int) ≤ (i : Int) := by omega
    have h4 : i < ys.length := by omega
    have r0 : ∀ (zs : List S43) (x : S43), i < zs.length → rd_T43 (zs.set i x) (i : Int) = x := fun zs x hz => by rw [rdT_Window _ _ (by simpa using hz)]; simp
    simp only [laws_markWindowS.l0, h1, h2, h4, if_true, Option.bind_some, Int.toNat_natCast, List.set_set, r0, wrap_id (n := (i : Int) + 1) (by omega) (by omega), wrap_id (n := c + 2 * (i : Int) + 1) (by omega) (by omega), wrap_id (n := c + 2 * (i : Int) + 2) (by omega) (by omega), show c + 2 * (i : Int) + 1 + 1 = c + 2 * (i : Int) + 2 by omega]
    exact hr
  · refine Ev.succ ?_
    simp only [laws_markWindowS.l0, hy, Int.lt_irrefl, if_false]
    exact Ev.now _
theorem impl_Band_l0 (af al bf bl c t o : Int) (hc : c ≤ 200) (ht : 0 ≤ t ∧ t ≤ 100000) : ∀ (d : Nat) (n s : Int), 0 ≤ s → c - s = d → 0 ≤ n → n ≤ s →
    Ev (fun k => impl_Band.l0 k c t o n c s af al bf bl) (n + cnt (bandP af al bf bl c t o) d s) := by
  intro d
  induction d with
  | zero =>
    intro n s h0 hd hn hns
    refine Ev.succ ?_
    simp only [impl_Band.l0, show ¬ s < c by omega, if_false]
    exact evq (Ev.now _) (by simp [cnt])
  | succ d ih =>
    intro n s h0 hd hn hns
    refine Ev.succ ?_
    simp only [impl_Band.l0, show s < c by omega, if_true, impl_InWindow_eq, Option.bind_some, wrap_id (n := s + t) (by omega) (by omega), wrap_id (n := s + 1) (by omega) (by omega), wrap_id (n := n + 1) (by omega) (by omega)]
    unfold cnt
    have i1 := ih (n + 1) (s + 1) (by omega) (by omega) (by omega) (by omega)
    have i2 := ih n (s + 1) (by omega) (by omega) (by omega) (by omega)
    rw [Int.add_assoc] at i1
    cases h1 : inWindow af al c 0 s <;> cases h2 : inWindow bf bl c o (s + t) <;> simp only [bandP, h1, h2, Bool.true_and, Bool.false_and, Bool.and_self, Bool.and_false, if_true, if_false, Bool.false_eq_true, Int.zero_add] <;> assumption
theorem impl_Band_eq (af al bf bl c t o : Int) : Ev (fun k => impl_Band.f k af al bf bl c t o) (band af al bf bl c t o) := by
  unfold impl_Band.f band
  simp only [impl_IsWindow_eq, impl_InRange_eq, Option.bind_some]
  have hj : ∀ b : Bool, (b = false → 1 ≤ c ∧ c ≤ 200 ∧ 0 ≤ t ∧ t ≤ 100000) → Ev (fun k => impl_Band.j0 k c t o b af al bf bl) (if b then 0 else cnt (bandP af al bf bl c t o) c.toNat 0) := by
    intro b hb
    refine Ev.succ ?_
    cases b
    · obtain ⟨h1, h2, h3, h4⟩ := hb rfl
      simp only [impl_Band.j0, Bool.false_eq_true, if_false]
      exact evq (impl_Band_l0 af al bf bl c t o h2 ⟨h3, h4⟩ c.toNat 0 0 (by omega) (by omega) (by omega) (by omega)) (by simp)
    · simp only [impl_Band.j0, if_true]; exact Ev.now _
  cases ha : isWindow af al c
  · simpa using hj true (by simp)
  · have hb := (isWindow_iff _ _ _).1 ha
    cases hb' : isWindow bf bl c
    · simpa using hj true (by simp)
    · by_cases ht : 0 ≤ t ∧ t ≤ 100000
      · by_cases ho : 0 ≤ o ∧ o ≤ 100000
        · simpa [ht, ho] using hj false (fun _ => ⟨hb.1, hb.2.1, ht.1, ht.2⟩)
        · simpa [ht, ho] using hj true (by simp)
      · simpa [ht] using hj true (by simp)
theorem spec_Band_l0 (af al bf bl c t o : Int) (hc : c ≤ 200) (ht : 0 ≤ t ∧ t ≤ 100000) : ∀ (d : Nat) (n s : Int), 0 ≤ s → c - s = d → 0 ≤ n → n ≤ s →
    Ev (fun k => spec_Band.l0 k c t o n s af al bf bl) (n + cnt (bandP af al bf bl c t o) d s) := by
  intro d
  induction d with
  | zero =>
    intro n s h0 hd hn hns
    refine Ev.succ ?_
    simp only [spec_Band.l0, show ¬ s < c by omega, if_false]
    exact evq (Ev.now _) (by simp [cnt])
  | succ d ih =>
    intro n s h0 hd hn hns
    refine Ev.succ ?_
    simp only [spec_Band.l0, show s < c by omega, if_true, spec_InWindow_eq, Option.bind_some, wrap_id (n := s + t) (by omega) (by omega), wrap_id (n := s + 1) (by omega) (by omega), wrap_id (n := n + 1) (by omega) (by omega)]
    unfold cnt
    have i1 := ih (n + 1) (s + 1) (by omega) (by omega) (by omega) (by omega)
    have i2 := ih n (s + 1) (by omega) (by omega) (by omega) (by omega)
    rw [Int.add_assoc] at i1
    cases h1 : inWindow af al c 0 s <;> cases h2 : inWindow bf bl c o (s + t) <;> simp only [bandP, h1, h2, Bool.true_and, Bool.false_and, Bool.and_self, Bool.and_false, if_true, if_false, Bool.false_eq_true, Int.zero_add] <;> assumption
theorem spec_Band_eq (af al bf bl c t o : Int) : Ev (fun k => spec_Band.f k af al bf bl c t o) (band af al bf bl c t o) := by
  unfold spec_Band.f band
  simp only [spec_IsWindow_eq, spec_l1In_eq, Option.bind_some]
  have hj : ∀ b : Bool, (b = false → 1 ≤ c ∧ c ≤ 200 ∧ 0 ≤ t ∧ t ≤ 100000) → Ev (fun k => spec_Band.j0 k c t o b af al bf bl) (if b then 0 else cnt (bandP af al bf bl c t o) c.toNat 0) := by
    intro b hb
    refine Ev.succ ?_
    cases b
    · obtain ⟨h1, h2, h3, h4⟩ := hb rfl
      simp only [spec_Band.j0, Bool.false_eq_true, if_false]
      exact evq (spec_Band_l0 af al bf bl c t o h2 ⟨h3, h4⟩ c.toNat 0 0 (by omega) (by omega) (by omega) (by omega)) (by simp)
    · simp only [spec_Band.j0, if_true]; exact Ev.now _
  cases ha : isWindow af al c
  · simpa using hj true (by simp)
  · have hb := (isWindow_iff _ _ _).1 ha
    cases hb' : isWindow bf bl c
    · simpa using hj true (by simp)
    · by_cases ht : 0 ≤ t ∧ t ≤ 100000
      · by_cases ho : 0 ≤ o ∧ o ≤ 100000
        · simpa [ht, ho] using hj false (fun _ => ⟨hb.1, hb.2.1, ht.1, ht.2⟩)
        · simpa [ht, ho] using hj true (by simp)
      · simpa [ht] using hj true (by simp)
theorem spec_BestOffset_eq (af al bf bl c t : Int) : Ev (fun k => spec_BestOffset.f k af al bf bl c t) (bestOffset af al bf bl c t) := by
  unfold spec_BestOffset.f bestOffset
  simp only [spec_IsWindow_eq, spec_l1In_eq, Option.bind_some]
  have hj : ∀ b : Bool, (b = false → 1 ≤ c ∧ c ≤ 200) → Ev (fun k => spec_BestOffset.j0 k c t b af al bf bl) (if b then -1 else argBest (band af al bf bl c t) c.toNat) := by
    intro b hb
    refine Ev.succ ?_
    cases b
    · obtain ⟨h1, h2⟩ := hb rfl
      simp only [spec_BestOffset.j0, Bool.false_eq_true, if_false]
      have h := Ev.fold (g := fun k b i => spec_BestOffset.l0 k c t b i af al bf bl) c.toNat (fun b (o : Nat) => if band af al bf bl c t o > band af al bf bl c t b then (o : Int) else b) id (fun _ _ => True) (fun i s r h _ hr => by
        refine Ev.succ ?_
        have hr' := hr trivial
        simp only [spec_BestOffset.l0, show (i : Int) < c by omega, if_true, wrap_id (n := (i : Int) + 1) (by omega) (by omega)]
        refine Ev.bind (spec_Band_eq _ _ _ _ _ _ _) ?_
        refine Ev.bind (spec_Band_eq _ _ _ _ _ _ _) ?_
        by_cases hx : band af al bf bl c t i > band af al bf bl c t s <;> simp only [hx, if_true, if_false] at hr' ⊢ <;> exact hr') (fun _ _ _ _ => trivial) (fun s _ => by
        refine Ev.succ ?_
        simp only [spec_BestOffset.l0, show ¬ ((c.toNat : Int) < c) by omega, if_false]
        exact Ev.now _) 0 trivial
      obtain ⟨K, hK⟩ := h
      obtain ⟨K2, hK2⟩ := spec_Band_eq af al bf bl c t 0
      refine ⟨K + K2, fun k hk => ?_⟩
      have := hK (k + 1) (by omega)
      simp only [spec_BestOffset.l0, show (0 : Int) < c by omega, if_true, hK2 k (by omega), Option.bind_some, Int.lt_irrefl, gt_iff_lt, if_false, show wrap64 (0 + 1) = 1 by unfold wrap64; omega] at this
      exact this
    · simp only [spec_BestOffset.j0, if_true]; exact Ev.now _
  cases ha : isWindow af al c
  · simpa using hj true (by simp)
  · have hb := (isWindow_iff _ _ _).1 ha
    cases hb' : isWindow bf bl c
    · simpa using hj true (by simp)
    · by_cases ht : 0 ≤ t ∧ t ≤ 100000
      · simpa [ht] using hj false (fun _ => ⟨hb.1, hb.2.1⟩)
      · simpa [ht] using hj true (by simp)
theorem impl_BestOffset_eq (af al bf bl c t : Int) : Ev (fun k => impl_BestOffset.f k af al bf bl c t) (bestOffset af al bf bl c t) := by
  unfold impl_BestOffset.f bestOffset
  simp only [impl_IsWindow_eq, impl_InRange_eq, Option.bind_some]
  have hj : ∀ b : Bool, (b = false → 1 ≤ c ∧ c ≤ 200) → Ev (fun k => impl_BestOffset.j0 k c t b af al bf bl) (if b then -1 else argBest (band af al bf bl c t) c.toNat) := by
    intro b hb
    refine Ev.succ ?_
    cases b
    · obtain ⟨h1, h2⟩ := hb rfl
      simp only [impl_BestOffset.j0, Bool.false_eq_true, if_false]
      have key : ∀ (d i : Nat) (b : Int), 1 ≤ i → i + d = c.toNat → Ev (fun k => impl_BestOffset.l0 k c t b (band af al bf bl c t b) c (i : Int) af al bf bl) ((List.range' i d).foldl (fun b (o : Nat) => if band af al bf bl c t o > band af al bf bl c t b then (o : Int) else b) b) := by
        intro d
        induction d with
        | zero =>
          intro i b _ hi
          refine Ev.succ ?_
          simp only [impl_BestOffset.l0, show ¬ ((i : Int) < c) by omega, if_false]
          exact Ev.now _
        | succ d ih =>
          intro i b h1 hi
          refine Ev.succ ?_
          simp only [impl_BestOffset.l0, show (i : Int) < c by omega, if_true, wrap_id (n := (i : Int) + 1) (by omega) (by omega)]
          refine Ev.bind (impl_Band_eq _ _ _ _ _ _ _) ?_
          rw [List.range'_succ, List.foldl_cons]
          by_cases hx : band af al bf bl c t i > band af al bf bl c t b <;> simp only [hx, if_true, if_false]
          · simpa using ih (i + 1) (i : Int) (by omega) (by omega)
          · simpa using ih (i + 1) b (by omega) (by omega)
      refine Ev.succ ?_
      simp only [impl_BestOffset.l0, show (0 : Int) < c by omega, if_true, show wrap64 (0 + 1) = 1 by unfold wrap64; omega]
      refine Ev.bind (impl_Band_eq _ _ _ _ _ _ _) ?_
      simp only [show band af al bf bl c t 0 > -1 by have := band_nn af al bf bl c t 0; omega, if_true]
      refine evq (key (c.toNat - 1) 1 0 (by omega) (by omega)) ?_
      unfold argBest
      obtain ⟨m, hm⟩ : ∃ m, c.toNat = m + 1 := ⟨c.toNat - 1, by omega⟩
      rw [hm, List.range_eq_range', List.range'_succ, List.foldl_cons]
      simp
    · simp only [impl_BestOffset.j0, if_true]; exact Ev.now _
  cases ha : isWindow af al c
  · simpa using hj true (by simp)
  · have hb := (isWindow_iff _ _ _).1 ha
    cases hb' : isWindow bf bl c
    · simpa using hj true (by simp)
    · by_cases ht : 0 ≤ t ∧ t ≤ 100000
      · simpa [ht] using hj false (fun _ => ⟨hb.1, hb.2.1⟩)
      · simpa [ht] using hj true (by simp)
def inAll (l : List Int) : Bool := (List.range l.length).all (fun (i : Nat) => decide (0 ≤ rd l (i : Int) ∧ rd l (i : Int) ≤ 100000))
theorem inAll_at {l : List Int} (h : inAll l = true) (i : Nat) (hi : i < l.length) : 0 ≤ rd l (i : Int) ∧ rd l (i : Int) ≤ 100000 := by
  unfold inAll at h
  rw [List.all_eq_true] at h
  exact of_decide_eq_true (h i (List.mem_range.2 hi))
theorem impl_sized_l1 (w : List S43) (ls : List (List Int)) (j : Int) (l : List Int) (b : Bool) (hl : l.length ≤ 1048576) (hb : Ev (fun k => impl_sized.l0 k w ls (ls.length : Int) (wrap64 (j + 1))) b) :
    Ev (fun k => impl_sized.l1 k w ls (ls.length : Int) j l (l.length : Int) 0) (inAll l && b) := by
  unfold inAll
  have key : ∀ (d i : Nat), i + d = l.length → Ev (fun k => impl_sized.l1 k w ls (ls.length : Int) j l (l.length : Int) (i : Int)) ((List.range' i d).all (fun (i : Nat) => decide (0 ≤ rd l (i : Int) ∧ rd l (i : Int) ≤ 100000)) && b) := by
    intro d
    induction d with
    | zero =>
      intro i hi
      refine Ev.succ ?_
      simp only [impl_sized.l1, show ¬ (i : Int) < (l.length : Int) by omega, if_false]
      simpa using hb
    | succ d ih =>
      intro i hi
      refine Ev.succ ?_
      simp only [impl_sized.l1, show (i : Int) < (l.length : Int) by omega, show (0 : Int) ≤ (i : Int) by omega, if_true, impl_InRange_eq, Option.bind_some, wrap_id (n := (i : Int) + 1) (by omega) (by omega)]
      rw [List.range'_succ, List.all_cons]
      by_cases hP : 0 ≤ rd l (i : Int) ∧ rd l (i : Int) ≤ 100000
      · have := ih (i + 1) (by omega)
        rw [show ((i + 1 : Nat) : Int) = (i : Int) + 1 by omega] at this
        rw [decide_eq_true hP, Bool.true_and]; simp only [if_true]; exact this
      · rw [decide_eq_false hP]; simp only [Bool.false_eq_true, if_false, Bool.false_and]; exact Ev.now _
  have := key l.length 0 (by omega)
  rwa [← List.range_eq_range'] at this
theorem impl_sized_l0 (w : List S43) (ls : List (List Int)) (hs : ls.length ≤ 100) (hl : ∀ l ∈ ls, l.length ≤ 1048576) : ∀ (d i : Nat), i + d = ls.length →
    Ev (fun k => impl_sized.l0 k w ls (ls.length : Int) (i : Int)) ((ls.drop i).all (fun l => decide (l.length = w.length) && inAll l)) := by
  intro d
  induction d with
  | zero =>
    intro i hi
    refine Ev.succ ?_
    simp only [impl_sized.l0, show ¬ (i : Int) < (ls.length : Int) by omega, if_false]
    exact evq (Ev.now _) (by simp [List.drop_eq_nil_of_le (show ls.length ≤ i by omega)])
  | succ d ih =>
    intro i hi
    have hr : rd_L3 ls (i : Int) = ls[i] := by simp [rd_L3, show i < ls.length by omega]
    refine Ev.succ ?_
    simp only [impl_sized.l0, show (i : Int) < (ls.length : Int) by omega, show (0 : Int) ≤ (i : Int) by omega, if_true, hr]
    rw [List.drop_eq_getElem_cons (by omega), List.all_cons]
    by_cases hP : ls[i].length = w.length
    · have h2 := ih (i + 1) (by omega)
      rw [show ((i + 1 : Nat) : Int) = (i : Int) + 1 by omega] at h2
      simp only [show (ls[i].length : Int) = (w.length : Int) by omega, if_true, decide_eq_true hP, Bool.true_and]
      have := impl_sized_l1 w ls (i : Int) ls[i] _ (hl _ (List.getElem_mem _)) (by rw [wrap_id (by omega) (by omega)]; exact h2)
      rw [show (ls[i].length : Int) = (w.length : Int) by omega] at this
      exact this
    · simp only [show ¬ (ls[i].length : Int) = (w.length : Int) by omega, if_false, decide_eq_false hP, Bool.false_and]; exact Ev.now _
theorem impl_sized_eq (w : List S43) (ls : List (List Int)) (hs : ls.length ≤ 100) (hl : ∀ l ∈ ls, l.length ≤ 1048576) :
    Ev (fun k => impl_sized.f k w ls) (decide (1 ≤ w.length ∧ w.length ≤ 8) && ls.all (fun l => decide (l.length = w.length) && inAll l)) := by
  unfold impl_sized.f
  simp only [impl_InRange_eq, Option.bind_some]
  by_cases h : 1 ≤ w.length ∧ w.length ≤ 8
  · simp only [decide_eq_true h, decide_eq_true (show (1 : Int) ≤ (w.length : Int) ∧ (w.length : Int) ≤ 8 by omega), if_true, Bool.true_and]
    simpa using impl_sized_l0 w ls hs hl ls.length 0 (by omega)
  · simp only [decide_eq_false h, decide_eq_false (show ¬ ((1 : Int) ≤ (w.length : Int) ∧ (w.length : Int) ≤ 8) by omega), Bool.false_eq_true, if_false, Bool.false_and]
    exact Ev.now _
/-- The next offset behind i of them. -/
def nextOff (w : List S43) (c : Int) (t o : List Int) (i : Nat) : Int := (rd o ((i : Int) - 1) + bestOffset (rd_T43 w ((i : Int) - 1)).f0 (rd_T43 w ((i : Int) - 1)).f1 (rd_T43 w (i : Int)).f0 (rd_T43 w (i : Int)).f1 c (rd t (i : Int) - rd t ((i : Int) - 1))) % c
def offs (w : List S43) (c : Int) (t : List Int) : Nat → List Int
  | 0 => []
  | i + 1 => offs w c t i ++ [if i = 0 then 0 else nextOff w c t (offs w c t i) i]
theorem offs_length (w : List S43) (c : Int) (t : List Int) : ∀ i, (offs w c t i).length = i
  | 0 => rfl
  | i + 1 => by simp [offs, offs_length w c t i]
def winAt (w : List S43) (c : Int) (i : Nat) : Bool := isWindow (rd_T43 w (i : Int)).f0 (rd_T43 w (i : Int)).f1 c
def stepAt (t : List Int) (i : Nat) : Bool := decide (0 ≤ rd t (i : Int) ∧ rd t (i : Int) ≤ 100000) && (decide (i = 0) || !decide (rd t ((i : Int) - 1) > rd t (i : Int)))
def chainOk (w : List S43) (c : Int) (t : List Int) : Bool := decide (1 ≤ w.length ∧ w.length ≤ 8) && decide (t.length = w.length) && (List.range w.length).all (fun i => winAt w c i && stepAt t i)
def chainOffsets (w : List S43) (c : Int) (t : List Int) : List Int × Bool := if chainOk w c t then (offs w c t w.length, true) else ([], false)
theorem chainOffsets_le (w : List S43) (c : Int) (t : List Int) : (chainOffsets w c t).1.length ≤ 8 := by
  unfold chainOffsets
  split
  · rename_i h
    unfold chainOk at h
    simp only [Bool.and_eq_true, decide_eq_true_eq] at h
    simp only [offs_length]; omega
  · simp
/-- Each offset lies within the cycle. -/
theorem offs_bd (w : List S43) (c : Int) (t : List Int) (hc : 1 ≤ c) : ∀ (n i : Nat), i < n → 0 ≤ rd (offs w c t n) (i : Int) ∧ rd (offs w c t n) (i : Int) < c
  | 0, i, h => absurd h (by omega)
  | n + 1, i, h => by
    have hl := offs_length w c t n
    rw [rd_nat _ _ (by rw [offs_length]; exact h)]
    by_cases e : i = n
    · subst e
      have hx : (offs w c t (i + 1))[i]'(by rw [offs_length]; exact h) = if i = 0 then 0 else nextOff w c t (offs w c t i) i := by simp [offs, hl]
      rw [hx]
      split
      · omega
      · exact ⟨Int.emod_nonneg _ (by omega), Int.emod_lt_of_pos _ (by omega)⟩
    · have hx : (offs w c t (n + 1))[i]'(by rw [offs_length]; exact h) = (offs w c t n)[i]'(by rw [hl]; omega) := by simp only [offs]; rw [List.getElem_append_left]
      rw [hx, ← rd_nat]
      exact offs_bd w c t hc n i (by omega)
theorem bestOffset_bd (af al bf bl c t : Int) : -1 ≤ bestOffset af al bf bl c t ∧ bestOffset af al bf bl c t ≤ 200 := by
  unfold bestOffset
  split
  · rename_i h
    simp only [Bool.and_eq_true, isWindow_iff] at h
    have := argBest_bd (band af al bf bl c t) c.toNat
    omega
  · omega
theorem cmp_Less_eq (a b : Int) : cmp_Less_int.f a b = some (decide (a < b)) := by
  unfold cmp_Less_int.f; simp [cmp_isNaN_int.f]
def sortedN (v : List Int) (n : Nat) : Bool := (List.range n).all (fun (i : Nat) => !decide (rd v ((i : Int) + 1) < rd v (i : Int)))
theorem slices_IsSorted_eq (v : List Int) (hl : v.length ≤ 1048576) : Ev (fun k => slices_IsSorted_int_int.f k v) (sortedN v (v.length - 1)) := by
  unfold slices_IsSorted_int_int.f
  have key : ∀ (n : Nat), n < v.length ∨ n = 0 → Ev (fun k => slices_IsSorted_int_int.l0 k v (n : Int)) (sortedN v n) := by
    intro n
    induction n with
    | zero =>
      intro _
      refine Ev.succ ?_
      simp only [slices_IsSorted_int_int.l0, show ¬ ((0 : Nat) : Int) > 0 by omega, if_false]
      exact Ev.now _
    | succ n ih =>
      intro h
      refine Ev.succ ?_
      have e1 : ((n + 1 : Nat) : Int) - 1 = (n : Int) := by omega
      simp only [slices_IsSorted_int_int.l0, show ((n + 1 : Nat) : Int) > 0 by omega, show (0 : Int) ≤ ((n + 1 : Nat) : Int) by omega, show ((n + 1 : Nat) : Int) < (v.length : Int) by omega, if_true, e1, wrap_id (n := (n : Int)) (by omega) (by omega), show (0 : Int) ≤ (n : Int) by omega, show (n : Int) < (v.length : Int) by omega, cmp_Less_eq, Option.bind_some]
      have e2 : sortedN v (n + 1) = (sortedN v n && !decide (rd v ((n + 1 : Nat) : Int) < rd v (n : Int))) := by
        unfold sortedN; rw [List.range_succ, List.all_append]; simp
      rw [e2]
      by_cases hP : rd v ((n + 1 : Nat) : Int) < rd v (n : Int)
      · simp only [decide_eq_true hP, if_true, Bool.not_true, Bool.and_false]; exact Ev.now _
      · simp only [decide_eq_false hP, Bool.false_eq_true, if_false, Bool.not_false, Bool.and_true]; exact ih (by omega)
  by_cases h0 : v.length = 0
  · have hw : wrap64 ((v.length : Int) - 1) = -1 := by rw [wrap_id (by omega) (by omega)]; omega
    rw [hw]
    refine Ev.succ ?_
    simp only [slices_IsSorted_int_int.l0, show ¬ (-1 : Int) > 0 by omega, if_false]
    exact evq (Ev.now _) (by simp [sortedN, h0])
  · have hw : wrap64 ((v.length : Int) - 1) = ((v.length - 1 : Nat) : Int) := by rw [wrap_id (by omega) (by omega)]; omega
    rw [hw]
    exact key _ (by omega)
theorem chainOk_split (w : List S43) (c : Int) (t : List Int) (h1 : 1 ≤ w.length ∧ w.length ≤ 8) (h2 : t.length = w.length) : chainOk w c t = (inAll t && sortedN t (t.length - 1) && (List.range w.length).all (fun i => winAt w c i)) := by
  unfold chainOk
  rw [decide_eq_true h1, decide_eq_true h2, Bool.true_and, Bool.true_and, Bool.eq_iff_iff]
  simp only [inAll, sortedN, Bool.and_eq_true, List.all_eq_true, List.mem_range, stepAt, Bool.or_eq_true, decide_eq_true_eq, Bool.not_eq_true', decide_eq_false_iff_not]
  constructor
  · intro h
    refine ⟨⟨fun i hi => (h i (by omega)).2.1, fun i hi => ?_⟩, fun i hi => (h i hi).1⟩
    rcases (h (i + 1) (by omega)).2.2 with h3 | h3
    · omega
    · rw [show ((i + 1 : Nat) : Int) - 1 = (i : Int) by omega, show ((i + 1 : Nat) : Int) = (i : Int) + 1 by omega] at h3; omega
  · rintro ⟨⟨h3, h4⟩, h5⟩ i hi
    refine ⟨h5 i hi, h3 i (by omega), ?_⟩
    by_cases e : i = 0
    · exact .inl e
    · right
      have := h4 (i - 1) (by omega)
      rw [show ((i - 1 : Nat) : Int) = (i : Int) - 1 by omega, show (i : Int) - 1 + 1 = (i : Int) by omega] at this
      omega
theorem impl_ChainOffsets_eq (w : List S43) (c : Int) (t : List Int) (hw : w.length ≤ 1048576) (ht : t.length ≤ 1048576) : Ev (fun k => impl_ChainOffsets.f k w c t) (chainOffsets w c t) := by
  unfold impl_ChainOffsets.f chainOffsets
  refine Ev.bind (impl_sized_eq w [t] (by simp) (by simp; omega)) ?_
  simp only [List.all_cons, List.all_nil, Bool.and_true]
  have jt : Ev (fun k => impl_ChainOffsets.j0 k w c t true) ([], false) := by
    refine Ev.succ ?_
    simp only [impl_ChainOffsets.j0, if_true]; exact Ev.now _
  by_cases h1 : 1 ≤ w.length ∧ w.length ≤ 8
  · by_cases h2 : t.length = w.length
    · rw [decide_eq_true h1, decide_eq_true h2, Bool.true_and, Bool.true_and, chainOk_split w c t h1 h2]
      cases h3 : inAll t
      · simp only [Bool.false_eq_true, if_false, Bool.false_and]; exact jt
      simp only [if_true, Bool.true_and]
      refine Ev.bind (slices_IsSorted_eq t ht) ?_
      cases h4 : sortedN t (t.length - 1)
      · simp only [Bool.not_false, Bool.false_and, Bool.false_eq_true, if_false]; exact jt
      simp only [Bool.not_true, Bool.true_and]
      refine Ev.succ ?_
      simp only [impl_ChainOffsets.j0, Bool.false_eq_true, if_false]
      have hok : (List.range w.length).all (fun i => winAt w c i) = true → Ev (fun k => impl_ChainOffsets.l1 k w c t [0] 1) (offs w c t w.length, true) := by
        intro hall
        have hc : 1 ≤ c ∧ c ≤ 200 := by
          rw [List.all_eq_true] at hall
          have := hall 0 (List.mem_range.2 (by omega))
          have := (isWindow_iff _ _ _).1 this
          omega
        have key : ∀ (d i : Nat), 1 ≤ i → i + d = w.length → Ev (fun k => impl_ChainOffsets.l1 k w c t (offs w c t i) (i : Int)) (offs w c t w.length, true) := by
          intro d
          induction d with
          | zero =>
            intro i _ hi
            refine Ev.succ ?_
            obtain rfl : i = w.length := by omega
            simp only [impl_ChainOffsets.l1, Int.lt_irrefl, if_false]; exact Ev.now _
          | succ d ih =>
            intro i hi1 hi
            refine Ev.succ ?_
            have hl := offs_length w c t i
            have ti := inAll_at h3 i (by omega)
            have ti1 := inAll_at h3 (i - 1) (by omega)
            rw [show ((i - 1 : Nat) : Int) = (i : Int) - 1 by omega] at ti1
            have ob := offs_bd w c t hc.1 i (i - 1) (by omega)
            rw [show ((i - 1 : Nat) : Int) = (i : Int) - 1 by omega] at ob
            have bb := bestOffset_bd (rd_T43 w ((i : Int) - 1)).f0 (rd_T43 w ((i : Int) - 1)).f1 (rd_T43 w (i : Int)).f0 (rd_T43 w (i : Int)).f1 c (rd t (i : Int) - rd t ((i : Int) - 1))
            simp only [impl_ChainOffsets.l1, wrap_id (n := (i : Int) - 1) (by omega) (by omega), show (i : Int) < (w.length : Int) by omega, show (0 : Int) ≤ (i : Int) - 1 by omega, hl, show (i : Int) - 1 < (i : Int) by omega, show (i : Int) - 1 < (w.length : Int) by omega, show (0 : Int) ≤ (i : Int) by omega, show (i : Int) < (t.length : Int) by omega, show (i : Int) - 1 < (t.length : Int) by omega, if_true, wrap_id (n := rd t (i : Int) - rd t ((i : Int) - 1)) (by omega) (by omega), wrap_id (n := (i : Int) + 1) (by omega) (by omega)]
            refine Ev.bind (impl_BestOffset_eq _ _ _ _ _ _) ?_
            simp only [impl_Mod_eq, Option.bind_some, gmod, show 1 ≤ c ∧ c ≤ 1000000000000 by omega, and_self, if_true, show i < 17592186044416 by omega]
            rw [wrap_id (by omega) (by omega)]
            have := ih (i + 1) (by omega) (by omega)
            simp only [offs, show ¬ i = 0 by omega, if_false, nextOff] at this
            exact this
        exact key (w.length - 1) 1 (by omega) (by omega)
      have loop : ∀ (d i : Nat), i + d = w.length → ((List.range' i d).all (fun i => winAt w c i) = true → (List.range w.length).all (fun i => winAt w c i) = true) → Ev (fun k => impl_ChainOffsets.l0 k w c t w (w.length : Int) (i : Int)) (if (List.range' i d).all (fun i => winAt w c i) then (offs w c t w.length, true) else ([], false)) := by
        intro d
        induction d with
        | zero =>
          intro i hi hall
          refine Ev.succ ?_
          simp only [impl_ChainOffsets.l0, show ¬ (i : Int) < (w.length : Int) by omega, if_false]
          simpa using hok (hall (by simp))
        | succ d ih =>
          intro i hi hall
          refine Ev.succ ?_
          simp only [impl_ChainOffsets.l0, show (i : Int) < (w.length : Int) by omega, show (0 : Int) ≤ (i : Int) by omega, if_true, impl_IsWindow_eq, Option.bind_some, wrap_id (n := (i : Int) + 1) (by omega) (by omega)]
          rw [List.range'_succ, List.all_cons] at hall ⊢
          show Ev (fun k => if winAt w c i = true then _ else _) _
          cases hP : winAt w c i
          · simp only [Bool.false_eq_true, if_false, Bool.false_and]; exact Ev.now _
          · simp only [if_true, Bool.true_and]
            have := ih (i + 1) (by omega) (fun h => hall (by rw [hP, h]; rfl))
            simpa using this
      have := loop w.length 0 (by omega) (fun h => by rwa [← List.range_eq_range'] at h)
      rwa [← List.range_eq_range'] at this
    · have : chainOk w c t = false := by unfold chainOk; rw [decide_eq_false h2]; simp
      rw [this, decide_eq_false h2]; simp only [Bool.false_and, Bool.and_false, Bool.false_eq_true, if_false]; exact jt
  · have : chainOk w c t = false := by unfold chainOk; rw [decide_eq_false h1]; simp
    rw [this, decide_eq_false h1]; simp only [Bool.false_and, Bool.false_eq_true, if_false]; exact jt
theorem spec_ChainOffsets_eq (w : List S43) (c : Int) (t : List Int) (hw : w.length ≤ 1048576) (ht : t.length ≤ 1048576) : Ev (fun k => spec_ChainOffsets.f k w c t) (chainOffsets w c t) := by
  unfold spec_ChainOffsets.f chainOffsets
  have fin : ∀ (i : Nat), i = w.length ∨ t.length ≠ w.length → i ≤ w.length → Ev (fun k => spec_ChainOffsets.j1 k w c t (offs w c t i) (i : Int) false) (if decide (1 ≤ w.length ∧ w.length ≤ 8) && decide (i = w.length) then (offs w c t i, true) else ([], false)) := by
    intro i _ _
    refine Ev.succ ?_
    simp only [spec_ChainOffsets.j1, Bool.false_eq_true, if_false, spec_l1In_eq, Option.bind_some, offs_length]
    refine Ev.pure ?_
    by_cases h1 : 1 ≤ w.length ∧ w.length ≤ 8
    · by_cases h2 : i = w.length
      · simp [h1, h2, show (1 : Int) ≤ (w.length : Int) ∧ (w.length : Int) ≤ 8 by omega]
      · simp [h1, h2, show (1 : Int) ≤ (w.length : Int) ∧ (w.length : Int) ≤ 8 by omega, show ¬ (i : Int) = (w.length : Int) by omega]
    · simp [h1, show ¬ ((1 : Int) ≤ (w.length : Int) ∧ (w.length : Int) ≤ 8) by omega]
  by_cases h2 : t.length = w.length
  · have e2 : ((t.length : Int) == (w.length : Int)) = true := by simp [h2]
    have key : ∀ (d i : Nat), i + d = w.length → (1 ≤ i → 1 ≤ c ∧ c ≤ 200) → (∀ j, j < i → 0 ≤ rd t (j : Int) ∧ rd t (j : Int) ≤ 100000) → Ev (fun k => spec_ChainOffsets.l0 k w c t (offs w c t i) (i : Int)) (if decide (1 ≤ w.length ∧ w.length ≤ 8) && (List.range' i d).all (fun i => winAt w c i && stepAt t i) then (offs w c t w.length, true) else ([], false)) := by
      intro d
      induction d with
      | zero =>
        intro i hi hc htb
        refine Ev.succ ?_
        simp only [spec_ChainOffsets.l0, show ¬ (i : Int) < (w.length : Int) by omega, if_false]
        obtain rfl : i = w.length := by omega
        simpa using fin w.length (.inl rfl) (by omega)
      | succ d ih =>
        intro i hi hc htb
        refine Ev.succ ?_
        simp only [spec_ChainOffsets.l0, show (i : Int) < (w.length : Int) by omega, if_true, e2]
        refine Ev.succ ?_
        simp only [spec_ChainOffsets.j1, if_true, show (i : Int) < (w.length : Int) by omega, show (0 : Int) ≤ (i : Int) by omega, spec_IsWindow_eq, Option.bind_some, show (i : Int) < (t.length : Int) by omega, spec_l1In_eq, wrap_id (n := (i : Int) - 1) (by omega) (by omega)]
        rw [List.range'_succ, List.all_cons]
        have jt : Ev (fun k => spec_ChainOffsets.j2 k w c t (offs w c t i) (i : Int) true) ([], false) := by
          refine Ev.succ ?_
          simp only [spec_ChainOffsets.j2, if_true]; exact Ev.now _
        show Ev (fun k => if winAt w c i = true then _ else _) _
        cases hP : winAt w c i
        · simp only [Bool.false_eq_true, if_false, Bool.false_and, Bool.and_false]; exact jt
        have hc' : 1 ≤ c ∧ c ≤ 200 := by have := (isWindow_iff _ _ _).1 hP; omega
        have hl := offs_length w c t i
        simp only [if_true, Bool.true_and]
        by_cases hr : 0 ≤ rd t (i : Int) ∧ rd t (i : Int) ≤ 100000
        · simp only [decide_eq_true hr, if_true]
          have rest : Ev (fun k => spec_ChainOffsets.l0 k w c t (offs w c t (i + 1)) ((i : Int) + 1)) (if decide (1 ≤ w.length ∧ w.length ≤ 8) && (List.range' (i + 1) d).all (fun i => winAt w c i && stepAt t i) then (offs w c t w.length, true) else ([], false)) := by
            have := ih (i + 1) (by omega) (fun _ => hc') (fun j hj => by
              by_cases e : j = i
              · rw [e]; exact hr
              · exact htb j (by omega))
            simpa using this
          by_cases h0 : i = 0
          · subst h0
            simp only [show ¬ ((0 : Nat) : Int) > 0 by omega, if_false]
            refine Ev.succ ?_
            simp only [spec_ChainOffsets.j2, Bool.false_eq_true, if_false, show ¬ ((0 : Nat) : Int) > 0 by omega, hl, show 0 < 17592186044416 by omega, if_true, wrap_id (n := ((0 : Nat) : Int) + 1) (by omega) (by omega)]
            have hs : stepAt t 0 = true := by unfold stepAt; rw [decide_eq_true hr]; simp
            rw [hs, Bool.true_and]
            simpa [offs] using rest
          · simp only [show (i : Int) > 0 by omega, if_true, show (0 : Int) ≤ (i : Int) - 1 by omega, show (i : Int) - 1 < (t.length : Int) by omega]
            by_cases hgt : rd t ((i : Int) - 1) > rd t (i : Int)
            · simp only [decide_eq_true hgt]
              refine evq jt ?_
              have hs : stepAt t i = false := by unfold stepAt; rw [decide_eq_false h0, decide_eq_true hgt]; simp
              simp [hs]
            · simp only [decide_eq_false hgt]
              have ob := offs_bd w c t hc'.1 i (i - 1) (by omega)
              rw [show ((i - 1 : Nat) : Int) = (i : Int) - 1 by omega] at ob
              have ti1 := htb (i - 1) (by omega)
              rw [show ((i - 1 : Nat) : Int) = (i : Int) - 1 by omega] at ti1
              have bb := bestOffset_bd (rd_T43 w ((i : Int) - 1)).f0 (rd_T43 w ((i : Int) - 1)).f1 (rd_T43 w (i : Int)).f0 (rd_T43 w (i : Int)).f1 c (rd t (i : Int) - rd t ((i : Int) - 1))
              refine Ev.succ ?_
              simp only [spec_ChainOffsets.j2, Bool.false_eq_true, if_false, show (i : Int) > 0 by omega, if_true, wrap_id (n := (i : Int) - 1) (by omega) (by omega), show (0 : Int) ≤ (i : Int) - 1 by omega, hl, show (i : Int) - 1 < (i : Int) by omega, show (i : Int) - 1 < (w.length : Int) by omega, show (0 : Int) ≤ (i : Int) by omega, show (i : Int) < (w.length : Int) by omega, show (i : Int) < (t.length : Int) by omega, show (i : Int) - 1 < (t.length : Int) by omega, wrap_id (n := rd t (i : Int) - rd t ((i : Int) - 1)) (by omega) (by omega), wrap_id (n := (i : Int) + 1) (by omega) (by omega)]
              refine Ev.bind (spec_BestOffset_eq _ _ _ _ _ _) ?_
              simp only [spec_Mod_eq, Option.bind_some, gmod, show 1 ≤ c ∧ c ≤ 1000000000000 by omega, and_self, if_true, show i < 17592186044416 by omega]
              rw [wrap_id (by omega) (by omega)]
              have hs : stepAt t i = true := by unfold stepAt; rw [decide_eq_true hr, decide_eq_false hgt]; simp
              simp only [offs, h0, if_false, nextOff] at rest
              rw [hs, Bool.true_and]
              exact rest
        · simp only [decide_eq_false hr, Bool.false_eq_true, if_false]
          refine evq jt ?_
          have hs : stepAt t i = false := by unfold stepAt; rw [decide_eq_false hr]; rfl
          simp [hs]
    have := key w.length 0 (by omega) (by omega) (fun j hj => absurd hj (by omega))
    rw [← List.range_eq_range'] at this
    refine evq this ?_
    unfold chainOk
    rw [decide_eq_true h2, Bool.and_true]
  · have e2 : ((t.length : Int) == (w.length : Int)) = false := by simp; omega
    have hf : chainOk w c t = false := by unfold chainOk; rw [decide_eq_false h2]; simp
    rw [hf]
    have hj := fin 0 (.inr h2) (by omega)
    have hne : (decide (1 ≤ w.length ∧ w.length ≤ 8) && decide (0 = w.length)) = false := by
      by_cases h : 1 ≤ w.length ∧ w.length ≤ 8
      · rw [decide_eq_false (show ¬ 0 = w.length by omega)]; simp
      · rw [decide_eq_false h]; rfl
    rw [hne] at hj
    refine Ev.succ ?_
    by_cases h0 : (0 : Int) < (w.length : Int)
    · simp only [spec_ChainOffsets.l0, h0, if_true, e2]; exact hj
    · simp only [spec_ChainOffsets.l0, h0, if_false]; exact hj
theorem holds : ∀ (l0 : List S41) (a1 : Int) (l2 : List Int), l0.length ≤ maxLen → (∀ x ∈ l0, wf41 x) → (Lit.int .i64 a1).wf = true → l2.length ≤ maxLen → (∀ x ∈ l2, (Lit.int .i64 x).wf = true) → ∃ k, laws_FnExactChainOffsets.f k l0 a1 l2 = some true := by
  intros
  apply Ev.rounds
  unfold laws_FnExactChainOffsets.f
  repeat (first
    | exact Ev.now _
    | dsimp only
    | (refine Ev.ifp ?_ ?_; focus (first | rfl | omega | (simp; done)))
    | (refine Ev.ifn ?_ ?_; focus (first | omega | (simp; done)))
    | refine Ev.bind (laws_eqIntS_self _ (by first | omega | (simp only [List.length_map, markInts_length]; omega) | (exact Nat.le_trans (chainOffsets_le _ _ _) (by omega)) | (simp; omega))) ?_
    | refine Ev.bindE (laws_eqWindow_self ..) ?_
    | refine Ev.bind (laws_eqWindowS_self _ (by first | omega | (simp only [List.length_map, markInts_length]; omega) | (exact Nat.le_trans (chainOffsets_le _ _ _) (by omega)) | (simp; omega))) ?_
    | refine Ev.bind (laws_heldIntS_eq _ _ (by first | omega | (simp only [List.length_map, markInts_length]; omega) | (exact Nat.le_trans (chainOffsets_le _ _ _) (by omega)) | (simp; omega)) (by omega) (by first | omega | (simp only [List.length_map, markInts_length]; omega) | (exact Nat.le_trans (chainOffsets_le _ _ _) (by omega)) | (simp; omega))) ?_
    | refine Ev.bind (laws_markIntS_eq _ _ (by first | omega | (simp only [List.length_map, markInts_length]; omega) | (exact Nat.le_trans (chainOffsets_le _ _ _) (by omega)) | (simp; omega)) (by omega) (by first | omega | (simp only [List.length_map, markInts_length]; omega) | (exact Nat.le_trans (chainOffsets_le _ _ _) (by omega)) | (simp; omega))) ?_
    | refine Ev.bind (laws_markWindowS_eq _ _ (by first | omega | (simp only [List.length_map, markInts_length]; omega) | (exact Nat.le_trans (chainOffsets_le _ _ _) (by omega)) | (simp; omega)) (by omega) (by first | omega | (simp only [List.length_map, markInts_length]; omega) | (exact Nat.le_trans (chainOffsets_le _ _ _) (by omega)) | (simp; omega))) ?_
    | refine Ev.szb (laws_szWindowS_eq _ _ (by assumption) (by omega) (by omega)) (fun _ => ?_) (fun _ => ?_)
    | refine Ev.bind (laws_toIntS_eq _ (by first | omega | (simp only [List.length_map, markInts_length]; omega) | (exact Nat.le_trans (chainOffsets_le _ _ _) (by omega)) | (simp; omega))) ?_
    | refine Ev.bindE (laws_toWindow_eq ..) ?_
    | refine Ev.bind (laws_toWindowS_eq _ (by first | omega | (simp only [List.length_map, markInts_length]; omega) | (exact Nat.le_trans (chainOffsets_le _ _ _) (by omega)) | (simp; omega))) ?_
    | refine Ev.bind (spec_ChainOffsets_eq _ _ _ (by first | omega | (simp only [List.length_map, markInts_length]; omega) | (exact Nat.le_trans (chainOffsets_le _ _ _) (by omega)) | (simp; omega)) (by first | omega | (simp only [List.length_map, markInts_length]; omega) | (exact Nat.le_trans (chainOffsets_le _ _ _) (by omega)) | (simp; omega))) ?_
    | refine Ev.bind (impl_ChainOffsets_eq _ _ _ (by first | omega | (simp only [List.length_map, markInts_length]; omega) | (exact Nat.le_trans (chainOffsets_le _ _ _) (by omega)) | (simp; omega)) (by first | omega | (simp only [List.length_map, markInts_length]; omega) | (exact Nat.le_trans (chainOffsets_le _ _ _) (by omega)) | (simp; omega))) ?_
    | (refine Ev.succ (g := fun k => laws_FnExactChainOffsets.j0 k _ _ _ _ _ _ _ _ _ _) ?_; simp only [laws_FnExactChainOffsets.j0])
    | (refine Ev.succ (g := fun k => laws_FnExactChainOffsets.j1 k _ _ _ _ _ _ _) ?_; simp only [laws_FnExactChainOffsets.j1])
    | (refine Ev.succ (g := fun k => laws_FnExactChainOffsets.j2 k _ _ _) ?_; simp only [laws_FnExactChainOffsets.j2])
    | (refine Ev.ifd (fun _ => by exact Ev.now _) (fun _ => ?_)))
end Go.Proofs.Ytaokklehbkiahaa.Pure.FnExactChainOffsets
