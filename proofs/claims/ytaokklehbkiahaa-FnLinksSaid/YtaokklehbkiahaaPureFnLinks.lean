/- The law FnLinks of the given program, as a statement over numbers and lists alone, for all arguments; no conditions but the machine's own bounds. -/
import Derived.Test.YtaokklehbkiahaaPFnLinksx
import Derived.Test.YtaokklehbkiahaaBase
namespace Go.Proofs.Ytaokklehbkiahaa.Pure.FnLinks
open Go.RowKit Go.Proofs.Ytaokklehbkiahaa.PFnLinks Go.Proofs.YtaokklehbkiahaaW.PrintWords Go.Proofs.YtaokklehbkiahaaW.PrintLast Go.Proofs.Ytaokklehbkiahaa.Bas
set_option linter.unusedVariables false
set_option linter.unusedSimpArgs false
theorem impl_InRange_eq (a lo hi : Int) : impl_InRange.f a lo hi = some (decide (lo ≤ a ∧ a ≤ hi)) := by
  unfold impl_InRange.f; grind
theorem impl_isCrossing_eq (a : Int) : impl_isCrossing.f a = some (decide (1 ≤ a ∧ a ≤ 8)) := by
  unfold impl_isCrossing.f; rw [impl_InRange_eq]; rfl
theorem impl_IsLink_eq (a b c d : Int) : impl_IsLink.f a b c d = some (isLink a b c d) := by
  unfold impl_IsLink.f isLink
  simp only [impl_InRange_eq, impl_isCrossing_eq, Option.bind_some]; grind
theorem rdT_Link (xs : List S33) (i : Nat) (h : i < xs.length) : rd_T33 xs (i : Int) = xs[i] := by simp [rd_T33, h]
theorem impl_LinkState_eq (p s h o now : Int) : Ev (fun k => impl_LinkState.f k p s h o now) (linkState p s h o now) := by
  unfold impl_LinkState.f linkState
  simp only [impl_IsLink_eq, Option.bind_some]
  by_cases hl : isLink p s h o = true
  · have hb := (isLink_iff _ _ _ _).1 hl
    simp only [hl, if_true, true_and]
    by_cases h1 : now < h
    · simp only [h1, if_true]; refine Ev.succ ?_; simp only [impl_LinkState.j0, if_true]; rw [if_neg (by omega)]; exact Ev.now _
    by_cases h2 : now > 1000000
    · simp only [h1, h2, if_true, if_false]; refine Ev.succ ?_; simp only [impl_LinkState.j0, if_true]; rw [if_neg (by omega)]; exact Ev.now _
    simp only [h1, h2, if_false, wrap_id (n := now - h) (by omega) (by omega)]
    refine Ev.succ ?_
    simp only [impl_LinkState.j0, wrap_id (n := now - h) (by omega) (by omega)]
    refine Ev.pure ?_
    grind
  · simp only [hl, Bool.false_eq_true, if_false, false_and]; refine Ev.succ ?_; simp only [impl_LinkState.j0, if_true]; exact Ev.now _
theorem impl_HearLink_eq (p s h o q n f : Int) : impl_HearLink.f p s h o q n f = some (if hears p s h o q n f then (p, q, n, f, true) else (p, s, h, o, false)) := by
  unfold impl_HearLink.f hears
  simp only [impl_IsLink_eq, Option.bind_some]
  grind
def hearAll (x : Int × Int × Int × Int) (v : List Int) (n f : Int) : Int × Int × Int × Int := (List.range v.length).foldl (fun x (i : Nat) => hearStep (rd v (i : Int)) n f x) x
theorem impl_HearAll_eq (a b c d : Int) (v : List Int) (n f : Int) (hl : v.length ≤ 1048576) : Ev (fun k => impl_HearAll.f k a b c d v n f) (hearAll (a, b, c, d) v n f) := by
  unfold impl_HearAll.f hearAll
  exact Ev.fold (g := fun k (x : Int × Int × Int × Int) i => impl_HearAll.l0 k n f v (v.length : Int) i x.1 x.2.1 x.2.2.1 x.2.2.2) v.length (fun x (i : Nat) => hearStep (rd v (i : Int)) n f x) id (fun _ _ => True) (fun i s r h _ hr => by
      refine Ev.succ ?_
      have hr' := hr trivial
      simp only [impl_HearAll.l0, show (i : Int) < (v.length : Int) by omega, show (0 : Int) ≤ (i : Int) by omega, if_true, impl_HearLink_eq, Option.bind_some, wrap_id (n := (i : Int) + 1) (by omega) (by omega)]
      unfold hearStep at hr'
      cases hh : hears s.1 s.2.1 s.2.2.1 s.2.2.2 (rd v (i : Int)) n f <;> simp only [hh, if_true, if_false, Bool.false_eq_true] at hr' ⊢ <;> exact hr') (fun _ _ _ _ => trivial) (fun s _ => by
      refine Ev.succ ?_
      simp only [impl_HearAll.l0, Int.lt_irrefl, if_false]
      exact Ev.now _) (a, b, c, d) trivial
def inStep (l : List S33) (now : Int) : Bool := (List.range l.length).all (fun (i : Nat) => decide (linkState (rd_T33 l (i : Int)).f0 (rd_T33 l (i : Int)).f1 (rd_T33 l (i : Int)).f2 (rd_T33 l (i : Int)).f3 now = 0))
theorem impl_InStep_eq (l : List S33) (now : Int) (hl : l.length ≤ 1048576) : Ev (fun k => impl_InStep.f k l now) (inStep l now) := by
  unfold impl_InStep.f inStep
  refine Ev.all (g := fun k i => impl_InStep.l0 k now l (l.length : Int) i) l.length _ (fun i r h hP hr => ?_) (fun i h hP => ?_) ?_
  · refine Ev.succ ?_
    simp only [impl_InStep.l0, show (i : Int) < (l.length : Int) by omega, show (0 : Int) ≤ (i : Int) by omega, if_true, wrap_id (n := (i : Int) + 1) (by omega) (by omega)]
    refine Ev.bind (impl_LinkState_eq _ _ _ _ _) ?_
    simp only [of_decide_eq_true hP, if_true]
    exact hr
  · refine Ev.succ ?_
    simp only [impl_InStep.l0, show (i : Int) < (l.length : Int) by omega, show (0 : Int) ≤ (i : Int) by omega, if_true, wrap_id (n := (i : Int) + 1) (by omega) (by omega)]
    refine Ev.bind (impl_LinkState_eq _ _ _ _ _) ?_
    simp only [of_decide_eq_false hP, if_false]
    exact Ev.now _
  · refine Ev.succ ?_
    simp only [impl_InStep.l0, Int.lt_irrefl, if_false]
    exact Ev.now _
theorem spec_l1New_ok (l : List Int) (hl : l.length ≤ 1048576) : EvP (fun k => spec_l1New.f k l) (fun t => t.1 = l ∧ Cur t.1 t.2.1) := by
  unfold spec_l1New.f
  have key : ∀ (d i : Nat) (h : Int), i + d = l.length → EvP (fun k => spec_l1New.l0 k l h (i : Int)) (fun t => t.1 = l ∧ Cur t.1 t.2.1) := by
    intro d
    induction d with
    | zero =>
      intro i h hi
      refine EvP.succ ?_
      simp only [spec_l1New.l0, show ¬ (i : Int) < (l.length : Int) by omega, if_false]
      exact EvP.now ⟨rfl, Int.le_refl _, by show (0 : Int) ≤ (l.length : Int); omega, hl⟩
    | succ d ih =>
      intro i h hi
      refine EvP.succ ?_
      simp only [spec_l1New.l0, show (i : Int) < (l.length : Int) by omega, show (0 : Int) ≤ (i : Int) by omega, if_true, wrap_id (n := (i : Int) + 1) (by omega) (by omega)]
      refine EvP.ifd (fun _ => ?_) (fun _ => EvP.now ⟨rfl, Int.le_refl _, by show (0 : Int) ≤ (l.length : Int); omega, hl⟩)
      have := ih (i + 1) (Go.bits .and .i64 (wrap64 ((wrap64 ((wrap64 (h * 137)) + (wrap64 (rd l i)))) + 11)) 1073741823) (by omega)
      simpa using this
  exact key l.length 0 _ (by omega)
theorem spec_l1Byte_ok (b : List Int) (i h : Int) (hc : Cur b i) : DrP (spec_l1Byte.f b i h) (fun t => 0 ≤ t.1 ∧ t.1 < 256 ∧ Cur b t.2.1) := by
  unfold spec_l1Byte.f
  obtain ⟨h0, h1, h2⟩ := hc
  by_cases hi : i < (b.length : Int)
  · rw [if_pos hi, if_pos h0]
    refine DrP.now ⟨(and255 _).1, (and255 _).2, ?_⟩
    simp only [wrap_id (n := i + 1) (by omega) (by omega)]
    unfold Cur; omega
  · rw [if_neg hi]
    exact DrP.now ⟨(and255 _).1, (and255 _).2, h0, h1, h2⟩
theorem spec_l1Below_ok (b : List Int) (i h n : Int) (hc : Cur b i) : DrP (spec_l1Below.f b i h n) (fun t => (n ≤ 0 → t.1 = 0) ∧ (0 < n → 0 ≤ t.1 ∧ t.1 < n) ∧ Cur b t.2.1) := by
  unfold spec_l1Below.f
  by_cases h0 : n ≤ 0
  · rw [if_pos h0]; exact DrP.now ⟨fun _ => rfl, fun h => absurd h (by omega), hc⟩
  rw [if_neg h0]
  have hm : ∀ x : Int, 0 ≤ x → 0 ≤ Int.tmod x n ∧ Int.tmod x n < n := fun x hx => by rw [tmod_nn hx]; exact ⟨Int.emod_nonneg _ (by omega), Int.emod_lt_of_pos _ (by omega)⟩
  by_cases h1 : n ≤ 256
  · rw [if_pos h1]
    refine DrP.bind (spec_l1Byte_ok b i h hc) (fun t ht => ?_)
    rw [if_neg (by omega)]
    exact DrP.now ⟨fun h => absurd h h0, fun _ => hm _ ht.1, ht.2.2⟩
  · rw [if_neg h1]
    refine DrP.bind (spec_l1Byte_ok b i h hc) (fun t ht => ?_)
    refine DrP.bind (spec_l1Byte_ok b _ _ ht.2.2) (fun u hu => ?_)
    refine DrP.bind (spec_l1Byte_ok b _ _ hu.2.2) (fun v hv => ?_)
    rw [if_neg (by omega)]
    refine DrP.now ⟨fun h => absurd h h0, fun _ => hm _ ?_, hv.2.2⟩
    obtain ⟨t1, t2, _⟩ := ht
    obtain ⟨u1, u2, _⟩ := hu
    obtain ⟨v1, v2, _⟩ := hv
    rw [wrap_id (n := t.1 * 65536) (by omega) (by omega), wrap_id (n := u.1 * 256) (by omega) (by omega), wrap_id (n := t.1 * 65536 + u.1 * 256) (by omega) (by omega), wrap_id (by omega) (by omega)]
    omega
theorem spec_l1Int_ok (b : List Int) (i h : Int) (l : List Int) (lo hi : Int) (hc : Cur b i) (hne : l.length ≠ 0) (hb : ∀ x ∈ l, lo ≤ x ∧ x ≤ hi) : DrP (spec_l1Int.f b i h l) (fun t => lo ≤ t.1 ∧ t.1 ≤ hi ∧ Cur b t.2.1) := by
  unfold spec_l1Int.f
  refine DrP.bind (spec_l1Below_ok b i h _ hc) (fun t ht => ?_)
  obtain ⟨h1, h2⟩ := ht.2.1 (by omega)
  rw [if_pos h1, if_pos h2]
  refine DrP.now ?_
  have : rd l t.1 ∈ l := by
    obtain ⟨n, hn⟩ := Int.eq_ofNat_of_zero_le h1
    rw [hn, rd_nat _ _ (by omega)]
    exact List.getElem_mem _
  have := hb _ this
  exact ⟨this.1, this.2, ht.2.2⟩
theorem spec_l4Raw_ok (b : List Int) (i h : Int) (hc : Cur b i) : DrP (spec_l4Raw.f b i h) (fun t => I64 t.1 ∧ Cur b t.2.1) := by
  unfold spec_l4Raw.f
  refine DrP.bind (spec_l1Int_ok b i h _ (-9223372036854775808) 9223372036854775807 hc (by simp) (by decide)) (fun t ht => ?_)
  exact DrP.now ⟨⟨ht.1, ht.2.1⟩, ht.2.2⟩
theorem spec_l23Any_ok (b : List Int) (i h : Int) (hc : Cur b i) : DrP (spec_l23Any.f b i h) (fun t => Cur b t.2.2.2.2.1) := by
  unfold spec_l23Any.f spec_l23Draw.f
  refine DrP.bind (P := fun t => Cur b t.2.2.2.2.1) ?_ (fun t ht => ?_)
  · refine DrP.bind (spec_l1Below_ok b i h _ hc) (fun t1 h1 => ?_)
    refine DrP.bind (spec_l1Below_ok b _ _ _ h1.2.2) (fun t2 h2 => ?_)
    refine DrP.bind (spec_l1Below_ok b _ _ _ h2.2.2) (fun t3 h3 => ?_)
    refine DrP.bind (spec_l1Below_ok b _ _ _ h3.2.2) (fun t4 h4 => ?_)
    exact DrP.now h4.2.2
  · refine DrP.bind (spec_l1Below_ok b _ _ _ ht) (fun t1 h1 => ?_)
    split
    · refine DrP.bind (spec_l1Int_ok b _ _ _ (-9223372036854775808) 9223372036854775807 h1.2.2 (by simp) (by decide)) (fun t2 h2 => DrP.now h2.2.2)
    split
    · refine DrP.bind (spec_l4Raw_ok b _ _ h1.2.2) (fun t2 h2 => DrP.now h2.2)
    split
    · refine DrP.bind (spec_l1Int_ok b _ _ _ (-9223372036854775808) 9223372036854775807 h1.2.2 (by simp) (by decide)) (fun t2 h2 => DrP.now h2.2.2)
    split
    · refine DrP.bind (spec_l1Int_ok b _ _ _ (-9223372036854775808) 9223372036854775807 h1.2.2 (by simp) (by decide)) (fun t2 h2 => DrP.now h2.2.2)
    · exact DrP.now h1.2.2
theorem spec_DrawHearLink_ok (l : List Int) (hl : l.length ≤ 1048576) : EvP (fun k => spec_DrawHearLink.f k l) (fun _ => True) := by
  unfold spec_DrawHearLink.f
  refine EvP.bind (spec_l1New_ok l hl) (fun t ht => ?_)
  refine EvP.bindD (spec_l23Any_ok _ _ _ ht.2) (fun t1 h1 => ?_)
  refine EvP.bindD (spec_l1Below_ok _ _ _ _ h1) (fun t2 h2 => ?_)
  refine EvP.bindD (spec_l1Int_ok _ _ _ _ (-9223372036854775808) 9223372036854775807 h2.2.2 (by simp) (by decide)) (fun t3 h3 => ?_)
  refine EvP.bindD (spec_l1Int_ok _ _ _ _ (-9223372036854775808) 9223372036854775807 h3.2.2 (by simp) (by decide)) (fun t4 h4 => ?_)
  exact EvP.now trivial
theorem spec_DrawHearAll_ok (l : List Int) (hl : l.length ≤ 1048576) : EvP (fun k => spec_DrawHearAll.f k l) (fun t => t.2.2.2.2.1.length ≤ 5) := by
  unfold spec_DrawHearAll.f
  refine EvP.bind (spec_DrawHearLink_ok l hl) (fun u _ => ?_)
  refine EvP.bind (spec_l1New_ok l hl) (fun t ht => ?_)
  refine EvP.bindD (spec_l1Below_ok _ _ _ _ ht.2) (fun t1 h1 => ?_)
  have key : ∀ (d : Nat) (ys : List Int) (i h : Int), Cur t.1 i → ys.length + d ≤ 5 → EvP (fun k => spec_DrawHearAll.l0 k u.2.2.2.2.2.1 u.2.2.2.2.2.2 ys (d : Int) u.1 u.2.1 u.2.2.1 u.2.2.2.1 t.1 i h) (fun t => t.2.2.2.2.1.length ≤ 5) := by
    intro d
    induction d with
    | zero =>
      intro ys i h _ hy
      refine EvP.succ ?_
      simp only [spec_DrawHearAll.l0, show ¬ ((0 : Nat) : Int) > 0 by omega, if_false]
      exact EvP.now (by show ys.length ≤ 5; omega)
    | succ d ih =>
      intro ys i h hc hy
      refine EvP.succ ?_
      simp only [spec_DrawHearAll.l0, show ((d + 1 : Nat) : Int) > 0 by omega, if_true, wrap_id (n := ((d + 1 : Nat) : Int) - 1) (by omega) (by omega), show ((d + 1 : Nat) : Int) - 1 = (d : Int) by omega, wrap_id (n := (d : Int)) (by omega) (by omega), show ys.length < 17592186044416 by omega]
      refine EvP.bindD (spec_l1Below_ok _ _ _ _ hc) (fun t2 h2 => ?_)
      exact ih (ys ++ [t2.1]) _ _ h2.2.2 (by rw [List.length_append, List.length_singleton]; omega)
  obtain ⟨a1, a2⟩ := h1.2.1 (by omega)
  obtain ⟨n, hn⟩ := Int.eq_ofNat_of_zero_le a1
  rw [hn]
  exact key n [] _ _ h1.2.2 (by rw [List.length_nil]; omega)
theorem spec_DrawLinkState_ok (l : List Int) (hl : l.length ≤ 1048576) : EvP (fun k => spec_DrawLinkState.f k l) (fun t => -1 ≤ t.2.2.2.2 ∧ t.2.2.2.2 ≤ 1000001) := by
  unfold spec_DrawLinkState.f
  refine EvP.bind (spec_l1New_ok l hl) (fun t ht => ?_)
  refine EvP.bindD (spec_l23Any_ok _ _ _ ht.2) (fun t1 h1 => ?_)
  refine EvP.bindD (spec_l1Int_ok _ _ _ _ (-1) 1000001 h1 (by simp) (by decide)) (fun t2 h2 => ?_)
  exact EvP.now ⟨h2.1, h2.2.1⟩
theorem spec_DrawInStep_ok (l : List Int) (hl : l.length ≤ 1048576) : EvP (fun k => spec_DrawInStep.f k l) (fun t => t.1.length ≤ 3) := by
  unfold spec_DrawInStep.f
  refine EvP.bind (spec_l1New_ok l hl) (fun t ht => ?_)
  refine EvP.bindD (spec_l1Below_ok _ _ _ _ ht.2) (fun t1 h1 => ?_)
  have key : ∀ (d : Nat) (ys : List S33) (i h : Int), Cur t.1 i → ys.length + d ≤ 3 → EvP (fun k => spec_DrawInStep.l0 k ys (d : Int) t.1 i h) (fun t => t.1.length ≤ 3) := by
    intro d
    induction d with
    | zero =>
      intro ys i h hc hy
      refine EvP.succ ?_
      simp only [spec_DrawInStep.l0, show ¬ ((0 : Nat) : Int) > 0 by omega, if_false]
      refine EvP.bindD (spec_l1Int_ok _ _ _ _ (-9223372036854775808) 9223372036854775807 hc (by simp) (by decide)) (fun t2 h2 => ?_)
      exact EvP.now (by show ys.length ≤ 3; omega)
    | succ d ih =>
      intro ys i h hc hy
      refine EvP.succ ?_
      simp only [spec_DrawInStep.l0, show ((d + 1 : Nat) : Int) > 0 by omega, if_true, wrap_id (n := ((d + 1 : Nat) : Int) - 1) (by omega) (by omega), show ((d + 1 : Nat) : Int) - 1 = (d : Int) by omega, wrap_id (n := (d : Int)) (by omega) (by omega), show ys.length < 4398046511104 by omega]
      refine EvP.bindD (spec_l23Any_ok _ _ _ hc) (fun t2 h2 => ?_)
      exact ih (ys ++ [⟨t2.1, t2.2.1, t2.2.2.1, t2.2.2.2.1⟩]) _ _ h2 (by rw [List.length_append, List.length_singleton]; omega)
  obtain ⟨a1, a2⟩ := h1.2.1 (by omega)
  obtain ⟨n, hn⟩ := Int.eq_ofNat_of_zero_le a1
  rw [hn]
  exact key n [] _ _ h1.2.2 (by rw [List.length_nil]; omega)
theorem laws_big_eq (l : List Int) : laws_big.f l = some (decide ((l.length : Int) > 1048576)) := by unfold laws_big.f; rfl
/-- Hearing a row of numbers: the greatest that counts is kept. -/
def valid (p n f q : Int) : Bool := isLink p q n f
def top (p n f s : Int) (v : List Int) : Int := v.foldl (fun m q => if valid p n f q && decide (m < q) then q else m) s
theorem hearAll_foldl (x : Int × Int × Int × Int) (v : List Int) (n f : Int) : hearAll x v n f = v.foldl (fun x q => hearStep q n f x) x := by
  unfold hearAll
  have : ∀ (w : List Int) (x : Int × Int × Int × Int), (List.range w.length).foldl (fun x (i : Nat) => hearStep (rd w (i : Int)) n f x) x = w.foldl (fun x q => hearStep q n f x) x := by
    intro w
    induction w with
    | nil => intro x; rfl
    | cons a w ih =>
      intro x
      rw [List.length_cons, List.range_succ_eq_map, List.foldl_cons, List.foldl_map, List.foldl_cons, ← ih]
      have e0 : rd (a :: w) ((0 : Nat) : Int) = a := rfl
      have e1 : ∀ i : Nat, rd (a :: w) ((i.succ : Nat) : Int) = rd w (i : Int) := fun i => by simp [rd, show ((i.succ : Nat) : Int).toNat = i + 1 by omega]
      rw [e0]
      have e2 : (fun (x : Int × Int × Int × Int) (y : Nat) => hearStep (rd (a :: w) ((y.succ : Nat) : Int)) n f x) = (fun x (y : Nat) => hearStep (rd w (y : Int)) n f x) := by funext x y; rw [e1]
      rw [e2]
  exact this v x
theorem top_ge (p n f : Int) : ∀ (v : List Int) (s : Int), s ≤ top p n f s v
  | [], _ => Int.le_refl _
  | q :: v, s => by
    show s ≤ top p n f (if valid p n f q && decide (s < q) then q else s) v
    have h2 : s ≤ (if valid p n f q && decide (s < q) then q else s) := by
      cases hb : (valid p n f q && decide (s < q))
      · exact Int.le_refl _
      · simp only [Bool.and_eq_true, decide_eq_true_eq] at hb
        rw [if_pos rfl]; omega
    exact Int.le_trans h2 (top_ge p n f v _)
theorem top_max (p n f : Int) : ∀ (v : List Int) (s : Int), ∀ q ∈ v, valid p n f q = true → q ≤ top p n f s v
  | [], _, q, h, _ => absurd h (by simp)
  | a :: v, s, q, h, hv => by
    show q ≤ top p n f (if valid p n f a && decide (s < a) then a else s) v
    rcases List.mem_cons.1 h with rfl | h
    · refine Int.le_trans ?_ (top_ge p n f v _)
      rw [hv, Bool.true_and]
      by_cases hs : s < q
      · rw [decide_eq_true hs]; exact Int.le_refl _
      · rw [decide_eq_false hs]; show q ≤ s; omega
    · exact top_max p n f v _ q h hv
theorem top_in (p n f : Int) : ∀ (v : List Int) (s : Int), top p n f s v = s ∨ (top p n f s v ∈ v ∧ valid p n f (top p n f s v) = true)
  | [], _ => .inl rfl
  | a :: v, s => by
    show top p n f (if valid p n f a && decide (s < a) then a else s) v = s ∨ (top p n f (if valid p n f a && decide (s < a) then a else s) v ∈ a :: v ∧ valid p n f (top p n f (if valid p n f a && decide (s < a) then a else s) v) = true)
    rcases top_in p n f v (if valid p n f a && decide (s < a) then a else s) with h | ⟨h1, h2⟩
    · cases hb : (valid p n f a && decide (s < a))
      · rw [hb] at h; exact .inl h
      · rw [hb] at h
        simp only [Bool.and_eq_true] at hb
        have h' : top p n f a v = a := h
        show top p n f a v = s ∨ (top p n f a v ∈ a :: v ∧ valid p n f (top p n f a v) = true)
        rw [h']
        exact .inr ⟨List.mem_cons_self, hb.1⟩
    · exact .inr ⟨List.mem_cons_of_mem _ h1, h2⟩
theorem top_perm (p n f s : Int) (v w : List Int) (h : ∀ q, q ∈ v ↔ q ∈ w) : top p n f s v = top p n f s w := by
  have key : ∀ a b : List Int, (∀ q, q ∈ a ↔ q ∈ b) → top p n f s a ≤ top p n f s b := by
    intro a b hab
    rcases top_in p n f a s with e | ⟨e1, e2⟩
    · rw [e]; exact top_ge p n f b s
    · exact top_max p n f b s _ ((hab _).1 e1) e2
  have h1 := key v w h
  have h2 := key w v (fun q => (h q).symm)
  omega
theorem hear_top (p h o n f : Int) (hh : h ≤ n) : ∀ (v : List Int) (s : Int), isLink p s h o = true → v.foldl (fun x q => hearStep q n f x) (p, s, h, o) = if top p n f s v = s then (p, s, h, o) else (p, top p n f s v, n, f)
  | [], s, _ => by simp [top]
  | q :: v, s, hl => by
    rw [List.foldl_cons]
    show v.foldl _ (hearStep q n f (p, s, h, o)) = if top p n f (if valid p n f q && decide (s < q) then q else s) v = s then _ else (p, top p n f (if valid p n f q && decide (s < q) then q else s) v, n, f)
    cases hb : (valid p n f q && decide (s < q))
    · have e : hearStep q n f (p, s, h, o) = (p, s, h, o) := by
        have hb' : (isLink p q n f && decide (s < q)) = false := hb
        unfold hearStep hears
        simp only [hl, Bool.true_and, hb', Bool.false_and, Bool.false_eq_true, if_false]
      rw [e]
      exact hear_top p h o n f hh v s hl
    · have hb' : (isLink p q n f && decide (s < q)) = true := hb
      have e : hearStep q n f (p, s, h, o) = (p, q, n, f) := by
        unfold hearStep hears
        simp only [hl, Bool.true_and, hb', decide_eq_true hh, if_true]
      rw [e]
      simp only [Bool.and_eq_true, decide_eq_true_eq] at hb
      have := hear_top p n f n f (Int.le_refl n) v q hb.1
      have hg := top_ge p n f v q
      show _ = if top p n f q v = s then _ else (p, top p n f q v, n, f)
      rw [if_neg (show ¬ top p n f q v = s by omega)]
      refine this.trans ?_
      split
      · rename_i e; rw [e]
      · rfl
theorem hear_off (p s h o n f : Int) (hh : ¬ (isLink p s h o = true ∧ h ≤ n)) : ∀ (v : List Int), v.foldl (fun x q => hearStep q n f x) (p, s, h, o) = (p, s, h, o)
  | [] => rfl
  | q :: v => by
    rw [List.foldl_cons]
    have : hearStep q n f (p, s, h, o) = (p, s, h, o) := by
      unfold hearStep hears
      rw [if_neg]
      simp only [Bool.and_eq_true, decide_eq_true_eq]
      rintro ⟨⟨⟨h1, _⟩, _⟩, h2⟩
      exact hh ⟨h1, h2⟩
    rw [this]
    exact hear_off p s h o n f hh v
theorem hearAll_perm (x : Int × Int × Int × Int) (v w : List Int) (n f : Int) (h : ∀ q, q ∈ v ↔ q ∈ w) : hearAll x v n f = hearAll x w n f := by
  obtain ⟨p, s, hd, o⟩ := x
  rw [hearAll_foldl, hearAll_foldl]
  by_cases hh : isLink p s hd o = true ∧ hd ≤ n
  · rw [hear_top p hd o n f hh.2 v s hh.1, hear_top p hd o n f hh.2 w s hh.1, top_perm p n f s v w h]
  · rw [hear_off p s hd o n f hh, hear_off p s hd o n f hh]
theorem hearAll_grows (x : Int × Int × Int × Int) (v : List Int) (n f : Int) : x.2.1 ≤ (hearAll x v n f).2.1 ∧ x.2.2.1 ≤ (hearAll x v n f).2.2.1 := by
  obtain ⟨p, s, hd, o⟩ := x
  rw [hearAll_foldl]
  by_cases hh : isLink p s hd o = true ∧ hd ≤ n
  · rw [hear_top p hd o n f hh.2 v s hh.1]
    have := top_ge p n f v s
    split
    · exact ⟨Int.le_refl _, Int.le_refl _⟩
    · exact ⟨this, hh.2⟩
  · rw [hear_off p s hd o n f hh]; exact ⟨Int.le_refl _, Int.le_refl _⟩
theorem impl_StateName_linkState (p s h o now : Int) : ∃ b : ByteArray, impl_StateName.f (linkState p s h o now) = some b ∧ b.toList ≠ [] := by
  have : linkState p s h o now = 0 ∨ linkState p s h o now = 1 ∨ linkState p s h o now = 2 := by unfold linkState; split <;> (try split) <;> omega
  rcases this with e | e | e <;> rw [e]
  · exact ⟨⟨#[115, 116, 101, 112]⟩, by simp [impl_StateName.f], by simp [ByteArray.toList, ByteArray.toList.loop, ByteArray.size]⟩
  · exact ⟨⟨#[102, 114, 101, 101]⟩, by simp [impl_StateName.f], by simp [ByteArray.toList, ByteArray.toList.loop, ByteArray.size]⟩
  · exact ⟨⟨#[97, 108, 111, 110, 101]⟩, by simp [impl_StateName.f], by simp [ByteArray.toList, ByteArray.toList.loop, ByteArray.size]⟩
theorem j3_ok (l : List Int) (hl : l.length ≤ 1048576) : Ev (fun k => laws_FnLinks.j3 k l false) true := by
  refine Ev.succ ?_
  simp only [laws_FnLinks.j3, Bool.false_eq_true, if_false]
  refine Ev.bindP (spec_DrawInStep_ok l hl) (fun t ht => ?_)
  refine Ev.bind (impl_InStep_eq t.1 t.2 (by omega)) ?_
  cases hs : inStep t.1 t.2
  · simp only [Bool.false_eq_true, if_false]; exact Ev.now _
  · simp only [if_true]
    by_cases h0 : (t.1.length : Int) = 0
    · simp only [h0, if_true]; exact Ev.now _
    · simp only [h0, if_false, show (0 : Int) < (t.1.length : Int) by omega, if_true]
      refine Ev.bind (impl_LinkState_eq _ _ _ _ _) ?_
      unfold inStep at hs
      rw [List.all_eq_true] at hs
      have := of_decide_eq_true (hs 0 (List.mem_range.2 (by omega)))
      refine evq (Ev.now _) ?_
      have e : ((0 : Nat) : Int) = 0 := rfl
      rw [e] at this
      rw [this]; rfl
theorem j2_ok (l : List Int) (hl : l.length ≤ 1048576) : Ev (fun k => laws_FnLinks.j2 k l false) true := by
  refine Ev.succ ?_
  simp only [laws_FnLinks.j2, Bool.false_eq_true, if_false]
  refine Ev.bindP (spec_DrawHearLink_ok l hl) (fun t _ => ?_)
  simp only [impl_HearLink_eq, Option.bind_some]
  cases hh : hears t.1 t.2.1 t.2.2.1 t.2.2.2.1 t.2.2.2.2.1 t.2.2.2.2.2.1 t.2.2.2.2.2.2
  · simp only [Bool.false_eq_true, if_false, beq_self_eq_true, Bool.not_true, Bool.or_self]
    exact j3_ok l hl
  · have hk : isLink t.1 t.2.2.2.2.1 t.2.2.2.2.2.1 t.2.2.2.2.2.2 = true := by
      unfold hears at hh; simp only [Bool.and_eq_true] at hh; exact hh.1.1.2
    simp only [if_true, impl_IsLink_eq, Option.bind_some, hk]
    refine Ev.bind (impl_LinkState_eq _ _ _ _ _) ?_
    have hb := (isLink_iff _ _ _ _).1 hk
    have : linkState t.1 t.2.2.2.2.1 t.2.2.2.2.2.1 t.2.2.2.2.2.2 t.2.2.2.2.2.1 = 0 := by
      unfold linkState; rw [if_pos ⟨hk, by omega, by omega, by omega⟩, if_pos (by omega)]
    simp only [this, if_true]
    exact j3_ok l hl
theorem j1_ok (l : List Int) (hl : l.length ≤ 1048576) : Ev (fun k => laws_FnLinks.j1 k l false) true := by
  refine Ev.succ ?_
  simp only [laws_FnLinks.j1, Bool.false_eq_true, if_false]
  refine Ev.bindP (spec_DrawLinkState_ok l hl) (fun t ht => ?_)
  refine Ev.bind (impl_LinkState_eq _ _ _ _ _) ?_
  obtain ⟨b, hb, hb2⟩ := impl_StateName_linkState t.1 t.2.1 t.2.2.1 t.2.2.2.1 t.2.2.2.2
  simp only [hb, Option.bind_some, hb2, if_false]
  refine Ev.ifd (fun h1 => ?_) (fun _ => j2_ok l hl)
  refine Ev.ifd (fun h2 => ?_) (fun _ => j2_ok l hl)
  rw [wrap_id (by omega) (by omega)]
  refine Ev.bind (impl_LinkState_eq _ _ _ _ _) ?_
  have : ¬ linkState t.1 t.2.1 t.2.2.1 t.2.2.2.1 (t.2.2.2.2 + 1) < linkState t.1 t.2.1 t.2.2.1 t.2.2.2.1 t.2.2.2.2 := by
    unfold linkState
    by_cases hk : isLink t.1 t.2.1 t.2.2.1 t.2.2.2.1 = true
    · simp only [hk, true_and]
      split <;> split <;> (try split) <;> (try split) <;> omega
    · simp [hk]
  rw [decide_eq_false this]
  exact j2_ok l hl
theorem holds : ∀ (l0 : List Int), l0.length ≤ maxLen → (∀ x ∈ l0, (Lit.int .u8 x).wf = true) → ∃ k, laws_FnLinks.f k l0 = some true := by
  intro l hm _
  apply Ev.rounds
  unfold laws_FnLinks.f
  simp only [laws_big_eq, Option.bind_some]
  by_cases hb : (l.length : Int) > 1048576
  · simp only [hb, decide_true, if_true]; exact Ev.now _
  have hl : l.length ≤ 1048576 := by omega
  simp only [hb, decide_false, Bool.false_eq_true, if_false]
  refine Ev.bindP (spec_DrawHearAll_ok l hl) (fun t ht => ?_)
  generalize hv : t.2.2.2.2.1 = v at ht
  have key : ∀ (d i : Nat), i + d = v.length → Ev (fun k => laws_FnLinks.l0 k l v t.2.2.2.2.2.1 t.2.2.2.2.2.2 (v.take i).reverse (i : Int) t.1 t.2.1 t.2.2.1 t.2.2.2.1) true := by
    intro d
    induction d with
    | zero =>
      intro i hi
      refine Ev.succ ?_
      simp only [laws_FnLinks.l0, show ¬ (i : Int) < (v.length : Int) by omega, if_false]
      refine Ev.bind (impl_HearAll_eq _ _ _ _ _ _ _ (by omega)) ?_
      refine Ev.bind (impl_HearAll_eq _ _ _ _ _ _ _ (by simp; omega)) ?_
      have hp := hearAll_perm (t.1, t.2.1, t.2.2.1, t.2.2.2.1) v (v.take i).reverse t.2.2.2.2.2.1 t.2.2.2.2.2.2 (fun q => by rw [List.mem_reverse, List.take_of_length_le (by omega)])
      have hg := hearAll_grows (t.1, t.2.1, t.2.2.1, t.2.2.2.1) v t.2.2.2.2.2.1 t.2.2.2.2.2.2
      rw [← hp]
      generalize hearAll (t.1, t.2.1, t.2.2.1, t.2.2.2.1) v t.2.2.2.2.2.1 t.2.2.2.2.2.2 = x at hg
      simp only [beq_self_eq_true, Bool.not_true, Bool.or_self, Bool.false_eq_true, if_false]
      dsimp only at hg
      simp only [show ¬ x.2.1 < t.2.1 by omega, if_false, decide_eq_false (show ¬ x.2.2.1 < t.2.2.1 by omega)]
      exact j1_ok l hl
    | succ d ih =>
      intro i hi
      refine Ev.succ ?_
      simp only [laws_FnLinks.l0, show (i : Int) < (v.length : Int) by omega, show (0 : Int) ≤ (i : Int) by omega, if_true, Option.bind_some, rd_nat _ _ (show i < v.length by omega), wrap_id (n := (i : Int) + 1) (by omega) (by omega)]
      refine Ev.ifp (by simp; omega) ?_
      have := ih (i + 1) (by omega)
      rw [List.take_succ_eq_append_getElem (by omega), List.reverse_append] at this
      simpa using this
  simpa using key v.length 0 (by omega)
end Go.Proofs.Ytaokklehbkiahaa.Pure.FnLinks
