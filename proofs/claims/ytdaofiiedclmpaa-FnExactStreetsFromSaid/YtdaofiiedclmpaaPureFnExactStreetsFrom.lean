/- The law FnExactStreetsFrom of the given program, as a statement over numbers and lists alone, for all arguments; no conditions but the machine's own bounds. -/
import Derived.Test.YtdaofiiedclmpaaPFnExactStreetsFromx
import Derived.Test.YtdaofiiedclmpaaBase
namespace Go.Proofs.Ytdaofiiedclmpaa.Pure.FnExactStreetsFrom
open Go.RowKit Go.Proofs.Ytdaofiiedclmpaa.PFnExactStreetsFrom Go.Proofs.YtdaofiiedclmpaaW.PrintWords Go.Proofs.YtdaofiiedclmpaaW.PrintLast Go.Proofs.Ytdaofiiedclmpaa.Bas
set_option linter.unusedVariables false
set_option linter.unusedSimpArgs false
def wf79 (x : S79) : Prop := (Lit.int .i64 x.f0).wf = true ∧ (Lit.int .i64 x.f1).wf = true ∧ (Lit.int .i64 x.f2).wf = true
theorem laws_eqIntS_self (l : List Int) (hl : l.length ≤ 140737488355328) : Ev (fun k => laws_eqIntS.f k l l) true := by
  unfold laws_eqIntS.f
  simp only [if_true]
  have := Ev.all (g := fun k i => laws_eqIntS.l0 k l l i) l.length (fun _ => true) (fun i r h _ hr => by
    refine Ev.succ ?_
    have h1 : (i : Int) < (l.length : Int) := by omega
    have h2 : (0 : Int) ≤ (i : Int) := by omega
    simp only [laws_eqIntS.l0, h1, h2, if_true, wrap_id (n := (i : Int) + 1) (by omega) (by omega)]
    exact hr) (fun i h hf => by simp at hf) (by
    refine Ev.succ ?_
    simp only [laws_eqIntS.l0, Int.lt_irrefl, if_false]
    exact Ev.now _)
  exact evq this (by rw [List.all_eq_true]; intros; rfl)
theorem laws_markIntS_eq (l : List Int) (c : Int) (hl : l.length ≤ 140737488355328) (h0 : 0 ≤ c) (h9 : c ≤ 1000000000000000) : Ev (fun k => laws_markIntS.f k l c) (c + 1 * l.length, markInts l.length c) := by
  unfold laws_markIntS.f
  refine Ev.mark (g := fun k ys c i => laws_markIntS.l0 k ys c i) 1 (fun c => c) l c (fun i ys r h hy hr => ?_) (fun ys c' hy => ?_)
  · refine Ev.succ ?_
    have h1 : (i : Int) < (ys.length : Int) := by omega
    have h2 : (0 : Int) ≤ (i : Int) := by omega
    simp only [laws_markIntS.l0, h1, h2, if_true, Int.toNat_natCast, wrap_id (n := (i : Int) + 1) (by omega) (by omega), wrap_id (n := c + 1 * (i : Int) + 1) (by omega) (by omega)]
    exact hr
  · refine Ev.succ ?_
    simp only [laws_markIntS.l0, hy, Int.lt_irrefl, if_false]
    exact Ev.now _
theorem laws_heldIntS_eq (n : Nat) (c : Int) (hl : n ≤ 140737488355328) (h0 : 0 ≤ c) (h9 : c ≤ 1000000000000000) : Ev (fun k => laws_heldIntS.f k (markInts n c) c) (c + 1 * n) := by
  unfold laws_heldIntS.f
  refine Ev.held (g := fun k c' i => laws_heldIntS.l0 k (markInts n c) c' i) 1 n c (fun i r h hr => ?_) (fun c' => ?_)
  · refine Ev.succ ?_
    have hn := markInts_length n c
    have h1 : (i : Int) < ((markInts n c).length : Int) := by omega
    have h2 : (0 : Int) ≤ (i : Int) := by omega
    have h3 : rd (markInts n c) (i : Int) = c + 1 * (i : Int) := by rw [rd_nat _ _ (by omega)]; simp [markInts]
    simp only [laws_heldIntS.l0, h1, h2, h3, if_true, wrap_id (n := (i : Int) + 1) (by omega) (by omega), wrap_id (n := c + 1 * (i : Int) + 1) (by omega) (by omega)]
    exact hr
  · refine Ev.succ ?_
    simp only [laws_heldIntS.l0, markInts_length, Int.lt_irrefl, if_false]
    exact Ev.now _
theorem rdT_lawsStreet (xs : List S79) (i : Nat) (h : i < xs.length) : rd_T79 xs (i : Int) = xs[i] := by simp [rd_T79, h]
theorem rdT_Street (xs : List S47) (i : Nat) (h : i < xs.length) : rd_T47 xs (i : Int) = xs[i] := by simp [rd_T47, h]
theorem laws_toStreet_eq (a0 : Int) (a1 : Int) (a2 : Int) : laws_toStreet.f a0 a1 a2 = some (a0, a1, a2) := rfl
theorem laws_eqStreet_self (a0 : Int) (a1 : Int) (a2 : Int) : laws_eqStreet.f a0 a1 a2 a0 a1 a2 = some true := by unfold laws_eqStreet.f; simp
theorem laws_szStreetS_eq (l : List S79) (a : Int) (hl : l.length ≤ maxLen) (h0 : 0 ≤ a) (h1 : a ≤ 1048576) : laws_szStreetS.f l a = some (if (l.length : Int) ≤ a then a - l.length else -1) := by
  unfold maxLen at hl; unfold laws_szStreetS.f; rw [wrap_id (by omega) (by omega)]; grind
def convStreet (x : S79) : S47 := ⟨x.f0, x.f1, x.f2⟩
theorem laws_toStreetS_eq (l : List S79) (hl : l.length ≤ 1048576) : Ev (fun k => laws_toStreetS.f k l) (l.map convStreet) := by
  unfold laws_toStreetS.f
  simp only [show (0 : Int) ≤ l.length by omega, Int.toNat_natCast, show l.length ≤ 11728124029610 by omega, if_true]
  exact Ev.copy (g := fun k ys i => laws_toStreetS.l0 k l ys i) l convStreet z47 (fun i ys r h hy hr => by
    refine Ev.succ ?_
    have h1 : (i : Int) < (l.length : Int) := by omega
    have h2 : (0 : Int) ≤ (i : Int) := by omega
    have h3 : (i : Int) < (ys.length : Int) := by omega
    simp only [laws_toStreetS.l0, h1, h2, h3, if_true, rdT_lawsStreet _ _ h, laws_toStreet_eq, Option.bind_some, Int.toNat_natCast, wrap_id (n := (i : Int) + 1) (by omega) (by omega)]
    exact hr) (fun ys => by
    refine Ev.succ ?_
    simp only [laws_toStreetS.l0, Int.lt_irrefl, if_false]
    exact Ev.now _)
theorem laws_eqStreetS_self (l : List S47) (hl : l.length ≤ 1048576) : Ev (fun k => laws_eqStreetS.f k l l) true := by
  unfold laws_eqStreetS.f
  simp only [if_true]
  have := Ev.all (g := fun k i => laws_eqStreetS.l0 k l l i) l.length (fun _ => true) (fun i r h _ hr => by
    refine Ev.succ ?_
    have h1 : (i : Int) < (l.length : Int) := by omega
    have h2 : (0 : Int) ≤ (i : Int) := by omega
    simp only [laws_eqStreetS.l0, h1, h2, if_true, laws_eqStreet_self, Option.bind_some, wrap_id (n := (i : Int) + 1) (by omega) (by omega)]
    exact hr) (fun i h hf => by simp at hf) (by
    refine Ev.succ ?_
    simp only [laws_eqStreetS.l0, Int.lt_irrefl, if_false]
    exact Ev.now _)
  exact evq this (by rw [List.all_eq_true]; intros; rfl)
def mkStreet (c : Int) : S47 := ⟨c, c + 1, c + 2⟩
def marksStreet (n : Nat) (c : Int) : List S47 := (List.range n).map fun (i : Nat) => mkStreet (c + 3 * (i : Int))
theorem marksStreet_length (n : Nat) (c : Int) : (marksStreet n c).length = n := by simp [marksStreet]
theorem laws_markStreetS_eq (l : List S47) (c : Int) (hl : l.length ≤ 1048576) (h0 : 0 ≤ c) (h9 : c ≤ 1000000000000000) : Ev (fun k => laws_markStreetS.f k l c) (c + 3 * l.length, marksStreet l.length c) := by
  unfold laws_markStreetS.f
  refine Ev.mark (g := fun k ys c i => laws_markStreetS.l0 k ys c i) 3 mkStreet l c (fun i ys r h hy hr => ?_) (fun ys c' hy => ?_)
  · refine Ev.succ ?_
    have h1 : (i : Int) < (ys.length : Int) := by omega
    have h2 : (0 : Int) ≤ (i : Int) := by omega
    have h4 : i < ys.length := by omega
    have r0 : ∀ (zs : List S47) (x : S47), i < zs.length → rd_T47 (zs.set i x) (i : Int) = x := fun zs x hz => by rw [rdT_Street _ _ (by simpa using hz)]; simp
    simp only [laws_markStreetS.l0, h1, h2, h4, if_true, Option.bind_some, Int.toNat_natCast, List.set_set, r0, wrap_id (n := (i : Int) + 1) (by omega) (by omega), wrap_id (n := c + 3 * (i : Int) + 1) (by omega) (by omega), wrap_id (n := c + 3 * (i : Int) + 2) (by omega) (by omega), wrap_id (n := c + 3 * (i : Int) + 3) (by omega) (by omega), show c + 3 * (i : Int) + 1 + 1 = c + 3 * (i : Int) + 2 by omega, show c + 3 * (i : Int) + 2 + 1 = c + 3 * (i : Int) + 3 by omega]
    exact hr
  · refine Ev.succ ?_
    simp only [laws_markStreetS.l0, hy, Int.lt_irrefl, if_false]
    exact Ev.now _
def findS (l : List S47) (a b : Int) : Int := Go.Proofs.Ytdaofiiedclmpaa.Hnd.fidx (fun x : S47 => x.f0 == a && x.f1 == b) l 0
theorem findS_lo (l : List S47) (a b : Int) : -1 ≤ findS l a b := fidx_lo _ _
theorem findS_hi (l : List S47) (a b : Int) : findS l a b < l.length := fidx_hi _ _
theorem findS_neg (l : List S47) (a b : Int) : findS l a b < 0 ↔ ∀ x ∈ l, ¬ (x.f0 = a ∧ x.f1 = b) := by
  rcases fidx_cases (fun x : S47 => x.f0 == a && x.f1 == b) l 0 with ⟨h1, h2⟩ | ⟨i, h1, h2, h3, _⟩
  · refine ⟨fun _ x hx => by simpa using h2 x hx, fun _ => by unfold findS; omega⟩
  · refine ⟨fun h => by unfold findS at h; omega, fun h => absurd (show l[i].f0 = a ∧ l[i].f1 = b by simpa using h3) (h _ (List.getElem_mem _))⟩
theorem findS_at {l : List S47} {a b : Int} (h : 0 ≤ findS l a b) : ∃ (i : Nat) (hi : i < l.length), findS l a b = (i : Int) ∧ l[i].f0 = a ∧ l[i].f1 = b := by
  rcases fidx_cases (fun x : S47 => x.f0 == a && x.f1 == b) l 0 with ⟨h1, _⟩ | ⟨i, h1, h2, h3, _⟩
  · unfold findS at h; omega
  · exact ⟨i, h2, by unfold findS; omega, by simpa using h3⟩
def secOf (l : List S47) (a b : Int) : Int := if 0 ≤ findS l a b then (rd_T47 l (findS l a b)).f2 else 0
def cross (n : Int) : Bool := decide (1 ≤ n ∧ n ≤ 8)
def stB (a b c f : Int) : Bool := cross a && cross b && !decide (a = b) && decide (1 ≤ c ∧ c ≤ 300) && decide (f < 0)
def stAt (l : List S47) (i : Nat) : Bool := stB (rd_T47 l (i : Int)).f0 (rd_T47 l (i : Int)).f1 (rd_T47 l (i : Int)).f2 (findS (l.take i) (rd_T47 l (i : Int)).f0 (rd_T47 l (i : Int)).f1)
def areStreets (l : List S47) : Bool := (List.range l.length).all (stAt l) && decide (l.length ≤ 16)
theorem areStreets_len {l : List S47} (h : areStreets l = true) : l.length ≤ 16 := by simp [areStreets] at h; exact h.2
theorem areStreets_at {l : List S47} (h : areStreets l = true) (i : Nat) (hi : i < l.length) : 1 ≤ l[i].f0 ∧ l[i].f0 ≤ 8 ∧ 1 ≤ l[i].f1 ∧ l[i].f1 ≤ 8 ∧ l[i].f0 ≠ l[i].f1 ∧ 1 ≤ l[i].f2 ∧ l[i].f2 ≤ 300 := by
  simp only [areStreets, Bool.and_eq_true, List.all_eq_true, List.mem_range] at h
  have := h.1 i hi
  simp only [stAt, stB, cross, rdT_Street _ _ hi, Bool.and_eq_true, decide_eq_true_eq, Bool.not_eq_true', decide_eq_false_iff_not] at this
  omega
theorem secOf_pos {l : List S47} (h : areStreets l = true) (a b : Int) : (secOf l a b = 0 ↔ findS l a b < 0) ∧ 0 ≤ secOf l a b ∧ secOf l a b ≤ 300 := by
  unfold secOf
  by_cases h0 : 0 ≤ findS l a b
  · obtain ⟨i, hi, he, _⟩ := findS_at h0
    have := areStreets_at h i hi
    rw [if_pos h0, he, rdT_Street _ _ hi]
    omega
  · rw [if_neg h0]; omega
def put : List Int → Int → List Int
  | [], n => [n]
  | a :: l, n => if a < n then a :: put l n else if a = n then a :: l else n :: a :: l
theorem put_length : ∀ (l : List Int) (n : Int), (put l n).length ≤ l.length + 1
  | [], n => by simp [put]
  | a :: l, n => by
    have := put_length l n
    unfold put
    split
    · simp; omega
    · split
      · simp
      · simp
theorem put_mem : ∀ (l : List Int) (n x : Int), x ∈ put l n ↔ x = n ∨ x ∈ l
  | [], n, x => by simp [put]
  | a :: l, n, x => by
    have := put_mem l n x
    unfold put
    split
    · simp only [List.mem_cons, this]
      constructor
      · rintro (h | h | h) <;> simp [h]
      · rintro (h | h | h) <;> simp [h]
    · split
      · rename_i h; simp only [List.mem_cons]
        constructor
        · rintro (h | h) <;> simp [h]
        · rintro (h2 | h2 | h2)
          · left; omega
          · simp [h2]
          · simp [h2]
      · simp
theorem put_asc : ∀ (l : List Int) (n : Int), l.Pairwise (· < ·) → (put l n).Pairwise (· < ·)
  | [], n, _ => by simp [put]
  | a :: l, n, h => by
    obtain ⟨h1, h2⟩ := List.pairwise_cons.1 h
    have := put_asc l n h2
    unfold put
    split
    · rename_i hlt
      refine List.pairwise_cons.2 ⟨fun x hx => ?_, this⟩
      rcases (put_mem l n x).1 hx with rfl | hx
      · exact hlt
      · exact h1 x hx
    · split
      · exact h
      · refine List.pairwise_cons.2 ⟨fun x hx => ?_, h⟩
        rcases List.mem_cons.1 hx with rfl | hx
        · omega
        · have := h1 x hx; omega
theorem spec_l6Put_eq (l : List Int) (n : Int) (hl : l.length ≤ 4194304) : Ev (fun k => spec_l6Put.f k l n) (put l n) := by
  unfold spec_l6Put.f
  have key : ∀ (d i : Nat), i + d = l.length → Ev (fun k => spec_l6Put.l0 k l n (i : Int)) (l.take i ++ put (l.drop i) n) := by
    intro d
    induction d with
    | zero =>
      intro i hi
      refine Ev.succ ?_
      have hlt : (l.take i).length = i := by rw [List.length_take]; omega
      simp only [spec_l6Put.l0, show ¬ (i : Int) < (l.length : Int) by omega, if_false, Option.bind_some, show (0 : Int) ≤ (i : Int) by omega, show (i : Int) ≤ (l.length : Int) by omega, if_true, Int.toNat_natCast, List.length_nil, Nat.zero_add, List.nil_append, List.length_append, List.length_singleton, List.length_drop, hlt, show i < 17592186044416 by omega, show i + 1 < 17592186044416 by omega, show i + 1 + (l.length - i) < 17592186044416 by omega]
      exact evq (Ev.now _) (by rw [List.drop_eq_nil_of_le (show l.length ≤ i by omega)]; simp [put])
    | succ d ih =>
      intro i hi
      refine Ev.succ ?_
      have hi2 : i < l.length := by omega
      have hlt : (l.take i).length = i := by rw [List.length_take]; omega
      have next := ih (i + 1) (by omega)
      rw [show ((i + 1 : Nat) : Int) = (i : Int) + 1 by omega] at next
      simp only [spec_l6Put.l0, show (i : Int) < (l.length : Int) by omega, if_true, Option.bind_some, show (0 : Int) ≤ (i : Int) by omega, show (i : Int) ≤ (l.length : Int) by omega, rd_nat _ _ hi2, wrap_id (n := (i : Int) + 1) (by omega) (by omega), Int.toNat_natCast, List.length_nil, Nat.zero_add, List.nil_append, List.length_append, List.length_singleton, List.length_drop, hlt, show i < 17592186044416 by omega, show i + 1 < 17592186044416 by omega, show i + 1 + (l.length - i) < 17592186044416 by omega, show l.length < 17592186044416 by omega]
      rw [List.drop_eq_getElem_cons hi2]
      unfold put
      by_cases h1 : l[i] < n
      · simp only [h1, if_true]
        rw [List.take_succ_eq_append_getElem hi2, List.append_assoc, List.singleton_append] at next
        exact next
      · simp only [h1, if_false]
        by_cases h2 : l[i] = n
        · simp only [h2, if_true]
          refine evq (Ev.now _) ?_
          rw [← h2, ← List.drop_eq_getElem_cons hi2, List.take_append_drop]
        · simp only [h2, if_false]
          refine evq (Ev.now _) ?_
          rw [List.append_assoc, List.singleton_append]
  simpa using key l.length 0 (by omega)
def toOf (l : List S47) (a : Int) : List Int := (l.filter (fun x => x.f0 == a)).map (fun x => x.f1)
def streetsFrom (l : List S47) (a : Int) : List Int := (toOf l a).foldl put []
theorem toOf_step (l : List S47) (a : Int) (i : Nat) (h : i < l.length) : toOf (l.drop i) a = (if l[i].f0 = a then [l[i].f1] else []) ++ toOf (l.drop (i + 1)) a := by
  unfold toOf
  rw [List.drop_eq_getElem_cons h, List.filter_cons]
  by_cases e : l[i].f0 = a <;> simp [e]
theorem spec_StreetsFrom_eq (l : List S47) (a : Int) (hl : l.length ≤ 1048576) : Ev (fun k => spec_StreetsFrom.f k l a) (streetsFrom l a) := by
  unfold spec_StreetsFrom.f streetsFrom
  have key : ∀ (d i : Nat) (o : List Int), o.length ≤ i → i + d = l.length → Ev (fun k => spec_StreetsFrom.l0 k l a o (i : Int)) ((toOf (l.drop i) a).foldl put o) := by
    intro d
    induction d with
    | zero =>
      intro i o ho hi
      refine Ev.succ ?_
      simp only [spec_StreetsFrom.l0, show ¬ (i : Int) < (l.length : Int) by omega, if_false]
      exact evq (Ev.now _) (by rw [List.drop_eq_nil_of_le (show l.length ≤ i by omega)]; rfl)
    | succ d ih =>
      intro i o ho hi
      refine Ev.succ ?_
      have hi2 : i < l.length := by omega
      rw [toOf_step l a i hi2]
      simp only [spec_StreetsFrom.l0, show (i : Int) < (l.length : Int) by omega, show (0 : Int) ≤ (i : Int) by omega, if_true, rdT_Street _ _ hi2, wrap_id (n := (i : Int) + 1) (by omega) (by omega)]
      by_cases h : l[i].f0 = a
      · simp only [h, if_true, List.singleton_append, List.foldl_cons]
        refine Ev.bind (spec_l6Put_eq o _ (by omega)) ?_
        have hp := put_length o l[i].f1
        have := ih (i + 1) (put o l[i].f1) (by omega) (by omega)
        rw [show ((i + 1 : Nat) : Int) = (i : Int) + 1 by omega] at this
        exact this
      · simp only [h, if_false, List.nil_append]
        have := ih (i + 1) o (by omega) (by omega)
        rw [show ((i + 1 : Nat) : Int) = (i : Int) + 1 by omega] at this
        exact this
  simpa using key l.length 0 [] (Nat.le_refl _) (by omega)
theorem foldPut_len : ∀ (xs o : List Int), (xs.foldl put o).length ≤ o.length + xs.length
  | [], _ => by simp
  | x :: xs, o => by
    have h1 := foldPut_len xs (put o x)
    have h2 := put_length o x
    show (xs.foldl put (put o x)).length ≤ _
    simp; omega
theorem toOf_len (l : List S47) (a : Int) : (toOf l a).length ≤ l.length := by
  unfold toOf; rw [List.length_map]; exact List.length_filter_le _ _
theorem streetsFrom_le (l : List S47) (a : Int) : (streetsFrom l a).length ≤ l.length := by
  have h1 := foldPut_len (toOf l a) []
  have h2 := toOf_len l a
  unfold streetsFrom
  simp at h1; omega
theorem foldPut_mem : ∀ (xs o : List Int) (x : Int), x ∈ xs.foldl put o ↔ x ∈ xs ∨ x ∈ o
  | [], o, x => by simp
  | y :: xs, o, x => by
    show x ∈ xs.foldl put (put o y) ↔ _
    rw [foldPut_mem xs (put o y) x, put_mem, List.mem_cons]
    constructor
    · rintro (h | h | h) <;> simp [h]
    · rintro ((h | h) | h) <;> simp [h]
theorem foldPut_asc : ∀ (xs o : List Int), o.Pairwise (· < ·) → (xs.foldl put o).Pairwise (· < ·)
  | [], _, h => h
  | y :: xs, o, h => foldPut_asc xs (put o y) (put_asc o y h)
theorem asc_ext : ∀ (l m : List Int), l.Pairwise (· < ·) → m.Pairwise (· < ·) → (∀ x, x ∈ l ↔ x ∈ m) → l = m
  | [], [], _, _, _ => rfl
  | [], b :: m, _, _, h => absurd ((h b).2 (by simp)) (by simp)
  | a :: l, [], _, _, h => absurd ((h a).1 (by simp)) (by simp)
  | a :: l, b :: m, hl, hm, h => by
    obtain ⟨l1, l2⟩ := List.pairwise_cons.1 hl
    obtain ⟨m1, m2⟩ := List.pairwise_cons.1 hm
    have hab : a = b := by
      rcases List.mem_cons.1 ((h a).1 (by simp)) with e | e
      · exact e
      · rcases List.mem_cons.1 ((h b).2 (by simp)) with e2 | e2
        · exact e2.symm
        · have := m1 a e
          have := l1 b e2
          omega
    subst hab
    rw [asc_ext l m l2 m2 (fun x => ?_)]
    constructor
    · intro hx
      rcases List.mem_cons.1 ((h x).1 (List.mem_cons_of_mem _ hx)) with e | e
      · have := l1 x hx; omega
      · exact e
    · intro hx
      rcases List.mem_cons.1 ((h x).2 (List.mem_cons_of_mem _ hx)) with e | e
      · have := m1 x hx; omega
      · exact e
theorem compact_asc (zs : List Int) (hs : ∀ i j, (hij : i < j) → (hj : j < zs.length) → zs[i]'(by omega) ≤ zs[j]) : (Go.Lib.compact zs).Pairwise (· < ·) ∧ ∀ x, x ∈ Go.Lib.compact zs ↔ x ∈ zs := by
  have key : ∀ m, m ≤ zs.length → (Go.Lib.compactUpTo zs.toArray m).Pairwise (· < ·) ∧ ∀ x, x ∈ Go.Lib.compactUpTo zs.toArray m ↔ x ∈ zs.take m := by
    intro m
    induction m with
    | zero => intro _; simp [Go.Lib.compactUpTo]
    | succ m ih =>
      intro hm
      obtain ⟨h1, h2⟩ := ih (by omega)
      have hm2 : m < zs.length := by omega
      have hg : zs.toArray[m]! = zs[m] := by simp [hm2]
      rw [Go.Lib.compactUpTo_succ, hg, List.take_succ_eq_append_getElem hm2]
      by_cases hk : Go.Lib.keeps zs.toArray m = true
      · rw [if_pos hk]
        refine ⟨List.pairwise_append.2 ⟨h1, by simp, fun x hx y hy => ?_⟩, fun x => by simp only [List.mem_append, List.mem_singleton, h2]⟩
        obtain rfl : y = zs[m] := by simpa using hy
        obtain ⟨i, hi, rfl⟩ := List.getElem_of_mem ((h2 x).1 hx)
        rw [List.length_take] at hi
        rw [List.getElem_take]
        have h3 := hs i m (by omega) hm2
        by_cases he : zs[i] = zs[m]
        · exfalso
          have hm0 : 0 < m := by omega
          have hg1 : zs.toArray[m - 1]! = zs[m - 1] := by simp [show m - 1 < zs.length by omega]
          have h4 : zs[i] ≤ zs[m - 1] := by
            by_cases e : i = m - 1
            · subst e; exact Int.le_refl _
            · exact hs i (m - 1) (by omega) (by omega)
          have h5 := hs (m - 1) m (by omega) hm2
          have := Go.Lib.keeps_neg (d := zs.toArray) hm0 (by rw [hg, hg1]; omega)
          rw [hk] at this; cases this
        · omega
      · rw [if_neg hk, List.append_nil]
        refine ⟨h1, fun x => ?_⟩
        rw [h2, List.mem_append, List.mem_singleton]
        refine ⟨Or.inl, ?_⟩
        rintro (h | rfl)
        · exact h
        · have hm0 : 0 < m := by
            rcases Nat.eq_zero_or_pos m with e | e
            · subst e
              exact absurd (Go.Lib.keeps_lt_one zs.toArray 0 (by omega)) hk
            · exact e
          have hg1 : zs.toArray[m - 1]! = zs[m - 1] := by simp [show m - 1 < zs.length by omega]
          have he : zs[m] = zs[m - 1] := by
            by_cases e : zs[m] = zs[m - 1]
            · exact e
            · exact absurd (Go.Lib.keeps_pos (d := zs.toArray) (m := m) (by rw [hg, hg1]; exact e)) hk
          rw [he]
          exact List.mem_take_iff_getElem.2 ⟨m - 1, by omega, rfl⟩
  have := key zs.length (Nat.le_refl _)
  rw [List.take_length] at this
  unfold Go.Lib.compact
  exact this
theorem compact_sorted (xs : List Int) : Go.Lib.compact (Go.Proofs.Ytdaofiiedclmpaa.Srt.sorted xs) = xs.foldl put [] := by
  have hp : (Go.Proofs.Ytdaofiiedclmpaa.Srt.sorted xs).Pairwise (fun a b => decide (a ≤ b) = true) := by
    unfold Go.Proofs.Ytdaofiiedclmpaa.Srt.sorted
    exact List.pairwise_mergeSort (fun a b c h1 h2 => by simp at *; omega) (fun a b => by simp; omega) xs
  obtain ⟨h1, h2⟩ := compact_asc (Go.Proofs.Ytdaofiiedclmpaa.Srt.sorted xs) (fun i j hij hj => by
    have := List.pairwise_iff_getElem.1 hp i j (by omega) hj hij
    simpa using this)
  refine asc_ext _ _ h1 (foldPut_asc xs [] (by simp)) (fun x => ?_)
  rw [h2, foldPut_mem]
  unfold Go.Proofs.Ytdaofiiedclmpaa.Srt.sorted
  simp [List.mem_mergeSort]
theorem impl_StreetsFrom_eq (l : List S47) (a : Int) (hl : l.length ≤ 1048576) : Ev (fun k => impl_StreetsFrom.f k l a) (streetsFrom l a) := by
  unfold impl_StreetsFrom.f streetsFrom
  have key : ∀ (d i : Nat) (o : List Int), o.length ≤ i → i + d = l.length → Ev (fun k => impl_StreetsFrom.l0 k a o l (l.length : Int) (i : Int)) (Go.Lib.compact (Go.Proofs.Ytdaofiiedclmpaa.Srt.sorted (o ++ toOf (l.drop i) a))) := by
    intro d
    induction d with
    | zero =>
      intro i o ho hi
      refine Ev.succ ?_
      simp only [impl_StreetsFrom.l0, show ¬ (i : Int) < (l.length : Int) by omega, if_false, show o.length < 4611686018427387904 by omega, if_true]
      exact evq (Ev.now _) (by rw [List.drop_eq_nil_of_le (show l.length ≤ i by omega)]; simp [toOf])
    | succ d ih =>
      intro i o ho hi
      refine Ev.succ ?_
      have hi2 : i < l.length := by omega
      rw [toOf_step l a i hi2]
      simp only [impl_StreetsFrom.l0, show (i : Int) < (l.length : Int) by omega, show (0 : Int) ≤ (i : Int) by omega, if_true, rdT_Street _ _ hi2, wrap_id (n := (i : Int) + 1) (by omega) (by omega), show o.length < 17592186044416 by omega]
      by_cases h : l[i].f0 = a
      · simp only [h, if_true]
        have := ih (i + 1) (o ++ [l[i].f1]) (by rw [List.length_append, List.length_singleton]; omega) (by omega)
        rw [show ((i + 1 : Nat) : Int) = (i : Int) + 1 by omega] at this
        rw [List.append_assoc] at this
        exact this
      · simp only [h, if_false, List.nil_append]
        have := ih (i + 1) o (by omega) (by omega)
        rw [show ((i + 1 : Nat) : Int) = (i : Int) + 1 by omega] at this
        exact this
  have := key l.length 0 [] (Nat.le_refl _) (by omega)
  rw [List.nil_append, List.drop_zero, compact_sorted] at this
  exact this
theorem holds : ∀ (l0 : List S79) (a1 : Int), l0.length ≤ maxLen → (∀ x ∈ l0, wf79 x) → (Lit.int .i64 a1).wf = true → ∃ k, laws_FnExactStreetsFrom.f k l0 a1 = some true := by
  intros
  apply Ev.rounds
  unfold laws_FnExactStreetsFrom.f
  repeat (first
    | exact Ev.now _
    | dsimp only
    | (refine Ev.ifp ?_ ?_; focus (first | rfl | omega | (simp; done)))
    | (refine Ev.ifn ?_ ?_; focus (first | omega | (simp; done)))
    | refine Ev.bind (laws_eqIntS_self _ (by first | omega | (simp only [List.length_map, markInts_length]; omega) | (exact Nat.le_trans (streetsFrom_le _ _) (by simp only [List.length_map]; omega)) | (simp; omega))) ?_
    | refine Ev.bindE (laws_eqStreet_self ..) ?_
    | refine Ev.bind (laws_eqStreetS_self _ (by first | omega | (simp only [List.length_map, markInts_length]; omega) | (exact Nat.le_trans (streetsFrom_le _ _) (by simp only [List.length_map]; omega)) | (simp; omega))) ?_
    | refine Ev.bind (laws_heldIntS_eq _ _ (by first | omega | (simp only [List.length_map, markInts_length]; omega) | (exact Nat.le_trans (streetsFrom_le _ _) (by simp only [List.length_map]; omega)) | (simp; omega)) (by omega) (by first | omega | (simp only [List.length_map, markInts_length]; omega) | (exact Nat.le_trans (streetsFrom_le _ _) (by simp only [List.length_map]; omega)) | (simp; omega))) ?_
    | refine Ev.bind (laws_markIntS_eq _ _ (by first | omega | (simp only [List.length_map, markInts_length]; omega) | (exact Nat.le_trans (streetsFrom_le _ _) (by simp only [List.length_map]; omega)) | (simp; omega)) (by omega) (by first | omega | (simp only [List.length_map, markInts_length]; omega) | (exact Nat.le_trans (streetsFrom_le _ _) (by simp only [List.length_map]; omega)) | (simp; omega))) ?_
    | refine Ev.bind (laws_markStreetS_eq _ _ (by first | omega | (simp only [List.length_map, markInts_length]; omega) | (exact Nat.le_trans (streetsFrom_le _ _) (by simp only [List.length_map]; omega)) | (simp; omega)) (by omega) (by first | omega | (simp only [List.length_map, markInts_length]; omega) | (exact Nat.le_trans (streetsFrom_le _ _) (by simp only [List.length_map]; omega)) | (simp; omega))) ?_
    | refine Ev.szb (laws_szStreetS_eq _ _ (by assumption) (by omega) (by omega)) (fun _ => ?_) (fun _ => ?_)
    | refine Ev.bindE (laws_toStreet_eq ..) ?_
    | refine Ev.bind (laws_toStreetS_eq _ (by first | omega | (simp only [List.length_map, markInts_length]; omega) | (exact Nat.le_trans (streetsFrom_le _ _) (by simp only [List.length_map]; omega)) | (simp; omega))) ?_
    | refine Ev.bind (spec_StreetsFrom_eq _ _ (by first | omega | (simp only [List.length_map, markInts_length]; omega) | (exact Nat.le_trans (streetsFrom_le _ _) (by simp only [List.length_map]; omega)) | (simp; omega))) ?_
    | refine Ev.bind (impl_StreetsFrom_eq _ _ (by first | omega | (simp only [List.length_map, markInts_length]; omega) | (exact Nat.le_trans (streetsFrom_le _ _) (by simp only [List.length_map]; omega)) | (simp; omega))) ?_
    | (refine Ev.succ (g := fun k => laws_FnExactStreetsFrom.j0 k _ _ _ _ _) ?_; simp only [laws_FnExactStreetsFrom.j0])
    | (refine Ev.ifd (fun _ => by exact Ev.now _) (fun _ => ?_)))
end Go.Proofs.Ytdaofiiedclmpaa.Pure.FnExactStreetsFrom
