/- The law FnExactRotatePlan of the given program, as a statement over numbers and lists alone, for all arguments; no conditions but the machine's own bounds. -/
import Derived.Test.YtjgigmghcfdomaaPFnExactRotatePlanx
import Derived.Test.YtjgigmghcfdomaaBase
namespace Go.Proofs.Ytjgigmghcfdomaa.Pure.FnExactRotatePlan
open Go.RowKit Go.Proofs.Ytjgigmghcfdomaa.PFnExactRotatePlan Go.Proofs.YtjgigmghcfdomaaW.PrintWords Go.Proofs.YtjgigmghcfdomaaW.PrintLast Go.Proofs.Ytjgigmghcfdomaa.Bas
set_option linter.unusedVariables false
set_option linter.unusedSimpArgs false
def wf81 (x : S81) : Prop := (x.f0.length ≤ maxLen ∧ ∀ y ∈ x.f0, (Lit.int .i64 y).wf = true) ∧ (Lit.int .i64 x.f1).wf = true
theorem spec_l1In_eq (a lo hi : Int) : spec_l1In.f a lo hi = some (decide (lo ≤ a ∧ a ≤ hi)) := by
 unfold spec_l1In.f; grind
theorem laws_szIntS_eq (l : List Int) (a : Int) (hl : l.length ≤ maxLen) (h0 : 0 ≤ a) (h1 : a ≤ 1048576) : laws_szIntS.f l a = some (if (l.length : Int) ≤ a then a - l.length else -1) := by
 unfold maxLen at hl; unfold laws_szIntS.f; rw [wrap_id (by omega) (by omega)]; grind
theorem laws_toIntS_eq (l : List Int) (hl : l.length ≤ 1048576) : Ev (fun k => laws_toIntS.f k l) l := by
 unfold laws_toIntS.f
 simp only [show (0 : Int) ≤ l.length by omega, Int.toNat_natCast, show l.length ≤ 35184372088832 by omega, if_true]
 have := Ev.copy (g := fun k ys i => laws_toIntS.l0 k l ys i) l id 0 (fun i ys r h hy hr => by
  refine Ev.succ ?_
  have h1 : (i : Int) < (l.length : Int) := by omega
  have h2 : (0 : Int) ≤ (i : Int) := by omega
  have h3 : (i : Int) < (ys.length : Int) := by omega
  simp only [laws_toIntS.l0, h1, h2, h3, if_true, rd_nat _ _ h, Int.toNat_natCast, wrap_id (n := (i : Int) + 1) (by omega) (by omega)]
  exact hr) (fun ys => by
  refine Ev.succ ?_
  simp only [laws_toIntS.l0, Int.lt_irrefl, if_false]
  exact Ev.now _)
 simpa using this
theorem laws_eqIntS_self (l : List Int) (hl : l.length ≤ 140737488355328) : Ev (fun k => laws_eqIntS.f k l l) true := by
 unfold laws_eqIntS.f
 simp only [if_true]
 have := Ev.all (g := fun k i => laws_eqIntS.l0 k l l i) l.length (fun _ => true) (fun i r h _ hr => by
  refine Ev.succ ?_
  have h1 : (i : Int) < (l.length : Int) := by omega
  have h2 : (0 : Int) ≤ (i : Int) := by omega
  simp only [laws_eqIntS.l0, h1, h2, if_true, wrap_id (n := (i : Int) + 1) (by omega) (by omega)]
  exact hr) (fun i h hf => by simp at hf) (by
  refine Ev.succ ?_
  simp only [laws_eqIntS.l0, Int.lt_irrefl, if_false]
  exact Ev.now _)
 exact evq this (by rw [List.all_eq_true]; intros; rfl)
theorem laws_markIntS_eq (l : List Int) (c : Int) (hl : l.length ≤ 140737488355328) (h0 : 0 ≤ c) (h9 : c ≤ 1000000000000000) : Ev (fun k => laws_markIntS.f k l c) (c + 1 * l.length, markInts l.length c) := by
 unfold laws_markIntS.f
 refine Ev.mark (g := fun k ys c i => laws_markIntS.l0 k ys c i) 1 (fun c => c) l c (fun i ys r h hy hr => ?_) (fun ys c' hy => ?_)
 ·refine Ev.succ ?_
  have h1 : (i : Int) < (ys.length : Int) := by omega
  have h2 : (0 : Int) ≤ (i : Int) := by omega
  simp only [laws_markIntS.l0, h1, h2, if_true, Int.toNat_natCast, wrap_id (n := (i : Int) + 1) (by omega) (by omega), wrap_id (n := c + 1 * (i : Int) + 1) (by omega) (by omega)]
  exact hr
 ·refine Ev.succ ?_
  simp only [laws_markIntS.l0, hy, Int.lt_irrefl, if_false]
  exact Ev.now _
theorem laws_heldIntS_eq (n : Nat) (c : Int) (hl : n ≤ 140737488355328) (h0 : 0 ≤ c) (h9 : c ≤ 1000000000000000) : Ev (fun k => laws_heldIntS.f k (markInts n c) c) (c + 1 * n) := by
 unfold laws_heldIntS.f
 refine Ev.held (g := fun k c' i => laws_heldIntS.l0 k (markInts n c) c' i) 1 n c (fun i r h hr => ?_) (fun c' => ?_)
 ·refine Ev.succ ?_
  have hn := markInts_length n c
  have h1 : (i : Int) < ((markInts n c).length : Int) := by omega
  have h2 : (0 : Int) ≤ (i : Int) := by omega
  have h3 : rd (markInts n c) (i : Int) = c + 1 * (i : Int) := by rw [rd_nat _ _ (by omega)]; simp [markInts]
  simp only [laws_heldIntS.l0, h1, h2, h3, if_true, wrap_id (n := (i : Int) + 1) (by omega) (by omega), wrap_id (n := c + 1 * (i : Int) + 1) (by omega) (by omega)]
  exact hr
 ·refine Ev.succ ?_
  simp only [laws_heldIntS.l0, markInts_length, Int.lt_irrefl, if_false]
  exact Ev.now _
theorem rdT_lawsPart (xs : List S81) (i : Nat) (h : i < xs.length) : rd_T81 xs (i : Int) = xs[i] := by simp [rd_T81, h]
/-- The rows of parts that a law lets through. -/
def lsOk (l : List S81) : Prop := l.length ≤ 1048576 ∧ ∀ x ∈ l, x.f0.length ≤ 1048576
def partsLen : List S81 → Nat
 | [] => 0
 | x :: l => x.f0.length + partsLen l
theorem partsLen_mem : ∀ (l : List S81) (x : S81), x ∈ l → x.f0.length ≤ partsLen l
 | [], _, h => absurd h (by simp)
 | y :: l, x, h => by
  unfold partsLen
  rcases List.mem_cons.1 h with rfl | h
  ·omega
  ·have := partsLen_mem l x h; omega
theorem lsOk_of {l : List S81} {a : Int} (h : (l.length : Int) + partsLen l ≤ a) (ha : a ≤ 1048576) : lsOk l := ⟨by omega, fun x hx => by have := partsLen_mem l x hx; omega⟩
theorem Ev.szp {β : Type} {g : Nat → Option Int} {n a : Int} {f : Nat → Int → Option β} {r : β} (ho : Ev g (if n ≤ a then a - n else -1)) (h1 : n ≤ a → Ev (fun k => f k (a - n)) r) (h2 : ¬ n ≤ a → Ev (fun k => f k (-1)) r) : Ev (fun k => (g k).bind (f k)) r := by
 by_cases h : n ≤ a
 ·rw [if_pos h] at ho; exact Ev.bind ho (h1 h)
 ·rw [if_neg h] at ho; exact Ev.bind ho (h2 h)
theorem rdT_Part (xs : List S85) (i : Nat) (h : i < xs.length) : rd_T85 xs (i : Int) = xs[i] := by simp [rd_T85, h]
def psOk (l : List S85) : Prop := l.length ≤ 1048576 ∧ ∀ x ∈ l, x.f0.length ≤ 1048576
theorem laws_szPart_eq (l : List Int) (f a : Int) (hl : l.length ≤ maxLen) (h0 : 0 ≤ a) (h1 : a ≤ 1048576) : laws_szPart.f l f a = some (if (l.length : Int) ≤ a then a - l.length else -1) := by
 unfold laws_szPart.f
 simp only [laws_szIntS_eq l a hl h0 h1, Option.bind_some]
 by_cases h : (l.length : Int) ≤ a
 ·simp only [h, if_true, show ¬ (a - (l.length : Int) < 0) by omega, if_false]
 ·simp only [h, if_false, show ((-1 : Int) < 0) by omega, if_true]
theorem laws_szPartS_eq (l : List S81) (a : Int) (hl : l.length ≤ maxLen) (hx : ∀ x ∈ l, x.f0.length ≤ maxLen) (h0 : 0 ≤ a) (h1 : a ≤ 1048576) : Ev (fun k => laws_szPartS.f k l a) (if (l.length : Int) + partsLen l ≤ a then a - ((l.length : Int) + partsLen l) else -1) := by
 unfold laws_szPartS.f
 rw [wrap_id (by unfold maxLen at hl; omega) (by unfold maxLen at hl; omega)]
 by_cases hc : (l.length : Int) ≤ a
 ·simp only [show ¬ (a - (l.length : Int) < 0) by omega, if_false]
  have key : ∀ (d i : Nat) (b : Int), i + d = l.length → 0 ≤ b → b ≤ 1048576 → Ev (fun k => laws_szPartS.l0 k l b (i : Int)) (if (partsLen (l.drop i) : Int) ≤ b then b - partsLen (l.drop i) else -1) := by
   intro d
   induction d with
   | zero =>
    intro i b hi hb0 hb1
    refine Ev.succ ?_
    simp only [laws_szPartS.l0, show ¬ (i : Int) < (l.length : Int) by omega, if_false]
    have e : partsLen (l.drop i) = 0 := by rw [List.drop_eq_nil_of_le (show l.length ≤ i by omega)]; rfl
    exact evq (Ev.now _) (by rw [e, if_pos (by omega)]; omega)
   | succ d ih =>
    intro i b hi hb0 hb1
    refine Ev.succ ?_
    have hi2 : i < l.length := by omega
    have hm := hx _ (List.getElem_mem hi2)
    have e : partsLen (l.drop i) = l[i].f0.length + partsLen (l.drop (i + 1)) := by rw [List.drop_eq_getElem_cons hi2]; rfl
    rw [e]
    simp only [laws_szPartS.l0, show (i : Int) < (l.length : Int) by omega, show (0 : Int) ≤ (i : Int) by omega, if_true, rdT_lawsPart _ _ hi2, laws_szPart_eq _ _ b hm hb0 hb1, Option.bind_some, wrap_id (n := (i : Int) + 1) (by omega) (by omega)]
    by_cases h : (l[i].f0.length : Int) ≤ b
    ·have next := ih (i + 1) (b - l[i].f0.length) (by omega) (by omega) (by omega)
     rw [show ((i + 1 : Nat) : Int) = (i : Int) + 1 by omega] at next
     simp only [h, if_true, show ¬ (b - (l[i].f0.length : Int) < 0) by omega, if_false]
     refine evq next ?_
     by_cases h2 : (partsLen (l.drop (i + 1)) : Int) ≤ b - l[i].f0.length
     ·rw [if_pos h2, if_pos (by omega)]; omega
     ·rw [if_neg h2, if_neg (by omega)]
    ·simp only [h, if_false, show ((-1 : Int) < 0) by omega, if_true]
     exact evq (Ev.now _) (by rw [if_neg (by omega)])
  refine evq (key l.length 0 (a - l.length) (by omega) (by omega) (by omega)) ?_
  rw [List.drop_zero]
  by_cases h2 : (partsLen l : Int) ≤ a - l.length
  ·rw [if_pos h2, if_pos (by omega)]; omega
  ·rw [if_neg h2, if_neg (by omega)]
 ·simp only [show a - (l.length : Int) < 0 by omega, if_true]
  exact evq (Ev.now _) (by rw [if_neg (by omega)])
def convPart (x : S81) : S85 := ⟨x.f0, x.f1⟩
theorem psOk_conv {l : List S81} (h : lsOk l) : psOk (l.map convPart) := ⟨by rw [List.length_map]; exact h.1, fun x hx => by
 obtain ⟨y, hy, rfl⟩ := List.mem_map.1 hx
 exact h.2 y hy⟩
theorem laws_toPart_eq (l : List Int) (f : Int) (hl : l.length ≤ 1048576) : Ev (fun k => laws_toPart.f k l f) (l, f) := by
 unfold laws_toPart.f
 exact Ev.bind (laws_toIntS_eq l hl) (Ev.now _)
theorem laws_toPartS_eq (l : List S81) (hl : lsOk l) : Ev (fun k => laws_toPartS.f k l) (l.map convPart) := by
 unfold laws_toPartS.f
 obtain ⟨hl, hx⟩ := hl
 simp only [show (0 : Int) ≤ l.length by omega, Int.toNat_natCast, show l.length ≤ 8796093022208 by omega, if_true]
 exact Ev.copy (g := fun k ys i => laws_toPartS.l0 k l ys i) l convPart z85 (fun i ys r h hy hr => by
  refine Ev.succ ?_
  have h1 : (i : Int) < (l.length : Int) := by omega
  have h2 : (0 : Int) ≤ (i : Int) := by omega
  have h3 : (i : Int) < (ys.length : Int) := by omega
  simp only [laws_toPartS.l0, h1, h2, h3, if_true, rdT_lawsPart _ _ h, Int.toNat_natCast, wrap_id (n := (i : Int) + 1) (by omega) (by omega)]
  refine Ev.bind (laws_toPart_eq _ _ (hx _ (List.getElem_mem h))) ?_
  exact hr) (fun ys => by
  refine Ev.succ ?_
  simp only [laws_toPartS.l0, Int.lt_irrefl, if_false]
  exact Ev.now _)
theorem laws_eqPart_self (l : List Int) (f : Int) (hl : l.length ≤ 1048576) : Ev (fun k => laws_eqPart.f k l f l f) true := by
 unfold laws_eqPart.f
 refine Ev.bind (laws_eqIntS_self l (by omega)) ?_
 simp only [if_true]
 exact Ev.now _
theorem laws_eqPartS_self (l : List S85) (hl : psOk l) : Ev (fun k => laws_eqPartS.f k l l) true := by
 unfold laws_eqPartS.f
 obtain ⟨hl, hx⟩ := hl
 simp only [if_true]
 have := Ev.all (g := fun k i => laws_eqPartS.l0 k l l i) l.length (fun _ => true) (fun i r h _ hr => by
  refine Ev.succ ?_
  have h1 : (i : Int) < (l.length : Int) := by omega
  have h2 : (0 : Int) ≤ (i : Int) := by omega
  simp only [laws_eqPartS.l0, h1, h2, if_true, rdT_Part _ _ h, wrap_id (n := (i : Int) + 1) (by omega) (by omega)]
  refine Ev.bind (laws_eqPart_self _ _ (hx _ (List.getElem_mem h))) ?_
  simp only [if_true]
  exact hr) (fun i h hf => by simp at hf) (by
  refine Ev.succ ?_
  simp only [laws_eqPartS.l0, Int.lt_irrefl, if_false]
  exact Ev.now _)
 exact evq this (by rw [List.all_eq_true]; intros; rfl)
def markParts : List S85 → Int → List S85
 | [], _ => []
 | x :: l, c => ⟨markInts x.f0.length c, c + x.f0.length⟩ :: markParts l (c + x.f0.length + 1)
def partsSum : List S85 → Int
 | [] => 0
 | x :: l => (x.f0.length : Int) + 1 + partsSum l
theorem partsSum_nn : ∀ l : List S85, 0 ≤ partsSum l
 | [] => Int.le_refl _
 | x :: l => by have := partsSum_nn l; unfold partsSum; omega
theorem partsSum_conv : ∀ l : List S81, partsSum (l.map convPart) = (l.length : Int) + partsLen l
 | [] => rfl
 | x :: l => by
  have := partsSum_conv l
  rw [List.map_cons, List.length_cons]
  show ((convPart x).f0.length : Int) + 1 + partsSum (l.map convPart) = _
  show (x.f0.length : Int) + 1 + partsSum (l.map convPart) = ((l.length + 1 : Nat) : Int) + ((x.f0.length + partsLen l : Nat) : Int)
  omega
theorem markParts_length : ∀ (l : List S85) (c : Int), (markParts l c).length = l.length
 | [], _ => rfl
 | x :: l, c => by show (markParts l _).length + 1 = l.length + 1; rw [markParts_length l]
theorem laws_markPartS_eq (l : List S85) (c : Int) (hl : l.length ≤ 1048576) (hx : ∀ x ∈ l, x.f0.length ≤ 1048576) (h0 : 0 ≤ c) (h9 : c + partsSum l ≤ 100000000000000) : Ev (fun k => laws_markPartS.f k l c) (c + partsSum l, markParts l c) := by
 unfold laws_markPartS.f
 have key : ∀ (suf pre : List S85) (c : Int), pre.length + suf.length ≤ 1048576 → (∀ x ∈ suf, x.f0.length ≤ 1048576) → 0 ≤ c → c + partsSum suf ≤ 100000000000000 → Ev (fun k => laws_markPartS.l0 k (pre ++ suf) c (pre.length : Int)) (c + partsSum suf, pre ++ markParts suf c) := by
  intro suf
  induction suf with
  | nil =>
   intro pre c _ _ _ _
   refine Ev.succ ?_
   rw [List.append_nil]
   simp only [laws_markPartS.l0, Int.lt_irrefl, if_false]
   exact evq (Ev.now _) (by simp [markParts, partsSum])
  | cons x suf ih =>
   intro pre c hl hx h0 h9
   refine Ev.succ ?_
   have hp := partsSum_nn suf
   have hx1 := hx x List.mem_cons_self
   rw [List.length_cons] at hl
   have h9' : c + ((x.f0.length : Int) + 1 + partsSum suf) ≤ 100000000000000 := h9
   have hr : rd_T85 (pre ++ x :: suf) (pre.length : Int) = x := by rw [rdT_Part _ _ (by simp)]; simp
   have hlen : (pre ++ x :: suf).length = pre.length + (suf.length + 1) := by rw [List.length_append, List.length_cons]
   simp only [laws_markPartS.l0, show (pre.length : Int) < ((pre ++ x :: suf).length : Int) by omega, show (0 : Int) ≤ (pre.length : Int) by omega, if_true, hr, Int.toNat_natCast]
   refine Ev.bind (laws_markIntS_eq x.f0 c (by omega) h0 (by omega)) ?_
   simp only [Int.one_mul, wrap_id (n := c + (x.f0.length : Int) + 1) (by omega) (by omega), wrap_id (n := (pre.length : Int) + 1) (by omega) (by omega)]
   have hs : (pre ++ x :: suf).set pre.length (⟨markInts x.f0.length c, c + x.f0.length⟩ : S85) = (pre ++ [(⟨markInts x.f0.length c, c + x.f0.length⟩ : S85)]) ++ suf := by simp
   rw [hs]
   have next := ih (pre ++ [(⟨markInts x.f0.length c, c + x.f0.length⟩ : S85)]) (c + x.f0.length + 1) (by rw [List.length_append, List.length_singleton]; omega) (fun y hy => hx y (List.mem_cons_of_mem _ hy)) (by omega) (by omega)
   rw [List.length_append, List.length_singleton, show ((pre.length + 1 : Nat) : Int) = (pre.length : Int) + 1 by omega] at next
   refine evq next ?_
   rw [List.append_assoc]
   show (c + (x.f0.length : Int) + 1 + partsSum suf, _) = (c + ((x.f0.length : Int) + 1 + partsSum suf), _)
   congr 1
   omega
 have := key l [] c (by simpa using hl) hx h0 h9
 simpa using this
theorem laws_heldPartS_eq (l : List S85) (c : Int) (hl : l.length ≤ 1048576) (hx : ∀ x ∈ l, x.f0.length ≤ 1048576) (h0 : 0 ≤ c) (h9 : c + partsSum l ≤ 100000000000000) : Ev (fun k => laws_heldPartS.f k (markParts l c) c) (c + partsSum l) := by
 unfold laws_heldPartS.f
 have key : ∀ (suf : List S85) (pre : List S85) (c : Int), pre.length + suf.length ≤ 1048576 → (∀ x ∈ suf, x.f0.length ≤ 1048576) → 0 ≤ c → c + partsSum suf ≤ 100000000000000 → Ev (fun k => laws_heldPartS.l0 k (pre ++ markParts suf c) c (pre.length : Int)) (c + partsSum suf) := by
  intro suf
  induction suf with
  | nil =>
   intro pre c _ _ _ _
   refine Ev.succ ?_
   rw [show markParts [] c = [] from rfl, List.append_nil]
   simp only [laws_heldPartS.l0, Int.lt_irrefl, if_false]
   exact evq (Ev.now _) (by simp [partsSum])
  | cons x suf ih =>
   intro pre c hl hx h0 h9
   refine Ev.succ ?_
   have hp := partsSum_nn suf
   have hx1 := hx x List.mem_cons_self
   rw [List.length_cons] at hl
   have h9' : c + ((x.f0.length : Int) + 1 + partsSum suf) ≤ 100000000000000 := h9
   rw [show markParts (x :: suf) c = ⟨markInts x.f0.length c, c + x.f0.length⟩ :: markParts suf (c + x.f0.length + 1) from rfl]
   have hr : rd_T85 (pre ++ (⟨markInts x.f0.length c, c + x.f0.length⟩ : S85) :: markParts suf (c + x.f0.length + 1)) (pre.length : Int) = ⟨markInts x.f0.length c, c + x.f0.length⟩ := by rw [rdT_Part _ _ (by simp)]; simp
   have hlen : (pre ++ (⟨markInts x.f0.length c, c + x.f0.length⟩ : S85) :: markParts suf (c + x.f0.length + 1)).length = pre.length + (suf.length + 1) := by rw [List.length_append, List.length_cons, markParts_length]
   simp only [laws_heldPartS.l0, show (pre.length : Int) < ((pre ++ (⟨markInts x.f0.length c, c + x.f0.length⟩ : S85) :: markParts suf (c + x.f0.length + 1)).length : Int) by omega, show (0 : Int) ≤ (pre.length : Int) by omega, if_true, hr]
   refine Ev.bind (laws_heldIntS_eq x.f0.length c (by omega) h0 (by omega)) ?_
   simp only [Int.one_mul]
   refine Ev.ifn (by omega) ?_
   refine Ev.ifp (by first | rfl | trivial) ?_
   simp only [wrap_id (n := c + (x.f0.length : Int) + 1) (by omega) (by omega), wrap_id (n := (pre.length : Int) + 1) (by omega) (by omega)]
   have next := ih (pre ++ [(⟨markInts x.f0.length c, c + x.f0.length⟩ : S85)]) (c + x.f0.length + 1) (by rw [List.length_append, List.length_singleton]; omega) (fun y hy => hx y (List.mem_cons_of_mem _ hy)) (by omega) (by omega)
   rw [List.length_append, List.length_singleton, show ((pre.length + 1 : Nat) : Int) = (pre.length : Int) + 1 by omega, List.append_assoc] at next
   refine evq next ?_
   show c + (x.f0.length : Int) + 1 + partsSum suf = c + ((x.f0.length : Int) + 1 + partsSum suf)
   omega
 have := key l [] c (by simpa using hl) hx h0 h9
 simpa using this
theorem impl_clonePlan_eq (l : List S85) (hl : psOk l) : Ev (fun k => impl_clonePlan.f k l) l := by
 unfold impl_clonePlan.f
 obtain ⟨hl, hx⟩ := hl
 have key : ∀ (d i : Nat), i + d = l.length → Ev (fun k => impl_clonePlan.l0 k (l.take i) l (l.length : Int) (i : Int)) l := by
  intro d
  induction d with
  | zero =>
   intro i hi
   refine Ev.succ ?_
   simp only [impl_clonePlan.l0, show ¬ (i : Int) < (l.length : Int) by omega, if_false]
   exact evq (Ev.now _) (List.take_of_length_le (by omega))
  | succ d ih =>
   intro i hi
   refine Ev.succ ?_
   have hi2 : i < l.length := by omega
   have hlen : (l.take i).length = i := by rw [List.length_take]; omega
   have hxi := hx _ (List.getElem_mem hi2)
   have hc : slices_Clone_int_int.f l[i].f0 = some l[i].f0 := by unfold slices_Clone_int_int.f; rw [if_pos (by omega)]
   simp only [impl_clonePlan.l0, show (i : Int) < (l.length : Int) by omega, show (0 : Int) ≤ (i : Int) by omega, if_true, rdT_Part _ _ hi2, hc, Option.bind_some, hlen, show i < 4398046511104 by omega, wrap_id (n := (i : Int) + 1) (by omega) (by omega)]
   have next := ih (i + 1) (by omega)
   rw [show ((i + 1 : Nat) : Int) = (i : Int) + 1 by omega, List.take_succ_eq_append_getElem hi2] at next
   exact next
 exact key l.length 0 (by omega)
theorem spec_l8Copy_eq (l : List S85) (hl : psOk l) : Ev (fun k => spec_l8Copy.f k l) l := by
 unfold spec_l8Copy.f
 obtain ⟨hl, hx⟩ := hl
 have key : ∀ (d i : Nat), i + d = l.length → Ev (fun k => spec_l8Copy.l0 k l (l.take i) (i : Int)) l := by
  intro d
  induction d with
  | zero =>
   intro i hi
   refine Ev.succ ?_
   simp only [spec_l8Copy.l0, show ¬ (i : Int) < (l.length : Int) by omega, if_false]
   exact evq (Ev.now _) (List.take_of_length_le (by omega))
  | succ d ih =>
   intro i hi
   refine Ev.succ ?_
   have hi2 : i < l.length := by omega
   have hlen : (l.take i).length = i := by rw [List.length_take]; omega
   have hxi := hx _ (List.getElem_mem hi2)
   simp only [spec_l8Copy.l0, show (i : Int) < (l.length : Int) by omega, show (0 : Int) ≤ (i : Int) by omega, if_true, rdT_Part _ _ hi2, Option.bind_some, List.length_nil, Nat.zero_add, show l[i].f0.length < 17592186044416 by omega, hlen, show i < 4398046511104 by omega, List.nil_append, wrap_id (n := (i : Int) + 1) (by omega) (by omega)]
   have next := ih (i + 1) (by omega)
   rw [show ((i + 1 : Nat) : Int) = (i : Int) + 1 by omega, List.take_succ_eq_append_getElem hi2] at next
   exact next
 exact key l.length 0 (by omega)
def rotP (p : List S85) (i : Int) : List S85 := if 0 ≤ i ∧ i < (p.length : Int) then p.drop i.toNat ++ p.take i.toNat else p
theorem rotP_length (p : List S85) (i : Int) : (rotP p i).length = p.length := by
 unfold rotP
 split
 ·rw [List.length_append, List.length_drop, List.length_take]; omega
 ·rfl
theorem rotP_mem {p : List S85} {i : Int} {x : S85} (h : x ∈ rotP p i) : x ∈ p := by
 unfold rotP at h
 split at h
 ·rcases List.mem_append.1 h with h | h
  ·exact List.mem_of_mem_drop h
  ·exact List.mem_of_mem_take h
 ·exact h
theorem rotP_ok {p : List S85} {i : Int} (h : psOk p) : psOk (rotP p i) := ⟨by rw [rotP_length]; exact h.1, fun x hx => h.2 x (rotP_mem hx)⟩
theorem partsSum_app : ∀ (a b : List S85), partsSum (a ++ b) = partsSum a + partsSum b
 | [], b => by show partsSum b = 0 + partsSum b; omega
 | x :: a, b => by
  have := partsSum_app a b
  show (x.f0.length : Int) + 1 + partsSum (a ++ b) = (x.f0.length : Int) + 1 + partsSum a + partsSum b
  omega
theorem rotP_sum (p : List S85) (i : Int) : partsSum (rotP p i) = partsSum p := by
 unfold rotP
 split
 ·have h := partsSum_app (p.take i.toNat) (p.drop i.toNat)
  rw [List.take_append_drop] at h
  rw [partsSum_app, h]; omega
 ·rfl
theorem impl_RotatePlan_eq (p : List S85) (i : Int) (hp : psOk p) : Ev (fun k => impl_RotatePlan.f k p i) (rotP p i) := by
 unfold impl_RotatePlan.f rotP
 refine Ev.bind (impl_clonePlan_eq p hp) ?_
 have hl := hp.1
 refine Ev.ifp (by omega) ?_
 by_cases h0 : 0 ≤ i
 ·by_cases h1 : i < (p.length : Int)
  ·rw [if_pos h0, if_pos h1, if_pos (by omega), if_pos ⟨h0, h1⟩]; exact Ev.now _
  ·rw [if_pos h0, if_neg h1, if_neg (fun h => h1 h.2)]; exact Ev.now _
 ·rw [if_neg h0, if_neg (fun h => h0 h.1)]; exact Ev.now _
theorem spec_RotatePlan_eq (p : List S85) (i : Int) (hp : psOk p) : Ev (fun k => spec_RotatePlan.f k p i) (rotP p i) := by
 unfold spec_RotatePlan.f rotP
 have hl := hp.1
 rw [wrap_id (by omega) (by omega)]
 simp only [spec_l1In_eq, Option.bind_some]
 by_cases h : 0 ≤ i ∧ i < (p.length : Int)
 ·rw [decide_eq_true (show 0 ≤ i ∧ i ≤ (p.length : Int) - 1 by omega), if_pos h]
  simp only [if_true, h.1, show i ≤ (p.length : Int) by omega]
  refine Ev.bind (spec_l8Copy_eq _ ⟨by rw [List.length_drop]; omega, fun x hx => hp.2 x (List.mem_of_mem_drop hx)⟩) ?_
  refine Ev.bind (spec_l8Copy_eq _ ⟨by rw [List.length_take]; omega, fun x hx => hp.2 x (List.mem_of_mem_take hx)⟩) ?_
  refine Ev.ifp (by rw [List.length_drop, List.length_take]; omega) ?_
  exact Ev.now _
 ·rw [decide_eq_false (show ¬ (0 ≤ i ∧ i ≤ (p.length : Int) - 1) by omega), if_neg h]
  simp only [Bool.false_eq_true, if_false]
  refine Ev.bind (spec_l8Copy_eq p hp) ?_
  exact Ev.now _
theorem holds : ∀ (l0 : List S81) (a1 : Int), l0.length ≤ maxLen → (∀ x ∈ l0, wf81 x) → (Lit.int .i64 a1).wf = true → ∃ k, laws_FnExactRotatePlan.f k l0 a1 = some true := by
 intro p i hp hpw _
 apply Ev.rounds
 unfold laws_FnExactRotatePlan.f
 refine Ev.szp (laws_szPartS_eq p 1048576 hp (fun x hx => (hpw x hx).1.1) (by omega) (by omega)) (fun h1 => ?_) (fun _ => by exact Ev.now _)
 refine Ev.ifn (by omega) ?_
 have p1 : lsOk p := lsOk_of h1 (by omega)
 have p2 := psOk_conv p1
 have ep := partsSum_conv p
 have np := partsSum_nn (p.map convPart)
 have hS := spec_RotatePlan_eq (p.map convPart) i p2
 have hI := impl_RotatePlan_eq (p.map convPart) i p2
 have g2 := rotP_ok (i := i) p2
 have gs := rotP_sum (p.map convPart) i
 generalize rotP (p.map convPart) i = g at hS hI g2 gs
 refine Ev.bind (laws_toPartS_eq p p1) ?_
 refine Ev.bind hS ?_
 refine Ev.bind (laws_toPartS_eq p p1) ?_
 refine Ev.bind hI ?_
 refine Ev.bind (laws_eqPartS_self _ g2) ?_
 refine Ev.ifp rfl ?_
 refine Ev.bind (laws_toPartS_eq p p1) ?_
 refine Ev.bind (laws_eqPartS_self _ p2) ?_
 refine Ev.ifp rfl ?_
 refine Ev.bind (laws_markPartS_eq _ _ p2.1 p2.2 (by omega) (by omega)) ?_
 refine Ev.ifn (by omega) ?_
 refine Ev.bind (laws_eqPartS_self _ g2) ?_
 refine Ev.ifp rfl ?_
 refine Ev.bind (laws_markPartS_eq _ _ g2.1 g2.2 (by omega) (by omega)) ?_
 refine Ev.bind (laws_heldPartS_eq g 1 g2.1 g2.2 (by omega) (by omega)) ?_
 refine Ev.ifn (by omega) ?_
 refine Ev.ifp rfl ?_
 refine Ev.bind (laws_toPartS_eq p p1) ?_
 refine Ev.bind hI ?_
 refine Ev.bind (laws_eqPartS_self _ g2) ?_
 refine Ev.ifp rfl ?_
 refine Ev.bind (laws_heldPartS_eq g 1 g2.1 g2.2 (by omega) (by omega)) ?_
 refine Ev.ifn (by omega) ?_
 refine Ev.ifp rfl ?_
 exact Ev.now _
end Go.Proofs.Ytjgigmghcfdomaa.Pure.FnExactRotatePlan
