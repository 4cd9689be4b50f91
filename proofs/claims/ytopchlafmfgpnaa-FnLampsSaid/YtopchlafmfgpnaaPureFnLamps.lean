/- The law FnLamps of the given program, as a statement over numbers and lists alone, for all arguments; no conditions but the machine's own bounds. -/
import Derived.Test.YtopchlafmfgpnaaPFnLampsx
import Derived.Test.YtopchlafmfgpnaaBase
namespace Go.Proofs.Ytopchlafmfgpnaa.Pure.FnLamps
open Go.RowKit Go.Proofs.Ytopchlafmfgpnaa.PFnLamps Go.Proofs.YtopchlafmfgpnaaW.PrintWords Go.Proofs.YtopchlafmfgpnaaW.PrintLast Go.Proofs.Ytopchlafmfgpnaa.Bas
set_option linter.unusedVariables false
set_option linter.unusedSimpArgs false
theorem impl_InRange_eq (a lo hi : Int) : impl_InRange.f a lo hi = some (decide (lo ≤ a ∧ a ≤ hi)) := by
  unfold impl_InRange.f; grind
theorem rdT_Path (xs : List S52) (i : Nat) (h : i < xs.length) : rd_T52 xs (i : Int) = xs[i] := by simp [rd_T52, h]
theorem rdT_Lamp (xs : List S48) (i : Nat) (h : i < xs.length) : rd_T48 xs (i : Int) = xs[i] := by simp [rd_T48, h]
def isBroken (l : List S48) (p c : Int) : Bool := l.any fun x => decide (x.f0 = p ∧ x.f1 = c ∧ x.f2 = true)
theorem impl_IsBroken_eq (l : List S48) (p c : Int) (hl : l.length ≤ 1048576) : Ev (fun k => impl_IsBroken.f k l p c) (isBroken l p c) := by
  unfold impl_IsBroken.f impl_Lamp_69.f impl_Lamp_102.f isBroken
  have key : ∀ (d i : Nat), i + d = l.length → ∃ n : Int, Ev (fun k => impl_Lamp_102.l0 k l (l.length : Int) (i : Int) p c true) n ∧ ((decide (n ≥ 0)) = (l.drop i).any fun x => decide (x.f0 = p ∧ x.f1 = c ∧ x.f2 = true)) := by
    intro d
    induction d with
    | zero =>
      intro i hi
      refine ⟨-1, Ev.succ ?_, ?_⟩
      · simp only [impl_Lamp_102.l0, show ¬ (i : Int) < (l.length : Int) by omega, if_false]
        exact Ev.now _
      · simp [List.drop_eq_nil_of_le (show l.length ≤ i by omega)]
    | succ d ih =>
      intro i hi
      obtain ⟨n, hn, he⟩ := ih (i + 1) (by omega)
      rw [show ((i + 1 : Nat) : Int) = (i : Int) + 1 by omega] at hn
      rw [List.drop_eq_getElem_cons (by omega), List.any_cons]
      by_cases hc : l[i].f0 = p ∧ l[i].f1 = c ∧ l[i].f2 = true
      · refine ⟨(i : Int), Ev.succ ?_, ?_⟩
        · have hc' : (p == l[i].f0 && (c == l[i].f1 && (true == l[i].f2))) = true := by grind
          simp only [impl_Lamp_102.l0, show (i : Int) < (l.length : Int) by omega, show (0 : Int) ≤ (i : Int) by omega, if_true, rdT_Lamp _ _ (show i < l.length by omega), hc']
          exact Ev.now _
        · simp [hc]
      · refine ⟨n, Ev.succ ?_, ?_⟩
        · have hc' : (p == l[i].f0 && (c == l[i].f1 && (true == l[i].f2))) = false := by grind
          simp only [impl_Lamp_102.l0, show (i : Int) < (l.length : Int) by omega, show (0 : Int) ≤ (i : Int) by omega, if_true, if_false, Bool.false_eq_true, rdT_Lamp _ _ (show i < l.length by omega), hc', wrap_id (n := (i : Int) + 1) (by omega) (by omega)]
          exact hn
        · rw [decide_eq_false hc, Bool.false_or]; exact he
  obtain ⟨n, hn, he⟩ := key l.length 0 (by omega)
  simp only [List.drop_zero] at he
  rw [← he]
  exact Ev.bind (Ev.bind (by simpa using hn) (Ev.now _)) (Ev.now _)
theorem impl_IsPath_eq (a b c d : Int) : impl_IsPath.f a b c d = some (isPath a b c d) := by
  unfold impl_IsPath.f isPath
  simp only [impl_InRange_eq, Option.bind_some]; grind
def isP (p : S52) : Bool := isPath p.f0 p.f1 p.f2 p.f3
def okAt (l : List S52) (i : Nat) : Bool := isP (rd_T52 l (i : Int)) && (decide (i = 0) || decide ((rd_T52 l ((i : Int) - 1)).f0 < (rd_T52 l (i : Int)).f0))
def arePaths (l : List S52) : Bool := (List.range l.length).all (okAt l) && decide (l.length ≤ 12)
theorem arePaths_len {l : List S52} (h : arePaths l = true) : l.length ≤ 12 := by simp [arePaths] at h; exact h.2
theorem arePaths_at {l : List S52} (h : arePaths l = true) (i : Nat) (hi : i < l.length) : isP l[i] = true := by
  simp only [arePaths, Bool.and_eq_true, List.all_eq_true, List.mem_range] at h
  have := h.1 i hi
  simp only [okAt, Bool.and_eq_true, rdT_Path _ _ hi] at this
  exact this.1
theorem arePaths_asc {l : List S52} (h : arePaths l = true) (i : Nat) (hi : i + 1 < l.length) : (l[i]'(by omega)).f0 < l[i + 1].f0 := by
  simp only [arePaths, Bool.and_eq_true, List.all_eq_true, List.mem_range] at h
  have := h.1 (i + 1) hi
  simp only [okAt, Bool.and_eq_true, rdT_Path _ _ hi] at this
  rw [show ((i + 1 : Nat) : Int) - 1 = (i : Int) by omega, rdT_Path _ _ (by omega)] at this
  simpa using this.2
def findP (l : List S52) (id : Int) : Int := Go.Proofs.Ytopchlafmfgpnaa.Hnd.fidx (fun x : S52 => x.f0 == id) l 0
theorem findP_lo (l : List S52) (id : Int) : -1 ≤ findP l id := fidx_lo _ _
theorem findP_hi (l : List S52) (id : Int) : findP l id < l.length := fidx_hi _ _
theorem findP_at {l : List S52} {id : Int} (h : 0 ≤ findP l id) : ∃ (i : Nat) (hi : i < l.length), findP l id = (i : Int) ∧ l[i].f0 = id := by
  rcases fidx_cases (fun x : S52 => x.f0 == id) l 0 with ⟨h1, _⟩ | ⟨i, h1, h2, h3, _⟩
  · unfold findP at h; omega
  · exact ⟨i, h2, by unfold findP; omega, by simpa using h3⟩
theorem findP_none {l : List S52} {id : Int} (h : findP l id < 0) : ∀ x ∈ l, x.f0 ≠ id := by
  rcases fidx_cases (fun x : S52 => x.f0 == id) l 0 with ⟨_, h2⟩ | ⟨i, h1, _⟩
  · intro x hx; simpa using h2 x hx
  · unfold findP at h; omega
theorem impl_ArePaths_eq (l : List S52) (hl : l.length ≤ 1048576) : Ev (fun k => impl_ArePaths.f k l) (arePaths l) := by
  unfold impl_ArePaths.f arePaths
  by_cases h12 : l.length ≤ 12
  · simp only [show ¬ ((l.length : Int) > 12) by omega, if_false, decide_eq_true h12]
    refine evAnd (g := fun k i => impl_ArePaths.l0 k l l (l.length : Int) i) (fun i r h hP hr => ?_) (fun i h hP => ?_) ?_
    · refine Ev.succ ?_
      unfold okAt isP at hP
      rw [Bool.and_eq_true] at hP
      simp only [impl_ArePaths.l0, show (i : Int) < (l.length : Int) by omega, show (0 : Int) ≤ (i : Int) by omega, if_true, impl_IsPath_eq, Option.bind_some, hP.1, wrap_id (n := (i : Int) + 1) (by omega) (by omega)]
      by_cases h0 : i = 0
      · subst h0; simpa using hr
      · have h2 := hP.2
        rw [decide_eq_false h0, Bool.false_or, decide_eq_true_eq] at h2
        simp only [show (i : Int) > 0 by omega, if_true, wrap_id (n := (i : Int) - 1) (by omega) (by omega), show (0 : Int) ≤ (i : Int) - 1 by omega, show (i : Int) - 1 < (l.length : Int) by omega, show ¬ (rd_T52 l (i : Int)).f0 ≤ (rd_T52 l ((i : Int) - 1)).f0 by omega, if_false]
        exact hr
    · refine Ev.succ ?_
      unfold okAt isP at hP
      simp only [impl_ArePaths.l0, show (i : Int) < (l.length : Int) by omega, show (0 : Int) ≤ (i : Int) by omega, if_true, impl_IsPath_eq, Option.bind_some, wrap_id (n := (i : Int) + 1) (by omega) (by omega)]
      cases hp : isPath (rd_T52 l (i : Int)).f0 (rd_T52 l (i : Int)).f1 (rd_T52 l (i : Int)).f2 (rd_T52 l (i : Int)).f3
      · simp only [Bool.false_eq_true, if_false]; exact Ev.now _
      · rw [hp, Bool.true_and, Bool.or_eq_false_iff, decide_eq_false_iff_not, decide_eq_false_iff_not] at hP
        simp only [if_true, show (i : Int) > 0 by omega, wrap_id (n := (i : Int) - 1) (by omega) (by omega), show (0 : Int) ≤ (i : Int) - 1 by omega, show (i : Int) - 1 < (l.length : Int) by omega, show (rd_T52 l (i : Int)).f0 ≤ (rd_T52 l ((i : Int) - 1)).f0 by omega]
        exact Ev.now _
    · refine Ev.succ ?_
      simp only [impl_ArePaths.l0, Int.lt_irrefl, if_false]
      exact Ev.now _
  · simp only [show (l.length : Int) > 12 by omega, if_true, decide_eq_false h12, Bool.and_false]; exact Ev.now _
theorem impl_FindPath_eq (l : List S52) (id : Int) : impl_FindPath.f l id = some (findP l id) := rfl
def lampOk (l : List S52) (x : List S48) (i : Nat) : Bool := decide (0 ≤ findP l (rd_T48 x (i : Int)).f0) && decide (0 ≤ (rd_T48 x (i : Int)).f1 ∧ (rd_T48 x (i : Int)).f1 ≤ 1) &&
  (List.range i).all (fun (j : Nat) => !decide ((rd_T48 x (j : Int)).f0 = (rd_T48 x (i : Int)).f0 ∧ (rd_T48 x (j : Int)).f1 = (rd_T48 x (i : Int)).f1))
def areLamps (l : List S52) (x : List S48) : Bool := (List.range x.length).all (lampOk l x) && arePaths l
theorem impl_AreLamps_eq (l : List S52) (x : List S48) (hl : l.length ≤ 1048576) (hx : x.length ≤ 1048576) : Ev (fun k => impl_AreLamps.f k l x) (areLamps l x) := by
  unfold impl_AreLamps.f areLamps
  refine Ev.bind (impl_ArePaths_eq l hl) ?_
  cases ha : arePaths l
  · simp only [Bool.false_eq_true, if_false, Bool.and_false]; exact Ev.now _
  simp only [if_true, Bool.and_true]
  have inner : ∀ (i : Nat) (r : Bool), i < x.length → Ev (fun k => impl_AreLamps.l0 k l x x (x.length : Int) ((i : Int) + 1)) r → Ev (fun k => impl_AreLamps.l1 k l x x (x.length : Int) (i : Int) (x.take i) (((x.take i).length : Nat) : Int) 0 (rd_T48 x (i : Int)).f0 (rd_T48 x (i : Int)).f1 (rd_T48 x (i : Int)).f2) ((List.range i).all (fun (j : Nat) => !decide ((rd_T48 x (j : Int)).f0 = (rd_T48 x (i : Int)).f0 ∧ (rd_T48 x (j : Int)).f1 = (rd_T48 x (i : Int)).f1)) && r) := by
    intro i r hi hr
    have hlt : (x.take i).length = i := by simp; omega
    have hrd : ∀ j : Nat, j < i → rd_T48 (x.take i) (j : Int) = rd_T48 x (j : Int) := fun j hj => by rw [rdT_Lamp _ _ (by omega), rdT_Lamp _ _ (by omega)]; simp
    rw [hlt]
    refine evAnd (g := fun k j => impl_AreLamps.l1 k l x x (x.length : Int) (i : Int) (x.take i) (i : Int) j (rd_T48 x (i : Int)).f0 (rd_T48 x (i : Int)).f1 (rd_T48 x (i : Int)).f2) (fun j s h hP hs => ?_) (fun j h hP => ?_) ?_
    · refine Ev.succ ?_
      rw [Bool.not_eq_true', decide_eq_false_iff_not] at hP
      simp only [impl_AreLamps.l1, show (j : Int) < (i : Int) by omega, show (0 : Int) ≤ (j : Int) by omega, hlt, hrd j h, if_true, wrap_id (n := (j : Int) + 1) (by omega) (by omega)]
      by_cases e1 : (rd_T48 x (i : Int)).f0 = (rd_T48 x (j : Int)).f0
      · have e2 : ¬ (rd_T48 x (i : Int)).f1 = (rd_T48 x (j : Int)).f1 := fun e => hP ⟨e1.symm, e.symm⟩
        simp only [e1, e2, if_true, if_false] at hs ⊢; exact hs
      · simp only [e1, if_false]; exact hs
    · refine Ev.succ ?_
      rw [Bool.not_eq_false', decide_eq_true_eq] at hP
      simp only [impl_AreLamps.l1, show (j : Int) < (i : Int) by omega, show (0 : Int) ≤ (j : Int) by omega, hlt, hrd j h, if_true, hP.1, hP.2]
      exact Ev.now _
    · refine Ev.succ ?_
      simp only [impl_AreLamps.l1, Int.lt_irrefl, if_false, wrap_id (n := (i : Int) + 1) (by omega) (by omega)]
      exact hr
  have key : ∀ (d i : Nat), i + d = x.length → Ev (fun k => impl_AreLamps.l0 k l x x (x.length : Int) (i : Int)) ((List.range' i d).all (lampOk l x)) := by
    intro d
    induction d with
    | zero =>
      intro i hi
      refine Ev.succ ?_
      simp only [impl_AreLamps.l0, show ¬ (i : Int) < (x.length : Int) by omega, if_false]
      exact evq (Ev.now _) (by simp)
    | succ d ih =>
      intro i hi
      refine Ev.succ ?_
      have ihh := ih (i + 1) (by omega)
      rw [show ((i + 1 : Nat) : Int) = (i : Int) + 1 by omega] at ihh
      simp only [impl_AreLamps.l0, show (i : Int) < (x.length : Int) by omega, show (0 : Int) ≤ (i : Int) by omega, if_true, impl_FindPath_eq, Option.bind_some]
      have hj : ∀ b : Bool, Ev (fun k => impl_AreLamps.j1 k l x (i : Int) x (x.length : Int) (i : Int) b (rd_T48 x (i : Int)).f0 (rd_T48 x (i : Int)).f1 (rd_T48 x (i : Int)).f2) (!b && ((List.range i).all (fun (j : Nat) => !decide ((rd_T48 x (j : Int)).f0 = (rd_T48 x (i : Int)).f0 ∧ (rd_T48 x (j : Int)).f1 = (rd_T48 x (i : Int)).f1)) && (List.range' (i + 1) d).all (lampOk l x))) := by
        intro b
        refine Ev.succ ?_
        cases b
        · simp only [impl_AreLamps.j1, Bool.false_eq_true, if_false, Bool.not_false, Bool.true_and, show (0 : Int) ≤ (i : Int) by omega, show (i : Int) ≤ (x.length : Int) by omega, if_true, Int.toNat_natCast, Option.bind_some]
          exact inner i _ (by omega) ihh
        · simp only [impl_AreLamps.j1, if_true, Bool.not_true, Bool.false_and]; exact Ev.now _
      rw [List.range'_succ, List.all_cons]
      by_cases h1 : findP l (rd_T48 x (i : Int)).f0 < 0
      · simp only [h1, if_true]
        exact evq (hj true) (by simp [lampOk, show ¬ 0 ≤ findP l (rd_T48 x (i : Int)).f0 by omega])
      · simp only [h1, if_false]
        have hfin : ∀ b : Bool, b = decide (0 ≤ (rd_T48 x (i : Int)).f1 ∧ (rd_T48 x (i : Int)).f1 ≤ 1) → (!(!b) && ((List.range i).all (fun (j : Nat) => !decide ((rd_T48 x (j : Int)).f0 = (rd_T48 x (i : Int)).f0 ∧ (rd_T48 x (j : Int)).f1 = (rd_T48 x (i : Int)).f1)) && (List.range' (i + 1) d).all (lampOk l x))) = (lampOk l x i && (List.range' (i + 1) d).all (lampOk l x)) := by
          intro b hb
          unfold lampOk
          rw [decide_eq_true (show 0 ≤ findP l (rd_T48 x (i : Int)).f0 by omega), Bool.not_not, Bool.true_and, hb]
          simp only [Bool.and_assoc]
        by_cases h2 : (rd_T48 x (i : Int)).f1 = 0
        · simp only [h2, if_true]
          have := hj false
          simp only [h2] at this
          refine evq this ?_
          have := hfin true (by simp [h2])
          simpa [h2] using this
        · simp only [h2, if_false]
          refine evq (hj _) ?_
          rw [← hfin _ rfl]
          congr 1
          by_cases h3 : (rd_T48 x (i : Int)).f1 = 1
          · simp [h3]
          · have : ¬ (0 ≤ (rd_T48 x (i : Int)).f1 ∧ (rd_T48 x (i : Int)).f1 ≤ 1) := by omega
            rw [decide_eq_false this]; simp [h3]
  have := key x.length 0 (by omega)
  rwa [← List.range_eq_range'] at this
def seen (l : List S52) (x : List S48) (v : List Int) (i : Nat) : Int := if (rd v (i : Int) = 0 ∨ rd v (i : Int) = 1) ∧ isBroken x (rd_T52 l (i : Int)).f0 (rd v (i : Int)) = true then -1 else rd v (i : Int)
def visible (l : List S52) (x : List S48) (v : List Int) : List Int := if v.length = l.length then (List.range l.length).map (seen l x v) else []
theorem visible_le (l : List S52) (x : List S48) (v : List Int) : (visible l x v).length ≤ l.length := by unfold visible; split <;> simp
theorem impl_Visible_eq (l : List S52) (x : List S48) (v : List Int) (hl : l.length ≤ 1048576) (hx : x.length ≤ 1048576) : Ev (fun k => impl_Visible.f k l x v) (visible l x v) := by
  unfold impl_Visible.f visible
  simp only [Option.bind_some]
  by_cases hv : v.length = l.length
  · simp only [show (v.length : Int) = (l.length : Int) by omega, hv, if_true]
    have key : ∀ (d i : Nat), i + d = l.length → Ev (fun k => impl_Visible.l0 k x v ((List.range i).map (seen l x v)) l (l.length : Int) (i : Int)) ((List.range l.length).map (seen l x v)) := by
      intro d
      induction d with
      | zero =>
        intro i hi
        refine Ev.succ ?_
        simp only [impl_Visible.l0, show ¬ (i : Int) < (l.length : Int) by omega, if_false]
        exact evq (Ev.now _) (by rw [show i = l.length by omega])
      | succ d ih =>
        intro i hi
        refine Ev.succ ?_
        have ihh := ih (i + 1) (by omega)
        rw [show ((i + 1 : Nat) : Int) = (i : Int) + 1 by omega, List.range_succ, List.map_append] at ihh
        simp only [List.map_cons, List.map_nil, seen] at ihh
        simp only [impl_Visible.l0, show (i : Int) < (l.length : Int) by omega, show (i : Int) < (v.length : Int) by omega, show (0 : Int) ≤ (i : Int) by omega, if_true, List.length_map, List.length_range, show i < 17592186044416 by omega, wrap_id (n := (i : Int) + 1) (by omega) (by omega)]
        by_cases h0 : rd v (i : Int) = 0
        · simp only [h0, if_true] at ihh ⊢
          refine Ev.bind (impl_IsBroken_eq _ _ _ hx) ?_
          cases hb : isBroken x (rd_T52 l (i : Int)).f0 0 <;> simp [hb] at ihh ⊢ <;> exact ihh
        · by_cases h1 : rd v (i : Int) = 1
          · simp only [h1, if_true, show ¬ ((1 : Int) = 0) by omega, if_false] at ihh ⊢
            refine Ev.bind (impl_IsBroken_eq _ _ _ hx) ?_
            cases hb : isBroken x (rd_T52 l (i : Int)).f0 1 <;> simp [hb] at ihh ⊢ <;> exact ihh
          · simp only [h0, h1, if_false, false_or, or_self, false_and] at ihh ⊢; exact ihh
    exact key l.length 0 (by omega)
  · simp only [show ¬ (v.length : Int) = (l.length : Int) by omega, hv, if_false]; exact Ev.now _
theorem spec_l1New_ok (l : List Int) (hl : l.length ≤ 1048576) : EvP (fun k => spec_l1New.f k l) (fun t => t.1 = l ∧ Cur t.1 t.2.1) := by
  unfold spec_l1New.f
  have key : ∀ (d i : Nat) (h : Int), i + d = l.length → EvP (fun k => spec_l1New.l0 k l h (i : Int)) (fun t => t.1 = l ∧ Cur t.1 t.2.1) := by
    intro d
    induction d with
    | zero =>
      intro i h hi
      refine EvP.succ ?_
      simp only [spec_l1New.l0, show ¬ (i : Int) < (l.length : Int) by omega, if_false]
      exact EvP.now ⟨rfl, Int.le_refl _, by show (0 : Int) ≤ (l.length : Int); omega, hl⟩
    | succ d ih =>
      intro i h hi
      refine EvP.succ ?_
      simp only [spec_l1New.l0, show (i : Int) < (l.length : Int) by omega, show (0 : Int) ≤ (i : Int) by omega, if_true, wrap_id (n := (i : Int) + 1) (by omega) (by omega)]
      refine EvP.ifd (fun _ => ?_) (fun _ => EvP.now ⟨rfl, Int.le_refl _, by show (0 : Int) ≤ (l.length : Int); omega, hl⟩)
      have := ih (i + 1) (Go.bits .and .i64 (wrap64 ((wrap64 ((wrap64 (h * 137)) + (wrap64 (rd l i)))) + 11)) 1073741823) (by omega)
      simpa using this
  exact key l.length 0 _ (by omega)
theorem spec_l1Byte_ok (b : List Int) (i h : Int) (hc : Cur b i) : DrP (spec_l1Byte.f b i h) (fun t => 0 ≤ t.1 ∧ t.1 < 256 ∧ Cur b t.2.1) := by
  unfold spec_l1Byte.f
  obtain ⟨h0, h1, h2⟩ := hc
  by_cases hi : i < (b.length : Int)
  · rw [if_pos hi, if_pos h0]
    refine DrP.now ⟨(and255 _).1, (and255 _).2, ?_⟩
    simp only [wrap_id (n := i + 1) (by omega) (by omega)]
    unfold Cur; omega
  · rw [if_neg hi]
    exact DrP.now ⟨(and255 _).1, (and255 _).2, h0, h1, h2⟩
theorem spec_l1Below_ok (b : List Int) (i h n : Int) (hc : Cur b i) : DrP (spec_l1Below.f b i h n) (fun t => (n ≤ 0 → t.1 = 0) ∧ (0 < n → 0 ≤ t.1 ∧ t.1 < n) ∧ Cur b t.2.1) := by
  unfold spec_l1Below.f
  by_cases h0 : n ≤ 0
  · rw [if_pos h0]; exact DrP.now ⟨fun _ => rfl, fun h => absurd h (by omega), hc⟩
  rw [if_neg h0]
  have hm : ∀ x : Int, 0 ≤ x → 0 ≤ Int.tmod x n ∧ Int.tmod x n < n := fun x hx => by rw [tmod_nn hx]; exact ⟨Int.emod_nonneg _ (by omega), Int.emod_lt_of_pos _ (by omega)⟩
  by_cases h1 : n ≤ 256
  · rw [if_pos h1]
    refine DrP.bind (spec_l1Byte_ok b i h hc) (fun t ht => ?_)
    rw [if_neg (by omega)]
    exact DrP.now ⟨fun h => absurd h h0, fun _ => hm _ ht.1, ht.2.2⟩
  · rw [if_neg h1]
    refine DrP.bind (spec_l1Byte_ok b i h hc) (fun t ht => ?_)
    refine DrP.bind (spec_l1Byte_ok b _ _ ht.2.2) (fun u hu => ?_)
    refine DrP.bind (spec_l1Byte_ok b _ _ hu.2.2) (fun v hv => ?_)
    rw [if_neg (by omega)]
    refine DrP.now ⟨fun h => absurd h h0, fun _ => hm _ ?_, hv.2.2⟩
    obtain ⟨t1, t2, _⟩ := ht
    obtain ⟨u1, u2, _⟩ := hu
    obtain ⟨v1, v2, _⟩ := hv
    rw [wrap_id (n := t.1 * 65536) (by omega) (by omega), wrap_id (n := u.1 * 256) (by omega) (by omega), wrap_id (n := t.1 * 65536 + u.1 * 256) (by omega) (by omega), wrap_id (by omega) (by omega)]
    omega
theorem spec_l1Once_ok (b : List Int) (i h n : Int) (hc : Cur b i) : DrP (spec_l1Once.f b i h n) (fun t => Cur b t.2.1) := by
  unfold spec_l1Once.f
  refine DrP.bind (spec_l1Below_ok b i h n hc) (fun t ht => ?_)
  exact DrP.now ht.2.2
theorem spec_l1Int_ok (b : List Int) (i h : Int) (l : List Int) (lo hi : Int) (hc : Cur b i) (hne : l.length ≠ 0) (hb : ∀ x ∈ l, lo ≤ x ∧ x ≤ hi) : DrP (spec_l1Int.f b i h l) (fun t => lo ≤ t.1 ∧ t.1 ≤ hi ∧ Cur b t.2.1) := by
  unfold spec_l1Int.f
  refine DrP.bind (spec_l1Below_ok b i h _ hc) (fun t ht => ?_)
  obtain ⟨h1, h2⟩ := ht.2.1 (by omega)
  rw [if_pos h1, if_pos h2]
  refine DrP.now ?_
  have : rd l t.1 ∈ l := by
    obtain ⟨n, hn⟩ := Int.eq_ofNat_of_zero_le h1
    rw [hn, rd_nat _ _ (by omega)]
    exact List.getElem_mem _
  have := hb _ this
  exact ⟨this.1, this.2, ht.2.2⟩
theorem spec_l1Int_cur (b : List Int) (i h : Int) (l : List Int) (hc : Cur b i) (hne : l.length ≠ 0) : DrP (spec_l1Int.f b i h l) (fun t => Cur b t.2.1) := by
  unfold spec_l1Int.f
  refine DrP.bind (spec_l1Below_ok b i h _ hc) (fun t ht => ?_)
  obtain ⟨h1, h2⟩ := ht.2.1 (by omega)
  rw [if_pos h1, if_pos h2]
  exact DrP.now ht.2.2
theorem spec_l4Raw_ok (b : List Int) (i h : Int) (hc : Cur b i) : DrP (spec_l4Raw.f b i h) (fun t => I64 t.1 ∧ Cur b t.2.1) := by
  unfold spec_l4Raw.f
  refine DrP.bind (spec_l1Int_ok b i h _ (-9223372036854775808) 9223372036854775807 hc (by simp) (by decide)) (fun t ht => ?_)
  exact DrP.now ⟨⟨ht.1, ht.2.1⟩, ht.2.2⟩
theorem laws_big_eq (l : List Int) : laws_big.f l = some (decide ((l.length : Int) > 1048576)) := by unfold laws_big.f; rfl
theorem spec_l4Draw_ok (b : List Int) (i h a : Int) (hc : Cur b i) : DrP (spec_l4Draw.f b i h a) (fun t => Cur b t.2.2.2.2.1) := by
  unfold spec_l4Draw.f
  refine DrP.bind (spec_l1Below_ok b i h _ hc) (fun t1 h1 => ?_)
  refine DrP.bind (spec_l1Below_ok b _ _ _ h1.2.2) (fun t2 h2 => ?_)
  split
  · exact DrP.now h2.2.2
  · exact DrP.bind (spec_l1Below_ok b _ _ _ h2.2.2) (fun t3 h3 => DrP.now h3.2.2)
theorem spec_l5Draw_ok (b : List Int) (i h : Int) (hc : Cur b i) : EvP (fun k => spec_l5Draw.f k b i h) (fun t => 1 ≤ t.1.length ∧ t.1.length ≤ 7 ∧ Cur b t.2.1) := by
  unfold spec_l5Draw.f
  have key : ∀ (d : Nat) (n : Nat) (xs : List S52) (i h : Int), Cur b i → xs.length = n → n + d = 7 → EvP (fun k => spec_l5Draw.l0 k xs ((n : Int) + 1) b i h) (fun t => 1 ≤ t.1.length ∧ t.1.length ≤ 7 ∧ Cur b t.2.1) := by
    intro d
    induction d with
    | zero =>
      intro n xs i h hc hn hd
      refine EvP.succ ?_
      simp only [spec_l5Draw.l0]
      refine EvP.bindD (spec_l1Below_ok b i h _ hc) (fun t1 h1 => ?_)
      have h2 := h1.2.1 (by omega)
      simp only [wrap_id (n := 2 + t1.1) (by omega) (by omega), show ¬ (n : Int) + 1 ≤ 2 + t1.1 by omega, if_false]
      exact EvP.now ⟨by show 1 ≤ xs.length; omega, by show xs.length ≤ 7; omega, h1.2.2⟩
    | succ d ih =>
      intro n xs i h hc hn hd
      refine EvP.succ ?_
      simp only [spec_l5Draw.l0]
      refine EvP.bindD (spec_l1Below_ok b i h _ hc) (fun t1 h1 => ?_)
      have h2 := h1.2.1 (by omega)
      simp only [wrap_id (n := 2 + t1.1) (by omega) (by omega), wrap_id (n := (n : Int) + 1 + 1) (by omega) (by omega), show xs.length < 4398046511104 by omega, if_true]
      refine EvP.ifd (fun _ => ?_) (fun h3 => EvP.now ⟨by show 1 ≤ xs.length; omega, by show xs.length ≤ 7; omega, h1.2.2⟩)
      refine EvP.bindD (spec_l4Draw_ok b _ _ _ h1.2.2) (fun t2 h4 => ?_)
      have := ih (n + 1) (xs ++ [⟨t2.1, t2.2.1, t2.2.2.1, t2.2.2.2.1⟩]) t2.2.2.2.2.1 t2.2.2.2.2.2 h4 (by rw [List.length_append, List.length_singleton]; omega) (by omega)
      rw [show ((n + 1 : Nat) : Int) + 1 = (n : Int) + 1 + 1 by omega] at this
      exact this
  exact key 7 0 [] i h hc rfl rfl
theorem spec_l4Any_ok (b : List Int) (i h : Int) (hc : Cur b i) : DrP (spec_l4Any.f b i h) (fun t => Cur b t.2.2.2.2.1) := by
  unfold spec_l4Any.f
  refine DrP.bind (spec_l1Below_ok b i h _ hc) (fun t1 h1 => ?_)
  refine DrP.bind (spec_l4Draw_ok b _ _ _ h1.2.2) (fun t2 h2 => ?_)
  refine DrP.bind (spec_l1Below_ok b _ _ _ h2) (fun t3 h3 => ?_)
  split
  · exact DrP.bind (spec_l1Int_ok b _ _ _ (-9223372036854775808) 9223372036854775807 h3.2.2 (by simp) (by decide)) (fun t4 h4 => DrP.now h4.2.2)
  split
  · exact DrP.bind (spec_l1Int_ok b _ _ _ (-9223372036854775808) 9223372036854775807 h3.2.2 (by simp) (by decide)) (fun t4 h4 => DrP.now h4.2.2)
  split
  · exact DrP.bind (spec_l4Raw_ok b _ _ h3.2.2) (fun t4 h4 => DrP.now h4.2)
  split
  · exact DrP.bind (spec_l4Raw_ok b _ _ h3.2.2) (fun t4 h4 => DrP.now h4.2)
  · exact DrP.now h3.2.2
theorem spec_l5Any_ok (b : List Int) (i h : Int) (hc : Cur b i) : EvP (fun k => spec_l5Any.f k b i h) (fun t => t.1.length ≤ 7 ∧ Cur b t.2.1) := by
  unfold spec_l5Any.f
  refine EvP.bind (spec_l5Draw_ok b i h hc) (fun t1 h1 => ?_)
  refine EvP.bindD (spec_l1Once_ok b _ _ _ h1.2.2) (fun t2 h2 => ?_)
  refine EvP.ifd (fun _ => ?_) (fun _ => EvP.now ⟨h1.2.1, h2⟩)
  refine EvP.bindD (spec_l1Below_ok b _ _ _ h2) (fun t3 h3 => ?_)
  refine EvP.bindD (spec_l4Any_ok b _ _ h3.2.2) (fun t4 h4 => ?_)
  have h5 := h3.2.1 (by omega)
  simp only [h5.1, h5.2, if_true]
  exact EvP.now ⟨by rw [List.length_set]; exact h1.2.1, h4⟩
theorem spec_l19Lamps_ok (b : List Int) (i h : Int) (l : List S52) (r : Int) (hc : Cur b i) (hl : l.length ≤ 7) : EvP (fun k => spec_l19Lamps.f k b i h l r) (fun t => t.1.length ≤ 14 ∧ Cur b t.2.1) := by
  unfold spec_l19Lamps.f
  have key : ∀ (d n : Nat) (xs : List S48) (i h : Int), Cur b i → xs.length ≤ 2 * n → n + d = l.length → EvP (fun k => spec_l19Lamps.l0 k l r xs (n : Int) b i h) (fun t => t.1.length ≤ 14 ∧ Cur b t.2.1) := by
    intro d
    induction d with
    | zero =>
      intro n xs i h hc hx hd
      refine EvP.succ ?_
      simp only [spec_l19Lamps.l0, show ¬ (n : Int) < (l.length : Int) by omega, if_false]
      exact EvP.now ⟨by show xs.length ≤ 14; omega, hc⟩
    | succ d ih =>
      intro n xs i h hc hx hd
      refine EvP.succ ?_
      simp only [spec_l19Lamps.l0, show (n : Int) < (l.length : Int) by omega, if_true]
      have inner : ∀ (e j : Nat) (xs : List S48) (i h : Int), Cur b i → xs.length ≤ 2 * n + j → j + e = 2 → EvP (fun k => spec_l19Lamps.l1 k l r xs (n : Int) (j : Int) b i h) (fun t => t.1.length ≤ 14 ∧ Cur b t.2.1) := by
        intro e
        induction e with
        | zero =>
          intro j xs i h hc hx he
          refine EvP.succ ?_
          simp only [spec_l19Lamps.l1, show ¬ (j : Int) < 2 by omega, if_false, wrap_id (n := (n : Int) + 1) (by omega) (by omega)]
          exact ih (n + 1) xs i h hc (by omega) (by omega)
        | succ e ihe =>
          intro j xs i h hc hx he
          refine EvP.succ ?_
          simp only [spec_l19Lamps.l1, show (j : Int) < 2 by omega, show (0 : Int) ≤ (n : Int) by omega, show (n : Int) < (l.length : Int) by omega, if_true, wrap_id (n := (j : Int) + 1) (by omega) (by omega), show xs.length < 5864062014805 by omega]
          refine EvP.bindD (spec_l1Once_ok b _ _ _ hc) (fun t1 h1 => ?_)
          refine EvP.ifd (fun _ => ?_) (fun _ => ?_)
          · exact ihe (j + 1) xs _ _ h1 (by omega) (by omega)
          · refine EvP.bindD (spec_l1Once_ok b _ _ _ h1) (fun t2 h2 => ?_)
            exact ihe (j + 1) (xs ++ [⟨(rd_T52 l (n : Int)).f0, (j : Int), t2.1⟩]) _ _ h2 (by rw [List.length_append, List.length_singleton]; omega) (by omega)
      exact inner 2 0 xs i h hc (by omega) rfl
  exact key l.length 0 [] i h hc (Nat.le_refl _) (by omega)
theorem spec_l19Any_ok (b : List Int) (i h : Int) (hc : Cur b i) : EvP (fun k => spec_l19Any.f k b i h) (fun t => t.1.length ≤ 7 ∧ t.2.1.length ≤ 15 ∧ Cur b t.2.2.1) := by
  unfold spec_l19Any.f
  refine EvP.bind (spec_l5Any_ok b i h hc) (fun t1 h1 => ?_)
  refine EvP.bind (spec_l19Lamps_ok b _ _ _ _ h1.2 h1.1) (fun t2 h2 => ?_)
  have h3 := h2.1
  refine EvP.ifd (fun hp => ?_) (fun _ => EvP.now ⟨h1.1, by show t2.1.length ≤ 15; omega, h2.2⟩)
  simp only [show (0 : Int) < (t2.1.length : Int) by omega, if_true, show t2.1.length < 5864062014805 by omega]
  refine EvP.bindD (spec_l1Below_ok b _ _ _ h2.2) (fun t4 h4 => ?_)
  refine EvP.ifd (fun _ => ?_) (fun _ => ?_)
  · refine EvP.bindD (spec_l1Below_ok b _ _ _ h4.2.2) (fun t5 h5 => ?_)
    exact EvP.now ⟨h1.1, by rw [List.length_set]; omega, h5.2.2⟩
  refine EvP.ifd (fun _ => ?_) (fun _ => ?_)
  · refine EvP.bindD (spec_l1Int_ok b _ _ _ (-9223372036854775808) 9223372036854775807 h4.2.2 (by simp) (by decide)) (fun t5 h5 => ?_)
    exact EvP.now ⟨h1.1, by rw [List.length_set]; omega, h5.2.2⟩
  refine EvP.ifd (fun _ => ?_) (fun _ => ?_)
  · exact EvP.now ⟨h1.1, by rw [List.length_append, List.length_singleton]; omega, h4.2.2⟩
  · exact EvP.now ⟨h1.1, by show t2.1.length ≤ 15; omega, h4.2.2⟩
theorem spec_DrawAreLamps_ok (l : List Int) (hl : l.length ≤ 1048576) : EvP (fun k => spec_DrawAreLamps.f k l) (fun t => t.1.length ≤ 7 ∧ t.2.length ≤ 15) := by
  unfold spec_DrawAreLamps.f
  refine EvP.bind (spec_l1New_ok l hl) (fun t ht => ?_)
  refine EvP.bind (spec_l19Any_ok _ _ _ ht.2) (fun t1 h1 => ?_)
  exact EvP.now ⟨h1.1, h1.2.1⟩
theorem spec_DrawModeFor_ok (l : List Int) (hl : l.length ≤ 1048576) : EvP (fun k => spec_DrawModeFor.f k l) (fun t => t.1.length ≤ 7 ∧ t.2.1.length ≤ 15) := by
  unfold spec_DrawModeFor.f
  refine EvP.bind (spec_DrawAreLamps_ok l hl) (fun t1 h1 => ?_)
  refine EvP.bind (spec_l1New_ok l hl) (fun t ht => ?_)
  refine EvP.bindD (spec_l1Once_ok _ _ _ _ ht.2) (fun t2 h2 => ?_)
  exact EvP.now h1
theorem spec_DrawVisible_ok (l : List Int) (hl : l.length ≤ 1048576) : EvP (fun k => spec_DrawVisible.f k l) (fun t => t.1.length ≤ 7 ∧ t.2.1.length ≤ 15) := by
  unfold spec_DrawVisible.f
  refine EvP.bind (spec_l1New_ok l hl) (fun t ht => ?_)
  refine EvP.bind (spec_l19Any_ok _ _ _ ht.2) (fun t1 h1 => ?_)
  have key : ∀ (d n : Nat) (xs : List Int) (i h : Int), Cur t.1 i → xs.length = n → n + d = t1.1.length → EvP (fun k => spec_DrawVisible.l0 k t1.1 t1.2.1 xs (n : Int) t.1 i h) (fun t => t.1.length ≤ 7 ∧ t.2.1.length ≤ 15) := by
    intro d
    induction d with
    | zero =>
      intro n xs i h hc hx hd
      refine EvP.succ ?_
      have := h1.1
      simp only [spec_DrawVisible.l0, show ¬ (n : Int) < (t1.1.length : Int) by omega, if_false, show xs.length < 17592186044416 by omega, if_true]
      refine EvP.bindD (spec_l1Once_ok _ _ _ _ hc) (fun t2 h2 => ?_)
      exact EvP.ifd (fun _ => EvP.now ⟨h1.1, h1.2.1⟩) (fun _ => EvP.now ⟨h1.1, h1.2.1⟩)
    | succ d ih =>
      intro n xs i h hc hx hd
      refine EvP.succ ?_
      have := h1.1
      simp only [spec_DrawVisible.l0, show (n : Int) < (t1.1.length : Int) by omega, if_true, show xs.length < 17592186044416 by omega, wrap_id (n := (n : Int) + 1) (by omega) (by omega)]
      refine EvP.bindD (spec_l1Below_ok _ _ _ _ hc) (fun t2 h2 => ?_)
      exact ih (n + 1) (xs ++ [t2.1]) _ _ h2.2.2 (by rw [List.length_append, List.length_singleton]; omega) (by omega)
  exact key t1.1.length 0 [] _ _ h1.2.2 rfl (by omega)
theorem spec_DrawMendLamp_ok (l : List Int) (hl : l.length ≤ 1048576) : EvP (fun k => spec_DrawMendLamp.f k l) (fun t => t.1.length ≤ 15) := by
  unfold spec_DrawMendLamp.f spec_DrawIsBroken.f
  refine EvP.bind (P := fun t => t.1.length ≤ 15) ?_ (fun t ht => EvP.now ht)
  refine EvP.bind (spec_DrawAreLamps_ok l hl) (fun t1 h1 => ?_)
  refine EvP.bind (spec_l1New_ok l hl) (fun t ht => ?_)
  refine EvP.bindD (spec_l1Below_ok _ _ _ _ ht.2) (fun t2 h2 => ?_)
  refine EvP.bindD (spec_l1Below_ok _ _ _ _ h2.2.2) (fun t3 h3 => ?_)
  exact EvP.now h1.2
theorem fidx_any {α : Type} (p : α → Bool) : ∀ (l : List α) (n : Nat), decide (0 ≤ Go.Proofs.Ytopchlafmfgpnaa.Hnd.fidx p l n) = l.any p
  | [], n => by simp [Go.Proofs.Ytopchlafmfgpnaa.Hnd.fidx]
  | x :: xs, n => by
    rw [List.any_cons]
    show decide (0 ≤ (if p x = true then (n : Int) else Go.Proofs.Ytopchlafmfgpnaa.Hnd.fidx p xs (n + 1))) = _
    cases h : p x
    · simpa using fidx_any p xs (n + 1)
    · simp
def redDown (x : List S48) : Bool := x.any (fun x => x.f1 == 0 && x.f2)
def modeFor (l : List S52) (x : List S48) (p : Bool) : Int := if p then (if areLamps l x then (if redDown x then 1 else 0) else 1) else 2
theorem impl_ModeFor_eq (l : List S52) (x : List S48) (p : Bool) (hl : l.length ≤ 1048576) (hx : x.length ≤ 1048576) : Ev (fun k => impl_ModeFor.f k l x p) (modeFor l x p) := by
  unfold impl_ModeFor.f modeFor
  cases p
  · exact Ev.now _
  · simp only [if_true]
    refine Ev.bind (impl_AreLamps_eq l x hl hx) ?_
    cases areLamps l x
    · exact Ev.now _
    · simp only [if_true, impl_Lamp_67.f, Option.bind_some, fidx_any]
      show Ev _ (if redDown x then 1 else 0)
      unfold redDown
      cases (x.any (fun x => x.f1 == 0 && x.f2))
      · exact Ev.now _
      · exact Ev.now _
theorem map_step {α : Type} (f : α → α) (x : List α) (i : Nat) (h : i < x.length) : (x.set i (f x[i])).take (i + 1) ++ ((x.set i (f x[i])).drop (i + 1)).map f = x.take i ++ (x.drop i).map f := by
  have e : x.set i (f x[i]) = x.take i ++ f x[i] :: x.drop (i + 1) := by
    rw [List.set_eq_take_append_cons_drop, if_pos h]
  have el : (x.take i).length = i := by rw [List.length_take]; omega
  rw [e, List.drop_eq_getElem_cons h, List.map_cons]
  have e1 : (x.take i ++ f x[i] :: x.drop (i + 1)).take (i + 1) = x.take i ++ [f x[i]] := by
    rw [List.take_append, el, List.take_of_length_le (by omega), show i + 1 - i = 1 by omega]; simp
  have e2 : (x.take i ++ f x[i] :: x.drop (i + 1)).drop (i + 1) = x.drop (i + 1) := by
    rw [List.drop_append, el, List.drop_eq_nil_of_le (by omega), show i + 1 - i = 1 by omega]; simp
  rw [e1, e2]; simp
theorem map_keep {α : Type} (f : α → α) (x : List α) (i : Nat) (h : i < x.length) (hf : f x[i] = x[i]) : x.take (i + 1) ++ (x.drop (i + 1)).map f = x.take i ++ (x.drop i).map f := by
  have := map_step f x i h
  rwa [hf, List.set_getElem_self] at this
def mend (p c : Int) (a : S48) : S48 := if a.f0 = p ∧ a.f1 = c then ⟨a.f0, a.f1, false⟩ else a
theorem impl_MendLamp_eq (x : List S48) (p c : Int) (hx : x.length ≤ 1048576) : Ev (fun k => impl_MendLamp.f k x p c) (x.map (mend p c)) := by
  unfold impl_MendLamp.f
  simp only [impl_Lamp_73.f, show x.length < 5864062014805 by omega, if_true, Option.bind_some]
  have key : ∀ (d i : Nat) (y : List S48), y.length ≤ 1048576 → i + d = y.length → Ev (fun k => impl_MendLamp.l0 k p c y (y.length : Int) (i : Int)) (y.take i ++ (y.drop i).map (mend p c)) := by
    intro d
    induction d with
    | zero =>
      intro i y hy hi
      refine Ev.succ ?_
      simp only [impl_MendLamp.l0, show ¬ (i : Int) < (y.length : Int) by omega, if_false]
      refine evq (Ev.now _) ?_
      rw [List.drop_eq_nil_of_le (show y.length ≤ i by omega), List.take_of_length_le (show y.length ≤ i by omega)]; simp
    | succ d ih =>
      intro i y hy hi
      refine Ev.succ ?_
      simp only [impl_MendLamp.l0, show (i : Int) < (y.length : Int) by omega, show (0 : Int) ≤ (i : Int) by omega, if_true, rdT_Lamp _ _ (show i < y.length by omega), wrap_id (n := (i : Int) + 1) (by omega) (by omega), Int.toNat_natCast]
      have hi2 : i < y.length := by omega
      by_cases h1 : y[i].f0 = p
      · by_cases h2 : y[i].f1 = c
        · have hm : mend p c y[i] = ⟨y[i].f0, y[i].f1, false⟩ := by unfold mend; rw [if_pos ⟨h1, h2⟩]
          have := ih (i + 1) (y.set i (mend p c y[i])) (by rw [List.length_set]; omega) (by rw [List.length_set]; omega)
          rw [map_step _ _ _ hi2, List.length_set, hm, h1, h2] at this
          simp only [h1, h2, if_true]
          simpa using this
        · have hm : mend p c y[i] = y[i] := by unfold mend; rw [if_neg (fun h => h2 h.2)]
          have := ih (i + 1) y hy (by omega)
          rw [map_keep _ _ _ hi2 hm] at this
          simp only [h1, h2, if_true, if_false]
          simpa using this
      · have hm : mend p c y[i] = y[i] := by unfold mend; rw [if_neg (fun h => h1 h.1)]
        have := ih (i + 1) y hy (by omega)
        rw [map_keep _ _ _ hi2 hm] at this
        simp only [h1, if_false]
        simpa using this
  simpa using key x.length 0 x hx (by omega)
theorem mended (p c : Int) (x : List S48) : isBroken (x.map (mend p c)) p c = false := by
  unfold isBroken
  rw [List.any_map, List.any_eq_false]
  intro a _
  simp only [Function.comp_apply, decide_eq_true_eq, mend]
  split <;> simp_all
theorem full_red {x : List S48} (h : redDown x = false) (p : Int) : isBroken x p 0 = false := by
  unfold redDown at h
  unfold isBroken
  rw [List.any_eq_false] at h ⊢
  intro a ha
  have := h a ha
  simp only [decide_eq_true_eq, Bool.and_eq_true, beq_iff_eq] at this ⊢
  exact fun ⟨_, h2, h3⟩ => this ⟨h2, h3⟩
theorem impl_ModeName_ne (n : Int) (h : n = 0 ∨ n = 1 ∨ n = 2) : ∃ b : ByteArray, impl_ModeName.f n = some b ∧ b.toList ≠ [] := by
  rcases h with e | e | e <;> rw [e]
  · exact ⟨⟨#[102, 117, 108, 108]⟩, by simp [impl_ModeName.f], by simp [ByteArray.toList, ByteArray.toList.loop, ByteArray.size]⟩
  · exact ⟨⟨#[98, 108, 105, 110, 107]⟩, by simp [impl_ModeName.f], by simp [ByteArray.toList, ByteArray.toList.loop, ByteArray.size]⟩
  · exact ⟨⟨#[100, 97, 114, 107]⟩, by simp [impl_ModeName.f], by simp [ByteArray.toList, ByteArray.toList.loop, ByteArray.size]⟩
theorem seen_at (l : List S52) (x : List S48) (v : List Int) (hv : v.length = l.length) (i : Nat) (hi : i < l.length) : rd (visible l x v) (i : Int) = seen l x v i := by
  unfold visible
  rw [if_pos hv, rd_nat _ _ (by simp; exact hi)]
  simp
theorem visible_len (l : List S52) (x : List S48) (v : List Int) : ((visible l x v).length = l.length ∧ v.length = l.length) ∨ (visible l x v).length = 0 := by
  unfold visible; split
  · rename_i h; exact .inl ⟨by simp, h⟩
  · exact .inr rfl
theorem lamps3 (l : List Int) (hl : l.length ≤ 1048576) (a : List S52) (b : List S48) (c : List Int) (ha : a.length ≤ 7) (hb : b.length ≤ 15) : ∀ (d i : Nat), i + d = (visible a b c).length → Ev (fun k => laws_FnLamps.l1 k l a b c (visible a b c) (i : Int)) true := by
  have hvl := visible_len a b c
  intro d
  induction d with
  | zero =>
    intro i hi
    refine Ev.succ ?_
    simp only [laws_FnLamps.l1, show ¬ (i : Int) < ((visible a b c).length : Int) by omega, if_false]
    refine Ev.bindP (spec_DrawMendLamp_ok l hl) (fun t ht => ?_)
    refine Ev.bind (impl_MendLamp_eq _ _ _ (by omega)) ?_
    simp only [List.length_map, if_true]
    refine Ev.bind (impl_IsBroken_eq _ _ _ (by rw [List.length_map]; omega)) ?_
    simp only [mended, Bool.false_eq_true, if_false]
    rcases hvl with ⟨h1, _⟩ | h1
    · simp only [h1, if_true]; exact Ev.now _
    · rw [h1]
      exact Ev.ifd (fun _ => Ev.now _) (fun _ => Ev.now _)
  | succ d ih =>
    intro i hi
    have ihh := ih (i + 1) (by omega)
    rw [show ((i + 1 : Nat) : Int) = (i : Int) + 1 by omega] at ihh
    rcases hvl with ⟨h1, h2⟩ | h1
    · refine Ev.succ ?_
      have hi2 : i < a.length := by omega
      simp only [laws_FnLamps.l1, show (i : Int) < ((visible a b c).length : Int) by omega, show (0 : Int) ≤ (i : Int) by omega, show (i : Int) < (c.length : Int) by omega, show (i : Int) < (a.length : Int) by omega, if_true, wrap_id (n := (i : Int) + 1) (by omega) (by omega), seen_at a b c h2 i hi2]
      refine Ev.ifd (fun _ => ihh) (fun hne => ?_)
      by_cases hs : (rd c (i : Int) = 0 ∨ rd c (i : Int) = 1) ∧ isBroken b (rd_T52 a (i : Int)).f0 (rd c (i : Int)) = true
      · have e : seen a b c i = -1 := by unfold seen; rw [if_pos hs]
        refine Ev.ifp e ?_
        refine Ev.bind (impl_IsBroken_eq _ _ _ (by omega)) ?_
        simp only [hs.2, if_true]
        exact ihh
      · exact absurd (by unfold seen; rw [if_neg hs]) hne
    · omega
theorem lamps2 (l : List Int) (hl : l.length ≤ 1048576) (x : List S48) (m : Int) (hx : x.length ≤ 15) (hm : m = 0 → redDown x = false) : ∀ (d i : Nat), i + d = x.length → Ev (fun k => laws_FnLamps.l0 k l x m (i : Int)) true := by
  intro d
  induction d with
  | zero =>
    intro i hi
    refine Ev.succ ?_
    simp only [laws_FnLamps.l0, show ¬ (i : Int) < (x.length : Int) by omega, if_false]
    refine Ev.bindP (spec_DrawVisible_ok l hl) (fun t ht => ?_)
    refine Ev.bind (impl_Visible_eq _ _ _ (by omega) (by omega)) ?_
    exact lamps3 l hl t.1 t.2.1 t.2.2 ht.1 ht.2 (visible t.1 t.2.1 t.2.2).length 0 (by omega)
  | succ d ih =>
    intro i hi
    have ihh := ih (i + 1) (by omega)
    rw [show ((i + 1 : Nat) : Int) = (i : Int) + 1 by omega] at ihh
    refine Ev.succ ?_
    simp only [laws_FnLamps.l0, show (i : Int) < (x.length : Int) by omega, show (0 : Int) ≤ (i : Int) by omega, if_true, wrap_id (n := (i : Int) + 1) (by omega) (by omega)]
    refine Ev.ifd (fun h0 => ?_) (fun _ => ihh)
    refine Ev.bind (impl_IsBroken_eq _ _ _ (by omega)) ?_
    simp only [full_red (hm h0), Bool.false_eq_true, if_false]
    exact ihh
theorem holds : ∀ (l0 : List Int), l0.length ≤ maxLen → (∀ x ∈ l0, (Lit.int .u8 x).wf = true) → ∃ k, laws_FnLamps.f k l0 = some true := by
  intro l hm _
  apply Ev.rounds
  unfold laws_FnLamps.f
  simp only [laws_big_eq, Option.bind_some]
  by_cases hb : (l.length : Int) > 1048576
  · simp only [hb, decide_true, if_true]; exact Ev.now _
  have hl : l.length ≤ 1048576 := by omega
  simp only [hb, decide_false, Bool.false_eq_true, if_false]
  refine Ev.bindP (spec_DrawModeFor_ok l hl) (fun t ht => ?_)
  refine Ev.bind (impl_ModeFor_eq _ _ _ (by omega) (by omega)) ?_
  have hj : (modeFor t.1 t.2.1 t.2.2 = 0 → redDown t.2.1 = false) → Ev (fun k => laws_FnLamps.j0 k l t.2.1 (modeFor t.1 t.2.1 t.2.2) false) true := by
    intro h
    refine Ev.succ ?_
    simp only [laws_FnLamps.j0, Bool.false_eq_true, if_false]
    exact lamps2 l hl _ _ ht.2 h t.2.1.length 0 (by omega)
  cases hp : t.2.2
  · have e : modeFor t.1 t.2.1 false = 2 := rfl
    rw [hp, e] at hj
    obtain ⟨b, h1, h2⟩ := impl_ModeName_ne 2 (by omega)
    have h3 : (b.toList == ([] : List UInt8)) = false := by simpa using h2
    simp only [e, h1, Option.bind_some, h3, Bool.false_eq_true, if_true, if_false]
    exact hj (fun h => absurd h (by decide))
  · have e : modeFor t.1 t.2.1 true = (if areLamps t.1 t.2.1 then (if redDown t.2.1 then 1 else 0) else 1) := rfl
    have h4 : modeFor t.1 t.2.1 true = 0 ∨ modeFor t.1 t.2.1 true = 1 := by rw [e]; split <;> (try split) <;> omega
    obtain ⟨b, h1, h2⟩ := impl_ModeName_ne (modeFor t.1 t.2.1 true) (by omega)
    have h3 : (b.toList == ([] : List UInt8)) = false := by simpa using h2
    rw [hp] at hj
    simp only [h1, Option.bind_some, h3, if_true, show ¬ modeFor t.1 t.2.1 true = 2 by omega, if_false]
    refine hj (fun h => ?_)
    rw [e] at h
    cases hr : redDown t.2.1
    · rfl
    · rw [hr] at h; cases areLamps t.1 t.2.1 <;> simp at h
end Go.Proofs.Ytopchlafmfgpnaa.Pure.FnLamps
