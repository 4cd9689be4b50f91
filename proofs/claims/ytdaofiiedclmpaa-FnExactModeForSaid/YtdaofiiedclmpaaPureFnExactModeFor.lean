/- The law FnExactModeFor of the given program, as a statement over numbers and lists alone, for all arguments; no conditions but the machine's own bounds. -/
import Derived.Test.YtdaofiiedclmpaaPFnExactModeForx
import Derived.Test.YtdaofiiedclmpaaBase
namespace Go.Proofs.Ytdaofiiedclmpaa.Pure.FnExactModeFor
open Go.RowKit Go.Proofs.Ytdaofiiedclmpaa.PFnExactModeFor Go.Proofs.YtdaofiiedclmpaaW.PrintWords Go.Proofs.YtdaofiiedclmpaaW.PrintLast Go.Proofs.Ytdaofiiedclmpaa.Bas
set_option linter.unusedVariables false
set_option linter.unusedSimpArgs false
def wf95 (x : S95) : Prop := (Lit.int .i64 x.f0).wf = true ∧ (Lit.int .i64 x.f1).wf = true ∧ (Lit.int .i64 x.f2).wf = true ∧ (Lit.int .i64 x.f3).wf = true
def wf101 (x : S101) : Prop := (Lit.int .i64 x.f0).wf = true ∧ (Lit.int .i64 x.f1).wf = true ∧ True
theorem spec_l1In_eq (a lo hi : Int) : spec_l1In.f a lo hi = some (decide (lo ≤ a ∧ a ≤ hi)) := by
  unfold spec_l1In.f; grind
theorem impl_InRange_eq (a lo hi : Int) : impl_InRange.f a lo hi = some (decide (lo ≤ a ∧ a ≤ hi)) := by
  unfold impl_InRange.f; grind
theorem rdT_lawsPath (xs : List S95) (i : Nat) (h : i < xs.length) : rd_T95 xs (i : Int) = xs[i] := by simp [rd_T95, h]
theorem rdT_Path (xs : List S93) (i : Nat) (h : i < xs.length) : rd_T93 xs (i : Int) = xs[i] := by simp [rd_T93, h]
theorem laws_toPath_eq (a0 : Int) (a1 : Int) (a2 : Int) (a3 : Int) : laws_toPath.f a0 a1 a2 a3 = some (a0, a1, a2, a3) := rfl
theorem laws_eqPath_self (a0 : Int) (a1 : Int) (a2 : Int) (a3 : Int) : laws_eqPath.f a0 a1 a2 a3 a0 a1 a2 a3 = some true := by unfold laws_eqPath.f; simp
theorem laws_szPathS_eq (l : List S95) (a : Int) (hl : l.length ≤ maxLen) (h0 : 0 ≤ a) (h1 : a ≤ 1048576) : laws_szPathS.f l a = some (if (l.length : Int) ≤ a then a - l.length else -1) := by
  unfold maxLen at hl; unfold laws_szPathS.f; rw [wrap_id (by omega) (by omega)]; grind
def convPath (x : S95) : S93 := ⟨x.f0, x.f1, x.f2, x.f3⟩
theorem laws_toPathS_eq (l : List S95) (hl : l.length ≤ 1048576) : Ev (fun k => laws_toPathS.f k l) (l.map convPath) := by
  unfold laws_toPathS.f
  simp only [show (0 : Int) ≤ l.length by omega, Int.toNat_natCast, show l.length ≤ 8796093022208 by omega, if_true]
  exact Ev.copy (g := fun k ys i => laws_toPathS.l0 k l ys i) l convPath z93 (fun i ys r h hy hr => by
    refine Ev.succ ?_
    have h1 : (i : Int) < (l.length : Int) := by omega
    have h2 : (0 : Int) ≤ (i : Int) := by omega
    have h3 : (i : Int) < (ys.length : Int) := by omega
    simp only [laws_toPathS.l0, h1, h2, h3, if_true, rdT_lawsPath _ _ h, laws_toPath_eq, Option.bind_some, Int.toNat_natCast, wrap_id (n := (i : Int) + 1) (by omega) (by omega)]
    exact hr) (fun ys => by
    refine Ev.succ ?_
    simp only [laws_toPathS.l0, Int.lt_irrefl, if_false]
    exact Ev.now _)
theorem laws_eqPathS_self (l : List S93) (hl : l.length ≤ 1048576) : Ev (fun k => laws_eqPathS.f k l l) true := by
  unfold laws_eqPathS.f
  simp only [if_true]
  have := Ev.all (g := fun k i => laws_eqPathS.l0 k l l i) l.length (fun _ => true) (fun i r h _ hr => by
    refine Ev.succ ?_
    have h1 : (i : Int) < (l.length : Int) := by omega
    have h2 : (0 : Int) ≤ (i : Int) := by omega
    simp only [laws_eqPathS.l0, h1, h2, if_true, laws_eqPath_self, Option.bind_some, wrap_id (n := (i : Int) + 1) (by omega) (by omega)]
    exact hr) (fun i h hf => by simp at hf) (by
    refine Ev.succ ?_
    simp only [laws_eqPathS.l0, Int.lt_irrefl, if_false]
    exact Ev.now _)
  exact evq this (by rw [List.all_eq_true]; intros; rfl)
theorem rdT_lawsLamp (xs : List S101) (i : Nat) (h : i < xs.length) : rd_T101 xs (i : Int) = xs[i] := by simp [rd_T101, h]
theorem rdT_Lamp (xs : List S99) (i : Nat) (h : i < xs.length) : rd_T99 xs (i : Int) = xs[i] := by simp [rd_T99, h]
theorem laws_toLamp_eq (a0 : Int) (a1 : Int) (a2 : Bool) : laws_toLamp.f a0 a1 a2 = some (a0, a1, a2) := rfl
theorem laws_eqLamp_self (a0 : Int) (a1 : Int) (a2 : Bool) : laws_eqLamp.f a0 a1 a2 a0 a1 a2 = some true := by unfold laws_eqLamp.f; simp
theorem laws_szLampS_eq (l : List S101) (a : Int) (hl : l.length ≤ maxLen) (h0 : 0 ≤ a) (h1 : a ≤ 1048576) : laws_szLampS.f l a = some (if (l.length : Int) ≤ a then a - l.length else -1) := by
  unfold maxLen at hl; unfold laws_szLampS.f; rw [wrap_id (by omega) (by omega)]; grind
def convLamp (x : S101) : S99 := ⟨x.f0, x.f1, x.f2⟩
theorem laws_toLampS_eq (l : List S101) (hl : l.length ≤ 1048576) : Ev (fun k => laws_toLampS.f k l) (l.map convLamp) := by
  unfold laws_toLampS.f
  simp only [show (0 : Int) ≤ l.length by omega, Int.toNat_natCast, show l.length ≤ 11728124029610 by omega, if_true]
  exact Ev.copy (g := fun k ys i => laws_toLampS.l0 k l ys i) l convLamp z99 (fun i ys r h hy hr => by
    refine Ev.succ ?_
    have h1 : (i : Int) < (l.length : Int) := by omega
    have h2 : (0 : Int) ≤ (i : Int) := by omega
    have h3 : (i : Int) < (ys.length : Int) := by omega
    simp only [laws_toLampS.l0, h1, h2, h3, if_true, rdT_lawsLamp _ _ h, laws_toLamp_eq, Option.bind_some, Int.toNat_natCast, wrap_id (n := (i : Int) + 1) (by omega) (by omega)]
    exact hr) (fun ys => by
    refine Ev.succ ?_
    simp only [laws_toLampS.l0, Int.lt_irrefl, if_false]
    exact Ev.now _)
theorem laws_eqLampS_self (l : List S99) (hl : l.length ≤ 1048576) : Ev (fun k => laws_eqLampS.f k l l) true := by
  unfold laws_eqLampS.f
  simp only [if_true]
  have := Ev.all (g := fun k i => laws_eqLampS.l0 k l l i) l.length (fun _ => true) (fun i r h _ hr => by
    refine Ev.succ ?_
    have h1 : (i : Int) < (l.length : Int) := by omega
    have h2 : (0 : Int) ≤ (i : Int) := by omega
    simp only [laws_eqLampS.l0, h1, h2, if_true, laws_eqLamp_self, Option.bind_some, wrap_id (n := (i : Int) + 1) (by omega) (by omega)]
    exact hr) (fun i h hf => by simp at hf) (by
    refine Ev.succ ?_
    simp only [laws_eqLampS.l0, Int.lt_irrefl, if_false]
    exact Ev.now _)
  exact evq this (by rw [List.all_eq_true]; intros; rfl)
theorem impl_IsPath_eq (a b c d : Int) : impl_IsPath.f a b c d = some (isPath a b c d) := by
  unfold impl_IsPath.f isPath
  simp only [impl_InRange_eq, Option.bind_some]; grind
theorem spec_IsPath_eq (a b c d : Int) : spec_IsPath.f a b c d = some (isPath a b c d) := by
  unfold spec_IsPath.f isPath
  simp only [spec_l1In_eq, Option.bind_some]; grind
def isP (p : S93) : Bool := isPath p.f0 p.f1 p.f2 p.f3
def okAt (l : List S93) (i : Nat) : Bool := isP (rd_T93 l (i : Int)) && (decide (i = 0) || decide ((rd_T93 l ((i : Int) - 1)).f0 < (rd_T93 l (i : Int)).f0))
def arePaths (l : List S93) : Bool := (List.range l.length).all (okAt l) && decide (l.length ≤ 12)
theorem arePaths_len {l : List S93} (h : arePaths l = true) : l.length ≤ 12 := by simp [arePaths] at h; exact h.2
theorem arePaths_at {l : List S93} (h : arePaths l = true) (i : Nat) (hi : i < l.length) : isP l[i] = true := by
  simp only [arePaths, Bool.and_eq_true, List.all_eq_true, List.mem_range] at h
  have := h.1 i hi
  simp only [okAt, Bool.and_eq_true, rdT_Path _ _ hi] at this
  exact this.1
theorem arePaths_asc {l : List S93} (h : arePaths l = true) (i : Nat) (hi : i + 1 < l.length) : (l[i]'(by omega)).f0 < l[i + 1].f0 := by
  simp only [arePaths, Bool.and_eq_true, List.all_eq_true, List.mem_range] at h
  have := h.1 (i + 1) hi
  simp only [okAt, Bool.and_eq_true, rdT_Path _ _ hi] at this
  rw [show ((i + 1 : Nat) : Int) - 1 = (i : Int) by omega, rdT_Path _ _ (by omega)] at this
  simpa using this.2
def findP (l : List S93) (id : Int) : Int := Go.Proofs.Ytdaofiiedclmpaa.Hnd.fidx (fun x : S93 => x.f0 == id) l 0
theorem findP_lo (l : List S93) (id : Int) : -1 ≤ findP l id := fidx_lo _ _
theorem findP_hi (l : List S93) (id : Int) : findP l id < l.length := fidx_hi _ _
theorem findP_at {l : List S93} {id : Int} (h : 0 ≤ findP l id) : ∃ (i : Nat) (hi : i < l.length), findP l id = (i : Int) ∧ l[i].f0 = id := by
  rcases fidx_cases (fun x : S93 => x.f0 == id) l 0 with ⟨h1, _⟩ | ⟨i, h1, h2, h3, _⟩
  · unfold findP at h; omega
  · exact ⟨i, h2, by unfold findP; omega, by simpa using h3⟩
theorem findP_none {l : List S93} {id : Int} (h : findP l id < 0) : ∀ x ∈ l, x.f0 ≠ id := by
  rcases fidx_cases (fun x : S93 => x.f0 == id) l 0 with ⟨_, h2⟩ | ⟨i, h1, _⟩
  · intro x hx; simpa using h2 x hx
  · unfold findP at h; omega
theorem spec_ArePaths_eq (l : List S93) (hl : l.length ≤ 1048576) : Ev (fun k => spec_ArePaths.f k l) (arePaths l) := by
  unfold spec_ArePaths.f arePaths
  refine evAnd (g := fun k i => spec_ArePaths.l0 k l i) (fun i r h hP hr => ?_) (fun i h hP => ?_) ?_
  · refine Ev.succ ?_
    unfold okAt isP at hP
    rw [Bool.and_eq_true] at hP
    simp only [spec_ArePaths.l0, show (i : Int) < (l.length : Int) by omega, show (0 : Int) ≤ (i : Int) by omega, if_true, spec_IsPath_eq, Option.bind_some, hP.1, wrap_id (n := (i : Int) + 1) (by omega) (by omega)]
    by_cases h0 : i = 0
    · subst h0; simpa using hr
    · have h2 := hP.2
      rw [decide_eq_false h0, Bool.false_or, decide_eq_true_eq] at h2
      simp only [show (i : Int) > 0 by omega, if_true, wrap_id (n := (i : Int) - 1) (by omega) (by omega), show (0 : Int) ≤ (i : Int) - 1 by omega, show (i : Int) - 1 < (l.length : Int) by omega, show ¬ (rd_T93 l ((i : Int) - 1)).f0 ≥ (rd_T93 l (i : Int)).f0 by omega, if_false]
      exact hr
  · refine Ev.succ ?_
    unfold okAt isP at hP
    simp only [spec_ArePaths.l0, show (i : Int) < (l.length : Int) by omega, show (0 : Int) ≤ (i : Int) by omega, if_true, spec_IsPath_eq, Option.bind_some, wrap_id (n := (i : Int) + 1) (by omega) (by omega)]
    cases hp : isPath (rd_T93 l (i : Int)).f0 (rd_T93 l (i : Int)).f1 (rd_T93 l (i : Int)).f2 (rd_T93 l (i : Int)).f3
    · simp only [Bool.false_eq_true, if_false]; exact Ev.now _
    · rw [hp, Bool.true_and, Bool.or_eq_false_iff, decide_eq_false_iff_not, decide_eq_false_iff_not] at hP
      simp only [if_true, show (i : Int) > 0 by omega, wrap_id (n := (i : Int) - 1) (by omega) (by omega), show (0 : Int) ≤ (i : Int) - 1 by omega, show (i : Int) - 1 < (l.length : Int) by omega, show (rd_T93 l ((i : Int) - 1)).f0 ≥ (rd_T93 l (i : Int)).f0 by omega]
      exact Ev.now _
  · refine Ev.succ ?_
    simp only [spec_ArePaths.l0, Int.lt_irrefl, if_false]
    exact evq (Ev.now _) (by by_cases h : l.length ≤ 12 <;> simp [h] <;> omega)
theorem impl_ArePaths_eq (l : List S93) (hl : l.length ≤ 1048576) : Ev (fun k => impl_ArePaths.f k l) (arePaths l) := by
  unfold impl_ArePaths.f arePaths
  by_cases h12 : l.length ≤ 12
  · simp only [show ¬ ((l.length : Int) > 12) by omega, if_false, decide_eq_true h12]
    refine evAnd (g := fun k i => impl_ArePaths.l0 k l l (l.length : Int) i) (fun i r h hP hr => ?_) (fun i h hP => ?_) ?_
    · refine Ev.succ ?_
      unfold okAt isP at hP
      rw [Bool.and_eq_true] at hP
      simp only [impl_ArePaths.l0, show (i : Int) < (l.length : Int) by omega, show (0 : Int) ≤ (i : Int) by omega, if_true, impl_IsPath_eq, Option.bind_some, hP.1, wrap_id (n := (i : Int) + 1) (by omega) (by omega)]
      by_cases h0 : i = 0
      · subst h0; simpa using hr
      · have h2 := hP.2
        rw [decide_eq_false h0, Bool.false_or, decide_eq_true_eq] at h2
        simp only [show (i : Int) > 0 by omega, if_true, wrap_id (n := (i : Int) - 1) (by omega) (by omega), show (0 : Int) ≤ (i : Int) - 1 by omega, show (i : Int) - 1 < (l.length : Int) by omega, show ¬ (rd_T93 l (i : Int)).f0 ≤ (rd_T93 l ((i : Int) - 1)).f0 by omega, if_false]
        exact hr
    · refine Ev.succ ?_
      unfold okAt isP at hP
      simp only [impl_ArePaths.l0, show (i : Int) < (l.length : Int) by omega, show (0 : Int) ≤ (i : Int) by omega, if_true, impl_IsPath_eq, Option.bind_some, wrap_id (n := (i : Int) + 1) (by omega) (by omega)]
      cases hp : isPath (rd_T93 l (i : Int)).f0 (rd_T93 l (i : Int)).f1 (rd_T93 l (i : Int)).f2 (rd_T93 l (i : Int)).f3
      · simp only [Bool.false_eq_true, if_false]; exact Ev.now _
      · rw [hp, Bool.true_and, Bool.or_eq_false_iff, decide_eq_false_iff_not, decide_eq_false_iff_not] at hP
        simp only [if_true, show (i : Int) > 0 by omega, wrap_id (n := (i : Int) - 1) (by omega) (by omega), show (0 : Int) ≤ (i : Int) - 1 by omega, show (i : Int) - 1 < (l.length : Int) by omega, show (rd_T93 l (i : Int)).f0 ≤ (rd_T93 l ((i : Int) - 1)).f0 by omega]
        exact Ev.now _
    · refine Ev.succ ?_
      simp only [impl_ArePaths.l0, Int.lt_irrefl, if_false]
      exact Ev.now _
  · simp only [show (l.length : Int) > 12 by omega, if_true, decide_eq_false h12, Bool.and_false]; exact Ev.now _
theorem spec_FindPath_eq (l : List S93) (id : Int) (hl : l.length ≤ 1048576) : Ev (fun k => spec_FindPath.f k l id) (findP l id) := by
  unfold spec_FindPath.f findP
  have key : ∀ (d i : Nat), i + d = l.length → Ev (fun k => spec_FindPath.l0 k l id (i : Int)) (Go.Proofs.Ytdaofiiedclmpaa.Hnd.fidx (fun x : S93 => x.f0 == id) (l.drop i) (0 + i)) := by
    intro d
    induction d with
    | zero =>
      intro i hi
      refine Ev.succ ?_
      simp only [spec_FindPath.l0, show ¬ (i : Int) < (l.length : Int) by omega, if_false]
      exact evq (Ev.now _) (by rw [List.drop_eq_nil_of_le (by omega)]; rfl)
    | succ d ih =>
      intro i hi
      refine Ev.succ ?_
      have ihh := ih (i + 1) (by omega)
      rw [show ((i + 1 : Nat) : Int) = (i : Int) + 1 by omega] at ihh
      simp only [spec_FindPath.l0, show (i : Int) < (l.length : Int) by omega, show (0 : Int) ≤ (i : Int) by omega, if_true, rdT_Path _ _ (show i < l.length by omega), wrap_id (n := (i : Int) + 1) (by omega) (by omega)]
      rw [fidx_drop _ _ _ _ (by omega)]
      by_cases h1 : l[i].f0 = id
      · simp only [h1, if_true, beq_self_eq_true, Nat.zero_add]; exact Ev.now _
      · simp only [h1, if_false, show ((l[i].f0 == id) = true) = False by simp [h1]]; exact ihh
  exact key l.length 0 (by omega)
theorem impl_FindPath_eq (l : List S93) (id : Int) : impl_FindPath.f l id = some (findP l id) := rfl
def lampOk (l : List S93) (x : List S99) (i : Nat) : Bool := decide (0 ≤ findP l (rd_T99 x (i : Int)).f0) && decide (0 ≤ (rd_T99 x (i : Int)).f1 ∧ (rd_T99 x (i : Int)).f1 ≤ 1) &&
  (List.range i).all (fun (j : Nat) => !decide ((rd_T99 x (j : Int)).f0 = (rd_T99 x (i : Int)).f0 ∧ (rd_T99 x (j : Int)).f1 = (rd_T99 x (i : Int)).f1))
def areLamps (l : List S93) (x : List S99) : Bool := (List.range x.length).all (lampOk l x) && arePaths l
theorem spec_AreLamps_eq (l : List S93) (x : List S99) (hl : l.length ≤ 1048576) (hx : x.length ≤ 1048576) : Ev (fun k => spec_AreLamps.f k l x) (areLamps l x) := by
  unfold spec_AreLamps.f areLamps
  have inner : ∀ (i : Nat) (r : Bool), i < x.length → Ev (fun k => spec_AreLamps.l0 k l x ((i : Int) + 1)) r → Ev (fun k => spec_AreLamps.l1 k l x (i : Int) 0) ((List.range i).all (fun (j : Nat) => !decide ((rd_T99 x (j : Int)).f0 = (rd_T99 x (i : Int)).f0 ∧ (rd_T99 x (j : Int)).f1 = (rd_T99 x (i : Int)).f1)) && r) := by
    intro i r hi hr
    refine evAnd (g := fun k j => spec_AreLamps.l1 k l x (i : Int) j) (fun j s h hP hs => ?_) (fun j h hP => ?_) ?_
    · refine Ev.succ ?_
      rw [Bool.not_eq_true', decide_eq_false_iff_not] at hP
      simp only [spec_AreLamps.l1, show (j : Int) < (i : Int) by omega, show (j : Int) < (x.length : Int) by omega, show (i : Int) < (x.length : Int) by omega, show (0 : Int) ≤ (j : Int) by omega, show (0 : Int) ≤ (i : Int) by omega, if_true, wrap_id (n := (j : Int) + 1) (by omega) (by omega)]
      by_cases e1 : (rd_T99 x (j : Int)).f0 = (rd_T99 x (i : Int)).f0
      · have e2 : ¬ (rd_T99 x (j : Int)).f1 = (rd_T99 x (i : Int)).f1 := fun e => hP ⟨e1, e⟩
        simp only [e1, e2, if_true, if_false]; exact hs
      · simp only [e1, if_false]; exact hs
    · refine Ev.succ ?_
      rw [Bool.not_eq_false', decide_eq_true_eq] at hP
      simp only [spec_AreLamps.l1, show (j : Int) < (i : Int) by omega, show (j : Int) < (x.length : Int) by omega, show (i : Int) < (x.length : Int) by omega, show (0 : Int) ≤ (j : Int) by omega, show (0 : Int) ≤ (i : Int) by omega, if_true, hP.1, hP.2]
      exact Ev.now _
    · refine Ev.succ ?_
      simp only [spec_AreLamps.l1, Int.lt_irrefl, if_false, wrap_id (n := (i : Int) + 1) (by omega) (by omega)]
      exact hr
  have key : ∀ (d i : Nat), i + d = x.length → Ev (fun k => spec_AreLamps.l0 k l x (i : Int)) ((List.range' i d).all (lampOk l x) && arePaths l) := by
    intro d
    induction d with
    | zero =>
      intro i hi
      refine Ev.succ ?_
      simp only [spec_AreLamps.l0, show ¬ (i : Int) < (x.length : Int) by omega, if_false]
      refine Ev.bind (spec_ArePaths_eq l hl) ?_
      exact evq (Ev.now _) (by simp)
    | succ d ih =>
      intro i hi
      refine Ev.succ ?_
      have ihh := ih (i + 1) (by omega)
      rw [show ((i + 1 : Nat) : Int) = (i : Int) + 1 by omega] at ihh
      simp only [spec_AreLamps.l0, show (i : Int) < (x.length : Int) by omega, show (0 : Int) ≤ (i : Int) by omega, if_true]
      refine Ev.bind (spec_FindPath_eq l _ hl) ?_
      simp only [spec_l1In_eq, Option.bind_some]
      have hj : ∀ b : Bool, Ev (fun k => spec_AreLamps.j1 k l x (i : Int) b) (!b && ((List.range i).all (fun (j : Nat) => !decide ((rd_T99 x (j : Int)).f0 = (rd_T99 x (i : Int)).f0 ∧ (rd_T99 x (j : Int)).f1 = (rd_T99 x (i : Int)).f1)) && ((List.range' (i + 1) d).all (lampOk l x) && arePaths l))) := by
        intro b
        refine Ev.succ ?_
        cases b
        · simp only [spec_AreLamps.j1, Bool.false_eq_true, if_false, Bool.not_false, Bool.true_and]; exact inner i _ (by omega) ihh
        · simp only [spec_AreLamps.j1, if_true, Bool.not_true, Bool.false_and]; exact Ev.now _
      rw [List.range'_succ, List.all_cons]
      by_cases h1 : findP l (rd_T99 x (i : Int)).f0 < 0
      · simp only [h1, if_true]
        exact evq (hj true) (by simp [lampOk, show ¬ 0 ≤ findP l (rd_T99 x (i : Int)).f0 by omega])
      · simp only [h1, if_false]
        refine evq (hj _) ?_
        unfold lampOk
        rw [decide_eq_true (show 0 ≤ findP l (rd_T99 x (i : Int)).f0 by omega), Bool.not_not, Bool.true_and]
        simp only [Bool.and_assoc]
  have := key x.length 0 (by omega)
  rwa [← List.range_eq_range'] at this
theorem impl_AreLamps_eq (l : List S93) (x : List S99) (hl : l.length ≤ 1048576) (hx : x.length ≤ 1048576) : Ev (fun k => impl_AreLamps.f k l x) (areLamps l x) := by
  unfold impl_AreLamps.f areLamps
  refine Ev.bind (impl_ArePaths_eq l hl) ?_
  cases ha : arePaths l
  · simp only [Bool.false_eq_true, if_false, Bool.and_false]; exact Ev.now _
  simp only [if_true, Bool.and_true]
  have inner : ∀ (i : Nat) (r : Bool), i < x.length → Ev (fun k => impl_AreLamps.l0 k l x x (x.length : Int) ((i : Int) + 1)) r → Ev (fun k => impl_AreLamps.l1 k l x x (x.length : Int) (i : Int) (x.take i) (((x.take i).length : Nat) : Int) 0 (rd_T99 x (i : Int)).f0 (rd_T99 x (i : Int)).f1 (rd_T99 x (i : Int)).f2) ((List.range i).all (fun (j : Nat) => !decide ((rd_T99 x (j : Int)).f0 = (rd_T99 x (i : Int)).f0 ∧ (rd_T99 x (j : Int)).f1 = (rd_T99 x (i : Int)).f1)) && r) := by
    intro i r hi hr
    have hlt : (x.take i).length = i := by simp; omega
    have hrd : ∀ j : Nat, j < i → rd_T99 (x.take i) (j : Int) = rd_T99 x (j : Int) := fun j hj => by rw [rdT_Lamp _ _ (by omega), rdT_Lamp _ _ (by omega)]; simp
    rw [hlt]
    refine evAnd (g := fun k j => impl_AreLamps.l1 k l x x (x.length : Int) (i : Int) (x.take i) (i : Int) j (rd_T99 x (i : Int)).f0 (rd_T99 x (i : Int)).f1 (rd_T99 x (i : Int)).f2) (fun j s h hP hs => ?_) (fun j h hP => ?_) ?_
    · refine Ev.succ ?_
      rw [Bool.not_eq_true', decide_eq_false_iff_not] at hP
      simp only [impl_AreLamps.l1, show (j : Int) < (i : Int) by omega, show (0 : Int) ≤ (j : Int) by omega, hlt, hrd j h, if_true, wrap_id (n := (j : Int) + 1) (by omega) (by omega)]
      by_cases e1 : (rd_T99 x (i : Int)).f0 = (rd_T99 x (j : Int)).f0
      · have e2 : ¬ (rd_T99 x (i : Int)).f1 = (rd_T99 x (j : Int)).f1 := fun e => hP ⟨e1.symm, e.symm⟩
        simp only [e1, e2, if_true, if_false] at hs ⊢; exact hs
      · simp only [e1, if_false]; exact hs
    · refine Ev.succ ?_
      rw [Bool.not_eq_false', decide_eq_true_eq] at hP
      simp only [impl_AreLamps.l1, show (j : Int) < (i : Int) by omega, show (0 : Int) ≤ (j : Int) by omega, hlt, hrd j h, if_true, hP.1, hP.2]
      exact Ev.now _
    · refine Ev.succ ?_
      simp only [impl_AreLamps.l1, Int.lt_irrefl, if_false, wrap_id (n := (i : Int) + 1) (by omega) (by omega)]
      exact hr
  have key : ∀ (d i : Nat), i + d = x.length → Ev (fun k => impl_AreLamps.l0 k l x x (x.length : Int) (i : Int)) ((List.range' i d).all (lampOk l x)) := by
    intro d
    induction d with
    | zero =>
      intro i hi
      refine Ev.succ ?_
      simp only [impl_AreLamps.l0, show ¬ (i : Int) < (x.length : Int) by omega, if_false]
      exact evq (Ev.now _) (by simp)
    | succ d ih =>
      intro i hi
      refine Ev.succ ?_
      have ihh := ih (i + 1) (by omega)
      rw [show ((i + 1 : Nat) : Int) = (i : Int) + 1 by omega] at ihh
      simp only [impl_AreLamps.l0, show (i : Int) < (x.length : Int) by omega, show (0 : Int) ≤ (i : Int) by omega, if_true, impl_FindPath_eq, Option.bind_some]
      have hj : ∀ b : Bool, Ev (fun k => impl_AreLamps.j1 k l x (i : Int) x (x.length : Int) (i : Int) b (rd_T99 x (i : Int)).f0 (rd_T99 x (i : Int)).f1 (rd_T99 x (i : Int)).f2) (!b && ((List.range i).all (fun (j : Nat) => !decide ((rd_T99 x (j : Int)).f0 = (rd_T99 x (i : Int)).f0 ∧ (rd_T99 x (j : Int)).f1 = (rd_T99 x (i : Int)).f1)) && (List.range' (i + 1) d).all (lampOk l x))) := by
        intro b
        refine Ev.succ ?_
        cases b
        · simp only [impl_AreLamps.j1, Bool.false_eq_true, if_false, Bool.not_false, Bool.true_and, show (0 : Int) ≤ (i : Int) by omega, show (i : Int) ≤ (x.length : Int) by omega, if_true, Int.toNat_natCast, Option.bind_some]
          exact inner i _ (by omega) ihh
        · simp only [impl_AreLamps.j1, if_true, Bool.not_true, Bool.false_and]; exact Ev.now _
      rw [List.range'_succ, List.all_cons]
      by_cases h1 : findP l (rd_T99 x (i : Int)).f0 < 0
      · simp only [h1, if_true]
        exact evq (hj true) (by simp [lampOk, show ¬ 0 ≤ findP l (rd_T99 x (i : Int)).f0 by omega])
      · simp only [h1, if_false]
        have hfin : ∀ b : Bool, b = decide (0 ≤ (rd_T99 x (i : Int)).f1 ∧ (rd_T99 x (i : Int)).f1 ≤ 1) → (!(!b) && ((List.range i).all (fun (j : Nat) => !decide ((rd_T99 x (j : Int)).f0 = (rd_T99 x (i : Int)).f0 ∧ (rd_T99 x (j : Int)).f1 = (rd_T99 x (i : Int)).f1)) && (List.range' (i + 1) d).all (lampOk l x))) = (lampOk l x i && (List.range' (i + 1) d).all (lampOk l x)) := by
          intro b hb
          unfold lampOk
          rw [decide_eq_true (show 0 ≤ findP l (rd_T99 x (i : Int)).f0 by omega), Bool.not_not, Bool.true_and, hb]
          simp only [Bool.and_assoc]
        by_cases h2 : (rd_T99 x (i : Int)).f1 = 0
        · simp only [h2, if_true]
          have := hj false
          simp only [h2] at this
          refine evq this ?_
          have := hfin true (by simp [h2])
          simpa [h2] using this
        · simp only [h2, if_false]
          refine evq (hj _) ?_
          rw [← hfin _ rfl]
          congr 1
          by_cases h3 : (rd_T99 x (i : Int)).f1 = 1
          · simp [h3]
          · have : ¬ (0 ≤ (rd_T99 x (i : Int)).f1 ∧ (rd_T99 x (i : Int)).f1 ≤ 1) := by omega
            rw [decide_eq_false this]; simp [h3]
  have := key x.length 0 (by omega)
  rwa [← List.range_eq_range'] at this
theorem fidx_any {α : Type} (p : α → Bool) : ∀ (l : List α) (n : Nat), decide (0 ≤ Go.Proofs.Ytdaofiiedclmpaa.Hnd.fidx p l n) = l.any p
  | [], n => by simp [Go.Proofs.Ytdaofiiedclmpaa.Hnd.fidx]
  | x :: xs, n => by
    rw [List.any_cons]
    show decide (0 ≤ (if p x = true then (n : Int) else Go.Proofs.Ytdaofiiedclmpaa.Hnd.fidx p xs (n + 1))) = _
    cases h : p x
    · simpa using fidx_any p xs (n + 1)
    · simp
def redDown (x : List S99) : Bool := x.any (fun x => x.f1 == 0 && x.f2)
def modeFor (l : List S93) (x : List S99) (p : Bool) : Int := if p then (if areLamps l x then (if redDown x then 1 else 0) else 1) else 2
theorem impl_ModeFor_eq (l : List S93) (x : List S99) (p : Bool) (hl : l.length ≤ 1048576) (hx : x.length ≤ 1048576) : Ev (fun k => impl_ModeFor.f k l x p) (modeFor l x p) := by
  unfold impl_ModeFor.f modeFor
  cases p
  · exact Ev.now _
  · simp only [if_true]
    refine Ev.bind (impl_AreLamps_eq l x hl hx) ?_
    cases areLamps l x
    · exact Ev.now _
    · simp only [if_true, impl_Lamp_85.f, Option.bind_some, fidx_any]
      show Ev _ (if redDown x then 1 else 0)
      unfold redDown
      cases (x.any (fun x => x.f1 == 0 && x.f2))
      · exact Ev.now _
      · exact Ev.now _
theorem spec_ModeFor_eq (l : List S93) (x : List S99) (p : Bool) (hl : l.length ≤ 1048576) (hx : x.length ≤ 1048576) : Ev (fun k => spec_ModeFor.f k l x p) (modeFor l x p) := by
  unfold spec_ModeFor.f modeFor
  cases p
  · exact Ev.now _
  · simp only [if_true]
    have key : ∀ (d i : Nat), i + d = x.length → Ev (fun k => spec_ModeFor.l0 k l x (i : Int)) (if areLamps l x then (if redDown (x.drop i) then 1 else 0) else 1) := by
      intro d
      induction d with
      | zero =>
        intro i hi
        refine Ev.succ ?_
        simp only [spec_ModeFor.l0, show ¬ (i : Int) < (x.length : Int) by omega, if_false]
        refine Ev.bind (spec_AreLamps_eq l x hl hx) ?_
        rw [List.drop_eq_nil_of_le (show x.length ≤ i by omega)]
        cases areLamps l x
        · exact Ev.now _
        · exact Ev.now _
      | succ d ih =>
        intro i hi
        refine Ev.succ ?_
        have ihh := ih (i + 1) (by omega)
        rw [show ((i + 1 : Nat) : Int) = (i : Int) + 1 by omega] at ihh
        have e : redDown (x.drop i) = ((x[i].f1 == 0 && x[i].f2) || redDown (x.drop (i + 1))) := by
          unfold redDown
          rw [List.drop_eq_getElem_cons (by omega), List.any_cons]
        rw [e]
        simp only [spec_ModeFor.l0, show (i : Int) < (x.length : Int) by omega, show (0 : Int) ≤ (i : Int) by omega, if_true, rdT_Lamp _ _ (show i < x.length by omega), wrap_id (n := (i : Int) + 1) (by omega) (by omega)]
        by_cases h1 : x[i].f1 = 0
        · simp only [h1, if_true, beq_self_eq_true, Bool.true_and]
          cases h2 : x[i].f2
          · simpa using ihh
          · cases areLamps l x <;> exact Ev.now _
        · simp only [h1, if_false, beq_false_of_ne h1, Bool.false_and, Bool.false_or]
          exact ihh
    simpa using key x.length 0 (by omega)
theorem holds : ∀ (l0 : List S95) (l1 : List S101) (a2 : Bool), l0.length ≤ maxLen → (∀ x ∈ l0, wf95 x) → l1.length ≤ maxLen → (∀ x ∈ l1, wf101 x) → ∃ k, laws_FnExactModeFor.f k l0 l1 a2 = some true := by
  intros
  apply Ev.rounds
  unfold laws_FnExactModeFor.f
  repeat (first
    | exact Ev.now _
    | dsimp only
    | (refine Ev.ifp ?_ ?_; focus (first | rfl | omega | (simp; done)))
    | (refine Ev.ifn ?_ ?_; focus (first | omega | (simp; done)))
    | refine Ev.bindE (laws_eqLamp_self ..) ?_
    | refine Ev.bind (laws_eqLampS_self _ (by first | omega | (simp only [List.length_map, markInts_length]; omega) | (simp; omega))) ?_
    | refine Ev.bindE (laws_eqPath_self ..) ?_
    | refine Ev.bind (laws_eqPathS_self _ (by first | omega | (simp only [List.length_map, markInts_length]; omega) | (simp; omega))) ?_
    | refine Ev.szb (laws_szLampS_eq _ _ (by assumption) (by omega) (by omega)) (fun _ => ?_) (fun _ => ?_)
    | refine Ev.szb (laws_szPathS_eq _ _ (by assumption) (by omega) (by omega)) (fun _ => ?_) (fun _ => ?_)
    | refine Ev.bindE (laws_toLamp_eq ..) ?_
    | refine Ev.bind (laws_toLampS_eq _ (by first | omega | (simp only [List.length_map, markInts_length]; omega) | (simp; omega))) ?_
    | refine Ev.bindE (laws_toPath_eq ..) ?_
    | refine Ev.bind (laws_toPathS_eq _ (by first | omega | (simp only [List.length_map, markInts_length]; omega) | (simp; omega))) ?_
    | refine Ev.bind (spec_ModeFor_eq _ _ _ (by first | omega | (simp only [List.length_map, markInts_length]; omega) | (simp; omega)) (by first | omega | (simp only [List.length_map, markInts_length]; omega) | (simp; omega))) ?_
    | refine Ev.bind (impl_ModeFor_eq _ _ _ (by first | omega | (simp only [List.length_map, markInts_length]; omega) | (simp; omega)) (by first | omega | (simp only [List.length_map, markInts_length]; omega) | (simp; omega))) ?_
    | (refine Ev.ifd (fun _ => by exact Ev.now _) (fun _ => ?_)))
end Go.Proofs.Ytdaofiiedclmpaa.Pure.FnExactModeFor
