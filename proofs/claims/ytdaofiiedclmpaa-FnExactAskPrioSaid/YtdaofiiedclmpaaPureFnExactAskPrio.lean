/- The law FnExactAskPrio of the given program, as a statement over numbers and lists alone, for all arguments; no conditions but the machine's own bounds. -/
import Derived.Test.YtdaofiiedclmpaaPFnExactAskPriox
import Derived.Test.YtdaofiiedclmpaaBase
namespace Go.Proofs.Ytdaofiiedclmpaa.Pure.FnExactAskPrio
open Go.RowKit Go.Proofs.Ytdaofiiedclmpaa.PFnExactAskPrio Go.Proofs.YtdaofiiedclmpaaW.PrintWords Go.Proofs.YtdaofiiedclmpaaW.PrintLast Go.Proofs.Ytdaofiiedclmpaa.Bas
set_option linter.unusedVariables false
set_option linter.unusedSimpArgs false
def wf95 (x : S95) : Prop := (Lit.int .i64 x.f0).wf = true ∧ (Lit.int .i64 x.f1).wf = true ∧ (Lit.int .i64 x.f2).wf = true ∧ (Lit.int .i64 x.f3).wf = true
theorem spec_l1In_eq (a lo hi : Int) : spec_l1In.f a lo hi = some (decide (lo ≤ a ∧ a ≤ hi)) := by
  unfold spec_l1In.f; grind
theorem impl_InRange_eq (a lo hi : Int) : impl_InRange.f a lo hi = some (decide (lo ≤ a ∧ a ≤ hi)) := by
  unfold impl_InRange.f; grind
theorem rdT_lawsPath (xs : List S95) (i : Nat) (h : i < xs.length) : rd_T95 xs (i : Int) = xs[i] := by simp [rd_T95, h]
theorem rdT_Path (xs : List S93) (i : Nat) (h : i < xs.length) : rd_T93 xs (i : Int) = xs[i] := by simp [rd_T93, h]
theorem laws_toPath_eq (a0 : Int) (a1 : Int) (a2 : Int) (a3 : Int) : laws_toPath.f a0 a1 a2 a3 = some (a0, a1, a2, a3) := rfl
theorem laws_eqPath_self (a0 : Int) (a1 : Int) (a2 : Int) (a3 : Int) : laws_eqPath.f a0 a1 a2 a3 a0 a1 a2 a3 = some true := by unfold laws_eqPath.f; simp
theorem laws_szPathS_eq (l : List S95) (a : Int) (hl : l.length ≤ maxLen) (h0 : 0 ≤ a) (h1 : a ≤ 1048576) : laws_szPathS.f l a = some (if (l.length : Int) ≤ a then a - l.length else -1) := by
  unfold maxLen at hl; unfold laws_szPathS.f; rw [wrap_id (by omega) (by omega)]; grind
def convPath (x : S95) : S93 := ⟨x.f0, x.f1, x.f2, x.f3⟩
theorem laws_toPathS_eq (l : List S95) (hl : l.length ≤ 1048576) : Ev (fun k => laws_toPathS.f k l) (l.map convPath) := by
  unfold laws_toPathS.f
  simp only [show (0 : Int) ≤ l.length by omega, Int.toNat_natCast, show l.length ≤ 8796093022208 by omega, if_true]
  exact Ev.copy (g := fun k ys i => laws_toPathS.l0 k l ys i) l convPath z93 (fun i ys r h hy hr => by
    refine Ev.succ ?_
    have h1 : (i : Int) < (l.length : Int) := by omega
    have h2 : (0 : Int) ≤ (i : Int) := by omega
    have h3 : (i : Int) < (ys.length : Int) := by omega
    simp only [laws_toPathS.l0, h1, h2, h3, if_true, rdT_lawsPath _ _ h, laws_toPath_eq, Option.bind_some, Int.toNat_natCast, wrap_id (n := (i : Int) + 1) (by omega) (by omega)]
    exact hr) (fun ys => by
    refine Ev.succ ?_
    simp only [laws_toPathS.l0, Int.lt_irrefl, if_false]
    exact Ev.now _)
theorem laws_eqPathS_self (l : List S93) (hl : l.length ≤ 1048576) : Ev (fun k => laws_eqPathS.f k l l) true := by
  unfold laws_eqPathS.f
  simp only [if_true]
  have := Ev.all (g := fun k i => laws_eqPathS.l0 k l l i) l.length (fun _ => true) (fun i r h _ hr => by
    refine Ev.succ ?_
    have h1 : (i : Int) < (l.length : Int) := by omega
    have h2 : (0 : Int) ≤ (i : Int) := by omega
    simp only [laws_eqPathS.l0, h1, h2, if_true, laws_eqPath_self, Option.bind_some, wrap_id (n := (i : Int) + 1) (by omega) (by omega)]
    exact hr) (fun i h hf => by simp at hf) (by
    refine Ev.succ ?_
    simp only [laws_eqPathS.l0, Int.lt_irrefl, if_false]
    exact Ev.now _)
  exact evq this (by rw [List.all_eq_true]; intros; rfl)
theorem impl_IsPath_eq (a b c d : Int) : impl_IsPath.f a b c d = some (isPath a b c d) := by
  unfold impl_IsPath.f isPath
  simp only [impl_InRange_eq, Option.bind_some]; grind
theorem spec_IsPath_eq (a b c d : Int) : spec_IsPath.f a b c d = some (isPath a b c d) := by
  unfold spec_IsPath.f isPath
  simp only [spec_l1In_eq, Option.bind_some]; grind
def isP (p : S93) : Bool := isPath p.f0 p.f1 p.f2 p.f3
def okAt (l : List S93) (i : Nat) : Bool := isP (rd_T93 l (i : Int)) && (decide (i = 0) || decide ((rd_T93 l ((i : Int) - 1)).f0 < (rd_T93 l (i : Int)).f0))
def arePaths (l : List S93) : Bool := (List.range l.length).all (okAt l) && decide (l.length ≤ 12)
theorem arePaths_len {l : List S93} (h : arePaths l = true) : l.length ≤ 12 := by simp [arePaths] at h; exact h.2
theorem arePaths_at {l : List S93} (h : arePaths l = true) (i : Nat) (hi : i < l.length) : isP l[i] = true := by
  simp only [arePaths, Bool.and_eq_true, List.all_eq_true, List.mem_range] at h
  have := h.1 i hi
  simp only [okAt, Bool.and_eq_true, rdT_Path _ _ hi] at this
  exact this.1
theorem arePaths_asc {l : List S93} (h : arePaths l = true) (i : Nat) (hi : i + 1 < l.length) : (l[i]'(by omega)).f0 < l[i + 1].f0 := by
  simp only [arePaths, Bool.and_eq_true, List.all_eq_true, List.mem_range] at h
  have := h.1 (i + 1) hi
  simp only [okAt, Bool.and_eq_true, rdT_Path _ _ hi] at this
  rw [show ((i + 1 : Nat) : Int) - 1 = (i : Int) by omega, rdT_Path _ _ (by omega)] at this
  simpa using this.2
def findP (l : List S93) (id : Int) : Int := Go.Proofs.Ytdaofiiedclmpaa.Hnd.fidx (fun x : S93 => x.f0 == id) l 0
theorem findP_lo (l : List S93) (id : Int) : -1 ≤ findP l id := fidx_lo _ _
theorem findP_hi (l : List S93) (id : Int) : findP l id < l.length := fidx_hi _ _
theorem findP_at {l : List S93} {id : Int} (h : 0 ≤ findP l id) : ∃ (i : Nat) (hi : i < l.length), findP l id = (i : Int) ∧ l[i].f0 = id := by
  rcases fidx_cases (fun x : S93 => x.f0 == id) l 0 with ⟨h1, _⟩ | ⟨i, h1, h2, h3, _⟩
  · unfold findP at h; omega
  · exact ⟨i, h2, by unfold findP; omega, by simpa using h3⟩
theorem findP_none {l : List S93} {id : Int} (h : findP l id < 0) : ∀ x ∈ l, x.f0 ≠ id := by
  rcases fidx_cases (fun x : S93 => x.f0 == id) l 0 with ⟨_, h2⟩ | ⟨i, h1, _⟩
  · intro x hx; simpa using h2 x hx
  · unfold findP at h; omega
theorem spec_ArePaths_eq (l : List S93) (hl : l.length ≤ 1048576) : Ev (fun k => spec_ArePaths.f k l) (arePaths l) := by
  unfold spec_ArePaths.f arePaths
  refine evAnd (g := fun k i => spec_ArePaths.l0 k l i) (fun i r h hP hr => ?_) (fun i h hP => ?_) ?_
  · refine Ev.succ ?_
    unfold okAt isP at hP
    rw [Bool.and_eq_true] at hP
    simp only [spec_ArePaths.l0, show (i : Int) < (l.length : Int) by omega, show (0 : Int) ≤ (i : Int) by omega, if_true, spec_IsPath_eq, Option.bind_some, hP.1, wrap_id (n := (i : Int) + 1) (by omega) (by omega)]
    by_cases h0 : i = 0
    · subst h0; simpa using hr
    · have h2 := hP.2
      rw [decide_eq_false h0, Bool.false_or, decide_eq_true_eq] at h2
      simp only [show (i : Int) > 0 by omega, if_true, wrap_id (n := (i : Int) - 1) (by omega) (by omega), show (0 : Int) ≤ (i : Int) - 1 by omega, show (i : Int) - 1 < (l.length : Int) by omega, show ¬ (rd_T93 l ((i : Int) - 1)).f0 ≥ (rd_T93 l (i : Int)).f0 by omega, if_false]
      exact hr
  · refine Ev.succ ?_
    unfold okAt isP at hP
    simp only [spec_ArePaths.l0, show (i : Int) < (l.length : Int) by omega, show (0 : Int) ≤ (i : Int) by omega, if_true, spec_IsPath_eq, Option.bind_some, wrap_id (n := (i : Int) + 1) (by omega) (by omega)]
    cases hp : isPath (rd_T93 l (i : Int)).f0 (rd_T93 l (i : Int)).f1 (rd_T93 l (i : Int)).f2 (rd_T93 l (i : Int)).f3
    · simp only [Bool.false_eq_true, if_false]; exact Ev.now _
    · rw [hp, Bool.true_and, Bool.or_eq_false_iff, decide_eq_false_iff_not, decide_eq_false_iff_not] at hP
      simp only [if_true, show (i : Int) > 0 by omega, wrap_id (n := (i : Int) - 1) (by omega) (by omega), show (0 : Int) ≤ (i : Int) - 1 by omega, show (i : Int) - 1 < (l.length : Int) by omega, show (rd_T93 l ((i : Int) - 1)).f0 ≥ (rd_T93 l (i : Int)).f0 by omega]
      exact Ev.now _
  · refine Ev.succ ?_
    simp only [spec_ArePaths.l0, Int.lt_irrefl, if_false]
    exact evq (Ev.now _) (by by_cases h : l.length ≤ 12 <;> simp [h] <;> omega)
theorem impl_ArePaths_eq (l : List S93) (hl : l.length ≤ 1048576) : Ev (fun k => impl_ArePaths.f k l) (arePaths l) := by
  unfold impl_ArePaths.f arePaths
  by_cases h12 : l.length ≤ 12
  · simp only [show ¬ ((l.length : Int) > 12) by omega, if_false, decide_eq_true h12]
    refine evAnd (g := fun k i => impl_ArePaths.l0 k l l (l.length : Int) i) (fun i r h hP hr => ?_) (fun i h hP => ?_) ?_
    · refine Ev.succ ?_
      unfold okAt isP at hP
      rw [Bool.and_eq_true] at hP
      simp only [impl_ArePaths.l0, show (i : Int) < (l.length : Int) by omega, show (0 : Int) ≤ (i : Int) by omega, if_true, impl_IsPath_eq, Option.bind_some, hP.1, wrap_id (n := (i : Int) + 1) (by omega) (by omega)]
      by_cases h0 : i = 0
      · subst h0; simpa using hr
      · have h2 := hP.2
        rw [decide_eq_false h0, Bool.false_or, decide_eq_true_eq] at h2
        simp only [show (i : Int) > 0 by omega, if_true, wrap_id (n := (i : Int) - 1) (by omega) (by omega), show (0 : Int) ≤ (i : Int) - 1 by omega, show (i : Int) - 1 < (l.length : Int) by omega, show ¬ (rd_T93 l (i : Int)).f0 ≤ (rd_T93 l ((i : Int) - 1)).f0 by omega, if_false]
        exact hr
    · refine Ev.succ ?_
      unfold okAt isP at hP
      simp only [impl_ArePaths.l0, show (i : Int) < (l.length : Int) by omega, show (0 : Int) ≤ (i : Int) by omega, if_true, impl_IsPath_eq, Option.bind_some, wrap_id (n := (i : Int) + 1) (by omega) (by omega)]
      cases hp : isPath (rd_T93 l (i : Int)).f0 (rd_T93 l (i : Int)).f1 (rd_T93 l (i : Int)).f2 (rd_T93 l (i : Int)).f3
      · simp only [Bool.false_eq_true, if_false]; exact Ev.now _
      · rw [hp, Bool.true_and, Bool.or_eq_false_iff, decide_eq_false_iff_not, decide_eq_false_iff_not] at hP
        simp only [if_true, show (i : Int) > 0 by omega, wrap_id (n := (i : Int) - 1) (by omega) (by omega), show (0 : Int) ≤ (i : Int) - 1 by omega, show (i : Int) - 1 < (l.length : Int) by omega, show (rd_T93 l (i : Int)).f0 ≤ (rd_T93 l ((i : Int) - 1)).f0 by omega]
        exact Ev.now _
    · refine Ev.succ ?_
      simp only [impl_ArePaths.l0, Int.lt_irrefl, if_false]
      exact Ev.now _
  · simp only [show (l.length : Int) > 12 by omega, if_true, decide_eq_false h12, Bool.and_false]; exact Ev.now _
theorem spec_FindPath_eq (l : List S93) (id : Int) (hl : l.length ≤ 1048576) : Ev (fun k => spec_FindPath.f k l id) (findP l id) := by
  unfold spec_FindPath.f findP
  have key : ∀ (d i : Nat), i + d = l.length → Ev (fun k => spec_FindPath.l0 k l id (i : Int)) (Go.Proofs.Ytdaofiiedclmpaa.Hnd.fidx (fun x : S93 => x.f0 == id) (l.drop i) (0 + i)) := by
    intro d
    induction d with
    | zero =>
      intro i hi
      refine Ev.succ ?_
      simp only [spec_FindPath.l0, show ¬ (i : Int) < (l.length : Int) by omega, if_false]
      exact evq (Ev.now _) (by rw [List.drop_eq_nil_of_le (by omega)]; rfl)
    | succ d ih =>
      intro i hi
      refine Ev.succ ?_
      have ihh := ih (i + 1) (by omega)
      rw [show ((i + 1 : Nat) : Int) = (i : Int) + 1 by omega] at ihh
      simp only [spec_FindPath.l0, show (i : Int) < (l.length : Int) by omega, show (0 : Int) ≤ (i : Int) by omega, if_true, rdT_Path _ _ (show i < l.length by omega), wrap_id (n := (i : Int) + 1) (by omega) (by omega)]
      rw [fidx_drop _ _ _ _ (by omega)]
      by_cases h1 : l[i].f0 = id
      · simp only [h1, if_true, beq_self_eq_true, Nat.zero_add]; exact Ev.now _
      · simp only [h1, if_false, show ((l[i].f0 == id) = true) = False by simp [h1]]; exact ihh
  exact key l.length 0 (by omega)
theorem impl_FindPath_eq (l : List S93) (id : Int) : impl_FindPath.f l id = some (findP l id) := rfl
def isBusP (l : List S93) (id : Int) : Bool := decide (0 ≤ findP l id) && ((rd_T93 l (findP l id)).f1 == 3)
theorem impl_isBus_eq (l : List S93) (id : Int) : impl_isBus.f l id = some (isBusP l id) := by
  unfold impl_isBus.f isBusP
  simp only [impl_FindPath_eq, Option.bind_some]
  have := findP_hi l id
  by_cases h : 0 ≤ findP l id
  · simp [h, this]
  · simp [h]
def isPrio (l : List S93) (a b : Int) : Bool := arePaths l && ((a == 0 && b == 0) || (isBusP l a && decide (1 ≤ b ∧ b ≤ 20)))
theorem impl_IsPrio_eq (l : List S93) (a b : Int) (hl : l.length ≤ 1048576) : Ev (fun k => impl_IsPrio.f k l a b) (isPrio l a b) := by
  unfold impl_IsPrio.f isPrio
  refine Ev.bind (impl_ArePaths_eq l hl) ?_
  simp only [impl_isBus_eq, impl_InRange_eq, Option.bind_some]
  refine Ev.pure ?_
  cases arePaths l <;> cases (a == 0 && b == 0) <;> cases isBusP l a <;> simp
theorem spec_IsPrio_eq (l : List S93) (a b : Int) (hl : l.length ≤ 1048576) : Ev (fun k => spec_IsPrio.f k l a b) (isPrio l a b) := by
  unfold spec_IsPrio.f isPrio
  cases h0 : (a == 0 && b == 0)
  · simp only [Bool.false_eq_true, if_false]
    refine Ev.bind (spec_FindPath_eq l a hl) ?_
    refine Ev.bind (spec_ArePaths_eq l hl) ?_
    simp only [spec_l1In_eq, Option.bind_some]
    refine Ev.pure ?_
    have := findP_hi l a
    unfold isBusP
    cases arePaths l
    · simp
    · by_cases h : 0 ≤ findP l a
      · by_cases h3 : (rd_T93 l (findP l a)).f1 = 3 <;> simp [h, h3, this]
      · simp [h]
  · simp only [if_true]
    refine Ev.bind (spec_ArePaths_eq l hl) ?_
    exact evq (Ev.now _) (by simp)
def askPrio (l : List S93) (a b p : Int) : Int × Int × Bool := if isPrio l a b && (a == 0) && isBusP l p then (p, 20, true) else (a, b, false)
theorem impl_AskPrio_eq (l : List S93) (a b p : Int) (hl : l.length ≤ 1048576) : Ev (fun k => impl_AskPrio.f k l a b p) (askPrio l a b p) := by
  unfold impl_AskPrio.f askPrio
  refine Ev.bind (impl_IsPrio_eq l a b hl) ?_
  simp only [impl_isBus_eq, Option.bind_some]
  refine Ev.pure ?_
  cases isPrio l a b
  · simp
  · by_cases h : a = 0 <;> cases isBusP l p <;> simp [h]
theorem spec_AskPrio_eq (l : List S93) (a b p : Int) (hl : l.length ≤ 1048576) : Ev (fun k => spec_AskPrio.f k l a b p) (askPrio l a b p) := by
  unfold spec_AskPrio.f askPrio
  refine Ev.bind (spec_IsPrio_eq l a b hl) ?_
  cases h1 : isPrio l a b
  · simp only [Bool.false_eq_true, if_false, Bool.false_and]; exact Ev.now _
  · simp only [if_true, Bool.true_and]
    by_cases h : a = 0
    · simp only [h, if_true, beq_self_eq_true, Bool.true_and]
      refine Ev.bind (spec_IsPrio_eq l p 20 hl) ?_
      have ha : arePaths l = true := by unfold isPrio at h1; cases hh : arePaths l <;> simp_all
      refine Ev.pure ?_
      unfold isPrio
      cases isBusP l p <;> simp [ha]
    · simp only [h, if_false]
      exact evq (Ev.now _) (by simp [h])
theorem laws_eqPrio_self (a b : Int) : laws_eqPrio.f a b a b = some true := by unfold laws_eqPrio.f; simp
theorem laws_toPrio_eq (a b : Int) : laws_toPrio.f a b = some (a, b) := rfl
theorem holds : ∀ (l0 : List S95) (a1_0 : Int) (a1_1 : Int) (a2 : Int), l0.length ≤ maxLen → (∀ x ∈ l0, wf95 x) → (Lit.int .i64 a1_0).wf = true → (Lit.int .i64 a1_1).wf = true → (Lit.int .i64 a2).wf = true → ∃ k, laws_FnExactAskPrio.f k l0 a1_0 a1_1 a2 = some true := by
  intros
  apply Ev.rounds
  unfold laws_FnExactAskPrio.f
  repeat (first
    | exact Ev.now _
    | dsimp only
    | (refine Ev.ifp ?_ ?_; focus (first | rfl | omega | (simp; done)))
    | (refine Ev.ifn ?_ ?_; focus (first | omega | (simp; done)))
    | refine Ev.bindE (laws_eqPath_self ..) ?_
    | refine Ev.bind (laws_eqPathS_self _ (by first | omega | (simp only [List.length_map, markInts_length]; omega) | (simp; omega))) ?_
    | refine Ev.bindE (laws_eqPrio_self ..) ?_
    | refine Ev.szb (laws_szPathS_eq _ _ (by assumption) (by omega) (by omega)) (fun _ => ?_) (fun _ => ?_)
    | refine Ev.bindE (laws_toPath_eq ..) ?_
    | refine Ev.bind (laws_toPathS_eq _ (by first | omega | (simp only [List.length_map, markInts_length]; omega) | (simp; omega))) ?_
    | refine Ev.bindE (laws_toPrio_eq ..) ?_
    | refine Ev.bind (spec_AskPrio_eq _ _ _ _ (by first | omega | (simp only [List.length_map, markInts_length]; omega) | (simp; omega))) ?_
    | refine Ev.bind (impl_AskPrio_eq _ _ _ _ (by first | omega | (simp only [List.length_map, markInts_length]; omega) | (simp; omega))) ?_
    | (refine Ev.succ ?_; simp only [laws_FnExactAskPrio.j0])
    | (refine Ev.ifd (fun _ => by exact Ev.now _) (fun _ => ?_)))
end Go.Proofs.Ytdaofiiedclmpaa.Pure.FnExactAskPrio
