/- The law FnExactLongestSiren of the given program, as a statement over numbers and lists alone, for all arguments; no conditions but the machine's own bounds. -/
import Derived.Test.YtdaofiiedclmpaaPFnExactLongestSirenx
import Derived.Test.YtdaofiiedclmpaaBase
namespace Go.Proofs.Ytdaofiiedclmpaa.Pure.FnExactLongestSiren
open Go.RowKit Go.Proofs.Ytdaofiiedclmpaa.PFnExactLongestSiren Go.Proofs.YtdaofiiedclmpaaW.PrintWords Go.Proofs.YtdaofiiedclmpaaW.PrintLast Go.Proofs.Ytdaofiiedclmpaa.Bas
set_option linter.unusedVariables false
set_option linter.unusedSimpArgs false
def wf95 (x : S95) : Prop := (Lit.int .i64 x.f0).wf = true ∧ (Lit.int .i64 x.f1).wf = true ∧ (Lit.int .i64 x.f2).wf = true ∧ (Lit.int .i64 x.f3).wf = true
theorem spec_l1In_eq (a lo hi : Int) : spec_l1In.f a lo hi = some (decide (lo ≤ a ∧ a ≤ hi)) := by
  unfold spec_l1In.f; grind
theorem impl_InRange_eq (a lo hi : Int) : impl_InRange.f a lo hi = some (decide (lo ≤ a ∧ a ≤ hi)) := by
  unfold impl_InRange.f; grind
theorem rdT_lawsPath (xs : List S95) (i : Nat) (h : i < xs.length) : rd_T95 xs (i : Int) = xs[i] := by simp [rd_T95, h]
theorem rdT_Path (xs : List S93) (i : Nat) (h : i < xs.length) : rd_T93 xs (i : Int) = xs[i] := by simp [rd_T93, h]
theorem laws_toPath_eq (a0 : Int) (a1 : Int) (a2 : Int) (a3 : Int) : laws_toPath.f a0 a1 a2 a3 = some (a0, a1, a2, a3) := rfl
theorem laws_eqPath_self (a0 : Int) (a1 : Int) (a2 : Int) (a3 : Int) : laws_eqPath.f a0 a1 a2 a3 a0 a1 a2 a3 = some true := by unfold laws_eqPath.f; simp
theorem laws_szPathS_eq (l : List S95) (a : Int) (hl : l.length ≤ maxLen) (h0 : 0 ≤ a) (h1 : a ≤ 1048576) : laws_szPathS.f l a = some (if (l.length : Int) ≤ a then a - l.length else -1) := by
  unfold maxLen at hl; unfold laws_szPathS.f; rw [wrap_id (by omega) (by omega)]; grind
def convPath (x : S95) : S93 := ⟨x.f0, x.f1, x.f2, x.f3⟩
theorem laws_toPathS_eq (l : List S95) (hl : l.length ≤ 1048576) : Ev (fun k => laws_toPathS.f k l) (l.map convPath) := by
  unfold laws_toPathS.f
  simp only [show (0 : Int) ≤ l.length by omega, Int.toNat_natCast, show l.length ≤ 8796093022208 by omega, if_true]
  exact Ev.copy (g := fun k ys i => laws_toPathS.l0 k l ys i) l convPath z93 (fun i ys r h hy hr => by
    refine Ev.succ ?_
    have h1 : (i : Int) < (l.length : Int) := by omega
    have h2 : (0 : Int) ≤ (i : Int) := by omega
    have h3 : (i : Int) < (ys.length : Int) := by omega
    simp only [laws_toPathS.l0, h1, h2, h3, if_true, rdT_lawsPath _ _ h, laws_toPath_eq, Option.bind_some, Int.toNat_natCast, wrap_id (n := (i : Int) + 1) (by omega) (by omega)]
    exact hr) (fun ys => by
    refine Ev.succ ?_
    simp only [laws_toPathS.l0, Int.lt_irrefl, if_false]
    exact Ev.now _)
theorem laws_eqPathS_self (l : List S93) (hl : l.length ≤ 1048576) : Ev (fun k => laws_eqPathS.f k l l) true := by
  unfold laws_eqPathS.f
  simp only [if_true]
  have := Ev.all (g := fun k i => laws_eqPathS.l0 k l l i) l.length (fun _ => true) (fun i r h _ hr => by
    refine Ev.succ ?_
    have h1 : (i : Int) < (l.length : Int) := by omega
    have h2 : (0 : Int) ≤ (i : Int) := by omega
    simp only [laws_eqPathS.l0, h1, h2, if_true, laws_eqPath_self, Option.bind_some, wrap_id (n := (i : Int) + 1) (by omega) (by omega)]
    exact hr) (fun i h hf => by simp at hf) (by
    refine Ev.succ ?_
    simp only [laws_eqPathS.l0, Int.lt_irrefl, if_false]
    exact Ev.now _)
  exact evq this (by rw [List.all_eq_true]; intros; rfl)
theorem impl_IsPath_eq (a b c d : Int) : impl_IsPath.f a b c d = some (isPath a b c d) := by
  unfold impl_IsPath.f isPath
  simp only [impl_InRange_eq, Option.bind_some]; grind
theorem spec_IsPath_eq (a b c d : Int) : spec_IsPath.f a b c d = some (isPath a b c d) := by
  unfold spec_IsPath.f isPath
  simp only [spec_l1In_eq, Option.bind_some]; grind
def isP (p : S93) : Bool := isPath p.f0 p.f1 p.f2 p.f3
def okAt (l : List S93) (i : Nat) : Bool := isP (rd_T93 l (i : Int)) && (decide (i = 0) || decide ((rd_T93 l ((i : Int) - 1)).f0 < (rd_T93 l (i : Int)).f0))
def arePaths (l : List S93) : Bool := (List.range l.length).all (okAt l) && decide (l.length ≤ 12)
theorem arePaths_len {l : List S93} (h : arePaths l = true) : l.length ≤ 12 := by simp [arePaths] at h; exact h.2
theorem arePaths_at {l : List S93} (h : arePaths l = true) (i : Nat) (hi : i < l.length) : isP l[i] = true := by
  simp only [arePaths, Bool.and_eq_true, List.all_eq_true, List.mem_range] at h
  have := h.1 i hi
  simp only [okAt, Bool.and_eq_true, rdT_Path _ _ hi] at this
  exact this.1
theorem arePaths_asc {l : List S93} (h : arePaths l = true) (i : Nat) (hi : i + 1 < l.length) : (l[i]'(by omega)).f0 < l[i + 1].f0 := by
  simp only [arePaths, Bool.and_eq_true, List.all_eq_true, List.mem_range] at h
  have := h.1 (i + 1) hi
  simp only [okAt, Bool.and_eq_true, rdT_Path _ _ hi] at this
  rw [show ((i + 1 : Nat) : Int) - 1 = (i : Int) by omega, rdT_Path _ _ (by omega)] at this
  simpa using this.2
def findP (l : List S93) (id : Int) : Int := Go.Proofs.Ytdaofiiedclmpaa.Hnd.fidx (fun x : S93 => x.f0 == id) l 0
theorem findP_lo (l : List S93) (id : Int) : -1 ≤ findP l id := fidx_lo _ _
theorem findP_hi (l : List S93) (id : Int) : findP l id < l.length := fidx_hi _ _
theorem findP_at {l : List S93} {id : Int} (h : 0 ≤ findP l id) : ∃ (i : Nat) (hi : i < l.length), findP l id = (i : Int) ∧ l[i].f0 = id := by
  rcases fidx_cases (fun x : S93 => x.f0 == id) l 0 with ⟨h1, _⟩ | ⟨i, h1, h2, h3, _⟩
  · unfold findP at h; omega
  · exact ⟨i, h2, by unfold findP; omega, by simpa using h3⟩
theorem findP_none {l : List S93} {id : Int} (h : findP l id < 0) : ∀ x ∈ l, x.f0 ≠ id := by
  rcases fidx_cases (fun x : S93 => x.f0 == id) l 0 with ⟨_, h2⟩ | ⟨i, h1, _⟩
  · intro x hx; simpa using h2 x hx
  · unfold findP at h; omega
theorem spec_ArePaths_eq (l : List S93) (hl : l.length ≤ 1048576) : Ev (fun k => spec_ArePaths.f k l) (arePaths l) := by
  unfold spec_ArePaths.f arePaths
  refine evAnd (g := fun k i => spec_ArePaths.l0 k l i) (fun i r h hP hr => ?_) (fun i h hP => ?_) ?_
  · refine Ev.succ ?_
    unfold okAt isP at hP
    rw [Bool.and_eq_true] at hP
    simp only [spec_ArePaths.l0, show (i : Int) < (l.length : Int) by omega, show (0 : Int) ≤ (i : Int) by omega, if_true, spec_IsPath_eq, Option.bind_some, hP.1, wrap_id (n := (i : Int) + 1) (by omega) (by omega)]
    by_cases h0 : i = 0
    · subst h0; simpa using hr
    · have h2 := hP.2
      rw [decide_eq_false h0, Bool.false_or, decide_eq_true_eq] at h2
      simp only [show (i : Int) > 0 by omega, if_true, wrap_id (n := (i : Int) - 1) (by omega) (by omega), show (0 : Int) ≤ (i : Int) - 1 by omega, show (i : Int) - 1 < (l.length : Int) by omega, show ¬ (rd_T93 l ((i : Int) - 1)).f0 ≥ (rd_T93 l (i : Int)).f0 by omega, if_false]
      exact hr
  · refine Ev.succ ?_
    unfold okAt isP at hP
    simp only [spec_ArePaths.l0, show (i : Int) < (l.length : Int) by omega, show (0 : Int) ≤ (i : Int) by omega, if_true, spec_IsPath_eq, Option.bind_some, wrap_id (n := (i : Int) + 1) (by omega) (by omega)]
    cases hp : isPath (rd_T93 l (i : Int)).f0 (rd_T93 l (i : Int)).f1 (rd_T93 l (i : Int)).f2 (rd_T93 l (i : Int)).f3
    · simp only [Bool.false_eq_true, if_false]; exact Ev.now _
    · rw [hp, Bool.true_and, Bool.or_eq_false_iff, decide_eq_false_iff_not, decide_eq_false_iff_not] at hP
      simp only [if_true, show (i : Int) > 0 by omega, wrap_id (n := (i : Int) - 1) (by omega) (by omega), show (0 : Int) ≤ (i : Int) - 1 by omega, show (i : Int) - 1 < (l.length : Int) by omega, show (rd_T93 l ((i : Int) - 1)).f0 ≥ (rd_T93 l (i : Int)).f0 by omega]
      exact Ev.now _
  · refine Ev.succ ?_
    simp only [spec_ArePaths.l0, Int.lt_irrefl, if_false]
    exact evq (Ev.now _) (by by_cases h : l.length ≤ 12 <;> simp [h] <;> omega)
theorem impl_ArePaths_eq (l : List S93) (hl : l.length ≤ 1048576) : Ev (fun k => impl_ArePaths.f k l) (arePaths l) := by
  unfold impl_ArePaths.f arePaths
  by_cases h12 : l.length ≤ 12
  · simp only [show ¬ ((l.length : Int) > 12) by omega, if_false, decide_eq_true h12]
    refine evAnd (g := fun k i => impl_ArePaths.l0 k l l (l.length : Int) i) (fun i r h hP hr => ?_) (fun i h hP => ?_) ?_
    · refine Ev.succ ?_
      unfold okAt isP at hP
      rw [Bool.and_eq_true] at hP
      simp only [impl_ArePaths.l0, show (i : Int) < (l.length : Int) by omega, show (0 : Int) ≤ (i : Int) by omega, if_true, impl_IsPath_eq, Option.bind_some, hP.1, wrap_id (n := (i : Int) + 1) (by omega) (by omega)]
      by_cases h0 : i = 0
      · subst h0; simpa using hr
      · have h2 := hP.2
        rw [decide_eq_false h0, Bool.false_or, decide_eq_true_eq] at h2
        simp only [show (i : Int) > 0 by omega, if_true, wrap_id (n := (i : Int) - 1) (by omega) (by omega), show (0 : Int) ≤ (i : Int) - 1 by omega, show (i : Int) - 1 < (l.length : Int) by omega, show ¬ (rd_T93 l (i : Int)).f0 ≤ (rd_T93 l ((i : Int) - 1)).f0 by omega, if_false]
        exact hr
    · refine Ev.succ ?_
      unfold okAt isP at hP
      simp only [impl_ArePaths.l0, show (i : Int) < (l.length : Int) by omega, show (0 : Int) ≤ (i : Int) by omega, if_true, impl_IsPath_eq, Option.bind_some, wrap_id (n := (i : Int) + 1) (by omega) (by omega)]
      cases hp : isPath (rd_T93 l (i : Int)).f0 (rd_T93 l (i : Int)).f1 (rd_T93 l (i : Int)).f2 (rd_T93 l (i : Int)).f3
      · simp only [Bool.false_eq_true, if_false]; exact Ev.now _
      · rw [hp, Bool.true_and, Bool.or_eq_false_iff, decide_eq_false_iff_not, decide_eq_false_iff_not] at hP
        simp only [if_true, show (i : Int) > 0 by omega, wrap_id (n := (i : Int) - 1) (by omega) (by omega), show (0 : Int) ≤ (i : Int) - 1 by omega, show (i : Int) - 1 < (l.length : Int) by omega, show (rd_T93 l (i : Int)).f0 ≤ (rd_T93 l ((i : Int) - 1)).f0 by omega]
        exact Ev.now _
    · refine Ev.succ ?_
      simp only [impl_ArePaths.l0, Int.lt_irrefl, if_false]
      exact Ev.now _
  · simp only [show (l.length : Int) > 12 by omega, if_true, decide_eq_false h12, Bool.and_false]; exact Ev.now _
theorem spec_Max_eq (a b : Int) : spec_Max.f a b = some (max a b) := by
  unfold spec_Max.f; grind
def clearOf (a b c d : Int) : Int := if isPath a b c d then (if b = 1 then 2 else if b = 3 then 3 else 5) else 0
theorem clearOf_bd (a b c d : Int) : 0 ≤ clearOf a b c d ∧ clearOf a b c d ≤ 5 := by unfold clearOf; split <;> (try split) <;> (try split) <;> omega
theorem impl_ClearOf_eq (a b c d : Int) : impl_ClearOf.f a b c d = some (clearOf a b c d) := by
  unfold impl_ClearOf.f clearOf
  simp only [impl_IsPath_eq, Option.bind_some]; grind
theorem spec_ClearOf_eq (a b c d : Int) : spec_ClearOf.f a b c d = some (clearOf a b c d) := by
  unfold spec_ClearOf.f clearOf
  simp only [spec_IsPath_eq, Option.bind_some]
  cases h : isPath a b c d
  · simp
  · have := isPath_bd h
    rcases (show b = 1 ∨ b = 2 ∨ b = 3 by omega) with rfl | rfl | rfl <;> simp [rd]
def clr (l : List S93) (i : Nat) : Int := clearOf (rd_T93 l (i : Int)).f0 (rd_T93 l (i : Int)).f1 (rd_T93 l (i : Int)).f2 (rd_T93 l (i : Int)).f3
def longestClear (l : List S93) : Int := if arePaths l then (List.range l.length).foldl (fun m (i : Nat) => max m (clr l i)) 0 else 0
theorem longestClear_bd (l : List S93) : 0 ≤ longestClear l ∧ longestClear l ≤ 5 := by
  unfold longestClear
  split
  · have : ∀ (xs : List Nat) (m : Int), 0 ≤ m → m ≤ 5 → 0 ≤ xs.foldl (fun m (i : Nat) => max m (clr l i)) m ∧ xs.foldl (fun m (i : Nat) => max m (clr l i)) m ≤ 5 := by
      intro xs
      induction xs with
      | nil => intro m h1 h2; exact ⟨h1, h2⟩
      | cons x xs ih => intro m h1 h2; have := clearOf_bd (rd_T93 l (x : Int)).f0 (rd_T93 l (x : Int)).f1 (rd_T93 l (x : Int)).f2 (rd_T93 l (x : Int)).f3; exact ih (max m (clr l x)) (by unfold clr; omega) (by unfold clr; omega)
    exact this _ 0 (by omega) (by omega)
  · omega
theorem impl_LongestClear_eq (l : List S93) (hl : l.length ≤ 1048576) : Ev (fun k => impl_LongestClear.f k l) (longestClear l) := by
  unfold impl_LongestClear.f longestClear
  refine Ev.bind (impl_ArePaths_eq l hl) ?_
  cases arePaths l
  · simp only [Bool.false_eq_true, if_false]; exact Ev.now _
  simp only [if_true]
  exact Ev.fold (g := fun k m i => impl_LongestClear.l0 k m l (l.length : Int) i) l.length (fun m (i : Nat) => max m (clr l i)) id (fun _ _ => True) (fun i s r h _ hr => by
      refine Ev.succ ?_
      simp only [impl_LongestClear.l0, show (i : Int) < (l.length : Int) by omega, show (0 : Int) ≤ (i : Int) by omega, if_true, impl_ClearOf_eq, Option.bind_some, wrap_id (n := (i : Int) + 1) (by omega) (by omega)]
      rw [show mx s (clearOf (rd_T93 l (i : Int)).f0 (rd_T93 l (i : Int)).f1 (rd_T93 l (i : Int)).f2 (rd_T93 l (i : Int)).f3) = max s (clr l i) by unfold mx clr; grind]
      exact hr trivial) (fun _ _ _ _ => trivial) (fun s _ => by
      refine Ev.succ ?_
      simp only [impl_LongestClear.l0, Int.lt_irrefl, if_false]
      exact Ev.now _) 0 trivial
theorem spec_LongestClear_eq (l : List S93) (hl : l.length ≤ 1048576) : Ev (fun k => spec_LongestClear.f k l) (longestClear l) := by
  unfold spec_LongestClear.f longestClear
  have jf : ∀ m i : Int, Ev (fun k => spec_LongestClear.j1 k l m i false) m := by
    intro m i
    refine Ev.succ ?_
    simp only [spec_LongestClear.j1, Bool.false_eq_true, if_false]; exact Ev.now _
  cases ha : arePaths l
  · simp only [Bool.false_eq_true, if_false]
    refine Ev.succ ?_
    by_cases h0 : (0 : Int) < (l.length : Int)
    · simp only [spec_LongestClear.l0, h0, if_true]
      refine Ev.bind (spec_ArePaths_eq l hl) ?_
      rw [ha]; exact jf 0 0
    · simp only [spec_LongestClear.l0, h0, if_false]; exact jf 0 0
  simp only [if_true]
  exact Ev.fold (g := fun k m i => spec_LongestClear.l0 k l m i) l.length (fun m (i : Nat) => max m (clr l i)) id (fun _ _ => True) (fun i s r h _ hr => by
      refine Ev.succ ?_
      simp only [spec_LongestClear.l0, show (i : Int) < (l.length : Int) by omega, if_true]
      refine Ev.bind (spec_ArePaths_eq l hl) ?_
      rw [ha]
      refine Ev.succ ?_
      simp only [spec_LongestClear.j1, show (i : Int) < (l.length : Int) by omega, show (0 : Int) ≤ (i : Int) by omega, if_true, spec_ClearOf_eq, spec_Max_eq, Option.bind_some, wrap_id (n := (i : Int) + 1) (by omega) (by omega)]
      exact hr trivial) (fun _ _ _ _ => trivial) (fun s _ => by
      refine Ev.succ ?_
      simp only [spec_LongestClear.l0, Int.lt_irrefl, if_false]
      exact jf _ _) 0 trivial
theorem impl_LongestSiren_eq (l : List S93) (hl : l.length ≤ 1048576) : Ev (fun k => impl_LongestSiren.f k l) (7 + 2 * longestClear l + 1) := by
  unfold impl_LongestSiren.f
  refine Ev.bind (impl_LongestClear_eq l hl) ?_
  have := longestClear_bd l
  rw [wrap_id (n := 2 * longestClear l) (by omega) (by omega), wrap_id (n := 7 + 2 * longestClear l) (by omega) (by omega), wrap_id (by omega) (by omega)]
  exact Ev.now _
theorem spec_LongestSiren_eq (l : List S93) (hl : l.length ≤ 1048576) : Ev (fun k => spec_LongestSiren.f k l) (7 + 2 * longestClear l + 1) := by
  unfold spec_LongestSiren.f
  refine Ev.bind (spec_LongestClear_eq l hl) ?_
  have := longestClear_bd l
  rw [wrap_id (n := 2 * longestClear l) (by omega) (by omega), wrap_id (n := 7 + 2 * longestClear l) (by omega) (by omega), wrap_id (by omega) (by omega)]
  exact Ev.now _
theorem holds : ∀ (l0 : List S95), l0.length ≤ maxLen → (∀ x ∈ l0, wf95 x) → ∃ k, laws_FnExactLongestSiren.f k l0 = some true := by
  intros
  apply Ev.rounds
  unfold laws_FnExactLongestSiren.f
  repeat (first
    | exact Ev.now _
    | dsimp only
    | (refine Ev.ifp ?_ ?_; focus (first | rfl | omega | (simp; done)))
    | (refine Ev.ifn ?_ ?_; focus (first | omega | (simp; done)))
    | refine Ev.bindE (laws_eqPath_self ..) ?_
    | refine Ev.bind (laws_eqPathS_self _ (by first | omega | (simp only [List.length_map, markInts_length]; omega) | (simp; omega))) ?_
    | refine Ev.szb (laws_szPathS_eq _ _ (by assumption) (by omega) (by omega)) (fun _ => ?_) (fun _ => ?_)
    | refine Ev.bindE (laws_toPath_eq ..) ?_
    | refine Ev.bind (laws_toPathS_eq _ (by first | omega | (simp only [List.length_map, markInts_length]; omega) | (simp; omega))) ?_
    | refine Ev.bind (spec_LongestSiren_eq _ (by first | omega | (simp only [List.length_map, markInts_length]; omega) | (simp; omega))) ?_
    | refine Ev.bind (impl_LongestSiren_eq _ (by first | omega | (simp only [List.length_map, markInts_length]; omega) | (simp; omega))) ?_
    | (refine Ev.ifd (fun _ => by exact Ev.now _) (fun _ => ?_)))
end Go.Proofs.Ytdaofiiedclmpaa.Pure.FnExactLongestSiren
