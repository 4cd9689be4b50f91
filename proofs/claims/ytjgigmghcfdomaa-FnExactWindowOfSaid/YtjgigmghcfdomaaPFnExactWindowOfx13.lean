/- Printed by a program: what the Go functions compute, as plain Lean functions (.f), and the proofs that the machine's calls come to just that (.calls). -/
import Derived.Test.YtjgigmghcfdomaaPFnExactWindowOfx0
import Derived.Test.YtjgigmghcfdomaaPFnExactWindowOfx3
import Derived.Test.YtjgigmghcfdomaaPFnExactWindowOfx9
import Derived.Test.YtjgigmghcfdomaaPFnExactWindowOfx10
import Derived.Test.YtjgigmghcfdomaaPFnExactWindowOfx12
namespace Go.Proofs.Ytjgigmghcfdomaa.PFnExactWindowOf
open Go.RowKit Go.Proofs.YtjgigmghcfdomaaW.PrintWords Go.Proofs.YtjgigmghcfdomaaW.PrintLast Go.Proofs.YtjgigmghcfdomaaW.PrintMore
attribute [local go_sem] max2_int min2_int max_two min_two max_three min_three max_four min_four   -- for this text's walks alone
set_option linter.unusedVariables false
set_option linter.unusedSimpArgs false

/-! ### spec_l8Long: function 103 -/
def spec_l8Long.f (k : Nat) (l0 : List (S71)) (l1 : List (S85)) (a2 : Int) : Option (Int) := if 0 ≤ a2 then (if a2 < (l1.length : Int) then (if (l1.length : Int) = 0 then (none) else (if 0 ≤ (Int.tmod (wrap64 (a2 + 1)) (l1.length : Int)) then (if (Int.tmod (wrap64 (a2 + 1)) (l1.length : Int)) < (l1.length : Int) then ((spec_ClearBetween.f k l0 ((rd_T85 l1 a2).f0) ((rd_T85 l1 (Int.tmod (wrap64 (a2 + 1)) (l1.length : Int))).f0)).bind fun t264 => (some (wrap64 (((rd_T85 l1 a2).f1) + t264)))) else (none)) else (none))) else (none)) else (none)
def spec_l8Long.T1 : Bool × List (List Nat × List Nat) := (true, [([], []), ([], []), ([0, 1], [0, 1]), ([2], [2]), ([3], [3]), ([], []), ([], []), ([], []), ([6, 7], [6, 7]), ([8], [8]), ([9], [9]), ([], []), ([], []), ([12], [12]), ([], []), ([14], [14]), ([13, 15], [13, 15]), ([11, 16], [11, 16]), ([17], [17]), ([18], [18]), ([5, 10, 19], [5, 10, 19]), ([4, 20], [4, 20]), ([21, 20, 0, 1, 2, 3, 4, 5, 6, 7, 8, 9, 10, 11, 12, 13, 14, 15, 16, 17, 18, 19, 20, 21], [21])])
def spec_l8Long.B1 : List Nat := [0, 0, 3, 7, 15, 0, 0, 0, 192, 448, 960, 0, 0, 4096, 0, 16384, 61440, 129024, 260096, 522240, 1048544, 2097151, 4194303]
theorem spec_l8Long.tab1 : rtab .any (opsOf Try.f103 1) = spec_l8Long.T1 := by kernel_rfl
theorem spec_l8Long.bits1 : waitsOk spec_l8Long.T1.2 spec_l8Long.B1 = true := by kernel_rfl
set_option maxHeartbeats 8000000 in
set_option maxRecDepth 100000 in
theorem spec_l8Long.calls (k : Nat) (A0 : Option Addr) (c0 : Nat) (l0 : List (S71)) (A1 : Option Addr) (c1 : Nat) (l1 : List (S85)) (a2 : Int) (r : Int) (w : World) (hr0 : Kd.C k71 w A0 l0.length l0) (hc0 : l0.length ≤ c0) (hr1 : Kd.C k85 w A1 l1.length l1) (hc1 : l1.length ≤ c1) (h : spec_l8Long.f k l0 l1 a2 = some r) :
  Calls Try.prog 103 #[.slice A0 l0.length c0, .slice A1 l1.length c1, .int .i64 a2] w fun e w' => e = .returned (.int .i64 r) ∧ Below w.heap.size w w' := by
 have HR0 := Aside0.mk hr0
 have HC0 := Aside0.mk hc0
 clear hr0 hc0
 have HR1 := Aside0.mk hr1
 have HC1 := Aside0.mk hc1
 clear hr1 hc1
 have HB := Aside0.mk (Below.refl w.heap.size w)
 have H : (if 0 ≤ a2 then (if a2 < (l1.length : Int) then (if (l1.length : Int) = 0 then (none) else (if 0 ≤ (Int.tmod (wrap64 (a2 + 1)) (l1.length : Int)) then (if (Int.tmod (wrap64 (a2 + 1)) (l1.length : Int)) < (l1.length : Int) then ((spec_ClearBetween.f k l0 ((rd_T85 l1 a2).f0) ((rd_T85 l1 (Int.tmod (wrap64 (a2 + 1)) (l1.length : Int))).f0)).bind fun t264 => (some (wrap64 (((rd_T85 l1 a2).f1) + t264)))) else (none)) else (none))) else (none)) else (none)) = some r := h
 clear h
 by_cases c4 : 0 ≤ a2
 ·rw [if_pos c4] at H
  have c4b0 : decide (0 ≤ a2) = true := decide_eq_true c4
  clear c4
  by_cases c5 : a2 < (l1.length : Int)
  ·rw [if_pos c5] at H
   have c5b0 : decide (a2 < (l1.length : Int)) = true := decide_eq_true c5
   clear c5
   by_cases c6 : (l1.length : Int) = 0
   ·rw [if_pos c6] at H
    exact absurd H (by simp)
   ·rw [if_neg c6] at H
    have c6b0 : ((l1.length : Int) == 0) = false := beq_eq_false_iff_ne.mpr c6
    have c6b1 : ((l1.length : Int) != 0) = true := bne_iff_ne.mpr c6
    have c6b2 : ¬ (l1 = []) := fun h_ => c6 (by rw [h_]; rfl)
    obtain ⟨ji7, hji7⟩ : ∃ j_ : Int, (Int.tmod (wrap64 (a2 + 1)) (l1.length : Int)) = j_ := ⟨_, rfl⟩
    replace H : (if 0 ≤ (ji7) then (if (ji7) < (l1.length : Int) then ((spec_ClearBetween.f k l0 ((rd_T85 l1 a2).f0) ((rd_T85 l1 (ji7)).f0)).bind fun t264 => (some (wrap64 (((rd_T85 l1 a2).f1) + t264)))) else (none)) else (none)) = some r := by first | (rw [hji7] at H; exact H) | (simp only [hji7] at H ⊢; exact H)
    by_cases c8 : 0 ≤ (ji7)
    ·rw [if_pos c8] at H
     have c8b0 : decide (0 ≤ (ji7)) = true := decide_eq_true c8
     clear c8
     by_cases c9 : (ji7) < (l1.length : Int)
     ·rw [if_pos c9] at H
      have c9b0 : decide ((ji7) < (l1.length : Int)) = true := decide_eq_true c9
      clear c9
      replace H := S.bd H; obtain ⟨t264, A10, H⟩ := H
      (try dsimp only at H)
      obtain rfl := Option.some.inj H
      go_enter Try.func103, Try.ntmps103
      try go_wp2
      replace HB := Aside0.mk (below_drew1 HB.out)
      have p261 : 0 ≤ (a2 : Int) := S.oD
      have q261 : a2 < (l1.length : Int) := S.oD
      obtain ⟨ad261, A261_0, c261_0, e261, hx261_0, hx261_1, hl261_0, hi261_0⟩ := at_T85 HR1.out a2 p261 q261
      have hw261_1 := hx261_1
      have hw261_0 := hx261_0
      cases e261
      replace hx261_0 := S.hb HB hx261_0
      replace hx261_1 := S.hb HB hx261_1
      have HR261_0 := Aside0.mk hi261_0
      have HC261_0 := Aside0.mk hl261_0
      clear hi261_0 hl261_0
      replace p261 := eq_true p261
      replace q261 := eq_true q261
      have p262 : 0 ≤ (a2 : Int) := S.oD
      have q262 : a2 < (l1.length : Int) := S.oD
      obtain ⟨ad262, A262_0, c262_0, e262, hx262_0, hx262_1, hl262_0, hi262_0⟩ := at_T85 HR1.out a2 p262 q262
      have hw262_1 := hx262_1
      have hw262_0 := hx262_0
      obtain rfl : ad261 = ad262 := (by injection e262)
      replace hx262_0 := S.hb HB hx262_0
      replace hx262_1 := S.hb HB hx262_1
      have HR262_0 := Aside0.mk hi262_0
      have HC262_0 := Aside0.mk hl262_0
      clear hi262_0 hl262_0
      replace p262 := eq_true p262
      replace q262 := eq_true q262
      have ea_ := Option.some.inj (hx261_0.symm.trans hx262_0)
      injection ea_ with ea_ en_ ec_
      subst ea_
      subst ec_
      clear en_
      have p263 : 0 ≤ ((ji7) : Int) := S.oD
      have q263 : (ji7) < (l1.length : Int) := S.oD
      obtain ⟨ad263, A263_0, c263_0, e263, hx263_0, hx263_1, hl263_0, hi263_0⟩ := at_T85 HR1.out (ji7) p263 q263
      have hw263_1 := hx263_1
      have hw263_0 := hx263_0
      obtain rfl : ad261 = ad263 := (by injection e263)
      replace hx263_0 := S.hb HB hx263_0
      replace hx263_1 := S.hb HB hx263_1
      have HR263_0 := Aside0.mk hi263_0
      have HC263_0 := Aside0.mk hl263_0
      clear hi263_0 hl263_0
      replace p263 := eq_true p263
      replace q263 := eq_true q263
      refine S.st (n := 23) (ds := []) #[false, false, false, false, false, false, false, false, false, false, false, false, false, false, false, false, false, false, false, false, false, false, false] (fun w_ h_ => have x_ := And.intro (S.q h_ (S.hb HB hw261_0)) (And.intro (S.q h_ (S.hb HB hw261_1)) (And.intro (S.q h_ (S.hb HB hw262_0)) (And.intro (S.q h_ (S.hb HB hw262_1)) (And.intro (S.q h_ (S.hb HB hw263_0)) (S.q h_ (S.hb HB hw263_1)))))); x_) (fun hHeld => ?_); refine with_tabW spec_l8Long.tab1 spec_l8Long.bits1 (fun HT_ HW_ => ?_)
      generalize w.drew = w11 at HB HR261_0 HR262_0 HR263_0 hx261_0 hx261_1 hx262_0 hx262_1 hx263_0 hx263_1 hHeld ⊢
      refine S.pS 0 7 ?_
      refine S.pS 1 8 ?_
      refine S.pS 2 9 ?_
      refine S.pS 3 10 ?_
      refine S.pS 5 12 ?_
      refine S.pS 6 13 ?_
      refine S.pS 7 14 ?_
      refine S.pS 8 15 ?_
      refine S.pS 9 16 ?_
      refine S.pS 11 18 ?_
      refine S.pS 12 19 ?_
      refine S.pS 13 20 ?_
      refine S.pS 14 21 ?_
      refine S.pS 15 22 ?_
      refine S.pS 16 23 ?_
      refine S.pS 17 24 ?_
      refine S.pS 18 25 ?_
      refine S.tK 4 11 #[true, true, true, true, true, true, true, true, true, true, false, true, true, true, true, true, true, true, true, false, false, false, false] ?_
      refine S.tK 10 17 #[true, true, true, true, true, true, true, true, true, true, true, true, true, true, true, true, true, true, true, false, false, false, false] ?_
      refine S.tK 19 26 #[true, true, true, true, true, true, true, true, true, true, true, true, true, true, true, true, true, true, true, true, false, false, false] ?_
      refine S.oN 20 27 #[true, true, true, true, true, true, true, true, true, true, true, true, true, true, true, true, true, true, true, true, true, false, false] (fun K hK => ?_)
      refine goes_ Try.func126 (by kernel_rfl) rfl #[.slice A0 l0.length c0, .slice A261_0 ((rd_T85 l1 a2).f0).length c261_0, .slice A263_0 ((rd_T85 l1 (ji7)).f0).length c263_0] (by rfl) rfl rfl (by (try simp only [List.map_toArray, List.map_cons, List.map_nil]); first | done | (simp only [hji7]; rfl) | rfl | (simp only [List.length_drop, List.length_take]; rfl)) ?_
      with_reducible refine (spec_ClearBetween.calls k _ _ l0 _ _ ((rd_T85 l1 a2).f0) _ _ ((rd_T85 l1 (ji7)).f0) t264 _ ?s1 ?s2 ?s3 ?s4 ?s5 ?s6 A10.out).mono ?_
      (case s1 => exact S.cA HR0.out)
      (case s2 => exact HC0.out)
      (case s3 => exact S.cA HR262_0.out)
      (case s4 => exact HC262_0.out)
      (case s5 => exact S.cA HR263_0.out)
      (case s6 => exact HC263_0.out)
      rintro e w12 ⟨rfl, hb⟩
      refine ⟨_, rfl, ?_⟩
      replace HB := S.sA hb
      (try clear hb)
      (try clear hb2)
      (try clear hk)
      (try clear hi)
      refine hK.out _ _ ⟨(S.hb HB hw261_0 :), (S.hb HB hw261_1 :), (S.hb HB hw262_0 :), (S.hb HB hw262_1 :), (S.hb HB hw263_0 :), (S.hb HB hw263_1 :)⟩ (fun hHeld => ?_)
      clear hK K
      refine S.nm 27 ?_
      refine S.pS 21 28 ?_
      refine S.pS 22 6 ?_
      refine done_ (done_of HT_.out (by kernel_rfl)) ?_
      try go_wp2
      go_ret
      exact ⟨by first | rfl | (simp [errW_none, errW_some] <;> rfl) | (simp only [← hji7]; first | rfl | (simp [errW_none, errW_some] <;> rfl)) | (simp [*, errW_none, errW_some] <;> rfl), S.bA⟩
     ·rw [if_neg c9] at H
      exact absurd H (by simp)
    ·rw [if_neg c8] at H
     exact absurd H (by simp)
  ·rw [if_neg c5] at H
   exact absurd H (by simp)
 ·rw [if_neg c4] at H
  exact absurd H (by simp)

/-! ### spec_l9Row: function 74 -/
mutual
def spec_l9Row.j0 : Nat → List (S71) → List (S85) → Int → List Int → Bool → Option (List Int)
 | 0, _, _, _, _, _ => none
 | k + 1, x0, x1, x2, x7, x20 => if x20 = true then (some x7) else (spec_l9Row.l0 k x0 x1 x2 x7 0)
def spec_l9Row.l0 : Nat → List (S71) → List (S85) → Int → List Int → Int → Option (List Int)
 | 0, _, _, _, _, _ => none
 | k + 1, x0, x1, x2, x7, x8 => if x8 < (x1.length : Int) then (spec_l9Row.l1 k x0 x1 x2 x7 x8 0) else (some x7)
def spec_l9Row.l1 : Nat → List (S71) → List (S85) → Int → List Int → Int → Int → Option (List Int)
 | 0, _, _, _, _, _, _ => none
 | k + 1, x0, x1, x2, x7, x8, x9 => (spec_l8Long.f k x0 x1 x8).bind fun t270 => (if x9 < t270 then ((spec_l9Light.f k x0 x1 x8 x9 x2).bind fun t271 => (if x7.length < 17592186044416 then (spec_l9Row.l1 k x0 x1 x2 (x7 ++ [t271]) x8 (wrap64 (x9 + 1))) else (none))) else (spec_l9Row.l0 k x0 x1 x2 x7 (wrap64 (x8 + 1))))
end
def spec_l9Row.f (k : Nat) (l0 : List (S71)) (l1 : List (S85)) (a2 : Int) : Option (List Int) := (some (([] : List Int) : List Int)).bind fun y265 => ((spec_IsPlan.f k l0 l1).bind fun t268 => (if t268 = true then ((spec_FindPath.f k l0 a2).bind fun t269 => (spec_l9Row.j0 k l0 l1 a2 y265 (decide (t269 < 0)))) else (spec_l9Row.j0 k l0 l1 a2 y265 true)))
set_option maxHeartbeats 8000000 in
set_option maxRecDepth 100000 in
theorem spec_l9Row.calls (k : Nat) (A0 : Option Addr) (c0 : Nat) (l0 : List (S71)) (A1 : Option Addr) (c1 : Nat) (l1 : List (S85)) (a2 : Int) (r : List Int) (w : World) (hr0 : Kd.C k71 w A0 l0.length l0) (hc0 : l0.length ≤ c0) (hr1 : Kd.C k85 w A1 l1.length l1) (hc1 : l1.length ≤ c1) (h : spec_l9Row.f k l0 l1 a2 = some r) :
  Calls Try.prog 74 #[.slice A0 l0.length c0, .slice A1 l1.length c1, .int .i64 a2] w fun e w' => ∃ v0_ : Value, e = .returned (v0_) ∧ Kd.R (Kd.int .i64) 3 w' w.heap.size (fun _ => True) v0_ r ∧ Below w.heap.size w w' := by
 have HR0 := Aside0.mk hr0
 have HC0 := Aside0.mk hc0
 clear hr0 hc0
 have HR1 := Aside0.mk hr1
 have HC1 := Aside0.mk hc1
 clear hr1 hc1
 have HB := Aside0.mk (Below.refl w.heap.size w)
 have H : ((some (([] : List Int) : List Int)).bind fun y265 => ((spec_IsPlan.f k l0 l1).bind fun t268 => (if t268 = true then ((spec_FindPath.f k l0 a2).bind fun t269 => (spec_l9Row.j0 k l0 l1 a2 y265 (decide (t269 < 0)))) else (spec_l9Row.j0 k l0 l1 a2 y265 true)))) = some r := h
 clear h
 obtain ⟨y265, hy265⟩ : ∃ y_ : List Int, y_ = (([] : List Int)) := ⟨_, rfl⟩
 replace H : ((spec_IsPlan.f k l0 l1).bind fun t268 => (if t268 = true then ((spec_FindPath.f k l0 a2).bind fun t269 => (spec_l9Row.j0 k l0 l1 a2 y265 (decide (t269 < 0)))) else (spec_l9Row.j0 k l0 l1 a2 y265 true))) = some r := by first | (rw [hy265]; with_reducible exact H) | (have H2_ := (Option.bind_some _ _).symm.trans H; rw [hy265]; with_reducible exact H2_) | (have H2_ := (Option.bind_some _ _).symm.trans H; with_reducible exact H2_) | with_reducible exact H | (rw [hy265]; exact H) | exact H
 have Ny265 := Aside0.mk hy265
 clear hy265
 have HC4 := Aside0.mk H
 clear H
 go_enter Try.func74, Try.ntmps74
 go_upto_region 2 with (first | ((with_reducible refine gate_dst (N := 10) rfl ?_); refine Kd.R_lit (Kd.int .i64) _ 3 ?hg (N := 10) ?hd (xs := ([] : List Int)) (inner := []) (ok := fun _ => True) (okp := fun _ => True) ?hr ?hp (fun _ hk => hk) trivial (Below.refl _ _) (Nat.le_refl _) (by simp) ?_; (case hd => rfl); (case hg => rfl); (case hr => first | (go_simp; done) | (go_simp; rfl)); (case hp => exact (Reps.none _ _)); intro v266 w5 ho6 hb hg_ hnew_; clear hg_ hnew_; (first | rw [← Ny265.out] at ho6 | (simp only [Int.reduceToNat] at ho6; rw [← Ny265.out] at ho6)); have HO267 := S.lwA ho6; replace HB := S.sA hb; clear hb ho6))
 (try simp only [Act.put, List.setIfInBounds_toArray, List.set_cons_zero, List.set_cons_succ])
 go_cut [20] (fun v20 wc => ∃ (kq : Nat) (x20_3 : Bool), v20 = .bool x20_3 ∧ Aside0 (spec_l9Row.j0 kq l0 l1 a2 y265 x20_3 = some r) ∧ Aside0 (kq ≤ k) ∧ Aside0 (Kd.R (Kd.int .i64) 3 wc w.heap.size (fun _ => True) v266 y265) ∧ Aside0 (Below w.heap.size w wc))
 case first =>
  have H := HC4.out
  clear HC4
  replace H := S.bd H; obtain ⟨t268, A7, H⟩ := H
  (try dsimp only at H)
  replace H := S.db H; rcases H with ⟨rfl, H⟩ | ⟨rfl, H⟩
  ·replace H := S.bd H; obtain ⟨t269, A9, H⟩ := H
   (try dsimp only at H)
   have H' := Aside0.mk H
   clear H
   go_wp2_with (first | ((with_reducible refine gate_callee (f := 65) rfl ?_); refine S.gL (some 13) Try.func65 #[.slice A0 l0.length c0, .slice A1 l1.length c1] ?_; (with_reducible refine (spec_IsPlan.calls k _ _ l0 _ _ l1 true _ ?s1 HC0.out ?s3 HC1.out A7.out).mono ?_); (case s1 => exact S.cA HR0.out); (case s3 => exact S.cA HR1.out); rintro e w10 ⟨rfl, hb⟩; refine ⟨_, rfl, ?_⟩; replace HO267 := S.rb HO267 hb; replace HB := S.sA hb; (try clear hb)) | (go_at_call 96; (with_reducible refine (spec_FindPath.calls k _ _ l0 a2 t269 _ ?s1 HC0.out A9.out).mono ?_); (case s1 => exact S.cA HR0.out); rintro e w' ⟨rfl, ⟨nd, rfl⟩⟩))
   go_meet
   case rel => exact ⟨_, (decide (t269 < 0)), S.eA, H', S.le, ⟨S.uR HO267.out⟩, ⟨S.bA⟩⟩
  ·have H' := Aside0.mk H
   clear H
   go_wp2_with (first | ((with_reducible refine gate_callee (f := 65) rfl ?_); refine S.gL (some 13) Try.func65 #[.slice A0 l0.length c0, .slice A1 l1.length c1] ?_; (with_reducible refine (spec_IsPlan.calls k _ _ l0 _ _ l1 false _ ?s1 HC0.out ?s3 HC1.out A7.out).mono ?_); (case s1 => exact S.cA HR0.out); (case s3 => exact S.cA HR1.out); rintro e w11 ⟨rfl, hb⟩; refine ⟨_, rfl, ?_⟩; replace HO267 := S.rb HO267 hb; replace HB := S.sA hb; (try clear hb)))
   go_meet
   case rel => exact ⟨_, (true), S.eA, H', S.le, ⟨S.uR HO267.out⟩, ⟨S.bA⟩⟩
 case rest =>
  clear HC4
  try clear c1
  obtain ⟨kq, x20_3, rfl, HA, HJ3, HO_7, HB⟩ := hcut
  cases kq with
  | zero => exact absurd HA.out (by simp [spec_l9Row.j0])
  | succ kj3 =>
   have H := HA.out
   clear HA
   simp only [spec_l9Row.j0] at H
   replace H := S.db H; rcases H with ⟨rfl, H⟩ | ⟨rfl, H⟩
   ·obtain rfl := Option.some.inj H
    go_wp2
    go_ret
    exact ⟨_, S.eW, S.uR HO_7.out, S.bA⟩
   ·have H' := Aside0.mk H
    clear H
    go_wp2
    go_loopg [7, 8] kj3 (fun kq v7 v8 w' => ∃ (x7_2 : List Int) (x8_2 : Int), v8 = .int .i64 x8_2 ∧ Aside0 (spec_l9Row.l0 kq l0 l1 a2 x7_2 x8_2 = some r) ∧ Aside0 (kq ≤ kj3) ∧ Aside0 (Kd.R (Kd.int .i64) 3 w' w.heap.size (fun _ => True) v7 x7_2) ∧ Aside0 (Below w.heap.size w w'))
    case atStart => exact ⟨(y265), (0), S.eA, H', ⟨Nat.le_refl _⟩, ⟨S.uR HO_7.out⟩, ⟨S.bA⟩⟩
    case round =>
     clear H'
     try clear c1
     try clear c12
     obtain ⟨x7_2, x8_2, rfl, HA, HK2, HO_7, HB⟩ := hrel
     cases gk with
     | zero => exact absurd HA.out (by simp [spec_l9Row.l0])
     | succ k2 =>
      have H := HA.out
      clear HA
      simp only [spec_l9Row.l0] at H
      replace H := S.dc H; rcases H with ⟨H, c13b0⟩ | ⟨H, c13b0⟩
      ·have H' := Aside0.mk H
       clear H
       go_wp2
       go_loopg [7, 9] k2 (fun kq v7 v9 w' => ∃ (x7_3 : List Int) (x9_3 : Int), v9 = .int .i64 x9_3 ∧ Aside0 (spec_l9Row.l1 kq l0 l1 a2 x7_3 x8_2 x9_3 = some r) ∧ Aside0 (kq ≤ k2) ∧ Aside0 (Kd.R (Kd.int .i64) 3 w' w.heap.size (fun _ => True) v7 x7_3) ∧ Aside0 (Below w.heap.size w w'))
       case atStart => exact ⟨(x7_2), (0), S.eA, H', ⟨Nat.le_refl _⟩, ⟨S.uR HO_7.out⟩, ⟨S.bA⟩⟩
       case round =>
        clear H'
        try clear c1
        try clear c12
        try clear c13
        try clear c13b0
        obtain ⟨x7_3, x9_3, rfl, HA, HK3, HO_7, HB⟩ := hrel
        cases gk with
        | zero => exact absurd HA.out (by simp [spec_l9Row.l1])
        | succ k3 =>
         have H := HA.out
         clear HA
         simp only [spec_l9Row.l1] at H
         replace H := S.bd H; obtain ⟨t270, A14, H⟩ := H
         (try dsimp only at H)
         replace H := S.dc H; rcases H with ⟨H, c15b0⟩ | ⟨H, c15b0⟩
         ·replace H := Option.bind_eq_some_iff.mp H
          obtain ⟨t271, A160, H⟩ := H
          replace H : (if x7_3.length < 17592186044416 then (spec_l9Row.l1 k3 l0 l1 a2 (x7_3 ++ [t271]) x8_2 (wrap64 (x9_3 + 1))) else (none)) = some r := H
          have A16 := Aside0.mk A160
          clear A160
          by_cases c17 : x7_3.length < 17592186044416
          ·rw [if_pos c17] at H
           have LMc17 := Aside0.mk c17
           clear c17
           obtain ⟨y272, hy272⟩ : ∃ y_ : List Int, y_ = (x7_3 ++ [t271]) := ⟨_, rfl⟩
           replace H : (spec_l9Row.l1 k3 l0 l1 a2 y272 x8_2 (wrap64 (x9_3 + 1))) = some r := by first | (rw [hy272]; with_reducible exact H) | (have H2_ := (Option.bind_some _ _).symm.trans H; rw [hy272]; with_reducible exact H2_) | (have H2_ := (Option.bind_some _ _).symm.trans H; with_reducible exact H2_) | with_reducible exact H | (rw [hy272]; exact H) | exact H
           have Ny272 := Aside0.mk hy272
           clear hy272
           have H' := Aside0.mk H
           clear H
           go_wp2_with (first | ((with_reducible refine gate_callee (f := 103) rfl ?_); refine S.gL (some 32) Try.func103 #[.slice A0 l0.length c0, .slice A1 l1.length c1, .int .i64 x8_2] ?_; (with_reducible refine (spec_l8Long.calls k3 _ _ l0 _ _ l1 x8_2 t270 _ ?s1 HC0.out ?s3 HC1.out A14.out).mono ?_); (case s1 => exact S.cA HR0.out); (case s3 => exact S.cA HR1.out); rintro e w18 ⟨rfl, hb⟩; refine ⟨_, rfl, ?_⟩; replace HO_7 := S.rb HO_7 hb; replace HB := S.sA hb; (try clear hb)) | ((with_reducible refine gate_callee (f := 97) rfl ?_); refine S.gL (some 42) Try.func97 #[.slice A0 l0.length c0, .slice A1 l1.length c1, .int .i64 x8_2, .int .i64 x9_3, .int .i64 a2] ?_; (with_reducible refine (spec_l9Light.calls k3 _ _ l0 _ _ l1 x8_2 x9_3 a2 t271 _ ?s1 HC0.out ?s3 HC1.out A16.out).mono ?_); (case s1 => exact S.cA HR0.out); (case s3 => exact S.cA HR1.out); rintro e w19 ⟨rfl, hb⟩; refine ⟨_, rfl, ?_⟩; replace HO_7 := S.rb HO_7 hb; replace HB := S.sA hb; (try clear hb)) | ((with_reducible refine gate_builtin (b := .append) (xs := #[.tmp 36, .tmp 43]) rfl ?_); at_builtin; refine Kd.R_append (Kd.int .i64) (w0 := w) w.heap.size rfl (.tmp 36) (.tmp 43) 36 3 (.int .i64 0) 8 rfl Try.underlying36 info3 rfl (by decide) (by omega) u7 x7_3 t271 [.int .i64 t271] (fun _ => True) (fun _ => False) rfl rfl ?aP (fun _ hk => hk.elim) ?aF ?aO ?aB ?aS ?aL ?_; (case aP => exact rfl); (case aB => exact S.bA); (case aF => exact (fun _ _ => trivial)); (case aO => exact (S.uR HO_7.out)); (case aS => exact (below_size S.bA)); (case aL => have := LMc17.out; omega); intro v273 w20 ho hb hg hat; rw [← Ny272.out] at ho; have n0_ := Aside0.mk (hb); have n1_ := Aside0.mk (ho); clear HB; clear HO_7; have HB := n0_; have HO274 := n1_; clear n0_ n1_; clear ho hb hg hat))
           go_roundg k3
           case measure => have := HJ3.out; have := HK2.out; have := HK3.out; omega
           case rel => exact ⟨(y272), (wrap64 (x9_3 + 1)), S.eA, H', ⟨by have := HJ3.out; have := HK2.out; have := HK3.out; omega⟩, ⟨S.uR HO274.out⟩, ⟨S.bA⟩⟩
          ·rw [if_neg c17] at H
           exact absurd H (by simp)
         ·have H' := Aside0.mk H
          clear H
          go_wp2_with (first | ((with_reducible refine gate_callee (f := 103) rfl ?_); refine S.gL (some 32) Try.func103 #[.slice A0 l0.length c0, .slice A1 l1.length c1, .int .i64 x8_2] ?_; (with_reducible refine (spec_l8Long.calls k3 _ _ l0 _ _ l1 x8_2 t270 _ ?s1 HC0.out ?s3 HC1.out A14.out).mono ?_); (case s1 => exact S.cA HR0.out); (case s3 => exact S.cA HR1.out); rintro e w21 ⟨rfl, hb⟩; refine ⟨_, rfl, ?_⟩; replace HO_7 := S.rb HO_7 hb; replace HB := S.sA hb; (try clear hb)))
          go_roundg k3
          case measure => have := HJ3.out; have := HK2.out; have := HK3.out; omega
          case rel => exact ⟨(x7_3), (wrap64 (x8_2 + 1)), S.eA, H', ⟨by have := HJ3.out; have := HK2.out; have := HK3.out; omega⟩, ⟨S.uR HO_7.out⟩, ⟨S.bA⟩⟩
      ·obtain rfl := Option.some.inj H
       go_wp2
       go_ret
       exact ⟨_, S.eW, S.uR HO_7.out, S.bA⟩

end Go.Proofs.Ytjgigmghcfdomaa.PFnExactWindowOf
