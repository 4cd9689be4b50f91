/- Printed by a program: what the Go functions compute, as plain Lean functions (.f), and the proofs that the machine's calls come to just that (.calls). -/
import Derived.Test.YtjgigmghcfdomaaPFnExactMakeSwitchx0
import Derived.Test.YtjgigmghcfdomaaPFnExactMakeSwitchx3
import Derived.Test.YtjgigmghcfdomaaPFnExactMakeSwitchx9
import Derived.Test.YtjgigmghcfdomaaPFnExactMakeSwitchx10
import Derived.Test.YtjgigmghcfdomaaPFnExactMakeSwitchx11
namespace Go.Proofs.Ytjgigmghcfdomaa.PFnExactMakeSwitch
open Go.RowKit Go.Proofs.YtjgigmghcfdomaaW.PrintWords Go.Proofs.YtjgigmghcfdomaaW.PrintLast Go.Proofs.YtjgigmghcfdomaaW.PrintMore
attribute [local go_sem] max2_int min2_int max_two min_two max_three min_three max_four min_four   -- for this text's walks alone
set_option linter.unusedVariables false
set_option linter.unusedSimpArgs false

/-! ### spec_l8Long: function 103 -/
def spec_l8Long.f (k : Nat) (l0 : List (S71)) (l1 : List (S85)) (a2 : Int) : Option (Int) := if 0 ≤ a2 then (if a2 < (l1.length : Int) then (if (l1.length : Int) = 0 then (none) else (if 0 ≤ (Int.tmod (wrap64 (a2 + 1)) (l1.length : Int)) then (if (Int.tmod (wrap64 (a2 + 1)) (l1.length : Int)) < (l1.length : Int) then ((spec_ClearBetween.f k l0 ((rd_T85 l1 a2).f0) ((rd_T85 l1 (Int.tmod (wrap64 (a2 + 1)) (l1.length : Int))).f0)).bind fun t262 => (some (wrap64 (((rd_T85 l1 a2).f1) + t262)))) else (none)) else (none))) else (none)) else (none)
def spec_l8Long.T1 : Bool × List (List Nat × List Nat) := (true, [([], []), ([], []), ([0, 1], [0, 1]), ([2], [2]), ([3], [3]), ([], []), ([], []), ([], []), ([6, 7], [6, 7]), ([8], [8]), ([9], [9]), ([], []), ([], []), ([12], [12]), ([], []), ([14], [14]), ([13, 15], [13, 15]), ([11, 16], [11, 16]), ([17], [17]), ([18], [18]), ([5, 10, 19], [5, 10, 19]), ([4, 20], [4, 20]), ([21, 20, 0, 1, 2, 3, 4, 5, 6, 7, 8, 9, 10, 11, 12, 13, 14, 15, 16, 17, 18, 19, 20, 21], [21])])
def spec_l8Long.B1 : List Nat := [0, 0, 3, 7, 15, 0, 0, 0, 192, 448, 960, 0, 0, 4096, 0, 16384, 61440, 129024, 260096, 522240, 1048544, 2097151, 4194303]
theorem spec_l8Long.tab1 : rtab .any (opsOf Try.f103 1) = spec_l8Long.T1 := by kernel_rfl
theorem spec_l8Long.bits1 : waitsOk spec_l8Long.T1.2 spec_l8Long.B1 = true := by kernel_rfl
set_option maxHeartbeats 8000000 in
set_option maxRecDepth 100000 in
theorem spec_l8Long.calls (k : Nat) (A0 : Option Addr) (c0 : Nat) (l0 : List (S71)) (A1 : Option Addr) (c1 : Nat) (l1 : List (S85)) (a2 : Int) (r : Int) (w : World) (hr0 : Kd.C k71 w A0 l0.length l0) (hc0 : l0.length ≤ c0) (hr1 : Kd.C k85 w A1 l1.length l1) (hc1 : l1.length ≤ c1) (h : spec_l8Long.f k l0 l1 a2 = some r) :
  Calls Try.prog 103 #[.slice A0 l0.length c0, .slice A1 l1.length c1, .int .i64 a2] w fun e w' => e = .returned (.int .i64 r) ∧ Below w.heap.size w w' := by
 have HR0 := Aside0.mk hr0
 have HC0 := Aside0.mk hc0
 clear hr0 hc0
 have HR1 := Aside0.mk hr1
 have HC1 := Aside0.mk hc1
 clear hr1 hc1
 have HB := Aside0.mk (Below.refl w.heap.size w)
 have H : (if 0 ≤ a2 then (if a2 < (l1.length : Int) then (if (l1.length : Int) = 0 then (none) else (if 0 ≤ (Int.tmod (wrap64 (a2 + 1)) (l1.length : Int)) then (if (Int.tmod (wrap64 (a2 + 1)) (l1.length : Int)) < (l1.length : Int) then ((spec_ClearBetween.f k l0 ((rd_T85 l1 a2).f0) ((rd_T85 l1 (Int.tmod (wrap64 (a2 + 1)) (l1.length : Int))).f0)).bind fun t262 => (some (wrap64 (((rd_T85 l1 a2).f1) + t262)))) else (none)) else (none))) else (none)) else (none)) = some r := h
 clear h
 by_cases c4 : 0 ≤ a2
 ·rw [if_pos c4] at H
  have c4b0 : decide (0 ≤ a2) = true := decide_eq_true c4
  clear c4
  by_cases c5 : a2 < (l1.length : Int)
  ·rw [if_pos c5] at H
   have c5b0 : decide (a2 < (l1.length : Int)) = true := decide_eq_true c5
   clear c5
   by_cases c6 : (l1.length : Int) = 0
   ·rw [if_pos c6] at H
    exact absurd H (by simp)
   ·rw [if_neg c6] at H
    have c6b0 : ((l1.length : Int) == 0) = false := beq_eq_false_iff_ne.mpr c6
    have c6b1 : ((l1.length : Int) != 0) = true := bne_iff_ne.mpr c6
    have c6b2 : ¬ (l1 = []) := fun h_ => c6 (by rw [h_]; rfl)
    obtain ⟨ji7, hji7⟩ : ∃ j_ : Int, (Int.tmod (wrap64 (a2 + 1)) (l1.length : Int)) = j_ := ⟨_, rfl⟩
    replace H : (if 0 ≤ (ji7) then (if (ji7) < (l1.length : Int) then ((spec_ClearBetween.f k l0 ((rd_T85 l1 a2).f0) ((rd_T85 l1 (ji7)).f0)).bind fun t262 => (some (wrap64 (((rd_T85 l1 a2).f1) + t262)))) else (none)) else (none)) = some r := by first | (rw [hji7] at H; exact H) | (simp only [hji7] at H ⊢; exact H)
    by_cases c8 : 0 ≤ (ji7)
    ·rw [if_pos c8] at H
     have c8b0 : decide (0 ≤ (ji7)) = true := decide_eq_true c8
     clear c8
     by_cases c9 : (ji7) < (l1.length : Int)
     ·rw [if_pos c9] at H
      have c9b0 : decide ((ji7) < (l1.length : Int)) = true := decide_eq_true c9
      clear c9
      replace H := S.bd H; obtain ⟨t262, A10, H⟩ := H
      (try dsimp only at H)
      obtain rfl := Option.some.inj H
      go_enter Try.func103, Try.ntmps103
      try go_wp2
      replace HB := Aside0.mk (below_drew1 HB.out)
      have p259 : 0 ≤ (a2 : Int) := S.oD
      have q259 : a2 < (l1.length : Int) := S.oD
      obtain ⟨ad259, A259_0, c259_0, e259, hx259_0, hx259_1, hl259_0, hi259_0⟩ := at_T85 HR1.out a2 p259 q259
      have hw259_1 := hx259_1
      have hw259_0 := hx259_0
      cases e259
      replace hx259_0 := S.hb HB hx259_0
      replace hx259_1 := S.hb HB hx259_1
      have HR259_0 := Aside0.mk hi259_0
      have HC259_0 := Aside0.mk hl259_0
      clear hi259_0 hl259_0
      replace p259 := eq_true p259
      replace q259 := eq_true q259
      have p260 : 0 ≤ (a2 : Int) := S.oD
      have q260 : a2 < (l1.length : Int) := S.oD
      obtain ⟨ad260, A260_0, c260_0, e260, hx260_0, hx260_1, hl260_0, hi260_0⟩ := at_T85 HR1.out a2 p260 q260
      have hw260_1 := hx260_1
      have hw260_0 := hx260_0
      obtain rfl : ad259 = ad260 := (by injection e260)
      replace hx260_0 := S.hb HB hx260_0
      replace hx260_1 := S.hb HB hx260_1
      have HR260_0 := Aside0.mk hi260_0
      have HC260_0 := Aside0.mk hl260_0
      clear hi260_0 hl260_0
      replace p260 := eq_true p260
      replace q260 := eq_true q260
      have ea_ := Option.some.inj (hx259_0.symm.trans hx260_0)
      injection ea_ with ea_ en_ ec_
      subst ea_
      subst ec_
      clear en_
      have p261 : 0 ≤ ((ji7) : Int) := S.oD
      have q261 : (ji7) < (l1.length : Int) := S.oD
      obtain ⟨ad261, A261_0, c261_0, e261, hx261_0, hx261_1, hl261_0, hi261_0⟩ := at_T85 HR1.out (ji7) p261 q261
      have hw261_1 := hx261_1
      have hw261_0 := hx261_0
      obtain rfl : ad259 = ad261 := (by injection e261)
      replace hx261_0 := S.hb HB hx261_0
      replace hx261_1 := S.hb HB hx261_1
      have HR261_0 := Aside0.mk hi261_0
      have HC261_0 := Aside0.mk hl261_0
      clear hi261_0 hl261_0
      replace p261 := eq_true p261
      replace q261 := eq_true q261
      refine S.st (n := 23) (ds := []) #[false, false, false, false, false, false, false, false, false, false, false, false, false, false, false, false, false, false, false, false, false, false, false] (fun w_ h_ => have x_ := And.intro (S.q h_ (S.hb HB hw259_0)) (And.intro (S.q h_ (S.hb HB hw259_1)) (And.intro (S.q h_ (S.hb HB hw260_0)) (And.intro (S.q h_ (S.hb HB hw260_1)) (And.intro (S.q h_ (S.hb HB hw261_0)) (S.q h_ (S.hb HB hw261_1)))))); x_) (fun hHeld => ?_); refine with_tabW spec_l8Long.tab1 spec_l8Long.bits1 (fun HT_ HW_ => ?_)
      generalize w.drew = w11 at HB HR259_0 HR260_0 HR261_0 hx259_0 hx259_1 hx260_0 hx260_1 hx261_0 hx261_1 hHeld ⊢
      refine S.pS 0 7 ?_
      refine S.pS 1 8 ?_
      refine S.pS 2 9 ?_
      refine S.pS 3 10 ?_
      refine S.pS 5 12 ?_
      refine S.pS 6 13 ?_
      refine S.pS 7 14 ?_
      refine S.pS 8 15 ?_
      refine S.pS 9 16 ?_
      refine S.pS 11 18 ?_
      refine S.pS 12 19 ?_
      refine S.pS 13 20 ?_
      refine S.pS 14 21 ?_
      refine S.pS 15 22 ?_
      refine S.pS 16 23 ?_
      refine S.pS 17 24 ?_
      refine S.pS 18 25 ?_
      refine S.tK 4 11 #[true, true, true, true, true, true, true, true, true, true, false, true, true, true, true, true, true, true, true, false, false, false, false] ?_
      refine S.tK 10 17 #[true, true, true, true, true, true, true, true, true, true, true, true, true, true, true, true, true, true, true, false, false, false, false] ?_
      refine S.tK 19 26 #[true, true, true, true, true, true, true, true, true, true, true, true, true, true, true, true, true, true, true, true, false, false, false] ?_
      refine S.oN 20 27 #[true, true, true, true, true, true, true, true, true, true, true, true, true, true, true, true, true, true, true, true, true, false, false] (fun K hK => ?_)
      refine goes_ Try.func126 (by kernel_rfl) rfl #[.slice A0 l0.length c0, .slice A259_0 ((rd_T85 l1 a2).f0).length c259_0, .slice A261_0 ((rd_T85 l1 (ji7)).f0).length c261_0] (by rfl) rfl rfl (by (try simp only [List.map_toArray, List.map_cons, List.map_nil]); first | done | (simp only [hji7]; rfl) | rfl | (simp only [List.length_drop, List.length_take]; rfl)) ?_
      with_reducible refine (spec_ClearBetween.calls k _ _ l0 _ _ ((rd_T85 l1 a2).f0) _ _ ((rd_T85 l1 (ji7)).f0) t262 _ ?s1 ?s2 ?s3 ?s4 ?s5 ?s6 A10.out).mono ?_
      (case s1 => exact S.cA HR0.out)
      (case s2 => exact HC0.out)
      (case s3 => exact S.cA HR260_0.out)
      (case s4 => exact HC260_0.out)
      (case s5 => exact S.cA HR261_0.out)
      (case s6 => exact HC261_0.out)
      rintro e w12 ⟨rfl, hb⟩
      refine ⟨_, rfl, ?_⟩
      replace HB := S.sA hb
      (try clear hb)
      (try clear hb2)
      (try clear hk)
      (try clear hi)
      refine hK.out _ _ ⟨(S.hb HB hw259_0 :), (S.hb HB hw259_1 :), (S.hb HB hw260_0 :), (S.hb HB hw260_1 :), (S.hb HB hw261_0 :), (S.hb HB hw261_1 :)⟩ (fun hHeld => ?_)
      clear hK K
      refine S.nm 27 ?_
      refine S.pS 21 28 ?_
      refine S.pS 22 6 ?_
      refine done_ (done_of HT_.out (by kernel_rfl)) ?_
      try go_wp2
      go_ret
      exact ⟨by first | rfl | (simp [errW_none, errW_some] <;> rfl) | (simp only [← hji7]; first | rfl | (simp [errW_none, errW_some] <;> rfl)) | (simp [*, errW_none, errW_some] <;> rfl), S.bA⟩
     ·rw [if_neg c9] at H
      exact absurd H (by simp)
    ·rw [if_neg c8] at H
     exact absurd H (by simp)
  ·rw [if_neg c5] at H
   exact absurd H (by simp)
 ·rw [if_neg c4] at H
  exact absurd H (by simp)

/-! ### spec_StartOf: function 67 -/
mutual
def spec_StartOf.j0 : Nat → List (S71) → List (S85) → Int → Bool → Option (Int)
 | 0, _, _, _, _ => none
 | k + 1, x0, x1, x2, x20 => if x20 = true then (some (-1)) else (spec_StartOf.l0 k x0 x1 x2 0 0)
def spec_StartOf.l0 : Nat → List (S71) → List (S85) → Int → Int → Int → Option (Int)
 | 0, _, _, _, _, _ => none
 | k + 1, x0, x1, x2, x7, x8 => if x8 < x2 then ((spec_l8Long.f k x0 x1 x8).bind fun t265 => (spec_StartOf.l0 k x0 x1 x2 (wrap64 (x7 + t265)) (wrap64 (x8 + 1)))) else (some x7)
end
def spec_StartOf.f (k : Nat) (l0 : List (S71)) (l1 : List (S85)) (a2 : Int) : Option (Int) := (spec_IsPlan.f k l0 l1).bind fun t263 => (if t263 = true then ((spec_l1In.f a2 0 (wrap64 ((l1.length : Int) - 1))).bind fun t264 => (spec_StartOf.j0 k l0 l1 a2 (!t264))) else (spec_StartOf.j0 k l0 l1 a2 true))
set_option maxHeartbeats 8000000 in
set_option maxRecDepth 100000 in
theorem spec_StartOf.calls (k : Nat) (A0 : Option Addr) (c0 : Nat) (l0 : List (S71)) (A1 : Option Addr) (c1 : Nat) (l1 : List (S85)) (a2 : Int) (r : Int) (w : World) (hr0 : Kd.C k71 w A0 l0.length l0) (hc0 : l0.length ≤ c0) (hr1 : Kd.C k85 w A1 l1.length l1) (hc1 : l1.length ≤ c1) (h : spec_StartOf.f k l0 l1 a2 = some r) :
  Calls Try.prog 67 #[.slice A0 l0.length c0, .slice A1 l1.length c1, .int .i64 a2] w fun e w' => e = .returned (.int .i64 r) ∧ Below w.heap.size w w' := by
 have HR0 := Aside0.mk hr0
 have HC0 := Aside0.mk hc0
 clear hr0 hc0
 have HR1 := Aside0.mk hr1
 have HC1 := Aside0.mk hc1
 clear hr1 hc1
 have HB := Aside0.mk (Below.refl w.heap.size w)
 have H : ((spec_IsPlan.f k l0 l1).bind fun t263 => (if t263 = true then ((spec_l1In.f a2 0 (wrap64 ((l1.length : Int) - 1))).bind fun t264 => (spec_StartOf.j0 k l0 l1 a2 (!t264))) else (spec_StartOf.j0 k l0 l1 a2 true))) = some r := h
 clear h
 have HC4 := Aside0.mk H
 clear H
 go_enter Try.func67, Try.ntmps67
 go_upto_region 1 with (fail)
 go_cut [20] (fun v20 wc => ∃ (kq : Nat) (x20_3 : Bool), v20 = .bool x20_3 ∧ Aside0 (spec_StartOf.j0 kq l0 l1 a2 x20_3 = some r) ∧ Aside0 (kq ≤ k) ∧ Aside0 (Below w.heap.size w wc))
 case first =>
  have H := HC4.out
  clear HC4
  replace H := S.bd H; obtain ⟨t263, A5, H⟩ := H
  (try dsimp only at H)
  replace H := S.db H; rcases H with ⟨rfl, H⟩ | ⟨rfl, H⟩
  ·replace H := S.bd H; obtain ⟨t264, A7, H⟩ := H
   (try dsimp only at H)
   have H' := Aside0.mk H
   clear H
   go_wp2_with (first | ((with_reducible refine gate_callee (f := 65) rfl ?_); refine S.gL (some 11) Try.func65 #[.slice A0 l0.length c0, .slice A1 l1.length c1] ?_; (with_reducible refine (spec_IsPlan.calls k _ _ l0 _ _ l1 true _ ?s1 HC0.out ?s3 HC1.out A5.out).mono ?_); (case s1 => exact S.cA HR0.out); (case s3 => exact S.cA HR1.out); rintro e w8 ⟨rfl, hb⟩; refine ⟨_, rfl, ?_⟩; replace HB := S.sA hb; (try clear hb)) | (go_at_call 58; (with_reducible refine (spec_l1In.calls a2 0 (wrap64 ((l1.length : Int) - 1)) t264 _ A7.out).mono ?_); rintro e w' ⟨rfl, ⟨nd, rfl⟩⟩))
   go_meet
   case rel => exact ⟨_, (!t264), S.eA, H', S.le, ⟨S.bA⟩⟩
  ·have H' := Aside0.mk H
   clear H
   go_wp2_with (first | ((with_reducible refine gate_callee (f := 65) rfl ?_); refine S.gL (some 11) Try.func65 #[.slice A0 l0.length c0, .slice A1 l1.length c1] ?_; (with_reducible refine (spec_IsPlan.calls k _ _ l0 _ _ l1 false _ ?s1 HC0.out ?s3 HC1.out A5.out).mono ?_); (case s1 => exact S.cA HR0.out); (case s3 => exact S.cA HR1.out); rintro e w9 ⟨rfl, hb⟩; refine ⟨_, rfl, ?_⟩; replace HB := S.sA hb; (try clear hb)))
   go_meet
   case rel => exact ⟨_, (true), S.eA, H', S.le, ⟨S.bA⟩⟩
 case rest =>
  clear HC4
  try clear c1
  obtain ⟨kq, x20_3, rfl, HA, HJ3, HB⟩ := hcut
  cases kq with
  | zero => exact absurd HA.out (by simp [spec_StartOf.j0])
  | succ kj3 =>
   have H := HA.out
   clear HA
   simp only [spec_StartOf.j0] at H
   replace H := S.db H; rcases H with ⟨rfl, H⟩ | ⟨rfl, H⟩
   ·obtain rfl := Option.some.inj H
    go_wp2
    go_ret
    exact ⟨S.eW, S.bA⟩
   ·have H' := Aside0.mk H
    clear H
    go_wp2
    go_loopg [7, 8] kj3 (fun kq v7 v8 w' => ∃ (x7_2 : Int) (x8_2 : Int), v7 = .int .i64 x7_2 ∧ v8 = .int .i64 x8_2 ∧ Aside0 (spec_StartOf.l0 kq l0 l1 a2 x7_2 x8_2 = some r) ∧ Aside0 (kq ≤ kj3) ∧ Aside0 (Below w.heap.size w w'))
    case atStart => exact ⟨(0), (0), S.eA, S.eA, H', ⟨Nat.le_refl _⟩, ⟨S.bA⟩⟩
    case round =>
     clear H'
     try clear c1
     try clear c10
     obtain ⟨x7_2, x8_2, rfl, rfl, HA, HK2, HB⟩ := hrel
     cases gk with
     | zero => exact absurd HA.out (by simp [spec_StartOf.l0])
     | succ k2 =>
      have H := HA.out
      clear HA
      simp only [spec_StartOf.l0] at H
      replace H := S.dc H; rcases H with ⟨H, c11b0⟩ | ⟨H, c11b0⟩
      ·replace H := Option.bind_eq_some_iff.mp H
       obtain ⟨t265, A120, H⟩ := H
       replace H : (spec_StartOf.l0 k2 l0 l1 a2 (wrap64 (x7_2 + t265)) (wrap64 (x8_2 + 1))) = some r := H
       have A12 := Aside0.mk A120
       clear A120
       have H' := Aside0.mk H
       clear H
       go_wp2_with (first | ((with_reducible refine gate_callee (f := 103) rfl ?_); refine S.gL (some 30) Try.func103 #[.slice A0 l0.length c0, .slice A1 l1.length c1, .int .i64 x8_2] ?_; (with_reducible refine (spec_l8Long.calls k2 _ _ l0 _ _ l1 x8_2 t265 _ ?s1 HC0.out ?s3 HC1.out A12.out).mono ?_); (case s1 => exact S.cA HR0.out); (case s3 => exact S.cA HR1.out); rintro e w13 ⟨rfl, hb⟩; refine ⟨_, rfl, ?_⟩; replace HB := S.sA hb; (try clear hb)))
       go_roundg k2
       case measure => have := HJ3.out; have := HK2.out; omega
       case rel => exact ⟨(wrap64 (x7_2 + t265)), (wrap64 (x8_2 + 1)), S.eA, S.eA, H', ⟨by have := HJ3.out; have := HK2.out; omega⟩, ⟨S.bA⟩⟩
      ·obtain rfl := Option.some.inj H
       go_wp2
       go_ret
       exact ⟨S.eW, S.bA⟩

/-! ### spec_SwitchSeconds: function 22 -/
mutual
def spec_SwitchSeconds.l0 : Nat → List (S71) → List (S85) → List (S85) → List Int → Int → Option (List Int)
 | 0, _, _, _, _, _ => none
 | k + 1, x0, x1, x2, x7, x8 => if x8 < (x1.length : Int) then ((spec_IsPlan.f k x0 x1).bind fun t269 => (if t269 = true then ((spec_IsPlan.f k x0 x2).bind fun t270 => (spec_SwitchSeconds.j1 k x0 x1 x2 x7 x8 t270)) else (spec_SwitchSeconds.j1 k x0 x1 x2 x7 x8 false))) else (spec_SwitchSeconds.j1 k x0 x1 x2 x7 x8 false)
def spec_SwitchSeconds.j1 : Nat → List (S71) → List (S85) → List (S85) → List Int → Int → Bool → Option (List Int)
 | 0, _, _, _, _, _, _ => none
 | k + 1, x0, x1, x2, x7, x8, x23 => if x23 = true then (if 0 ≤ x8 then (if x8 < (x1.length : Int) then (if 0 < (x2.length : Int) then ((spec_EqualInts.f k ((rd_T85 x1 x8).f0) ((rd_T85 x2 0).f0)).bind fun t273 => (if t273 = true then ((spec_StartOf.f k x0 x1 x8).bind fun t274 => (if x7.length < 17592186044416 then (spec_SwitchSeconds.l0 k x0 x1 x2 (x7 ++ [t274]) (wrap64 (x8 + 1))) else (none))) else (spec_SwitchSeconds.l0 k x0 x1 x2 x7 (wrap64 (x8 + 1))))) else (none)) else (none)) else (none)) else (some x7)
end
def spec_SwitchSeconds.f (k : Nat) (l0 : List (S71)) (l1 : List (S85)) (l2 : List (S85)) : Option (List Int) := spec_SwitchSeconds.l0 k l0 l1 l2 (([] : List Int)) 0
set_option maxHeartbeats 8000000 in
set_option maxRecDepth 100000 in
theorem spec_SwitchSeconds.calls (k : Nat) (A0 : Option Addr) (c0 : Nat) (l0 : List (S71)) (A1 : Option Addr) (c1 : Nat) (l1 : List (S85)) (A2 : Option Addr) (c2 : Nat) (l2 : List (S85)) (r : List Int) (w : World) (hr0 : Kd.C k71 w A0 l0.length l0) (hc0 : l0.length ≤ c0) (hr1 : Kd.C k85 w A1 l1.length l1) (hc1 : l1.length ≤ c1) (hr2 : Kd.C k85 w A2 l2.length l2) (hc2 : l2.length ≤ c2) (h : spec_SwitchSeconds.f k l0 l1 l2 = some r) :
  Calls Try.prog 22 #[.slice A0 l0.length c0, .slice A1 l1.length c1, .slice A2 l2.length c2] w fun e w' => ∃ v0_ : Value, e = .returned (v0_) ∧ Kd.R (Kd.int .i64) 3 w' w.heap.size (fun _ => True) v0_ r ∧ Below w.heap.size w w' := by
 have HR0 := Aside0.mk hr0
 have HC0 := Aside0.mk hc0
 clear hr0 hc0
 have HR1 := Aside0.mk hr1
 have HC1 := Aside0.mk hc1
 clear hr1 hc1
 have HR2 := Aside0.mk hr2
 have HC2 := Aside0.mk hc2
 clear hr2 hc2
 have HB := Aside0.mk (Below.refl w.heap.size w)
 have H : (spec_SwitchSeconds.l0 k l0 l1 l2 (([] : List Int)) 0) = some r := h
 clear h
 obtain ⟨y266, hy266⟩ : ∃ y_ : List Int, y_ = (([] : List Int)) := ⟨_, rfl⟩
 replace H : (spec_SwitchSeconds.l0 k l0 l1 l2 y266 0) = some r := by first | (rw [hy266]; with_reducible exact H) | (have H2_ := (Option.bind_some _ _).symm.trans H; rw [hy266]; with_reducible exact H2_) | (have H2_ := (Option.bind_some _ _).symm.trans H; with_reducible exact H2_) | with_reducible exact H | (rw [hy266]; exact H) | exact H
 have Ny266 := Aside0.mk hy266
 clear hy266
 have H' := Aside0.mk H
 clear H
 go_enter Try.func22, Try.ntmps22
 go_wp2_with (first | ((with_reducible refine gate_dst (N := 9) rfl ?_); refine Kd.R_lit (Kd.int .i64) _ 3 ?hg (N := 9) ?hd (xs := ([] : List Int)) (inner := []) (ok := fun _ => True) (okp := fun _ => True) ?hr ?hp (fun _ hk => hk) trivial (Below.refl _ _) (Nat.le_refl _) (by simp) ?_; (case hd => rfl); (case hg => rfl); (case hr => first | (go_simp; done) | (go_simp; rfl)); (case hp => exact (Reps.none _ _)); intro v267 w4 ho5 hb hg_ hnew_; clear hg_ hnew_; (first | rw [← Ny266.out] at ho5 | (simp only [Int.reduceToNat] at ho5; rw [← Ny266.out] at ho5)); have HO268 := S.lwA ho5; replace HB := S.sA hb; clear hb ho5))
 repeat (go_quiet (first | ((with_reducible refine gate_dst (N := 9) rfl ?_); refine Kd.R_lit (Kd.int .i64) _ 3 ?hg (N := 9) ?hd (xs := ([] : List Int)) (inner := []) (ok := fun _ => True) (okp := fun _ => True) ?hr ?hp (fun _ hk => hk) trivial (Below.refl _ _) (Nat.le_refl _) (by simp) ?_; (case hd => rfl); (case hg => rfl); (case hr => first | (go_simp; done) | (go_simp; rfl)); (case hp => exact (Reps.none _ _)); intro v267 w4 ho5 hb hg_ hnew_; clear hg_ hnew_; (first | rw [← Ny266.out] at ho5 | (simp only [Int.reduceToNat] at ho5; rw [← Ny266.out] at ho5)); have HO268 := S.lwA ho5; replace HB := S.sA hb; clear hb ho5)); try go_wp2_with (first | ((with_reducible refine gate_dst (N := 9) rfl ?_); refine Kd.R_lit (Kd.int .i64) _ 3 ?hg (N := 9) ?hd (xs := ([] : List Int)) (inner := []) (ok := fun _ => True) (okp := fun _ => True) ?hr ?hp (fun _ hk => hk) trivial (Below.refl _ _) (Nat.le_refl _) (by simp) ?_; (case hd => rfl); (case hg => rfl); (case hr => first | (go_simp; done) | (go_simp; rfl)); (case hp => exact (Reps.none _ _)); intro v267 w4 ho5 hb hg_ hnew_; clear hg_ hnew_; (first | rw [← Ny266.out] at ho5 | (simp only [Int.reduceToNat] at ho5; rw [← Ny266.out] at ho5)); have n0_ := S.lwA ho5; have n1_ := S.sA hb; clear HB; have HO268 := n0_; have HB := n1_; clear n0_ n1_; clear hb ho5)))
 go_loopg [7, 8] k (fun kq v7 v8 w' => ∃ (x7_1 : List Int) (x8_1 : Int), v8 = .int .i64 x8_1 ∧ Aside0 (spec_SwitchSeconds.l0 kq l0 l1 l2 x7_1 x8_1 = some r) ∧ Aside0 (kq ≤ k) ∧ Aside0 (Kd.R (Kd.int .i64) 3 w' w.heap.size (fun _ => True) v7 x7_1) ∧ Aside0 (Below w.heap.size w w'))
 case atStart => exact ⟨(y266), (0), S.eA, H', ⟨Nat.le_refl _⟩, ⟨S.uR HO268.out⟩, ⟨S.bA⟩⟩
 case round =>
  clear H'
  try clear c1
  try clear c2
  obtain ⟨x7_1, x8_1, rfl, HA, HK1, HO_7, HB⟩ := hrel
  cases gk with
  | zero => exact absurd HA.out (by simp [spec_SwitchSeconds.l0])
  | succ k1 =>
   have H := HA.out
   clear HA
   simp only [spec_SwitchSeconds.l0] at H
   have HC6 := Aside0.mk H
   clear H
   go_upto_region 3 with (fail)
   repeat (go_quiet (fail); go_upto_region 3 with (fail))
   go_cut [23] (fun v23 wc => ∃ (kq : Nat) (x23_5 : Bool), v23 = .bool x23_5 ∧ Aside0 (spec_SwitchSeconds.j1 kq l0 l1 l2 x7_1 x8_1 x23_5 = some r) ∧ Aside0 (kq ≤ k1) ∧ Aside0 (Kd.R (Kd.int .i64) 3 wc w.heap.size (fun _ => True) u7 x7_1) ∧ Aside0 (Below w.heap.size w wc))
   case first =>
    have H := HC6.out
    clear HC6
    replace H := S.dc H; rcases H with ⟨H, c7b0⟩ | ⟨H, c7b0⟩
    ·(first | rw [c7b0] | (simp only [i64_w, i32_w]; rw [c7b0]) | skip)
     replace H := S.bd H; obtain ⟨t269, A8, H⟩ := H
     (try dsimp only at H)
     replace H := S.db H; rcases H with ⟨rfl, H⟩ | ⟨rfl, H⟩
     ·replace H := S.bd H; obtain ⟨t270, A10, H⟩ := H
      (try dsimp only at H)
      have H' := Aside0.mk H
      clear H
      go_wp2_with (first | (go_at_call 65; (with_reducible refine (spec_IsPlan.calls k1 _ _ l0 _ _ l1 true _ ?s1 HC0.out ?s3 HC1.out A8.out).mono ?_); (case s1 => exact S.cA HR0.out); (case s3 => exact S.cA HR1.out); rintro e w11 ⟨rfl, hb⟩; replace HO_7 := S.rb HO_7 hb; replace HB := S.sA hb; (try clear hb)) | (go_at_call 65; (with_reducible refine (spec_IsPlan.calls k1 _ _ l0 _ _ l2 t270 _ ?s1 HC0.out ?s3 HC2.out A10.out).mono ?_); (case s1 => exact S.cA HR0.out); (case s3 => exact S.cA HR2.out); rintro e w12 ⟨rfl, hb⟩; replace HO_7 := S.rb HO_7 hb; replace HB := S.sA hb; (try clear hb)))
      repeat (go_quiet (first | (go_at_call 65; (with_reducible refine (spec_IsPlan.calls k1 _ _ l0 _ _ l1 true _ ?s1 HC0.out ?s3 HC1.out A8.out).mono ?_); (case s1 => exact S.cA HR0.out); (case s3 => exact S.cA HR1.out); rintro e w11 ⟨rfl, hb⟩; replace HO_7 := S.rb HO_7 hb; replace HB := S.sA hb; (try clear hb)) | (go_at_call 65; (with_reducible refine (spec_IsPlan.calls k1 _ _ l0 _ _ l2 t270 _ ?s1 HC0.out ?s3 HC2.out A10.out).mono ?_); (case s1 => exact S.cA HR0.out); (case s3 => exact S.cA HR2.out); rintro e w12 ⟨rfl, hb⟩; replace HO_7 := S.rb HO_7 hb; replace HB := S.sA hb; (try clear hb))); try go_wp2_with (first | (go_at_call 65; (with_reducible refine (spec_IsPlan.calls k1 _ _ l0 _ _ l1 true _ ?s1 ?s2 ?s3 ?s4 A8.out).mono ?_); (case s1 => exact S.cA HR0.out); (case s2 => exact HC0.out); (case s3 => exact S.cA HR1.out); (case s4 => exact HC1.out); rintro e w11 ⟨rfl, hb⟩; have n0_ := S.rb HO_7 hb; have n1_ := S.sA hb; clear HO_7; clear HB; have HO_7 := n0_; have HB := n1_; clear n0_ n1_; (try clear hb); (try clear hb2); (try clear hk); (try clear hi)) | (go_at_call 65; (with_reducible refine (spec_IsPlan.calls k1 _ _ l0 _ _ l2 t270 _ ?s1 ?s2 ?s3 ?s4 A10.out).mono ?_); (case s1 => exact S.cA HR0.out); (case s2 => exact HC0.out); (case s3 => exact S.cA HR2.out); (case s4 => exact HC2.out); rintro e w12 ⟨rfl, hb⟩; have n0_ := S.rb HO_7 hb; have n1_ := S.sA hb; clear HO_7; clear HB; have HO_7 := n0_; have HB := n1_; clear n0_ n1_; (try clear hb); (try clear hb2); (try clear hk); (try clear hi))))
      go_meet
      case rel => exact ⟨_, (t270), S.eA, H', ⟨by have := HK1.out; first | omega | exact Nat.le_refl _⟩, ⟨S.uR HO_7.out⟩, ⟨S.bA⟩⟩
     ·have H' := Aside0.mk H
      clear H
      go_wp2_with (first | (go_at_call 65; (with_reducible refine (spec_IsPlan.calls k1 _ _ l0 _ _ l1 false _ ?s1 HC0.out ?s3 HC1.out A8.out).mono ?_); (case s1 => exact S.cA HR0.out); (case s3 => exact S.cA HR1.out); rintro e w13 ⟨rfl, hb⟩; replace HO_7 := S.rb HO_7 hb; replace HB := S.sA hb; (try clear hb)))
      repeat (go_quiet (first | (go_at_call 65; (with_reducible refine (spec_IsPlan.calls k1 _ _ l0 _ _ l1 false _ ?s1 HC0.out ?s3 HC1.out A8.out).mono ?_); (case s1 => exact S.cA HR0.out); (case s3 => exact S.cA HR1.out); rintro e w13 ⟨rfl, hb⟩; replace HO_7 := S.rb HO_7 hb; replace HB := S.sA hb; (try clear hb))); try go_wp2_with (first | (go_at_call 65; (with_reducible refine (spec_IsPlan.calls k1 _ _ l0 _ _ l1 false _ ?s1 HC0.out ?s3 HC1.out A8.out).mono ?_); (case s1 => exact S.cA HR0.out); (case s3 => exact S.cA HR1.out); rintro e w13 ⟨rfl, hb⟩; have n0_ := S.rb HO_7 hb; have n1_ := S.sA hb; clear HO_7; clear HB; have HO_7 := n0_; have HB := n1_; clear n0_ n1_; (try clear hb); (try clear hb2); (try clear hk); (try clear hi))))
      go_meet
      case rel => exact ⟨_, (false), S.eA, H', ⟨by have := HK1.out; first | omega | exact Nat.le_refl _⟩, ⟨S.uR HO_7.out⟩, ⟨S.bA⟩⟩
    ·(first | rw [c7b0] | (simp only [i64_w, i32_w]; rw [c7b0]) | skip)
     have H' := Aside0.mk H
     clear H
     go_wp2
     repeat (go_quiet (fail); try go_wp2)
     go_meet
     case rel => exact ⟨_, (false), S.eA, H', ⟨by have := HK1.out; first | omega | exact Nat.le_refl _⟩, ⟨S.uR HO_7.out⟩, ⟨S.bA⟩⟩
   case rest =>
    clear HC6
    try clear c1
    try clear c2
    obtain ⟨kq, x23_5, rfl, HA, HJ5, HO_7, HB⟩ := hcut
    cases kq with
    | zero => exact absurd HA.out (by simp [spec_SwitchSeconds.j1])
    | succ kj5 =>
     have H := HA.out
     clear HA
     simp only [spec_SwitchSeconds.j1] at H
     replace H := S.db H; rcases H with ⟨rfl, H⟩ | ⟨rfl, H⟩
     ·by_cases c15 : 0 ≤ x8_1
      ·rw [if_pos c15] at H
       have c15b0 : decide (0 ≤ x8_1) = true := decide_eq_true c15
       clear c15
       by_cases c16 : x8_1 < (l1.length : Int)
       ·rw [if_pos c16] at H
        have c16b0 : decide (x8_1 < (l1.length : Int)) = true := decide_eq_true c16
        clear c16
        by_cases c17 : 0 < (l2.length : Int)
        ·rw [if_pos c17] at H
         have c17b0 : decide (0 < (l2.length : Int)) = true := decide_eq_true c17
         have c17b1 : decide (0 < l2.length) = true := decide_eq_true (by omega)
         clear c17
         replace H := S.bd H; obtain ⟨t273, A18, H⟩ := H
         (try dsimp only at H)
         replace H := S.db H; rcases H with ⟨rfl, H⟩ | ⟨rfl, H⟩
         ·replace H := S.bd H; obtain ⟨t274, A20, H⟩ := H
          (try dsimp only at H)
          by_cases c21 : x7_1.length < 17592186044416
          ·rw [if_pos c21] at H
           have LMc21 := Aside0.mk c21
           clear c21
           obtain ⟨y275, hy275⟩ : ∃ y_ : List Int, y_ = (x7_1 ++ [t274]) := ⟨_, rfl⟩
           replace H : (spec_SwitchSeconds.l0 kj5 l0 l1 l2 y275 (wrap64 (x8_1 + 1))) = some r := by first | (rw [hy275]; with_reducible exact H) | (have H2_ := (Option.bind_some _ _).symm.trans H; rw [hy275]; with_reducible exact H2_) | (have H2_ := (Option.bind_some _ _).symm.trans H; with_reducible exact H2_) | with_reducible exact H | (rw [hy275]; exact H) | exact H
           have Ny275 := Aside0.mk hy275
           clear hy275
           have H' := Aside0.mk H
           clear H
           have p271 : 0 ≤ (x8_1 : Int) := S.oD
           have q271 : x8_1 < (l1.length : Int) := S.oD
           obtain ⟨ad271, A271_0, c271_0, e271, hx271_0, hx271_1, hl271_0, hi271_0⟩ := at_T85 HR1.out x8_1 p271 q271
           cases e271
           replace hx271_0 := S.hb HB hx271_0
           replace hx271_1 := S.hb HB hx271_1
           have HR271_0 := Aside0.mk hi271_0
           have HC271_0 := Aside0.mk hl271_0
           clear hi271_0 hl271_0
           replace p271 := eq_true p271
           replace q271 := eq_true q271
           have p272 : 0 ≤ (0 : Int) := (by omega)
           have q272 : 0 < (l2.length : Int) := S.oD
           obtain ⟨ad272, A272_0, c272_0, e272, hx272_0, hx272_1, hl272_0, hi272_0⟩ := at_T85 HR2.out 0 p272 q272
           cases e272
           have qi272 : (0 < l2.length) = True := eq_true (by omega)
           (try rw [show ((0 : Int)).toNat = 0 from rfl] at hx272_0)
           (try rw [show 0 * 2 = 0 from rfl] at hx272_0)
           (try rw [Addr.add_zero'] at hx272_0)
           (try rw [show ((0 : Int)).toNat = 0 from rfl] at hx272_1)
           (try rw [show 0 * 2 = 0 from rfl] at hx272_1)
           (try rw [Addr.add_zero'] at hx272_1)
           replace hx272_0 := S.hb HB hx272_0
           replace hx272_1 := S.hb HB hx272_1
           have HR272_0 := Aside0.mk hi272_0
           have HC272_0 := Aside0.mk hl272_0
           clear hi272_0 hl272_0
           replace p272 := eq_true p272
           replace q272 := eq_true q272
           go_wp2_with (first | (go_at_call 66; (with_reducible refine (spec_EqualInts.calls kj5 _ _ ((rd_T85 l1 x8_1).f0) _ _ ((rd_T85 l2 0).f0) true _ ?s1 HC271_0.out ?s3 HC272_0.out A18.out).mono ?_); (case s1 => exact S.cA HR271_0.out); (case s3 => exact S.cA HR272_0.out); rintro e w' ⟨rfl, ⟨nd, rfl⟩⟩; (try first | exact ⟨rfl, _, World.drewN_drewN _ _ _⟩ | exact ⟨rfl, _, Eq.trans (World.drewN_drewN _ _ _) (congrArg (World.drewN _) (Nat.add_assoc _ _ _))⟩)) | (go_at_call 67; (with_reducible refine (spec_StartOf.calls kj5 _ _ l0 _ _ l1 x8_1 t274 _ ?s1 HC0.out ?s3 HC1.out A20.out).mono ?_); (case s1 => repeat (first | exact (Kd.C_below HR0.out S.bA) | (with_reducible refine Kd.C_alloc ?_ _) | (with_reducible refine Kd.C_drewN ?_ _) | (with_reducible refine Kd.C_drew ?_))); (case s3 => repeat (first | exact (Kd.C_below HR1.out S.bA) | (with_reducible refine Kd.C_alloc ?_ _) | (with_reducible refine Kd.C_drewN ?_ _) | (with_reducible refine Kd.C_drew ?_))); rintro e w22 ⟨rfl, hb⟩; replace HO_7 := S.rb HO_7 hb; replace HB := S.sA hb; (try clear hb)) | ((with_reducible refine gate_builtin (b := .append) (xs := #[.tmp 36, .tmp 41]) rfl ?_); at_builtin; refine Kd.R_append (Kd.int .i64) (w0 := w) w.heap.size rfl (.tmp 36) (.tmp 41) 36 3 (.int .i64 0) 8 rfl Try.underlying36 info3 rfl (by decide) (by omega) u7 x7_1 t274 [.int .i64 t274] (fun _ => True) (fun _ => False) rfl rfl ?aP (fun _ hk => hk.elim) ?aF ?aO ?aB ?aS ?aL ?_; (case aP => exact rfl); (case aB => exact S.bA); (case aF => exact (fun _ _ => trivial)); (case aO => exact (S.uR HO_7.out)); (case aS => exact (below_size S.bA)); (case aL => have := LMc21.out; omega); intro v276 w23 ho hb hg hat; rw [← Ny275.out] at ho; have n0_ := Aside0.mk (hb); have n1_ := Aside0.mk (ho); clear HB; clear HO_7; have HB := n0_; have HO277 := n1_; clear n0_ n1_; clear ho hb hg hat))
           repeat (go_quiet (first | (go_at_call 66; (with_reducible refine (spec_EqualInts.calls kj5 _ _ ((rd_T85 l1 x8_1).f0) _ _ ((rd_T85 l2 0).f0) true _ ?s1 HC271_0.out ?s3 HC272_0.out A18.out).mono ?_); (case s1 => exact S.cA HR271_0.out); (case s3 => exact S.cA HR272_0.out); rintro e w' ⟨rfl, ⟨nd, rfl⟩⟩; (try first | exact ⟨rfl, _, World.drewN_drewN _ _ _⟩ | exact ⟨rfl, _, Eq.trans (World.drewN_drewN _ _ _) (congrArg (World.drewN _) (Nat.add_assoc _ _ _))⟩)) | (go_at_call 67; (with_reducible refine (spec_StartOf.calls kj5 _ _ l0 _ _ l1 x8_1 t274 _ ?s1 HC0.out ?s3 HC1.out A20.out).mono ?_); (case s1 => repeat (first | exact (Kd.C_below HR0.out S.bA) | (with_reducible refine Kd.C_alloc ?_ _) | (with_reducible refine Kd.C_drewN ?_ _) | (with_reducible refine Kd.C_drew ?_))); (case s3 => repeat (first | exact (Kd.C_below HR1.out S.bA) | (with_reducible refine Kd.C_alloc ?_ _) | (with_reducible refine Kd.C_drewN ?_ _) | (with_reducible refine Kd.C_drew ?_))); rintro e w22 ⟨rfl, hb⟩; replace HO_7 := S.rb HO_7 hb; replace HB := S.sA hb; (try clear hb)) | ((with_reducible refine gate_builtin (b := .append) (xs := #[.tmp 36, .tmp 41]) rfl ?_); at_builtin; refine Kd.R_append (Kd.int .i64) (w0 := w) w.heap.size rfl (.tmp 36) (.tmp 41) 36 3 (.int .i64 0) 8 rfl Try.underlying36 info3 rfl (by decide) (by omega) u7 x7_1 t274 [.int .i64 t274] (fun _ => True) (fun _ => False) rfl rfl ?aP (fun _ hk => hk.elim) ?aF ?aO ?aB ?aS ?aL ?_; (case aP => exact rfl); (case aB => exact S.bA); (case aF => exact (fun _ _ => trivial)); (case aO => exact (S.uR HO_7.out)); (case aS => exact (below_size S.bA)); (case aL => have := LMc21.out; omega); intro v276 w23 ho hb hg hat; rw [← Ny275.out] at ho; have n0_ := Aside0.mk (hb); have n1_ := Aside0.mk (ho); clear HB; clear HO_7; have HB := n0_; have HO277 := n1_; clear n0_ n1_; clear ho hb hg hat)); try go_wp2_with (first | (go_at_call 66; (with_reducible refine (spec_EqualInts.calls kj5 _ _ ((rd_T85 l1 x8_1).f0) _ _ ((rd_T85 l2 0).f0) true _ ?s1 ?s2 ?s3 ?s4 A18.out).mono ?_); (case s1 => exact S.cA HR271_0.out); (case s2 => exact HC271_0.out); (case s3 => exact S.cA HR272_0.out); (case s4 => exact HC272_0.out); rintro e w' ⟨rfl, ⟨nd, rfl⟩⟩; (try first | exact ⟨rfl, _, World.drewN_drewN _ _ _⟩ | exact ⟨rfl, _, Eq.trans (World.drewN_drewN _ _ _) (congrArg (World.drewN _) (Nat.add_assoc _ _ _))⟩)) | (go_at_call 67; (with_reducible refine (spec_StartOf.calls kj5 _ _ l0 _ _ l1 x8_1 t274 _ ?s1 ?s2 ?s3 ?s4 A20.out).mono ?_); (case s1 => repeat (first | exact (Kd.C_below HR0.out S.bA) | (with_reducible refine Kd.C_alloc ?_ _) | (with_reducible refine Kd.C_drewN ?_ _) | (with_reducible refine Kd.C_drew ?_))); (case s2 => exact HC0.out); (case s3 => repeat (first | exact (Kd.C_below HR1.out S.bA) | (with_reducible refine Kd.C_alloc ?_ _) | (with_reducible refine Kd.C_drewN ?_ _) | (with_reducible refine Kd.C_drew ?_))); (case s4 => exact HC1.out); rintro e w22 ⟨rfl, hb⟩; have n0_ := S.rb HO_7 hb; have n1_ := S.sA hb; clear HO_7; clear HB; have HO_7 := n0_; have HB := n1_; clear n0_ n1_; (try clear hb); (try clear hb2); (try clear hk); (try clear hi)) | ((with_reducible refine gate_builtin (b := .append) (xs := #[.tmp 36, .tmp 41]) rfl ?_); at_builtin; refine Kd.R_append (Kd.int .i64) (w0 := w) w.heap.size rfl (.tmp 36) (.tmp 41) 36 3 (.int .i64 0) 8 rfl Try.underlying36 info3 rfl (by decide) (by omega) u7 x7_1 t274 [.int .i64 t274] (fun _ => True) (fun _ => False) rfl rfl ?aP (fun _ hk => hk.elim) ?aF ?aO ?aB ?aS ?aL ?_; (case aP => exact rfl); (case aB => exact S.bA); (case aF => exact (fun _ _ => trivial)); (case aO => exact (S.uR HO_7.out)); (case aS => exact (below_size S.bA)); (case aL => have := LMc21.out; omega); intro v276 w23 ho hb hg hat; rw [← Ny275.out] at ho; have n0_ := Aside0.mk (hb); have n1_ := Aside0.mk (ho); clear HB; clear HO_7; have HB := n0_; have HO277 := n1_; clear n0_ n1_; clear ho hb hg hat)))
           go_roundg kj5
           case measure => have := HK1.out; have := HJ5.out; omega
           case rel => exact ⟨(y275), (wrap64 (x8_1 + 1)), S.eA, H', ⟨by have := HK1.out; have := HJ5.out; omega⟩, ⟨S.uR HO277.out⟩, ⟨S.bA⟩⟩
          ·rw [if_neg c21] at H
           exact absurd H (by simp)
         ·have H' := Aside0.mk H
          clear H
          have p271 : 0 ≤ (x8_1 : Int) := S.oD
          have q271 : x8_1 < (l1.length : Int) := S.oD
          obtain ⟨ad271, A271_0, c271_0, e271, hx271_0, hx271_1, hl271_0, hi271_0⟩ := at_T85 HR1.out x8_1 p271 q271
          cases e271
          replace hx271_0 := S.hb HB hx271_0
          replace hx271_1 := S.hb HB hx271_1
          have HR271_0 := Aside0.mk hi271_0
          have HC271_0 := Aside0.mk hl271_0
          clear hi271_0 hl271_0
          replace p271 := eq_true p271
          replace q271 := eq_true q271
          have p272 : 0 ≤ (0 : Int) := (by omega)
          have q272 : 0 < (l2.length : Int) := S.oD
          obtain ⟨ad272, A272_0, c272_0, e272, hx272_0, hx272_1, hl272_0, hi272_0⟩ := at_T85 HR2.out 0 p272 q272
          cases e272
          have qi272 : (0 < l2.length) = True := eq_true (by omega)
          (try rw [show ((0 : Int)).toNat = 0 from rfl] at hx272_0)
          (try rw [show 0 * 2 = 0 from rfl] at hx272_0)
          (try rw [Addr.add_zero'] at hx272_0)
          (try rw [show ((0 : Int)).toNat = 0 from rfl] at hx272_1)
          (try rw [show 0 * 2 = 0 from rfl] at hx272_1)
          (try rw [Addr.add_zero'] at hx272_1)
          replace hx272_0 := S.hb HB hx272_0
          replace hx272_1 := S.hb HB hx272_1
          have HR272_0 := Aside0.mk hi272_0
          have HC272_0 := Aside0.mk hl272_0
          clear hi272_0 hl272_0
          replace p272 := eq_true p272
          replace q272 := eq_true q272
          go_wp2_with (first | (go_at_call 66; (with_reducible refine (spec_EqualInts.calls kj5 _ _ ((rd_T85 l1 x8_1).f0) _ _ ((rd_T85 l2 0).f0) false _ ?s1 HC271_0.out ?s3 HC272_0.out A18.out).mono ?_); (case s1 => exact S.cA HR271_0.out); (case s3 => exact S.cA HR272_0.out); rintro e w' ⟨rfl, ⟨nd, rfl⟩⟩; (try first | exact ⟨rfl, _, World.drewN_drewN _ _ _⟩ | exact ⟨rfl, _, Eq.trans (World.drewN_drewN _ _ _) (congrArg (World.drewN _) (Nat.add_assoc _ _ _))⟩)))
          repeat (go_quiet (first | (go_at_call 66; (with_reducible refine (spec_EqualInts.calls kj5 _ _ ((rd_T85 l1 x8_1).f0) _ _ ((rd_T85 l2 0).f0) false _ ?s1 HC271_0.out ?s3 HC272_0.out A18.out).mono ?_); (case s1 => exact S.cA HR271_0.out); (case s3 => exact S.cA HR272_0.out); rintro e w' ⟨rfl, ⟨nd, rfl⟩⟩; (try first | exact ⟨rfl, _, World.drewN_drewN _ _ _⟩ | exact ⟨rfl, _, Eq.trans (World.drewN_drewN _ _ _) (congrArg (World.drewN _) (Nat.add_assoc _ _ _))⟩))); try go_wp2_with (first | (go_at_call 66; (with_reducible refine (spec_EqualInts.calls kj5 _ _ ((rd_T85 l1 x8_1).f0) _ _ ((rd_T85 l2 0).f0) false _ ?s1 HC271_0.out ?s3 HC272_0.out A18.out).mono ?_); (case s1 => exact S.cA HR271_0.out); (case s3 => exact S.cA HR272_0.out); rintro e w' ⟨rfl, ⟨nd, rfl⟩⟩; (try first | exact ⟨rfl, _, World.drewN_drewN _ _ _⟩ | exact ⟨rfl, _, Eq.trans (World.drewN_drewN _ _ _) (congrArg (World.drewN _) (Nat.add_assoc _ _ _))⟩))))
          go_roundg kj5
          case measure => have := HK1.out; have := HJ5.out; omega
          case rel => exact ⟨(x7_1), (wrap64 (x8_1 + 1)), S.eA, H', ⟨by have := HK1.out; have := HJ5.out; omega⟩, ⟨S.uR HO_7.out⟩, ⟨S.bA⟩⟩
        ·rw [if_neg c17] at H
         exact absurd H (by simp)
       ·rw [if_neg c16] at H
        exact absurd H (by simp)
      ·rw [if_neg c15] at H
       exact absurd H (by simp)
     ·obtain rfl := Option.some.inj H
      go_wp2
      repeat (go_quiet (fail); try go_wp2)
      go_ret
      exact ⟨_, S.eW, S.uR HO_7.out, S.bA⟩

/-! ### spec_CanSwitch: function 20 -/
def spec_CanSwitch.f (k : Nat) (l0 : List (S71)) (l1 : List (S85)) (l2 : List (S85)) : Option (Bool) := (spec_SwitchSeconds.f k l0 l1 l2).bind fun t278 => (some (decide ((t278.length : Int) > 0)))
set_option maxHeartbeats 8000000 in
set_option maxRecDepth 100000 in
theorem spec_CanSwitch.calls (k : Nat) (A0 : Option Addr) (c0 : Nat) (l0 : List (S71)) (A1 : Option Addr) (c1 : Nat) (l1 : List (S85)) (A2 : Option Addr) (c2 : Nat) (l2 : List (S85)) (r : Bool) (w : World) (hr0 : Kd.C k71 w A0 l0.length l0) (hc0 : l0.length ≤ c0) (hr1 : Kd.C k85 w A1 l1.length l1) (hc1 : l1.length ≤ c1) (hr2 : Kd.C k85 w A2 l2.length l2) (hc2 : l2.length ≤ c2) (h : spec_CanSwitch.f k l0 l1 l2 = some r) :
  Calls Try.prog 20 #[.slice A0 l0.length c0, .slice A1 l1.length c1, .slice A2 l2.length c2] w fun e w' => e = .returned (.bool r) ∧ Below w.heap.size w w' := by
 have HR0 := Aside0.mk hr0
 have HC0 := Aside0.mk hc0
 clear hr0 hc0
 have HR1 := Aside0.mk hr1
 have HC1 := Aside0.mk hc1
 clear hr1 hc1
 have HR2 := Aside0.mk hr2
 have HC2 := Aside0.mk hc2
 clear hr2 hc2
 have HB := Aside0.mk (Below.refl w.heap.size w)
 have H : ((spec_SwitchSeconds.f k l0 l1 l2).bind fun t278 => (some (decide ((t278.length : Int) > 0)))) = some r := h
 clear h
 replace H := S.bd H; obtain ⟨t278, A4, H⟩ := H
 (try dsimp only at H)
 obtain rfl := Option.some.inj H
 go_enter Try.func20, Try.ntmps20
 go_wp2_with (first | ((with_reducible refine gate_callee (f := 22) rfl ?_); refine S.gL (some 10) Try.func22 #[.slice A0 l0.length c0, .slice A1 l1.length c1, .slice A2 l2.length c2] ?_; (with_reducible refine (spec_SwitchSeconds.calls k _ _ l0 _ _ l1 _ _ l2 t278 _ ?s1 HC0.out ?s3 HC1.out ?s5 HC2.out A4.out).mono ?_); (case s1 => repeat (first | exact HR0.out | (with_reducible refine Kd.C_alloc ?_ _) | (with_reducible refine Kd.C_drewN ?_ _) | (with_reducible refine Kd.C_drew ?_))); (case s3 => repeat (first | exact HR1.out | (with_reducible refine Kd.C_alloc ?_ _) | (with_reducible refine Kd.C_drewN ?_ _) | (with_reducible refine Kd.C_drew ?_))); (case s5 => repeat (first | exact HR2.out | (with_reducible refine Kd.C_alloc ?_ _) | (with_reducible refine Kd.C_drewN ?_ _) | (with_reducible refine Kd.C_drew ?_))); rintro e w5 ⟨v279, rfl, ho0, hb⟩; refine ⟨_, rfl, ?_⟩; have HO280 := S.lwA ho0; replace HB := S.sA hb; (try clear hb); (try clear ho0); obtain ⟨Ao6, co6, eo6⟩ := Kd.R_slice HO280.out; subst eo6))
 go_ret
 exact ⟨S.eW, S.bA⟩

end Go.Proofs.Ytjgigmghcfdomaa.PFnExactMakeSwitch
