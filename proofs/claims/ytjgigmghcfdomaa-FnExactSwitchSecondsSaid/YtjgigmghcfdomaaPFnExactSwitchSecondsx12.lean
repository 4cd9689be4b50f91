/- Printed by a program: what the Go functions compute, as plain Lean functions (.f), and the proofs that the machine's calls come to just that (.calls). -/
import Derived.Test.YtjgigmghcfdomaaPFnExactSwitchSecondsx0
import Derived.Test.YtjgigmghcfdomaaPFnExactSwitchSecondsx3
import Derived.Test.YtjgigmghcfdomaaPFnExactSwitchSecondsx9
import Derived.Test.YtjgigmghcfdomaaPFnExactSwitchSecondsx10
import Derived.Test.YtjgigmghcfdomaaPFnExactSwitchSecondsx11
namespace Go.Proofs.Ytjgigmghcfdomaa.PFnExactSwitchSeconds
open Go.RowKit Go.Proofs.YtjgigmghcfdomaaW.PrintWords Go.Proofs.YtjgigmghcfdomaaW.PrintLast Go.Proofs.YtjgigmghcfdomaaW.PrintMore
attribute [local go_sem] max2_int min2_int max_two min_two max_three min_three max_four min_four   -- for this text's walks alone
set_option linter.unusedVariables false
set_option linter.unusedSimpArgs false

/-! ### spec_l8Long: function 103 -/
def spec_l8Long.f (k : Nat) (l0 : List (S71)) (l1 : List (S85)) (a2 : Int) : Option (Int) := if 0 ≤ a2 then (if a2 < (l1.length : Int) then (if (l1.length : Int) = 0 then (none) else (if 0 ≤ (Int.tmod (wrap64 (a2 + 1)) (l1.length : Int)) then (if (Int.tmod (wrap64 (a2 + 1)) (l1.length : Int)) < (l1.length : Int) then ((spec_ClearBetween.f k l0 ((rd_T85 l1 a2).f0) ((rd_T85 l1 (Int.tmod (wrap64 (a2 + 1)) (l1.length : Int))).f0)).bind fun t257 => (some (wrap64 (((rd_T85 l1 a2).f1) + t257)))) else (none)) else (none))) else (none)) else (none)
def spec_l8Long.T1 : Bool × List (List Nat × List Nat) := (true, [([], []), ([], []), ([0, 1], [0, 1]), ([2], [2]), ([3], [3]), ([], []), ([], []), ([], []), ([6, 7], [6, 7]), ([8], [8]), ([9], [9]), ([], []), ([], []), ([12], [12]), ([], []), ([14], [14]), ([13, 15], [13, 15]), ([11, 16], [11, 16]), ([17], [17]), ([18], [18]), ([5, 10, 19], [5, 10, 19]), ([4, 20], [4, 20]), ([21, 20, 0, 1, 2, 3, 4, 5, 6, 7, 8, 9, 10, 11, 12, 13, 14, 15, 16, 17, 18, 19, 20, 21], [21])])
def spec_l8Long.B1 : List Nat := [0, 0, 3, 7, 15, 0, 0, 0, 192, 448, 960, 0, 0, 4096, 0, 16384, 61440, 129024, 260096, 522240, 1048544, 2097151, 4194303]
theorem spec_l8Long.tab1 : rtab .any (opsOf Try.f103 1) = spec_l8Long.T1 := by kernel_rfl
theorem spec_l8Long.bits1 : waitsOk spec_l8Long.T1.2 spec_l8Long.B1 = true := by kernel_rfl
set_option maxHeartbeats 8000000 in
set_option maxRecDepth 100000 in
theorem spec_l8Long.calls (k : Nat) (A0 : Option Addr) (c0 : Nat) (l0 : List (S71)) (A1 : Option Addr) (c1 : Nat) (l1 : List (S85)) (a2 : Int) (r : Int) (w : World) (hr0 : Kd.C k71 w A0 l0.length l0) (hc0 : l0.length ≤ c0) (hr1 : Kd.C k85 w A1 l1.length l1) (hc1 : l1.length ≤ c1) (h : spec_l8Long.f k l0 l1 a2 = some r) :
  Calls Try.prog 103 #[.slice A0 l0.length c0, .slice A1 l1.length c1, .int .i64 a2] w fun e w' => e = .returned (.int .i64 r) ∧ Below w.heap.size w w' := by
 have HR0 := Aside0.mk hr0
 have HC0 := Aside0.mk hc0
 clear hr0 hc0
 have HR1 := Aside0.mk hr1
 have HC1 := Aside0.mk hc1
 clear hr1 hc1
 have HB := Aside0.mk (Below.refl w.heap.size w)
 have H : (if 0 ≤ a2 then (if a2 < (l1.length : Int) then (if (l1.length : Int) = 0 then (none) else (if 0 ≤ (Int.tmod (wrap64 (a2 + 1)) (l1.length : Int)) then (if (Int.tmod (wrap64 (a2 + 1)) (l1.length : Int)) < (l1.length : Int) then ((spec_ClearBetween.f k l0 ((rd_T85 l1 a2).f0) ((rd_T85 l1 (Int.tmod (wrap64 (a2 + 1)) (l1.length : Int))).f0)).bind fun t257 => (some (wrap64 (((rd_T85 l1 a2).f1) + t257)))) else (none)) else (none))) else (none)) else (none)) = some r := h
 clear h
 by_cases c4 : 0 ≤ a2
 ·rw [if_pos c4] at H
  have c4b0 : decide (0 ≤ a2) = true := decide_eq_true c4
  clear c4
  by_cases c5 : a2 < (l1.length : Int)
  ·rw [if_pos c5] at H
   have c5b0 : decide (a2 < (l1.length : Int)) = true := decide_eq_true c5
   clear c5
   by_cases c6 : (l1.length : Int) = 0
   ·rw [if_pos c6] at H
    exact absurd H (by simp)
   ·rw [if_neg c6] at H
    have c6b0 : ((l1.length : Int) == 0) = false := beq_eq_false_iff_ne.mpr c6
    have c6b1 : ((l1.length : Int) != 0) = true := bne_iff_ne.mpr c6
    have c6b2 : ¬ (l1 = []) := fun h_ => c6 (by rw [h_]; rfl)
    obtain ⟨ji7, hji7⟩ : ∃ j_ : Int, (Int.tmod (wrap64 (a2 + 1)) (l1.length : Int)) = j_ := ⟨_, rfl⟩
    replace H : (if 0 ≤ (ji7) then (if (ji7) < (l1.length : Int) then ((spec_ClearBetween.f k l0 ((rd_T85 l1 a2).f0) ((rd_T85 l1 (ji7)).f0)).bind fun t257 => (some (wrap64 (((rd_T85 l1 a2).f1) + t257)))) else (none)) else (none)) = some r := by first | (rw [hji7] at H; exact H) | (simp only [hji7] at H ⊢; exact H)
    by_cases c8 : 0 ≤ (ji7)
    ·rw [if_pos c8] at H
     have c8b0 : decide (0 ≤ (ji7)) = true := decide_eq_true c8
     clear c8
     by_cases c9 : (ji7) < (l1.length : Int)
     ·rw [if_pos c9] at H
      have c9b0 : decide ((ji7) < (l1.length : Int)) = true := decide_eq_true c9
      clear c9
      replace H := S.bd H; obtain ⟨t257, A10, H⟩ := H
      (try dsimp only at H)
      obtain rfl := Option.some.inj H
      go_enter Try.func103, Try.ntmps103
      try go_wp2
      replace HB := Aside0.mk (below_drew1 HB.out)
      have p254 : 0 ≤ (a2 : Int) := S.oD
      have q254 : a2 < (l1.length : Int) := S.oD
      obtain ⟨ad254, A254_0, c254_0, e254, hx254_0, hx254_1, hl254_0, hi254_0⟩ := at_T85 HR1.out a2 p254 q254
      have hw254_1 := hx254_1
      have hw254_0 := hx254_0
      cases e254
      replace hx254_0 := S.hb HB hx254_0
      replace hx254_1 := S.hb HB hx254_1
      have HR254_0 := Aside0.mk hi254_0
      have HC254_0 := Aside0.mk hl254_0
      clear hi254_0 hl254_0
      replace p254 := eq_true p254
      replace q254 := eq_true q254
      have p255 : 0 ≤ (a2 : Int) := S.oD
      have q255 : a2 < (l1.length : Int) := S.oD
      obtain ⟨ad255, A255_0, c255_0, e255, hx255_0, hx255_1, hl255_0, hi255_0⟩ := at_T85 HR1.out a2 p255 q255
      have hw255_1 := hx255_1
      have hw255_0 := hx255_0
      obtain rfl : ad254 = ad255 := (by injection e255)
      replace hx255_0 := S.hb HB hx255_0
      replace hx255_1 := S.hb HB hx255_1
      have HR255_0 := Aside0.mk hi255_0
      have HC255_0 := Aside0.mk hl255_0
      clear hi255_0 hl255_0
      replace p255 := eq_true p255
      replace q255 := eq_true q255
      have ea_ := Option.some.inj (hx254_0.symm.trans hx255_0)
      injection ea_ with ea_ en_ ec_
      subst ea_
      subst ec_
      clear en_
      have p256 : 0 ≤ ((ji7) : Int) := S.oD
      have q256 : (ji7) < (l1.length : Int) := S.oD
      obtain ⟨ad256, A256_0, c256_0, e256, hx256_0, hx256_1, hl256_0, hi256_0⟩ := at_T85 HR1.out (ji7) p256 q256
      have hw256_1 := hx256_1
      have hw256_0 := hx256_0
      obtain rfl : ad254 = ad256 := (by injection e256)
      replace hx256_0 := S.hb HB hx256_0
      replace hx256_1 := S.hb HB hx256_1
      have HR256_0 := Aside0.mk hi256_0
      have HC256_0 := Aside0.mk hl256_0
      clear hi256_0 hl256_0
      replace p256 := eq_true p256
      replace q256 := eq_true q256
      refine S.st (n := 23) (ds := []) #[false, false, false, false, false, false, false, false, false, false, false, false, false, false, false, false, false, false, false, false, false, false, false] (fun w_ h_ => have x_ := And.intro (S.q h_ (S.hb HB hw254_0)) (And.intro (S.q h_ (S.hb HB hw254_1)) (And.intro (S.q h_ (S.hb HB hw255_0)) (And.intro (S.q h_ (S.hb HB hw255_1)) (And.intro (S.q h_ (S.hb HB hw256_0)) (S.q h_ (S.hb HB hw256_1)))))); x_) (fun hHeld => ?_); refine with_tabW spec_l8Long.tab1 spec_l8Long.bits1 (fun HT_ HW_ => ?_)
      generalize w.drew = w11 at HB HR254_0 HR255_0 HR256_0 hx254_0 hx254_1 hx255_0 hx255_1 hx256_0 hx256_1 hHeld ⊢
      refine S.pS 0 7 ?_
      refine S.pS 1 8 ?_
      refine S.pS 2 9 ?_
      refine S.pS 3 10 ?_
      refine S.pS 5 12 ?_
      refine S.pS 6 13 ?_
      refine S.pS 7 14 ?_
      refine S.pS 8 15 ?_
      refine S.pS 9 16 ?_
      refine S.pS 11 18 ?_
      refine S.pS 12 19 ?_
      refine S.pS 13 20 ?_
      refine S.pS 14 21 ?_
      refine S.pS 15 22 ?_
      refine S.pS 16 23 ?_
      refine S.pS 17 24 ?_
      refine S.pS 18 25 ?_
      refine S.tK 4 11 #[true, true, true, true, true, true, true, true, true, true, false, true, true, true, true, true, true, true, true, false, false, false, false] ?_
      refine S.tK 10 17 #[true, true, true, true, true, true, true, true, true, true, true, true, true, true, true, true, true, true, true, false, false, false, false] ?_
      refine S.tK 19 26 #[true, true, true, true, true, true, true, true, true, true, true, true, true, true, true, true, true, true, true, true, false, false, false] ?_
      refine S.oN 20 27 #[true, true, true, true, true, true, true, true, true, true, true, true, true, true, true, true, true, true, true, true, true, false, false] (fun K hK => ?_)
      refine goes_ Try.func126 (by kernel_rfl) rfl #[.slice A0 l0.length c0, .slice A254_0 ((rd_T85 l1 a2).f0).length c254_0, .slice A256_0 ((rd_T85 l1 (ji7)).f0).length c256_0] (by rfl) rfl rfl (by (try simp only [List.map_toArray, List.map_cons, List.map_nil]); first | done | (simp only [hji7]; rfl) | rfl | (simp only [List.length_drop, List.length_take]; rfl)) ?_
      with_reducible refine (spec_ClearBetween.calls k _ _ l0 _ _ ((rd_T85 l1 a2).f0) _ _ ((rd_T85 l1 (ji7)).f0) t257 _ ?s1 ?s2 ?s3 ?s4 ?s5 ?s6 A10.out).mono ?_
      (case s1 => exact S.cA HR0.out)
      (case s2 => exact HC0.out)
      (case s3 => exact S.cA HR255_0.out)
      (case s4 => exact HC255_0.out)
      (case s5 => exact S.cA HR256_0.out)
      (case s6 => exact HC256_0.out)
      rintro e w12 ⟨rfl, hb⟩
      refine ⟨_, rfl, ?_⟩
      replace HB := S.sA hb
      (try clear hb)
      (try clear hb2)
      (try clear hk)
      (try clear hi)
      refine hK.out _ _ ⟨(S.hb HB hw254_0 :), (S.hb HB hw254_1 :), (S.hb HB hw255_0 :), (S.hb HB hw255_1 :), (S.hb HB hw256_0 :), (S.hb HB hw256_1 :)⟩ (fun hHeld => ?_)
      clear hK K
      refine S.nm 27 ?_
      refine S.pS 21 28 ?_
      refine S.pS 22 6 ?_
      refine done_ (done_of HT_.out (by kernel_rfl)) ?_
      try go_wp2
      go_ret
      exact ⟨by first | rfl | (simp [errW_none, errW_some] <;> rfl) | (simp only [← hji7]; first | rfl | (simp [errW_none, errW_some] <;> rfl)) | (simp [*, errW_none, errW_some] <;> rfl), S.bA⟩
     ·rw [if_neg c9] at H
      exact absurd H (by simp)
    ·rw [if_neg c8] at H
     exact absurd H (by simp)
  ·rw [if_neg c5] at H
   exact absurd H (by simp)
 ·rw [if_neg c4] at H
  exact absurd H (by simp)

/-! ### spec_StartOf: function 67 -/
mutual
def spec_StartOf.j0 : Nat → List (S71) → List (S85) → Int → Bool → Option (Int)
 | 0, _, _, _, _ => none
 | k + 1, x0, x1, x2, x20 => if x20 = true then (some (-1)) else (spec_StartOf.l0 k x0 x1 x2 0 0)
def spec_StartOf.l0 : Nat → List (S71) → List (S85) → Int → Int → Int → Option (Int)
 | 0, _, _, _, _, _ => none
 | k + 1, x0, x1, x2, x7, x8 => if x8 < x2 then ((spec_l8Long.f k x0 x1 x8).bind fun t260 => (spec_StartOf.l0 k x0 x1 x2 (wrap64 (x7 + t260)) (wrap64 (x8 + 1)))) else (some x7)
end
def spec_StartOf.f (k : Nat) (l0 : List (S71)) (l1 : List (S85)) (a2 : Int) : Option (Int) := (spec_IsPlan.f k l0 l1).bind fun t258 => (if t258 = true then ((spec_l1In.f a2 0 (wrap64 ((l1.length : Int) - 1))).bind fun t259 => (spec_StartOf.j0 k l0 l1 a2 (!t259))) else (spec_StartOf.j0 k l0 l1 a2 true))
set_option maxHeartbeats 8000000 in
set_option maxRecDepth 100000 in
theorem spec_StartOf.calls (k : Nat) (A0 : Option Addr) (c0 : Nat) (l0 : List (S71)) (A1 : Option Addr) (c1 : Nat) (l1 : List (S85)) (a2 : Int) (r : Int) (w : World) (hr0 : Kd.C k71 w A0 l0.length l0) (hc0 : l0.length ≤ c0) (hr1 : Kd.C k85 w A1 l1.length l1) (hc1 : l1.length ≤ c1) (h : spec_StartOf.f k l0 l1 a2 = some r) :
  Calls Try.prog 67 #[.slice A0 l0.length c0, .slice A1 l1.length c1, .int .i64 a2] w fun e w' => e = .returned (.int .i64 r) ∧ Below w.heap.size w w' := by
 have HR0 := Aside0.mk hr0
 have HC0 := Aside0.mk hc0
 clear hr0 hc0
 have HR1 := Aside0.mk hr1
 have HC1 := Aside0.mk hc1
 clear hr1 hc1
 have HB := Aside0.mk (Below.refl w.heap.size w)
 have H : ((spec_IsPlan.f k l0 l1).bind fun t258 => (if t258 = true then ((spec_l1In.f a2 0 (wrap64 ((l1.length : Int) - 1))).bind fun t259 => (spec_StartOf.j0 k l0 l1 a2 (!t259))) else (spec_StartOf.j0 k l0 l1 a2 true))) = some r := h
 clear h
 have HC4 := Aside0.mk H
 clear H
 go_enter Try.func67, Try.ntmps67
 go_upto_region 1 with (fail)
 go_cut [20] (fun v20 wc => ∃ (kq : Nat) (x20_3 : Bool), v20 = .bool x20_3 ∧ Aside0 (spec_StartOf.j0 kq l0 l1 a2 x20_3 = some r) ∧ Aside0 (kq ≤ k) ∧ Aside0 (Below w.heap.size w wc))
 case first =>
  have H := HC4.out
  clear HC4
  replace H := S.bd H; obtain ⟨t258, A5, H⟩ := H
  (try dsimp only at H)
  replace H := S.db H; rcases H with ⟨rfl, H⟩ | ⟨rfl, H⟩
  ·replace H := S.bd H; obtain ⟨t259, A7, H⟩ := H
   (try dsimp only at H)
   have H' := Aside0.mk H
   clear H
   go_wp2_with (first | ((with_reducible refine gate_callee (f := 65) rfl ?_); refine S.gL (some 11) Try.func65 #[.slice A0 l0.length c0, .slice A1 l1.length c1] ?_; (with_reducible refine (spec_IsPlan.calls k _ _ l0 _ _ l1 true _ ?s1 HC0.out ?s3 HC1.out A5.out).mono ?_); (case s1 => exact S.cA HR0.out); (case s3 => exact S.cA HR1.out); rintro e w8 ⟨rfl, hb⟩; refine ⟨_, rfl, ?_⟩; replace HB := S.sA hb; (try clear hb)) | (go_at_call 58; (with_reducible refine (spec_l1In.calls a2 0 (wrap64 ((l1.length : Int) - 1)) t259 _ A7.out).mono ?_); rintro e w' ⟨rfl, ⟨nd, rfl⟩⟩))
   go_meet
   case rel => exact ⟨_, (!t259), S.eA, H', S.le, ⟨S.bA⟩⟩
  ·have H' := Aside0.mk H
   clear H
   go_wp2_with (first | ((with_reducible refine gate_callee (f := 65) rfl ?_); refine S.gL (some 11) Try.func65 #[.slice A0 l0.length c0, .slice A1 l1.length c1] ?_; (with_reducible refine (spec_IsPlan.calls k _ _ l0 _ _ l1 false _ ?s1 HC0.out ?s3 HC1.out A5.out).mono ?_); (case s1 => exact S.cA HR0.out); (case s3 => exact S.cA HR1.out); rintro e w9 ⟨rfl, hb⟩; refine ⟨_, rfl, ?_⟩; replace HB := S.sA hb; (try clear hb)))
   go_meet
   case rel => exact ⟨_, (true), S.eA, H', S.le, ⟨S.bA⟩⟩
 case rest =>
  clear HC4
  try clear c1
  obtain ⟨kq, x20_3, rfl, HA, HJ3, HB⟩ := hcut
  cases kq with
  | zero => exact absurd HA.out (by simp [spec_StartOf.j0])
  | succ kj3 =>
   have H := HA.out
   clear HA
   simp only [spec_StartOf.j0] at H
   replace H := S.db H; rcases H with ⟨rfl, H⟩ | ⟨rfl, H⟩
   ·obtain rfl := Option.some.inj H
    go_wp2
    go_ret
    exact ⟨S.eW, S.bA⟩
   ·have H' := Aside0.mk H
    clear H
    go_wp2
    go_loopg [7, 8] kj3 (fun kq v7 v8 w' => ∃ (x7_2 : Int) (x8_2 : Int), v7 = .int .i64 x7_2 ∧ v8 = .int .i64 x8_2 ∧ Aside0 (spec_StartOf.l0 kq l0 l1 a2 x7_2 x8_2 = some r) ∧ Aside0 (kq ≤ kj3) ∧ Aside0 (Below w.heap.size w w'))
    case atStart => exact ⟨(0), (0), S.eA, S.eA, H', ⟨Nat.le_refl _⟩, ⟨S.bA⟩⟩
    case round =>
     clear H'
     try clear c1
     try clear c10
     obtain ⟨x7_2, x8_2, rfl, rfl, HA, HK2, HB⟩ := hrel
     cases gk with
     | zero => exact absurd HA.out (by simp [spec_StartOf.l0])
     | succ k2 =>
      have H := HA.out
      clear HA
      simp only [spec_StartOf.l0] at H
      replace H := S.dc H; rcases H with ⟨H, c11b0⟩ | ⟨H, c11b0⟩
      ·replace H := Option.bind_eq_some_iff.mp H
       obtain ⟨t260, A120, H⟩ := H
       replace H : (spec_StartOf.l0 k2 l0 l1 a2 (wrap64 (x7_2 + t260)) (wrap64 (x8_2 + 1))) = some r := H
       have A12 := Aside0.mk A120
       clear A120
       have H' := Aside0.mk H
       clear H
       go_wp2_with (first | ((with_reducible refine gate_callee (f := 103) rfl ?_); refine S.gL (some 30) Try.func103 #[.slice A0 l0.length c0, .slice A1 l1.length c1, .int .i64 x8_2] ?_; (with_reducible refine (spec_l8Long.calls k2 _ _ l0 _ _ l1 x8_2 t260 _ ?s1 HC0.out ?s3 HC1.out A12.out).mono ?_); (case s1 => exact S.cA HR0.out); (case s3 => exact S.cA HR1.out); rintro e w13 ⟨rfl, hb⟩; refine ⟨_, rfl, ?_⟩; replace HB := S.sA hb; (try clear hb)))
       go_roundg k2
       case measure => have := HJ3.out; have := HK2.out; omega
       case rel => exact ⟨(wrap64 (x7_2 + t260)), (wrap64 (x8_2 + 1)), S.eA, S.eA, H', ⟨by have := HJ3.out; have := HK2.out; omega⟩, ⟨S.bA⟩⟩
      ·obtain rfl := Option.some.inj H
       go_wp2
       go_ret
       exact ⟨S.eW, S.bA⟩

/-! ### spec_SwitchSeconds: function 22 -/
mutual
def spec_SwitchSeconds.l0 : Nat → List (S71) → List (S85) → List (S85) → List Int → Int → Option (List Int)
 | 0, _, _, _, _, _ => none
 | k + 1, x0, x1, x2, x7, x8 => if x8 < (x1.length : Int) then ((spec_IsPlan.f k x0 x1).bind fun t264 => (if t264 = true then ((spec_IsPlan.f k x0 x2).bind fun t265 => (spec_SwitchSeconds.j1 k x0 x1 x2 x7 x8 t265)) else (spec_SwitchSeconds.j1 k x0 x1 x2 x7 x8 false))) else (spec_SwitchSeconds.j1 k x0 x1 x2 x7 x8 false)
def spec_SwitchSeconds.j1 : Nat → List (S71) → List (S85) → List (S85) → List Int → Int → Bool → Option (List Int)
 | 0, _, _, _, _, _, _ => none
 | k + 1, x0, x1, x2, x7, x8, x23 => if x23 = true then (if 0 ≤ x8 then (if x8 < (x1.length : Int) then (if 0 < (x2.length : Int) then ((spec_EqualInts.f k ((rd_T85 x1 x8).f0) ((rd_T85 x2 0).f0)).bind fun t268 => (if t268 = true then ((spec_StartOf.f k x0 x1 x8).bind fun t269 => (if x7.length < 17592186044416 then (spec_SwitchSeconds.l0 k x0 x1 x2 (x7 ++ [t269]) (wrap64 (x8 + 1))) else (none))) else (spec_SwitchSeconds.l0 k x0 x1 x2 x7 (wrap64 (x8 + 1))))) else (none)) else (none)) else (none)) else (some x7)
end
def spec_SwitchSeconds.f (k : Nat) (l0 : List (S71)) (l1 : List (S85)) (l2 : List (S85)) : Option (List Int) := spec_SwitchSeconds.l0 k l0 l1 l2 (([] : List Int)) 0
set_option maxHeartbeats 8000000 in
set_option maxRecDepth 100000 in
theorem spec_SwitchSeconds.calls (k : Nat) (A0 : Option Addr) (c0 : Nat) (l0 : List (S71)) (A1 : Option Addr) (c1 : Nat) (l1 : List (S85)) (A2 : Option Addr) (c2 : Nat) (l2 : List (S85)) (r : List Int) (w : World) (hr0 : Kd.C k71 w A0 l0.length l0) (hc0 : l0.length ≤ c0) (hr1 : Kd.C k85 w A1 l1.length l1) (hc1 : l1.length ≤ c1) (hr2 : Kd.C k85 w A2 l2.length l2) (hc2 : l2.length ≤ c2) (h : spec_SwitchSeconds.f k l0 l1 l2 = some r) :
  Calls Try.prog 22 #[.slice A0 l0.length c0, .slice A1 l1.length c1, .slice A2 l2.length c2] w fun e w' => ∃ v0_ : Value, e = .returned (v0_) ∧ Kd.R (Kd.int .i64) 3 w' w.heap.size (fun _ => True) v0_ r ∧ Below w.heap.size w w' := by
 have HR0 := Aside0.mk hr0
 have HC0 := Aside0.mk hc0
 clear hr0 hc0
 have HR1 := Aside0.mk hr1
 have HC1 := Aside0.mk hc1
 clear hr1 hc1
 have HR2 := Aside0.mk hr2
 have HC2 := Aside0.mk hc2
 clear hr2 hc2
 have HB := Aside0.mk (Below.refl w.heap.size w)
 have H : (spec_SwitchSeconds.l0 k l0 l1 l2 (([] : List Int)) 0) = some r := h
 clear h
 obtain ⟨y261, hy261⟩ : ∃ y_ : List Int, y_ = (([] : List Int)) := ⟨_, rfl⟩
 replace H : (spec_SwitchSeconds.l0 k l0 l1 l2 y261 0) = some r := by first | (rw [hy261]; with_reducible exact H) | (have H2_ := (Option.bind_some _ _).symm.trans H; rw [hy261]; with_reducible exact H2_) | (have H2_ := (Option.bind_some _ _).symm.trans H; with_reducible exact H2_) | with_reducible exact H | (rw [hy261]; exact H) | exact H
 have Ny261 := Aside0.mk hy261
 clear hy261
 have H' := Aside0.mk H
 clear H
 go_enter Try.func22, Try.ntmps22
 go_wp2_with (first | ((with_reducible refine gate_dst (N := 9) rfl ?_); refine Kd.R_lit (Kd.int .i64) _ 3 ?hg (N := 9) ?hd (xs := ([] : List Int)) (inner := []) (ok := fun _ => True) (okp := fun _ => True) ?hr ?hp (fun _ hk => hk) trivial (Below.refl _ _) (Nat.le_refl _) (by simp) ?_; (case hd => rfl); (case hg => rfl); (case hr => first | (go_simp; done) | (go_simp; rfl)); (case hp => exact (Reps.none _ _)); intro v262 w4 ho5 hb hg_ hnew_; clear hg_ hnew_; (first | rw [← Ny261.out] at ho5 | (simp only [Int.reduceToNat] at ho5; rw [← Ny261.out] at ho5)); have HO263 := S.lwA ho5; replace HB := S.sA hb; clear hb ho5))
 repeat (go_quiet (first | ((with_reducible refine gate_dst (N := 9) rfl ?_); refine Kd.R_lit (Kd.int .i64) _ 3 ?hg (N := 9) ?hd (xs := ([] : List Int)) (inner := []) (ok := fun _ => True) (okp := fun _ => True) ?hr ?hp (fun _ hk => hk) trivial (Below.refl _ _) (Nat.le_refl _) (by simp) ?_; (case hd => rfl); (case hg => rfl); (case hr => first | (go_simp; done) | (go_simp; rfl)); (case hp => exact (Reps.none _ _)); intro v262 w4 ho5 hb hg_ hnew_; clear hg_ hnew_; (first | rw [← Ny261.out] at ho5 | (simp only [Int.reduceToNat] at ho5; rw [← Ny261.out] at ho5)); have HO263 := S.lwA ho5; replace HB := S.sA hb; clear hb ho5)); try go_wp2_with (first | ((with_reducible refine gate_dst (N := 9) rfl ?_); refine Kd.R_lit (Kd.int .i64) _ 3 ?hg (N := 9) ?hd (xs := ([] : List Int)) (inner := []) (ok := fun _ => True) (okp := fun _ => True) ?hr ?hp (fun _ hk => hk) trivial (Below.refl _ _) (Nat.le_refl _) (by simp) ?_; (case hd => rfl); (case hg => rfl); (case hr => first | (go_simp; done) | (go_simp; rfl)); (case hp => exact (Reps.none _ _)); intro v262 w4 ho5 hb hg_ hnew_; clear hg_ hnew_; (first | rw [← Ny261.out] at ho5 | (simp only [Int.reduceToNat] at ho5; rw [← Ny261.out] at ho5)); have n0_ := S.lwA ho5; have n1_ := S.sA hb; clear HB; have HO263 := n0_; have HB := n1_; clear n0_ n1_; clear hb ho5)))
 go_loopg [7, 8] k (fun kq v7 v8 w' => ∃ (x7_1 : List Int) (x8_1 : Int), v8 = .int .i64 x8_1 ∧ Aside0 (spec_SwitchSeconds.l0 kq l0 l1 l2 x7_1 x8_1 = some r) ∧ Aside0 (kq ≤ k) ∧ Aside0 (Kd.R (Kd.int .i64) 3 w' w.heap.size (fun _ => True) v7 x7_1) ∧ Aside0 (Below w.heap.size w w'))
 case atStart => exact ⟨(y261), (0), S.eA, H', ⟨Nat.le_refl _⟩, ⟨S.uR HO263.out⟩, ⟨S.bA⟩⟩
 case round =>
  clear H'
  try clear c1
  try clear c2
  obtain ⟨x7_1, x8_1, rfl, HA, HK1, HO_7, HB⟩ := hrel
  cases gk with
  | zero => exact absurd HA.out (by simp [spec_SwitchSeconds.l0])
  | succ k1 =>
   have H := HA.out
   clear HA
   simp only [spec_SwitchSeconds.l0] at H
   have HC6 := Aside0.mk H
   clear H
   go_upto_region 3 with (fail)
   repeat (go_quiet (fail); go_upto_region 3 with (fail))
   go_cut [23] (fun v23 wc => ∃ (kq : Nat) (x23_5 : Bool), v23 = .bool x23_5 ∧ Aside0 (spec_SwitchSeconds.j1 kq l0 l1 l2 x7_1 x8_1 x23_5 = some r) ∧ Aside0 (kq ≤ k1) ∧ Aside0 (Kd.R (Kd.int .i64) 3 wc w.heap.size (fun _ => True) u7 x7_1) ∧ Aside0 (Below w.heap.size w wc))
   case first =>
    have H := HC6.out
    clear HC6
    replace H := S.dc H; rcases H with ⟨H, c7b0⟩ | ⟨H, c7b0⟩
    ·(first | rw [c7b0] | (simp only [i64_w, i32_w]; rw [c7b0]) | skip)
     replace H := S.bd H; obtain ⟨t264, A8, H⟩ := H
     (try dsimp only at H)
     replace H := S.db H; rcases H with ⟨rfl, H⟩ | ⟨rfl, H⟩
     ·replace H := S.bd H; obtain ⟨t265, A10, H⟩ := H
      (try dsimp only at H)
      have H' := Aside0.mk H
      clear H
      go_wp2_with (first | (go_at_call 65; (with_reducible refine (spec_IsPlan.calls k1 _ _ l0 _ _ l1 true _ ?s1 HC0.out ?s3 HC1.out A8.out).mono ?_); (case s1 => exact S.cA HR0.out); (case s3 => exact S.cA HR1.out); rintro e w11 ⟨rfl, hb⟩; replace HO_7 := S.rb HO_7 hb; replace HB := S.sA hb; (try clear hb)) | (go_at_call 65; (with_reducible refine (spec_IsPlan.calls k1 _ _ l0 _ _ l2 t265 _ ?s1 HC0.out ?s3 HC2.out A10.out).mono ?_); (case s1 => exact S.cA HR0.out); (case s3 => exact S.cA HR2.out); rintro e w12 ⟨rfl, hb⟩; replace HO_7 := S.rb HO_7 hb; replace HB := S.sA hb; (try clear hb)))
      repeat (go_quiet (first | (go_at_call 65; (with_reducible refine (spec_IsPlan.calls k1 _ _ l0 _ _ l1 true _ ?s1 HC0.out ?s3 HC1.out A8.out).mono ?_); (case s1 => exact S.cA HR0.out); (case s3 => exact S.cA HR1.out); rintro e w11 ⟨rfl, hb⟩; replace HO_7 := S.rb HO_7 hb; replace HB := S.sA hb; (try clear hb)) | (go_at_call 65; (with_reducible refine (spec_IsPlan.calls k1 _ _ l0 _ _ l2 t265 _ ?s1 HC0.out ?s3 HC2.out A10.out).mono ?_); (case s1 => exact S.cA HR0.out); (case s3 => exact S.cA HR2.out); rintro e w12 ⟨rfl, hb⟩; replace HO_7 := S.rb HO_7 hb; replace HB := S.sA hb; (try clear hb))); try go_wp2_with (first | (go_at_call 65; (with_reducible refine (spec_IsPlan.calls k1 _ _ l0 _ _ l1 true _ ?s1 ?s2 ?s3 ?s4 A8.out).mono ?_); (case s1 => exact S.cA HR0.out); (case s2 => exact HC0.out); (case s3 => exact S.cA HR1.out); (case s4 => exact HC1.out); rintro e w11 ⟨rfl, hb⟩; have n0_ := S.rb HO_7 hb; have n1_ := S.sA hb; clear HO_7; clear HB; have HO_7 := n0_; have HB := n1_; clear n0_ n1_; (try clear hb); (try clear hb2); (try clear hk); (try clear hi)) | (go_at_call 65; (with_reducible refine (spec_IsPlan.calls k1 _ _ l0 _ _ l2 t265 _ ?s1 ?s2 ?s3 ?s4 A10.out).mono ?_); (case s1 => exact S.cA HR0.out); (case s2 => exact HC0.out); (case s3 => exact S.cA HR2.out); (case s4 => exact HC2.out); rintro e w12 ⟨rfl, hb⟩; have n0_ := S.rb HO_7 hb; have n1_ := S.sA hb; clear HO_7; clear HB; have HO_7 := n0_; have HB := n1_; clear n0_ n1_; (try clear hb); (try clear hb2); (try clear hk); (try clear hi))))
      go_meet
      case rel => exact ⟨_, (t265), S.eA, H', ⟨by have := HK1.out; first | omega | exact Nat.le_refl _⟩, ⟨S.uR HO_7.out⟩, ⟨S.bA⟩⟩
     ·have H' := Aside0.mk H
      clear H
      go_wp2_with (first | (go_at_call 65; (with_reducible refine (spec_IsPlan.calls k1 _ _ l0 _ _ l1 false _ ?s1 HC0.out ?s3 HC1.out A8.out).mono ?_); (case s1 => exact S.cA HR0.out); (case s3 => exact S.cA HR1.out); rintro e w13 ⟨rfl, hb⟩; replace HO_7 := S.rb HO_7 hb; replace HB := S.sA hb; (try clear hb)))
      repeat (go_quiet (first | (go_at_call 65; (with_reducible refine (spec_IsPlan.calls k1 _ _ l0 _ _ l1 false _ ?s1 HC0.out ?s3 HC1.out A8.out).mono ?_); (case s1 => exact S.cA HR0.out); (case s3 => exact S.cA HR1.out); rintro e w13 ⟨rfl, hb⟩; replace HO_7 := S.rb HO_7 hb; replace HB := S.sA hb; (try clear hb))); try go_wp2_with (first | (go_at_call 65; (with_reducible refine (spec_IsPlan.calls k1 _ _ l0 _ _ l1 false _ ?s1 HC0.out ?s3 HC1.out A8.out).mono ?_); (case s1 => exact S.cA HR0.out); (case s3 => exact S.cA HR1.out); rintro e w13 ⟨rfl, hb⟩; have n0_ := S.rb HO_7 hb; have n1_ := S.sA hb; clear HO_7; clear HB; have HO_7 := n0_; have HB := n1_; clear n0_ n1_; (try clear hb); (try clear hb2); (try clear hk); (try clear hi))))
      go_meet
      case rel => exact ⟨_, (false), S.eA, H', ⟨by have := HK1.out; first | omega | exact Nat.le_refl _⟩, ⟨S.uR HO_7.out⟩, ⟨S.bA⟩⟩
    ·(first | rw [c7b0] | (simp only [i64_w, i32_w]; rw [c7b0]) | skip)
     have H' := Aside0.mk H
     clear H
     go_wp2
     repeat (go_quiet (fail); try go_wp2)
     go_meet
     case rel => exact ⟨_, (false), S.eA, H', ⟨by have := HK1.out; first | omega | exact Nat.le_refl _⟩, ⟨S.uR HO_7.out⟩, ⟨S.bA⟩⟩
   case rest =>
    clear HC6
    try clear c1
    try clear c2
    obtain ⟨kq, x23_5, rfl, HA, HJ5, HO_7, HB⟩ := hcut
    cases kq with
    | zero => exact absurd HA.out (by simp [spec_SwitchSeconds.j1])
    | succ kj5 =>
     have H := HA.out
     clear HA
     simp only [spec_SwitchSeconds.j1] at H
     replace H := S.db H; rcases H with ⟨rfl, H⟩ | ⟨rfl, H⟩
     ·by_cases c15 : 0 ≤ x8_1
      ·rw [if_pos c15] at H
       have c15b0 : decide (0 ≤ x8_1) = true := decide_eq_true c15
       clear c15
       by_cases c16 : x8_1 < (l1.length : Int)
       ·rw [if_pos c16] at H
        have c16b0 : decide (x8_1 < (l1.length : Int)) = true := decide_eq_true c16
        clear c16
        by_cases c17 : 0 < (l2.length : Int)
        ·rw [if_pos c17] at H
         have c17b0 : decide (0 < (l2.length : Int)) = true := decide_eq_true c17
         have c17b1 : decide (0 < l2.length) = true := decide_eq_true (by omega)
         clear c17
         replace H := S.bd H; obtain ⟨t268, A18, H⟩ := H
         (try dsimp only at H)
         replace H := S.db H; rcases H with ⟨rfl, H⟩ | ⟨rfl, H⟩
         ·replace H := S.bd H; obtain ⟨t269, A20, H⟩ := H
          (try dsimp only at H)
          by_cases c21 : x7_1.length < 17592186044416
          ·rw [if_pos c21] at H
           have LMc21 := Aside0.mk c21
           clear c21
           obtain ⟨y270, hy270⟩ : ∃ y_ : List Int, y_ = (x7_1 ++ [t269]) := ⟨_, rfl⟩
           replace H : (spec_SwitchSeconds.l0 kj5 l0 l1 l2 y270 (wrap64 (x8_1 + 1))) = some r := by first | (rw [hy270]; with_reducible exact H) | (have H2_ := (Option.bind_some _ _).symm.trans H; rw [hy270]; with_reducible exact H2_) | (have H2_ := (Option.bind_some _ _).symm.trans H; with_reducible exact H2_) | with_reducible exact H | (rw [hy270]; exact H) | exact H
           have Ny270 := Aside0.mk hy270
           clear hy270
           have H' := Aside0.mk H
           clear H
           have p266 : 0 ≤ (x8_1 : Int) := S.oD
           have q266 : x8_1 < (l1.length : Int) := S.oD
           obtain ⟨ad266, A266_0, c266_0, e266, hx266_0, hx266_1, hl266_0, hi266_0⟩ := at_T85 HR1.out x8_1 p266 q266
           cases e266
           replace hx266_0 := S.hb HB hx266_0
           replace hx266_1 := S.hb HB hx266_1
           have HR266_0 := Aside0.mk hi266_0
           have HC266_0 := Aside0.mk hl266_0
           clear hi266_0 hl266_0
           replace p266 := eq_true p266
           replace q266 := eq_true q266
           have p267 : 0 ≤ (0 : Int) := (by omega)
           have q267 : 0 < (l2.length : Int) := S.oD
           obtain ⟨ad267, A267_0, c267_0, e267, hx267_0, hx267_1, hl267_0, hi267_0⟩ := at_T85 HR2.out 0 p267 q267
           cases e267
           have qi267 : (0 < l2.length) = True := eq_true (by omega)
           (try rw [show ((0 : Int)).toNat = 0 from rfl] at hx267_0)
           (try rw [show 0 * 2 = 0 from rfl] at hx267_0)
           (try rw [Addr.add_zero'] at hx267_0)
           (try rw [show ((0 : Int)).toNat = 0 from rfl] at hx267_1)
           (try rw [show 0 * 2 = 0 from rfl] at hx267_1)
           (try rw [Addr.add_zero'] at hx267_1)
           replace hx267_0 := S.hb HB hx267_0
           replace hx267_1 := S.hb HB hx267_1
           have HR267_0 := Aside0.mk hi267_0
           have HC267_0 := Aside0.mk hl267_0
           clear hi267_0 hl267_0
           replace p267 := eq_true p267
           replace q267 := eq_true q267
           go_wp2_with (first | (go_at_call 66; (with_reducible refine (spec_EqualInts.calls kj5 _ _ ((rd_T85 l1 x8_1).f0) _ _ ((rd_T85 l2 0).f0) true _ ?s1 HC266_0.out ?s3 HC267_0.out A18.out).mono ?_); (case s1 => exact S.cA HR266_0.out); (case s3 => exact S.cA HR267_0.out); rintro e w' ⟨rfl, ⟨nd, rfl⟩⟩; (try first | exact ⟨rfl, _, World.drewN_drewN _ _ _⟩ | exact ⟨rfl, _, Eq.trans (World.drewN_drewN _ _ _) (congrArg (World.drewN _) (Nat.add_assoc _ _ _))⟩)) | (go_at_call 67; (with_reducible refine (spec_StartOf.calls kj5 _ _ l0 _ _ l1 x8_1 t269 _ ?s1 HC0.out ?s3 HC1.out A20.out).mono ?_); (case s1 => repeat (first | exact (Kd.C_below HR0.out S.bA) | (with_reducible refine Kd.C_alloc ?_ _) | (with_reducible refine Kd.C_drewN ?_ _) | (with_reducible refine Kd.C_drew ?_))); (case s3 => repeat (first | exact (Kd.C_below HR1.out S.bA) | (with_reducible refine Kd.C_alloc ?_ _) | (with_reducible refine Kd.C_drewN ?_ _) | (with_reducible refine Kd.C_drew ?_))); rintro e w22 ⟨rfl, hb⟩; replace HO_7 := S.rb HO_7 hb; replace HB := S.sA hb; (try clear hb)) | ((with_reducible refine gate_builtin (b := .append) (xs := #[.tmp 36, .tmp 41]) rfl ?_); at_builtin; refine Kd.R_append (Kd.int .i64) (w0 := w) w.heap.size rfl (.tmp 36) (.tmp 41) 36 3 (.int .i64 0) 8 rfl Try.underlying36 info3 rfl (by decide) (by omega) u7 x7_1 t269 [.int .i64 t269] (fun _ => True) (fun _ => False) rfl rfl ?aP (fun _ hk => hk.elim) ?aF ?aO ?aB ?aS ?aL ?_; (case aP => exact rfl); (case aB => exact S.bA); (case aF => exact (fun _ _ => trivial)); (case aO => exact (S.uR HO_7.out)); (case aS => exact (below_size S.bA)); (case aL => have := LMc21.out; omega); intro v271 w23 ho hb hg hat; rw [← Ny270.out] at ho; have n0_ := Aside0.mk (hb); have n1_ := Aside0.mk (ho); clear HB; clear HO_7; have HB := n0_; have HO272 := n1_; clear n0_ n1_; clear ho hb hg hat))
           repeat (go_quiet (first | (go_at_call 66; (with_reducible refine (spec_EqualInts.calls kj5 _ _ ((rd_T85 l1 x8_1).f0) _ _ ((rd_T85 l2 0).f0) true _ ?s1 HC266_0.out ?s3 HC267_0.out A18.out).mono ?_); (case s1 => exact S.cA HR266_0.out); (case s3 => exact S.cA HR267_0.out); rintro e w' ⟨rfl, ⟨nd, rfl⟩⟩; (try first | exact ⟨rfl, _, World.drewN_drewN _ _ _⟩ | exact ⟨rfl, _, Eq.trans (World.drewN_drewN _ _ _) (congrArg (World.drewN _) (Nat.add_assoc _ _ _))⟩)) | (go_at_call 67; (with_reducible refine (spec_StartOf.calls kj5 _ _ l0 _ _ l1 x8_1 t269 _ ?s1 HC0.out ?s3 HC1.out A20.out).mono ?_); (case s1 => repeat (first | exact (Kd.C_below HR0.out S.bA) | (with_reducible refine Kd.C_alloc ?_ _) | (with_reducible refine Kd.C_drewN ?_ _) | (with_reducible refine Kd.C_drew ?_))); (case s3 => repeat (first | exact (Kd.C_below HR1.out S.bA) | (with_reducible refine Kd.C_alloc ?_ _) | (with_reducible refine Kd.C_drewN ?_ _) | (with_reducible refine Kd.C_drew ?_))); rintro e w22 ⟨rfl, hb⟩; replace HO_7 := S.rb HO_7 hb; replace HB := S.sA hb; (try clear hb)) | ((with_reducible refine gate_builtin (b := .append) (xs := #[.tmp 36, .tmp 41]) rfl ?_); at_builtin; refine Kd.R_append (Kd.int .i64) (w0 := w) w.heap.size rfl (.tmp 36) (.tmp 41) 36 3 (.int .i64 0) 8 rfl Try.underlying36 info3 rfl (by decide) (by omega) u7 x7_1 t269 [.int .i64 t269] (fun _ => True) (fun _ => False) rfl rfl ?aP (fun _ hk => hk.elim) ?aF ?aO ?aB ?aS ?aL ?_; (case aP => exact rfl); (case aB => exact S.bA); (case aF => exact (fun _ _ => trivial)); (case aO => exact (S.uR HO_7.out)); (case aS => exact (below_size S.bA)); (case aL => have := LMc21.out; omega); intro v271 w23 ho hb hg hat; rw [← Ny270.out] at ho; have n0_ := Aside0.mk (hb); have n1_ := Aside0.mk (ho); clear HB; clear HO_7; have HB := n0_; have HO272 := n1_; clear n0_ n1_; clear ho hb hg hat)); try go_wp2_with (first | (go_at_call 66; (with_reducible refine (spec_EqualInts.calls kj5 _ _ ((rd_T85 l1 x8_1).f0) _ _ ((rd_T85 l2 0).f0) true _ ?s1 ?s2 ?s3 ?s4 A18.out).mono ?_); (case s1 => exact S.cA HR266_0.out); (case s2 => exact HC266_0.out); (case s3 => exact S.cA HR267_0.out); (case s4 => exact HC267_0.out); rintro e w' ⟨rfl, ⟨nd, rfl⟩⟩; (try first | exact ⟨rfl, _, World.drewN_drewN _ _ _⟩ | exact ⟨rfl, _, Eq.trans (World.drewN_drewN _ _ _) (congrArg (World.drewN _) (Nat.add_assoc _ _ _))⟩)) | (go_at_call 67; (with_reducible refine (spec_StartOf.calls kj5 _ _ l0 _ _ l1 x8_1 t269 _ ?s1 ?s2 ?s3 ?s4 A20.out).mono ?_); (case s1 => repeat (first | exact (Kd.C_below HR0.out S.bA) | (with_reducible refine Kd.C_alloc ?_ _) | (with_reducible refine Kd.C_drewN ?_ _) | (with_reducible refine Kd.C_drew ?_))); (case s2 => exact HC0.out); (case s3 => repeat (first | exact (Kd.C_below HR1.out S.bA) | (with_reducible refine Kd.C_alloc ?_ _) | (with_reducible refine Kd.C_drewN ?_ _) | (with_reducible refine Kd.C_drew ?_))); (case s4 => exact HC1.out); rintro e w22 ⟨rfl, hb⟩; have n0_ := S.rb HO_7 hb; have n1_ := S.sA hb; clear HO_7; clear HB; have HO_7 := n0_; have HB := n1_; clear n0_ n1_; (try clear hb); (try clear hb2); (try clear hk); (try clear hi)) | ((with_reducible refine gate_builtin (b := .append) (xs := #[.tmp 36, .tmp 41]) rfl ?_); at_builtin; refine Kd.R_append (Kd.int .i64) (w0 := w) w.heap.size rfl (.tmp 36) (.tmp 41) 36 3 (.int .i64 0) 8 rfl Try.underlying36 info3 rfl (by decide) (by omega) u7 x7_1 t269 [.int .i64 t269] (fun _ => True) (fun _ => False) rfl rfl ?aP (fun _ hk => hk.elim) ?aF ?aO ?aB ?aS ?aL ?_; (case aP => exact rfl); (case aB => exact S.bA); (case aF => exact (fun _ _ => trivial)); (case aO => exact (S.uR HO_7.out)); (case aS => exact (below_size S.bA)); (case aL => have := LMc21.out; omega); intro v271 w23 ho hb hg hat; rw [← Ny270.out] at ho; have n0_ := Aside0.mk (hb); have n1_ := Aside0.mk (ho); clear HB; clear HO_7; have HB := n0_; have HO272 := n1_; clear n0_ n1_; clear ho hb hg hat)))
           go_roundg kj5
           case measure => have := HK1.out; have := HJ5.out; omega
           case rel => exact ⟨(y270), (wrap64 (x8_1 + 1)), S.eA, H', ⟨by have := HK1.out; have := HJ5.out; omega⟩, ⟨S.uR HO272.out⟩, ⟨S.bA⟩⟩
          ·rw [if_neg c21] at H
           exact absurd H (by simp)
         ·have H' := Aside0.mk H
          clear H
          have p266 : 0 ≤ (x8_1 : Int) := S.oD
          have q266 : x8_1 < (l1.length : Int) := S.oD
          obtain ⟨ad266, A266_0, c266_0, e266, hx266_0, hx266_1, hl266_0, hi266_0⟩ := at_T85 HR1.out x8_1 p266 q266
          cases e266
          replace hx266_0 := S.hb HB hx266_0
          replace hx266_1 := S.hb HB hx266_1
          have HR266_0 := Aside0.mk hi266_0
          have HC266_0 := Aside0.mk hl266_0
          clear hi266_0 hl266_0
          replace p266 := eq_true p266
          replace q266 := eq_true q266
          have p267 : 0 ≤ (0 : Int) := (by omega)
          have q267 : 0 < (l2.length : Int) := S.oD
          obtain ⟨ad267, A267_0, c267_0, e267, hx267_0, hx267_1, hl267_0, hi267_0⟩ := at_T85 HR2.out 0 p267 q267
          cases e267
          have qi267 : (0 < l2.length) = True := eq_true (by omega)
          (try rw [show ((0 : Int)).toNat = 0 from rfl] at hx267_0)
          (try rw [show 0 * 2 = 0 from rfl] at hx267_0)
          (try rw [Addr.add_zero'] at hx267_0)
          (try rw [show ((0 : Int)).toNat = 0 from rfl] at hx267_1)
          (try rw [show 0 * 2 = 0 from rfl] at hx267_1)
          (try rw [Addr.add_zero'] at hx267_1)
          replace hx267_0 := S.hb HB hx267_0
          replace hx267_1 := S.hb HB hx267_1
          have HR267_0 := Aside0.mk hi267_0
          have HC267_0 := Aside0.mk hl267_0
          clear hi267_0 hl267_0
          replace p267 := eq_true p267
          replace q267 := eq_true q267
          go_wp2_with (first | (go_at_call 66; (with_reducible refine (spec_EqualInts.calls kj5 _ _ ((rd_T85 l1 x8_1).f0) _ _ ((rd_T85 l2 0).f0) false _ ?s1 HC266_0.out ?s3 HC267_0.out A18.out).mono ?_); (case s1 => exact S.cA HR266_0.out); (case s3 => exact S.cA HR267_0.out); rintro e w' ⟨rfl, ⟨nd, rfl⟩⟩; (try first | exact ⟨rfl, _, World.drewN_drewN _ _ _⟩ | exact ⟨rfl, _, Eq.trans (World.drewN_drewN _ _ _) (congrArg (World.drewN _) (Nat.add_assoc _ _ _))⟩)))
          repeat (go_quiet (first | (go_at_call 66; (with_reducible refine (spec_EqualInts.calls kj5 _ _ ((rd_T85 l1 x8_1).f0) _ _ ((rd_T85 l2 0).f0) false _ ?s1 HC266_0.out ?s3 HC267_0.out A18.out).mono ?_); (case s1 => exact S.cA HR266_0.out); (case s3 => exact S.cA HR267_0.out); rintro e w' ⟨rfl, ⟨nd, rfl⟩⟩; (try first | exact ⟨rfl, _, World.drewN_drewN _ _ _⟩ | exact ⟨rfl, _, Eq.trans (World.drewN_drewN _ _ _) (congrArg (World.drewN _) (Nat.add_assoc _ _ _))⟩))); try go_wp2_with (first | (go_at_call 66; (with_reducible refine (spec_EqualInts.calls kj5 _ _ ((rd_T85 l1 x8_1).f0) _ _ ((rd_T85 l2 0).f0) false _ ?s1 HC266_0.out ?s3 HC267_0.out A18.out).mono ?_); (case s1 => exact S.cA HR266_0.out); (case s3 => exact S.cA HR267_0.out); rintro e w' ⟨rfl, ⟨nd, rfl⟩⟩; (try first | exact ⟨rfl, _, World.drewN_drewN _ _ _⟩ | exact ⟨rfl, _, Eq.trans (World.drewN_drewN _ _ _) (congrArg (World.drewN _) (Nat.add_assoc _ _ _))⟩))))
          go_roundg kj5
          case measure => have := HK1.out; have := HJ5.out; omega
          case rel => exact ⟨(x7_1), (wrap64 (x8_1 + 1)), S.eA, H', ⟨by have := HK1.out; have := HJ5.out; omega⟩, ⟨S.uR HO_7.out⟩, ⟨S.bA⟩⟩
        ·rw [if_neg c17] at H
         exact absurd H (by simp)
       ·rw [if_neg c16] at H
        exact absurd H (by simp)
      ·rw [if_neg c15] at H
       exact absurd H (by simp)
     ·obtain rfl := Option.some.inj H
      go_wp2
      repeat (go_quiet (fail); try go_wp2)
      go_ret
      exact ⟨_, S.eW, S.uR HO_7.out, S.bA⟩

/-! ### impl_InRange: function 62 -/
def impl_InRange.f (a0 : Int) (a1 : Int) (a2 : Int) : Option (Bool) := if a1 ≤ a0 then (some (decide (a0 ≤ a2))) else (some false)
set_option maxHeartbeats 8000000 in
set_option maxRecDepth 100000 in
theorem impl_InRange.calls (a0 : Int) (a1 : Int) (a2 : Int) (r : Bool) (w : World) (h : impl_InRange.f a0 a1 a2 = some r) :
  Calls Try.prog 62 #[.int .i64 a0, .int .i64 a1, .int .i64 a2] w fun e w' => e = .returned (.bool r) ∧ Drawn0 w w' := by
 have H : (if a1 ≤ a0 then (some (decide (a0 ≤ a2))) else (some false)) = some r := h
 clear h
 replace H := S.dc H; rcases H with ⟨H, c4b0⟩ | ⟨H, c4b0⟩
 ·obtain rfl := Option.some.inj H
  go_enter Try.func62, Try.ntmps62
  go_wp2
  go_ret
  exact ⟨S.eA, by repeat (first | exact Drawn0.refl _ | apply Drawn0.step)⟩
 ·obtain rfl := Option.some.inj H
  go_enter Try.func62, Try.ntmps62
  go_wp2
  go_ret
  exact ⟨S.eA, by repeat (first | exact Drawn0.refl _ | apply Drawn0.step)⟩

-- NOT PRINTED: function 111 (impl_Path)

end Go.Proofs.Ytjgigmghcfdomaa.PFnExactSwitchSeconds
