/- Printed by a program: what the Go functions compute, as plain Lean functions (.f), and the proofs that the machine's calls come to just that (.calls). -/
import Derived.Test.YtjgigmghcfdomaaPFnWavesx0
import Derived.Test.YtjgigmghcfdomaaPFnWavesx6
import Derived.Test.YtjgigmghcfdomaaPFnWavesx7
namespace Go.Proofs.Ytjgigmghcfdomaa.PFnWaves
open Go.RowKit Go.Proofs.YtjgigmghcfdomaaW.PrintWords Go.Proofs.YtjgigmghcfdomaaW.PrintLast Go.Proofs.YtjgigmghcfdomaaW.PrintMore
attribute [local go_sem] max2_int min2_int max_two min_two max_three min_three max_four min_four   -- for this text's walks alone
set_option linter.unusedVariables false
set_option linter.unusedSimpArgs false
/-! ### spec_LeastGreen: function 100 -/
def spec_LeastGreen.l0 : Nat → List (S71) → List Int → Int → Option (Int)
 | 0, _, _, _ => none
 | k + 1, x0, x1, x5 => if x5 < (x1.length : Int) then (if 0 ≤ x5 then ((spec_FindPath.f k x0 (rd x1 x5)).bind fun t384 => (if t384 ≥ 0 then (if 0 ≤ t384 then (if t384 < (x0.length : Int) then (if ((rd_T71 x0 t384).f1) = 2 then (some 7) else (spec_LeastGreen.l0 k x0 x1 (wrap64 (x5 + 1)))) else (none)) else (none)) else (spec_LeastGreen.l0 k x0 x1 (wrap64 (x5 + 1))))) else (none)) else (some 5)
def spec_LeastGreen.f (k : Nat) (l0 : List (S71)) (l1 : List Int) : Option (Int) := spec_LeastGreen.l0 k l0 l1 0
set_option maxHeartbeats 8000000 in
set_option maxRecDepth 100000 in
theorem spec_LeastGreen.calls (k : Nat) (A0 : Option Addr) (c0 : Nat) (l0 : List (S71)) (A1 : Option Addr) (c1 : Nat) (l1 : List Int) (r : Int) (w : World) (hr0 : Kd.C k71 w A0 l0.length l0) (hc0 : l0.length ≤ c0) (hr1 : Kd.C (Kd.int .i64) w A1 l1.length l1) (hc1 : l1.length ≤ c1) (h : spec_LeastGreen.f k l0 l1 = some r) :
  Calls Try.prog 100 #[.slice A0 l0.length c0, .slice A1 l1.length c1] w fun e w' => e = .returned (.int .i64 r) ∧ Drawn0 w w' := by
 have HR0 := Aside0.mk hr0
 have HC0 := Aside0.mk hc0
 clear hr0 hc0
 have HR1 := Aside0.mk hr1
 have HC1 := Aside0.mk hc1
 clear hr1 hc1
 have H : (spec_LeastGreen.l0 k l0 l1 0) = some r := h
 clear h
 have H' := Aside0.mk H
 clear H
 go_enter Try.func100, Try.ntmps100
 go_wp2
 go_loopg [5] k (fun kq v5 w' => ∃ (x5_1 : Int), v5 = .int .i64 x5_1 ∧ Aside0 (spec_LeastGreen.l0 kq l0 l1 x5_1 = some r) ∧ Aside0 (kq ≤ k) ∧ Drawn0 w w')
 case atStart => exact ⟨(0), S.eA, H', ⟨Nat.le_refl _⟩, by repeat (first | exact Drawn0.refl _ | apply Drawn0.step)⟩
 case round =>
  clear H'
  try clear c1
  obtain ⟨x5_1, rfl, HA, HK1, ⟨m1, rfl⟩⟩ := hrel
  cases gk with
  | zero => exact absurd HA.out (by simp [spec_LeastGreen.l0])
  | succ k1 =>
   have H := HA.out
   clear HA
   simp only [spec_LeastGreen.l0] at H
   replace H := S.dc H; rcases H with ⟨H, c3b0⟩ | ⟨H, c3b0⟩
   ·by_cases c4 : 0 ≤ x5_1
    ·rw [if_pos c4] at H
     have c4b0 : decide (0 ≤ x5_1) = true := decide_eq_true c4
     clear c4
     replace H := S.bd H; obtain ⟨t384, A5, H⟩ := H
     (try dsimp only at H)
     by_cases c6 : t384 ≥ 0
     ·rw [if_pos c6] at H
      have c6b0 : decide (0 ≤ t384) = true := decide_eq_true c6
      clear c6
      by_cases c7 : 0 ≤ t384
      ·rw [if_pos c7] at H
       have c7b0 : decide (0 ≤ t384) = true := decide_eq_true c7
       clear c7
       by_cases c8 : t384 < (l0.length : Int)
       ·rw [if_pos c8] at H
        have c8b0 : decide (t384 < (l0.length : Int)) = true := decide_eq_true c8
        clear c8
        by_cases c9 : ((rd_T71 l0 t384).f1) = 2
        ·rw [if_pos c9] at H
         have c9b0 : (((rd_T71 l0 t384).f1) == 2) = true := beq_iff_eq.mpr c9
         have c9b1 : (((rd_T71 l0 t384).f1) != 2) = false := bne_eq_false_iff_eq.mpr c9
         clear c9
         obtain rfl := Option.some.inj H
         have p383 : 0 ≤ (x5_1 : Int) := S.oD
         have q383 : x5_1 < (l1.length : Int) := S.oD
         obtain ⟨ad383, e383, hx383_0⟩ := Kd.at_int HR1.out x5_1 p383 q383
         cases e383
         replace p383 := eq_true p383
         replace q383 := eq_true q383
         go_wp2_with (first | ((with_reducible refine gate_callee (f := 96) rfl ?_); refine S.gL (some 18) Try.func96 #[.slice A0 l0.length c0, .int .i64 (rd l1 x5_1)] ?_; (with_reducible refine (spec_FindPath.calls k1 _ _ l0 (rd l1 x5_1) t384 _ ?s1 HC0.out A5.out).mono ?_); (case s1 => repeat (first | exact HR0.out | (with_reducible refine Kd.C_alloc ?_ _) | (with_reducible refine Kd.C_drewN ?_ _) | (with_reducible refine Kd.C_drew ?_))); rintro e w' ⟨rfl, ⟨nd, rfl⟩⟩; refine ⟨_, rfl, ?_⟩; have p385 : 0 ≤ (t384 : Int) := S.oD; have q385 : t384 < (l0.length : Int) := S.oD; obtain ⟨ad385, e385, hx385_0, hx385_1, hx385_2, hx385_3⟩ := at_T71 HR0.out t384 p385 q385; cases e385; replace p385 := eq_true p385; replace q385 := eq_true q385))
         go_ret
         exact ⟨S.eA, by repeat (first | exact Drawn0.refl _ | apply Drawn0.step)⟩
        ·rw [if_neg c9] at H
         have c9b0 : (((rd_T71 l0 t384).f1) == 2) = false := beq_eq_false_iff_ne.mpr c9
         have c9b1 : (((rd_T71 l0 t384).f1) != 2) = true := bne_iff_ne.mpr c9
         have H' := Aside0.mk H
         clear H
         have p383 : 0 ≤ (x5_1 : Int) := S.oD
         have q383 : x5_1 < (l1.length : Int) := S.oD
         obtain ⟨ad383, e383, hx383_0⟩ := Kd.at_int HR1.out x5_1 p383 q383
         cases e383
         replace p383 := eq_true p383
         replace q383 := eq_true q383
         go_wp2_with (first | ((with_reducible refine gate_callee (f := 96) rfl ?_); refine S.gL (some 18) Try.func96 #[.slice A0 l0.length c0, .int .i64 (rd l1 x5_1)] ?_; (with_reducible refine (spec_FindPath.calls k1 _ _ l0 (rd l1 x5_1) t384 _ ?s1 HC0.out A5.out).mono ?_); (case s1 => repeat (first | exact HR0.out | (with_reducible refine Kd.C_alloc ?_ _) | (with_reducible refine Kd.C_drewN ?_ _) | (with_reducible refine Kd.C_drew ?_))); rintro e w' ⟨rfl, ⟨nd, rfl⟩⟩; refine ⟨_, rfl, ?_⟩; have p385 : 0 ≤ (t384 : Int) := S.oD; have q385 : t384 < (l0.length : Int) := S.oD; obtain ⟨ad385, e385, hx385_0, hx385_1, hx385_2, hx385_3⟩ := at_T71 HR0.out t384 p385 q385; cases e385; replace p385 := eq_true p385; replace q385 := eq_true q385))
         go_roundg k1
         case measure => have := HK1.out; omega
         case rel => exact ⟨(wrap64 (x5_1 + 1)), S.eA, H', ⟨by have := HK1.out; omega⟩, by repeat (first | exact Drawn0.refl _ | apply Drawn0.step)⟩
       ·rw [if_neg c8] at H
        exact absurd H (by simp)
      ·rw [if_neg c7] at H
       exact absurd H (by simp)
     ·rw [if_neg c6] at H
      have c6b0 : decide (0 ≤ t384) = false := decide_eq_false c6
      clear c6
      have H' := Aside0.mk H
      clear H
      have p383 : 0 ≤ (x5_1 : Int) := S.oD
      have q383 : x5_1 < (l1.length : Int) := S.oD
      obtain ⟨ad383, e383, hx383_0⟩ := Kd.at_int HR1.out x5_1 p383 q383
      cases e383
      replace p383 := eq_true p383
      replace q383 := eq_true q383
      go_wp2_with (first | ((with_reducible refine gate_callee (f := 96) rfl ?_); refine S.gL (some 18) Try.func96 #[.slice A0 l0.length c0, .int .i64 (rd l1 x5_1)] ?_; (with_reducible refine (spec_FindPath.calls k1 _ _ l0 (rd l1 x5_1) t384 _ ?s1 HC0.out A5.out).mono ?_); (case s1 => repeat (first | exact HR0.out | (with_reducible refine Kd.C_alloc ?_ _) | (with_reducible refine Kd.C_drewN ?_ _) | (with_reducible refine Kd.C_drew ?_))); rintro e w' ⟨rfl, ⟨nd, rfl⟩⟩; refine ⟨_, rfl, ?_⟩))
      go_roundg k1
      case measure => have := HK1.out; omega
      case rel => exact ⟨(wrap64 (x5_1 + 1)), S.eA, H', ⟨by have := HK1.out; omega⟩, by repeat (first | exact Drawn0.refl _ | apply Drawn0.step)⟩
    ·rw [if_neg c4] at H
     exact absurd H (by simp)
   ·obtain rfl := Option.some.inj H
    go_wp2
    go_ret
    exact ⟨S.eA, by repeat (first | exact Drawn0.refl _ | apply Drawn0.step)⟩

/-! ### spec_l6Has: function 72 -/
def spec_l6Has.l0 : Nat → List Int → Int → Int → Option (Bool)
 | 0, _, _, _ => none
 | k + 1, x0, x1, x5 => if x5 < (x0.length : Int) then (if 0 ≤ x5 then (if (rd x0 x5) = x1 then (some true) else (spec_l6Has.l0 k x0 x1 (wrap64 (x5 + 1)))) else (none)) else (some false)
def spec_l6Has.f (k : Nat) (l0 : List Int) (a1 : Int) : Option (Bool) := spec_l6Has.l0 k l0 a1 0
set_option maxHeartbeats 8000000 in
set_option maxRecDepth 100000 in
theorem spec_l6Has.calls (k : Nat) (A0 : Option Addr) (c0 : Nat) (l0 : List Int) (a1 : Int) (r : Bool) (w : World) (hr0 : Kd.C (Kd.int .i64) w A0 l0.length l0) (hc0 : l0.length ≤ c0) (h : spec_l6Has.f k l0 a1 = some r) :
  Calls Try.prog 72 #[.slice A0 l0.length c0, .int .i64 a1] w fun e w' => e = .returned (.bool r) ∧ Drawn0 w w' := by
 have HR0 := Aside0.mk hr0
 have HC0 := Aside0.mk hc0
 clear hr0 hc0
 have H : (spec_l6Has.l0 k l0 a1 0) = some r := h
 clear h
 have H' := Aside0.mk H
 clear H
 go_enter Try.func72, Try.ntmps72
 go_wp2
 go_loopg [5] k (fun kq v5 w' => ∃ (x5_1 : Int), v5 = .int .i64 x5_1 ∧ Aside0 (spec_l6Has.l0 kq l0 a1 x5_1 = some r) ∧ Aside0 (kq ≤ k) ∧ Drawn0 w w')
 case atStart => exact ⟨(0), S.eA, H', ⟨Nat.le_refl _⟩, by repeat (first | exact Drawn0.refl _ | apply Drawn0.step)⟩
 case round =>
  clear H'
  obtain ⟨x5_1, rfl, HA, HK1, ⟨m1, rfl⟩⟩ := hrel
  cases gk with
  | zero => exact absurd HA.out (by simp [spec_l6Has.l0])
  | succ k1 =>
   have H := HA.out
   clear HA
   simp only [spec_l6Has.l0] at H
   replace H := S.dc H; rcases H with ⟨H, c3b0⟩ | ⟨H, c3b0⟩
   ·by_cases c4 : 0 ≤ x5_1
    ·rw [if_pos c4] at H
     have c4b0 : decide (0 ≤ x5_1) = true := decide_eq_true c4
     clear c4
     by_cases c5 : (rd l0 x5_1) = a1
     ·rw [if_pos c5] at H
      have c5b0 : ((rd l0 x5_1) == a1) = true := beq_iff_eq.mpr c5
      have c5b1 : ((rd l0 x5_1) != a1) = false := bne_eq_false_iff_eq.mpr c5
      clear c5
      obtain rfl := Option.some.inj H
      have p386 : 0 ≤ (x5_1 : Int) := S.oD
      have q386 : x5_1 < (l0.length : Int) := S.oD
      obtain ⟨ad386, e386, hx386_0⟩ := Kd.at_int HR0.out x5_1 p386 q386
      cases e386
      replace p386 := eq_true p386
      replace q386 := eq_true q386
      go_wp2
      go_ret
      exact ⟨S.eA, by repeat (first | exact Drawn0.refl _ | apply Drawn0.step)⟩
     ·rw [if_neg c5] at H
      have c5b0 : ((rd l0 x5_1) == a1) = false := beq_eq_false_iff_ne.mpr c5
      have c5b1 : ((rd l0 x5_1) != a1) = true := bne_iff_ne.mpr c5
      have H' := Aside0.mk H
      clear H
      have p386 : 0 ≤ (x5_1 : Int) := S.oD
      have q386 : x5_1 < (l0.length : Int) := S.oD
      obtain ⟨ad386, e386, hx386_0⟩ := Kd.at_int HR0.out x5_1 p386 q386
      cases e386
      replace p386 := eq_true p386
      replace q386 := eq_true q386
      go_wp2
      go_roundg k1
      case measure => have := HK1.out; omega
      case rel => exact ⟨(wrap64 (x5_1 + 1)), S.eA, H', ⟨by have := HK1.out; omega⟩, by repeat (first | exact Drawn0.refl _ | apply Drawn0.step)⟩
    ·rw [if_neg c4] at H
     exact absurd H (by simp)
   ·obtain rfl := Option.some.inj H
    go_wp2
    go_ret
    exact ⟨S.eA, by repeat (first | exact Drawn0.refl _ | apply Drawn0.step)⟩

/-! ### spec_Covers: function 101 -/
mutual
def spec_Covers.l0 : Nat → List (S71) → List (List Int) → Int → Option (Bool)
 | 0, _, _, _ => none
 | k + 1, x0, x1, x5 => if x5 < (x1.length : Int) then (if 0 ≤ x5 then ((spec_IsTogether.f k x0 (rd_L2 x1 x5)).bind fun t388 => (if t388 = true then (spec_Covers.l0 k x0 x1 (wrap64 (x5 + 1))) else (some false))) else (none)) else (spec_Covers.l1 k x0 x1 0)
def spec_Covers.l1 : Nat → List (S71) → List (List Int) → Int → Option (Bool)
 | 0, _, _, _ => none
 | k + 1, x0, x1, x6 => if x6 < (x0.length : Int) then (spec_Covers.l2 k x0 x1 x6 false 0) else ((spec_ArePaths.f k x0).bind fun t389 => (some t389))
def spec_Covers.l2 : Nat → List (S71) → List (List Int) → Int → Bool → Int → Option (Bool)
 | 0, _, _, _, _, _ => none
 | k + 1, x0, x1, x6, x7, x8 => if x8 < (x1.length : Int) then (if x7 = true then (spec_Covers.l2 k x0 x1 x6 true (wrap64 (x8 + 1))) else (if 0 ≤ x8 then (if 0 ≤ x6 then (if x6 < (x0.length : Int) then ((spec_l6Has.f k (rd_L2 x1 x8) ((rd_T71 x0 x6).f0)).bind fun t392 => (spec_Covers.l2 k x0 x1 x6 t392 (wrap64 (x8 + 1)))) else (none)) else (none)) else (none))) else (if x7 = true then (spec_Covers.l1 k x0 x1 (wrap64 (x6 + 1))) else (some false))
end
def spec_Covers.f (k : Nat) (l0 : List (S71)) (l1 : List (List Int)) : Option (Bool) := spec_Covers.l0 k l0 l1 0
set_option maxHeartbeats 8000000 in
set_option maxRecDepth 100000 in
theorem spec_Covers.calls (k : Nat) (A0 : Option Addr) (c0 : Nat) (l0 : List (S71)) (A1 : Option Addr) (c1 : Nat) (l1 : List (List Int)) (r : Bool) (w : World) (hr0 : Kd.C k71 w A0 l0.length l0) (hc0 : l0.length ≤ c0) (hr1 : Kd.C (Kd.slice 3 (Kd.int .i64)) w A1 l1.length l1) (hc1 : l1.length ≤ c1) (h : spec_Covers.f k l0 l1 = some r) :
  Calls Try.prog 101 #[.slice A0 l0.length c0, .slice A1 l1.length c1] w fun e w' => e = .returned (.bool r) ∧ Below w.heap.size w w' := by
 have HR0 := Aside0.mk hr0
 have HC0 := Aside0.mk hc0
 clear hr0 hc0
 have HR1 := Aside0.mk hr1
 have HC1 := Aside0.mk hc1
 clear hr1 hc1
 have HB := Aside0.mk (Below.refl w.heap.size w)
 have H : (spec_Covers.l0 k l0 l1 0) = some r := h
 clear h
 have H' := Aside0.mk H
 clear H
 go_enter Try.func101, Try.ntmps101
 go_wp2
 repeat (go_quiet (fail); try go_wp2)
 go_loopg [5] k (fun kq v5 w' => ∃ (x5_1 : Int), v5 = .int .i64 x5_1 ∧ Aside0 (spec_Covers.l0 kq l0 l1 x5_1 = some r) ∧ Aside0 (kq ≤ k) ∧ Aside0 (Below w.heap.size w w'))
 case atStart => exact ⟨(0), S.eA, H', ⟨Nat.le_refl _⟩, ⟨S.bA⟩⟩
 case round =>
  clear H'
  try clear c1
  obtain ⟨x5_1, rfl, HA, HK1, HB⟩ := hrel
  cases gk with
  | zero => exact absurd HA.out (by simp [spec_Covers.l0])
  | succ k1 =>
   have H := HA.out
   clear HA
   simp only [spec_Covers.l0] at H
   replace H := S.dc H; rcases H with ⟨H, c3b0⟩ | ⟨H, c3b0⟩
   ·by_cases c4 : 0 ≤ x5_1
    ·rw [if_pos c4] at H
     have c4b0 : decide (0 ≤ x5_1) = true := decide_eq_true c4
     clear c4
     replace H := S.bd H; obtain ⟨t388, A5, H⟩ := H
     (try dsimp only at H)
     replace H := S.db H; rcases H with ⟨rfl, H⟩ | ⟨rfl, H⟩
     ·have H' := Aside0.mk H
      clear H
      have p387 : 0 ≤ (x5_1 : Int) := S.oD
      have q387 : x5_1 < (l1.length : Int) := S.oD
      obtain ⟨ad387, A387_0, c387_0, e387, hx387_0, hl387_0, hi387_0⟩ := at_L2 HR1.out x5_1 p387 q387
      cases e387
      replace hx387_0 := S.hb HB hx387_0
      have HR387_0 := Aside0.mk hi387_0
      have HC387_0 := Aside0.mk hl387_0
      clear hi387_0 hl387_0
      replace p387 := eq_true p387
      replace q387 := eq_true q387
      go_wp2_with (first | (go_at_call 99; (with_reducible refine (spec_IsTogether.calls k1 _ _ l0 _ _ (rd_L2 l1 x5_1) true _ ?s1 HC0.out ?s3 HC387_0.out A5.out).mono ?_); (case s1 => exact S.cA HR0.out); (case s3 => exact S.cA HR387_0.out); rintro e w7 ⟨rfl, hb⟩; replace HB := S.sA hb; (try clear hb)))
      repeat (go_quiet (first | (go_at_call 99; (with_reducible refine (spec_IsTogether.calls k1 _ _ l0 _ _ (rd_L2 l1 x5_1) true _ ?s1 HC0.out ?s3 HC387_0.out A5.out).mono ?_); (case s1 => exact S.cA HR0.out); (case s3 => exact S.cA HR387_0.out); rintro e w7 ⟨rfl, hb⟩; replace HB := S.sA hb; (try clear hb))); try go_wp2_with (first | (go_at_call 99; (with_reducible refine (spec_IsTogether.calls k1 _ _ l0 _ _ (rd_L2 l1 x5_1) true _ ?s1 HC0.out ?s3 HC387_0.out A5.out).mono ?_); (case s1 => exact S.cA HR0.out); (case s3 => exact S.cA HR387_0.out); rintro e w7 ⟨rfl, hb⟩; have n0_ := S.sA hb; clear HB; have HB := n0_; clear n0_; (try clear hb); (try clear hb2); (try clear hk); (try clear hi))))
      go_roundg k1
      case measure => have := HK1.out; omega
      case rel => exact ⟨(wrap64 (x5_1 + 1)), S.eA, H', ⟨by have := HK1.out; omega⟩, ⟨S.bA⟩⟩
     ·obtain rfl := Option.some.inj H
      have p387 : 0 ≤ (x5_1 : Int) := S.oD
      have q387 : x5_1 < (l1.length : Int) := S.oD
      obtain ⟨ad387, A387_0, c387_0, e387, hx387_0, hl387_0, hi387_0⟩ := at_L2 HR1.out x5_1 p387 q387
      cases e387
      replace hx387_0 := S.hb HB hx387_0
      have HR387_0 := Aside0.mk hi387_0
      have HC387_0 := Aside0.mk hl387_0
      clear hi387_0 hl387_0
      replace p387 := eq_true p387
      replace q387 := eq_true q387
      go_wp2_with (first | (go_at_call 99; (with_reducible refine (spec_IsTogether.calls k1 _ _ l0 _ _ (rd_L2 l1 x5_1) false _ ?s1 HC0.out ?s3 HC387_0.out A5.out).mono ?_); (case s1 => exact S.cA HR0.out); (case s3 => exact S.cA HR387_0.out); rintro e w8 ⟨rfl, hb⟩; replace HB := S.sA hb; (try clear hb)))
      repeat (go_quiet (first | (go_at_call 99; (with_reducible refine (spec_IsTogether.calls k1 _ _ l0 _ _ (rd_L2 l1 x5_1) false _ ?s1 HC0.out ?s3 HC387_0.out A5.out).mono ?_); (case s1 => exact S.cA HR0.out); (case s3 => exact S.cA HR387_0.out); rintro e w8 ⟨rfl, hb⟩; replace HB := S.sA hb; (try clear hb))); try go_wp2_with (first | (go_at_call 99; (with_reducible refine (spec_IsTogether.calls k1 _ _ l0 _ _ (rd_L2 l1 x5_1) false _ ?s1 HC0.out ?s3 HC387_0.out A5.out).mono ?_); (case s1 => exact S.cA HR0.out); (case s3 => exact S.cA HR387_0.out); rintro e w8 ⟨rfl, hb⟩; have n0_ := S.sA hb; clear HB; have HB := n0_; clear n0_; (try clear hb); (try clear hb2); (try clear hk); (try clear hi))))
      go_ret
      exact ⟨S.eW, S.bA⟩
    ·rw [if_neg c4] at H
     exact absurd H (by simp)
   ·have H' := Aside0.mk H
    clear H
    go_wp2
    repeat (go_quiet (fail); try go_wp2)
    go_loopg [6] k1 (fun kq v6 w' => ∃ (x6_2 : Int), v6 = .int .i64 x6_2 ∧ Aside0 (spec_Covers.l1 kq l0 l1 x6_2 = some r) ∧ Aside0 (kq ≤ k1) ∧ Aside0 (Below w.heap.size w w'))
    case atStart => exact ⟨(0), S.eA, H', ⟨Nat.le_refl _⟩, ⟨S.bA⟩⟩
    case round =>
     clear H'
     try clear c1
     try clear c3
     try clear c3b0
     obtain ⟨x6_2, rfl, HA, HK2, HB⟩ := hrel
     cases gk with
     | zero => exact absurd HA.out (by simp [spec_Covers.l1])
     | succ k2 =>
      have H := HA.out
      clear HA
      simp only [spec_Covers.l1] at H
      replace H := S.dc H; rcases H with ⟨H, c9b0⟩ | ⟨H, c9b0⟩
      ·have H' := Aside0.mk H
       clear H
       go_wp2
       repeat (go_quiet (fail); try go_wp2)
       go_loopg [7, 8] k2 (fun kq v7 v8 w' => ∃ (x7_3 : Bool) (x8_3 : Int), v7 = .bool x7_3 ∧ v8 = .int .i64 x8_3 ∧ Aside0 (spec_Covers.l2 kq l0 l1 x6_2 x7_3 x8_3 = some r) ∧ Aside0 (kq ≤ k2) ∧ Aside0 (Below w.heap.size w w'))
       case atStart => exact ⟨(false), (0), S.eA, S.eA, H', ⟨Nat.le_refl _⟩, ⟨S.bA⟩⟩
       case round =>
        clear H'
        try clear c1
        try clear c3
        try clear c3b0
        try clear c9
        try clear c9b0
        obtain ⟨x7_3, x8_3, rfl, rfl, HA, HK3, HB⟩ := hrel
        cases gk with
        | zero => exact absurd HA.out (by simp [spec_Covers.l2])
        | succ k3 =>
         have H := HA.out
         clear HA
         simp only [spec_Covers.l2] at H
         replace H := S.dc H; rcases H with ⟨H, c10b0⟩ | ⟨H, c10b0⟩
         ·by_cases c11 : x7_3 = true
          ·subst c11
           replace H := S.it H
           have H' := Aside0.mk H
           clear H
           go_wp2
           repeat (go_quiet (fail); try go_wp2)
           go_roundg k3
           case measure => have := HK1.out; have := HK2.out; have := HK3.out; omega
           case rel => exact ⟨(true), (wrap64 (x8_3 + 1)), S.eA, S.eA, H', ⟨by have := HK1.out; have := HK2.out; have := HK3.out; omega⟩, ⟨S.bA⟩⟩
          ·replace c11 := Bool.eq_false_iff.mpr c11
           subst c11
           replace H := S.ie H
           by_cases c12 : 0 ≤ x8_3
           ·rw [if_pos c12] at H
            have c12b0 : decide (0 ≤ x8_3) = true := decide_eq_true c12
            clear c12
            by_cases c13 : 0 ≤ x6_2
            ·rw [if_pos c13] at H
             have c13b0 : decide (0 ≤ x6_2) = true := decide_eq_true c13
             clear c13
             by_cases c14 : x6_2 < (l0.length : Int)
             ·rw [if_pos c14] at H
              have c14b0 : decide (x6_2 < (l0.length : Int)) = true := decide_eq_true c14
              clear c14
              replace H := S.bd H; obtain ⟨t392, A15, H⟩ := H
              (try dsimp only at H)
              have H' := Aside0.mk H
              clear H
              have p390 : 0 ≤ (x8_3 : Int) := S.oD
              have q390 : x8_3 < (l1.length : Int) := S.oD
              obtain ⟨ad390, A390_0, c390_0, e390, hx390_0, hl390_0, hi390_0⟩ := at_L2 HR1.out x8_3 p390 q390
              cases e390
              replace hx390_0 := S.hb HB hx390_0
              have HR390_0 := Aside0.mk hi390_0
              have HC390_0 := Aside0.mk hl390_0
              clear hi390_0 hl390_0
              replace p390 := eq_true p390
              replace q390 := eq_true q390
              have p391 : 0 ≤ (x6_2 : Int) := S.oD
              have q391 : x6_2 < (l0.length : Int) := S.oD
              obtain ⟨ad391, e391, hx391_0, hx391_1, hx391_2, hx391_3⟩ := at_T71 HR0.out x6_2 p391 q391
              cases e391
              replace hx391_0 := S.hb HB hx391_0
              replace hx391_1 := S.hb HB hx391_1
              replace hx391_2 := S.hb HB hx391_2
              replace hx391_3 := S.hb HB hx391_3
              replace p391 := eq_true p391
              replace q391 := eq_true q391
              go_wp2_with (first | (go_at_call 72; (with_reducible refine (spec_l6Has.calls k3 _ _ (rd_L2 l1 x8_3) ((rd_T71 l0 x6_2).f0) t392 _ ?s1 HC390_0.out A15.out).mono ?_); (case s1 => exact S.cA HR390_0.out); rintro e w' ⟨rfl, ⟨nd, rfl⟩⟩; (try first | exact ⟨rfl, _, World.drewN_drewN _ _ _⟩ | exact ⟨rfl, _, Eq.trans (World.drewN_drewN _ _ _) (congrArg (World.drewN _) (Nat.add_assoc _ _ _))⟩)))
              repeat (go_quiet (first | (go_at_call 72; (with_reducible refine (spec_l6Has.calls k3 _ _ (rd_L2 l1 x8_3) ((rd_T71 l0 x6_2).f0) t392 _ ?s1 HC390_0.out A15.out).mono ?_); (case s1 => exact S.cA HR390_0.out); rintro e w' ⟨rfl, ⟨nd, rfl⟩⟩; (try first | exact ⟨rfl, _, World.drewN_drewN _ _ _⟩ | exact ⟨rfl, _, Eq.trans (World.drewN_drewN _ _ _) (congrArg (World.drewN _) (Nat.add_assoc _ _ _))⟩))); try go_wp2_with (first | (go_at_call 72; (with_reducible refine (spec_l6Has.calls k3 _ _ (rd_L2 l1 x8_3) ((rd_T71 l0 x6_2).f0) t392 _ ?s1 HC390_0.out A15.out).mono ?_); (case s1 => exact S.cA HR390_0.out); rintro e w' ⟨rfl, ⟨nd, rfl⟩⟩; (try first | exact ⟨rfl, _, World.drewN_drewN _ _ _⟩ | exact ⟨rfl, _, Eq.trans (World.drewN_drewN _ _ _) (congrArg (World.drewN _) (Nat.add_assoc _ _ _))⟩))))
              go_roundg k3
              case measure => have := HK1.out; have := HK2.out; have := HK3.out; omega
              case rel => exact ⟨(t392), (wrap64 (x8_3 + 1)), S.eA, S.eA, H', ⟨by have := HK1.out; have := HK2.out; have := HK3.out; omega⟩, ⟨S.bA⟩⟩
             ·rw [if_neg c14] at H
              exact absurd H (by simp)
            ·rw [if_neg c13] at H
             exact absurd H (by simp)
           ·rw [if_neg c12] at H
            exact absurd H (by simp)
         ·by_cases c16 : x7_3 = true
          ·subst c16
           replace H := S.it H
           have H' := Aside0.mk H
           clear H
           go_wp2
           repeat (go_quiet (fail); try go_wp2)
           go_roundg k3
           case measure => have := HK1.out; have := HK2.out; have := HK3.out; omega
           case rel => exact ⟨(wrap64 (x6_2 + 1)), S.eA, H', ⟨by have := HK1.out; have := HK2.out; have := HK3.out; omega⟩, ⟨S.bA⟩⟩
          ·replace c16 := Bool.eq_false_iff.mpr c16
           subst c16
           replace H := S.ie H
           obtain rfl := Option.some.inj H
           go_wp2
           repeat (go_quiet (fail); try go_wp2)
           go_ret
           exact ⟨S.eW, S.bA⟩
      ·replace H := Option.bind_eq_some_iff.mp H
       obtain ⟨t389, A170, H⟩ := H
       replace H : (some t389) = some r := H
       have A17 := Aside0.mk A170
       clear A170
       obtain rfl := Option.some.inj H
       go_wp2_with (first | (go_at_call 125; (with_reducible refine (spec_ArePaths.calls k2 _ _ l0 t389 _ ?s1 HC0.out A17.out).mono ?_); (case s1 => exact S.cA HR0.out); rintro e w18 ⟨rfl, hb⟩; replace HB := S.sA hb; (try clear hb)))
       repeat (go_quiet (first | (go_at_call 125; (with_reducible refine (spec_ArePaths.calls k2 _ _ l0 t389 _ ?s1 HC0.out A17.out).mono ?_); (case s1 => exact S.cA HR0.out); rintro e w18 ⟨rfl, hb⟩; replace HB := S.sA hb; (try clear hb))); try go_wp2_with (first | (go_at_call 125; (with_reducible refine (spec_ArePaths.calls k2 _ _ l0 t389 _ ?s1 HC0.out A17.out).mono ?_); (case s1 => exact S.cA HR0.out); rintro e w18 ⟨rfl, hb⟩; have n0_ := S.sA hb; clear HB; have HB := n0_; clear n0_; (try clear hb); (try clear hb2); (try clear hk); (try clear hi))))
       go_ret
       exact ⟨S.eW, S.bA⟩

/-! ### spec_l8Stages: function 102 -/
def spec_l8Stages.l0 : Nat → List (S85) → List (List Int) → Int → Option ((List (List Int)))
 | 0, _, _, _ => none
 | k + 1, x0, x3, x4 => if x4 < (x0.length : Int) then (if 0 ≤ x4 then (if x3.length < 5864062014805 then (spec_l8Stages.l0 k x0 (x3 ++ [(rd_T85 x0 x4).f0]) (wrap64 (x4 + 1))) else (none)) else (none)) else (some x3)
def spec_l8Stages.f (k : Nat) (l0 : List (S85)) : Option ((List (List Int))) := spec_l8Stages.l0 k l0 (([] : List (List Int))) 0
set_option maxHeartbeats 8000000 in
set_option maxRecDepth 100000 in
theorem spec_l8Stages.calls (k : Nat) (P0_ : Nat → Prop) (A0 : Option Addr) (c0 : Nat) (l0 : List (S85)) (r : List (List Int)) (w : World) (hs0 : Kd.V k85 85 w w.heap.size (fun k_ => P0_ k_) (.slice A0 l0.length c0) l0) (h : spec_l8Stages.f k l0 = some r) :
  Calls Try.prog 102 #[.slice A0 l0.length c0] w fun e w' => ∃ v0_ : Value, e = .returned (v0_) ∧ Kd.N (Kd.slice 3 (Kd.int .i64)) 36 w' w.heap.size (fun k_ => (P0_ k_ ∨ w.heap.size ≤ k_)) v0_ r ∧ Below w.heap.size w w' := by
 have HO0 := Aside0.mk (show Kd.V k85 85 w w.heap.size (fun k_ => (P0_ k_ ∨ w.heap.size ≤ k_)) (.slice A0 l0.length c0) l0 from Kd.V_mono hs0 (fun k_ hk => .inl hk))
 have HB := Aside0.mk (Below.refl w.heap.size w)
 have H : (spec_l8Stages.l0 k l0 (([] : List (List Int))) 0) = some r := h
 clear h
 obtain ⟨y393, hy393⟩ : ∃ y_ : List (List Int), y_ = (([] : List (List Int))) := ⟨_, rfl⟩
 replace H : (spec_l8Stages.l0 k l0 y393 0) = some r := by first | (rw [hy393]; with_reducible exact H) | (have H2_ := (Option.bind_some _ _).symm.trans H; rw [hy393]; with_reducible exact H2_) | (have H2_ := (Option.bind_some _ _).symm.trans H; with_reducible exact H2_) | with_reducible exact H | (rw [hy393]; exact H) | exact H
 have Ny393 := Aside0.mk hy393
 clear hy393
 have H' := Aside0.mk H
 clear H
 go_enter Try.func102, Try.ntmps102
 go_wp2_with (first | ((with_reducible refine gate_dst (N := 5) rfl ?_); refine Kd.N_lit (Kd.slice 3 (Kd.int .i64)) _ 36 ?hg (N' := 5) ?hd (xs := ([] : List (List Int))) (inner := []) (ok := (fun k_ => (P0_ k_ ∨ w.heap.size ≤ k_))) (okp := (fun k_ => (P0_ k_ ∨ w.heap.size ≤ k_))) ?hr ?hp (fun _ hk => hk) ((show ∀ k_, w.heap.size ≤ k_ → (fun k_ => (P0_ k_ ∨ w.heap.size ≤ k_)) k_ from fun k_ hk => (.inr (Nat.le_trans (below_size S.bA) hk))) _ (Nat.le_refl _)) (Below.refl _ _) (Nat.le_refl _) (by simp) ?_; (case hd => rfl); (case hg => rfl); (case hr => first | (go_simp; done) | (go_simp; rfl)); (case hp => exact (Reps.none _ _)); intro v394 w2 ho3 hb hg_ hnew_; clear hg_ hnew_; (first | rw [← Ny393.out] at ho3 | (simp only [Int.reduceToNat] at ho3; rw [← Ny393.out] at ho3)); replace HO0 := Aside0.mk (Kd.V_elder' (S.uV HO0.out) (Kd.N_base ho3) hb); have HO395 := Aside0.mk (Kd.N_lower ho3 (below_size S.bA)); replace HB := S.sA hb; clear hb ho3))
 go_loopg [3, 4] k (fun kq v3 v4 w' => ∃ (x3_1 : List (List Int)) (x4_1 : Int), v4 = .int .i64 x4_1 ∧ Aside0 (spec_l8Stages.l0 kq l0 x3_1 x4_1 = some r) ∧ Aside0 (kq ≤ k) ∧ Aside0 (Kd.V k85 85 w' w.heap.size (fun k_ => (P0_ k_ ∨ w.heap.size ≤ k_) ∧ S.N k_ v3) (.slice A0 l0.length c0) l0) ∧ Aside0 (Kd.N (Kd.slice 3 (Kd.int .i64)) 36 w' w.heap.size (fun k_ => (P0_ k_ ∨ w.heap.size ≤ k_)) v3 x3_1) ∧ Aside0 (Below w.heap.size w w'))
 case atStart => exact ⟨(y393), (0), S.eA, H', ⟨Nat.le_refl _⟩, ⟨S.uV HO0.out⟩, ⟨by (with_reducible repeat (first | apply Kd.N_alloc | apply Kd.N_drewN | apply Kd.N_drew)); exact HO395.out⟩, ⟨S.bA⟩⟩
 case round =>
  clear H'
  obtain ⟨x3_1, x4_1, rfl, HA, HK1, HO_0, HO_3, HB⟩ := hrel
  cases gk with
  | zero => exact absurd HA.out (by simp [spec_l8Stages.l0])
  | succ k1 =>
   have H := HA.out
   clear HA
   simp only [spec_l8Stages.l0] at H
   replace H := S.dc H; rcases H with ⟨H, c4b0⟩ | ⟨H, c4b0⟩
   ·by_cases c5 : 0 ≤ x4_1
    ·rw [if_pos c5] at H
     have c5b0 : decide (0 ≤ x4_1) = true := decide_eq_true c5
     clear c5
     by_cases c6 : x3_1.length < 5864062014805
     ·rw [if_pos c6] at H
      have LMc6 := Aside0.mk c6
      clear c6
      obtain ⟨y397, hy397⟩ : ∃ y_ : List (List Int), y_ = (x3_1 ++ [(rd_T85 l0 x4_1).f0]) := ⟨_, rfl⟩
      replace H : (spec_l8Stages.l0 k1 l0 y397 (wrap64 (x4_1 + 1))) = some r := by first | (rw [hy397]; with_reducible exact H) | (have H2_ := (Option.bind_some _ _).symm.trans H; rw [hy397]; with_reducible exact H2_) | (have H2_ := (Option.bind_some _ _).symm.trans H; with_reducible exact H2_) | with_reducible exact H | (rw [hy397]; exact H) | exact H
      have Ny397 := Aside0.mk hy397
      clear hy397
      have H' := Aside0.mk H
      clear H
      have p396 : 0 ≤ (x4_1 : Int) := S.oD
      have q396 : x4_1 < (l0.length : Int) := S.oD
      obtain ⟨ad396, A396_0, c396_0, e396, hx396_0, hx396_1, hl396_0, hi396_0⟩ := at_T85 (Kd.V_reads' HO_0.out).2.2 x4_1 p396 q396
      cases e396
      obtain ⟨ce396, hce396, hMe396, hcc396⟩ := Kd.V_get HO_0.out z85 x4_1 p396 (by first | exact q396 | exact S.oD | (have e_ := (Kd.V_reads' HO_0.out).1; omega))
      obtain ⟨ua396_0, uc396_0, rfl, ul396_0, ge396_0⟩ := k85_openF hMe396
      have hv396_0 := hcc396 0 _ rfl
      rw [Nat.add_zero] at hv396_0
      replace hv396_0 := Option.some.inj (hv396_0.symm.trans hx396_0)
      injection hv396_0 with hva_ hvn_ hvc_
      rw [hva_] at ge396_0
      rw [hvc_] at ul396_0
      have HL396_0 := Aside0.mk (show Kd.V (Kd.int .i64) 3 _ w.heap.size _ _ ((rd_T85 l0 x4_1).f0) from Kd.V_mk ul396_0 ge396_0)
      clear hva_ hvn_ hvc_ ge396_0 ul396_0
      clear hcc396 hce396
      have HR396_0 := Aside0.mk hi396_0
      have HC396_0 := Aside0.mk hl396_0
      clear hi396_0 hl396_0
      replace p396 := eq_true p396
      replace q396 := eq_true q396
      go_wp2_with (first | ((with_reducible refine gate_builtin (b := .append) (xs := #[.tmp 12, .tmp 18]) rfl ?_); at_builtin; refine Kd.N_append (Kd.slice 3 (Kd.int .i64)) (w0 := w) w.heap.size rfl (.tmp 12) (.tmp 18) 111 36 (.slice none 0 0) 24 rfl Try.underlying111 info36 rfl (by decide) (by omega) u3 x3_1 ((rd_T85 l0 x4_1).f0) [.slice A396_0 ((rd_T85 l0 x4_1).f0).length c396_0] (fun k_ => (P0_ k_ ∨ w.heap.size ≤ k_)) (fun k_ => ((fun k_ => (P0_ k_ ∨ w.heap.size ≤ k_))) k_ ∧ some k_ ≠ (u3 : Value).ownBlock) rfl rfl ?aP (fun _ hk => hk) ?aF ?aO ?aB ?aS ?aL ?_; (case aP => exact (Kd.FK_slice_mk (Kd.V_reads' (Kd.V_mono (e := 3) (base := w.heap.size) (ok' := (fun k_ => ((fun k_ => (P0_ k_ ∨ w.heap.size ≤ k_))) k_ ∧ some k_ ≠ (u3 : Value).ownBlock)) (HL396_0.out) (fun k_ hk => ⟨hk.1, hk.2⟩))).2.1 (Kd.V_F (Kd.V_mono (e := 3) (base := w.heap.size) (ok' := (fun k_ => ((fun k_ => (P0_ k_ ∨ w.heap.size ≤ k_))) k_ ∧ some k_ ≠ (u3 : Value).ownBlock)) (HL396_0.out) (fun k_ hk => ⟨hk.1, hk.2⟩))))); (case aB => exact S.bA); (case aF => exact (fun k_ hk => (.inr (Nat.le_trans (below_size S.bA) hk)))); (case aO => exact (by (with_reducible repeat (first | apply Kd.N_alloc | apply Kd.N_drewN | apply Kd.N_drew)); exact HO_3.out)); (case aS => exact (below_size S.bA)); (case aL => have := LMc6.out; omega); intro v398 w7 ho hb hg hat; rw [← Ny397.out] at ho; have n0_ := Aside0.mk (Kd.V_afterv (ok := (fun k_ => (P0_ k_ ∨ w.heap.size ≤ k_))) (S.uV HO_0.out) hg hat); have n1_ := Aside0.mk (Kd.V_afterv (ok := (fun k_ => (P0_ k_ ∨ w.heap.size ≤ k_))) (S.uV HL396_0.out) hg hat); have n2_ := Aside0.mk (hb); have n3_ := Aside0.mk (ho); clear HO_0; clear HL396_0; clear HB; clear HO_3; have HO_0 := n0_; have HL396_0 := n1_; have HB := n2_; have HO399 := n3_; clear n0_ n1_ n2_ n3_; clear ho hb hg hat))
      go_roundg k1
      case measure => have := HK1.out; omega
      case rel => exact ⟨(y397), (wrap64 (x4_1 + 1)), S.eA, H', ⟨by have := HK1.out; omega⟩, ⟨S.uV HO_0.out⟩, ⟨by (with_reducible repeat (first | apply Kd.N_alloc | apply Kd.N_drewN | apply Kd.N_drew)); exact HO399.out⟩, ⟨S.bA⟩⟩
     ·rw [if_neg c6] at H
      exact absurd H (by simp)
    ·rw [if_neg c5] at H
     exact absurd H (by simp)
   ·obtain rfl := Option.some.inj H
    go_wp2
    go_ret
    exact ⟨_, S.eW, by (with_reducible repeat (first | apply Kd.N_alloc | apply Kd.N_drewN | apply Kd.N_drew)); exact HO_3.out, S.bA⟩
/-! ### spec_IsPlan: function 65 -/
def spec_IsPlan.l0 : Nat → List (S71) → List (S85) → Int → Option (Bool)
 | 0, _, _, _ => none
 | k + 1, x0, x1, x5 => if x5 < (x1.length : Int) then (if 0 ≤ x5 then (if (((rd_T85 x1 x5).f0).length : Int) = 0 then (some false) else ((spec_IsTogether.f k x0 ((rd_T85 x1 x5).f0)).bind fun t407 => (if t407 = true then ((spec_LeastGreen.f k x0 ((rd_T85 x1 x5).f0)).bind fun t410 => ((spec_l1In.f ((rd_T85 x1 x5).f1) t410 60).bind fun t411 => (if t411 = true then (spec_IsPlan.l0 k x0 x1 (wrap64 (x5 + 1))) else (some false)))) else (some false)))) else (none)) else ((spec_l8Stages.f k x1).bind fun t401 => ((spec_Covers.f k x0 t401).bind fun t404 => (some t404)))
def spec_IsPlan.f (k : Nat) (l0 : List (S71)) (l1 : List (S85)) : Option (Bool) := (spec_l1In.f (l1.length : Int) 1 6).bind fun t400 => (if t400 = true then (spec_IsPlan.l0 k l0 l1 0) else (some false))
def spec_IsPlan.T6 : Bool × List (List Nat × List Nat) := (true, [([], []), ([], []), ([0, 1], [0, 1]), ([2], [2]), ([3], [3]), ([4], [4]), ([5], [5]), ([6], [6]), ([7], [7]), ([7], [7]), ([7], [7]), ([9, 10, 7], [7, 9, 10]), ([11, 7], [7, 11]), ([12, 7], [7, 12]), ([8, 13, 7, 7], [7, 8, 13]), ([14, 7], [7, 14]), ([7, 15], [7, 15]), ([16, 14], [16]), ([17], [17]), ([17], [17]), ([18, 19, 17], [17, 18, 19]), ([20, 17], [17, 20]), ([21, 17], [17, 21]), ([17], [17]), ([17], [17]), ([17], [17]), ([24, 25, 17], [17, 24, 25]), ([26, 17], [17, 26]), ([27, 17], [17, 27]), ([23, 28, 17, 17], [17, 23, 28]), ([22, 29, 29, 17], [17, 22, 29]), ([30, 17], [17, 30]), ([17, 31], [17, 31])])
def spec_IsPlan.B6 : List Nat := [0, 0, 3, 7, 15, 31, 63, 127, 255, 255, 255, 1791, 3839, 7935, 16383, 32767, 65535, 131071, 262143, 262143, 1048575, 2097151, 4194303, 262143, 262143, 262143, 50593791, 117702655, 251920383, 528744447, 1073741823, 2147483647, 4294967295]
theorem spec_IsPlan.tab6 : rtab .any (opsOf Try.f65 6) = spec_IsPlan.T6 := by kernel_rfl
theorem spec_IsPlan.bits6 : waitsOk spec_IsPlan.T6.2 spec_IsPlan.B6 = true := by kernel_rfl
set_option maxHeartbeats 8000000 in
set_option maxRecDepth 100000 in
theorem spec_IsPlan.calls (k : Nat) (A0 : Option Addr) (c0 : Nat) (l0 : List (S71)) (A1 : Option Addr) (c1 : Nat) (l1 : List (S85)) (r : Bool) (w : World) (hr0 : Kd.C k71 w A0 l0.length l0) (hc0 : l0.length ≤ c0) (hr1 : Kd.C k85 w A1 l1.length l1) (hc1 : l1.length ≤ c1) (h : spec_IsPlan.f k l0 l1 = some r) :
  Calls Try.prog 65 #[.slice A0 l0.length c0, .slice A1 l1.length c1] w fun e w' => e = .returned (.bool r) ∧ Below w.heap.size w w' := by
 have HR0 := Aside0.mk hr0
 have HC0 := Aside0.mk hc0
 clear hr0 hc0
 have HR1 := Aside0.mk hr1
 have HC1 := Aside0.mk hc1
 clear hr1 hc1
 have HB := Aside0.mk (Below.refl w.heap.size w)
 have H : ((spec_l1In.f (l1.length : Int) 1 6).bind fun t400 => (if t400 = true then (spec_IsPlan.l0 k l0 l1 0) else (some false))) = some r := h
 clear h
 replace H := S.bd H; obtain ⟨t400, A3, H⟩ := H
 (try dsimp only at H)
 replace H := S.db H; rcases H with ⟨rfl, H⟩ | ⟨rfl, H⟩
 ·have H' := Aside0.mk H
  clear H
  go_enter Try.func65, Try.ntmps65
  go_wp2_with (first | ((with_reducible refine gate_callee (f := 58) rfl ?_); refine S.gL (some 8) Try.func58 #[.int .i64 (l1.length : Int), .int .i64 1, .int .i64 6] ?_; (with_reducible refine (spec_l1In.calls (l1.length : Int) 1 6 true _ A3.out).mono ?_); rintro e w' ⟨rfl, ⟨nd, rfl⟩⟩; refine ⟨_, rfl, ?_⟩))
  go_loopg [5] k (fun kq v5 w' => ∃ (x5_1 : Int), v5 = .int .i64 x5_1 ∧ Aside0 (spec_IsPlan.l0 kq l0 l1 x5_1 = some r) ∧ Aside0 (kq ≤ k) ∧ Aside0 (Below w.heap.size w w'))
  case atStart => exact ⟨(0), S.eA, H', ⟨Nat.le_refl _⟩, ⟨S.bA⟩⟩
  case round =>
   clear H'
   try clear c1
   try clear c4
   obtain ⟨x5_1, rfl, HA, HK1, HB⟩ := hrel
   cases gk with
   | zero => exact absurd HA.out (by simp [spec_IsPlan.l0])
   | succ k1 =>
    have H := HA.out
    clear HA
    simp only [spec_IsPlan.l0] at H
    replace H := S.dc H; rcases H with ⟨H, c5b0⟩ | ⟨H, c5b0⟩
    ·by_cases c6 : 0 ≤ x5_1
     ·rw [if_pos c6] at H
      have c6b0 : decide (0 ≤ x5_1) = true := decide_eq_true c6
      clear c6
      by_cases c7 : (((rd_T85 l1 x5_1).f0).length : Int) = 0
      ·rw [if_pos c7] at H
       have c7b0 : ((((rd_T85 l1 x5_1).f0).length : Int) == 0) = true := beq_iff_eq.mpr c7
       have c7b1 : ((((rd_T85 l1 x5_1).f0).length : Int) != 0) = false := bne_eq_false_iff_eq.mpr c7
       clear c7
       obtain rfl := Option.some.inj H
       try go_wp2
       replace HB := Aside0.mk (below_drew1 HB.out)
       have p405 : 0 ≤ (x5_1 : Int) := S.oD
       have q405 : x5_1 < (l1.length : Int) := S.oD
       obtain ⟨ad405, A405_0, c405_0, e405, hx405_0, hx405_1, hl405_0, hi405_0⟩ := at_T85 HR1.out x5_1 p405 q405
       have hw405_1 := hx405_1
       have hw405_0 := hx405_0
       cases e405
       replace hx405_0 := S.hb HB hx405_0
       replace hx405_1 := S.hb HB hx405_1
       have HR405_0 := Aside0.mk hi405_0
       have HC405_0 := Aside0.mk hl405_0
       clear hi405_0 hl405_0
       replace p405 := eq_true p405
       replace q405 := eq_true q405
       refine S.st (n := 33) (ds := []) #[false, false, false, false, false, false, false, false, false, false, false, false, false, false, false, false, false, false, false, false, false, false, false, false, false, false, false, false, false, false, false, false, false] (fun w_ h_ => have x_ := And.intro (S.q h_ (S.hb HB hw405_0)) (S.q h_ (S.hb HB hw405_1)); x_) (fun hHeld => ?_); refine with_tabW spec_IsPlan.tab6 spec_IsPlan.bits6 (fun HT_ HW_ => ?_)
       generalize wr.drew = w8 at HB HR405_0 hx405_0 hx405_1 hHeld ⊢
       refine S.pS 0 16 ?_
       refine S.pS 1 17 ?_
       refine S.pS 2 18 ?_
       refine S.pS 3 19 ?_
       refine S.tK 4 20 #[true, true, true, true, true, false, false, false, false, false, false, false, false, false, false, false, false, false, false, false, false, false, false, false, false, false, false, false, false, false, false, false, false] ?_
       refine S.pS 5 21 ?_
       refine S.pS 6 22 ?_
       refine S.pS 7 23 ?_
       refine S.pU 8 24 ?_
       refine S.pU 9 25 ?_
       refine S.pU 10 26 ?_
       refine S.pU 11 27 ?_
       refine S.pU 12 28 ?_
       refine S.pU 13 29 ?_
       refine S.pU 14 30 ?_
       refine S.pU 15 31 ?_
       refine S.pS 16 32 ?_
       refine S.pS 17 33 ?_
       refine S.pU 18 34 ?_
       refine S.pU 19 35 ?_
       refine S.pU 20 36 ?_
       refine S.pU 21 37 ?_
       refine S.pU 22 38 ?_
       refine S.pU 23 39 ?_
       refine S.pU 24 40 ?_
       refine S.pU 25 41 ?_
       refine S.pU 26 42 ?_
       refine S.pU 27 43 ?_
       refine S.pU 28 44 ?_
       refine S.pU 29 45 ?_
       refine S.pU 30 46 ?_
       refine S.pU 31 47 ?_
       refine S.pS 32 48 ?_
       refine done_ (done_of HT_.out (by kernel_rfl)) ?_
       try go_wp2
       go_ret
       exact ⟨S.eW, S.bA⟩
      ·rw [if_neg c7] at H
       have c7b0 : ((((rd_T85 l1 x5_1).f0).length : Int) == 0) = false := beq_eq_false_iff_ne.mpr c7
       have c7b1 : ((((rd_T85 l1 x5_1).f0).length : Int) != 0) = true := bne_iff_ne.mpr c7
       have c7b2 : ¬ (((rd_T85 l1 x5_1).f0) = []) := fun h_ => c7 (by rw [h_]; rfl)
       replace H := S.bd H; obtain ⟨t407, A9, H⟩ := H
       (try dsimp only at H)
       replace H := S.db H; rcases H with ⟨rfl, H⟩ | ⟨rfl, H⟩
       ·replace H := S.bd H; obtain ⟨t410, A11, H⟩ := H
        (try dsimp only at H)
        replace H := S.bd H; obtain ⟨t411, A12, H⟩ := H
        (try dsimp only at H)
        replace H := S.db H; rcases H with ⟨rfl, H⟩ | ⟨rfl, H⟩
        ·have H' := Aside0.mk H
         clear H
         try go_wp2
         replace HB := Aside0.mk (below_drew1 HB.out)
         have p405 : 0 ≤ (x5_1 : Int) := S.oD
         have q405 : x5_1 < (l1.length : Int) := S.oD
         obtain ⟨ad405, A405_0, c405_0, e405, hx405_0, hx405_1, hl405_0, hi405_0⟩ := at_T85 HR1.out x5_1 p405 q405
         have hw405_1 := hx405_1
         have hw405_0 := hx405_0
         cases e405
         replace hx405_0 := S.hb HB hx405_0
         replace hx405_1 := S.hb HB hx405_1
         have HR405_0 := Aside0.mk hi405_0
         have HC405_0 := Aside0.mk hl405_0
         clear hi405_0 hl405_0
         replace p405 := eq_true p405
         replace q405 := eq_true q405
         have p406 : 0 ≤ (x5_1 : Int) := S.oD
         have q406 : x5_1 < (l1.length : Int) := S.oD
         obtain ⟨ad406, A406_0, c406_0, e406, hx406_0, hx406_1, hl406_0, hi406_0⟩ := at_T85 HR1.out x5_1 p406 q406
         have hw406_1 := hx406_1
         have hw406_0 := hx406_0
         obtain rfl : ad405 = ad406 := (by injection e406)
         replace hx406_0 := S.hb HB hx406_0
         replace hx406_1 := S.hb HB hx406_1
         have HR406_0 := Aside0.mk hi406_0
         have HC406_0 := Aside0.mk hl406_0
         clear hi406_0 hl406_0
         replace p406 := eq_true p406
         replace q406 := eq_true q406
         have ea_ := Option.some.inj (hx405_0.symm.trans hx406_0)
         injection ea_ with ea_ en_ ec_
         subst ea_
         subst ec_
         clear en_
         have p408 : 0 ≤ (x5_1 : Int) := S.oD
         have q408 : x5_1 < (l1.length : Int) := S.oD
         obtain ⟨ad408, A408_0, c408_0, e408, hx408_0, hx408_1, hl408_0, hi408_0⟩ := at_T85 HR1.out x5_1 p408 q408
         have hw408_1 := hx408_1
         have hw408_0 := hx408_0
         obtain rfl : ad405 = ad408 := (by injection e408)
         replace hx408_0 := S.hb HB hx408_0
         replace hx408_1 := S.hb HB hx408_1
         have HR408_0 := Aside0.mk hi408_0
         have HC408_0 := Aside0.mk hl408_0
         clear hi408_0 hl408_0
         replace p408 := eq_true p408
         replace q408 := eq_true q408
         have ea_ := Option.some.inj (hx405_0.symm.trans hx408_0)
         injection ea_ with ea_ en_ ec_
         subst ea_
         subst ec_
         clear en_
         have p409 : 0 ≤ (x5_1 : Int) := S.oD
         have q409 : x5_1 < (l1.length : Int) := S.oD
         obtain ⟨ad409, A409_0, c409_0, e409, hx409_0, hx409_1, hl409_0, hi409_0⟩ := at_T85 HR1.out x5_1 p409 q409
         have hw409_1 := hx409_1
         have hw409_0 := hx409_0
         obtain rfl : ad405 = ad409 := (by injection e409)
         replace hx409_0 := S.hb HB hx409_0
         replace hx409_1 := S.hb HB hx409_1
         have HR409_0 := Aside0.mk hi409_0
         have HC409_0 := Aside0.mk hl409_0
         clear hi409_0 hl409_0
         replace p409 := eq_true p409
         replace q409 := eq_true q409
         have ea_ := Option.some.inj (hx405_0.symm.trans hx409_0)
         injection ea_ with ea_ en_ ec_
         subst ea_
         subst ec_
         clear en_
         refine S.st (n := 33) (ds := []) #[false, false, false, false, false, false, false, false, false, false, false, false, false, false, false, false, false, false, false, false, false, false, false, false, false, false, false, false, false, false, false, false, false] (fun w_ h_ => have x_ := And.intro (S.q h_ (S.hb HB hw405_0)) (And.intro (S.q h_ (S.hb HB hw405_1)) (And.intro (S.q h_ (S.hb HB hw406_0)) (And.intro (S.q h_ (S.hb HB hw406_1)) (And.intro (S.q h_ (S.hb HB hw408_0)) (And.intro (S.q h_ (S.hb HB hw408_1)) (And.intro (S.q h_ (S.hb HB hw409_0)) (S.q h_ (S.hb HB hw409_1)))))))); x_) (fun hHeld => ?_); refine with_tabW spec_IsPlan.tab6 spec_IsPlan.bits6 (fun HT_ HW_ => ?_)
         generalize wr.drew = w14 at HB HR405_0 HR406_0 HR408_0 HR409_0 hx405_0 hx405_1 hx406_0 hx406_1 hx408_0 hx408_1 hx409_0 hx409_1 hHeld ⊢
         refine S.pS 0 16 ?_
         refine S.pS 1 17 ?_
         refine S.pS 2 18 ?_
         refine S.pS 3 19 ?_
         refine S.tK 4 20 #[true, true, true, true, true, false, false, false, false, false, false, false, false, false, false, false, false, false, false, false, false, false, false, false, false, false, false, false, false, false, false, false, false] ?_
         refine S.pS 5 21 ?_
         refine S.pS 6 22 ?_
         refine S.pS 7 23 ?_
         refine S.pS 8 24 ?_
         refine S.pS 9 25 ?_
         refine S.pS 10 26 ?_
         refine S.pS 11 27 ?_
         refine S.pS 12 28 ?_
         refine S.tK 13 29 #[true, true, true, true, true, true, true, true, true, true, true, true, true, true, false, false, false, false, false, false, false, false, false, false, false, false, false, false, false, false, false, false, false] ?_
         refine S.oN 14 30 #[true, true, true, true, true, true, true, true, true, true, true, true, true, true, true, false, false, false, false, false, false, false, false, false, false, false, false, false, false, false, false, false, false] (fun K hK => ?_)
         refine S.go Try.func99 #[.slice A0 l0.length c0, .slice A405_0 ((rd_T85 l1 x5_1).f0).length c405_0] ?_
         with_reducible refine (spec_IsTogether.calls k1 _ _ l0 _ _ ((rd_T85 l1 x5_1).f0) true _ ?s1 ?s2 ?s3 ?s4 A9.out).mono ?_
         (case s1 => exact S.cA HR0.out)
         (case s2 => exact HC0.out)
         (case s3 => exact S.cA HR406_0.out)
         (case s4 => exact HC406_0.out)
         rintro e w15 ⟨rfl, hb⟩
         refine ⟨_, rfl, ?_⟩
         replace HB := S.sA hb
         (try clear hb)
         (try clear hb2)
         (try clear hk)
         (try clear hi)
         refine hK.out _ _ ⟨(S.hb HB hw405_0 :), (S.hb HB hw405_1 :), (S.hb HB hw406_0 :), (S.hb HB hw406_1 :), (S.hb HB hw408_0 :), (S.hb HB hw408_1 :), (S.hb HB hw409_0 :), (S.hb HB hw409_1 :)⟩ (fun hHeld => ?_)
         clear hK K
         refine S.nm 30 ?_
         refine S.pS 15 31 ?_
         refine S.pS 16 32 ?_
         refine S.pS 17 33 ?_
         refine S.pS 18 34 ?_
         refine S.pS 19 35 ?_
         refine S.pS 20 36 ?_
         refine S.pS 21 37 ?_
         refine S.pS 23 39 ?_
         refine S.pS 24 40 ?_
         refine S.pS 25 41 ?_
         refine S.pS 26 42 ?_
         refine S.pS 27 43 ?_
         refine S.tK 22 38 #[true, true, true, true, true, true, true, true, true, true, true, true, true, true, true, true, true, true, true, true, true, true, true, true, true, true, true, true, false, false, false, false, false] ?_
         refine S.tK 28 44 #[true, true, true, true, true, true, true, true, true, true, true, true, true, true, true, true, true, true, true, true, true, true, true, true, true, true, true, true, true, false, false, false, false] ?_
         refine S.oN 29 45 #[true, true, true, true, true, true, true, true, true, true, true, true, true, true, true, true, true, true, true, true, true, true, true, true, true, true, true, true, true, true, false, false, false] (fun K hK => ?_)
         refine S.go Try.func100 #[.slice A0 l0.length c0, .slice A405_0 ((rd_T85 l1 x5_1).f0).length c405_0] ?_
         with_reducible refine (spec_LeastGreen.calls k1 _ _ l0 _ _ ((rd_T85 l1 x5_1).f0) t410 _ ?s1 ?s2 ?s3 ?s4 A11.out).mono ?_
         (case s1 => exact S.cA HR0.out)
         (case s2 => exact HC0.out)
         (case s3 => exact S.cA HR409_0.out)
         (case s4 => exact HC409_0.out)
         rintro e w' ⟨rfl, ⟨nd, rfl⟩⟩
         refine ⟨_, rfl, ?_⟩
         refine hK.out _ _ ⟨(S.hb HB hw405_0 :), (S.hb HB hw405_1 :), (S.hb HB hw406_0 :), (S.hb HB hw406_1 :), (S.hb HB hw408_0 :), (S.hb HB hw408_1 :), (S.hb HB hw409_0 :), (S.hb HB hw409_1 :)⟩ (fun hHeld => ?_)
         clear hK K
         refine S.nm 45 ?_
         refine S.oN 30 46 #[true, true, true, true, true, true, true, true, true, true, true, true, true, true, true, true, true, true, true, true, true, true, true, true, true, true, true, true, true, true, true, false, false] (fun K hK => ?_)
         refine S.go Try.func58 #[.int .i64 ((rd_T85 l1 x5_1).f1), .int .i64 t410, .int .i64 60] ?_
         with_reducible refine (spec_l1In.calls ((rd_T85 l1 x5_1).f1) t410 60 true _ A12.out).mono ?_
         rintro e w' ⟨rfl, ⟨nd, rfl⟩⟩
         refine ⟨_, rfl, ?_⟩
         refine hK.out _ _ ⟨(S.hb HB hw405_0 :), (S.hb HB hw405_1 :), (S.hb HB hw406_0 :), (S.hb HB hw406_1 :), (S.hb HB hw408_0 :), (S.hb HB hw408_1 :), (S.hb HB hw409_0 :), (S.hb HB hw409_1 :)⟩ (fun hHeld => ?_)
         clear hK K
         refine S.nm 46 ?_
         refine S.pS 31 47 ?_
         refine S.pS 32 48 ?_
         refine done_ (done_of HT_.out (by kernel_rfl)) ?_
         try go_wp2
         go_roundg k1
         case measure => have := HK1.out; omega
         case rel => exact ⟨(wrap64 (x5_1 + 1)), S.eA, H', ⟨by have := HK1.out; omega⟩, ⟨S.bA⟩⟩
        ·obtain rfl := Option.some.inj H
         try go_wp2
         replace HB := Aside0.mk (below_drew1 HB.out)
         have p405 : 0 ≤ (x5_1 : Int) := S.oD
         have q405 : x5_1 < (l1.length : Int) := S.oD
         obtain ⟨ad405, A405_0, c405_0, e405, hx405_0, hx405_1, hl405_0, hi405_0⟩ := at_T85 HR1.out x5_1 p405 q405
         have hw405_1 := hx405_1
         have hw405_0 := hx405_0
         cases e405
         replace hx405_0 := S.hb HB hx405_0
         replace hx405_1 := S.hb HB hx405_1
         have HR405_0 := Aside0.mk hi405_0
         have HC405_0 := Aside0.mk hl405_0
         clear hi405_0 hl405_0
         replace p405 := eq_true p405
         replace q405 := eq_true q405
         have p406 : 0 ≤ (x5_1 : Int) := S.oD
         have q406 : x5_1 < (l1.length : Int) := S.oD
         obtain ⟨ad406, A406_0, c406_0, e406, hx406_0, hx406_1, hl406_0, hi406_0⟩ := at_T85 HR1.out x5_1 p406 q406
         have hw406_1 := hx406_1
         have hw406_0 := hx406_0
         obtain rfl : ad405 = ad406 := (by injection e406)
         replace hx406_0 := S.hb HB hx406_0
         replace hx406_1 := S.hb HB hx406_1
         have HR406_0 := Aside0.mk hi406_0
         have HC406_0 := Aside0.mk hl406_0
         clear hi406_0 hl406_0
         replace p406 := eq_true p406
         replace q406 := eq_true q406
         have ea_ := Option.some.inj (hx405_0.symm.trans hx406_0)
         injection ea_ with ea_ en_ ec_
         subst ea_
         subst ec_
         clear en_
         have p408 : 0 ≤ (x5_1 : Int) := S.oD
         have q408 : x5_1 < (l1.length : Int) := S.oD
         obtain ⟨ad408, A408_0, c408_0, e408, hx408_0, hx408_1, hl408_0, hi408_0⟩ := at_T85 HR1.out x5_1 p408 q408
         have hw408_1 := hx408_1
         have hw408_0 := hx408_0
         obtain rfl : ad405 = ad408 := (by injection e408)
         replace hx408_0 := S.hb HB hx408_0
         replace hx408_1 := S.hb HB hx408_1
         have HR408_0 := Aside0.mk hi408_0
         have HC408_0 := Aside0.mk hl408_0
         clear hi408_0 hl408_0
         replace p408 := eq_true p408
         replace q408 := eq_true q408
         have ea_ := Option.some.inj (hx405_0.symm.trans hx408_0)
         injection ea_ with ea_ en_ ec_
         subst ea_
         subst ec_
         clear en_
         have p409 : 0 ≤ (x5_1 : Int) := S.oD
         have q409 : x5_1 < (l1.length : Int) := S.oD
         obtain ⟨ad409, A409_0, c409_0, e409, hx409_0, hx409_1, hl409_0, hi409_0⟩ := at_T85 HR1.out x5_1 p409 q409
         have hw409_1 := hx409_1
         have hw409_0 := hx409_0
         obtain rfl : ad405 = ad409 := (by injection e409)
         replace hx409_0 := S.hb HB hx409_0
         replace hx409_1 := S.hb HB hx409_1
         have HR409_0 := Aside0.mk hi409_0
         have HC409_0 := Aside0.mk hl409_0
         clear hi409_0 hl409_0
         replace p409 := eq_true p409
         replace q409 := eq_true q409
         have ea_ := Option.some.inj (hx405_0.symm.trans hx409_0)
         injection ea_ with ea_ en_ ec_
         subst ea_
         subst ec_
         clear en_
         refine S.st (n := 33) (ds := []) #[false, false, false, false, false, false, false, false, false, false, false, false, false, false, false, false, false, false, false, false, false, false, false, false, false, false, false, false, false, false, false, false, false] (fun w_ h_ => have x_ := And.intro (S.q h_ (S.hb HB hw405_0)) (And.intro (S.q h_ (S.hb HB hw405_1)) (And.intro (S.q h_ (S.hb HB hw406_0)) (And.intro (S.q h_ (S.hb HB hw406_1)) (And.intro (S.q h_ (S.hb HB hw408_0)) (And.intro (S.q h_ (S.hb HB hw408_1)) (And.intro (S.q h_ (S.hb HB hw409_0)) (S.q h_ (S.hb HB hw409_1)))))))); x_) (fun hHeld => ?_); refine with_tabW spec_IsPlan.tab6 spec_IsPlan.bits6 (fun HT_ HW_ => ?_)
         generalize wr.drew = w16 at HB HR405_0 HR406_0 HR408_0 HR409_0 hx405_0 hx405_1 hx406_0 hx406_1 hx408_0 hx408_1 hx409_0 hx409_1 hHeld ⊢
         refine S.pS 0 16 ?_
         refine S.pS 1 17 ?_
         refine S.pS 2 18 ?_
         refine S.pS 3 19 ?_
         refine S.tK 4 20 #[true, true, true, true, true, false, false, false, false, false, false, false, false, false, false, false, false, false, false, false, false, false, false, false, false, false, false, false, false, false, false, false, false] ?_
         refine S.pS 5 21 ?_
         refine S.pS 6 22 ?_
         refine S.pS 7 23 ?_
         refine S.pS 8 24 ?_
         refine S.pS 9 25 ?_
         refine S.pS 10 26 ?_
         refine S.pS 11 27 ?_
         refine S.pS 12 28 ?_
         refine S.tK 13 29 #[true, true, true, true, true, true, true, true, true, true, true, true, true, true, false, false, false, false, false, false, false, false, false, false, false, false, false, false, false, false, false, false, false] ?_
         refine S.oN 14 30 #[true, true, true, true, true, true, true, true, true, true, true, true, true, true, true, false, false, false, false, false, false, false, false, false, false, false, false, false, false, false, false, false, false] (fun K hK => ?_)
         refine S.go Try.func99 #[.slice A0 l0.length c0, .slice A405_0 ((rd_T85 l1 x5_1).f0).length c405_0] ?_
         with_reducible refine (spec_IsTogether.calls k1 _ _ l0 _ _ ((rd_T85 l1 x5_1).f0) true _ ?s1 ?s2 ?s3 ?s4 A9.out).mono ?_
         (case s1 => exact S.cA HR0.out)
         (case s2 => exact HC0.out)
         (case s3 => exact S.cA HR406_0.out)
         (case s4 => exact HC406_0.out)
         rintro e w17 ⟨rfl, hb⟩
         refine ⟨_, rfl, ?_⟩
         replace HB := S.sA hb
         (try clear hb)
         (try clear hb2)
         (try clear hk)
         (try clear hi)
         refine hK.out _ _ ⟨(S.hb HB hw405_0 :), (S.hb HB hw405_1 :), (S.hb HB hw406_0 :), (S.hb HB hw406_1 :), (S.hb HB hw408_0 :), (S.hb HB hw408_1 :), (S.hb HB hw409_0 :), (S.hb HB hw409_1 :)⟩ (fun hHeld => ?_)
         clear hK K
         refine S.nm 30 ?_
         refine S.pS 15 31 ?_
         refine S.pS 16 32 ?_
         refine S.pS 17 33 ?_
         refine S.pS 18 34 ?_
         refine S.pS 19 35 ?_
         refine S.pS 20 36 ?_
         refine S.pS 21 37 ?_
         refine S.pS 23 39 ?_
         refine S.pS 24 40 ?_
         refine S.pS 25 41 ?_
         refine S.pS 26 42 ?_
         refine S.pS 27 43 ?_
         refine S.tK 22 38 #[true, true, true, true, true, true, true, true, true, true, true, true, true, true, true, true, true, true, true, true, true, true, true, true, true, true, true, true, false, false, false, false, false] ?_
         refine S.tK 28 44 #[true, true, true, true, true, true, true, true, true, true, true, true, true, true, true, true, true, true, true, true, true, true, true, true, true, true, true, true, true, false, false, false, false] ?_
         refine S.oN 29 45 #[true, true, true, true, true, true, true, true, true, true, true, true, true, true, true, true, true, true, true, true, true, true, true, true, true, true, true, true, true, true, false, false, false] (fun K hK => ?_)
         refine S.go Try.func100 #[.slice A0 l0.length c0, .slice A405_0 ((rd_T85 l1 x5_1).f0).length c405_0] ?_
         with_reducible refine (spec_LeastGreen.calls k1 _ _ l0 _ _ ((rd_T85 l1 x5_1).f0) t410 _ ?s1 ?s2 ?s3 ?s4 A11.out).mono ?_
         (case s1 => exact S.cA HR0.out)
         (case s2 => exact HC0.out)
         (case s3 => exact S.cA HR409_0.out)
         (case s4 => exact HC409_0.out)
         rintro e w' ⟨rfl, ⟨nd, rfl⟩⟩
         refine ⟨_, rfl, ?_⟩
         refine hK.out _ _ ⟨(S.hb HB hw405_0 :), (S.hb HB hw405_1 :), (S.hb HB hw406_0 :), (S.hb HB hw406_1 :), (S.hb HB hw408_0 :), (S.hb HB hw408_1 :), (S.hb HB hw409_0 :), (S.hb HB hw409_1 :)⟩ (fun hHeld => ?_)
         clear hK K
         refine S.nm 45 ?_
         refine S.oN 30 46 #[true, true, true, true, true, true, true, true, true, true, true, true, true, true, true, true, true, true, true, true, true, true, true, true, true, true, true, true, true, true, true, false, false] (fun K hK => ?_)
         refine S.go Try.func58 #[.int .i64 ((rd_T85 l1 x5_1).f1), .int .i64 t410, .int .i64 60] ?_
         with_reducible refine (spec_l1In.calls ((rd_T85 l1 x5_1).f1) t410 60 false _ A12.out).mono ?_
         rintro e w' ⟨rfl, ⟨nd, rfl⟩⟩
         refine ⟨_, rfl, ?_⟩
         refine hK.out _ _ ⟨(S.hb HB hw405_0 :), (S.hb HB hw405_1 :), (S.hb HB hw406_0 :), (S.hb HB hw406_1 :), (S.hb HB hw408_0 :), (S.hb HB hw408_1 :), (S.hb HB hw409_0 :), (S.hb HB hw409_1 :)⟩ (fun hHeld => ?_)
         clear hK K
         refine S.nm 46 ?_
         refine S.pS 31 47 ?_
         refine S.pS 32 48 ?_
         refine done_ (done_of HT_.out (by kernel_rfl)) ?_
         try go_wp2
         go_ret
         exact ⟨S.eW, S.bA⟩
       ·obtain rfl := Option.some.inj H
        try go_wp2
        replace HB := Aside0.mk (below_drew1 HB.out)
        have p405 : 0 ≤ (x5_1 : Int) := S.oD
        have q405 : x5_1 < (l1.length : Int) := S.oD
        obtain ⟨ad405, A405_0, c405_0, e405, hx405_0, hx405_1, hl405_0, hi405_0⟩ := at_T85 HR1.out x5_1 p405 q405
        have hw405_1 := hx405_1
        have hw405_0 := hx405_0
        cases e405
        replace hx405_0 := S.hb HB hx405_0
        replace hx405_1 := S.hb HB hx405_1
        have HR405_0 := Aside0.mk hi405_0
        have HC405_0 := Aside0.mk hl405_0
        clear hi405_0 hl405_0
        replace p405 := eq_true p405
        replace q405 := eq_true q405
        have p406 : 0 ≤ (x5_1 : Int) := S.oD
        have q406 : x5_1 < (l1.length : Int) := S.oD
        obtain ⟨ad406, A406_0, c406_0, e406, hx406_0, hx406_1, hl406_0, hi406_0⟩ := at_T85 HR1.out x5_1 p406 q406
        have hw406_1 := hx406_1
        have hw406_0 := hx406_0
        obtain rfl : ad405 = ad406 := (by injection e406)
        replace hx406_0 := S.hb HB hx406_0
        replace hx406_1 := S.hb HB hx406_1
        have HR406_0 := Aside0.mk hi406_0
        have HC406_0 := Aside0.mk hl406_0
        clear hi406_0 hl406_0
        replace p406 := eq_true p406
        replace q406 := eq_true q406
        have ea_ := Option.some.inj (hx405_0.symm.trans hx406_0)
        injection ea_ with ea_ en_ ec_
        subst ea_
        subst ec_
        clear en_
        refine S.st (n := 33) (ds := []) #[false, false, false, false, false, false, false, false, false, false, false, false, false, false, false, false, false, false, false, false, false, false, false, false, false, false, false, false, false, false, false, false, false] (fun w_ h_ => have x_ := And.intro (S.q h_ (S.hb HB hw405_0)) (And.intro (S.q h_ (S.hb HB hw405_1)) (And.intro (S.q h_ (S.hb HB hw406_0)) (S.q h_ (S.hb HB hw406_1)))); x_) (fun hHeld => ?_); refine with_tabW spec_IsPlan.tab6 spec_IsPlan.bits6 (fun HT_ HW_ => ?_)
        generalize wr.drew = w18 at HB HR405_0 HR406_0 hx405_0 hx405_1 hx406_0 hx406_1 hHeld ⊢
        refine S.pS 0 16 ?_
        refine S.pS 1 17 ?_
        refine S.pS 2 18 ?_
        refine S.pS 3 19 ?_
        refine S.tK 4 20 #[true, true, true, true, true, false, false, false, false, false, false, false, false, false, false, false, false, false, false, false, false, false, false, false, false, false, false, false, false, false, false, false, false] ?_
        refine S.pS 5 21 ?_
        refine S.pS 6 22 ?_
        refine S.pS 7 23 ?_
        refine S.pS 8 24 ?_
        refine S.pS 9 25 ?_
        refine S.pS 10 26 ?_
        refine S.pS 11 27 ?_
        refine S.pS 12 28 ?_
        refine S.tK 13 29 #[true, true, true, true, true, true, true, true, true, true, true, true, true, true, false, false, false, false, false, false, false, false, false, false, false, false, false, false, false, false, false, false, false] ?_
        refine S.oN 14 30 #[true, true, true, true, true, true, true, true, true, true, true, true, true, true, true, false, false, false, false, false, false, false, false, false, false, false, false, false, false, false, false, false, false] (fun K hK => ?_)
        refine S.go Try.func99 #[.slice A0 l0.length c0, .slice A405_0 ((rd_T85 l1 x5_1).f0).length c405_0] ?_
        with_reducible refine (spec_IsTogether.calls k1 _ _ l0 _ _ ((rd_T85 l1 x5_1).f0) false _ ?s1 ?s2 ?s3 ?s4 A9.out).mono ?_
        (case s1 => exact S.cA HR0.out)
        (case s2 => exact HC0.out)
        (case s3 => exact S.cA HR406_0.out)
        (case s4 => exact HC406_0.out)
        rintro e w19 ⟨rfl, hb⟩
        refine ⟨_, rfl, ?_⟩
        replace HB := S.sA hb
        (try clear hb)
        (try clear hb2)
        (try clear hk)
        (try clear hi)
        refine hK.out _ _ ⟨(S.hb HB hw405_0 :), (S.hb HB hw405_1 :), (S.hb HB hw406_0 :), (S.hb HB hw406_1 :)⟩ (fun hHeld => ?_)
        clear hK K
        refine S.nm 30 ?_
        refine S.pS 15 31 ?_
        refine S.pS 16 32 ?_
        refine S.pS 17 33 ?_
        refine S.pU 18 34 ?_
        refine S.pU 19 35 ?_
        refine S.pU 20 36 ?_
        refine S.pU 21 37 ?_
        refine S.pU 22 38 ?_
        refine S.pU 23 39 ?_
        refine S.pU 24 40 ?_
        refine S.pU 25 41 ?_
        refine S.pU 26 42 ?_
        refine S.pU 27 43 ?_
        refine S.pU 28 44 ?_
        refine S.pU 29 45 ?_
        refine S.pU 30 46 ?_
        refine S.pU 31 47 ?_
        refine S.pS 32 48 ?_
        refine done_ (done_of HT_.out (by kernel_rfl)) ?_
        try go_wp2
        go_ret
        exact ⟨S.eW, S.bA⟩
     ·rw [if_neg c6] at H
      exact absurd H (by simp)
    ·replace H := Option.bind_eq_some_iff.mp H
     obtain ⟨t401, A200, H⟩ := H
     replace H : ((spec_Covers.f k1 l0 t401).bind fun t404 => (some t404)) = some r := H
     have A20 := Aside0.mk A200
     clear A200
     replace H := S.bd H; obtain ⟨t404, A21, H⟩ := H
     (try dsimp only at H)
     obtain rfl := Option.some.inj H
     go_wp2_with (first | ((with_reducible refine gate_callee (f := 102) rfl ?_); refine S.gL (some 51) Try.func102 #[.slice A1 l1.length c1] ?_; (with_reducible refine (spec_l8Stages.calls k1 (fun k_ => k_ < w.heap.size) _ _ l1 t401 _ ?s1 A20.out).mono ?_); (case s1 => exact Kd.V_mk HC1.out (Kd.F_below (Kd.C_F k85_heap HR1.out) S.bA)); rintro e w22 ⟨v402, rfl, ho0, hb⟩; refine ⟨_, rfl, ?_⟩; have HO403 := Aside0.mk (Kd.N_lower (Kd.N_mono (ok' := fun k_ => True) ho0 (fun k_ hk_ => trivial)) (below_size S.bA)); replace HB := S.sA hb; (try clear hb); (try clear ho0); obtain ⟨Ao23, co23, eo23⟩ := Kd.N_slice HO403.out; subst eo23) | ((with_reducible refine gate_callee (f := 101) rfl ?_); refine S.gL (some 52) Try.func101 #[.slice A0 l0.length c0, .slice Ao23 t401.length co23] ?_; (with_reducible refine (spec_Covers.calls k1 _ _ l0 _ _ t401 t404 _ ?s1 HC0.out ?s3 ?s4 A21.out).mono ?_); (case s1 => exact S.cA HR0.out); (case s3 => repeat (first | exact (Kd.N_reads' HO403.out).2.2 | (with_reducible refine Kd.C_alloc ?_ _) | (with_reducible refine Kd.C_drewN ?_ _) | (with_reducible refine Kd.C_drew ?_))); (case s4 => exact (Kd.N_reads' HO403.out).2.1); rintro e w24 ⟨rfl, hb⟩; refine ⟨_, rfl, ?_⟩; replace HO403 := Aside0.mk (Kd.N_below (by (with_reducible repeat (first | apply Kd.N_alloc | apply Kd.N_drewN | apply Kd.N_drew)); exact HO403.out) hb); replace HB := S.sA hb; (try clear hb)))
     go_ret
     exact ⟨S.eW, S.bA⟩
 ·obtain rfl := Option.some.inj H
  go_enter Try.func65, Try.ntmps65
  go_wp2_with (first | ((with_reducible refine gate_callee (f := 58) rfl ?_); refine S.gL (some 8) Try.func58 #[.int .i64 (l1.length : Int), .int .i64 1, .int .i64 6] ?_; (with_reducible refine (spec_l1In.calls (l1.length : Int) 1 6 false _ A3.out).mono ?_); rintro e w' ⟨rfl, ⟨nd, rfl⟩⟩; refine ⟨_, rfl, ?_⟩))
  go_ret
  exact ⟨S.eW, S.bA⟩
end Go.Proofs.Ytjgigmghcfdomaa.PFnWaves
