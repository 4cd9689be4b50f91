/- Printed by a program: what the Go functions compute, as plain Lean functions (.f), and the proofs that the machine's calls come to just that (.calls). -/
import Derived.Test.YtjgigmghcfdomaaPFnExactMakeSwitchx0
import Derived.Test.YtjgigmghcfdomaaPFnExactMakeSwitchx3
import Derived.Test.YtjgigmghcfdomaaPFnExactMakeSwitchx7
import Derived.Test.YtjgigmghcfdomaaPFnExactMakeSwitchx8
namespace Go.Proofs.Ytjgigmghcfdomaa.PFnExactMakeSwitch
open Go.RowKit Go.Proofs.YtjgigmghcfdomaaW.PrintWords Go.Proofs.YtjgigmghcfdomaaW.PrintLast Go.Proofs.YtjgigmghcfdomaaW.PrintMore
attribute [local go_sem] max2_int min2_int max_two min_two max_three min_three max_four min_four   -- for this text's walks alone
set_option linter.unusedVariables false
set_option linter.unusedSimpArgs false

/-! ### spec_IsPlan: function 65 -/
def spec_IsPlan.l0 : Nat → List (S71) → List (S85) → Int → Option (Bool)
 | 0, _, _, _ => none
 | k + 1, x0, x1, x5 => if x5 < (x1.length : Int) then (if 0 ≤ x5 then (if (((rd_T85 x1 x5).f0).length : Int) = 0 then (some false) else ((spec_IsTogether.f k x0 ((rd_T85 x1 x5).f0)).bind fun t219 => (if t219 = true then ((spec_LeastGreen.f k x0 ((rd_T85 x1 x5).f0)).bind fun t222 => ((spec_l1In.f ((rd_T85 x1 x5).f1) t222 60).bind fun t223 => (if t223 = true then (spec_IsPlan.l0 k x0 x1 (wrap64 (x5 + 1))) else (some false)))) else (some false)))) else (none)) else ((spec_l8Stages.f k x1).bind fun t213 => ((spec_Covers.f k x0 t213).bind fun t216 => (some t216)))
def spec_IsPlan.f (k : Nat) (l0 : List (S71)) (l1 : List (S85)) : Option (Bool) := (spec_l1In.f (l1.length : Int) 1 6).bind fun t212 => (if t212 = true then (spec_IsPlan.l0 k l0 l1 0) else (some false))
def spec_IsPlan.T6 : Bool × List (List Nat × List Nat) := (true, [([], []), ([], []), ([0, 1], [0, 1]), ([2], [2]), ([3], [3]), ([4], [4]), ([5], [5]), ([6], [6]), ([7], [7]), ([7], [7]), ([7], [7]), ([9, 10, 7], [7, 9, 10]), ([11, 7], [7, 11]), ([12, 7], [7, 12]), ([8, 13, 7, 7], [7, 8, 13]), ([14, 7], [7, 14]), ([7, 15], [7, 15]), ([16, 14], [16]), ([17], [17]), ([17], [17]), ([18, 19, 17], [17, 18, 19]), ([20, 17], [17, 20]), ([21, 17], [17, 21]), ([17], [17]), ([17], [17]), ([17], [17]), ([24, 25, 17], [17, 24, 25]), ([26, 17], [17, 26]), ([27, 17], [17, 27]), ([23, 28, 17, 17], [17, 23, 28]), ([22, 29, 29, 17], [17, 22, 29]), ([30, 17], [17, 30]), ([17, 31], [17, 31])])
def spec_IsPlan.B6 : List Nat := [0, 0, 3, 7, 15, 31, 63, 127, 255, 255, 255, 1791, 3839, 7935, 16383, 32767, 65535, 131071, 262143, 262143, 1048575, 2097151, 4194303, 262143, 262143, 262143, 50593791, 117702655, 251920383, 528744447, 1073741823, 2147483647, 4294967295]
theorem spec_IsPlan.tab6 : rtab .any (opsOf Try.f65 6) = spec_IsPlan.T6 := by kernel_rfl
theorem spec_IsPlan.bits6 : waitsOk spec_IsPlan.T6.2 spec_IsPlan.B6 = true := by kernel_rfl
set_option maxHeartbeats 8000000 in
set_option maxRecDepth 100000 in
theorem spec_IsPlan.calls (k : Nat) (A0 : Option Addr) (c0 : Nat) (l0 : List (S71)) (A1 : Option Addr) (c1 : Nat) (l1 : List (S85)) (r : Bool) (w : World) (hr0 : Kd.C k71 w A0 l0.length l0) (hc0 : l0.length ≤ c0) (hr1 : Kd.C k85 w A1 l1.length l1) (hc1 : l1.length ≤ c1) (h : spec_IsPlan.f k l0 l1 = some r) :
  Calls Try.prog 65 #[.slice A0 l0.length c0, .slice A1 l1.length c1] w fun e w' => e = .returned (.bool r) ∧ Below w.heap.size w w' := by
 have HR0 := Aside0.mk hr0
 have HC0 := Aside0.mk hc0
 clear hr0 hc0
 have HR1 := Aside0.mk hr1
 have HC1 := Aside0.mk hc1
 clear hr1 hc1
 have HB := Aside0.mk (Below.refl w.heap.size w)
 have H : ((spec_l1In.f (l1.length : Int) 1 6).bind fun t212 => (if t212 = true then (spec_IsPlan.l0 k l0 l1 0) else (some false))) = some r := h
 clear h
 replace H := S.bd H; obtain ⟨t212, A3, H⟩ := H
 (try dsimp only at H)
 replace H := S.db H; rcases H with ⟨rfl, H⟩ | ⟨rfl, H⟩
 ·have H' := Aside0.mk H
  clear H
  go_enter Try.func65, Try.ntmps65
  go_wp2_with (first | ((with_reducible refine gate_callee (f := 58) rfl ?_); refine S.gL (some 8) Try.func58 #[.int .i64 (l1.length : Int), .int .i64 1, .int .i64 6] ?_; (with_reducible refine (spec_l1In.calls (l1.length : Int) 1 6 true _ A3.out).mono ?_); rintro e w' ⟨rfl, ⟨nd, rfl⟩⟩; refine ⟨_, rfl, ?_⟩))
  go_loopg [5] k (fun kq v5 w' => ∃ (x5_1 : Int), v5 = .int .i64 x5_1 ∧ Aside0 (spec_IsPlan.l0 kq l0 l1 x5_1 = some r) ∧ Aside0 (kq ≤ k) ∧ Aside0 (Below w.heap.size w w'))
  case atStart => exact ⟨(0), S.eA, H', ⟨Nat.le_refl _⟩, ⟨S.bA⟩⟩
  case round =>
   clear H'
   try clear c1
   try clear c4
   obtain ⟨x5_1, rfl, HA, HK1, HB⟩ := hrel
   cases gk with
   | zero => exact absurd HA.out (by simp [spec_IsPlan.l0])
   | succ k1 =>
    have H := HA.out
    clear HA
    simp only [spec_IsPlan.l0] at H
    replace H := S.dc H; rcases H with ⟨H, c5b0⟩ | ⟨H, c5b0⟩
    ·by_cases c6 : 0 ≤ x5_1
     ·rw [if_pos c6] at H
      have c6b0 : decide (0 ≤ x5_1) = true := decide_eq_true c6
      clear c6
      by_cases c7 : (((rd_T85 l1 x5_1).f0).length : Int) = 0
      ·rw [if_pos c7] at H
       have c7b0 : ((((rd_T85 l1 x5_1).f0).length : Int) == 0) = true := beq_iff_eq.mpr c7
       have c7b1 : ((((rd_T85 l1 x5_1).f0).length : Int) != 0) = false := bne_eq_false_iff_eq.mpr c7
       clear c7
       obtain rfl := Option.some.inj H
       try go_wp2
       replace HB := Aside0.mk (below_drew1 HB.out)
       have p217 : 0 ≤ (x5_1 : Int) := S.oD
       have q217 : x5_1 < (l1.length : Int) := S.oD
       obtain ⟨ad217, A217_0, c217_0, e217, hx217_0, hx217_1, hl217_0, hi217_0⟩ := at_T85 HR1.out x5_1 p217 q217
       have hw217_1 := hx217_1
       have hw217_0 := hx217_0
       cases e217
       replace hx217_0 := S.hb HB hx217_0
       replace hx217_1 := S.hb HB hx217_1
       have HR217_0 := Aside0.mk hi217_0
       have HC217_0 := Aside0.mk hl217_0
       clear hi217_0 hl217_0
       replace p217 := eq_true p217
       replace q217 := eq_true q217
       refine S.st (n := 33) (ds := []) #[false, false, false, false, false, false, false, false, false, false, false, false, false, false, false, false, false, false, false, false, false, false, false, false, false, false, false, false, false, false, false, false, false] (fun w_ h_ => have x_ := And.intro (S.q h_ (S.hb HB hw217_0)) (S.q h_ (S.hb HB hw217_1)); x_) (fun hHeld => ?_); refine with_tabW spec_IsPlan.tab6 spec_IsPlan.bits6 (fun HT_ HW_ => ?_)
       generalize wr.drew = w8 at HB HR217_0 hx217_0 hx217_1 hHeld ⊢
       refine S.pS 0 16 ?_
       refine S.pS 1 17 ?_
       refine S.pS 2 18 ?_
       refine S.pS 3 19 ?_
       refine S.tK 4 20 #[true, true, true, true, true, false, false, false, false, false, false, false, false, false, false, false, false, false, false, false, false, false, false, false, false, false, false, false, false, false, false, false, false] ?_
       refine S.pS 5 21 ?_
       refine S.pS 6 22 ?_
       refine S.pS 7 23 ?_
       refine S.pU 8 24 ?_
       refine S.pU 9 25 ?_
       refine S.pU 10 26 ?_
       refine S.pU 11 27 ?_
       refine S.pU 12 28 ?_
       refine S.pU 13 29 ?_
       refine S.pU 14 30 ?_
       refine S.pU 15 31 ?_
       refine S.pS 16 32 ?_
       refine S.pS 17 33 ?_
       refine S.pU 18 34 ?_
       refine S.pU 19 35 ?_
       refine S.pU 20 36 ?_
       refine S.pU 21 37 ?_
       refine S.pU 22 38 ?_
       refine S.pU 23 39 ?_
       refine S.pU 24 40 ?_
       refine S.pU 25 41 ?_
       refine S.pU 26 42 ?_
       refine S.pU 27 43 ?_
       refine S.pU 28 44 ?_
       refine S.pU 29 45 ?_
       refine S.pU 30 46 ?_
       refine S.pU 31 47 ?_
       refine S.pS 32 48 ?_
       refine done_ (done_of HT_.out (by kernel_rfl)) ?_
       try go_wp2
       go_ret
       exact ⟨S.eW, S.bA⟩
      ·rw [if_neg c7] at H
       have c7b0 : ((((rd_T85 l1 x5_1).f0).length : Int) == 0) = false := beq_eq_false_iff_ne.mpr c7
       have c7b1 : ((((rd_T85 l1 x5_1).f0).length : Int) != 0) = true := bne_iff_ne.mpr c7
       have c7b2 : ¬ (((rd_T85 l1 x5_1).f0) = []) := fun h_ => c7 (by rw [h_]; rfl)
       replace H := S.bd H; obtain ⟨t219, A9, H⟩ := H
       (try dsimp only at H)
       replace H := S.db H; rcases H with ⟨rfl, H⟩ | ⟨rfl, H⟩
       ·replace H := S.bd H; obtain ⟨t222, A11, H⟩ := H
        (try dsimp only at H)
        replace H := S.bd H; obtain ⟨t223, A12, H⟩ := H
        (try dsimp only at H)
        replace H := S.db H; rcases H with ⟨rfl, H⟩ | ⟨rfl, H⟩
        ·have H' := Aside0.mk H
         clear H
         try go_wp2
         replace HB := Aside0.mk (below_drew1 HB.out)
         have p217 : 0 ≤ (x5_1 : Int) := S.oD
         have q217 : x5_1 < (l1.length : Int) := S.oD
         obtain ⟨ad217, A217_0, c217_0, e217, hx217_0, hx217_1, hl217_0, hi217_0⟩ := at_T85 HR1.out x5_1 p217 q217
         have hw217_1 := hx217_1
         have hw217_0 := hx217_0
         cases e217
         replace hx217_0 := S.hb HB hx217_0
         replace hx217_1 := S.hb HB hx217_1
         have HR217_0 := Aside0.mk hi217_0
         have HC217_0 := Aside0.mk hl217_0
         clear hi217_0 hl217_0
         replace p217 := eq_true p217
         replace q217 := eq_true q217
         have p218 : 0 ≤ (x5_1 : Int) := S.oD
         have q218 : x5_1 < (l1.length : Int) := S.oD
         obtain ⟨ad218, A218_0, c218_0, e218, hx218_0, hx218_1, hl218_0, hi218_0⟩ := at_T85 HR1.out x5_1 p218 q218
         have hw218_1 := hx218_1
         have hw218_0 := hx218_0
         obtain rfl : ad217 = ad218 := (by injection e218)
         replace hx218_0 := S.hb HB hx218_0
         replace hx218_1 := S.hb HB hx218_1
         have HR218_0 := Aside0.mk hi218_0
         have HC218_0 := Aside0.mk hl218_0
         clear hi218_0 hl218_0
         replace p218 := eq_true p218
         replace q218 := eq_true q218
         have ea_ := Option.some.inj (hx217_0.symm.trans hx218_0)
         injection ea_ with ea_ en_ ec_
         subst ea_
         subst ec_
         clear en_
         have p220 : 0 ≤ (x5_1 : Int) := S.oD
         have q220 : x5_1 < (l1.length : Int) := S.oD
         obtain ⟨ad220, A220_0, c220_0, e220, hx220_0, hx220_1, hl220_0, hi220_0⟩ := at_T85 HR1.out x5_1 p220 q220
         have hw220_1 := hx220_1
         have hw220_0 := hx220_0
         obtain rfl : ad217 = ad220 := (by injection e220)
         replace hx220_0 := S.hb HB hx220_0
         replace hx220_1 := S.hb HB hx220_1
         have HR220_0 := Aside0.mk hi220_0
         have HC220_0 := Aside0.mk hl220_0
         clear hi220_0 hl220_0
         replace p220 := eq_true p220
         replace q220 := eq_true q220
         have ea_ := Option.some.inj (hx217_0.symm.trans hx220_0)
         injection ea_ with ea_ en_ ec_
         subst ea_
         subst ec_
         clear en_
         have p221 : 0 ≤ (x5_1 : Int) := S.oD
         have q221 : x5_1 < (l1.length : Int) := S.oD
         obtain ⟨ad221, A221_0, c221_0, e221, hx221_0, hx221_1, hl221_0, hi221_0⟩ := at_T85 HR1.out x5_1 p221 q221
         have hw221_1 := hx221_1
         have hw221_0 := hx221_0
         obtain rfl : ad217 = ad221 := (by injection e221)
         replace hx221_0 := S.hb HB hx221_0
         replace hx221_1 := S.hb HB hx221_1
         have HR221_0 := Aside0.mk hi221_0
         have HC221_0 := Aside0.mk hl221_0
         clear hi221_0 hl221_0
         replace p221 := eq_true p221
         replace q221 := eq_true q221
         have ea_ := Option.some.inj (hx217_0.symm.trans hx221_0)
         injection ea_ with ea_ en_ ec_
         subst ea_
         subst ec_
         clear en_
         refine S.st (n := 33) (ds := []) #[false, false, false, false, false, false, false, false, false, false, false, false, false, false, false, false, false, false, false, false, false, false, false, false, false, false, false, false, false, false, false, false, false] (fun w_ h_ => have x_ := And.intro (S.q h_ (S.hb HB hw217_0)) (And.intro (S.q h_ (S.hb HB hw217_1)) (And.intro (S.q h_ (S.hb HB hw218_0)) (And.intro (S.q h_ (S.hb HB hw218_1)) (And.intro (S.q h_ (S.hb HB hw220_0)) (And.intro (S.q h_ (S.hb HB hw220_1)) (And.intro (S.q h_ (S.hb HB hw221_0)) (S.q h_ (S.hb HB hw221_1)))))))); x_) (fun hHeld => ?_); refine with_tabW spec_IsPlan.tab6 spec_IsPlan.bits6 (fun HT_ HW_ => ?_)
         generalize wr.drew = w14 at HB HR217_0 HR218_0 HR220_0 HR221_0 hx217_0 hx217_1 hx218_0 hx218_1 hx220_0 hx220_1 hx221_0 hx221_1 hHeld ⊢
         refine S.pS 0 16 ?_
         refine S.pS 1 17 ?_
         refine S.pS 2 18 ?_
         refine S.pS 3 19 ?_
         refine S.tK 4 20 #[true, true, true, true, true, false, false, false, false, false, false, false, false, false, false, false, false, false, false, false, false, false, false, false, false, false, false, false, false, false, false, false, false] ?_
         refine S.pS 5 21 ?_
         refine S.pS 6 22 ?_
         refine S.pS 7 23 ?_
         refine S.pS 8 24 ?_
         refine S.pS 9 25 ?_
         refine S.pS 10 26 ?_
         refine S.pS 11 27 ?_
         refine S.pS 12 28 ?_
         refine S.tK 13 29 #[true, true, true, true, true, true, true, true, true, true, true, true, true, true, false, false, false, false, false, false, false, false, false, false, false, false, false, false, false, false, false, false, false] ?_
         refine S.oN 14 30 #[true, true, true, true, true, true, true, true, true, true, true, true, true, true, true, false, false, false, false, false, false, false, false, false, false, false, false, false, false, false, false, false, false] (fun K hK => ?_)
         refine S.go Try.func99 #[.slice A0 l0.length c0, .slice A217_0 ((rd_T85 l1 x5_1).f0).length c217_0] ?_
         with_reducible refine (spec_IsTogether.calls k1 _ _ l0 _ _ ((rd_T85 l1 x5_1).f0) true _ ?s1 ?s2 ?s3 ?s4 A9.out).mono ?_
         (case s1 => exact S.cA HR0.out)
         (case s2 => exact HC0.out)
         (case s3 => exact S.cA HR218_0.out)
         (case s4 => exact HC218_0.out)
         rintro e w15 ⟨rfl, hb⟩
         refine ⟨_, rfl, ?_⟩
         replace HB := S.sA hb
         (try clear hb)
         (try clear hb2)
         (try clear hk)
         (try clear hi)
         refine hK.out _ _ ⟨(S.hb HB hw217_0 :), (S.hb HB hw217_1 :), (S.hb HB hw218_0 :), (S.hb HB hw218_1 :), (S.hb HB hw220_0 :), (S.hb HB hw220_1 :), (S.hb HB hw221_0 :), (S.hb HB hw221_1 :)⟩ (fun hHeld => ?_)
         clear hK K
         refine S.nm 30 ?_
         refine S.pS 15 31 ?_
         refine S.pS 16 32 ?_
         refine S.pS 17 33 ?_
         refine S.pS 18 34 ?_
         refine S.pS 19 35 ?_
         refine S.pS 20 36 ?_
         refine S.pS 21 37 ?_
         refine S.pS 23 39 ?_
         refine S.pS 24 40 ?_
         refine S.pS 25 41 ?_
         refine S.pS 26 42 ?_
         refine S.pS 27 43 ?_
         refine S.tK 22 38 #[true, true, true, true, true, true, true, true, true, true, true, true, true, true, true, true, true, true, true, true, true, true, true, true, true, true, true, true, false, false, false, false, false] ?_
         refine S.tK 28 44 #[true, true, true, true, true, true, true, true, true, true, true, true, true, true, true, true, true, true, true, true, true, true, true, true, true, true, true, true, true, false, false, false, false] ?_
         refine S.oN 29 45 #[true, true, true, true, true, true, true, true, true, true, true, true, true, true, true, true, true, true, true, true, true, true, true, true, true, true, true, true, true, true, false, false, false] (fun K hK => ?_)
         refine S.go Try.func100 #[.slice A0 l0.length c0, .slice A217_0 ((rd_T85 l1 x5_1).f0).length c217_0] ?_
         with_reducible refine (spec_LeastGreen.calls k1 _ _ l0 _ _ ((rd_T85 l1 x5_1).f0) t222 _ ?s1 ?s2 ?s3 ?s4 A11.out).mono ?_
         (case s1 => exact S.cA HR0.out)
         (case s2 => exact HC0.out)
         (case s3 => exact S.cA HR221_0.out)
         (case s4 => exact HC221_0.out)
         rintro e w' ⟨rfl, ⟨nd, rfl⟩⟩
         refine ⟨_, rfl, ?_⟩
         refine hK.out _ _ ⟨(S.hb HB hw217_0 :), (S.hb HB hw217_1 :), (S.hb HB hw218_0 :), (S.hb HB hw218_1 :), (S.hb HB hw220_0 :), (S.hb HB hw220_1 :), (S.hb HB hw221_0 :), (S.hb HB hw221_1 :)⟩ (fun hHeld => ?_)
         clear hK K
         refine S.nm 45 ?_
         refine S.oN 30 46 #[true, true, true, true, true, true, true, true, true, true, true, true, true, true, true, true, true, true, true, true, true, true, true, true, true, true, true, true, true, true, true, false, false] (fun K hK => ?_)
         refine S.go Try.func58 #[.int .i64 ((rd_T85 l1 x5_1).f1), .int .i64 t222, .int .i64 60] ?_
         with_reducible refine (spec_l1In.calls ((rd_T85 l1 x5_1).f1) t222 60 true _ A12.out).mono ?_
         rintro e w' ⟨rfl, ⟨nd, rfl⟩⟩
         refine ⟨_, rfl, ?_⟩
         refine hK.out _ _ ⟨(S.hb HB hw217_0 :), (S.hb HB hw217_1 :), (S.hb HB hw218_0 :), (S.hb HB hw218_1 :), (S.hb HB hw220_0 :), (S.hb HB hw220_1 :), (S.hb HB hw221_0 :), (S.hb HB hw221_1 :)⟩ (fun hHeld => ?_)
         clear hK K
         refine S.nm 46 ?_
         refine S.pS 31 47 ?_
         refine S.pS 32 48 ?_
         refine done_ (done_of HT_.out (by kernel_rfl)) ?_
         try go_wp2
         go_roundg k1
         case measure => have := HK1.out; omega
         case rel => exact ⟨(wrap64 (x5_1 + 1)), S.eA, H', ⟨by have := HK1.out; omega⟩, ⟨S.bA⟩⟩
        ·obtain rfl := Option.some.inj H
         try go_wp2
         replace HB := Aside0.mk (below_drew1 HB.out)
         have p217 : 0 ≤ (x5_1 : Int) := S.oD
         have q217 : x5_1 < (l1.length : Int) := S.oD
         obtain ⟨ad217, A217_0, c217_0, e217, hx217_0, hx217_1, hl217_0, hi217_0⟩ := at_T85 HR1.out x5_1 p217 q217
         have hw217_1 := hx217_1
         have hw217_0 := hx217_0
         cases e217
         replace hx217_0 := S.hb HB hx217_0
         replace hx217_1 := S.hb HB hx217_1
         have HR217_0 := Aside0.mk hi217_0
         have HC217_0 := Aside0.mk hl217_0
         clear hi217_0 hl217_0
         replace p217 := eq_true p217
         replace q217 := eq_true q217
         have p218 : 0 ≤ (x5_1 : Int) := S.oD
         have q218 : x5_1 < (l1.length : Int) := S.oD
         obtain ⟨ad218, A218_0, c218_0, e218, hx218_0, hx218_1, hl218_0, hi218_0⟩ := at_T85 HR1.out x5_1 p218 q218
         have hw218_1 := hx218_1
         have hw218_0 := hx218_0
         obtain rfl : ad217 = ad218 := (by injection e218)
         replace hx218_0 := S.hb HB hx218_0
         replace hx218_1 := S.hb HB hx218_1
         have HR218_0 := Aside0.mk hi218_0
         have HC218_0 := Aside0.mk hl218_0
         clear hi218_0 hl218_0
         replace p218 := eq_true p218
         replace q218 := eq_true q218
         have ea_ := Option.some.inj (hx217_0.symm.trans hx218_0)
         injection ea_ with ea_ en_ ec_
         subst ea_
         subst ec_
         clear en_
         have p220 : 0 ≤ (x5_1 : Int) := S.oD
         have q220 : x5_1 < (l1.length : Int) := S.oD
         obtain ⟨ad220, A220_0, c220_0, e220, hx220_0, hx220_1, hl220_0, hi220_0⟩ := at_T85 HR1.out x5_1 p220 q220
         have hw220_1 := hx220_1
         have hw220_0 := hx220_0
         obtain rfl : ad217 = ad220 := (by injection e220)
         replace hx220_0 := S.hb HB hx220_0
         replace hx220_1 := S.hb HB hx220_1
         have HR220_0 := Aside0.mk hi220_0
         have HC220_0 := Aside0.mk hl220_0
         clear hi220_0 hl220_0
         replace p220 := eq_true p220
         replace q220 := eq_true q220
         have ea_ := Option.some.inj (hx217_0.symm.trans hx220_0)
         injection ea_ with ea_ en_ ec_
         subst ea_
         subst ec_
         clear en_
         have p221 : 0 ≤ (x5_1 : Int) := S.oD
         have q221 : x5_1 < (l1.length : Int) := S.oD
         obtain ⟨ad221, A221_0, c221_0, e221, hx221_0, hx221_1, hl221_0, hi221_0⟩ := at_T85 HR1.out x5_1 p221 q221
         have hw221_1 := hx221_1
         have hw221_0 := hx221_0
         obtain rfl : ad217 = ad221 := (by injection e221)
         replace hx221_0 := S.hb HB hx221_0
         replace hx221_1 := S.hb HB hx221_1
         have HR221_0 := Aside0.mk hi221_0
         have HC221_0 := Aside0.mk hl221_0
         clear hi221_0 hl221_0
         replace p221 := eq_true p221
         replace q221 := eq_true q221
         have ea_ := Option.some.inj (hx217_0.symm.trans hx221_0)
         injection ea_ with ea_ en_ ec_
         subst ea_
         subst ec_
         clear en_
         refine S.st (n := 33) (ds := []) #[false, false, false, false, false, false, false, false, false, false, false, false, false, false, false, false, false, false, false, false, false, false, false, false, false, false, false, false, false, false, false, false, false] (fun w_ h_ => have x_ := And.intro (S.q h_ (S.hb HB hw217_0)) (And.intro (S.q h_ (S.hb HB hw217_1)) (And.intro (S.q h_ (S.hb HB hw218_0)) (And.intro (S.q h_ (S.hb HB hw218_1)) (And.intro (S.q h_ (S.hb HB hw220_0)) (And.intro (S.q h_ (S.hb HB hw220_1)) (And.intro (S.q h_ (S.hb HB hw221_0)) (S.q h_ (S.hb HB hw221_1)))))))); x_) (fun hHeld => ?_); refine with_tabW spec_IsPlan.tab6 spec_IsPlan.bits6 (fun HT_ HW_ => ?_)
         generalize wr.drew = w16 at HB HR217_0 HR218_0 HR220_0 HR221_0 hx217_0 hx217_1 hx218_0 hx218_1 hx220_0 hx220_1 hx221_0 hx221_1 hHeld ⊢
         refine S.pS 0 16 ?_
         refine S.pS 1 17 ?_
         refine S.pS 2 18 ?_
         refine S.pS 3 19 ?_
         refine S.tK 4 20 #[true, true, true, true, true, false, false, false, false, false, false, false, false, false, false, false, false, false, false, false, false, false, false, false, false, false, false, false, false, false, false, false, false] ?_
         refine S.pS 5 21 ?_
         refine S.pS 6 22 ?_
         refine S.pS 7 23 ?_
         refine S.pS 8 24 ?_
         refine S.pS 9 25 ?_
         refine S.pS 10 26 ?_
         refine S.pS 11 27 ?_
         refine S.pS 12 28 ?_
         refine S.tK 13 29 #[true, true, true, true, true, true, true, true, true, true, true, true, true, true, false, false, false, false, false, false, false, false, false, false, false, false, false, false, false, false, false, false, false] ?_
         refine S.oN 14 30 #[true, true, true, true, true, true, true, true, true, true, true, true, true, true, true, false, false, false, false, false, false, false, false, false, false, false, false, false, false, false, false, false, false] (fun K hK => ?_)
         refine S.go Try.func99 #[.slice A0 l0.length c0, .slice A217_0 ((rd_T85 l1 x5_1).f0).length c217_0] ?_
         with_reducible refine (spec_IsTogether.calls k1 _ _ l0 _ _ ((rd_T85 l1 x5_1).f0) true _ ?s1 ?s2 ?s3 ?s4 A9.out).mono ?_
         (case s1 => exact S.cA HR0.out)
         (case s2 => exact HC0.out)
         (case s3 => exact S.cA HR218_0.out)
         (case s4 => exact HC218_0.out)
         rintro e w17 ⟨rfl, hb⟩
         refine ⟨_, rfl, ?_⟩
         replace HB := S.sA hb
         (try clear hb)
         (try clear hb2)
         (try clear hk)
         (try clear hi)
         refine hK.out _ _ ⟨(S.hb HB hw217_0 :), (S.hb HB hw217_1 :), (S.hb HB hw218_0 :), (S.hb HB hw218_1 :), (S.hb HB hw220_0 :), (S.hb HB hw220_1 :), (S.hb HB hw221_0 :), (S.hb HB hw221_1 :)⟩ (fun hHeld => ?_)
         clear hK K
         refine S.nm 30 ?_
         refine S.pS 15 31 ?_
         refine S.pS 16 32 ?_
         refine S.pS 17 33 ?_
         refine S.pS 18 34 ?_
         refine S.pS 19 35 ?_
         refine S.pS 20 36 ?_
         refine S.pS 21 37 ?_
         refine S.pS 23 39 ?_
         refine S.pS 24 40 ?_
         refine S.pS 25 41 ?_
         refine S.pS 26 42 ?_
         refine S.pS 27 43 ?_
         refine S.tK 22 38 #[true, true, true, true, true, true, true, true, true, true, true, true, true, true, true, true, true, true, true, true, true, true, true, true, true, true, true, true, false, false, false, false, false] ?_
         refine S.tK 28 44 #[true, true, true, true, true, true, true, true, true, true, true, true, true, true, true, true, true, true, true, true, true, true, true, true, true, true, true, true, true, false, false, false, false] ?_
         refine S.oN 29 45 #[true, true, true, true, true, true, true, true, true, true, true, true, true, true, true, true, true, true, true, true, true, true, true, true, true, true, true, true, true, true, false, false, false] (fun K hK => ?_)
         refine S.go Try.func100 #[.slice A0 l0.length c0, .slice A217_0 ((rd_T85 l1 x5_1).f0).length c217_0] ?_
         with_reducible refine (spec_LeastGreen.calls k1 _ _ l0 _ _ ((rd_T85 l1 x5_1).f0) t222 _ ?s1 ?s2 ?s3 ?s4 A11.out).mono ?_
         (case s1 => exact S.cA HR0.out)
         (case s2 => exact HC0.out)
         (case s3 => exact S.cA HR221_0.out)
         (case s4 => exact HC221_0.out)
         rintro e w' ⟨rfl, ⟨nd, rfl⟩⟩
         refine ⟨_, rfl, ?_⟩
         refine hK.out _ _ ⟨(S.hb HB hw217_0 :), (S.hb HB hw217_1 :), (S.hb HB hw218_0 :), (S.hb HB hw218_1 :), (S.hb HB hw220_0 :), (S.hb HB hw220_1 :), (S.hb HB hw221_0 :), (S.hb HB hw221_1 :)⟩ (fun hHeld => ?_)
         clear hK K
         refine S.nm 45 ?_
         refine S.oN 30 46 #[true, true, true, true, true, true, true, true, true, true, true, true, true, true, true, true, true, true, true, true, true, true, true, true, true, true, true, true, true, true, true, false, false] (fun K hK => ?_)
         refine S.go Try.func58 #[.int .i64 ((rd_T85 l1 x5_1).f1), .int .i64 t222, .int .i64 60] ?_
         with_reducible refine (spec_l1In.calls ((rd_T85 l1 x5_1).f1) t222 60 false _ A12.out).mono ?_
         rintro e w' ⟨rfl, ⟨nd, rfl⟩⟩
         refine ⟨_, rfl, ?_⟩
         refine hK.out _ _ ⟨(S.hb HB hw217_0 :), (S.hb HB hw217_1 :), (S.hb HB hw218_0 :), (S.hb HB hw218_1 :), (S.hb HB hw220_0 :), (S.hb HB hw220_1 :), (S.hb HB hw221_0 :), (S.hb HB hw221_1 :)⟩ (fun hHeld => ?_)
         clear hK K
         refine S.nm 46 ?_
         refine S.pS 31 47 ?_
         refine S.pS 32 48 ?_
         refine done_ (done_of HT_.out (by kernel_rfl)) ?_
         try go_wp2
         go_ret
         exact ⟨S.eW, S.bA⟩
       ·obtain rfl := Option.some.inj H
        try go_wp2
        replace HB := Aside0.mk (below_drew1 HB.out)
        have p217 : 0 ≤ (x5_1 : Int) := S.oD
        have q217 : x5_1 < (l1.length : Int) := S.oD
        obtain ⟨ad217, A217_0, c217_0, e217, hx217_0, hx217_1, hl217_0, hi217_0⟩ := at_T85 HR1.out x5_1 p217 q217
        have hw217_1 := hx217_1
        have hw217_0 := hx217_0
        cases e217
        replace hx217_0 := S.hb HB hx217_0
        replace hx217_1 := S.hb HB hx217_1
        have HR217_0 := Aside0.mk hi217_0
        have HC217_0 := Aside0.mk hl217_0
        clear hi217_0 hl217_0
        replace p217 := eq_true p217
        replace q217 := eq_true q217
        have p218 : 0 ≤ (x5_1 : Int) := S.oD
        have q218 : x5_1 < (l1.length : Int) := S.oD
        obtain ⟨ad218, A218_0, c218_0, e218, hx218_0, hx218_1, hl218_0, hi218_0⟩ := at_T85 HR1.out x5_1 p218 q218
        have hw218_1 := hx218_1
        have hw218_0 := hx218_0
        obtain rfl : ad217 = ad218 := (by injection e218)
        replace hx218_0 := S.hb HB hx218_0
        replace hx218_1 := S.hb HB hx218_1
        have HR218_0 := Aside0.mk hi218_0
        have HC218_0 := Aside0.mk hl218_0
        clear hi218_0 hl218_0
        replace p218 := eq_true p218
        replace q218 := eq_true q218
        have ea_ := Option.some.inj (hx217_0.symm.trans hx218_0)
        injection ea_ with ea_ en_ ec_
        subst ea_
        subst ec_
        clear en_
        refine S.st (n := 33) (ds := []) #[false, false, false, false, false, false, false, false, false, false, false, false, false, false, false, false, false, false, false, false, false, false, false, false, false, false, false, false, false, false, false, false, false] (fun w_ h_ => have x_ := And.intro (S.q h_ (S.hb HB hw217_0)) (And.intro (S.q h_ (S.hb HB hw217_1)) (And.intro (S.q h_ (S.hb HB hw218_0)) (S.q h_ (S.hb HB hw218_1)))); x_) (fun hHeld => ?_); refine with_tabW spec_IsPlan.tab6 spec_IsPlan.bits6 (fun HT_ HW_ => ?_)
        generalize wr.drew = w18 at HB HR217_0 HR218_0 hx217_0 hx217_1 hx218_0 hx218_1 hHeld ⊢
        refine S.pS 0 16 ?_
        refine S.pS 1 17 ?_
        refine S.pS 2 18 ?_
        refine S.pS 3 19 ?_
        refine S.tK 4 20 #[true, true, true, true, true, false, false, false, false, false, false, false, false, false, false, false, false, false, false, false, false, false, false, false, false, false, false, false, false, false, false, false, false] ?_
        refine S.pS 5 21 ?_
        refine S.pS 6 22 ?_
        refine S.pS 7 23 ?_
        refine S.pS 8 24 ?_
        refine S.pS 9 25 ?_
        refine S.pS 10 26 ?_
        refine S.pS 11 27 ?_
        refine S.pS 12 28 ?_
        refine S.tK 13 29 #[true, true, true, true, true, true, true, true, true, true, true, true, true, true, false, false, false, false, false, false, false, false, false, false, false, false, false, false, false, false, false, false, false] ?_
        refine S.oN 14 30 #[true, true, true, true, true, true, true, true, true, true, true, true, true, true, true, false, false, false, false, false, false, false, false, false, false, false, false, false, false, false, false, false, false] (fun K hK => ?_)
        refine S.go Try.func99 #[.slice A0 l0.length c0, .slice A217_0 ((rd_T85 l1 x5_1).f0).length c217_0] ?_
        with_reducible refine (spec_IsTogether.calls k1 _ _ l0 _ _ ((rd_T85 l1 x5_1).f0) false _ ?s1 ?s2 ?s3 ?s4 A9.out).mono ?_
        (case s1 => exact S.cA HR0.out)
        (case s2 => exact HC0.out)
        (case s3 => exact S.cA HR218_0.out)
        (case s4 => exact HC218_0.out)
        rintro e w19 ⟨rfl, hb⟩
        refine ⟨_, rfl, ?_⟩
        replace HB := S.sA hb
        (try clear hb)
        (try clear hb2)
        (try clear hk)
        (try clear hi)
        refine hK.out _ _ ⟨(S.hb HB hw217_0 :), (S.hb HB hw217_1 :), (S.hb HB hw218_0 :), (S.hb HB hw218_1 :)⟩ (fun hHeld => ?_)
        clear hK K
        refine S.nm 30 ?_
        refine S.pS 15 31 ?_
        refine S.pS 16 32 ?_
        refine S.pS 17 33 ?_
        refine S.pU 18 34 ?_
        refine S.pU 19 35 ?_
        refine S.pU 20 36 ?_
        refine S.pU 21 37 ?_
        refine S.pU 22 38 ?_
        refine S.pU 23 39 ?_
        refine S.pU 24 40 ?_
        refine S.pU 25 41 ?_
        refine S.pU 26 42 ?_
        refine S.pU 27 43 ?_
        refine S.pU 28 44 ?_
        refine S.pU 29 45 ?_
        refine S.pU 30 46 ?_
        refine S.pU 31 47 ?_
        refine S.pS 32 48 ?_
        refine done_ (done_of HT_.out (by kernel_rfl)) ?_
        try go_wp2
        go_ret
        exact ⟨S.eW, S.bA⟩
     ·rw [if_neg c6] at H
      exact absurd H (by simp)
    ·replace H := Option.bind_eq_some_iff.mp H
     obtain ⟨t213, A200, H⟩ := H
     replace H : ((spec_Covers.f k1 l0 t213).bind fun t216 => (some t216)) = some r := H
     have A20 := Aside0.mk A200
     clear A200
     replace H := S.bd H; obtain ⟨t216, A21, H⟩ := H
     (try dsimp only at H)
     obtain rfl := Option.some.inj H
     go_wp2_with (first | ((with_reducible refine gate_callee (f := 102) rfl ?_); refine S.gL (some 51) Try.func102 #[.slice A1 l1.length c1] ?_; (with_reducible refine (spec_l8Stages.calls k1 (fun k_ => k_ < w.heap.size) _ _ l1 t213 _ ?s1 A20.out).mono ?_); (case s1 => exact Kd.V_mk HC1.out (Kd.F_below (Kd.C_F k85_heap HR1.out) S.bA)); rintro e w22 ⟨v214, rfl, ho0, hb⟩; refine ⟨_, rfl, ?_⟩; have HO215 := Aside0.mk (Kd.N_lower (Kd.N_mono (ok' := fun k_ => True) ho0 (fun k_ hk_ => trivial)) (below_size S.bA)); replace HB := S.sA hb; (try clear hb); (try clear ho0); obtain ⟨Ao23, co23, eo23⟩ := Kd.N_slice HO215.out; subst eo23) | ((with_reducible refine gate_callee (f := 101) rfl ?_); refine S.gL (some 52) Try.func101 #[.slice A0 l0.length c0, .slice Ao23 t213.length co23] ?_; (with_reducible refine (spec_Covers.calls k1 _ _ l0 _ _ t213 t216 _ ?s1 HC0.out ?s3 ?s4 A21.out).mono ?_); (case s1 => exact S.cA HR0.out); (case s3 => repeat (first | exact (Kd.N_reads' HO215.out).2.2 | (with_reducible refine Kd.C_alloc ?_ _) | (with_reducible refine Kd.C_drewN ?_ _) | (with_reducible refine Kd.C_drew ?_))); (case s4 => exact (Kd.N_reads' HO215.out).2.1); rintro e w24 ⟨rfl, hb⟩; refine ⟨_, rfl, ?_⟩; replace HO215 := Aside0.mk (Kd.N_below (by (with_reducible repeat (first | apply Kd.N_alloc | apply Kd.N_drewN | apply Kd.N_drew)); exact HO215.out) hb); replace HB := S.sA hb; (try clear hb)))
     go_ret
     exact ⟨S.eW, S.bA⟩
 ·obtain rfl := Option.some.inj H
  go_enter Try.func65, Try.ntmps65
  go_wp2_with (first | ((with_reducible refine gate_callee (f := 58) rfl ?_); refine S.gL (some 8) Try.func58 #[.int .i64 (l1.length : Int), .int .i64 1, .int .i64 6] ?_; (with_reducible refine (spec_l1In.calls (l1.length : Int) 1 6 false _ A3.out).mono ?_); rintro e w' ⟨rfl, ⟨nd, rfl⟩⟩; refine ⟨_, rfl, ?_⟩))
  go_ret
  exact ⟨S.eW, S.bA⟩

end Go.Proofs.Ytjgigmghcfdomaa.PFnExactMakeSwitch
