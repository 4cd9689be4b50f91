/- Printed by a program: what the Go functions compute, as plain Lean functions (.f), and the proofs that the machine's calls come to just that (.calls). -/
import Derived.Test.YtjgigmghcfdomaaPFnSwitchedx0
import Derived.Test.YtjgigmghcfdomaaPFnSwitchedx5
import Derived.Test.YtjgigmghcfdomaaPFnSwitchedx7
namespace Go.Proofs.Ytjgigmghcfdomaa.PFnSwitched
open Go.RowKit Go.Proofs.YtjgigmghcfdomaaW.PrintWords Go.Proofs.YtjgigmghcfdomaaW.PrintLast Go.Proofs.YtjgigmghcfdomaaW.PrintMore
attribute [local go_sem] max2_int min2_int max_two min_two max_three min_three max_four min_four   -- for this text's walks alone
set_option linter.unusedVariables false
set_option linter.unusedSimpArgs false
set_option maxHeartbeats 8000000
set_option maxRecDepth 100000
/-! ### spec_IsPlan: function 65 -/
def spec_IsPlan.l0 : Nat → List (S71) → List (S85) → Int → Option (Bool)
 | 0, _, _, _ => none
 | k + 1, x0, x1, x5 => if x5 < (x1.length : Int) then (if 0 ≤ x5 then (if (((rd_T85 x1 x5).f0).length : Int) = 0 then (some false) else ((spec_IsTogether.f k x0 ((rd_T85 x1 x5).f0)).bind fun t389 => (if t389 = true then ((spec_LeastGreen.f k x0 ((rd_T85 x1 x5).f0)).bind fun t392 => ((spec_l1In.f ((rd_T85 x1 x5).f1) t392 60).bind fun t393 => (if t393 = true then (spec_IsPlan.l0 k x0 x1 (wrap64 (x5 + 1))) else (some false)))) else (some false)))) else (none)) else ((spec_l8Stages.f k x1).bind fun t383 => ((spec_Covers.f k x0 t383).bind fun t386 => (some t386)))
def spec_IsPlan.f (k : Nat) (l0 : List (S71)) (l1 : List (S85)) : Option (Bool) := (spec_l1In.f (l1.length : Int) 1 6).bind fun t382 => (if t382 = true then (spec_IsPlan.l0 k l0 l1 0) else (some false))
def spec_IsPlan.T6 : Bool × List (List Nat × List Nat) := (true, [([], []), ([], []), ([0, 1], [0, 1]), ([2], [2]), ([3], [3]), ([4], [4]), ([5], [5]), ([6], [6]), ([7], [7]), ([7], [7]), ([7], [7]), ([9, 10, 7], [7, 9, 10]), ([11, 7], [7, 11]), ([12, 7], [7, 12]), ([8, 13, 7, 7], [7, 8, 13]), ([14, 7], [7, 14]), ([7, 15], [7, 15]), ([16, 14], [16]), ([17], [17]), ([17], [17]), ([18, 19, 17], [17, 18, 19]), ([20, 17], [17, 20]), ([21, 17], [17, 21]), ([17], [17]), ([17], [17]), ([17], [17]), ([24, 25, 17], [17, 24, 25]), ([26, 17], [17, 26]), ([27, 17], [17, 27]), ([23, 28, 17, 17], [17, 23, 28]), ([22, 29, 29, 17], [17, 22, 29]), ([30, 17], [17, 30]), ([17, 31], [17, 31])])
def spec_IsPlan.B6 : List Nat := [0, 0, 3, 7, 15, 31, 63, 127, 255, 255, 255, 1791, 3839, 7935, 16383, 32767, 65535, 131071, 262143, 262143, 1048575, 2097151, 4194303, 262143, 262143, 262143, 50593791, 117702655, 251920383, 528744447, 1073741823, 2147483647, 4294967295]
theorem spec_IsPlan.tab6 : rtab .any (opsOf Try.f65 6) = spec_IsPlan.T6 := by kernel_rfl
theorem spec_IsPlan.bits6 : waitsOk spec_IsPlan.T6.2 spec_IsPlan.B6 = true := by kernel_rfl
theorem spec_IsPlan.calls (k : Nat) (A0 : Option Addr) (c0 : Nat) (l0 : List (S71)) (A1 : Option Addr) (c1 : Nat) (l1 : List (S85)) (r : Bool) (w : World) (hr0 : Kd.C k71 w A0 l0.length l0) (hc0 : l0.length ≤ c0) (hr1 : Kd.C k85 w A1 l1.length l1) (hc1 : l1.length ≤ c1) (h : spec_IsPlan.f k l0 l1 = some r) :
  Calls Try.prog 65 #[.slice A0 l0.length c0, .slice A1 l1.length c1] w fun e w' => e = .returned (.bool r) ∧ Below w.heap.size w w' := by
 have HR0 := Aside0.mk hr0
 have HC0 := Aside0.mk hc0
 clear hr0 hc0
 have HR1 := Aside0.mk hr1
 have HC1 := Aside0.mk hc1
 clear hr1 hc1
 have HB := Aside0.mk (Below.refl w.heap.size w)
 have H : ((spec_l1In.f (l1.length : Int) 1 6).bind fun t382 => (if t382 = true then (spec_IsPlan.l0 k l0 l1 0) else (some false))) = some r := h
 clear h
 replace H := S.bd H; obtain ⟨t382, A3, H⟩ := H
 (try dsimp only at H)
 replace H := S.db H; rcases H with ⟨rfl, H⟩ | ⟨rfl, H⟩
 ·have H' := Aside0.mk H
  clear H
  go_enter Try.func65, Try.ntmps65
  go_wp2_with (first | ((with_reducible refine gate_callee (f := 58) rfl ?_); refine S.gL (some 8) Try.func58 #[.int .i64 (l1.length : Int), .int .i64 1, .int .i64 6] ?_; (with_reducible refine (spec_l1In.calls (l1.length : Int) 1 6 true _ A3.out).mono ?_); rintro e w' ⟨rfl, ⟨nd, rfl⟩⟩; refine ⟨_, rfl, ?_⟩))
  go_loopg [5] k (fun kq v5 w' => ∃ (x5_1 : Int), v5 = .int .i64 x5_1 ∧ Aside0 (spec_IsPlan.l0 kq l0 l1 x5_1 = some r) ∧ Aside0 (kq ≤ k) ∧ Aside0 (Below w.heap.size w w'))
  case atStart => exact ⟨(0), S.eA, H', ⟨Nat.le_refl _⟩, ⟨S.bA⟩⟩
  case round =>
   clear H'
   try clear c1
   try clear c4
   obtain ⟨x5_1, rfl, HA, HK1, HB⟩ := hrel
   cases gk with
   | zero => exact absurd HA.out (by simp [spec_IsPlan.l0])
   | succ k1 =>
    have H := HA.out
    clear HA
    simp only [spec_IsPlan.l0] at H
    replace H := S.dc H; rcases H with ⟨H, c5b0⟩ | ⟨H, c5b0⟩
    ·by_cases c6 : 0 ≤ x5_1
     ·rw [if_pos c6] at H
      have c6b0 : decide (0 ≤ x5_1) = true := decide_eq_true c6
      clear c6
      by_cases c7 : (((rd_T85 l1 x5_1).f0).length : Int) = 0
      ·rw [if_pos c7] at H
       have c7b0 : ((((rd_T85 l1 x5_1).f0).length : Int) == 0) = true := beq_iff_eq.mpr c7
       have c7b1 : ((((rd_T85 l1 x5_1).f0).length : Int) != 0) = false := bne_eq_false_iff_eq.mpr c7
       clear c7
       obtain rfl := Option.some.inj H
       try go_wp2
       replace HB := Aside0.mk (below_drew1 HB.out)
       have p387 : 0 ≤ (x5_1 : Int) := S.oD
       have q387 : x5_1 < (l1.length : Int) := S.oD
       obtain ⟨ad387, A387_0, c387_0, e387, hx387_0, hx387_1, hl387_0, hi387_0⟩ := at_T85 HR1.out x5_1 p387 q387
       have hw387_1 := hx387_1
       have hw387_0 := hx387_0
       cases e387
       replace hx387_0 := S.hb HB hx387_0
       replace hx387_1 := S.hb HB hx387_1
       have HR387_0 := Aside0.mk hi387_0
       have HC387_0 := Aside0.mk hl387_0
       clear hi387_0 hl387_0
       replace p387 := eq_true p387
       replace q387 := eq_true q387
       refine S.st (n := 33) (ds := []) #[false, false, false, false, false, false, false, false, false, false, false, false, false, false, false, false, false, false, false, false, false, false, false, false, false, false, false, false, false, false, false, false, false] (fun w_ h_ => have x_ := And.intro (S.q h_ (S.hb HB hw387_0)) (S.q h_ (S.hb HB hw387_1)); x_) (fun hHeld => ?_); refine with_tabW spec_IsPlan.tab6 spec_IsPlan.bits6 (fun HT_ HW_ => ?_)
       generalize wr.drew = w8 at HB HR387_0 hx387_0 hx387_1 hHeld ⊢
       refine S.pS 0 16 ?_
       refine S.pS 1 17 ?_
       refine S.pS 2 18 ?_
       refine S.pS 3 19 ?_
       refine S.tK 4 20 #[true, true, true, true, true, false, false, false, false, false, false, false, false, false, false, false, false, false, false, false, false, false, false, false, false, false, false, false, false, false, false, false, false] ?_
       refine S.pS 5 21 ?_
       refine S.pS 6 22 ?_
       refine S.pS 7 23 ?_
       refine S.pU 8 24 ?_
       refine S.pU 9 25 ?_
       refine S.pU 10 26 ?_
       refine S.pU 11 27 ?_
       refine S.pU 12 28 ?_
       refine S.pU 13 29 ?_
       refine S.pU 14 30 ?_
       refine S.pU 15 31 ?_
       refine S.pS 16 32 ?_
       refine S.pS 17 33 ?_
       refine S.pU 18 34 ?_
       refine S.pU 19 35 ?_
       refine S.pU 20 36 ?_
       refine S.pU 21 37 ?_
       refine S.pU 22 38 ?_
       refine S.pU 23 39 ?_
       refine S.pU 24 40 ?_
       refine S.pU 25 41 ?_
       refine S.pU 26 42 ?_
       refine S.pU 27 43 ?_
       refine S.pU 28 44 ?_
       refine S.pU 29 45 ?_
       refine S.pU 30 46 ?_
       refine S.pU 31 47 ?_
       refine S.pS 32 48 ?_
       refine done_ (done_of HT_.out (by kernel_rfl)) ?_
       try go_wp2
       go_ret
       exact ⟨S.eW, S.bA⟩
      ·rw [if_neg c7] at H
       have c7b0 : ((((rd_T85 l1 x5_1).f0).length : Int) == 0) = false := beq_eq_false_iff_ne.mpr c7
       have c7b1 : ((((rd_T85 l1 x5_1).f0).length : Int) != 0) = true := bne_iff_ne.mpr c7
       have c7b2 : ¬ (((rd_T85 l1 x5_1).f0) = []) := fun h_ => c7 (by rw [h_]; rfl)
       replace H := S.bd H; obtain ⟨t389, A9, H⟩ := H
       (try dsimp only at H)
       replace H := S.db H; rcases H with ⟨rfl, H⟩ | ⟨rfl, H⟩
       ·replace H := S.bd H; obtain ⟨t392, A11, H⟩ := H
        (try dsimp only at H)
        replace H := S.bd H; obtain ⟨t393, A12, H⟩ := H
        (try dsimp only at H)
        replace H := S.db H; rcases H with ⟨rfl, H⟩ | ⟨rfl, H⟩
        ·have H' := Aside0.mk H
         clear H
         try go_wp2
         replace HB := Aside0.mk (below_drew1 HB.out)
         have p387 : 0 ≤ (x5_1 : Int) := S.oD
         have q387 : x5_1 < (l1.length : Int) := S.oD
         obtain ⟨ad387, A387_0, c387_0, e387, hx387_0, hx387_1, hl387_0, hi387_0⟩ := at_T85 HR1.out x5_1 p387 q387
         have hw387_1 := hx387_1
         have hw387_0 := hx387_0
         cases e387
         replace hx387_0 := S.hb HB hx387_0
         replace hx387_1 := S.hb HB hx387_1
         have HR387_0 := Aside0.mk hi387_0
         have HC387_0 := Aside0.mk hl387_0
         clear hi387_0 hl387_0
         replace p387 := eq_true p387
         replace q387 := eq_true q387
         have p388 : 0 ≤ (x5_1 : Int) := S.oD
         have q388 : x5_1 < (l1.length : Int) := S.oD
         obtain ⟨ad388, A388_0, c388_0, e388, hx388_0, hx388_1, hl388_0, hi388_0⟩ := at_T85 HR1.out x5_1 p388 q388
         have hw388_1 := hx388_1
         have hw388_0 := hx388_0
         obtain rfl : ad387 = ad388 := (by injection e388)
         replace hx388_0 := S.hb HB hx388_0
         replace hx388_1 := S.hb HB hx388_1
         have HR388_0 := Aside0.mk hi388_0
         have HC388_0 := Aside0.mk hl388_0
         clear hi388_0 hl388_0
         replace p388 := eq_true p388
         replace q388 := eq_true q388
         have ea_ := Option.some.inj (hx387_0.symm.trans hx388_0)
         injection ea_ with ea_ en_ ec_
         subst ea_
         subst ec_
         clear en_
         have p390 : 0 ≤ (x5_1 : Int) := S.oD
         have q390 : x5_1 < (l1.length : Int) := S.oD
         obtain ⟨ad390, A390_0, c390_0, e390, hx390_0, hx390_1, hl390_0, hi390_0⟩ := at_T85 HR1.out x5_1 p390 q390
         have hw390_1 := hx390_1
         have hw390_0 := hx390_0
         obtain rfl : ad387 = ad390 := (by injection e390)
         replace hx390_0 := S.hb HB hx390_0
         replace hx390_1 := S.hb HB hx390_1
         have HR390_0 := Aside0.mk hi390_0
         have HC390_0 := Aside0.mk hl390_0
         clear hi390_0 hl390_0
         replace p390 := eq_true p390
         replace q390 := eq_true q390
         have ea_ := Option.some.inj (hx387_0.symm.trans hx390_0)
         injection ea_ with ea_ en_ ec_
         subst ea_
         subst ec_
         clear en_
         have p391 : 0 ≤ (x5_1 : Int) := S.oD
         have q391 : x5_1 < (l1.length : Int) := S.oD
         obtain ⟨ad391, A391_0, c391_0, e391, hx391_0, hx391_1, hl391_0, hi391_0⟩ := at_T85 HR1.out x5_1 p391 q391
         have hw391_1 := hx391_1
         have hw391_0 := hx391_0
         obtain rfl : ad387 = ad391 := (by injection e391)
         replace hx391_0 := S.hb HB hx391_0
         replace hx391_1 := S.hb HB hx391_1
         have HR391_0 := Aside0.mk hi391_0
         have HC391_0 := Aside0.mk hl391_0
         clear hi391_0 hl391_0
         replace p391 := eq_true p391
         replace q391 := eq_true q391
         have ea_ := Option.some.inj (hx387_0.symm.trans hx391_0)
         injection ea_ with ea_ en_ ec_
         subst ea_
         subst ec_
         clear en_
         refine S.st (n := 33) (ds := []) #[false, false, false, false, false, false, false, false, false, false, false, false, false, false, false, false, false, false, false, false, false, false, false, false, false, false, false, false, false, false, false, false, false] (fun w_ h_ => have x_ := And.intro (S.q h_ (S.hb HB hw387_0)) (And.intro (S.q h_ (S.hb HB hw387_1)) (And.intro (S.q h_ (S.hb HB hw388_0)) (And.intro (S.q h_ (S.hb HB hw388_1)) (And.intro (S.q h_ (S.hb HB hw390_0)) (And.intro (S.q h_ (S.hb HB hw390_1)) (And.intro (S.q h_ (S.hb HB hw391_0)) (S.q h_ (S.hb HB hw391_1)))))))); x_) (fun hHeld => ?_); refine with_tabW spec_IsPlan.tab6 spec_IsPlan.bits6 (fun HT_ HW_ => ?_)
         generalize wr.drew = w14 at HB HR387_0 HR388_0 HR390_0 HR391_0 hx387_0 hx387_1 hx388_0 hx388_1 hx390_0 hx390_1 hx391_0 hx391_1 hHeld ⊢
         refine S.pS 0 16 ?_
         refine S.pS 1 17 ?_
         refine S.pS 2 18 ?_
         refine S.pS 3 19 ?_
         refine S.tK 4 20 #[true, true, true, true, true, false, false, false, false, false, false, false, false, false, false, false, false, false, false, false, false, false, false, false, false, false, false, false, false, false, false, false, false] ?_
         refine S.pS 5 21 ?_
         refine S.pS 6 22 ?_
         refine S.pS 7 23 ?_
         refine S.pS 8 24 ?_
         refine S.pS 9 25 ?_
         refine S.pS 10 26 ?_
         refine S.pS 11 27 ?_
         refine S.pS 12 28 ?_
         refine S.tK 13 29 #[true, true, true, true, true, true, true, true, true, true, true, true, true, true, false, false, false, false, false, false, false, false, false, false, false, false, false, false, false, false, false, false, false] ?_
         refine S.oN 14 30 #[true, true, true, true, true, true, true, true, true, true, true, true, true, true, true, false, false, false, false, false, false, false, false, false, false, false, false, false, false, false, false, false, false] (fun K hK => ?_)
         refine S.go Try.func99 #[.slice A0 l0.length c0, .slice A387_0 ((rd_T85 l1 x5_1).f0).length c387_0] ?_
         with_reducible refine (spec_IsTogether.calls k1 _ _ l0 _ _ ((rd_T85 l1 x5_1).f0) true _ ?s1 ?s2 ?s3 ?s4 A9.out).mono ?_
         (case s1 => exact S.cA HR0.out)
         (case s2 => exact HC0.out)
         (case s3 => exact S.cA HR388_0.out)
         (case s4 => exact HC388_0.out)
         rintro e w15 ⟨rfl, hb⟩
         refine ⟨_, rfl, ?_⟩
         replace HB := S.sA hb
         (try clear hb)
         (try clear hb2)
         (try clear hk)
         (try clear hi)
         refine hK.out _ _ ⟨(S.hb HB hw387_0 :), (S.hb HB hw387_1 :), (S.hb HB hw388_0 :), (S.hb HB hw388_1 :), (S.hb HB hw390_0 :), (S.hb HB hw390_1 :), (S.hb HB hw391_0 :), (S.hb HB hw391_1 :)⟩ (fun hHeld => ?_)
         clear hK K
         refine S.nm 30 ?_
         refine S.pS 15 31 ?_
         refine S.pS 16 32 ?_
         refine S.pS 17 33 ?_
         refine S.pS 18 34 ?_
         refine S.pS 19 35 ?_
         refine S.pS 20 36 ?_
         refine S.pS 21 37 ?_
         refine S.pS 23 39 ?_
         refine S.pS 24 40 ?_
         refine S.pS 25 41 ?_
         refine S.pS 26 42 ?_
         refine S.pS 27 43 ?_
         refine S.tK 22 38 #[true, true, true, true, true, true, true, true, true, true, true, true, true, true, true, true, true, true, true, true, true, true, true, true, true, true, true, true, false, false, false, false, false] ?_
         refine S.tK 28 44 #[true, true, true, true, true, true, true, true, true, true, true, true, true, true, true, true, true, true, true, true, true, true, true, true, true, true, true, true, true, false, false, false, false] ?_
         refine S.oN 29 45 #[true, true, true, true, true, true, true, true, true, true, true, true, true, true, true, true, true, true, true, true, true, true, true, true, true, true, true, true, true, true, false, false, false] (fun K hK => ?_)
         refine S.go Try.func100 #[.slice A0 l0.length c0, .slice A387_0 ((rd_T85 l1 x5_1).f0).length c387_0] ?_
         with_reducible refine (spec_LeastGreen.calls k1 _ _ l0 _ _ ((rd_T85 l1 x5_1).f0) t392 _ ?s1 ?s2 ?s3 ?s4 A11.out).mono ?_
         (case s1 => exact S.cA HR0.out)
         (case s2 => exact HC0.out)
         (case s3 => exact S.cA HR391_0.out)
         (case s4 => exact HC391_0.out)
         rintro e w' ⟨rfl, ⟨nd, rfl⟩⟩
         refine ⟨_, rfl, ?_⟩
         refine hK.out _ _ ⟨(S.hb HB hw387_0 :), (S.hb HB hw387_1 :), (S.hb HB hw388_0 :), (S.hb HB hw388_1 :), (S.hb HB hw390_0 :), (S.hb HB hw390_1 :), (S.hb HB hw391_0 :), (S.hb HB hw391_1 :)⟩ (fun hHeld => ?_)
         clear hK K
         refine S.nm 45 ?_
         refine S.oN 30 46 #[true, true, true, true, true, true, true, true, true, true, true, true, true, true, true, true, true, true, true, true, true, true, true, true, true, true, true, true, true, true, true, false, false] (fun K hK => ?_)
         refine S.go Try.func58 #[.int .i64 ((rd_T85 l1 x5_1).f1), .int .i64 t392, .int .i64 60] ?_
         with_reducible refine (spec_l1In.calls ((rd_T85 l1 x5_1).f1) t392 60 true _ A12.out).mono ?_
         rintro e w' ⟨rfl, ⟨nd, rfl⟩⟩
         refine ⟨_, rfl, ?_⟩
         refine hK.out _ _ ⟨(S.hb HB hw387_0 :), (S.hb HB hw387_1 :), (S.hb HB hw388_0 :), (S.hb HB hw388_1 :), (S.hb HB hw390_0 :), (S.hb HB hw390_1 :), (S.hb HB hw391_0 :), (S.hb HB hw391_1 :)⟩ (fun hHeld => ?_)
         clear hK K
         refine S.nm 46 ?_
         refine S.pS 31 47 ?_
         refine S.pS 32 48 ?_
         refine done_ (done_of HT_.out (by kernel_rfl)) ?_
         try go_wp2
         go_roundg k1
         case measure => have := HK1.out; omega
         case rel => exact ⟨(wrap64 (x5_1 + 1)), S.eA, H', ⟨by have := HK1.out; omega⟩, ⟨S.bA⟩⟩
        ·obtain rfl := Option.some.inj H
         try go_wp2
         replace HB := Aside0.mk (below_drew1 HB.out)
         have p387 : 0 ≤ (x5_1 : Int) := S.oD
         have q387 : x5_1 < (l1.length : Int) := S.oD
         obtain ⟨ad387, A387_0, c387_0, e387, hx387_0, hx387_1, hl387_0, hi387_0⟩ := at_T85 HR1.out x5_1 p387 q387
         have hw387_1 := hx387_1
         have hw387_0 := hx387_0
         cases e387
         replace hx387_0 := S.hb HB hx387_0
         replace hx387_1 := S.hb HB hx387_1
         have HR387_0 := Aside0.mk hi387_0
         have HC387_0 := Aside0.mk hl387_0
         clear hi387_0 hl387_0
         replace p387 := eq_true p387
         replace q387 := eq_true q387
         have p388 : 0 ≤ (x5_1 : Int) := S.oD
         have q388 : x5_1 < (l1.length : Int) := S.oD
         obtain ⟨ad388, A388_0, c388_0, e388, hx388_0, hx388_1, hl388_0, hi388_0⟩ := at_T85 HR1.out x5_1 p388 q388
         have hw388_1 := hx388_1
         have hw388_0 := hx388_0
         obtain rfl : ad387 = ad388 := (by injection e388)
         replace hx388_0 := S.hb HB hx388_0
         replace hx388_1 := S.hb HB hx388_1
         have HR388_0 := Aside0.mk hi388_0
         have HC388_0 := Aside0.mk hl388_0
         clear hi388_0 hl388_0
         replace p388 := eq_true p388
         replace q388 := eq_true q388
         have ea_ := Option.some.inj (hx387_0.symm.trans hx388_0)
         injection ea_ with ea_ en_ ec_
         subst ea_
         subst ec_
         clear en_
         have p390 : 0 ≤ (x5_1 : Int) := S.oD
         have q390 : x5_1 < (l1.length : Int) := S.oD
         obtain ⟨ad390, A390_0, c390_0, e390, hx390_0, hx390_1, hl390_0, hi390_0⟩ := at_T85 HR1.out x5_1 p390 q390
         have hw390_1 := hx390_1
         have hw390_0 := hx390_0
         obtain rfl : ad387 = ad390 := (by injection e390)
         replace hx390_0 := S.hb HB hx390_0
         replace hx390_1 := S.hb HB hx390_1
         have HR390_0 := Aside0.mk hi390_0
         have HC390_0 := Aside0.mk hl390_0
         clear hi390_0 hl390_0
         replace p390 := eq_true p390
         replace q390 := eq_true q390
         have ea_ := Option.some.inj (hx387_0.symm.trans hx390_0)
         injection ea_ with ea_ en_ ec_
         subst ea_
         subst ec_
         clear en_
         have p391 : 0 ≤ (x5_1 : Int) := S.oD
         have q391 : x5_1 < (l1.length : Int) := S.oD
         obtain ⟨ad391, A391_0, c391_0, e391, hx391_0, hx391_1, hl391_0, hi391_0⟩ := at_T85 HR1.out x5_1 p391 q391
         have hw391_1 := hx391_1
         have hw391_0 := hx391_0
         obtain rfl : ad387 = ad391 := (by injection e391)
         replace hx391_0 := S.hb HB hx391_0
         replace hx391_1 := S.hb HB hx391_1
         have HR391_0 := Aside0.mk hi391_0
         have HC391_0 := Aside0.mk hl391_0
         clear hi391_0 hl391_0
         replace p391 := eq_true p391
         replace q391 := eq_true q391
         have ea_ := Option.some.inj (hx387_0.symm.trans hx391_0)
         injection ea_ with ea_ en_ ec_
         subst ea_
         subst ec_
         clear en_
         refine S.st (n := 33) (ds := []) #[false, false, false, false, false, false, false, false, false, false, false, false, false, false, false, false, false, false, false, false, false, false, false, false, false, false, false, false, false, false, false, false, false] (fun w_ h_ => have x_ := And.intro (S.q h_ (S.hb HB hw387_0)) (And.intro (S.q h_ (S.hb HB hw387_1)) (And.intro (S.q h_ (S.hb HB hw388_0)) (And.intro (S.q h_ (S.hb HB hw388_1)) (And.intro (S.q h_ (S.hb HB hw390_0)) (And.intro (S.q h_ (S.hb HB hw390_1)) (And.intro (S.q h_ (S.hb HB hw391_0)) (S.q h_ (S.hb HB hw391_1)))))))); x_) (fun hHeld => ?_); refine with_tabW spec_IsPlan.tab6 spec_IsPlan.bits6 (fun HT_ HW_ => ?_)
         generalize wr.drew = w16 at HB HR387_0 HR388_0 HR390_0 HR391_0 hx387_0 hx387_1 hx388_0 hx388_1 hx390_0 hx390_1 hx391_0 hx391_1 hHeld ⊢
         refine S.pS 0 16 ?_
         refine S.pS 1 17 ?_
         refine S.pS 2 18 ?_
         refine S.pS 3 19 ?_
         refine S.tK 4 20 #[true, true, true, true, true, false, false, false, false, false, false, false, false, false, false, false, false, false, false, false, false, false, false, false, false, false, false, false, false, false, false, false, false] ?_
         refine S.pS 5 21 ?_
         refine S.pS 6 22 ?_
         refine S.pS 7 23 ?_
         refine S.pS 8 24 ?_
         refine S.pS 9 25 ?_
         refine S.pS 10 26 ?_
         refine S.pS 11 27 ?_
         refine S.pS 12 28 ?_
         refine S.tK 13 29 #[true, true, true, true, true, true, true, true, true, true, true, true, true, true, false, false, false, false, false, false, false, false, false, false, false, false, false, false, false, false, false, false, false] ?_
         refine S.oN 14 30 #[true, true, true, true, true, true, true, true, true, true, true, true, true, true, true, false, false, false, false, false, false, false, false, false, false, false, false, false, false, false, false, false, false] (fun K hK => ?_)
         refine S.go Try.func99 #[.slice A0 l0.length c0, .slice A387_0 ((rd_T85 l1 x5_1).f0).length c387_0] ?_
         with_reducible refine (spec_IsTogether.calls k1 _ _ l0 _ _ ((rd_T85 l1 x5_1).f0) true _ ?s1 ?s2 ?s3 ?s4 A9.out).mono ?_
         (case s1 => exact S.cA HR0.out)
         (case s2 => exact HC0.out)
         (case s3 => exact S.cA HR388_0.out)
         (case s4 => exact HC388_0.out)
         rintro e w17 ⟨rfl, hb⟩
         refine ⟨_, rfl, ?_⟩
         replace HB := S.sA hb
         (try clear hb)
         (try clear hb2)
         (try clear hk)
         (try clear hi)
         refine hK.out _ _ ⟨(S.hb HB hw387_0 :), (S.hb HB hw387_1 :), (S.hb HB hw388_0 :), (S.hb HB hw388_1 :), (S.hb HB hw390_0 :), (S.hb HB hw390_1 :), (S.hb HB hw391_0 :), (S.hb HB hw391_1 :)⟩ (fun hHeld => ?_)
         clear hK K
         refine S.nm 30 ?_
         refine S.pS 15 31 ?_
         refine S.pS 16 32 ?_
         refine S.pS 17 33 ?_
         refine S.pS 18 34 ?_
         refine S.pS 19 35 ?_
         refine S.pS 20 36 ?_
         refine S.pS 21 37 ?_
         refine S.pS 23 39 ?_
         refine S.pS 24 40 ?_
         refine S.pS 25 41 ?_
         refine S.pS 26 42 ?_
         refine S.pS 27 43 ?_
         refine S.tK 22 38 #[true, true, true, true, true, true, true, true, true, true, true, true, true, true, true, true, true, true, true, true, true, true, true, true, true, true, true, true, false, false, false, false, false] ?_
         refine S.tK 28 44 #[true, true, true, true, true, true, true, true, true, true, true, true, true, true, true, true, true, true, true, true, true, true, true, true, true, true, true, true, true, false, false, false, false] ?_
         refine S.oN 29 45 #[true, true, true, true, true, true, true, true, true, true, true, true, true, true, true, true, true, true, true, true, true, true, true, true, true, true, true, true, true, true, false, false, false] (fun K hK => ?_)
         refine S.go Try.func100 #[.slice A0 l0.length c0, .slice A387_0 ((rd_T85 l1 x5_1).f0).length c387_0] ?_
         with_reducible refine (spec_LeastGreen.calls k1 _ _ l0 _ _ ((rd_T85 l1 x5_1).f0) t392 _ ?s1 ?s2 ?s3 ?s4 A11.out).mono ?_
         (case s1 => exact S.cA HR0.out)
         (case s2 => exact HC0.out)
         (case s3 => exact S.cA HR391_0.out)
         (case s4 => exact HC391_0.out)
         rintro e w' ⟨rfl, ⟨nd, rfl⟩⟩
         refine ⟨_, rfl, ?_⟩
         refine hK.out _ _ ⟨(S.hb HB hw387_0 :), (S.hb HB hw387_1 :), (S.hb HB hw388_0 :), (S.hb HB hw388_1 :), (S.hb HB hw390_0 :), (S.hb HB hw390_1 :), (S.hb HB hw391_0 :), (S.hb HB hw391_1 :)⟩ (fun hHeld => ?_)
         clear hK K
         refine S.nm 45 ?_
         refine S.oN 30 46 #[true, true, true, true, true, true, true, true, true, true, true, true, true, true, true, true, true, true, true, true, true, true, true, true, true, true, true, true, true, true, true, false, false] (fun K hK => ?_)
         refine S.go Try.func58 #[.int .i64 ((rd_T85 l1 x5_1).f1), .int .i64 t392, .int .i64 60] ?_
         with_reducible refine (spec_l1In.calls ((rd_T85 l1 x5_1).f1) t392 60 false _ A12.out).mono ?_
         rintro e w' ⟨rfl, ⟨nd, rfl⟩⟩
         refine ⟨_, rfl, ?_⟩
         refine hK.out _ _ ⟨(S.hb HB hw387_0 :), (S.hb HB hw387_1 :), (S.hb HB hw388_0 :), (S.hb HB hw388_1 :), (S.hb HB hw390_0 :), (S.hb HB hw390_1 :), (S.hb HB hw391_0 :), (S.hb HB hw391_1 :)⟩ (fun hHeld => ?_)
         clear hK K
         refine S.nm 46 ?_
         refine S.pS 31 47 ?_
         refine S.pS 32 48 ?_
         refine done_ (done_of HT_.out (by kernel_rfl)) ?_
         try go_wp2
         go_ret
         exact ⟨S.eW, S.bA⟩
       ·obtain rfl := Option.some.inj H
        try go_wp2
        replace HB := Aside0.mk (below_drew1 HB.out)
        have p387 : 0 ≤ (x5_1 : Int) := S.oD
        have q387 : x5_1 < (l1.length : Int) := S.oD
        obtain ⟨ad387, A387_0, c387_0, e387, hx387_0, hx387_1, hl387_0, hi387_0⟩ := at_T85 HR1.out x5_1 p387 q387
        have hw387_1 := hx387_1
        have hw387_0 := hx387_0
        cases e387
        replace hx387_0 := S.hb HB hx387_0
        replace hx387_1 := S.hb HB hx387_1
        have HR387_0 := Aside0.mk hi387_0
        have HC387_0 := Aside0.mk hl387_0
        clear hi387_0 hl387_0
        replace p387 := eq_true p387
        replace q387 := eq_true q387
        have p388 : 0 ≤ (x5_1 : Int) := S.oD
        have q388 : x5_1 < (l1.length : Int) := S.oD
        obtain ⟨ad388, A388_0, c388_0, e388, hx388_0, hx388_1, hl388_0, hi388_0⟩ := at_T85 HR1.out x5_1 p388 q388
        have hw388_1 := hx388_1
        have hw388_0 := hx388_0
        obtain rfl : ad387 = ad388 := (by injection e388)
        replace hx388_0 := S.hb HB hx388_0
        replace hx388_1 := S.hb HB hx388_1
        have HR388_0 := Aside0.mk hi388_0
        have HC388_0 := Aside0.mk hl388_0
        clear hi388_0 hl388_0
        replace p388 := eq_true p388
        replace q388 := eq_true q388
        have ea_ := Option.some.inj (hx387_0.symm.trans hx388_0)
        injection ea_ with ea_ en_ ec_
        subst ea_
        subst ec_
        clear en_
        refine S.st (n := 33) (ds := []) #[false, false, false, false, false, false, false, false, false, false, false, false, false, false, false, false, false, false, false, false, false, false, false, false, false, false, false, false, false, false, false, false, false] (fun w_ h_ => have x_ := And.intro (S.q h_ (S.hb HB hw387_0)) (And.intro (S.q h_ (S.hb HB hw387_1)) (And.intro (S.q h_ (S.hb HB hw388_0)) (S.q h_ (S.hb HB hw388_1)))); x_) (fun hHeld => ?_); refine with_tabW spec_IsPlan.tab6 spec_IsPlan.bits6 (fun HT_ HW_ => ?_)
        generalize wr.drew = w18 at HB HR387_0 HR388_0 hx387_0 hx387_1 hx388_0 hx388_1 hHeld ⊢
        refine S.pS 0 16 ?_
        refine S.pS 1 17 ?_
        refine S.pS 2 18 ?_
        refine S.pS 3 19 ?_
        refine S.tK 4 20 #[true, true, true, true, true, false, false, false, false, false, false, false, false, false, false, false, false, false, false, false, false, false, false, false, false, false, false, false, false, false, false, false, false] ?_
        refine S.pS 5 21 ?_
        refine S.pS 6 22 ?_
        refine S.pS 7 23 ?_
        refine S.pS 8 24 ?_
        refine S.pS 9 25 ?_
        refine S.pS 10 26 ?_
        refine S.pS 11 27 ?_
        refine S.pS 12 28 ?_
        refine S.tK 13 29 #[true, true, true, true, true, true, true, true, true, true, true, true, true, true, false, false, false, false, false, false, false, false, false, false, false, false, false, false, false, false, false, false, false] ?_
        refine S.oN 14 30 #[true, true, true, true, true, true, true, true, true, true, true, true, true, true, true, false, false, false, false, false, false, false, false, false, false, false, false, false, false, false, false, false, false] (fun K hK => ?_)
        refine S.go Try.func99 #[.slice A0 l0.length c0, .slice A387_0 ((rd_T85 l1 x5_1).f0).length c387_0] ?_
        with_reducible refine (spec_IsTogether.calls k1 _ _ l0 _ _ ((rd_T85 l1 x5_1).f0) false _ ?s1 ?s2 ?s3 ?s4 A9.out).mono ?_
        (case s1 => exact S.cA HR0.out)
        (case s2 => exact HC0.out)
        (case s3 => exact S.cA HR388_0.out)
        (case s4 => exact HC388_0.out)
        rintro e w19 ⟨rfl, hb⟩
        refine ⟨_, rfl, ?_⟩
        replace HB := S.sA hb
        (try clear hb)
        (try clear hb2)
        (try clear hk)
        (try clear hi)
        refine hK.out _ _ ⟨(S.hb HB hw387_0 :), (S.hb HB hw387_1 :), (S.hb HB hw388_0 :), (S.hb HB hw388_1 :)⟩ (fun hHeld => ?_)
        clear hK K
        refine S.nm 30 ?_
        refine S.pS 15 31 ?_
        refine S.pS 16 32 ?_
        refine S.pS 17 33 ?_
        refine S.pU 18 34 ?_
        refine S.pU 19 35 ?_
        refine S.pU 20 36 ?_
        refine S.pU 21 37 ?_
        refine S.pU 22 38 ?_
        refine S.pU 23 39 ?_
        refine S.pU 24 40 ?_
        refine S.pU 25 41 ?_
        refine S.pU 26 42 ?_
        refine S.pU 27 43 ?_
        refine S.pU 28 44 ?_
        refine S.pU 29 45 ?_
        refine S.pU 30 46 ?_
        refine S.pU 31 47 ?_
        refine S.pS 32 48 ?_
        refine done_ (done_of HT_.out (by kernel_rfl)) ?_
        try go_wp2
        go_ret
        exact ⟨S.eW, S.bA⟩
     ·rw [if_neg c6] at H
      exact absurd H (by simp)
    ·replace H := Option.bind_eq_some_iff.mp H
     obtain ⟨t383, A200, H⟩ := H
     replace H : ((spec_Covers.f k1 l0 t383).bind fun t386 => (some t386)) = some r := H
     have A20 := Aside0.mk A200
     clear A200
     replace H := S.bd H; obtain ⟨t386, A21, H⟩ := H
     (try dsimp only at H)
     obtain rfl := Option.some.inj H
     go_wp2_with (first | ((with_reducible refine gate_callee (f := 102) rfl ?_); refine S.gL (some 51) Try.func102 #[.slice A1 l1.length c1] ?_; (with_reducible refine (spec_l8Stages.calls k1 (fun k_ => k_ < w.heap.size) _ _ l1 t383 _ ?s1 A20.out).mono ?_); (case s1 => exact Kd.V_mk HC1.out (Kd.F_below (Kd.C_F k85_heap HR1.out) S.bA)); rintro e w22 ⟨v384, rfl, ho0, hb⟩; refine ⟨_, rfl, ?_⟩; have HO385 := Aside0.mk (Kd.N_lower (Kd.N_mono (ok' := fun k_ => True) ho0 (fun k_ hk_ => trivial)) (below_size S.bA)); replace HB := S.sA hb; (try clear hb); (try clear ho0); obtain ⟨Ao23, co23, eo23⟩ := Kd.N_slice HO385.out; subst eo23) | ((with_reducible refine gate_callee (f := 101) rfl ?_); refine S.gL (some 52) Try.func101 #[.slice A0 l0.length c0, .slice Ao23 t383.length co23] ?_; (with_reducible refine (spec_Covers.calls k1 _ _ l0 _ _ t383 t386 _ ?s1 HC0.out ?s3 ?s4 A21.out).mono ?_); (case s1 => exact S.cA HR0.out); (case s3 => exact S.cD (Kd.N_reads' HO385.out).2.2); (case s4 => exact (Kd.N_reads' HO385.out).2.1); rintro e w24 ⟨rfl, hb⟩; refine ⟨_, rfl, ?_⟩; replace HO385 := Aside0.mk (Kd.N_below (by (with_reducible repeat (first | apply Kd.N_alloc | apply Kd.N_drewN | apply Kd.N_drew)); exact HO385.out) hb); replace HB := S.sA hb; (try clear hb)))
     go_ret
     exact ⟨S.eW, S.bA⟩
 ·obtain rfl := Option.some.inj H
  go_enter Try.func65, Try.ntmps65
  go_wp2_with (first | ((with_reducible refine gate_callee (f := 58) rfl ?_); refine S.gL (some 8) Try.func58 #[.int .i64 (l1.length : Int), .int .i64 1, .int .i64 6] ?_; (with_reducible refine (spec_l1In.calls (l1.length : Int) 1 6 false _ A3.out).mono ?_); rintro e w' ⟨rfl, ⟨nd, rfl⟩⟩; refine ⟨_, rfl, ?_⟩))
  go_ret
  exact ⟨S.eW, S.bA⟩
/-! ### spec_l6Put: function 150 -/
def spec_l6Put.l0 : Nat → List Int → Int → Int → Option (List Int)
 | 0, _, _, _ => none
 | k + 1, x0, x1, x5 => if x5 < (x0.length : Int) then (if 0 ≤ x5 then (if (rd x0 x5) < x1 then (spec_l6Put.l0 k x0 x1 (wrap64 (x5 + 1))) else (if (rd x0 x5) = x1 then ((some (([] : List Int) : List Int)).bind fun y396 => (if y396.length + x0.length < 17592186044416 then (some (y396 ++ x0)) else (none))) else ((some (([] : List Int) : List Int)).bind fun y402 => (if x5 ≤ (x0.length : Int) then (if y402.length + (x0.take (x5 : Int).toNat).length < 17592186044416 then ((some (y402 ++ (x0.take (x5 : Int).toNat) : List Int)).bind fun y406 => ((some (([x1] : List Int) : List Int)).bind fun y409 => (if y406.length + y409.length < 17592186044416 then ((some (y406 ++ y409 : List Int)).bind fun y412 => (if y412.length + (x0.drop (x5 : Int).toNat).length < 17592186044416 then (some (y412 ++ (x0.drop (x5 : Int).toNat))) else (none))) else (none)))) else (none)) else (none))))) else (none)) else ((some (([] : List Int) : List Int)).bind fun y419 => (if 0 ≤ x5 then (if x5 ≤ (x0.length : Int) then (if y419.length + (x0.take (x5 : Int).toNat).length < 17592186044416 then ((some (y419 ++ (x0.take (x5 : Int).toNat) : List Int)).bind fun y423 => ((some (([x1] : List Int) : List Int)).bind fun y426 => (if y423.length + y426.length < 17592186044416 then ((some (y423 ++ y426 : List Int)).bind fun y429 => (if y429.length + (x0.drop (x5 : Int).toNat).length < 17592186044416 then (some (y429 ++ (x0.drop (x5 : Int).toNat))) else (none))) else (none)))) else (none)) else (none)) else (none)))
def spec_l6Put.f (k : Nat) (l0 : List Int) (a1 : Int) : Option (List Int) := spec_l6Put.l0 k l0 a1 0
def spec_l6Put.T6 : Bool × List (List Nat × List Nat) := (true, [([], []), ([], []), ([], []), ([1, 2], [1, 2]), ([0, 3], [0, 3]), ([], []), ([5], [5]), ([4, 6, 4], [4, 6]), ([], []), ([], []), ([8, 9], [8, 9]), ([7, 10, 7], [7, 10]), ([11, 11, 0, 1, 2, 3, 4, 5, 6, 7, 8, 9, 10, 11], [11])])
def spec_l6Put.B6 : List Nat := [0, 0, 0, 6, 15, 0, 32, 127, 0, 0, 768, 2047, 4095]
theorem spec_l6Put.tab6 : rtab .any (opsOf Try.f150 6) = spec_l6Put.T6 := by kernel_rfl
theorem spec_l6Put.bits6 : waitsOk spec_l6Put.T6.2 spec_l6Put.B6 = true := by kernel_rfl
theorem spec_l6Put.calls (k : Nat) (A0 : Option Addr) (c0 : Nat) (l0 : List Int) (a1 : Int) (r : List Int) (w : World) (hr0 : Kd.C (Kd.int .i64) w A0 l0.length l0) (hc0 : l0.length ≤ c0) (h : spec_l6Put.f k l0 a1 = some r) :
  Calls Try.prog 150 #[.slice A0 l0.length c0, .int .i64 a1] w fun e w' => ∃ v0_ : Value, e = .returned (v0_) ∧ Kd.R (Kd.int .i64) 3 w' w.heap.size (fun _ => True) v0_ r ∧ Below w.heap.size w w' := by
 have HR0 := Aside0.mk hr0
 have HC0 := Aside0.mk hc0
 clear hr0 hc0
 have HB := Aside0.mk (Below.refl w.heap.size w)
 have H : (spec_l6Put.l0 k l0 a1 0) = some r := h
 clear h
 have H' := Aside0.mk H
 clear H
 go_enter Try.func150, Try.ntmps150
 go_wp2
 go_loopg [5] k (fun kq v5 w' => ∃ (x5_1 : Int), v5 = .int .i64 x5_1 ∧ Aside0 (spec_l6Put.l0 kq l0 a1 x5_1 = some r) ∧ Aside0 (kq ≤ k) ∧ Aside0 (Below w.heap.size w w'))
 case atStart => exact ⟨(0), S.eA, H', ⟨Nat.le_refl _⟩, ⟨S.bA⟩⟩
 case round =>
  clear H'
  obtain ⟨x5_1, rfl, HA, HK1, HB⟩ := hrel
  cases gk with
  | zero => exact absurd HA.out (by simp [spec_l6Put.l0])
  | succ k1 =>
   have H := HA.out
   clear HA
   simp only [spec_l6Put.l0] at H
   replace H := S.dc H; rcases H with ⟨H, c3b0⟩ | ⟨H, c3b0⟩
   ·by_cases c4 : 0 ≤ x5_1
    ·rw [if_pos c4] at H
     have c4b0 : decide (0 ≤ x5_1) = true := decide_eq_true c4
     clear c4
     replace H := S.dc H; rcases H with ⟨H, c5b0⟩ | ⟨H, c5b0⟩
     ·have H' := Aside0.mk H
      clear H
      have p394 : 0 ≤ (x5_1 : Int) := S.oD
      have q394 : x5_1 < (l0.length : Int) := S.oD
      obtain ⟨ad394, e394, hx394_0⟩ := Kd.at_int HR0.out x5_1 p394 q394
      cases e394
      replace hx394_0 := S.hb HB hx394_0
      replace p394 := eq_true p394
      replace q394 := eq_true q394
      go_wp2
      go_roundg k1
      case measure => have := HK1.out; omega
      case rel => exact ⟨(wrap64 (x5_1 + 1)), S.eA, H', ⟨by have := HK1.out; omega⟩, ⟨S.bA⟩⟩
     ·by_cases c6 : (rd l0 x5_1) = a1
      ·rw [if_pos c6] at H
       have c6b0 : ((rd l0 x5_1) == a1) = true := beq_iff_eq.mpr c6
       have c6b1 : ((rd l0 x5_1) != a1) = false := bne_eq_false_iff_eq.mpr c6
       clear c6
       obtain ⟨y396, hy396⟩ : ∃ y_ : List Int, y_ = (([] : List Int)) := ⟨_, rfl⟩
       have hY_ := hy396; replace H : (if y396.length + l0.length < 17592186044416 then (some (y396 ++ l0)) else (none)) = some r := S.rh; clear hY_
       have Ny396 := Aside0.mk hy396
       clear hy396
       by_cases c7 : y396.length + l0.length < 17592186044416
       ·rw [if_pos c7] at H
        have LMc7 := Aside0.mk c7
        clear c7
        obtain ⟨y399, hy399⟩ : ∃ y_ : List Int, y_ = (y396 ++ l0) := ⟨_, rfl⟩
        have hY_ := hy399; replace H : (some y399) = some r := S.rh; clear hY_
        have Ny399 := Aside0.mk hy399
        clear hy399
        obtain rfl := Option.some.inj H
        have p394 : 0 ≤ (x5_1 : Int) := S.oD
        have q394 : x5_1 < (l0.length : Int) := S.oD
        obtain ⟨ad394, e394, hx394_0⟩ := Kd.at_int HR0.out x5_1 p394 q394
        cases e394
        replace hx394_0 := S.hb HB hx394_0
        replace p394 := eq_true p394
        replace q394 := eq_true q394
        have p395 : 0 ≤ (x5_1 : Int) := S.oD
        have q395 : x5_1 < (l0.length : Int) := S.oD
        obtain ⟨ad395, e395, hx395_0⟩ := Kd.at_int HR0.out x5_1 p395 q395
        obtain rfl : ad394 = ad395 := (by injection e395)
        replace hx395_0 := S.hb HB hx395_0
        replace p395 := eq_true p395
        replace q395 := eq_true q395
        go_wp2_with (first | ((with_reducible refine gate_dst (N := 32) rfl ?_); refine Kd.R_lit (Kd.int .i64) _ 3 ?hg (N := 32) ?hd (xs := ([] : List Int)) (inner := []) (ok := fun _ => True) (okp := fun _ => True) ?hr ?hp (fun _ hk => hk) trivial (Below.refl _ _) (Nat.le_refl _) (by simp) ?_; (case hd => rfl); (case hg => rfl); (case hr => first | (go_simp; done) | (go_simp; rfl)); (case hp => exact (Reps.none _ _)); intro v397 w8 ho9 hb hg_ hnew_; clear hg_ hnew_; (first | rw [← Ny396.out] at ho9 | (simp only [Int.reduceToNat] at ho9; rw [← Ny396.out] at ho9)); have HO398 := S.lwA ho9; replace HB := S.sA hb; clear hb ho9) | ((with_reducible refine gate_builtin (b := .append) (xs := #[.tmp 32, .tmp 33]) rfl ?_); at_builtin; refine Kd.R_append_rows (Kd.int .i64) (w0 := w) w.heap.size rfl (.tmp 32) (.tmp 33) 36 3 (.int .i64 0) 8 rfl Try.underlying36 info3 rfl (by decide) (by omega) v397 y396 l0 _ _ _ (fun _ => True) (fun _ => False) rfl rfl ?aO ?aR (fun _ _ h => h) (fun _ h => h.elim) ?aF ?aB ?aS ?aL ?_; (case aR => exact S.cA HR0.out); (case aB => exact S.bA); (case aF => exact (fun _ _ => trivial)); (case aO => exact (S.uR HO398.out)); (case aS => exact (below_size S.bA)); (case aL => have := LMc7.out; omega); intro v400 w10 ho hb hg hat; rw [← Ny399.out] at ho; have n0_ := Aside0.mk (hb); have n1_ := Aside0.mk (ho); clear HB; clear HO398; have HB := n0_; have HO401 := n1_; clear n0_ n1_; clear ho hb hg hat))
        go_ret
        exact ⟨_, S.eW, S.uR HO401.out, S.bA⟩
       ·rw [if_neg c7] at H
        exact absurd H (by simp)
      ·rw [if_neg c6] at H
       have c6b0 : ((rd l0 x5_1) == a1) = false := beq_eq_false_iff_ne.mpr c6
       have c6b1 : ((rd l0 x5_1) != a1) = true := bne_iff_ne.mpr c6
       obtain ⟨y402, hy402⟩ : ∃ y_ : List Int, y_ = (([] : List Int)) := ⟨_, rfl⟩
       have hY_ := hy402; replace H : (if x5_1 ≤ (l0.length : Int) then (if y402.length + (l0.take (x5_1 : Int).toNat).length < 17592186044416 then ((some (y402 ++ (l0.take (x5_1 : Int).toNat) : List Int)).bind fun y406 => ((some (([a1] : List Int) : List Int)).bind fun y409 => (if y406.length + y409.length < 17592186044416 then ((some (y406 ++ y409 : List Int)).bind fun y412 => (if y412.length + (l0.drop (x5_1 : Int).toNat).length < 17592186044416 then (some (y412 ++ (l0.drop (x5_1 : Int).toNat))) else (none))) else (none)))) else (none)) else (none)) = some r := S.rh; clear hY_
       have Ny402 := Aside0.mk hy402
       clear hy402
       have c11b0 := eq_true (S.oD : 0 ≤ x5_1)
       by_cases c12 : x5_1 ≤ (l0.length : Int)
       ·rw [if_pos c12] at H
        have c12b0 := eq_true c12
        have c12b1 : decide (x5_1 ≤ (l0.length : Int)) = true := decide_eq_true c12
        clear c12
        by_cases c13 : y402.length + (l0.take (x5_1 : Int).toNat).length < 17592186044416
        ·rw [if_pos c13] at H
         have LMc13 := Aside0.mk c13
         clear c13
         obtain ⟨y406, hy406⟩ : ∃ y_ : List Int, y_ = (y402 ++ (l0.take (x5_1 : Int).toNat)) := ⟨_, rfl⟩
         have hY_ := hy406; replace H : ((some (([a1] : List Int) : List Int)).bind fun y409 => (if y406.length + y409.length < 17592186044416 then ((some (y406 ++ y409 : List Int)).bind fun y412 => (if y412.length + (l0.drop (x5_1 : Int).toNat).length < 17592186044416 then (some (y412 ++ (l0.drop (x5_1 : Int).toNat))) else (none))) else (none))) = some r := S.rh; clear hY_
         have Ny406 := Aside0.mk hy406
         clear hy406
         obtain ⟨y409, hy409⟩ : ∃ y_ : List Int, y_ = (([a1] : List Int)) := ⟨_, rfl⟩
         have hY_ := hy409; replace H : (if y406.length + y409.length < 17592186044416 then ((some (y406 ++ y409 : List Int)).bind fun y412 => (if y412.length + (l0.drop (x5_1 : Int).toNat).length < 17592186044416 then (some (y412 ++ (l0.drop (x5_1 : Int).toNat))) else (none))) else (none)) = some r := S.rh; clear hY_
         have Ny409 := Aside0.mk hy409
         clear hy409
         by_cases c14 : y406.length + y409.length < 17592186044416
         ·rw [if_pos c14] at H
          have LMc14 := Aside0.mk c14
          clear c14
          obtain ⟨y412, hy412⟩ : ∃ y_ : List Int, y_ = (y406 ++ y409) := ⟨_, rfl⟩
          have hY_ := hy412; replace H : (if y412.length + (l0.drop (x5_1 : Int).toNat).length < 17592186044416 then (some (y412 ++ (l0.drop (x5_1 : Int).toNat))) else (none)) = some r := S.rh; clear hY_
          have Ny412 := Aside0.mk hy412
          clear hy412
          have c15b0 := eq_true (S.oD : 0 ≤ x5_1)
          have c16b0 := eq_true (S.oD : x5_1 ≤ (l0.length : Int))
          by_cases c17 : y412.length + (l0.drop (x5_1 : Int).toNat).length < 17592186044416
          ·rw [if_pos c17] at H
           have LMc17 := Aside0.mk c17
           clear c17
           obtain ⟨y416, hy416⟩ : ∃ y_ : List Int, y_ = (y412 ++ (l0.drop (x5_1 : Int).toNat)) := ⟨_, rfl⟩
           have hY_ := hy416; replace H : (some y416) = some r := S.rh; clear hY_
           have Ny416 := Aside0.mk hy416
           clear hy416
           obtain rfl := Option.some.inj H
           have p394 : 0 ≤ (x5_1 : Int) := S.oD
           have q394 : x5_1 < (l0.length : Int) := S.oD
           obtain ⟨ad394, e394, hx394_0⟩ := Kd.at_int HR0.out x5_1 p394 q394
           cases e394
           replace hx394_0 := S.hb HB hx394_0
           replace p394 := eq_true p394
           replace q394 := eq_true q394
           have p395 : 0 ≤ (x5_1 : Int) := S.oD
           have q395 : x5_1 < (l0.length : Int) := S.oD
           obtain ⟨ad395, e395, hx395_0⟩ := Kd.at_int HR0.out x5_1 p395 q395
           obtain rfl : ad394 = ad395 := (by injection e395)
           replace hx395_0 := S.hb HB hx395_0
           replace p395 := eq_true p395
           replace q395 := eq_true q395
           try go_wp2
           replace HB := Aside0.mk (below_drew1 HB.out)
           obtain ⟨i019, hi019, _, hsz19, _⟩ := info_parts info3
           obtain ⟨hcut19, hA19, hC19⟩ := print_take_of (P := Try.prog) (Value.int .i64) 0 36 3 .i64 Try.underlying36 hi019 hsz19 (some ad394) c0 l0 x5_1 (S.oD) (S.oD) HC0.out
           have HR405 := Aside0.mk (Kd.C_of_reads (h1 := fun _ => rfl) (hA19 _ (Kd.reads_of_C HR0.out)))
           have HC405 := Aside0.mk hC19
           clear hA19 hC19 hi019 hsz19
           obtain ⟨i020, hi020, _, hsz20, _⟩ := info_parts info3
           obtain ⟨A20, hcut20, hA20, hC20⟩ := print_drop_of (P := Try.prog) (Value.int .i64) 0 36 3 .i64 Try.underlying36 hi020 hsz20 (some ad394) c0 l0 x5_1 (S.oD) (S.oD) HC0.out
           have HR415 := Aside0.mk (Kd.C_of_reads (h1 := fun _ => rfl) (hA20 _ (Kd.reads_of_C HR0.out)))
           have HC415 := Aside0.mk hC20
           clear hA20 hC20 hi020 hsz20
           refine start_ (n := 13) (S := fun w' => True) (ds := []) #[false, false, false, false, false, false, false, false, false, false, false, false, false] (by kernel_rfl) rfl rfl trivial (fun hHeld => ?_); refine with_tabW spec_l6Put.tab6 spec_l6Put.bits6 (fun HT_ HW_ => ?_)
           generalize wr.drew = w18 at HB HR405 HR415 hHeld ⊢
           refine S.pS 1 36 ?_
           refine S.pS 2 37 ?_
           refine S.pS 3 38 ?_
           refine S.pS 5 40 ?_
           refine S.pS 8 43 ?_
           refine S.pS 9 44 ?_
           refine S.pS 10 45 ?_
           refine join_ (σ := Value × Value × Value) 3 #[true, true, true, true, true, true, true, false, true, true, true, false, false] (fun s_ => [(35, s_.1), (39, s_.2.1), (41, s_.2.2)]) (fun s_ w' => (Kd.R (Kd.int .i64) 3 w' w.heap.size (fun k_ => some k_ ≠ (s_.2.2 : Value).ownBlock) s_.2.1 y406) ∧ (Kd.R (Kd.int .i64) 3 w' w.heap.size (fun k_ => some k_ ≠ (s_.2.1 : Value).ownBlock) s_.2.2 y409) ∧ (Below w.heap.size w w')) ?_ ?_
           rotate_left
           ·intro hCont
            refine two_ (i := 0) (j := 6) (Ni := some 35) (Nj := some 41) #[true, true, true, true, false, true, false, false, true, true, true, false, false] #[false, true, true, true, false, true, true, false, true, true, true, false, false] rfl rfl rfl rfl (two_of HT_.out (by kernel_rfl)) (by decide) (by decide) (fun K hK => ?_) (fun K hK => ?_)
            ·skip
             refine Kd.R_lit_step (Kd.int .i64) _ 3 ?hg (N := 35) ?hd (xs := ([] : List Int)) (inner := []) (ok := fun _ => True) (okp := fun _ => True) ?hr ?hp (fun _ hk => hk) trivial (Below.refl _ _) (Nat.le_refl _) (by simp) ?_; (case hd => rfl); (case hg => rfl); (case hr => first | (go_simp; done) | (go_simp; rfl)); (case hp => exact (Reps.none _ _))
             intro v403 w21 ho22 hb hg_ hnew_
             clear hg_ hnew_
             (first | rw [← Ny402.out] at ho22 | (simp only [Int.reduceToNat] at ho22; rw [← Ny402.out] at ho22))
             have HO404 := S.lwA ho22
             replace HB := S.sA hb
             clear hb ho22
             refine hK.out _ _ trivial (fun hHeld => ?_)
             clear hK K
             refine S.nm 35 ?_
             refine two_ (i := 4) (j := 6) (Ni := some 39) (Nj := some 41) #[true, true, true, true, true, true, false, false, true, true, true, false, false] #[true, true, true, true, false, true, true, false, true, true, true, false, false] rfl rfl rfl rfl (two_of HT_.out (by kernel_rfl)) (by decide) (by decide) (fun K hK => ?_) (fun K hK => ?_)
             ·skip
              refine Kd.R_append_rows_step (Kd.int .i64) (w0 := w) w.heap.size (by rfl) (.tmp 35) (.tmp 38) 36 3 (.int .i64 0) 8 rfl Try.underlying36 info3 rfl (by decide) (by omega) v403 y402 (l0.take (x5_1 : Int).toNat) _ _ _ (fun _ => True) (fun _ => False) rfl rfl ?aO ?aR (fun _ _ h => h) (fun _ h => h.elim) ?aF ?aB ?aS ?aL ?_
              (case aR => first | ((repeat (first | exact (Kd.C_below HR405.out HB.out) | (with_reducible refine Kd.C_alloc ?_ _) | (with_reducible refine Kd.C_drewN ?_ _) | (with_reducible refine Kd.C_drew ?_))); done) | (have e_ : (l0.take (x5_1 : Int).toNat).length = x5_1.toNat := (by rw [List.length_take]; have h_ : (x5_1 : Int) ≤ (l0.length : Int) := S.oD; omega); have q_ := Kd.C_below HR405.out HB.out; rw [e_] at q_; repeat (first | exact q_ | (with_reducible refine Kd.C_alloc ?_ _) | (with_reducible refine Kd.C_drewN ?_ _) | (with_reducible refine Kd.C_drew ?_))))
              (case aB => exact S.bA)
              (case aF => exact (fun _ _ => trivial))
              (case aO => exact (S.uR HO404.out))
              (case aS => exact (below_size S.bA))
              (case aL => have := LMc13.out; have hlx_ := (show (l0.take (x5_1 : Int).toNat).length = x5_1.toNat from (by rw [List.length_take]; have h_ : (x5_1 : Int) ≤ (l0.length : Int) := S.oD; omega)); omega)
              intro v407 w23 ho hb hg hat
              rw [← Ny406.out] at ho
              have n0_ := Aside0.mk (hb)
              have n1_ := Aside0.mk (ho)
              clear HB
              clear HO404
              have HB := n0_
              have HO408 := n1_
              clear n0_ n1_
              clear ho hb hg hat
              refine hK.out _ _ trivial (fun hHeld => ?_)
              clear hK K
              refine S.nm 39 ?_
              refine S.oN 6 41 #[true, true, true, true, true, true, true, false, true, true, true, false, false] (fun K hK => ?_)
              refine Kd.R_lit_step (Kd.int .i64) _ 3 ?hg (N := 41) ?hd (xs := ([a1] : List Int)) (inner := [.int .i64 a1]) (ok := fun _ => True) (okp := fun _ => True) ?hr ?hp (fun _ hk => hk) trivial (Below.refl _ _) (Nat.le_refl _) (by simp) ?_; (case hd => rfl); (case hg => rfl); (case hr => first | (go_simp; done) | (go_simp; rfl)); (case hp => exact (Reps.one (show Kd.M (Kd.int .i64) _ _ _ a1 [.int .i64 a1] from rfl) (Reps.none _ _)))
              intro v410 w24 ho25 hb hg_ hnew_
              clear hg_ hnew_
              (first | rw [← Ny409.out] at ho25 | (simp only [Int.reduceToNat] at ho25; rw [← Ny409.out] at ho25))
              have HO411 := S.rnA ho25 HO408
              replace HO408 := S.re HO408 ho25 hb
              replace HB := S.sA hb
              clear hb ho25
              refine hK.out _ _ trivial (fun hHeld => ?_)
              clear hK K
              refine S.nm 41 ?_
              exact norm_ (by simp only [putAll, Act.put, List.setIfInBounds_toArray, List.set_cons_zero, List.set_cons_succ]) (hCont (v403, v407, v410) _ ⟨(by (with_reducible repeat (first | apply Kd.R_alloc | apply Kd.R_drewN | apply Kd.R_drew)); exact Kd.R_mono HO408.out (fun _ hk => hk.2)), (by (with_reducible repeat (first | apply Kd.R_alloc | apply Kd.R_drewN | apply Kd.R_drew)); exact Kd.R_mono HO411.out (fun _ hk => hk.2)), S.bA⟩)
             ·skip
              refine Kd.R_lit_step (Kd.int .i64) _ 3 ?hg (N := 41) ?hd (xs := ([a1] : List Int)) (inner := [.int .i64 a1]) (ok := fun _ => True) (okp := fun _ => True) ?hr ?hp (fun _ hk => hk) trivial (Below.refl _ _) (Nat.le_refl _) (by simp) ?_; (case hd => rfl); (case hg => rfl); (case hr => first | (go_simp; done) | (go_simp; rfl)); (case hp => exact (Reps.one (show Kd.M (Kd.int .i64) _ _ _ a1 [.int .i64 a1] from rfl) (Reps.none _ _)))
              intro v410 w23 ho24 hb hg_ hnew_
              clear hg_ hnew_
              (first | rw [← Ny409.out] at ho24 | (simp only [Int.reduceToNat] at ho24; rw [← Ny409.out] at ho24))
              have HO411 := S.rnA ho24 HO404
              replace HO404 := S.re HO404 ho24 hb
              replace HB := S.sA hb
              clear hb ho24
              refine hK.out _ _ trivial (fun hHeld => ?_)
              clear hK K
              refine S.nm 41 ?_
              refine S.oN 4 39 #[true, true, true, true, true, true, true, false, true, true, true, false, false] (fun K hK => ?_)
              refine Kd.R_append_rows_step (Kd.int .i64) (w0 := w) w.heap.size (by rfl) (.tmp 35) (.tmp 38) 36 3 (.int .i64 0) 8 rfl Try.underlying36 info3 rfl (by decide) (by omega) v403 y402 (l0.take (x5_1 : Int).toNat) _ _ _ (fun k_ => S.N k_ v410) (fun _ => False) rfl rfl ?aO ?aR (fun _ _ h => h) (fun _ h => h.elim) ?aF ?aB ?aS ?aL ?_
              (case aR => first | ((repeat (first | exact (Kd.C_below HR405.out HB.out) | (with_reducible refine Kd.C_alloc ?_ _) | (with_reducible refine Kd.C_drewN ?_ _) | (with_reducible refine Kd.C_drew ?_))); done) | (have e_ : (l0.take (x5_1 : Int).toNat).length = x5_1.toNat := (by rw [List.length_take]; have h_ : (x5_1 : Int) ≤ (l0.length : Int) := S.oD; omega); have q_ := Kd.C_below HR405.out HB.out; rw [e_] at q_; repeat (first | exact q_ | (with_reducible refine Kd.C_alloc ?_ _) | (with_reducible refine Kd.C_drewN ?_ _) | (with_reducible refine Kd.C_drew ?_))))
              (case aB => exact S.bA)
              (case aF => exact (fun k_ hk => Kd.fresh' (Kd.R_lt (S.uR HO411.out)) k_ hk))
              (case aO => exact (by (with_reducible repeat (first | apply Kd.R_alloc | apply Kd.R_drewN | apply Kd.R_drew)); exact Kd.R_mono HO404.out (fun _ hk => hk.2)))
              (case aS => exact (below_size S.bA))
              (case aL => have := LMc13.out; have hlx_ := (show (l0.take (x5_1 : Int).toNat).length = x5_1.toNat from (by rw [List.length_take]; have h_ : (x5_1 : Int) ≤ (l0.length : Int) := S.oD; omega)); omega)
              intro v407 w25 ho hb hg hat
              rw [← Ny406.out] at ho
              have n0_ := Aside0.mk (Kd.R_after (ok := (fun _ => True)) (S.uR HO411.out) hg hat)
              have n1_ := Aside0.mk (hb)
              have n2_ := Aside0.mk (ho)
              clear HO411
              clear HB
              clear HO404
              have HO411 := n0_
              have HB := n1_
              have HO408 := n2_
              clear n0_ n1_ n2_
              clear ho hb hg hat
              refine hK.out _ _ trivial (fun hHeld => ?_)
              clear hK K
              refine S.nm 39 ?_
              exact norm_ (by simp only [putAll, Act.put, List.setIfInBounds_toArray, List.set_cons_zero, List.set_cons_succ]) (hCont (v403, v407, v410) _ ⟨(S.uR HO408.out), (by (with_reducible repeat (first | apply Kd.R_alloc | apply Kd.R_drewN | apply Kd.R_drew)); exact Kd.R_mono HO411.out (fun _ hk => hk.2)), S.bA⟩)
            ·skip
             refine Kd.R_lit_step (Kd.int .i64) _ 3 ?hg (N := 41) ?hd (xs := ([a1] : List Int)) (inner := [.int .i64 a1]) (ok := fun _ => True) (okp := fun _ => True) ?hr ?hp (fun _ hk => hk) trivial (Below.refl _ _) (Nat.le_refl _) (by simp) ?_; (case hd => rfl); (case hg => rfl); (case hr => first | (go_simp; done) | (go_simp; rfl)); (case hp => exact (Reps.one (show Kd.M (Kd.int .i64) _ _ _ a1 [.int .i64 a1] from rfl) (Reps.none _ _)))
             intro v410 w21 ho22 hb hg_ hnew_
             clear hg_ hnew_
             (first | rw [← Ny409.out] at ho22 | (simp only [Int.reduceToNat] at ho22; rw [← Ny409.out] at ho22))
             have HO411 := S.lwA ho22
             replace HB := S.sA hb
             clear hb ho22
             refine hK.out _ _ trivial (fun hHeld => ?_)
             clear hK K
             refine S.nm 41 ?_
             refine S.oN 0 35 #[true, true, true, true, false, true, true, false, true, true, true, false, false] (fun K hK => ?_)
             refine Kd.R_lit_step (Kd.int .i64) _ 3 ?hg (N := 35) ?hd (xs := ([] : List Int)) (inner := []) (ok := fun _ => True) (okp := fun _ => True) ?hr ?hp (fun _ hk => hk) trivial (Below.refl _ _) (Nat.le_refl _) (by simp) ?_; (case hd => rfl); (case hg => rfl); (case hr => first | (go_simp; done) | (go_simp; rfl)); (case hp => exact (Reps.none _ _))
             intro v403 w23 ho24 hb hg_ hnew_
             clear hg_ hnew_
             (first | rw [← Ny402.out] at ho24 | (simp only [Int.reduceToNat] at ho24; rw [← Ny402.out] at ho24))
             have HO404 := S.rnA ho24 HO411
             replace HO411 := S.re HO411 ho24 hb
             replace HB := S.sA hb
             clear hb ho24
             refine hK.out _ _ trivial (fun hHeld => ?_)
             clear hK K
             refine S.nm 35 ?_
             refine S.oN 4 39 #[true, true, true, true, true, true, true, false, true, true, true, false, false] (fun K hK => ?_)
             refine Kd.R_append_rows_step (Kd.int .i64) (w0 := w) w.heap.size (by rfl) (.tmp 35) (.tmp 38) 36 3 (.int .i64 0) 8 rfl Try.underlying36 info3 rfl (by decide) (by omega) v403 y402 (l0.take (x5_1 : Int).toNat) _ _ _ (fun k_ => S.N k_ v410) (fun _ => False) rfl rfl ?aO ?aR (fun _ _ h => h) (fun _ h => h.elim) ?aF ?aB ?aS ?aL ?_
             (case aR => first | ((repeat (first | exact (Kd.C_below HR405.out HB.out) | (with_reducible refine Kd.C_alloc ?_ _) | (with_reducible refine Kd.C_drewN ?_ _) | (with_reducible refine Kd.C_drew ?_))); done) | (have e_ : (l0.take (x5_1 : Int).toNat).length = x5_1.toNat := (by rw [List.length_take]; have h_ : (x5_1 : Int) ≤ (l0.length : Int) := S.oD; omega); have q_ := Kd.C_below HR405.out HB.out; rw [e_] at q_; repeat (first | exact q_ | (with_reducible refine Kd.C_alloc ?_ _) | (with_reducible refine Kd.C_drewN ?_ _) | (with_reducible refine Kd.C_drew ?_))))
             (case aB => exact S.bA)
             (case aF => exact (fun k_ hk => Kd.fresh' (Kd.R_lt (S.uR HO411.out)) k_ hk))
             (case aO => exact (by (with_reducible repeat (first | apply Kd.R_alloc | apply Kd.R_drewN | apply Kd.R_drew)); exact Kd.R_mono HO404.out (fun _ hk => hk.2)))
             (case aS => exact (below_size S.bA))
             (case aL => have := LMc13.out; have hlx_ := (show (l0.take (x5_1 : Int).toNat).length = x5_1.toNat from (by rw [List.length_take]; have h_ : (x5_1 : Int) ≤ (l0.length : Int) := S.oD; omega)); omega)
             intro v407 w25 ho hb hg hat
             rw [← Ny406.out] at ho
             have n0_ := Aside0.mk (Kd.R_after (ok := (fun _ => True)) (S.uR HO411.out) hg hat)
             have n1_ := Aside0.mk (hb)
             have n2_ := Aside0.mk (ho)
             clear HO411
             clear HB
             clear HO404
             have HO411 := n0_
             have HB := n1_
             have HO408 := n2_
             clear n0_ n1_ n2_
             clear ho hb hg hat
             refine hK.out _ _ trivial (fun hHeld => ?_)
             clear hK K
             refine S.nm 39 ?_
             exact norm_ (by simp only [putAll, Act.put, List.setIfInBounds_toArray, List.set_cons_zero, List.set_cons_succ]) (hCont (v403, v407, v410) _ ⟨(S.uR HO408.out), (by (with_reducible repeat (first | apply Kd.R_alloc | apply Kd.R_drewN | apply Kd.R_drew)); exact Kd.R_mono HO411.out (fun _ hk => hk.2)), S.bA⟩)
           rintro ⟨v403, v407, v410⟩ w26 ⟨h0_, h1_, h2_⟩
           have n0_ : Aside0 (Kd.R (Kd.int .i64) 3 w26 w.heap.size (fun k_ => S.N k_ v410) v407 y406) := ⟨h0_⟩
           have n1_ : Aside0 (Kd.R (Kd.int .i64) 3 w26 w.heap.size (fun k_ => S.N k_ v407) v410 y409) := ⟨h1_⟩
           have n2_ : Aside0 (Below w.heap.size w w26) := ⟨h2_⟩
           clear HB
           clear h0_ h1_ h2_
           have HO408 := n0_
           have HO411 := n1_
           have HB := n2_
           clear n0_ n1_ n2_
           have hHeld := trivial
           obtain ⟨Ao28, co28, eo28⟩ := Kd.R_slice HO411.out
           (first | subst eo28 | (injection eo28 with f1_ f2_ f3_; have f4_ := f1_.symm; have f5_ := f3_.symm; clear f1_ f2_ f3_; subst f4_; subst f5_))
           refine norm_ (a' := ?_) ?_ ?_
           rotate_left
           ·simp only [putAll, Act.put, List.setIfInBounds_toArray, List.set_cons_zero, List.set_cons_succ]
            rfl
           refine S.oN 7 42 #[true, true, true, true, true, true, true, true, true, true, true, false, false] (fun K hK => ?_)
           refine Kd.R_append_rows_step (Kd.int .i64) (w0 := w) w.heap.size (by rfl) (.tmp 39) (.tmp 41) 36 3 (.int .i64 0) 8 rfl Try.underlying36 info3 rfl (by decide) (by omega) v407 y406 y409 _ _ _ (fun k_ => S.N k_ (.slice Ao28 y409.length co28)) (fun _ => False) rfl rfl ?aO ?aR (fun _ _ h => h) (fun _ h => h.elim) ?aF ?aB ?aS ?aL ?_
           (case aR => exact S.rd HO411)
           (case aB => exact S.bA)
           (case aF => exact (fun k_ hk => Kd.fresh' (Kd.R_lt (S.uR HO411.out)) k_ hk))
           (case aO => exact (S.uR HO408.out))
           (case aS => exact (below_size S.bA))
           (case aL => have := LMc14.out; omega)
           intro v413 w27 ho hb hg hat
           rw [← Ny412.out] at ho
           have n0_ := Aside0.mk (Kd.R_after (ok := (fun _ => True)) (by (with_reducible repeat (first | apply Kd.R_alloc | apply Kd.R_drewN | apply Kd.R_drew)); exact Kd.R_mono HO411.out (fun _ hk => ⟨trivial, hk⟩)) hg hat)
           have n1_ := Aside0.mk (hb)
           have n2_ := Aside0.mk (ho)
           clear HO411
           clear HB
           clear HO408
           have HO411 := n0_
           have HB := n1_
           have HO414 := n2_
           clear n0_ n1_ n2_
           clear ho hb hg hat
           refine hK.out _ _ trivial (fun hHeld => ?_)
           clear hK K
           refine S.nm 42 ?_
           refine S.oN 11 46 #[true, true, true, true, true, true, true, true, true, true, true, true, false] (fun K hK => ?_)
           refine Kd.R_append_rows_step (Kd.int .i64) (w0 := w) w.heap.size (by rfl) (.tmp 42) (.tmp 45) 36 3 (.int .i64 0) 8 rfl Try.underlying36 info3 rfl (by decide) (by omega) v413 y412 (l0.drop (x5_1 : Int).toNat) _ _ _ (fun k_ => S.N k_ (.slice Ao28 y409.length co28)) (fun _ => False) rfl rfl ?aO ?aR (fun _ _ h => h) (fun _ h => h.elim) ?aF ?aB ?aS ?aL ?_
           (case aR => first | (rw [← show (l0.drop (x5_1 : Int).toNat).length = (l0.length - x5_1.toNat) from List.length_drop]; repeat (first | exact (Kd.C_below HR415.out HB.out) | (with_reducible refine Kd.C_alloc ?_ _) | (with_reducible refine Kd.C_drewN ?_ _) | (with_reducible refine Kd.C_drew ?_))) | (repeat (first | exact (Kd.C_below HR415.out HB.out) | (with_reducible refine Kd.C_alloc ?_ _) | (with_reducible refine Kd.C_drewN ?_ _) | (with_reducible refine Kd.C_drew ?_))))
           (case aB => exact S.bA)
           (case aF => exact (fun k_ hk => Kd.fresh' (Kd.R_lt (S.uR HO411.out)) k_ hk))
           (case aO => exact (S.uR HO414.out))
           (case aS => exact (below_size S.bA))
           (case aL => have := LMc17.out; have hlx_ := (show (l0.drop (x5_1 : Int).toNat).length = (l0.length - x5_1.toNat) from List.length_drop); omega)
           intro v417 w29 ho hb hg hat
           rw [← Ny416.out] at ho
           have n0_ := Aside0.mk (Kd.R_after (ok := (fun _ => True)) (S.uR HO411.out) hg hat)
           have n1_ := Aside0.mk (hb)
           have n2_ := Aside0.mk (ho)
           clear HO411
           clear HB
           clear HO414
           have HO411 := n0_
           have HB := n1_
           have HO418 := n2_
           clear n0_ n1_ n2_
           clear ho hb hg hat
           refine hK.out _ _ trivial (fun hHeld => ?_)
           clear hK K
           refine S.nm 46 ?_
           refine S.pS 12 4 ?_
           refine done_ (done_of HT_.out (by kernel_rfl)) ?_
           try go_wp2
           go_ret
           exact ⟨_, S.eW, by (with_reducible repeat (first | apply Kd.R_alloc | apply Kd.R_drewN | apply Kd.R_drew)); exact Kd.R_mono HO418.out (fun _ hk => trivial), S.bA⟩
          ·rw [if_neg c17] at H
           exact absurd H (by simp)
         ·rw [if_neg c14] at H
          exact absurd H (by simp)
        ·rw [if_neg c13] at H
         exact absurd H (by simp)
       ·rw [if_neg c12] at H
        exact absurd H (by simp)
    ·rw [if_neg c4] at H
     exact absurd H (by simp)
   ·obtain ⟨y419, hy419⟩ : ∃ y_ : List Int, y_ = (([] : List Int)) := ⟨_, rfl⟩
    have hY_ := hy419; replace H : (if 0 ≤ x5_1 then (if x5_1 ≤ (l0.length : Int) then (if y419.length + (l0.take (x5_1 : Int).toNat).length < 17592186044416 then ((some (y419 ++ (l0.take (x5_1 : Int).toNat) : List Int)).bind fun y423 => ((some (([a1] : List Int) : List Int)).bind fun y426 => (if y423.length + y426.length < 17592186044416 then ((some (y423 ++ y426 : List Int)).bind fun y429 => (if y429.length + (l0.drop (x5_1 : Int).toNat).length < 17592186044416 then (some (y429 ++ (l0.drop (x5_1 : Int).toNat))) else (none))) else (none)))) else (none)) else (none)) else (none)) = some r := S.rh; clear hY_
    have Ny419 := Aside0.mk hy419
    clear hy419
    by_cases c30 : 0 ≤ x5_1
    ·rw [if_pos c30] at H
     have c30b0 := eq_true c30
     have c30b1 : decide (0 ≤ x5_1) = true := decide_eq_true c30
     clear c30
     by_cases c31 : x5_1 ≤ (l0.length : Int)
     ·rw [if_pos c31] at H
      have c31b0 := eq_true c31
      have c31b1 : decide (x5_1 ≤ (l0.length : Int)) = true := decide_eq_true c31
      clear c31
      by_cases c32 : y419.length + (l0.take (x5_1 : Int).toNat).length < 17592186044416
      ·rw [if_pos c32] at H
       have LMc32 := Aside0.mk c32
       clear c32
       obtain ⟨y423, hy423⟩ : ∃ y_ : List Int, y_ = (y419 ++ (l0.take (x5_1 : Int).toNat)) := ⟨_, rfl⟩
       have hY_ := hy423; replace H : ((some (([a1] : List Int) : List Int)).bind fun y426 => (if y423.length + y426.length < 17592186044416 then ((some (y423 ++ y426 : List Int)).bind fun y429 => (if y429.length + (l0.drop (x5_1 : Int).toNat).length < 17592186044416 then (some (y429 ++ (l0.drop (x5_1 : Int).toNat))) else (none))) else (none))) = some r := S.rh; clear hY_
       have Ny423 := Aside0.mk hy423
       clear hy423
       obtain ⟨y426, hy426⟩ : ∃ y_ : List Int, y_ = (([a1] : List Int)) := ⟨_, rfl⟩
       have hY_ := hy426; replace H : (if y423.length + y426.length < 17592186044416 then ((some (y423 ++ y426 : List Int)).bind fun y429 => (if y429.length + (l0.drop (x5_1 : Int).toNat).length < 17592186044416 then (some (y429 ++ (l0.drop (x5_1 : Int).toNat))) else (none))) else (none)) = some r := S.rh; clear hY_
       have Ny426 := Aside0.mk hy426
       clear hy426
       by_cases c33 : y423.length + y426.length < 17592186044416
       ·rw [if_pos c33] at H
        have LMc33 := Aside0.mk c33
        clear c33
        obtain ⟨y429, hy429⟩ : ∃ y_ : List Int, y_ = (y423 ++ y426) := ⟨_, rfl⟩
        have hY_ := hy429; replace H : (if y429.length + (l0.drop (x5_1 : Int).toNat).length < 17592186044416 then (some (y429 ++ (l0.drop (x5_1 : Int).toNat))) else (none)) = some r := S.rh; clear hY_
        have Ny429 := Aside0.mk hy429
        clear hy429
        have c34b0 := eq_true (S.oD : 0 ≤ x5_1)
        have c35b0 := eq_true (S.oD : x5_1 ≤ (l0.length : Int))
        by_cases c36 : y429.length + (l0.drop (x5_1 : Int).toNat).length < 17592186044416
        ·rw [if_pos c36] at H
         have LMc36 := Aside0.mk c36
         clear c36
         obtain ⟨y433, hy433⟩ : ∃ y_ : List Int, y_ = (y429 ++ (l0.drop (x5_1 : Int).toNat)) := ⟨_, rfl⟩
         have hY_ := hy433; replace H : (some y433) = some r := S.rh; clear hY_
         have Ny433 := Aside0.mk hy433
         clear hy433
         obtain rfl := Option.some.inj H
         try go_wp2
         replace HB := Aside0.mk (below_drew1 HB.out)
         obtain ⟨i038, hi038, _, hsz38, _⟩ := info_parts info3
         obtain ⟨hcut38, hA38, hC38⟩ := print_take_of (P := Try.prog) (Value.int .i64) 0 36 3 .i64 Try.underlying36 hi038 hsz38 A0 c0 l0 x5_1 (S.oD) (S.oD) HC0.out
         have HR422 := Aside0.mk (Kd.C_of_reads (h1 := fun _ => rfl) (hA38 _ (Kd.reads_of_C HR0.out)))
         have HC422 := Aside0.mk hC38
         clear hA38 hC38 hi038 hsz38
         obtain ⟨i039, hi039, _, hsz39, _⟩ := info_parts info3
         obtain ⟨A39, hcut39, hA39, hC39⟩ := print_drop_of (P := Try.prog) (Value.int .i64) 0 36 3 .i64 Try.underlying36 hi039 hsz39 A0 c0 l0 x5_1 (S.oD) (S.oD) HC0.out
         have HR432 := Aside0.mk (Kd.C_of_reads (h1 := fun _ => rfl) (hA39 _ (Kd.reads_of_C HR0.out)))
         have HC432 := Aside0.mk hC39
         clear hA39 hC39 hi039 hsz39
         refine start_ (n := 13) (S := fun w' => True) (ds := []) #[false, false, false, false, false, false, false, false, false, false, false, false, false] (by kernel_rfl) rfl rfl trivial (fun hHeld => ?_); refine with_tabW spec_l6Put.tab6 spec_l6Put.bits6 (fun HT_ HW_ => ?_)
         generalize wr.drew = w37 at HB HR422 HR432 hHeld ⊢
         refine S.pS 1 36 ?_
         refine S.pS 2 37 ?_
         refine S.pS 3 38 ?_
         refine S.pS 5 40 ?_
         refine S.pS 8 43 ?_
         refine S.pS 9 44 ?_
         refine S.pS 10 45 ?_
         refine join_ (σ := Value × Value × Value) 3 #[true, true, true, true, true, true, true, false, true, true, true, false, false] (fun s_ => [(35, s_.1), (39, s_.2.1), (41, s_.2.2)]) (fun s_ w' => (Kd.R (Kd.int .i64) 3 w' w.heap.size (fun k_ => some k_ ≠ (s_.2.2 : Value).ownBlock) s_.2.1 y423) ∧ (Kd.R (Kd.int .i64) 3 w' w.heap.size (fun k_ => some k_ ≠ (s_.2.1 : Value).ownBlock) s_.2.2 y426) ∧ (Below w.heap.size w w')) ?_ ?_
         rotate_left
         ·intro hCont
          refine two_ (i := 0) (j := 6) (Ni := some 35) (Nj := some 41) #[true, true, true, true, false, true, false, false, true, true, true, false, false] #[false, true, true, true, false, true, true, false, true, true, true, false, false] rfl rfl rfl rfl (two_of HT_.out (by kernel_rfl)) (by decide) (by decide) (fun K hK => ?_) (fun K hK => ?_)
          ·skip
           refine Kd.R_lit_step (Kd.int .i64) _ 3 ?hg (N := 35) ?hd (xs := ([] : List Int)) (inner := []) (ok := fun _ => True) (okp := fun _ => True) ?hr ?hp (fun _ hk => hk) trivial (Below.refl _ _) (Nat.le_refl _) (by simp) ?_; (case hd => rfl); (case hg => rfl); (case hr => first | (go_simp; done) | (go_simp; rfl)); (case hp => exact (Reps.none _ _))
           intro v420 w40 ho41 hb hg_ hnew_
           clear hg_ hnew_
           (first | rw [← Ny419.out] at ho41 | (simp only [Int.reduceToNat] at ho41; rw [← Ny419.out] at ho41))
           have HO421 := S.lwA ho41
           replace HB := S.sA hb
           clear hb ho41
           refine hK.out _ _ trivial (fun hHeld => ?_)
           clear hK K
           refine S.nm 35 ?_
           refine two_ (i := 4) (j := 6) (Ni := some 39) (Nj := some 41) #[true, true, true, true, true, true, false, false, true, true, true, false, false] #[true, true, true, true, false, true, true, false, true, true, true, false, false] rfl rfl rfl rfl (two_of HT_.out (by kernel_rfl)) (by decide) (by decide) (fun K hK => ?_) (fun K hK => ?_)
           ·skip
            refine Kd.R_append_rows_step (Kd.int .i64) (w0 := w) w.heap.size (by rfl) (.tmp 35) (.tmp 38) 36 3 (.int .i64 0) 8 rfl Try.underlying36 info3 rfl (by decide) (by omega) v420 y419 (l0.take (x5_1 : Int).toNat) _ _ _ (fun _ => True) (fun _ => False) rfl rfl ?aO ?aR (fun _ _ h => h) (fun _ h => h.elim) ?aF ?aB ?aS ?aL ?_
            (case aR => first | ((repeat (first | exact (Kd.C_below HR422.out HB.out) | (with_reducible refine Kd.C_alloc ?_ _) | (with_reducible refine Kd.C_drewN ?_ _) | (with_reducible refine Kd.C_drew ?_))); done) | (have e_ : (l0.take (x5_1 : Int).toNat).length = x5_1.toNat := (by rw [List.length_take]; have h_ : (x5_1 : Int) ≤ (l0.length : Int) := S.oD; omega); have q_ := Kd.C_below HR422.out HB.out; rw [e_] at q_; repeat (first | exact q_ | (with_reducible refine Kd.C_alloc ?_ _) | (with_reducible refine Kd.C_drewN ?_ _) | (with_reducible refine Kd.C_drew ?_))))
            (case aB => exact S.bA)
            (case aF => exact (fun _ _ => trivial))
            (case aO => exact (S.uR HO421.out))
            (case aS => exact (below_size S.bA))
            (case aL => have := LMc32.out; have hlx_ := (show (l0.take (x5_1 : Int).toNat).length = x5_1.toNat from (by rw [List.length_take]; have h_ : (x5_1 : Int) ≤ (l0.length : Int) := S.oD; omega)); omega)
            intro v424 w42 ho hb hg hat
            rw [← Ny423.out] at ho
            have n0_ := Aside0.mk (hb)
            have n1_ := Aside0.mk (ho)
            clear HB
            clear HO421
            have HB := n0_
            have HO425 := n1_
            clear n0_ n1_
            clear ho hb hg hat
            refine hK.out _ _ trivial (fun hHeld => ?_)
            clear hK K
            refine S.nm 39 ?_
            refine S.oN 6 41 #[true, true, true, true, true, true, true, false, true, true, true, false, false] (fun K hK => ?_)
            refine Kd.R_lit_step (Kd.int .i64) _ 3 ?hg (N := 41) ?hd (xs := ([a1] : List Int)) (inner := [.int .i64 a1]) (ok := fun _ => True) (okp := fun _ => True) ?hr ?hp (fun _ hk => hk) trivial (Below.refl _ _) (Nat.le_refl _) (by simp) ?_; (case hd => rfl); (case hg => rfl); (case hr => first | (go_simp; done) | (go_simp; rfl)); (case hp => exact (Reps.one (show Kd.M (Kd.int .i64) _ _ _ a1 [.int .i64 a1] from rfl) (Reps.none _ _)))
            intro v427 w43 ho44 hb hg_ hnew_
            clear hg_ hnew_
            (first | rw [← Ny426.out] at ho44 | (simp only [Int.reduceToNat] at ho44; rw [← Ny426.out] at ho44))
            have HO428 := S.rnA ho44 HO425
            replace HO425 := S.re HO425 ho44 hb
            replace HB := S.sA hb
            clear hb ho44
            refine hK.out _ _ trivial (fun hHeld => ?_)
            clear hK K
            refine S.nm 41 ?_
            exact norm_ (by simp only [putAll, Act.put, List.setIfInBounds_toArray, List.set_cons_zero, List.set_cons_succ]) (hCont (v420, v424, v427) _ ⟨(by (with_reducible repeat (first | apply Kd.R_alloc | apply Kd.R_drewN | apply Kd.R_drew)); exact Kd.R_mono HO425.out (fun _ hk => hk.2)), (by (with_reducible repeat (first | apply Kd.R_alloc | apply Kd.R_drewN | apply Kd.R_drew)); exact Kd.R_mono HO428.out (fun _ hk => hk.2)), S.bA⟩)
           ·skip
            refine Kd.R_lit_step (Kd.int .i64) _ 3 ?hg (N := 41) ?hd (xs := ([a1] : List Int)) (inner := [.int .i64 a1]) (ok := fun _ => True) (okp := fun _ => True) ?hr ?hp (fun _ hk => hk) trivial (Below.refl _ _) (Nat.le_refl _) (by simp) ?_; (case hd => rfl); (case hg => rfl); (case hr => first | (go_simp; done) | (go_simp; rfl)); (case hp => exact (Reps.one (show Kd.M (Kd.int .i64) _ _ _ a1 [.int .i64 a1] from rfl) (Reps.none _ _)))
            intro v427 w42 ho43 hb hg_ hnew_
            clear hg_ hnew_
            (first | rw [← Ny426.out] at ho43 | (simp only [Int.reduceToNat] at ho43; rw [← Ny426.out] at ho43))
            have HO428 := S.rnA ho43 HO421
            replace HO421 := S.re HO421 ho43 hb
            replace HB := S.sA hb
            clear hb ho43
            refine hK.out _ _ trivial (fun hHeld => ?_)
            clear hK K
            refine S.nm 41 ?_
            refine S.oN 4 39 #[true, true, true, true, true, true, true, false, true, true, true, false, false] (fun K hK => ?_)
            refine Kd.R_append_rows_step (Kd.int .i64) (w0 := w) w.heap.size (by rfl) (.tmp 35) (.tmp 38) 36 3 (.int .i64 0) 8 rfl Try.underlying36 info3 rfl (by decide) (by omega) v420 y419 (l0.take (x5_1 : Int).toNat) _ _ _ (fun k_ => S.N k_ v427) (fun _ => False) rfl rfl ?aO ?aR (fun _ _ h => h) (fun _ h => h.elim) ?aF ?aB ?aS ?aL ?_
            (case aR => first | ((repeat (first | exact (Kd.C_below HR422.out HB.out) | (with_reducible refine Kd.C_alloc ?_ _) | (with_reducible refine Kd.C_drewN ?_ _) | (with_reducible refine Kd.C_drew ?_))); done) | (have e_ : (l0.take (x5_1 : Int).toNat).length = x5_1.toNat := (by rw [List.length_take]; have h_ : (x5_1 : Int) ≤ (l0.length : Int) := S.oD; omega); have q_ := Kd.C_below HR422.out HB.out; rw [e_] at q_; repeat (first | exact q_ | (with_reducible refine Kd.C_alloc ?_ _) | (with_reducible refine Kd.C_drewN ?_ _) | (with_reducible refine Kd.C_drew ?_))))
            (case aB => exact S.bA)
            (case aF => exact (fun k_ hk => Kd.fresh' (Kd.R_lt (S.uR HO428.out)) k_ hk))
            (case aO => exact (by (with_reducible repeat (first | apply Kd.R_alloc | apply Kd.R_drewN | apply Kd.R_drew)); exact Kd.R_mono HO421.out (fun _ hk => hk.2)))
            (case aS => exact (below_size S.bA))
            (case aL => have := LMc32.out; have hlx_ := (show (l0.take (x5_1 : Int).toNat).length = x5_1.toNat from (by rw [List.length_take]; have h_ : (x5_1 : Int) ≤ (l0.length : Int) := S.oD; omega)); omega)
            intro v424 w44 ho hb hg hat
            rw [← Ny423.out] at ho
            have n0_ := Aside0.mk (Kd.R_after (ok := (fun _ => True)) (S.uR HO428.out) hg hat)
            have n1_ := Aside0.mk (hb)
            have n2_ := Aside0.mk (ho)
            clear HO428
            clear HB
            clear HO421
            have HO428 := n0_
            have HB := n1_
            have HO425 := n2_
            clear n0_ n1_ n2_
            clear ho hb hg hat
            refine hK.out _ _ trivial (fun hHeld => ?_)
            clear hK K
            refine S.nm 39 ?_
            exact norm_ (by simp only [putAll, Act.put, List.setIfInBounds_toArray, List.set_cons_zero, List.set_cons_succ]) (hCont (v420, v424, v427) _ ⟨(S.uR HO425.out), (by (with_reducible repeat (first | apply Kd.R_alloc | apply Kd.R_drewN | apply Kd.R_drew)); exact Kd.R_mono HO428.out (fun _ hk => hk.2)), S.bA⟩)
          ·skip
           refine Kd.R_lit_step (Kd.int .i64) _ 3 ?hg (N := 41) ?hd (xs := ([a1] : List Int)) (inner := [.int .i64 a1]) (ok := fun _ => True) (okp := fun _ => True) ?hr ?hp (fun _ hk => hk) trivial (Below.refl _ _) (Nat.le_refl _) (by simp) ?_; (case hd => rfl); (case hg => rfl); (case hr => first | (go_simp; done) | (go_simp; rfl)); (case hp => exact (Reps.one (show Kd.M (Kd.int .i64) _ _ _ a1 [.int .i64 a1] from rfl) (Reps.none _ _)))
           intro v427 w40 ho41 hb hg_ hnew_
           clear hg_ hnew_
           (first | rw [← Ny426.out] at ho41 | (simp only [Int.reduceToNat] at ho41; rw [← Ny426.out] at ho41))
           have HO428 := S.lwA ho41
           replace HB := S.sA hb
           clear hb ho41
           refine hK.out _ _ trivial (fun hHeld => ?_)
           clear hK K
           refine S.nm 41 ?_
           refine S.oN 0 35 #[true, true, true, true, false, true, true, false, true, true, true, false, false] (fun K hK => ?_)
           refine Kd.R_lit_step (Kd.int .i64) _ 3 ?hg (N := 35) ?hd (xs := ([] : List Int)) (inner := []) (ok := fun _ => True) (okp := fun _ => True) ?hr ?hp (fun _ hk => hk) trivial (Below.refl _ _) (Nat.le_refl _) (by simp) ?_; (case hd => rfl); (case hg => rfl); (case hr => first | (go_simp; done) | (go_simp; rfl)); (case hp => exact (Reps.none _ _))
           intro v420 w42 ho43 hb hg_ hnew_
           clear hg_ hnew_
           (first | rw [← Ny419.out] at ho43 | (simp only [Int.reduceToNat] at ho43; rw [← Ny419.out] at ho43))
           have HO421 := S.rnA ho43 HO428
           replace HO428 := S.re HO428 ho43 hb
           replace HB := S.sA hb
           clear hb ho43
           refine hK.out _ _ trivial (fun hHeld => ?_)
           clear hK K
           refine S.nm 35 ?_
           refine S.oN 4 39 #[true, true, true, true, true, true, true, false, true, true, true, false, false] (fun K hK => ?_)
           refine Kd.R_append_rows_step (Kd.int .i64) (w0 := w) w.heap.size (by rfl) (.tmp 35) (.tmp 38) 36 3 (.int .i64 0) 8 rfl Try.underlying36 info3 rfl (by decide) (by omega) v420 y419 (l0.take (x5_1 : Int).toNat) _ _ _ (fun k_ => S.N k_ v427) (fun _ => False) rfl rfl ?aO ?aR (fun _ _ h => h) (fun _ h => h.elim) ?aF ?aB ?aS ?aL ?_
           (case aR => first | ((repeat (first | exact (Kd.C_below HR422.out HB.out) | (with_reducible refine Kd.C_alloc ?_ _) | (with_reducible refine Kd.C_drewN ?_ _) | (with_reducible refine Kd.C_drew ?_))); done) | (have e_ : (l0.take (x5_1 : Int).toNat).length = x5_1.toNat := (by rw [List.length_take]; have h_ : (x5_1 : Int) ≤ (l0.length : Int) := S.oD; omega); have q_ := Kd.C_below HR422.out HB.out; rw [e_] at q_; repeat (first | exact q_ | (with_reducible refine Kd.C_alloc ?_ _) | (with_reducible refine Kd.C_drewN ?_ _) | (with_reducible refine Kd.C_drew ?_))))
           (case aB => exact S.bA)
           (case aF => exact (fun k_ hk => Kd.fresh' (Kd.R_lt (S.uR HO428.out)) k_ hk))
           (case aO => exact (by (with_reducible repeat (first | apply Kd.R_alloc | apply Kd.R_drewN | apply Kd.R_drew)); exact Kd.R_mono HO421.out (fun _ hk => hk.2)))
           (case aS => exact (below_size S.bA))
           (case aL => have := LMc32.out; have hlx_ := (show (l0.take (x5_1 : Int).toNat).length = x5_1.toNat from (by rw [List.length_take]; have h_ : (x5_1 : Int) ≤ (l0.length : Int) := S.oD; omega)); omega)
           intro v424 w44 ho hb hg hat
           rw [← Ny423.out] at ho
           have n0_ := Aside0.mk (Kd.R_after (ok := (fun _ => True)) (S.uR HO428.out) hg hat)
           have n1_ := Aside0.mk (hb)
           have n2_ := Aside0.mk (ho)
           clear HO428
           clear HB
           clear HO421
           have HO428 := n0_
           have HB := n1_
           have HO425 := n2_
           clear n0_ n1_ n2_
           clear ho hb hg hat
           refine hK.out _ _ trivial (fun hHeld => ?_)
           clear hK K
           refine S.nm 39 ?_
           exact norm_ (by simp only [putAll, Act.put, List.setIfInBounds_toArray, List.set_cons_zero, List.set_cons_succ]) (hCont (v420, v424, v427) _ ⟨(S.uR HO425.out), (by (with_reducible repeat (first | apply Kd.R_alloc | apply Kd.R_drewN | apply Kd.R_drew)); exact Kd.R_mono HO428.out (fun _ hk => hk.2)), S.bA⟩)
         rintro ⟨v420, v424, v427⟩ w45 ⟨h0_, h1_, h2_⟩
         have n0_ : Aside0 (Kd.R (Kd.int .i64) 3 w45 w.heap.size (fun k_ => S.N k_ v427) v424 y423) := ⟨h0_⟩
         have n1_ : Aside0 (Kd.R (Kd.int .i64) 3 w45 w.heap.size (fun k_ => S.N k_ v424) v427 y426) := ⟨h1_⟩
         have n2_ : Aside0 (Below w.heap.size w w45) := ⟨h2_⟩
         clear HB
         clear h0_ h1_ h2_
         have HO425 := n0_
         have HO428 := n1_
         have HB := n2_
         clear n0_ n1_ n2_
         have hHeld := trivial
         obtain ⟨Ao47, co47, eo47⟩ := Kd.R_slice HO428.out
         (first | subst eo47 | (injection eo47 with f1_ f2_ f3_; have f4_ := f1_.symm; have f5_ := f3_.symm; clear f1_ f2_ f3_; subst f4_; subst f5_))
         refine norm_ (a' := ?_) ?_ ?_
         rotate_left
         ·simp only [putAll, Act.put, List.setIfInBounds_toArray, List.set_cons_zero, List.set_cons_succ]
          rfl
         refine S.oN 7 42 #[true, true, true, true, true, true, true, true, true, true, true, false, false] (fun K hK => ?_)
         refine Kd.R_append_rows_step (Kd.int .i64) (w0 := w) w.heap.size (by rfl) (.tmp 39) (.tmp 41) 36 3 (.int .i64 0) 8 rfl Try.underlying36 info3 rfl (by decide) (by omega) v424 y423 y426 _ _ _ (fun k_ => S.N k_ (.slice Ao47 y426.length co47)) (fun _ => False) rfl rfl ?aO ?aR (fun _ _ h => h) (fun _ h => h.elim) ?aF ?aB ?aS ?aL ?_
         (case aR => exact S.rd HO428)
         (case aB => exact S.bA)
         (case aF => exact (fun k_ hk => Kd.fresh' (Kd.R_lt (S.uR HO428.out)) k_ hk))
         (case aO => exact (S.uR HO425.out))
         (case aS => exact (below_size S.bA))
         (case aL => have := LMc33.out; omega)
         intro v430 w46 ho hb hg hat
         rw [← Ny429.out] at ho
         have n0_ := Aside0.mk (Kd.R_after (ok := (fun _ => True)) (by (with_reducible repeat (first | apply Kd.R_alloc | apply Kd.R_drewN | apply Kd.R_drew)); exact Kd.R_mono HO428.out (fun _ hk => ⟨trivial, hk⟩)) hg hat)
         have n1_ := Aside0.mk (hb)
         have n2_ := Aside0.mk (ho)
         clear HO428
         clear HB
         clear HO425
         have HO428 := n0_
         have HB := n1_
         have HO431 := n2_
         clear n0_ n1_ n2_
         clear ho hb hg hat
         refine hK.out _ _ trivial (fun hHeld => ?_)
         clear hK K
         refine S.nm 42 ?_
         refine S.oN 11 46 #[true, true, true, true, true, true, true, true, true, true, true, true, false] (fun K hK => ?_)
         refine Kd.R_append_rows_step (Kd.int .i64) (w0 := w) w.heap.size (by rfl) (.tmp 42) (.tmp 45) 36 3 (.int .i64 0) 8 rfl Try.underlying36 info3 rfl (by decide) (by omega) v430 y429 (l0.drop (x5_1 : Int).toNat) _ _ _ (fun k_ => S.N k_ (.slice Ao47 y426.length co47)) (fun _ => False) rfl rfl ?aO ?aR (fun _ _ h => h) (fun _ h => h.elim) ?aF ?aB ?aS ?aL ?_
         (case aR => first | (rw [← show (l0.drop (x5_1 : Int).toNat).length = (l0.length - x5_1.toNat) from List.length_drop]; repeat (first | exact (Kd.C_below HR432.out HB.out) | (with_reducible refine Kd.C_alloc ?_ _) | (with_reducible refine Kd.C_drewN ?_ _) | (with_reducible refine Kd.C_drew ?_))) | (repeat (first | exact (Kd.C_below HR432.out HB.out) | (with_reducible refine Kd.C_alloc ?_ _) | (with_reducible refine Kd.C_drewN ?_ _) | (with_reducible refine Kd.C_drew ?_))))
         (case aB => exact S.bA)
         (case aF => exact (fun k_ hk => Kd.fresh' (Kd.R_lt (S.uR HO428.out)) k_ hk))
         (case aO => exact (S.uR HO431.out))
         (case aS => exact (below_size S.bA))
         (case aL => have := LMc36.out; have hlx_ := (show (l0.drop (x5_1 : Int).toNat).length = (l0.length - x5_1.toNat) from List.length_drop); omega)
         intro v434 w48 ho hb hg hat
         rw [← Ny433.out] at ho
         have n0_ := Aside0.mk (Kd.R_after (ok := (fun _ => True)) (S.uR HO428.out) hg hat)
         have n1_ := Aside0.mk (hb)
         have n2_ := Aside0.mk (ho)
         clear HO428
         clear HB
         clear HO431
         have HO428 := n0_
         have HB := n1_
         have HO435 := n2_
         clear n0_ n1_ n2_
         clear ho hb hg hat
         refine hK.out _ _ trivial (fun hHeld => ?_)
         clear hK K
         refine S.nm 46 ?_
         refine S.pS 12 4 ?_
         refine done_ (done_of HT_.out (by kernel_rfl)) ?_
         try go_wp2
         go_ret
         exact ⟨_, S.eW, by (with_reducible repeat (first | apply Kd.R_alloc | apply Kd.R_drewN | apply Kd.R_drew)); exact Kd.R_mono HO435.out (fun _ hk => trivial), S.bA⟩
        ·rw [if_neg c36] at H
         exact absurd H (by simp)
       ·rw [if_neg c33] at H
        exact absurd H (by simp)
      ·rw [if_neg c32] at H
       exact absurd H (by simp)
     ·rw [if_neg c31] at H
      exact absurd H (by simp)
    ·rw [if_neg c30] at H
     exact absurd H (by simp)
end Go.Proofs.Ytjgigmghcfdomaa.PFnSwitched
