/- Printed by a program: what the Go functions compute, as plain Lean functions (.f), and the proofs that the machine's calls come to just that (.calls). -/
import Derived.Test.YtjgigmghcfdomaaPFnExactSwitchSecondsx0
import Derived.Test.YtjgigmghcfdomaaPFnExactSwitchSecondsx3
import Derived.Test.YtjgigmghcfdomaaPFnExactSwitchSecondsx7
import Derived.Test.YtjgigmghcfdomaaPFnExactSwitchSecondsx8
namespace Go.Proofs.Ytjgigmghcfdomaa.PFnExactSwitchSeconds
open Go.RowKit Go.Proofs.YtjgigmghcfdomaaW.PrintWords Go.Proofs.YtjgigmghcfdomaaW.PrintLast Go.Proofs.YtjgigmghcfdomaaW.PrintMore
attribute [local go_sem] max2_int min2_int max_two min_two max_three min_three max_four min_four   -- for this text's walks alone
set_option linter.unusedVariables false
set_option linter.unusedSimpArgs false

/-! ### spec_IsPlan: function 65 -/
def spec_IsPlan.l0 : Nat → List (S71) → List (S85) → Int → Option (Bool)
 | 0, _, _, _ => none
 | k + 1, x0, x1, x5 => if x5 < (x1.length : Int) then (if 0 ≤ x5 then (if (((rd_T85 x1 x5).f0).length : Int) = 0 then (some false) else ((spec_IsTogether.f k x0 ((rd_T85 x1 x5).f0)).bind fun t214 => (if t214 = true then ((spec_LeastGreen.f k x0 ((rd_T85 x1 x5).f0)).bind fun t217 => ((spec_l1In.f ((rd_T85 x1 x5).f1) t217 60).bind fun t218 => (if t218 = true then (spec_IsPlan.l0 k x0 x1 (wrap64 (x5 + 1))) else (some false)))) else (some false)))) else (none)) else ((spec_l8Stages.f k x1).bind fun t208 => ((spec_Covers.f k x0 t208).bind fun t211 => (some t211)))
def spec_IsPlan.f (k : Nat) (l0 : List (S71)) (l1 : List (S85)) : Option (Bool) := (spec_l1In.f (l1.length : Int) 1 6).bind fun t207 => (if t207 = true then (spec_IsPlan.l0 k l0 l1 0) else (some false))
def spec_IsPlan.T6 : Bool × List (List Nat × List Nat) := (true, [([], []), ([], []), ([0, 1], [0, 1]), ([2], [2]), ([3], [3]), ([4], [4]), ([5], [5]), ([6], [6]), ([7], [7]), ([7], [7]), ([7], [7]), ([9, 10, 7], [7, 9, 10]), ([11, 7], [7, 11]), ([12, 7], [7, 12]), ([8, 13, 7, 7], [7, 8, 13]), ([14, 7], [7, 14]), ([7, 15], [7, 15]), ([16, 14], [16]), ([17], [17]), ([17], [17]), ([18, 19, 17], [17, 18, 19]), ([20, 17], [17, 20]), ([21, 17], [17, 21]), ([17], [17]), ([17], [17]), ([17], [17]), ([24, 25, 17], [17, 24, 25]), ([26, 17], [17, 26]), ([27, 17], [17, 27]), ([23, 28, 17, 17], [17, 23, 28]), ([22, 29, 29, 17], [17, 22, 29]), ([30, 17], [17, 30]), ([17, 31], [17, 31])])
def spec_IsPlan.B6 : List Nat := [0, 0, 3, 7, 15, 31, 63, 127, 255, 255, 255, 1791, 3839, 7935, 16383, 32767, 65535, 131071, 262143, 262143, 1048575, 2097151, 4194303, 262143, 262143, 262143, 50593791, 117702655, 251920383, 528744447, 1073741823, 2147483647, 4294967295]
theorem spec_IsPlan.tab6 : rtab .any (opsOf Try.f65 6) = spec_IsPlan.T6 := by kernel_rfl
theorem spec_IsPlan.bits6 : waitsOk spec_IsPlan.T6.2 spec_IsPlan.B6 = true := by kernel_rfl
set_option maxHeartbeats 8000000 in
set_option maxRecDepth 100000 in
theorem spec_IsPlan.calls (k : Nat) (A0 : Option Addr) (c0 : Nat) (l0 : List (S71)) (A1 : Option Addr) (c1 : Nat) (l1 : List (S85)) (r : Bool) (w : World) (hr0 : Kd.C k71 w A0 l0.length l0) (hc0 : l0.length ≤ c0) (hr1 : Kd.C k85 w A1 l1.length l1) (hc1 : l1.length ≤ c1) (h : spec_IsPlan.f k l0 l1 = some r) :
  Calls Try.prog 65 #[.slice A0 l0.length c0, .slice A1 l1.length c1] w fun e w' => e = .returned (.bool r) ∧ Below w.heap.size w w' := by
 have HR0 := Aside0.mk hr0
 have HC0 := Aside0.mk hc0
 clear hr0 hc0
 have HR1 := Aside0.mk hr1
 have HC1 := Aside0.mk hc1
 clear hr1 hc1
 have HB := Aside0.mk (Below.refl w.heap.size w)
 have H : ((spec_l1In.f (l1.length : Int) 1 6).bind fun t207 => (if t207 = true then (spec_IsPlan.l0 k l0 l1 0) else (some false))) = some r := h
 clear h
 replace H := S.bd H; obtain ⟨t207, A3, H⟩ := H
 (try dsimp only at H)
 replace H := S.db H; rcases H with ⟨rfl, H⟩ | ⟨rfl, H⟩
 ·have H' := Aside0.mk H
  clear H
  go_enter Try.func65, Try.ntmps65
  go_wp2_with (first | ((with_reducible refine gate_callee (f := 58) rfl ?_); refine S.gL (some 8) Try.func58 #[.int .i64 (l1.length : Int), .int .i64 1, .int .i64 6] ?_; (with_reducible refine (spec_l1In.calls (l1.length : Int) 1 6 true _ A3.out).mono ?_); rintro e w' ⟨rfl, ⟨nd, rfl⟩⟩; refine ⟨_, rfl, ?_⟩))
  go_loopg [5] k (fun kq v5 w' => ∃ (x5_1 : Int), v5 = .int .i64 x5_1 ∧ Aside0 (spec_IsPlan.l0 kq l0 l1 x5_1 = some r) ∧ Aside0 (kq ≤ k) ∧ Aside0 (Below w.heap.size w w'))
  case atStart => exact ⟨(0), S.eA, H', ⟨Nat.le_refl _⟩, ⟨S.bA⟩⟩
  case round =>
   clear H'
   try clear c1
   try clear c4
   obtain ⟨x5_1, rfl, HA, HK1, HB⟩ := hrel
   cases gk with
   | zero => exact absurd HA.out (by simp [spec_IsPlan.l0])
   | succ k1 =>
    have H := HA.out
    clear HA
    simp only [spec_IsPlan.l0] at H
    replace H := S.dc H; rcases H with ⟨H, c5b0⟩ | ⟨H, c5b0⟩
    ·by_cases c6 : 0 ≤ x5_1
     ·rw [if_pos c6] at H
      have c6b0 : decide (0 ≤ x5_1) = true := decide_eq_true c6
      clear c6
      by_cases c7 : (((rd_T85 l1 x5_1).f0).length : Int) = 0
      ·rw [if_pos c7] at H
       have c7b0 : ((((rd_T85 l1 x5_1).f0).length : Int) == 0) = true := beq_iff_eq.mpr c7
       have c7b1 : ((((rd_T85 l1 x5_1).f0).length : Int) != 0) = false := bne_eq_false_iff_eq.mpr c7
       clear c7
       obtain rfl := Option.some.inj H
       try go_wp2
       replace HB := Aside0.mk (below_drew1 HB.out)
       have p212 : 0 ≤ (x5_1 : Int) := S.oD
       have q212 : x5_1 < (l1.length : Int) := S.oD
       obtain ⟨ad212, A212_0, c212_0, e212, hx212_0, hx212_1, hl212_0, hi212_0⟩ := at_T85 HR1.out x5_1 p212 q212
       have hw212_1 := hx212_1
       have hw212_0 := hx212_0
       cases e212
       replace hx212_0 := S.hb HB hx212_0
       replace hx212_1 := S.hb HB hx212_1
       have HR212_0 := Aside0.mk hi212_0
       have HC212_0 := Aside0.mk hl212_0
       clear hi212_0 hl212_0
       replace p212 := eq_true p212
       replace q212 := eq_true q212
       refine S.st (n := 33) (ds := []) #[false, false, false, false, false, false, false, false, false, false, false, false, false, false, false, false, false, false, false, false, false, false, false, false, false, false, false, false, false, false, false, false, false] (fun w_ h_ => have x_ := And.intro (S.q h_ (S.hb HB hw212_0)) (S.q h_ (S.hb HB hw212_1)); x_) (fun hHeld => ?_); refine with_tabW spec_IsPlan.tab6 spec_IsPlan.bits6 (fun HT_ HW_ => ?_)
       generalize wr.drew = w8 at HB HR212_0 hx212_0 hx212_1 hHeld ⊢
       refine S.pS 0 16 ?_
       refine S.pS 1 17 ?_
       refine S.pS 2 18 ?_
       refine S.pS 3 19 ?_
       refine S.tK 4 20 #[true, true, true, true, true, false, false, false, false, false, false, false, false, false, false, false, false, false, false, false, false, false, false, false, false, false, false, false, false, false, false, false, false] ?_
       refine S.pS 5 21 ?_
       refine S.pS 6 22 ?_
       refine S.pS 7 23 ?_
       refine S.pU 8 24 ?_
       refine S.pU 9 25 ?_
       refine S.pU 10 26 ?_
       refine S.pU 11 27 ?_
       refine S.pU 12 28 ?_
       refine S.pU 13 29 ?_
       refine S.pU 14 30 ?_
       refine S.pU 15 31 ?_
       refine S.pS 16 32 ?_
       refine S.pS 17 33 ?_
       refine S.pU 18 34 ?_
       refine S.pU 19 35 ?_
       refine S.pU 20 36 ?_
       refine S.pU 21 37 ?_
       refine S.pU 22 38 ?_
       refine S.pU 23 39 ?_
       refine S.pU 24 40 ?_
       refine S.pU 25 41 ?_
       refine S.pU 26 42 ?_
       refine S.pU 27 43 ?_
       refine S.pU 28 44 ?_
       refine S.pU 29 45 ?_
       refine S.pU 30 46 ?_
       refine S.pU 31 47 ?_
       refine S.pS 32 48 ?_
       refine done_ (done_of HT_.out (by kernel_rfl)) ?_
       try go_wp2
       go_ret
       exact ⟨S.eW, S.bA⟩
      ·rw [if_neg c7] at H
       have c7b0 : ((((rd_T85 l1 x5_1).f0).length : Int) == 0) = false := beq_eq_false_iff_ne.mpr c7
       have c7b1 : ((((rd_T85 l1 x5_1).f0).length : Int) != 0) = true := bne_iff_ne.mpr c7
       have c7b2 : ¬ (((rd_T85 l1 x5_1).f0) = []) := fun h_ => c7 (by rw [h_]; rfl)
       replace H := S.bd H; obtain ⟨t214, A9, H⟩ := H
       (try dsimp only at H)
       replace H := S.db H; rcases H with ⟨rfl, H⟩ | ⟨rfl, H⟩
       ·replace H := S.bd H; obtain ⟨t217, A11, H⟩ := H
        (try dsimp only at H)
        replace H := S.bd H; obtain ⟨t218, A12, H⟩ := H
        (try dsimp only at H)
        replace H := S.db H; rcases H with ⟨rfl, H⟩ | ⟨rfl, H⟩
        ·have H' := Aside0.mk H
         clear H
         try go_wp2
         replace HB := Aside0.mk (below_drew1 HB.out)
         have p212 : 0 ≤ (x5_1 : Int) := S.oD
         have q212 : x5_1 < (l1.length : Int) := S.oD
         obtain ⟨ad212, A212_0, c212_0, e212, hx212_0, hx212_1, hl212_0, hi212_0⟩ := at_T85 HR1.out x5_1 p212 q212
         have hw212_1 := hx212_1
         have hw212_0 := hx212_0
         cases e212
         replace hx212_0 := S.hb HB hx212_0
         replace hx212_1 := S.hb HB hx212_1
         have HR212_0 := Aside0.mk hi212_0
         have HC212_0 := Aside0.mk hl212_0
         clear hi212_0 hl212_0
         replace p212 := eq_true p212
         replace q212 := eq_true q212
         have p213 : 0 ≤ (x5_1 : Int) := S.oD
         have q213 : x5_1 < (l1.length : Int) := S.oD
         obtain ⟨ad213, A213_0, c213_0, e213, hx213_0, hx213_1, hl213_0, hi213_0⟩ := at_T85 HR1.out x5_1 p213 q213
         have hw213_1 := hx213_1
         have hw213_0 := hx213_0
         obtain rfl : ad212 = ad213 := (by injection e213)
         replace hx213_0 := S.hb HB hx213_0
         replace hx213_1 := S.hb HB hx213_1
         have HR213_0 := Aside0.mk hi213_0
         have HC213_0 := Aside0.mk hl213_0
         clear hi213_0 hl213_0
         replace p213 := eq_true p213
         replace q213 := eq_true q213
         have ea_ := Option.some.inj (hx212_0.symm.trans hx213_0)
         injection ea_ with ea_ en_ ec_
         subst ea_
         subst ec_
         clear en_
         have p215 : 0 ≤ (x5_1 : Int) := S.oD
         have q215 : x5_1 < (l1.length : Int) := S.oD
         obtain ⟨ad215, A215_0, c215_0, e215, hx215_0, hx215_1, hl215_0, hi215_0⟩ := at_T85 HR1.out x5_1 p215 q215
         have hw215_1 := hx215_1
         have hw215_0 := hx215_0
         obtain rfl : ad212 = ad215 := (by injection e215)
         replace hx215_0 := S.hb HB hx215_0
         replace hx215_1 := S.hb HB hx215_1
         have HR215_0 := Aside0.mk hi215_0
         have HC215_0 := Aside0.mk hl215_0
         clear hi215_0 hl215_0
         replace p215 := eq_true p215
         replace q215 := eq_true q215
         have ea_ := Option.some.inj (hx212_0.symm.trans hx215_0)
         injection ea_ with ea_ en_ ec_
         subst ea_
         subst ec_
         clear en_
         have p216 : 0 ≤ (x5_1 : Int) := S.oD
         have q216 : x5_1 < (l1.length : Int) := S.oD
         obtain ⟨ad216, A216_0, c216_0, e216, hx216_0, hx216_1, hl216_0, hi216_0⟩ := at_T85 HR1.out x5_1 p216 q216
         have hw216_1 := hx216_1
         have hw216_0 := hx216_0
         obtain rfl : ad212 = ad216 := (by injection e216)
         replace hx216_0 := S.hb HB hx216_0
         replace hx216_1 := S.hb HB hx216_1
         have HR216_0 := Aside0.mk hi216_0
         have HC216_0 := Aside0.mk hl216_0
         clear hi216_0 hl216_0
         replace p216 := eq_true p216
         replace q216 := eq_true q216
         have ea_ := Option.some.inj (hx212_0.symm.trans hx216_0)
         injection ea_ with ea_ en_ ec_
         subst ea_
         subst ec_
         clear en_
         refine S.st (n := 33) (ds := []) #[false, false, false, false, false, false, false, false, false, false, false, false, false, false, false, false, false, false, false, false, false, false, false, false, false, false, false, false, false, false, false, false, false] (fun w_ h_ => have x_ := And.intro (S.q h_ (S.hb HB hw212_0)) (And.intro (S.q h_ (S.hb HB hw212_1)) (And.intro (S.q h_ (S.hb HB hw213_0)) (And.intro (S.q h_ (S.hb HB hw213_1)) (And.intro (S.q h_ (S.hb HB hw215_0)) (And.intro (S.q h_ (S.hb HB hw215_1)) (And.intro (S.q h_ (S.hb HB hw216_0)) (S.q h_ (S.hb HB hw216_1)))))))); x_) (fun hHeld => ?_); refine with_tabW spec_IsPlan.tab6 spec_IsPlan.bits6 (fun HT_ HW_ => ?_)
         generalize wr.drew = w14 at HB HR212_0 HR213_0 HR215_0 HR216_0 hx212_0 hx212_1 hx213_0 hx213_1 hx215_0 hx215_1 hx216_0 hx216_1 hHeld ⊢
         refine S.pS 0 16 ?_
         refine S.pS 1 17 ?_
         refine S.pS 2 18 ?_
         refine S.pS 3 19 ?_
         refine S.tK 4 20 #[true, true, true, true, true, false, false, false, false, false, false, false, false, false, false, false, false, false, false, false, false, false, false, false, false, false, false, false, false, false, false, false, false] ?_
         refine S.pS 5 21 ?_
         refine S.pS 6 22 ?_
         refine S.pS 7 23 ?_
         refine S.pS 8 24 ?_
         refine S.pS 9 25 ?_
         refine S.pS 10 26 ?_
         refine S.pS 11 27 ?_
         refine S.pS 12 28 ?_
         refine S.tK 13 29 #[true, true, true, true, true, true, true, true, true, true, true, true, true, true, false, false, false, false, false, false, false, false, false, false, false, false, false, false, false, false, false, false, false] ?_
         refine S.oN 14 30 #[true, true, true, true, true, true, true, true, true, true, true, true, true, true, true, false, false, false, false, false, false, false, false, false, false, false, false, false, false, false, false, false, false] (fun K hK => ?_)
         refine S.go Try.func99 #[.slice A0 l0.length c0, .slice A212_0 ((rd_T85 l1 x5_1).f0).length c212_0] ?_
         with_reducible refine (spec_IsTogether.calls k1 _ _ l0 _ _ ((rd_T85 l1 x5_1).f0) true _ ?s1 ?s2 ?s3 ?s4 A9.out).mono ?_
         (case s1 => exact S.cA HR0.out)
         (case s2 => exact HC0.out)
         (case s3 => exact S.cA HR213_0.out)
         (case s4 => exact HC213_0.out)
         rintro e w15 ⟨rfl, hb⟩
         refine ⟨_, rfl, ?_⟩
         replace HB := S.sA hb
         (try clear hb)
         (try clear hb2)
         (try clear hk)
         (try clear hi)
         refine hK.out _ _ ⟨(S.hb HB hw212_0 :), (S.hb HB hw212_1 :), (S.hb HB hw213_0 :), (S.hb HB hw213_1 :), (S.hb HB hw215_0 :), (S.hb HB hw215_1 :), (S.hb HB hw216_0 :), (S.hb HB hw216_1 :)⟩ (fun hHeld => ?_)
         clear hK K
         refine S.nm 30 ?_
         refine S.pS 15 31 ?_
         refine S.pS 16 32 ?_
         refine S.pS 17 33 ?_
         refine S.pS 18 34 ?_
         refine S.pS 19 35 ?_
         refine S.pS 20 36 ?_
         refine S.pS 21 37 ?_
         refine S.pS 23 39 ?_
         refine S.pS 24 40 ?_
         refine S.pS 25 41 ?_
         refine S.pS 26 42 ?_
         refine S.pS 27 43 ?_
         refine S.tK 22 38 #[true, true, true, true, true, true, true, true, true, true, true, true, true, true, true, true, true, true, true, true, true, true, true, true, true, true, true, true, false, false, false, false, false] ?_
         refine S.tK 28 44 #[true, true, true, true, true, true, true, true, true, true, true, true, true, true, true, true, true, true, true, true, true, true, true, true, true, true, true, true, true, false, false, false, false] ?_
         refine S.oN 29 45 #[true, true, true, true, true, true, true, true, true, true, true, true, true, true, true, true, true, true, true, true, true, true, true, true, true, true, true, true, true, true, false, false, false] (fun K hK => ?_)
         refine S.go Try.func100 #[.slice A0 l0.length c0, .slice A212_0 ((rd_T85 l1 x5_1).f0).length c212_0] ?_
         with_reducible refine (spec_LeastGreen.calls k1 _ _ l0 _ _ ((rd_T85 l1 x5_1).f0) t217 _ ?s1 ?s2 ?s3 ?s4 A11.out).mono ?_
         (case s1 => exact S.cA HR0.out)
         (case s2 => exact HC0.out)
         (case s3 => exact S.cA HR216_0.out)
         (case s4 => exact HC216_0.out)
         rintro e w' ⟨rfl, ⟨nd, rfl⟩⟩
         refine ⟨_, rfl, ?_⟩
         refine hK.out _ _ ⟨(S.hb HB hw212_0 :), (S.hb HB hw212_1 :), (S.hb HB hw213_0 :), (S.hb HB hw213_1 :), (S.hb HB hw215_0 :), (S.hb HB hw215_1 :), (S.hb HB hw216_0 :), (S.hb HB hw216_1 :)⟩ (fun hHeld => ?_)
         clear hK K
         refine S.nm 45 ?_
         refine S.oN 30 46 #[true, true, true, true, true, true, true, true, true, true, true, true, true, true, true, true, true, true, true, true, true, true, true, true, true, true, true, true, true, true, true, false, false] (fun K hK => ?_)
         refine S.go Try.func58 #[.int .i64 ((rd_T85 l1 x5_1).f1), .int .i64 t217, .int .i64 60] ?_
         with_reducible refine (spec_l1In.calls ((rd_T85 l1 x5_1).f1) t217 60 true _ A12.out).mono ?_
         rintro e w' ⟨rfl, ⟨nd, rfl⟩⟩
         refine ⟨_, rfl, ?_⟩
         refine hK.out _ _ ⟨(S.hb HB hw212_0 :), (S.hb HB hw212_1 :), (S.hb HB hw213_0 :), (S.hb HB hw213_1 :), (S.hb HB hw215_0 :), (S.hb HB hw215_1 :), (S.hb HB hw216_0 :), (S.hb HB hw216_1 :)⟩ (fun hHeld => ?_)
         clear hK K
         refine S.nm 46 ?_
         refine S.pS 31 47 ?_
         refine S.pS 32 48 ?_
         refine done_ (done_of HT_.out (by kernel_rfl)) ?_
         try go_wp2
         go_roundg k1
         case measure => have := HK1.out; omega
         case rel => exact ⟨(wrap64 (x5_1 + 1)), S.eA, H', ⟨by have := HK1.out; omega⟩, ⟨S.bA⟩⟩
        ·obtain rfl := Option.some.inj H
         try go_wp2
         replace HB := Aside0.mk (below_drew1 HB.out)
         have p212 : 0 ≤ (x5_1 : Int) := S.oD
         have q212 : x5_1 < (l1.length : Int) := S.oD
         obtain ⟨ad212, A212_0, c212_0, e212, hx212_0, hx212_1, hl212_0, hi212_0⟩ := at_T85 HR1.out x5_1 p212 q212
         have hw212_1 := hx212_1
         have hw212_0 := hx212_0
         cases e212
         replace hx212_0 := S.hb HB hx212_0
         replace hx212_1 := S.hb HB hx212_1
         have HR212_0 := Aside0.mk hi212_0
         have HC212_0 := Aside0.mk hl212_0
         clear hi212_0 hl212_0
         replace p212 := eq_true p212
         replace q212 := eq_true q212
         have p213 : 0 ≤ (x5_1 : Int) := S.oD
         have q213 : x5_1 < (l1.length : Int) := S.oD
         obtain ⟨ad213, A213_0, c213_0, e213, hx213_0, hx213_1, hl213_0, hi213_0⟩ := at_T85 HR1.out x5_1 p213 q213
         have hw213_1 := hx213_1
         have hw213_0 := hx213_0
         obtain rfl : ad212 = ad213 := (by injection e213)
         replace hx213_0 := S.hb HB hx213_0
         replace hx213_1 := S.hb HB hx213_1
         have HR213_0 := Aside0.mk hi213_0
         have HC213_0 := Aside0.mk hl213_0
         clear hi213_0 hl213_0
         replace p213 := eq_true p213
         replace q213 := eq_true q213
         have ea_ := Option.some.inj (hx212_0.symm.trans hx213_0)
         injection ea_ with ea_ en_ ec_
         subst ea_
         subst ec_
         clear en_
         have p215 : 0 ≤ (x5_1 : Int) := S.oD
         have q215 : x5_1 < (l1.length : Int) := S.oD
         obtain ⟨ad215, A215_0, c215_0, e215, hx215_0, hx215_1, hl215_0, hi215_0⟩ := at_T85 HR1.out x5_1 p215 q215
         have hw215_1 := hx215_1
         have hw215_0 := hx215_0
         obtain rfl : ad212 = ad215 := (by injection e215)
         replace hx215_0 := S.hb HB hx215_0
         replace hx215_1 := S.hb HB hx215_1
         have HR215_0 := Aside0.mk hi215_0
         have HC215_0 := Aside0.mk hl215_0
         clear hi215_0 hl215_0
         replace p215 := eq_true p215
         replace q215 := eq_true q215
         have ea_ := Option.some.inj (hx212_0.symm.trans hx215_0)
         injection ea_ with ea_ en_ ec_
         subst ea_
         subst ec_
         clear en_
         have p216 : 0 ≤ (x5_1 : Int) := S.oD
         have q216 : x5_1 < (l1.length : Int) := S.oD
         obtain ⟨ad216, A216_0, c216_0, e216, hx216_0, hx216_1, hl216_0, hi216_0⟩ := at_T85 HR1.out x5_1 p216 q216
         have hw216_1 := hx216_1
         have hw216_0 := hx216_0
         obtain rfl : ad212 = ad216 := (by injection e216)
         replace hx216_0 := S.hb HB hx216_0
         replace hx216_1 := S.hb HB hx216_1
         have HR216_0 := Aside0.mk hi216_0
         have HC216_0 := Aside0.mk hl216_0
         clear hi216_0 hl216_0
         replace p216 := eq_true p216
         replace q216 := eq_true q216
         have ea_ := Option.some.inj (hx212_0.symm.trans hx216_0)
         injection ea_ with ea_ en_ ec_
         subst ea_
         subst ec_
         clear en_
         refine S.st (n := 33) (ds := []) #[false, false, false, false, false, false, false, false, false, false, false, false, false, false, false, false, false, false, false, false, false, false, false, false, false, false, false, false, false, false, false, false, false] (fun w_ h_ => have x_ := And.intro (S.q h_ (S.hb HB hw212_0)) (And.intro (S.q h_ (S.hb HB hw212_1)) (And.intro (S.q h_ (S.hb HB hw213_0)) (And.intro (S.q h_ (S.hb HB hw213_1)) (And.intro (S.q h_ (S.hb HB hw215_0)) (And.intro (S.q h_ (S.hb HB hw215_1)) (And.intro (S.q h_ (S.hb HB hw216_0)) (S.q h_ (S.hb HB hw216_1)))))))); x_) (fun hHeld => ?_); refine with_tabW spec_IsPlan.tab6 spec_IsPlan.bits6 (fun HT_ HW_ => ?_)
         generalize wr.drew = w16 at HB HR212_0 HR213_0 HR215_0 HR216_0 hx212_0 hx212_1 hx213_0 hx213_1 hx215_0 hx215_1 hx216_0 hx216_1 hHeld ⊢
         refine S.pS 0 16 ?_
         refine S.pS 1 17 ?_
         refine S.pS 2 18 ?_
         refine S.pS 3 19 ?_
         refine S.tK 4 20 #[true, true, true, true, true, false, false, false, false, false, false, false, false, false, false, false, false, false, false, false, false, false, false, false, false, false, false, false, false, false, false, false, false] ?_
         refine S.pS 5 21 ?_
         refine S.pS 6 22 ?_
         refine S.pS 7 23 ?_
         refine S.pS 8 24 ?_
         refine S.pS 9 25 ?_
         refine S.pS 10 26 ?_
         refine S.pS 11 27 ?_
         refine S.pS 12 28 ?_
         refine S.tK 13 29 #[true, true, true, true, true, true, true, true, true, true, true, true, true, true, false, false, false, false, false, false, false, false, false, false, false, false, false, false, false, false, false, false, false] ?_
         refine S.oN 14 30 #[true, true, true, true, true, true, true, true, true, true, true, true, true, true, true, false, false, false, false, false, false, false, false, false, false, false, false, false, false, false, false, false, false] (fun K hK => ?_)
         refine S.go Try.func99 #[.slice A0 l0.length c0, .slice A212_0 ((rd_T85 l1 x5_1).f0).length c212_0] ?_
         with_reducible refine (spec_IsTogether.calls k1 _ _ l0 _ _ ((rd_T85 l1 x5_1).f0) true _ ?s1 ?s2 ?s3 ?s4 A9.out).mono ?_
         (case s1 => exact S.cA HR0.out)
         (case s2 => exact HC0.out)
         (case s3 => exact S.cA HR213_0.out)
         (case s4 => exact HC213_0.out)
         rintro e w17 ⟨rfl, hb⟩
         refine ⟨_, rfl, ?_⟩
         replace HB := S.sA hb
         (try clear hb)
         (try clear hb2)
         (try clear hk)
         (try clear hi)
         refine hK.out _ _ ⟨(S.hb HB hw212_0 :), (S.hb HB hw212_1 :), (S.hb HB hw213_0 :), (S.hb HB hw213_1 :), (S.hb HB hw215_0 :), (S.hb HB hw215_1 :), (S.hb HB hw216_0 :), (S.hb HB hw216_1 :)⟩ (fun hHeld => ?_)
         clear hK K
         refine S.nm 30 ?_
         refine S.pS 15 31 ?_
         refine S.pS 16 32 ?_
         refine S.pS 17 33 ?_
         refine S.pS 18 34 ?_
         refine S.pS 19 35 ?_
         refine S.pS 20 36 ?_
         refine S.pS 21 37 ?_
         refine S.pS 23 39 ?_
         refine S.pS 24 40 ?_
         refine S.pS 25 41 ?_
         refine S.pS 26 42 ?_
         refine S.pS 27 43 ?_
         refine S.tK 22 38 #[true, true, true, true, true, true, true, true, true, true, true, true, true, true, true, true, true, true, true, true, true, true, true, true, true, true, true, true, false, false, false, false, false] ?_
         refine S.tK 28 44 #[true, true, true, true, true, true, true, true, true, true, true, true, true, true, true, true, true, true, true, true, true, true, true, true, true, true, true, true, true, false, false, false, false] ?_
         refine S.oN 29 45 #[true, true, true, true, true, true, true, true, true, true, true, true, true, true, true, true, true, true, true, true, true, true, true, true, true, true, true, true, true, true, false, false, false] (fun K hK => ?_)
         refine S.go Try.func100 #[.slice A0 l0.length c0, .slice A212_0 ((rd_T85 l1 x5_1).f0).length c212_0] ?_
         with_reducible refine (spec_LeastGreen.calls k1 _ _ l0 _ _ ((rd_T85 l1 x5_1).f0) t217 _ ?s1 ?s2 ?s3 ?s4 A11.out).mono ?_
         (case s1 => exact S.cA HR0.out)
         (case s2 => exact HC0.out)
         (case s3 => exact S.cA HR216_0.out)
         (case s4 => exact HC216_0.out)
         rintro e w' ⟨rfl, ⟨nd, rfl⟩⟩
         refine ⟨_, rfl, ?_⟩
         refine hK.out _ _ ⟨(S.hb HB hw212_0 :), (S.hb HB hw212_1 :), (S.hb HB hw213_0 :), (S.hb HB hw213_1 :), (S.hb HB hw215_0 :), (S.hb HB hw215_1 :), (S.hb HB hw216_0 :), (S.hb HB hw216_1 :)⟩ (fun hHeld => ?_)
         clear hK K
         refine S.nm 45 ?_
         refine S.oN 30 46 #[true, true, true, true, true, true, true, true, true, true, true, true, true, true, true, true, true, true, true, true, true, true, true, true, true, true, true, true, true, true, true, false, false] (fun K hK => ?_)
         refine S.go Try.func58 #[.int .i64 ((rd_T85 l1 x5_1).f1), .int .i64 t217, .int .i64 60] ?_
         with_reducible refine (spec_l1In.calls ((rd_T85 l1 x5_1).f1) t217 60 false _ A12.out).mono ?_
         rintro e w' ⟨rfl, ⟨nd, rfl⟩⟩
         refine ⟨_, rfl, ?_⟩
         refine hK.out _ _ ⟨(S.hb HB hw212_0 :), (S.hb HB hw212_1 :), (S.hb HB hw213_0 :), (S.hb HB hw213_1 :), (S.hb HB hw215_0 :), (S.hb HB hw215_1 :), (S.hb HB hw216_0 :), (S.hb HB hw216_1 :)⟩ (fun hHeld => ?_)
         clear hK K
         refine S.nm 46 ?_
         refine S.pS 31 47 ?_
         refine S.pS 32 48 ?_
         refine done_ (done_of HT_.out (by kernel_rfl)) ?_
         try go_wp2
         go_ret
         exact ⟨S.eW, S.bA⟩
       ·obtain rfl := Option.some.inj H
        try go_wp2
        replace HB := Aside0.mk (below_drew1 HB.out)
        have p212 : 0 ≤ (x5_1 : Int) := S.oD
        have q212 : x5_1 < (l1.length : Int) := S.oD
        obtain ⟨ad212, A212_0, c212_0, e212, hx212_0, hx212_1, hl212_0, hi212_0⟩ := at_T85 HR1.out x5_1 p212 q212
        have hw212_1 := hx212_1
        have hw212_0 := hx212_0
        cases e212
        replace hx212_0 := S.hb HB hx212_0
        replace hx212_1 := S.hb HB hx212_1
        have HR212_0 := Aside0.mk hi212_0
        have HC212_0 := Aside0.mk hl212_0
        clear hi212_0 hl212_0
        replace p212 := eq_true p212
        replace q212 := eq_true q212
        have p213 : 0 ≤ (x5_1 : Int) := S.oD
        have q213 : x5_1 < (l1.length : Int) := S.oD
        obtain ⟨ad213, A213_0, c213_0, e213, hx213_0, hx213_1, hl213_0, hi213_0⟩ := at_T85 HR1.out x5_1 p213 q213
        have hw213_1 := hx213_1
        have hw213_0 := hx213_0
        obtain rfl : ad212 = ad213 := (by injection e213)
        replace hx213_0 := S.hb HB hx213_0
        replace hx213_1 := S.hb HB hx213_1
        have HR213_0 := Aside0.mk hi213_0
        have HC213_0 := Aside0.mk hl213_0
        clear hi213_0 hl213_0
        replace p213 := eq_true p213
        replace q213 := eq_true q213
        have ea_ := Option.some.inj (hx212_0.symm.trans hx213_0)
        injection ea_ with ea_ en_ ec_
        subst ea_
        subst ec_
        clear en_
        refine S.st (n := 33) (ds := []) #[false, false, false, false, false, false, false, false, false, false, false, false, false, false, false, false, false, false, false, false, false, false, false, false, false, false, false, false, false, false, false, false, false] (fun w_ h_ => have x_ := And.intro (S.q h_ (S.hb HB hw212_0)) (And.intro (S.q h_ (S.hb HB hw212_1)) (And.intro (S.q h_ (S.hb HB hw213_0)) (S.q h_ (S.hb HB hw213_1)))); x_) (fun hHeld => ?_); refine with_tabW spec_IsPlan.tab6 spec_IsPlan.bits6 (fun HT_ HW_ => ?_)
        generalize wr.drew = w18 at HB HR212_0 HR213_0 hx212_0 hx212_1 hx213_0 hx213_1 hHeld ⊢
        refine S.pS 0 16 ?_
        refine S.pS 1 17 ?_
        refine S.pS 2 18 ?_
        refine S.pS 3 19 ?_
        refine S.tK 4 20 #[true, true, true, true, true, false, false, false, false, false, false, false, false, false, false, false, false, false, false, false, false, false, false, false, false, false, false, false, false, false, false, false, false] ?_
        refine S.pS 5 21 ?_
        refine S.pS 6 22 ?_
        refine S.pS 7 23 ?_
        refine S.pS 8 24 ?_
        refine S.pS 9 25 ?_
        refine S.pS 10 26 ?_
        refine S.pS 11 27 ?_
        refine S.pS 12 28 ?_
        refine S.tK 13 29 #[true, true, true, true, true, true, true, true, true, true, true, true, true, true, false, false, false, false, false, false, false, false, false, false, false, false, false, false, false, false, false, false, false] ?_
        refine S.oN 14 30 #[true, true, true, true, true, true, true, true, true, true, true, true, true, true, true, false, false, false, false, false, false, false, false, false, false, false, false, false, false, false, false, false, false] (fun K hK => ?_)
        refine S.go Try.func99 #[.slice A0 l0.length c0, .slice A212_0 ((rd_T85 l1 x5_1).f0).length c212_0] ?_
        with_reducible refine (spec_IsTogether.calls k1 _ _ l0 _ _ ((rd_T85 l1 x5_1).f0) false _ ?s1 ?s2 ?s3 ?s4 A9.out).mono ?_
        (case s1 => exact S.cA HR0.out)
        (case s2 => exact HC0.out)
        (case s3 => exact S.cA HR213_0.out)
        (case s4 => exact HC213_0.out)
        rintro e w19 ⟨rfl, hb⟩
        refine ⟨_, rfl, ?_⟩
        replace HB := S.sA hb
        (try clear hb)
        (try clear hb2)
        (try clear hk)
        (try clear hi)
        refine hK.out _ _ ⟨(S.hb HB hw212_0 :), (S.hb HB hw212_1 :), (S.hb HB hw213_0 :), (S.hb HB hw213_1 :)⟩ (fun hHeld => ?_)
        clear hK K
        refine S.nm 30 ?_
        refine S.pS 15 31 ?_
        refine S.pS 16 32 ?_
        refine S.pS 17 33 ?_
        refine S.pU 18 34 ?_
        refine S.pU 19 35 ?_
        refine S.pU 20 36 ?_
        refine S.pU 21 37 ?_
        refine S.pU 22 38 ?_
        refine S.pU 23 39 ?_
        refine S.pU 24 40 ?_
        refine S.pU 25 41 ?_
        refine S.pU 26 42 ?_
        refine S.pU 27 43 ?_
        refine S.pU 28 44 ?_
        refine S.pU 29 45 ?_
        refine S.pU 30 46 ?_
        refine S.pU 31 47 ?_
        refine S.pS 32 48 ?_
        refine done_ (done_of HT_.out (by kernel_rfl)) ?_
        try go_wp2
        go_ret
        exact ⟨S.eW, S.bA⟩
     ·rw [if_neg c6] at H
      exact absurd H (by simp)
    ·replace H := Option.bind_eq_some_iff.mp H
     obtain ⟨t208, A200, H⟩ := H
     replace H : ((spec_Covers.f k1 l0 t208).bind fun t211 => (some t211)) = some r := H
     have A20 := Aside0.mk A200
     clear A200
     replace H := S.bd H; obtain ⟨t211, A21, H⟩ := H
     (try dsimp only at H)
     obtain rfl := Option.some.inj H
     go_wp2_with (first | ((with_reducible refine gate_callee (f := 102) rfl ?_); refine S.gL (some 51) Try.func102 #[.slice A1 l1.length c1] ?_; (with_reducible refine (spec_l8Stages.calls k1 (fun k_ => k_ < w.heap.size) _ _ l1 t208 _ ?s1 A20.out).mono ?_); (case s1 => exact Kd.V_mk HC1.out (Kd.F_below (Kd.C_F k85_heap HR1.out) S.bA)); rintro e w22 ⟨v209, rfl, ho0, hb⟩; refine ⟨_, rfl, ?_⟩; have HO210 := Aside0.mk (Kd.N_lower (Kd.N_mono (ok' := fun k_ => True) ho0 (fun k_ hk_ => trivial)) (below_size S.bA)); replace HB := S.sA hb; (try clear hb); (try clear ho0); obtain ⟨Ao23, co23, eo23⟩ := Kd.N_slice HO210.out; subst eo23) | ((with_reducible refine gate_callee (f := 101) rfl ?_); refine S.gL (some 52) Try.func101 #[.slice A0 l0.length c0, .slice Ao23 t208.length co23] ?_; (with_reducible refine (spec_Covers.calls k1 _ _ l0 _ _ t208 t211 _ ?s1 HC0.out ?s3 ?s4 A21.out).mono ?_); (case s1 => exact S.cA HR0.out); (case s3 => repeat (first | exact (Kd.N_reads' HO210.out).2.2 | (with_reducible refine Kd.C_alloc ?_ _) | (with_reducible refine Kd.C_drewN ?_ _) | (with_reducible refine Kd.C_drew ?_))); (case s4 => exact (Kd.N_reads' HO210.out).2.1); rintro e w24 ⟨rfl, hb⟩; refine ⟨_, rfl, ?_⟩; replace HO210 := Aside0.mk (Kd.N_below (by (with_reducible repeat (first | apply Kd.N_alloc | apply Kd.N_drewN | apply Kd.N_drew)); exact HO210.out) hb); replace HB := S.sA hb; (try clear hb)))
     go_ret
     exact ⟨S.eW, S.bA⟩
 ·obtain rfl := Option.some.inj H
  go_enter Try.func65, Try.ntmps65
  go_wp2_with (first | ((with_reducible refine gate_callee (f := 58) rfl ?_); refine S.gL (some 8) Try.func58 #[.int .i64 (l1.length : Int), .int .i64 1, .int .i64 6] ?_; (with_reducible refine (spec_l1In.calls (l1.length : Int) 1 6 false _ A3.out).mono ?_); rintro e w' ⟨rfl, ⟨nd, rfl⟩⟩; refine ⟨_, rfl, ?_⟩))
  go_ret
  exact ⟨S.eW, S.bA⟩

end Go.Proofs.Ytjgigmghcfdomaa.PFnExactSwitchSeconds
