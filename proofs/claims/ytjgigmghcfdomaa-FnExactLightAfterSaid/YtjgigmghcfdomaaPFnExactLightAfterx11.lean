/- Printed by a program: what the Go functions compute, as plain Lean functions (.f), and the proofs that the machine's calls come to just that (.calls). -/
import Derived.Test.YtjgigmghcfdomaaPFnExactLightAfterx0
import Derived.Test.YtjgigmghcfdomaaPFnExactLightAfterx1
import Derived.Test.YtjgigmghcfdomaaPFnExactLightAfterx6
import Derived.Test.YtjgigmghcfdomaaPFnExactLightAfterx8
import Derived.Test.YtjgigmghcfdomaaPFnExactLightAfterx10
namespace Go.Proofs.Ytjgigmghcfdomaa.PFnExactLightAfter
open Go.RowKit Go.Proofs.YtjgigmghcfdomaaW.PrintWords Go.Proofs.YtjgigmghcfdomaaW.PrintLast Go.Proofs.YtjgigmghcfdomaaW.PrintMore
attribute [local go_sem] max2_int min2_int max_two min_two max_three min_three max_four min_four   -- for this text's walks alone
set_option linter.unusedVariables false
set_option linter.unusedSimpArgs false

/-! ### spec_l9Light: function 97 -/
def spec_l9Light.j0 : Nat → List (S71) → List (S85) → Int → Int → Int → Bool → Bool → Option (Int)
 | 0, _, _, _, _, _, _, _ => none
 | k + 1, x0, x1, x2, x3, x4, x12, x29 => if x29 = true then (some 1) else (if x12 = true then (if 0 ≤ x2 then (if x2 < (x1.length : Int) then ((spec_FindPath.f k x0 x4).bind fun t223 => (if 0 ≤ t223 then (if t223 < (x0.length : Int) then ((spec_ClearOf.f ((rd_T71 x0 t223).f0) ((rd_T71 x0 t223).f1) ((rd_T71 x0 t223).f2) ((rd_T71 x0 t223).f3)).bind fun t225 => (if x3 < (wrap64 (((rd_T85 x1 x2).f1) + t225)) then (some 2) else (some 0))) else (none)) else (none))) else (none)) else (none)) else (some 0))
def spec_l9Light.f (k : Nat) (l0 : List (S71)) (l1 : List (S85)) (a2 : Int) (a3 : Int) (a4 : Int) : Option (Int) := if (l1.length : Int) = 0 then (none) else (if 0 ≤ (Int.tmod (wrap64 (a2 + 1)) (l1.length : Int)) then (if (Int.tmod (wrap64 (a2 + 1)) (l1.length : Int)) < (l1.length : Int) then (if 0 ≤ a2 then (if a2 < (l1.length : Int) then ((spec_l6Has.f k ((rd_T85 l1 a2).f0) a4).bind fun t219 => (if t219 = true then (if a3 < ((rd_T85 l1 a2).f1) then (spec_l9Light.j0 k l0 l1 a2 a3 a4 t219 true) else ((spec_l6Has.f k ((rd_T85 l1 (Int.tmod (wrap64 (a2 + 1)) (l1.length : Int))).f0) a4).bind fun t221 => (spec_l9Light.j0 k l0 l1 a2 a3 a4 t219 t221))) else (spec_l9Light.j0 k l0 l1 a2 a3 a4 t219 false))) else (none)) else (none)) else (none)) else (none))
def spec_l9Light.T5 : Bool × List (List Nat × List Nat) := (true, [([], []), ([0], [0]), ([1], [1]), ([1], [1]), ([1], [1]), ([3, 4, 1], [1, 3, 4]), ([5, 1], [1, 5]), ([6, 1], [1, 6]), ([1], [1]), ([1], [1]), ([1], [1]), ([9, 10, 1, 1], [1, 9, 10]), ([8, 11, 1], [1, 8, 11]), ([12, 1], [1, 12]), ([13, 11, 1], [1, 13]), ([7, 14, 1], [1, 7, 14]), ([2, 15, 1], [1, 2, 15]), ([1, 16], [1, 16]), ([17, 14], [17])])
def spec_l9Light.B5 : List Nat := [0, 1, 3, 3, 3, 27, 59, 123, 3, 3, 3, 1539, 3843, 7939, 16131, 32763, 65535, 131071, 262143]
theorem spec_l9Light.tab5 : rtab .any (opsOf Try.f97 5) = spec_l9Light.T5 := by kernel_rfl
theorem spec_l9Light.bits5 : waitsOk spec_l9Light.T5.2 spec_l9Light.B5 = true := by kernel_rfl
set_option maxHeartbeats 8000000 in
set_option maxRecDepth 100000 in
theorem spec_l9Light.calls (k : Nat) (A0 : Option Addr) (c0 : Nat) (l0 : List (S71)) (A1 : Option Addr) (c1 : Nat) (l1 : List (S85)) (a2 : Int) (a3 : Int) (a4 : Int) (r : Int) (w : World) (hr0 : Kd.C k71 w A0 l0.length l0) (hc0 : l0.length ≤ c0) (hr1 : Kd.C k85 w A1 l1.length l1) (hc1 : l1.length ≤ c1) (h : spec_l9Light.f k l0 l1 a2 a3 a4 = some r) :
  Calls Try.prog 97 #[.slice A0 l0.length c0, .slice A1 l1.length c1, .int .i64 a2, .int .i64 a3, .int .i64 a4] w fun e w' => e = .returned (.int .i64 r) ∧ Below w.heap.size w w' := by
 have hu71 := Try.underlying71
 have HR0 := Aside0.mk hr0
 have HC0 := Aside0.mk hc0
 clear hr0 hc0
 have HR1 := Aside0.mk hr1
 have HC1 := Aside0.mk hc1
 clear hr1 hc1
 have HB := Aside0.mk (Below.refl w.heap.size w)
 have H : (if (l1.length : Int) = 0 then (none) else (if 0 ≤ (Int.tmod (wrap64 (a2 + 1)) (l1.length : Int)) then (if (Int.tmod (wrap64 (a2 + 1)) (l1.length : Int)) < (l1.length : Int) then (if 0 ≤ a2 then (if a2 < (l1.length : Int) then ((spec_l6Has.f k ((rd_T85 l1 a2).f0) a4).bind fun t219 => (if t219 = true then (if a3 < ((rd_T85 l1 a2).f1) then (spec_l9Light.j0 k l0 l1 a2 a3 a4 t219 true) else ((spec_l6Has.f k ((rd_T85 l1 (Int.tmod (wrap64 (a2 + 1)) (l1.length : Int))).f0) a4).bind fun t221 => (spec_l9Light.j0 k l0 l1 a2 a3 a4 t219 t221))) else (spec_l9Light.j0 k l0 l1 a2 a3 a4 t219 false))) else (none)) else (none)) else (none)) else (none))) = some r := h
 clear h
 by_cases c6 : (l1.length : Int) = 0
 ·rw [if_pos c6] at H
  exact absurd H (by simp)
 ·rw [if_neg c6] at H
  have c6b0 : ((l1.length : Int) == 0) = false := beq_eq_false_iff_ne.mpr c6
  have c6b1 : ((l1.length : Int) != 0) = true := bne_iff_ne.mpr c6
  have c6b2 : ¬ (l1 = []) := fun h_ => c6 (by rw [h_]; rfl)
  obtain ⟨ji7, hji7⟩ : ∃ j_ : Int, (Int.tmod (wrap64 (a2 + 1)) (l1.length : Int)) = j_ := ⟨_, rfl⟩
  replace H : (if 0 ≤ (ji7) then (if (ji7) < (l1.length : Int) then (if 0 ≤ a2 then (if a2 < (l1.length : Int) then ((spec_l6Has.f k ((rd_T85 l1 a2).f0) a4).bind fun t219 => (if t219 = true then (if a3 < ((rd_T85 l1 a2).f1) then (spec_l9Light.j0 k l0 l1 a2 a3 a4 t219 true) else ((spec_l6Has.f k ((rd_T85 l1 (ji7)).f0) a4).bind fun t221 => (spec_l9Light.j0 k l0 l1 a2 a3 a4 t219 t221))) else (spec_l9Light.j0 k l0 l1 a2 a3 a4 t219 false))) else (none)) else (none)) else (none)) else (none)) = some r := by first | (rw [hji7] at H; exact H) | (simp only [hji7] at H ⊢; exact H)
  by_cases c8 : 0 ≤ (ji7)
  ·rw [if_pos c8] at H
   have c8b0 : decide (0 ≤ (ji7)) = true := decide_eq_true c8
   clear c8
   by_cases c9 : (ji7) < (l1.length : Int)
   ·rw [if_pos c9] at H
    have c9b0 : decide ((ji7) < (l1.length : Int)) = true := decide_eq_true c9
    clear c9
    by_cases c10 : 0 ≤ a2
    ·rw [if_pos c10] at H
     have c10b0 : decide (0 ≤ a2) = true := decide_eq_true c10
     clear c10
     by_cases c11 : a2 < (l1.length : Int)
     ·rw [if_pos c11] at H
      have c11b0 : decide (a2 < (l1.length : Int)) = true := decide_eq_true c11
      clear c11
      replace H := S.bd H; obtain ⟨t219, A12, H⟩ := H
      (try dsimp only at H)
      have HC13 := Aside0.mk H
      clear H
      have p217 : 0 ≤ ((ji7) : Int) := S.oD
      have q217 : (ji7) < (l1.length : Int) := S.oD
      obtain ⟨ad217, A217_0, c217_0, e217, hx217_0, hx217_1, hl217_0, hi217_0⟩ := at_T85 HR1.out (ji7) p217 q217
      cases e217
      have HR217_0 := Aside0.mk hi217_0
      have HC217_0 := Aside0.mk hl217_0
      clear hi217_0 hl217_0
      replace p217 := eq_true p217
      replace q217 := eq_true q217
      have p218 : 0 ≤ (a2 : Int) := S.oD
      have q218 : a2 < (l1.length : Int) := S.oD
      obtain ⟨ad218, A218_0, c218_0, e218, hx218_0, hx218_1, hl218_0, hi218_0⟩ := at_T85 HR1.out a2 p218 q218
      obtain rfl : ad217 = ad218 := (by injection e218)
      have HR218_0 := Aside0.mk hi218_0
      have HC218_0 := Aside0.mk hl218_0
      clear hi218_0 hl218_0
      replace p218 := eq_true p218
      replace q218 := eq_true q218
      go_enter Try.func97, Try.ntmps97
      go_upto_region 3 with (first | ((with_reducible refine gate_callee (f := 72) rfl ?_); refine S.gL (some 28) Try.func72 #[.slice A218_0 ((rd_T85 l1 a2).f0).length c218_0, .int .i64 a4] ?_; (with_reducible refine (spec_l6Has.calls k _ _ ((rd_T85 l1 a2).f0) a4 t219 _ ?s1 HC218_0.out A12.out).mono ?_); (case s1 => repeat (first | exact HR218_0.out | (with_reducible refine Kd.C_alloc ?_ _) | (with_reducible refine Kd.C_drewN ?_ _) | (with_reducible refine Kd.C_drew ?_))); rintro e w' ⟨rfl, ⟨nd, rfl⟩⟩; refine ⟨_, rfl, ?_⟩))
      (try simp only [Act.put, List.setIfInBounds_toArray, List.set_cons_zero, List.set_cons_succ])
      go_cut [29] (fun v29 wc => ∃ (kq : Nat) (x29_12 : Bool), v29 = .bool x29_12 ∧ Aside0 (spec_l9Light.j0 kq l0 l1 a2 a3 a4 t219 x29_12 = some r) ∧ Aside0 (kq ≤ k) ∧ Aside0 (Below w.heap.size w wc))
      case first =>
       have H := HC13.out
       clear HC13
       replace H := S.db H; rcases H with ⟨rfl, H⟩ | ⟨rfl, H⟩
       ·replace H := S.dc H; rcases H with ⟨H, c15b0⟩ | ⟨H, c15b0⟩
        ·(first | rw [c15b0] | (simp only [i64_w, i32_w]; rw [c15b0]) | skip)
         have H' := Aside0.mk H
         clear H
         have p220 : 0 ≤ (a2 : Int) := S.oD
         have q220 : a2 < (l1.length : Int) := S.oD
         obtain ⟨ad220, A220_0, c220_0, e220, hx220_0, hx220_1, hl220_0, hi220_0⟩ := at_T85 HR1.out a2 p220 q220
         obtain rfl : ad217 = ad220 := (by injection e220)
         replace hx220_0 := S.hb HB hx220_0
         replace hx220_1 := S.hb HB hx220_1
         have HR220_0 := Aside0.mk hi220_0
         have HC220_0 := Aside0.mk hl220_0
         clear hi220_0 hl220_0
         replace p220 := eq_true p220
         replace q220 := eq_true q220
         go_wp2
         go_meet
         case rel => exact ⟨_, (true), S.eA, H', S.le, ⟨S.bA⟩⟩
        ·(first | rw [c15b0] | (simp only [i64_w, i32_w]; rw [c15b0]) | skip)
         replace H := S.bd H; obtain ⟨t221, A16, H⟩ := H
         (try dsimp only at H)
         have H' := Aside0.mk H
         clear H
         have p220 : 0 ≤ (a2 : Int) := S.oD
         have q220 : a2 < (l1.length : Int) := S.oD
         obtain ⟨ad220, A220_0, c220_0, e220, hx220_0, hx220_1, hl220_0, hi220_0⟩ := at_T85 HR1.out a2 p220 q220
         obtain rfl : ad217 = ad220 := (by injection e220)
         replace hx220_0 := S.hb HB hx220_0
         replace hx220_1 := S.hb HB hx220_1
         have HR220_0 := Aside0.mk hi220_0
         have HC220_0 := Aside0.mk hl220_0
         clear hi220_0 hl220_0
         replace p220 := eq_true p220
         replace q220 := eq_true q220
         go_wp2_with (first | (go_at_call 72; (with_reducible refine (spec_l6Has.calls k _ _ ((rd_T85 l1 (ji7)).f0) a4 t221 _ ?s1 HC217_0.out A16.out).mono ?_); (case s1 => exact S.cA HR217_0.out); rintro e w' ⟨rfl, ⟨nd, rfl⟩⟩))
         go_meet
         case rel => exact ⟨_, (t221), S.eA, H', S.le, ⟨S.bA⟩⟩
       ·have H' := Aside0.mk H
        clear H
        go_wp2
        go_meet
        case rel => exact ⟨_, (false), S.eA, H', S.le, ⟨S.bA⟩⟩
      case rest =>
       clear HC13
       try clear c1
       try clear c6
       try clear c6b0
       try clear c6b1
       try clear c6b2
       try clear c8
       try clear c8b0
       try clear c9
       try clear c9b0
       try clear c10
       try clear c10b0
       try clear c11
       try clear c11b0
       try clear hx217_0
       try clear hx217_1
       try clear hx218_0
       try clear hx218_1
       try clear p217
       try clear p218
       try clear q217
       try clear q218
       obtain ⟨kq, x29_12, rfl, HA, HJ12, HB⟩ := hcut
       cases kq with
       | zero => exact absurd HA.out (by simp [spec_l9Light.j0])
       | succ kj12 =>
        have H := HA.out
        clear HA
        simp only [spec_l9Light.j0] at H
        replace H := S.db H; rcases H with ⟨rfl, H⟩ | ⟨rfl, H⟩
        ·obtain rfl := Option.some.inj H
         go_wp2
         go_ret
         exact ⟨by first | rfl | (simp [errW_none, errW_some] <;> rfl) | (simp only [← hji7]; first | rfl | (simp [errW_none, errW_some] <;> rfl)) | (simp [*, errW_none, errW_some] <;> rfl), S.bA⟩
        ·by_cases c18 : t219 = true
         ·subst c18
          replace H := S.it H
          by_cases c19 : 0 ≤ a2
          ·rw [if_pos c19] at H
           have c19b0 : decide (0 ≤ a2) = true := decide_eq_true c19
           clear c19
           by_cases c20 : a2 < (l1.length : Int)
           ·rw [if_pos c20] at H
            have c20b0 : decide (a2 < (l1.length : Int)) = true := decide_eq_true c20
            clear c20
            replace H := S.bd H; obtain ⟨t223, A21, H⟩ := H
            (try dsimp only at H)
            by_cases c22 : 0 ≤ t223
            ·rw [if_pos c22] at H
             have c22b0 : decide (0 ≤ t223) = true := decide_eq_true c22
             clear c22
             by_cases c23 : t223 < (l0.length : Int)
             ·rw [if_pos c23] at H
              have c23b0 : decide (t223 < (l0.length : Int)) = true := decide_eq_true c23
              clear c23
              replace H := S.bd H; obtain ⟨t225, A24, H⟩ := H
              (try dsimp only at H)
              replace H := S.dc H; rcases H with ⟨H, c25b0⟩ | ⟨H, c25b0⟩
              ·obtain rfl := Option.some.inj H
               try go_wp2
               replace HB := Aside0.mk (below_drew1 HB.out)
               have p222 : 0 ≤ (a2 : Int) := S.oD
               have q222 : a2 < (l1.length : Int) := S.oD
               obtain ⟨ad222, A222_0, c222_0, e222, hx222_0, hx222_1, hl222_0, hi222_0⟩ := at_T85 HR1.out a2 p222 q222
               have hw222_1 := hx222_1
               have hw222_0 := hx222_0
               obtain rfl : ad217 = ad222 := (by injection e222)
               replace hx222_0 := S.hb HB hx222_0
               replace hx222_1 := S.hb HB hx222_1
               have HR222_0 := Aside0.mk hi222_0
               have HC222_0 := Aside0.mk hl222_0
               clear hi222_0 hl222_0
               replace p222 := eq_true p222
               replace q222 := eq_true q222
               have p224 : 0 ≤ (t223 : Int) := S.oD
               have q224 : t223 < (l0.length : Int) := S.oD
               obtain ⟨ad224, e224, hx224_0, hx224_1, hx224_2, hx224_3⟩ := at_T71 HR0.out t223 p224 q224
               have hw224_3 := hx224_3
               have hw224_2 := hx224_2
               have hw224_1 := hx224_1
               have hw224_0 := hx224_0
               cases e224
               replace hx224_0 := S.hb HB hx224_0
               replace hx224_1 := S.hb HB hx224_1
               replace hx224_2 := S.hb HB hx224_2
               replace hx224_3 := S.hb HB hx224_3
               replace p224 := eq_true p224
               replace q224 := eq_true q224
               refine S.st (n := 19) (ds := []) #[false, false, false, false, false, false, false, false, false, false, false, false, false, false, false, false, false, false, false] (fun w_ h_ => have x_ := And.intro (S.q h_ (S.hb HB hw222_0)) (And.intro (S.q h_ (S.hb HB hw222_1)) (And.intro (S.q h_ (S.hb HB hw224_0)) (And.intro (S.q h_ (S.hb HB hw224_1)) (And.intro (S.q h_ (S.hb HB hw224_2)) (S.q h_ (S.hb HB hw224_3)))))); x_) (fun hHeld => ?_); refine with_tabW spec_l9Light.tab5 spec_l9Light.bits5 (fun HT_ HW_ => ?_)
               generalize wc.drew = w26 at HB HR222_0 hx222_0 hx222_1 hx224_0 hx224_1 hx224_2 hx224_3 hHeld ⊢
               refine S.pS 0 46 ?_
               refine S.pS 1 47 ?_
               refine S.pS 2 48 ?_
               refine S.pS 3 49 ?_
               refine S.pS 4 50 ?_
               refine S.pS 5 51 ?_
               refine S.pS 6 52 ?_
               refine S.pS 8 54 ?_
               refine S.pS 9 55 ?_
               refine S.pS 10 56 ?_
               refine S.tK 7 53 #[true, true, true, true, true, true, true, true, true, true, true, false, false, false, false, false, false, false, false] ?_
               refine S.oN 11 57 #[true, true, true, true, true, true, true, true, true, true, true, true, false, false, false, false, false, false, false] (fun K hK => ?_)
               refine S.go Try.func96 #[.slice (some ad224) l0.length c0, .int .i64 a4] ?_
               with_reducible refine (spec_FindPath.calls kj12 _ _ l0 a4 t223 _ ?s1 ?s2 A21.out).mono ?_
               (case s1 => exact S.cA HR0.out)
               (case s2 => exact HC0.out)
               rintro e w' ⟨rfl, ⟨nd, rfl⟩⟩
               refine ⟨_, rfl, ?_⟩
               refine hK.out _ _ ⟨(S.hb HB hw222_0 :), (S.hb HB hw222_1 :), (S.hb HB hw224_0 :), (S.hb HB hw224_1 :), (S.hb HB hw224_2 :), (S.hb HB hw224_3 :)⟩ (fun hHeld => ?_)
               clear hK K
               refine S.nm 57 ?_
               refine S.pS 12 58 ?_
               refine S.tK 13 59 #[true, true, true, true, true, true, true, true, true, true, true, true, true, true, false, false, false, false, false] ?_
               refine S.oN 14 60 #[true, true, true, true, true, true, true, true, true, true, true, true, true, true, true, false, false, false, false] (fun K hK => ?_)
               refine S.go Try.func123 #[.agg #[.int .i64 ((rd_T71 l0 t223).f0), .int .i64 ((rd_T71 l0 t223).f1), .int .i64 ((rd_T71 l0 t223).f2), .int .i64 ((rd_T71 l0 t223).f3)]] ?_
               with_reducible refine (spec_ClearOf.calls ((rd_T71 l0 t223).f0) ((rd_T71 l0 t223).f1) ((rd_T71 l0 t223).f2) ((rd_T71 l0 t223).f3) t225 _ A24.out).mono ?_
               rintro e w27 ⟨rfl, hb⟩
               refine ⟨_, rfl, ?_⟩
               replace HB := S.sA hb
               (try clear hb)
               (try clear hb2)
               (try clear hk)
               (try clear hi)
               refine hK.out _ _ ⟨(S.hb HB hw222_0 :), (S.hb HB hw222_1 :), (S.hb HB hw224_0 :), (S.hb HB hw224_1 :), (S.hb HB hw224_2 :), (S.hb HB hw224_3 :)⟩ (fun hHeld => ?_)
               clear hK K
               refine S.nm 60 ?_
               refine S.pS 15 61 ?_
               refine S.pS 16 62 ?_
               refine S.pS 17 63 ?_
               refine S.pS 18 45 ?_
               refine done_ (done_of HT_.out (by kernel_rfl)) ?_
               try go_wp2
               go_ret
               exact ⟨by first | rfl | (simp [errW_none, errW_some] <;> rfl) | (simp only [← hji7]; first | rfl | (simp [errW_none, errW_some] <;> rfl)) | (simp [*, errW_none, errW_some] <;> rfl), S.bA⟩
              ·obtain rfl := Option.some.inj H
               try go_wp2
               replace HB := Aside0.mk (below_drew1 HB.out)
               have p222 : 0 ≤ (a2 : Int) := S.oD
               have q222 : a2 < (l1.length : Int) := S.oD
               obtain ⟨ad222, A222_0, c222_0, e222, hx222_0, hx222_1, hl222_0, hi222_0⟩ := at_T85 HR1.out a2 p222 q222
               have hw222_1 := hx222_1
               have hw222_0 := hx222_0
               obtain rfl : ad217 = ad222 := (by injection e222)
               replace hx222_0 := S.hb HB hx222_0
               replace hx222_1 := S.hb HB hx222_1
               have HR222_0 := Aside0.mk hi222_0
               have HC222_0 := Aside0.mk hl222_0
               clear hi222_0 hl222_0
               replace p222 := eq_true p222
               replace q222 := eq_true q222
               have p224 : 0 ≤ (t223 : Int) := S.oD
               have q224 : t223 < (l0.length : Int) := S.oD
               obtain ⟨ad224, e224, hx224_0, hx224_1, hx224_2, hx224_3⟩ := at_T71 HR0.out t223 p224 q224
               have hw224_3 := hx224_3
               have hw224_2 := hx224_2
               have hw224_1 := hx224_1
               have hw224_0 := hx224_0
               cases e224
               replace hx224_0 := S.hb HB hx224_0
               replace hx224_1 := S.hb HB hx224_1
               replace hx224_2 := S.hb HB hx224_2
               replace hx224_3 := S.hb HB hx224_3
               replace p224 := eq_true p224
               replace q224 := eq_true q224
               refine S.st (n := 19) (ds := []) #[false, false, false, false, false, false, false, false, false, false, false, false, false, false, false, false, false, false, false] (fun w_ h_ => have x_ := And.intro (S.q h_ (S.hb HB hw222_0)) (And.intro (S.q h_ (S.hb HB hw222_1)) (And.intro (S.q h_ (S.hb HB hw224_0)) (And.intro (S.q h_ (S.hb HB hw224_1)) (And.intro (S.q h_ (S.hb HB hw224_2)) (S.q h_ (S.hb HB hw224_3)))))); x_) (fun hHeld => ?_); refine with_tabW spec_l9Light.tab5 spec_l9Light.bits5 (fun HT_ HW_ => ?_)
               generalize wc.drew = w28 at HB HR222_0 hx222_0 hx222_1 hx224_0 hx224_1 hx224_2 hx224_3 hHeld ⊢
               refine S.pS 0 46 ?_
               refine S.pS 1 47 ?_
               refine S.pS 2 48 ?_
               refine S.pS 3 49 ?_
               refine S.pS 4 50 ?_
               refine S.pS 5 51 ?_
               refine S.pS 6 52 ?_
               refine S.pS 8 54 ?_
               refine S.pS 9 55 ?_
               refine S.pS 10 56 ?_
               refine S.tK 7 53 #[true, true, true, true, true, true, true, true, true, true, true, false, false, false, false, false, false, false, false] ?_
               refine S.oN 11 57 #[true, true, true, true, true, true, true, true, true, true, true, true, false, false, false, false, false, false, false] (fun K hK => ?_)
               refine S.go Try.func96 #[.slice (some ad224) l0.length c0, .int .i64 a4] ?_
               with_reducible refine (spec_FindPath.calls kj12 _ _ l0 a4 t223 _ ?s1 ?s2 A21.out).mono ?_
               (case s1 => exact S.cA HR0.out)
               (case s2 => exact HC0.out)
               rintro e w' ⟨rfl, ⟨nd, rfl⟩⟩
               refine ⟨_, rfl, ?_⟩
               refine hK.out _ _ ⟨(S.hb HB hw222_0 :), (S.hb HB hw222_1 :), (S.hb HB hw224_0 :), (S.hb HB hw224_1 :), (S.hb HB hw224_2 :), (S.hb HB hw224_3 :)⟩ (fun hHeld => ?_)
               clear hK K
               refine S.nm 57 ?_
               refine S.pS 12 58 ?_
               refine S.tK 13 59 #[true, true, true, true, true, true, true, true, true, true, true, true, true, true, false, false, false, false, false] ?_
               refine S.oN 14 60 #[true, true, true, true, true, true, true, true, true, true, true, true, true, true, true, false, false, false, false] (fun K hK => ?_)
               refine S.go Try.func123 #[.agg #[.int .i64 ((rd_T71 l0 t223).f0), .int .i64 ((rd_T71 l0 t223).f1), .int .i64 ((rd_T71 l0 t223).f2), .int .i64 ((rd_T71 l0 t223).f3)]] ?_
               with_reducible refine (spec_ClearOf.calls ((rd_T71 l0 t223).f0) ((rd_T71 l0 t223).f1) ((rd_T71 l0 t223).f2) ((rd_T71 l0 t223).f3) t225 _ A24.out).mono ?_
               rintro e w29 ⟨rfl, hb⟩
               refine ⟨_, rfl, ?_⟩
               replace HB := S.sA hb
               (try clear hb)
               (try clear hb2)
               (try clear hk)
               (try clear hi)
               refine hK.out _ _ ⟨(S.hb HB hw222_0 :), (S.hb HB hw222_1 :), (S.hb HB hw224_0 :), (S.hb HB hw224_1 :), (S.hb HB hw224_2 :), (S.hb HB hw224_3 :)⟩ (fun hHeld => ?_)
               clear hK K
               refine S.nm 60 ?_
               refine S.pS 15 61 ?_
               refine S.pS 16 62 ?_
               refine S.pS 17 63 ?_
               refine S.pS 18 45 ?_
               refine done_ (done_of HT_.out (by kernel_rfl)) ?_
               try go_wp2
               go_ret
               exact ⟨by first | rfl | (simp [errW_none, errW_some] <;> rfl) | (simp only [← hji7]; first | rfl | (simp [errW_none, errW_some] <;> rfl)) | (simp [*, errW_none, errW_some] <;> rfl), S.bA⟩
             ·rw [if_neg c23] at H
              exact absurd H (by simp)
            ·rw [if_neg c22] at H
             exact absurd H (by simp)
           ·rw [if_neg c20] at H
            exact absurd H (by simp)
          ·rw [if_neg c19] at H
           exact absurd H (by simp)
         ·replace c18 := Bool.eq_false_iff.mpr c18
          subst c18
          replace H := S.ie H
          obtain rfl := Option.some.inj H
          try go_wp2
          replace HB := Aside0.mk (below_drew1 HB.out)
          refine start_ (n := 19) (S := fun w' => True) (ds := []) #[false, false, false, false, false, false, false, false, false, false, false, false, false, false, false, false, false, false, false] (by kernel_rfl) rfl rfl trivial (fun hHeld => ?_); refine with_tabW spec_l9Light.tab5 spec_l9Light.bits5 (fun HT_ HW_ => ?_)
          generalize wc.drew = w30 at HB hHeld ⊢
          refine S.pS 0 46 ?_
          refine S.pS 1 47 ?_
          refine S.pU 2 48 ?_
          refine S.pU 3 49 ?_
          refine S.pU 4 50 ?_
          refine S.pU 5 51 ?_
          refine S.pU 6 52 ?_
          refine S.pU 7 53 ?_
          refine S.pU 8 54 ?_
          refine S.pU 9 55 ?_
          refine S.pU 10 56 ?_
          refine S.pU 11 57 ?_
          refine S.pU 12 58 ?_
          refine S.pU 13 59 ?_
          refine S.pU 14 60 ?_
          refine S.pU 15 61 ?_
          refine S.pU 16 62 ?_
          refine S.pS 17 63 ?_
          refine S.pS 18 45 ?_
          refine done_ (done_of HT_.out (by kernel_rfl)) ?_
          try go_wp2
          go_ret
          exact ⟨by first | rfl | (simp [errW_none, errW_some] <;> rfl) | (simp only [← hji7]; first | rfl | (simp [errW_none, errW_some] <;> rfl)) | (simp [*, errW_none, errW_some] <;> rfl), S.bA⟩
     ·rw [if_neg c11] at H
      exact absurd H (by simp)
    ·rw [if_neg c10] at H
     exact absurd H (by simp)
   ·rw [if_neg c9] at H
    exact absurd H (by simp)
  ·rw [if_neg c8] at H
   exact absurd H (by simp)

/-! ### spec_LightAt: function 59 -/
def spec_LightAt.f (k : Nat) (l0 : List (S71)) (l1 : List (S85)) (a2 : Int) (a3 : Int) : Option (Int) := (spec_PartAt.f k l0 l1 a2).bind fun bt226 => (if bt226.1 < 0 then (some 0) else ((spec_FindPath.f k l0 a3).bind fun t228 => (if t228 < 0 then (some 0) else ((spec_l9Light.f k l0 l1 bt226.1 bt226.2 a3).bind fun t229 => (some t229)))))
set_option maxHeartbeats 8000000 in
set_option maxRecDepth 100000 in
theorem spec_LightAt.calls (k : Nat) (A0 : Option Addr) (c0 : Nat) (l0 : List (S71)) (A1 : Option Addr) (c1 : Nat) (l1 : List (S85)) (a2 : Int) (a3 : Int) (r : Int) (w : World) (hr0 : Kd.C k71 w A0 l0.length l0) (hc0 : l0.length ≤ c0) (hr1 : Kd.C k85 w A1 l1.length l1) (hc1 : l1.length ≤ c1) (h : spec_LightAt.f k l0 l1 a2 a3 = some r) :
  Calls Try.prog 59 #[.slice A0 l0.length c0, .slice A1 l1.length c1, .int .i64 a2, .int .i64 a3] w fun e w' => e = .returned (.int .i64 r) ∧ Below w.heap.size w w' := by
 have HR0 := Aside0.mk hr0
 have HC0 := Aside0.mk hc0
 clear hr0 hc0
 have HR1 := Aside0.mk hr1
 have HC1 := Aside0.mk hc1
 clear hr1 hc1
 have HB := Aside0.mk (Below.refl w.heap.size w)
 have H : ((spec_PartAt.f k l0 l1 a2).bind fun bt226 => (if bt226.1 < 0 then (some 0) else ((spec_FindPath.f k l0 a3).bind fun t228 => (if t228 < 0 then (some 0) else ((spec_l9Light.f k l0 l1 bt226.1 bt226.2 a3).bind fun t229 => (some t229)))))) = some r := h
 clear h
 replace H := S.bd H; obtain ⟨⟨t226, t227⟩, A5, H⟩ := H
 (try dsimp only at H)
 replace H := S.dc H; rcases H with ⟨H, c6b0⟩ | ⟨H, c6b0⟩
 ·obtain rfl := Option.some.inj H
  go_enter Try.func59, Try.ntmps59
  go_wp2_with (first | ((with_reducible refine gate_callee (f := 95) rfl ?_); refine S.gL (some 15) Try.func95 #[.slice A0 l0.length c0, .slice A1 l1.length c1, .int .i64 a2] ?_; (with_reducible refine (spec_PartAt.calls k _ _ l0 _ _ l1 a2 t226 t227 _ ?s1 HC0.out ?s3 HC1.out A5.out).mono ?_); (case s1 => repeat (first | exact HR0.out | (with_reducible refine Kd.C_alloc ?_ _) | (with_reducible refine Kd.C_drewN ?_ _) | (with_reducible refine Kd.C_drew ?_))); (case s3 => repeat (first | exact HR1.out | (with_reducible refine Kd.C_alloc ?_ _) | (with_reducible refine Kd.C_drewN ?_ _) | (with_reducible refine Kd.C_drew ?_))); rintro e w7 ⟨rfl, hb⟩; refine ⟨_, rfl, ?_⟩; replace HB := S.sA hb; (try clear hb)))
  go_ret
  exact ⟨S.eW, S.bA⟩
 ·replace H := Option.bind_eq_some_iff.mp H
  obtain ⟨t228, A80, H⟩ := H
  replace H : (if t228 < 0 then (some 0) else ((spec_l9Light.f k l0 l1 t226 t227 a3).bind fun t229 => (some t229))) = some r := H
  have A8 := Aside0.mk A80
  clear A80
  replace H := S.dc H; rcases H with ⟨H, c9b0⟩ | ⟨H, c9b0⟩
  ·obtain rfl := Option.some.inj H
   go_enter Try.func59, Try.ntmps59
   go_wp2_with (first | ((with_reducible refine gate_callee (f := 95) rfl ?_); refine S.gL (some 15) Try.func95 #[.slice A0 l0.length c0, .slice A1 l1.length c1, .int .i64 a2] ?_; (with_reducible refine (spec_PartAt.calls k _ _ l0 _ _ l1 a2 t226 t227 _ ?s1 HC0.out ?s3 HC1.out A5.out).mono ?_); (case s1 => repeat (first | exact HR0.out | (with_reducible refine Kd.C_alloc ?_ _) | (with_reducible refine Kd.C_drewN ?_ _) | (with_reducible refine Kd.C_drew ?_))); (case s3 => repeat (first | exact HR1.out | (with_reducible refine Kd.C_alloc ?_ _) | (with_reducible refine Kd.C_drewN ?_ _) | (with_reducible refine Kd.C_drew ?_))); rintro e w10 ⟨rfl, hb⟩; refine ⟨_, rfl, ?_⟩; replace HB := S.sA hb; (try clear hb)) | (go_at_call 96; (with_reducible refine (spec_FindPath.calls k _ _ l0 a3 t228 _ ?s1 HC0.out A8.out).mono ?_); (case s1 => exact S.cA HR0.out); rintro e w' ⟨rfl, ⟨nd, rfl⟩⟩))
   go_ret
   exact ⟨S.eW, S.bA⟩
  ·replace H := Option.bind_eq_some_iff.mp H
   obtain ⟨t229, A110, H⟩ := H
   replace H : (some t229) = some r := H
   have A11 := Aside0.mk A110
   clear A110
   obtain rfl := Option.some.inj H
   go_enter Try.func59, Try.ntmps59
   go_wp2_with (first | ((with_reducible refine gate_callee (f := 95) rfl ?_); refine S.gL (some 15) Try.func95 #[.slice A0 l0.length c0, .slice A1 l1.length c1, .int .i64 a2] ?_; (with_reducible refine (spec_PartAt.calls k _ _ l0 _ _ l1 a2 t226 t227 _ ?s1 HC0.out ?s3 HC1.out A5.out).mono ?_); (case s1 => repeat (first | exact HR0.out | (with_reducible refine Kd.C_alloc ?_ _) | (with_reducible refine Kd.C_drewN ?_ _) | (with_reducible refine Kd.C_drew ?_))); (case s3 => repeat (first | exact HR1.out | (with_reducible refine Kd.C_alloc ?_ _) | (with_reducible refine Kd.C_drewN ?_ _) | (with_reducible refine Kd.C_drew ?_))); rintro e w12 ⟨rfl, hb⟩; refine ⟨_, rfl, ?_⟩; replace HB := S.sA hb; (try clear hb)) | (go_at_call 96; (with_reducible refine (spec_FindPath.calls k _ _ l0 a3 t228 _ ?s1 HC0.out A8.out).mono ?_); (case s1 => exact S.cA HR0.out); rintro e w' ⟨rfl, ⟨nd, rfl⟩⟩) | ((with_reducible refine gate_callee (f := 97) rfl ?_); refine S.gL (some 31) Try.func97 #[.slice A0 l0.length c0, .slice A1 l1.length c1, .int .i64 t226, .int .i64 t227, .int .i64 a3] ?_; (with_reducible refine (spec_l9Light.calls k _ _ l0 _ _ l1 t226 t227 a3 t229 _ ?s1 HC0.out ?s3 HC1.out A11.out).mono ?_); (case s1 => repeat (first | exact (Kd.C_below HR0.out S.bA) | (with_reducible refine Kd.C_alloc ?_ _) | (with_reducible refine Kd.C_drewN ?_ _) | (with_reducible refine Kd.C_drew ?_))); (case s3 => repeat (first | exact (Kd.C_below HR1.out S.bA) | (with_reducible refine Kd.C_alloc ?_ _) | (with_reducible refine Kd.C_drewN ?_ _) | (with_reducible refine Kd.C_drew ?_))); rintro e w13 ⟨rfl, hb⟩; refine ⟨_, rfl, ?_⟩; replace HB := S.sA hb; (try clear hb)))
   go_ret
   exact ⟨S.eW, S.bA⟩

end Go.Proofs.Ytjgigmghcfdomaa.PFnExactLightAfter
