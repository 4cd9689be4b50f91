/- Printed by a program: what the Go functions compute, as plain Lean functions (.f), and the proofs that the machine's calls come to just that (.calls). -/
import Derived.Test.YtjgigmghcfdomaaPFnExactWindowOfx0
import Derived.Test.YtjgigmghcfdomaaPFnExactWindowOfx3
import Derived.Test.YtjgigmghcfdomaaPFnExactWindowOfx8
namespace Go.Proofs.Ytjgigmghcfdomaa.PFnExactWindowOf
open Go.RowKit Go.Proofs.YtjgigmghcfdomaaW.PrintWords Go.Proofs.YtjgigmghcfdomaaW.PrintLast Go.Proofs.YtjgigmghcfdomaaW.PrintMore
attribute [local go_sem] max2_int min2_int max_two min_two max_three min_three max_four min_four   -- for this text's walks alone
set_option linter.unusedVariables false
set_option linter.unusedSimpArgs false

/-! ### spec_ClearOf: function 123 -/
def spec_ClearOf.f (a0_0 : Int) (a0_1 : Int) (a0_2 : Int) (a0_3 : Int) : Option (Int) := (spec_IsPath.f a0_0 a0_1 a0_2 a0_3).bind fun t220 => (if t220 = true then ((some (([0, 2, 5, 3] : List Int) : List Int)).bind fun y221 => (if 0 ≤ a0_1 then (if a0_1 < (y221.length : Int) then (some (rd y221 a0_1)) else (none)) else (none))) else (some 0))
set_option maxHeartbeats 8000000 in
set_option maxRecDepth 100000 in
theorem spec_ClearOf.calls (a0_0 : Int) (a0_1 : Int) (a0_2 : Int) (a0_3 : Int) (r : Int) (w : World) (h : spec_ClearOf.f a0_0 a0_1 a0_2 a0_3 = some r) :
  Calls Try.prog 123 #[.agg #[.int .i64 a0_0, .int .i64 a0_1, .int .i64 a0_2, .int .i64 a0_3]] w fun e w' => e = .returned (.int .i64 r) ∧ Below w.heap.size w w' := by
 have hu71 := Try.underlying71
 have HB := Aside0.mk (Below.refl w.heap.size w)
 have H : ((spec_IsPath.f a0_0 a0_1 a0_2 a0_3).bind fun t220 => (if t220 = true then ((some (([0, 2, 5, 3] : List Int) : List Int)).bind fun y221 => (if 0 ≤ a0_1 then (if a0_1 < (y221.length : Int) then (some (rd y221 a0_1)) else (none)) else (none))) else (some 0))) = some r := h
 clear h
 replace H := S.bd H; obtain ⟨t220, A2, H⟩ := H
 (try dsimp only at H)
 replace H := S.db H; rcases H with ⟨rfl, H⟩ | ⟨rfl, H⟩
 ·obtain ⟨y221, hy221⟩ : ∃ y_ : List Int, y_ = (([0, 2, 5, 3] : List Int)) := ⟨_, rfl⟩
  replace H : (if 0 ≤ a0_1 then (if a0_1 < (y221.length : Int) then (some (rd y221 a0_1)) else (none)) else (none)) = some r := by first | (rw [hy221]; with_reducible exact H) | (have H2_ := (Option.bind_some _ _).symm.trans H; rw [hy221]; with_reducible exact H2_) | (have H2_ := (Option.bind_some _ _).symm.trans H; with_reducible exact H2_) | with_reducible exact H | (rw [hy221]; exact H) | exact H
  have Ny221 := Aside0.mk hy221
  clear hy221
  by_cases c4 : 0 ≤ a0_1
  ·rw [if_pos c4] at H
   have c4b0 : decide (0 ≤ a0_1) = true := decide_eq_true c4
   clear c4
   by_cases c5 : a0_1 < (y221.length : Int)
   ·rw [if_pos c5] at H
    have c5b0 : decide (a0_1 < (y221.length : Int)) = true := decide_eq_true c5
    clear c5
    obtain rfl := Option.some.inj H
    go_enter Try.func123, Try.ntmps123
    go_wp2_with (first | ((with_reducible refine gate_dst (N := 1) rfl ?_); refine S.bx 1 (cs := #[.int .i64 a0_0, .int .i64 a0_1, .int .i64 a0_2, .int .i64 a0_3]) (t := 71) ?_; intro gb219 hg w6 hbox hb; have BK219 := Aside0.mk hbox; have GW219 := S.geA hg; have GE219 := S.geA hg; replace HB := S.sA hb; clear hb hbox hg; obtain ⟨Z7a, Z7b, Z7c, Z7d, Y7a, Y7b, Y7c, Y7d⟩ := S.c4 BK219.out) | ((with_reducible refine gate_callee (f := 135) rfl ?_); refine S.gL (some 4) Try.func135 #[.agg #[.int .i64 a0_0, .int .i64 a0_1, .int .i64 a0_2, .int .i64 a0_3]] ?_; (with_reducible refine (spec_IsPath.calls a0_0 a0_1 a0_2 a0_3 true _ A2.out).mono ?_); rintro e w8 ⟨rfl, hb⟩; refine ⟨_, rfl, ?_⟩; replace BK219 := S.kb BK219 hb; replace HB := S.sG hb; (try clear hb)) | ((with_reducible refine gate_dst (N := 6) rfl ?_); refine Kd.R_lit (Kd.int .i64) _ 3 ?hg (N := 6) ?hd (xs := ([0, 2, 5, 3] : List Int)) (inner := [.int .i64 0, .int .i64 2, .int .i64 5, .int .i64 3]) (ok := fun _ => True) (okp := fun _ => True) ?hr ?hp (fun _ hk => hk) trivial (Below.refl _ _) (Nat.le_refl _) (by simp) ?_; (case hd => rfl); (case hg => rfl); (case hr => first | (go_simp; done) | (go_simp; rfl)); (case hp => exact (Reps.one (show Kd.M (Kd.int .i64) _ _ _ 0 [.int .i64 0] from rfl) (Reps.one (show Kd.M (Kd.int .i64) _ _ _ 2 [.int .i64 2] from rfl) (Reps.one (show Kd.M (Kd.int .i64) _ _ _ 5 [.int .i64 5] from rfl) (Reps.one (show Kd.M (Kd.int .i64) _ _ _ 3 [.int .i64 3] from rfl) (Reps.none _ _)))))); intro v222 w9 ho10 hb hg_ hnew_; clear hg_ hnew_; (first | rw [← Ny221.out] at ho10 | (simp only [Int.reduceToNat] at ho10; rw [← Ny221.out] at ho10)); have HO223 := S.lwG ho10; replace BK219 := S.kb BK219 hb; replace HB := S.sG hb; clear hb ho10; obtain ⟨Z11a, Z11b, Z11c, Z11d, Y11a, Y11b, Y11c, Y11d⟩ := S.c4 BK219.out; obtain ⟨Ao12, co12, eo12⟩ := Kd.R_slice HO223.out; subst eo12; have p224 : 0 ≤ (a0_1 : Int) := S.oD; have q224 : a0_1 < (y221.length : Int) := S.oD; obtain ⟨ad224, e224, hx224_0⟩ := Kd.at_int (Kd.R_reads' HO223.out).2.2 a0_1 p224 q224; cases e224; replace p224 := eq_true p224; replace q224 := eq_true q224))
    go_ret
    exact ⟨S.eW, S.bG⟩
   ·rw [if_neg c5] at H
    exact absurd H (by simp)
  ·rw [if_neg c4] at H
   exact absurd H (by simp)
 ·obtain rfl := Option.some.inj H
  go_enter Try.func123, Try.ntmps123
  go_wp2_with (first | ((with_reducible refine gate_dst (N := 1) rfl ?_); refine S.bx 1 (cs := #[.int .i64 a0_0, .int .i64 a0_1, .int .i64 a0_2, .int .i64 a0_3]) (t := 71) ?_; intro gb219 hg w13 hbox hb; have BK219 := Aside0.mk hbox; have GW219 := S.geA hg; have GE219 := S.geA hg; replace HB := S.sA hb; clear hb hbox hg; obtain ⟨Z14a, Z14b, Z14c, Z14d, Y14a, Y14b, Y14c, Y14d⟩ := S.c4 BK219.out) | ((with_reducible refine gate_callee (f := 135) rfl ?_); refine S.gL (some 4) Try.func135 #[.agg #[.int .i64 a0_0, .int .i64 a0_1, .int .i64 a0_2, .int .i64 a0_3]] ?_; (with_reducible refine (spec_IsPath.calls a0_0 a0_1 a0_2 a0_3 false _ A2.out).mono ?_); rintro e w15 ⟨rfl, hb⟩; refine ⟨_, rfl, ?_⟩; replace BK219 := S.kb BK219 hb; replace HB := S.sG hb; (try clear hb)))
  go_ret
  exact ⟨S.eW, S.bG⟩

/-! ### spec_l9Light: function 97 -/
def spec_l9Light.j0 : Nat → List (S71) → List (S85) → Int → Int → Int → Bool → Bool → Option (Int)
 | 0, _, _, _, _, _, _, _ => none
 | k + 1, x0, x1, x2, x3, x4, x12, x29 => if x29 = true then (some 1) else (if x12 = true then (if 0 ≤ x2 then (if x2 < (x1.length : Int) then ((spec_FindPath.f k x0 x4).bind fun t231 => (if 0 ≤ t231 then (if t231 < (x0.length : Int) then ((spec_ClearOf.f ((rd_T71 x0 t231).f0) ((rd_T71 x0 t231).f1) ((rd_T71 x0 t231).f2) ((rd_T71 x0 t231).f3)).bind fun t233 => (if x3 < (wrap64 (((rd_T85 x1 x2).f1) + t233)) then (some 2) else (some 0))) else (none)) else (none))) else (none)) else (none)) else (some 0))
def spec_l9Light.f (k : Nat) (l0 : List (S71)) (l1 : List (S85)) (a2 : Int) (a3 : Int) (a4 : Int) : Option (Int) := if (l1.length : Int) = 0 then (none) else (if 0 ≤ (Int.tmod (wrap64 (a2 + 1)) (l1.length : Int)) then (if (Int.tmod (wrap64 (a2 + 1)) (l1.length : Int)) < (l1.length : Int) then (if 0 ≤ a2 then (if a2 < (l1.length : Int) then ((spec_l6Has.f k ((rd_T85 l1 a2).f0) a4).bind fun t227 => (if t227 = true then (if a3 < ((rd_T85 l1 a2).f1) then (spec_l9Light.j0 k l0 l1 a2 a3 a4 t227 true) else ((spec_l6Has.f k ((rd_T85 l1 (Int.tmod (wrap64 (a2 + 1)) (l1.length : Int))).f0) a4).bind fun t229 => (spec_l9Light.j0 k l0 l1 a2 a3 a4 t227 t229))) else (spec_l9Light.j0 k l0 l1 a2 a3 a4 t227 false))) else (none)) else (none)) else (none)) else (none))
def spec_l9Light.T5 : Bool × List (List Nat × List Nat) := (true, [([], []), ([0], [0]), ([1], [1]), ([1], [1]), ([1], [1]), ([3, 4, 1], [1, 3, 4]), ([5, 1], [1, 5]), ([6, 1], [1, 6]), ([1], [1]), ([1], [1]), ([1], [1]), ([9, 10, 1, 1], [1, 9, 10]), ([8, 11, 1], [1, 8, 11]), ([12, 1], [1, 12]), ([13, 11, 1], [1, 13]), ([7, 14, 1], [1, 7, 14]), ([2, 15, 1], [1, 2, 15]), ([1, 16], [1, 16]), ([17, 14], [17])])
def spec_l9Light.B5 : List Nat := [0, 1, 3, 3, 3, 27, 59, 123, 3, 3, 3, 1539, 3843, 7939, 16131, 32763, 65535, 131071, 262143]
theorem spec_l9Light.tab5 : rtab .any (opsOf Try.f97 5) = spec_l9Light.T5 := by kernel_rfl
theorem spec_l9Light.bits5 : waitsOk spec_l9Light.T5.2 spec_l9Light.B5 = true := by kernel_rfl
set_option maxHeartbeats 8000000 in
set_option maxRecDepth 100000 in
theorem spec_l9Light.calls (k : Nat) (A0 : Option Addr) (c0 : Nat) (l0 : List (S71)) (A1 : Option Addr) (c1 : Nat) (l1 : List (S85)) (a2 : Int) (a3 : Int) (a4 : Int) (r : Int) (w : World) (hr0 : Kd.C k71 w A0 l0.length l0) (hc0 : l0.length ≤ c0) (hr1 : Kd.C k85 w A1 l1.length l1) (hc1 : l1.length ≤ c1) (h : spec_l9Light.f k l0 l1 a2 a3 a4 = some r) :
  Calls Try.prog 97 #[.slice A0 l0.length c0, .slice A1 l1.length c1, .int .i64 a2, .int .i64 a3, .int .i64 a4] w fun e w' => e = .returned (.int .i64 r) ∧ Below w.heap.size w w' := by
 have hu71 := Try.underlying71
 have HR0 := Aside0.mk hr0
 have HC0 := Aside0.mk hc0
 clear hr0 hc0
 have HR1 := Aside0.mk hr1
 have HC1 := Aside0.mk hc1
 clear hr1 hc1
 have HB := Aside0.mk (Below.refl w.heap.size w)
 have H : (if (l1.length : Int) = 0 then (none) else (if 0 ≤ (Int.tmod (wrap64 (a2 + 1)) (l1.length : Int)) then (if (Int.tmod (wrap64 (a2 + 1)) (l1.length : Int)) < (l1.length : Int) then (if 0 ≤ a2 then (if a2 < (l1.length : Int) then ((spec_l6Has.f k ((rd_T85 l1 a2).f0) a4).bind fun t227 => (if t227 = true then (if a3 < ((rd_T85 l1 a2).f1) then (spec_l9Light.j0 k l0 l1 a2 a3 a4 t227 true) else ((spec_l6Has.f k ((rd_T85 l1 (Int.tmod (wrap64 (a2 + 1)) (l1.length : Int))).f0) a4).bind fun t229 => (spec_l9Light.j0 k l0 l1 a2 a3 a4 t227 t229))) else (spec_l9Light.j0 k l0 l1 a2 a3 a4 t227 false))) else (none)) else (none)) else (none)) else (none))) = some r := h
 clear h
 by_cases c6 : (l1.length : Int) = 0
 ·rw [if_pos c6] at H
  exact absurd H (by simp)
 ·rw [if_neg c6] at H
  have c6b0 : ((l1.length : Int) == 0) = false := beq_eq_false_iff_ne.mpr c6
  have c6b1 : ((l1.length : Int) != 0) = true := bne_iff_ne.mpr c6
  have c6b2 : ¬ (l1 = []) := fun h_ => c6 (by rw [h_]; rfl)
  obtain ⟨ji7, hji7⟩ : ∃ j_ : Int, (Int.tmod (wrap64 (a2 + 1)) (l1.length : Int)) = j_ := ⟨_, rfl⟩
  replace H : (if 0 ≤ (ji7) then (if (ji7) < (l1.length : Int) then (if 0 ≤ a2 then (if a2 < (l1.length : Int) then ((spec_l6Has.f k ((rd_T85 l1 a2).f0) a4).bind fun t227 => (if t227 = true then (if a3 < ((rd_T85 l1 a2).f1) then (spec_l9Light.j0 k l0 l1 a2 a3 a4 t227 true) else ((spec_l6Has.f k ((rd_T85 l1 (ji7)).f0) a4).bind fun t229 => (spec_l9Light.j0 k l0 l1 a2 a3 a4 t227 t229))) else (spec_l9Light.j0 k l0 l1 a2 a3 a4 t227 false))) else (none)) else (none)) else (none)) else (none)) = some r := by first | (rw [hji7] at H; exact H) | (simp only [hji7] at H ⊢; exact H)
  by_cases c8 : 0 ≤ (ji7)
  ·rw [if_pos c8] at H
   have c8b0 : decide (0 ≤ (ji7)) = true := decide_eq_true c8
   clear c8
   by_cases c9 : (ji7) < (l1.length : Int)
   ·rw [if_pos c9] at H
    have c9b0 : decide ((ji7) < (l1.length : Int)) = true := decide_eq_true c9
    clear c9
    by_cases c10 : 0 ≤ a2
    ·rw [if_pos c10] at H
     have c10b0 : decide (0 ≤ a2) = true := decide_eq_true c10
     clear c10
     by_cases c11 : a2 < (l1.length : Int)
     ·rw [if_pos c11] at H
      have c11b0 : decide (a2 < (l1.length : Int)) = true := decide_eq_true c11
      clear c11
      replace H := S.bd H; obtain ⟨t227, A12, H⟩ := H
      (try dsimp only at H)
      have HC13 := Aside0.mk H
      clear H
      have p225 : 0 ≤ ((ji7) : Int) := S.oD
      have q225 : (ji7) < (l1.length : Int) := S.oD
      obtain ⟨ad225, A225_0, c225_0, e225, hx225_0, hx225_1, hl225_0, hi225_0⟩ := at_T85 HR1.out (ji7) p225 q225
      cases e225
      have HR225_0 := Aside0.mk hi225_0
      have HC225_0 := Aside0.mk hl225_0
      clear hi225_0 hl225_0
      replace p225 := eq_true p225
      replace q225 := eq_true q225
      have p226 : 0 ≤ (a2 : Int) := S.oD
      have q226 : a2 < (l1.length : Int) := S.oD
      obtain ⟨ad226, A226_0, c226_0, e226, hx226_0, hx226_1, hl226_0, hi226_0⟩ := at_T85 HR1.out a2 p226 q226
      obtain rfl : ad225 = ad226 := (by injection e226)
      have HR226_0 := Aside0.mk hi226_0
      have HC226_0 := Aside0.mk hl226_0
      clear hi226_0 hl226_0
      replace p226 := eq_true p226
      replace q226 := eq_true q226
      go_enter Try.func97, Try.ntmps97
      go_upto_region 3 with (first | ((with_reducible refine gate_callee (f := 72) rfl ?_); refine S.gL (some 28) Try.func72 #[.slice A226_0 ((rd_T85 l1 a2).f0).length c226_0, .int .i64 a4] ?_; (with_reducible refine (spec_l6Has.calls k _ _ ((rd_T85 l1 a2).f0) a4 t227 _ ?s1 HC226_0.out A12.out).mono ?_); (case s1 => repeat (first | exact HR226_0.out | (with_reducible refine Kd.C_alloc ?_ _) | (with_reducible refine Kd.C_drewN ?_ _) | (with_reducible refine Kd.C_drew ?_))); rintro e w' ⟨rfl, ⟨nd, rfl⟩⟩; refine ⟨_, rfl, ?_⟩))
      (try simp only [Act.put, List.setIfInBounds_toArray, List.set_cons_zero, List.set_cons_succ])
      go_cut [29] (fun v29 wc => ∃ (kq : Nat) (x29_12 : Bool), v29 = .bool x29_12 ∧ Aside0 (spec_l9Light.j0 kq l0 l1 a2 a3 a4 t227 x29_12 = some r) ∧ Aside0 (kq ≤ k) ∧ Aside0 (Below w.heap.size w wc))
      case first =>
       have H := HC13.out
       clear HC13
       replace H := S.db H; rcases H with ⟨rfl, H⟩ | ⟨rfl, H⟩
       ·replace H := S.dc H; rcases H with ⟨H, c15b0⟩ | ⟨H, c15b0⟩
        ·(first | rw [c15b0] | (simp only [i64_w, i32_w]; rw [c15b0]) | skip)
         have H' := Aside0.mk H
         clear H
         have p228 : 0 ≤ (a2 : Int) := S.oD
         have q228 : a2 < (l1.length : Int) := S.oD
         obtain ⟨ad228, A228_0, c228_0, e228, hx228_0, hx228_1, hl228_0, hi228_0⟩ := at_T85 HR1.out a2 p228 q228
         obtain rfl : ad225 = ad228 := (by injection e228)
         replace hx228_0 := S.hb HB hx228_0
         replace hx228_1 := S.hb HB hx228_1
         have HR228_0 := Aside0.mk hi228_0
         have HC228_0 := Aside0.mk hl228_0
         clear hi228_0 hl228_0
         replace p228 := eq_true p228
         replace q228 := eq_true q228
         go_wp2
         go_meet
         case rel => exact ⟨_, (true), S.eA, H', S.le, ⟨S.bA⟩⟩
        ·(first | rw [c15b0] | (simp only [i64_w, i32_w]; rw [c15b0]) | skip)
         replace H := S.bd H; obtain ⟨t229, A16, H⟩ := H
         (try dsimp only at H)
         have H' := Aside0.mk H
         clear H
         have p228 : 0 ≤ (a2 : Int) := S.oD
         have q228 : a2 < (l1.length : Int) := S.oD
         obtain ⟨ad228, A228_0, c228_0, e228, hx228_0, hx228_1, hl228_0, hi228_0⟩ := at_T85 HR1.out a2 p228 q228
         obtain rfl : ad225 = ad228 := (by injection e228)
         replace hx228_0 := S.hb HB hx228_0
         replace hx228_1 := S.hb HB hx228_1
         have HR228_0 := Aside0.mk hi228_0
         have HC228_0 := Aside0.mk hl228_0
         clear hi228_0 hl228_0
         replace p228 := eq_true p228
         replace q228 := eq_true q228
         go_wp2_with (first | (go_at_call 72; (with_reducible refine (spec_l6Has.calls k _ _ ((rd_T85 l1 (ji7)).f0) a4 t229 _ ?s1 HC225_0.out A16.out).mono ?_); (case s1 => exact S.cA HR225_0.out); rintro e w' ⟨rfl, ⟨nd, rfl⟩⟩))
         go_meet
         case rel => exact ⟨_, (t229), S.eA, H', S.le, ⟨S.bA⟩⟩
       ·have H' := Aside0.mk H
        clear H
        go_wp2
        go_meet
        case rel => exact ⟨_, (false), S.eA, H', S.le, ⟨S.bA⟩⟩
      case rest =>
       clear HC13
       try clear c1
       try clear c6
       try clear c6b0
       try clear c6b1
       try clear c6b2
       try clear c8
       try clear c8b0
       try clear c9
       try clear c9b0
       try clear c10
       try clear c10b0
       try clear c11
       try clear c11b0
       try clear hx225_0
       try clear hx225_1
       try clear hx226_0
       try clear hx226_1
       try clear p225
       try clear p226
       try clear q225
       try clear q226
       obtain ⟨kq, x29_12, rfl, HA, HJ12, HB⟩ := hcut
       cases kq with
       | zero => exact absurd HA.out (by simp [spec_l9Light.j0])
       | succ kj12 =>
        have H := HA.out
        clear HA
        simp only [spec_l9Light.j0] at H
        replace H := S.db H; rcases H with ⟨rfl, H⟩ | ⟨rfl, H⟩
        ·obtain rfl := Option.some.inj H
         go_wp2
         go_ret
         exact ⟨by first | rfl | (simp [errW_none, errW_some] <;> rfl) | (simp only [← hji7]; first | rfl | (simp [errW_none, errW_some] <;> rfl)) | (simp [*, errW_none, errW_some] <;> rfl), S.bA⟩
        ·by_cases c18 : t227 = true
         ·subst c18
          replace H := S.it H
          by_cases c19 : 0 ≤ a2
          ·rw [if_pos c19] at H
           have c19b0 : decide (0 ≤ a2) = true := decide_eq_true c19
           clear c19
           by_cases c20 : a2 < (l1.length : Int)
           ·rw [if_pos c20] at H
            have c20b0 : decide (a2 < (l1.length : Int)) = true := decide_eq_true c20
            clear c20
            replace H := S.bd H; obtain ⟨t231, A21, H⟩ := H
            (try dsimp only at H)
            by_cases c22 : 0 ≤ t231
            ·rw [if_pos c22] at H
             have c22b0 : decide (0 ≤ t231) = true := decide_eq_true c22
             clear c22
             by_cases c23 : t231 < (l0.length : Int)
             ·rw [if_pos c23] at H
              have c23b0 : decide (t231 < (l0.length : Int)) = true := decide_eq_true c23
              clear c23
              replace H := S.bd H; obtain ⟨t233, A24, H⟩ := H
              (try dsimp only at H)
              replace H := S.dc H; rcases H with ⟨H, c25b0⟩ | ⟨H, c25b0⟩
              ·obtain rfl := Option.some.inj H
               try go_wp2
               replace HB := Aside0.mk (below_drew1 HB.out)
               have p230 : 0 ≤ (a2 : Int) := S.oD
               have q230 : a2 < (l1.length : Int) := S.oD
               obtain ⟨ad230, A230_0, c230_0, e230, hx230_0, hx230_1, hl230_0, hi230_0⟩ := at_T85 HR1.out a2 p230 q230
               have hw230_1 := hx230_1
               have hw230_0 := hx230_0
               obtain rfl : ad225 = ad230 := (by injection e230)
               replace hx230_0 := S.hb HB hx230_0
               replace hx230_1 := S.hb HB hx230_1
               have HR230_0 := Aside0.mk hi230_0
               have HC230_0 := Aside0.mk hl230_0
               clear hi230_0 hl230_0
               replace p230 := eq_true p230
               replace q230 := eq_true q230
               have p232 : 0 ≤ (t231 : Int) := S.oD
               have q232 : t231 < (l0.length : Int) := S.oD
               obtain ⟨ad232, e232, hx232_0, hx232_1, hx232_2, hx232_3⟩ := at_T71 HR0.out t231 p232 q232
               have hw232_3 := hx232_3
               have hw232_2 := hx232_2
               have hw232_1 := hx232_1
               have hw232_0 := hx232_0
               cases e232
               replace hx232_0 := S.hb HB hx232_0
               replace hx232_1 := S.hb HB hx232_1
               replace hx232_2 := S.hb HB hx232_2
               replace hx232_3 := S.hb HB hx232_3
               replace p232 := eq_true p232
               replace q232 := eq_true q232
               refine S.st (n := 19) (ds := []) #[false, false, false, false, false, false, false, false, false, false, false, false, false, false, false, false, false, false, false] (fun w_ h_ => have x_ := And.intro (S.q h_ (S.hb HB hw230_0)) (And.intro (S.q h_ (S.hb HB hw230_1)) (And.intro (S.q h_ (S.hb HB hw232_0)) (And.intro (S.q h_ (S.hb HB hw232_1)) (And.intro (S.q h_ (S.hb HB hw232_2)) (S.q h_ (S.hb HB hw232_3)))))); x_) (fun hHeld => ?_); refine with_tabW spec_l9Light.tab5 spec_l9Light.bits5 (fun HT_ HW_ => ?_)
               generalize wc.drew = w26 at HB HR230_0 hx230_0 hx230_1 hx232_0 hx232_1 hx232_2 hx232_3 hHeld ⊢
               refine S.pS 0 46 ?_
               refine S.pS 1 47 ?_
               refine S.pS 2 48 ?_
               refine S.pS 3 49 ?_
               refine S.pS 4 50 ?_
               refine S.pS 5 51 ?_
               refine S.pS 6 52 ?_
               refine S.pS 8 54 ?_
               refine S.pS 9 55 ?_
               refine S.pS 10 56 ?_
               refine S.tK 7 53 #[true, true, true, true, true, true, true, true, true, true, true, false, false, false, false, false, false, false, false] ?_
               refine S.oN 11 57 #[true, true, true, true, true, true, true, true, true, true, true, true, false, false, false, false, false, false, false] (fun K hK => ?_)
               refine S.go Try.func96 #[.slice (some ad232) l0.length c0, .int .i64 a4] ?_
               with_reducible refine (spec_FindPath.calls kj12 _ _ l0 a4 t231 _ ?s1 ?s2 A21.out).mono ?_
               (case s1 => exact S.cA HR0.out)
               (case s2 => exact HC0.out)
               rintro e w' ⟨rfl, ⟨nd, rfl⟩⟩
               refine ⟨_, rfl, ?_⟩
               refine hK.out _ _ ⟨(S.hb HB hw230_0 :), (S.hb HB hw230_1 :), (S.hb HB hw232_0 :), (S.hb HB hw232_1 :), (S.hb HB hw232_2 :), (S.hb HB hw232_3 :)⟩ (fun hHeld => ?_)
               clear hK K
               refine S.nm 57 ?_
               refine S.pS 12 58 ?_
               refine S.tK 13 59 #[true, true, true, true, true, true, true, true, true, true, true, true, true, true, false, false, false, false, false] ?_
               refine S.oN 14 60 #[true, true, true, true, true, true, true, true, true, true, true, true, true, true, true, false, false, false, false] (fun K hK => ?_)
               refine S.go Try.func123 #[.agg #[.int .i64 ((rd_T71 l0 t231).f0), .int .i64 ((rd_T71 l0 t231).f1), .int .i64 ((rd_T71 l0 t231).f2), .int .i64 ((rd_T71 l0 t231).f3)]] ?_
               with_reducible refine (spec_ClearOf.calls ((rd_T71 l0 t231).f0) ((rd_T71 l0 t231).f1) ((rd_T71 l0 t231).f2) ((rd_T71 l0 t231).f3) t233 _ A24.out).mono ?_
               rintro e w27 ⟨rfl, hb⟩
               refine ⟨_, rfl, ?_⟩
               replace HB := S.sA hb
               (try clear hb)
               (try clear hb2)
               (try clear hk)
               (try clear hi)
               refine hK.out _ _ ⟨(S.hb HB hw230_0 :), (S.hb HB hw230_1 :), (S.hb HB hw232_0 :), (S.hb HB hw232_1 :), (S.hb HB hw232_2 :), (S.hb HB hw232_3 :)⟩ (fun hHeld => ?_)
               clear hK K
               refine S.nm 60 ?_
               refine S.pS 15 61 ?_
               refine S.pS 16 62 ?_
               refine S.pS 17 63 ?_
               refine S.pS 18 45 ?_
               refine done_ (done_of HT_.out (by kernel_rfl)) ?_
               try go_wp2
               go_ret
               exact ⟨by first | rfl | (simp [errW_none, errW_some] <;> rfl) | (simp only [← hji7]; first | rfl | (simp [errW_none, errW_some] <;> rfl)) | (simp [*, errW_none, errW_some] <;> rfl), S.bA⟩
              ·obtain rfl := Option.some.inj H
               try go_wp2
               replace HB := Aside0.mk (below_drew1 HB.out)
               have p230 : 0 ≤ (a2 : Int) := S.oD
               have q230 : a2 < (l1.length : Int) := S.oD
               obtain ⟨ad230, A230_0, c230_0, e230, hx230_0, hx230_1, hl230_0, hi230_0⟩ := at_T85 HR1.out a2 p230 q230
               have hw230_1 := hx230_1
               have hw230_0 := hx230_0
               obtain rfl : ad225 = ad230 := (by injection e230)
               replace hx230_0 := S.hb HB hx230_0
               replace hx230_1 := S.hb HB hx230_1
               have HR230_0 := Aside0.mk hi230_0
               have HC230_0 := Aside0.mk hl230_0
               clear hi230_0 hl230_0
               replace p230 := eq_true p230
               replace q230 := eq_true q230
               have p232 : 0 ≤ (t231 : Int) := S.oD
               have q232 : t231 < (l0.length : Int) := S.oD
               obtain ⟨ad232, e232, hx232_0, hx232_1, hx232_2, hx232_3⟩ := at_T71 HR0.out t231 p232 q232
               have hw232_3 := hx232_3
               have hw232_2 := hx232_2
               have hw232_1 := hx232_1
               have hw232_0 := hx232_0
               cases e232
               replace hx232_0 := S.hb HB hx232_0
               replace hx232_1 := S.hb HB hx232_1
               replace hx232_2 := S.hb HB hx232_2
               replace hx232_3 := S.hb HB hx232_3
               replace p232 := eq_true p232
               replace q232 := eq_true q232
               refine S.st (n := 19) (ds := []) #[false, false, false, false, false, false, false, false, false, false, false, false, false, false, false, false, false, false, false] (fun w_ h_ => have x_ := And.intro (S.q h_ (S.hb HB hw230_0)) (And.intro (S.q h_ (S.hb HB hw230_1)) (And.intro (S.q h_ (S.hb HB hw232_0)) (And.intro (S.q h_ (S.hb HB hw232_1)) (And.intro (S.q h_ (S.hb HB hw232_2)) (S.q h_ (S.hb HB hw232_3)))))); x_) (fun hHeld => ?_); refine with_tabW spec_l9Light.tab5 spec_l9Light.bits5 (fun HT_ HW_ => ?_)
               generalize wc.drew = w28 at HB HR230_0 hx230_0 hx230_1 hx232_0 hx232_1 hx232_2 hx232_3 hHeld ⊢
               refine S.pS 0 46 ?_
               refine S.pS 1 47 ?_
               refine S.pS 2 48 ?_
               refine S.pS 3 49 ?_
               refine S.pS 4 50 ?_
               refine S.pS 5 51 ?_
               refine S.pS 6 52 ?_
               refine S.pS 8 54 ?_
               refine S.pS 9 55 ?_
               refine S.pS 10 56 ?_
               refine S.tK 7 53 #[true, true, true, true, true, true, true, true, true, true, true, false, false, false, false, false, false, false, false] ?_
               refine S.oN 11 57 #[true, true, true, true, true, true, true, true, true, true, true, true, false, false, false, false, false, false, false] (fun K hK => ?_)
               refine S.go Try.func96 #[.slice (some ad232) l0.length c0, .int .i64 a4] ?_
               with_reducible refine (spec_FindPath.calls kj12 _ _ l0 a4 t231 _ ?s1 ?s2 A21.out).mono ?_
               (case s1 => exact S.cA HR0.out)
               (case s2 => exact HC0.out)
               rintro e w' ⟨rfl, ⟨nd, rfl⟩⟩
               refine ⟨_, rfl, ?_⟩
               refine hK.out _ _ ⟨(S.hb HB hw230_0 :), (S.hb HB hw230_1 :), (S.hb HB hw232_0 :), (S.hb HB hw232_1 :), (S.hb HB hw232_2 :), (S.hb HB hw232_3 :)⟩ (fun hHeld => ?_)
               clear hK K
               refine S.nm 57 ?_
               refine S.pS 12 58 ?_
               refine S.tK 13 59 #[true, true, true, true, true, true, true, true, true, true, true, true, true, true, false, false, false, false, false] ?_
               refine S.oN 14 60 #[true, true, true, true, true, true, true, true, true, true, true, true, true, true, true, false, false, false, false] (fun K hK => ?_)
               refine S.go Try.func123 #[.agg #[.int .i64 ((rd_T71 l0 t231).f0), .int .i64 ((rd_T71 l0 t231).f1), .int .i64 ((rd_T71 l0 t231).f2), .int .i64 ((rd_T71 l0 t231).f3)]] ?_
               with_reducible refine (spec_ClearOf.calls ((rd_T71 l0 t231).f0) ((rd_T71 l0 t231).f1) ((rd_T71 l0 t231).f2) ((rd_T71 l0 t231).f3) t233 _ A24.out).mono ?_
               rintro e w29 ⟨rfl, hb⟩
               refine ⟨_, rfl, ?_⟩
               replace HB := S.sA hb
               (try clear hb)
               (try clear hb2)
               (try clear hk)
               (try clear hi)
               refine hK.out _ _ ⟨(S.hb HB hw230_0 :), (S.hb HB hw230_1 :), (S.hb HB hw232_0 :), (S.hb HB hw232_1 :), (S.hb HB hw232_2 :), (S.hb HB hw232_3 :)⟩ (fun hHeld => ?_)
               clear hK K
               refine S.nm 60 ?_
               refine S.pS 15 61 ?_
               refine S.pS 16 62 ?_
               refine S.pS 17 63 ?_
               refine S.pS 18 45 ?_
               refine done_ (done_of HT_.out (by kernel_rfl)) ?_
               try go_wp2
               go_ret
               exact ⟨by first | rfl | (simp [errW_none, errW_some] <;> rfl) | (simp only [← hji7]; first | rfl | (simp [errW_none, errW_some] <;> rfl)) | (simp [*, errW_none, errW_some] <;> rfl), S.bA⟩
             ·rw [if_neg c23] at H
              exact absurd H (by simp)
            ·rw [if_neg c22] at H
             exact absurd H (by simp)
           ·rw [if_neg c20] at H
            exact absurd H (by simp)
          ·rw [if_neg c19] at H
           exact absurd H (by simp)
         ·replace c18 := Bool.eq_false_iff.mpr c18
          subst c18
          replace H := S.ie H
          obtain rfl := Option.some.inj H
          try go_wp2
          replace HB := Aside0.mk (below_drew1 HB.out)
          refine start_ (n := 19) (S := fun w' => True) (ds := []) #[false, false, false, false, false, false, false, false, false, false, false, false, false, false, false, false, false, false, false] (by kernel_rfl) rfl rfl trivial (fun hHeld => ?_); refine with_tabW spec_l9Light.tab5 spec_l9Light.bits5 (fun HT_ HW_ => ?_)
          generalize wc.drew = w30 at HB hHeld ⊢
          refine S.pS 0 46 ?_
          refine S.pS 1 47 ?_
          refine S.pU 2 48 ?_
          refine S.pU 3 49 ?_
          refine S.pU 4 50 ?_
          refine S.pU 5 51 ?_
          refine S.pU 6 52 ?_
          refine S.pU 7 53 ?_
          refine S.pU 8 54 ?_
          refine S.pU 9 55 ?_
          refine S.pU 10 56 ?_
          refine S.pU 11 57 ?_
          refine S.pU 12 58 ?_
          refine S.pU 13 59 ?_
          refine S.pU 14 60 ?_
          refine S.pU 15 61 ?_
          refine S.pU 16 62 ?_
          refine S.pS 17 63 ?_
          refine S.pS 18 45 ?_
          refine done_ (done_of HT_.out (by kernel_rfl)) ?_
          try go_wp2
          go_ret
          exact ⟨by first | rfl | (simp [errW_none, errW_some] <;> rfl) | (simp only [← hji7]; first | rfl | (simp [errW_none, errW_some] <;> rfl)) | (simp [*, errW_none, errW_some] <;> rfl), S.bA⟩
     ·rw [if_neg c11] at H
      exact absurd H (by simp)
    ·rw [if_neg c10] at H
     exact absurd H (by simp)
   ·rw [if_neg c9] at H
    exact absurd H (by simp)
  ·rw [if_neg c8] at H
   exact absurd H (by simp)

end Go.Proofs.Ytjgigmghcfdomaa.PFnExactWindowOf
