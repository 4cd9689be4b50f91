/- Printed by a program: what the Go functions compute, as plain Lean functions (.f), and the proofs that the machine's calls come to just that (.calls). -/
import Derived.Test.YtjgigmghcfdomaaPFnExactWindowOfx0
import Derived.Test.YtjgigmghcfdomaaPFnExactWindowOfx13
namespace Go.Proofs.Ytjgigmghcfdomaa.PFnExactWindowOf
open Go.RowKit Go.Proofs.YtjgigmghcfdomaaW.PrintWords Go.Proofs.YtjgigmghcfdomaaW.PrintLast Go.Proofs.YtjgigmghcfdomaaW.PrintMore
attribute [local go_sem] max2_int min2_int max_two min_two max_three min_three max_four min_four   -- for this text's walks alone
set_option linter.unusedVariables false
set_option linter.unusedSimpArgs false

/-! ### spec_WindowOf: function 31 -/
mutual
def spec_WindowOf.j0 : Nat → List Int → Bool → Option (Int × Int × Bool)
 | 0, _, _ => none
 | k + 1, x8, x23 => if x23 = true then (some (0, 0, false)) else (spec_WindowOf.l0 k x8 (-1) 0)
def spec_WindowOf.l0 : Nat → List Int → Int → Int → Option (Int × Int × Bool)
 | 0, _, _, _ => none
 | k + 1, x8, x9, x10 => if x10 < (x8.length : Int) then (spec_WindowOf.j2 k x8 x9 x10 (decide (x9 < 0))) else (spec_WindowOf.j2 k x8 x9 x10 false)
def spec_WindowOf.j2 : Nat → List Int → Int → Int → Bool → Option (Int × Int × Bool)
 | 0, _, _, _, _ => none
 | k + 1, x8, x9, x10, x32 => if x32 = true then (if 0 ≤ x10 then (if x10 < (x8.length : Int) then (if (rd x8 x10) = 1 then (if (x8.length : Int) = 0 then (none) else (if 0 ≤ (Int.tmod (wrap64 ((wrap64 (x10 + (x8.length : Int))) - 1)) (x8.length : Int)) then (if (Int.tmod (wrap64 ((wrap64 (x10 + (x8.length : Int))) - 1)) (x8.length : Int)) < (x8.length : Int) then (if (rd x8 (Int.tmod (wrap64 ((wrap64 (x10 + (x8.length : Int))) - 1)) (x8.length : Int))) = 1 then (spec_WindowOf.l0 k x8 x9 (wrap64 (x10 + 1))) else (spec_WindowOf.l0 k x8 x10 (wrap64 (x10 + 1)))) else (none)) else (none))) else (spec_WindowOf.l0 k x8 x9 (wrap64 (x10 + 1)))) else (none)) else (none)) else (if x9 < 0 then (some (0, (x8.length : Int), true)) else (spec_WindowOf.l1 k x8 x9 0))
def spec_WindowOf.l1 : Nat → List Int → Int → Int → Option (Int × Int × Bool)
 | 0, _, _, _ => none
 | k + 1, x8, x9, x11 => if (x8.length : Int) = 0 then (none) else (if 0 ≤ (Int.tmod (wrap64 (x9 + x11)) (x8.length : Int)) then (if (Int.tmod (wrap64 (x9 + x11)) (x8.length : Int)) < (x8.length : Int) then (if (rd x8 (Int.tmod (wrap64 (x9 + x11)) (x8.length : Int))) = 1 then (spec_WindowOf.l1 k x8 x9 (wrap64 (x11 + 1))) else (some (x9, x11, true))) else (none)) else (none))
end
def spec_WindowOf.f (k : Nat) (l0 : List (S71)) (l1 : List (S85)) (a2 : Int) : Option (Int × Int × Bool) := (spec_l9Row.f k l0 l1 a2).bind fun t276 => (if (t276.length : Int) = 0 then (spec_WindowOf.j0 k t276 true) else (spec_WindowOf.j0 k t276 (decide ((t276.length : Int) > 200))))
set_option maxHeartbeats 8000000 in
set_option maxRecDepth 100000 in
theorem spec_WindowOf.calls (k : Nat) (A0 : Option Addr) (c0 : Nat) (l0 : List (S71)) (A1 : Option Addr) (c1 : Nat) (l1 : List (S85)) (a2 : Int) (r1 : Int) (r2 : Int) (r3 : Bool) (w : World) (hr0 : Kd.C k71 w A0 l0.length l0) (hc0 : l0.length ≤ c0) (hr1 : Kd.C k85 w A1 l1.length l1) (hc1 : l1.length ≤ c1) (h : spec_WindowOf.f k l0 l1 a2 = some (r1, r2, r3)) :
  Calls Try.prog 31 #[.slice A0 l0.length c0, .slice A1 l1.length c1, .int .i64 a2] w fun e w' => e = .returned (.tuple #[.agg #[.int .i64 r1, .int .i64 r2], .bool r3]) ∧ Below w.heap.size w w' := by
 have hu45 := Try.underlying45
 have HR0 := Aside0.mk hr0
 have HC0 := Aside0.mk hc0
 clear hr0 hc0
 have HR1 := Aside0.mk hr1
 have HC1 := Aside0.mk hc1
 clear hr1 hc1
 have HB := Aside0.mk (Below.refl w.heap.size w)
 have H : ((spec_l9Row.f k l0 l1 a2).bind fun t276 => (if (t276.length : Int) = 0 then (spec_WindowOf.j0 k t276 true) else (spec_WindowOf.j0 k t276 (decide ((t276.length : Int) > 200))))) = some (r1, r2, r3) := h
 clear h
 replace H := S.bd H; obtain ⟨t276, A4, H⟩ := H
 (try dsimp only at H)
 have HC5 := Aside0.mk H
 clear H
 go_enter Try.func31, Try.ntmps31
 go_upto_region 2 with (first | ((with_reducible refine gate_dst (N := 6) rfl ?_); (try (refine gate_guard (by rfl) ?_; dsimp only)); refine S.bx 6 (cs := #[.int .i64 0, .int .i64 0]) (t := 45) ?_; intro gb275 hg w6 hbox hb; have BK275 := Aside0.mk hbox; have GW275 := S.geA hg; have GE275 := S.geA hg; replace HB := S.sA hb; clear hb hbox hg) | ((with_reducible refine gate_callee (f := 74) rfl ?_); refine S.gL (some 15) Try.func74 #[.slice A0 l0.length c0, .slice A1 l1.length c1, .int .i64 a2] ?_; (with_reducible refine (spec_l9Row.calls k _ _ l0 _ _ l1 a2 t276 _ ?s1 HC0.out ?s3 HC1.out A4.out).mono ?_); (case s1 => exact S.cA HR0.out); (case s3 => exact S.cA HR1.out); rintro e w7 ⟨v277, rfl, ho0, hb⟩; refine ⟨_, rfl, ?_⟩; have HO278 := S.lwG ho0; replace BK275 := S.kb BK275 hb; replace HB := S.sG hb; (try clear hb); (try clear ho0)))
 (try simp only [Act.put, List.setIfInBounds_toArray, List.set_cons_zero, List.set_cons_succ])
 go_cut [23] (fun v23 wc => ∃ (kq : Nat) (x23_4 : Bool), v23 = .bool x23_4 ∧ Aside0 (spec_WindowOf.j0 kq t276 x23_4 = some (r1, r2, r3)) ∧ Aside0 (kq ≤ k) ∧ Aside0 (Kd.R (Kd.int .i64) 3 wc w.heap.size (fun _ => True) v277 t276) ∧ Aside0 (wc.heap[gb275]? = some (.cells #[.int .i64 0, .int .i64 0] 45 (0, 0))) ∧ Aside0 (Below w.heap.size w wc))
 case first =>
  have H := HC5.out
  clear HC5
  by_cases c8 : (t276.length : Int) = 0
  ·rw [if_pos c8] at H
   have c8b0 : ((t276.length : Int) == 0) = true := beq_iff_eq.mpr c8
   have c8b1 : ((t276.length : Int) != 0) = false := bne_eq_false_iff_eq.mpr c8
   clear c8
   (first | rw [c8b0] | (simp only [i64_w, i32_w]; rw [c8b0]) | skip)
   have H' := Aside0.mk H
   clear H
   obtain ⟨Ao9, co9, eo9⟩ := Kd.R_slice HO278.out
   subst eo9
   go_wp2
   go_meet
   case rel => exact ⟨_, (true), S.eA, H', S.le, ⟨S.uR HO278.out⟩, ⟨S.uB BK275.out⟩, ⟨S.bG⟩⟩
  ·rw [if_neg c8] at H
   have c8b0 : ((t276.length : Int) == 0) = false := beq_eq_false_iff_ne.mpr c8
   have c8b1 : ((t276.length : Int) != 0) = true := bne_iff_ne.mpr c8
   have c8b2 : ¬ (t276 = []) := fun h_ => c8 (by rw [h_]; rfl)
   (first | rw [c8b0] | (simp only [i64_w, i32_w]; rw [c8b0]) | skip)
   have H' := Aside0.mk H
   clear H
   obtain ⟨Ao10, co10, eo10⟩ := Kd.R_slice HO278.out
   subst eo10
   go_wp2
   go_meet
   case rel => exact ⟨_, (decide ((t276.length : Int) > 200)), S.eA, H', S.le, ⟨S.uR HO278.out⟩, ⟨S.uB BK275.out⟩, ⟨S.bG⟩⟩
 case rest =>
  clear HC5
  try clear c1
  obtain ⟨kq, x23_4, rfl, HA, HJ4, HO_8, BK275, HB⟩ := hcut
  cases kq with
  | zero => exact absurd HA.out (by simp [spec_WindowOf.j0])
  | succ kj4 =>
   have H := HA.out
   clear HA
   simp only [spec_WindowOf.j0] at H
   replace H := S.db H; rcases H with ⟨rfl, H⟩ | ⟨rfl, H⟩
   ·simp only [Option.some.injEq, Prod.mk.injEq] at H
    obtain ⟨rfl, rfl, rfl⟩ := H
    obtain ⟨Z12a, Z12b, Y12a, Y12b⟩ := S.c2 BK275.out
    go_wp2
    refine bodyPost_ret (results_ct rfl _ _ gb275 45 #[.int .i64 0, .int .i64 0] (0, 0) _ rfl (by (with_reducible repeat (first | refine blk_drewN ?_ _ | refine blk_drew ?_ | refine blk_alloc ?_ _)); refine blk_put (cs := #[.int .i64 0, .int .i64 0]) ?_ 1 _ rfl; (with_reducible repeat (first | refine blk_drewN ?_ _ | refine blk_drew ?_ | refine blk_alloc ?_ _)); refine blk_put (cs := #[.int .i64 0, .int .i64 0]) ?_ 0 _ rfl; (with_reducible repeat (first | refine blk_drewN ?_ _ | refine blk_drew ?_ | refine blk_alloc ?_ _)); exact BK275.out) Try.underlying45 rfl (by kernel_rfl)) rfl ?_
    exact ⟨S.eW, S.bG⟩
   ·have H' := Aside0.mk H
    clear H
    go_wp2
    go_loopg [9, 10] kj4 (fun kq v9 v10 w' => ∃ (x9_2 : Int) (x10_2 : Int), v9 = .int .i64 x9_2 ∧ v10 = .int .i64 x10_2 ∧ Aside0 (spec_WindowOf.l0 kq t276 x9_2 x10_2 = some (r1, r2, r3)) ∧ Aside0 (kq ≤ kj4) ∧ Aside0 (Kd.R (Kd.int .i64) 3 w' w.heap.size (fun _ => True) v277 t276) ∧ Aside0 (w'.heap[gb275]? = some (.cells #[.int .i64 0, .int .i64 0] 45 (0, 0))) ∧ Aside0 (Below w.heap.size w w'))
    case atStart => exact ⟨((-1)), (0), S.eA, S.eA, H', ⟨Nat.le_refl _⟩, ⟨S.uR HO_8.out⟩, ⟨S.uB BK275.out⟩, ⟨S.bG⟩⟩
    case round =>
     clear H'
     try clear c1
     try clear c11
     obtain ⟨x9_2, x10_2, rfl, rfl, HA, HK2, HO_8, BK275, HB⟩ := hrel
     cases gk with
     | zero => exact absurd HA.out (by simp [spec_WindowOf.l0])
     | succ k2 =>
      have H := HA.out
      clear HA
      simp only [spec_WindowOf.l0] at H
      have HC13 := Aside0.mk H
      clear H
      go_upto_region 6 with (fail)
      go_cut [32] (fun v32 wc => ∃ (kq : Nat) (x32_12 : Bool), v32 = .bool x32_12 ∧ Aside0 (spec_WindowOf.j2 kq t276 x9_2 x10_2 x32_12 = some (r1, r2, r3)) ∧ Aside0 (kq ≤ k2) ∧ Aside0 (Kd.R (Kd.int .i64) 3 wc w.heap.size (fun _ => True) v277 t276) ∧ Aside0 (wc.heap[gb275]? = some (.cells #[.int .i64 0, .int .i64 0] 45 (0, 0))) ∧ Aside0 (Below w.heap.size w wc))
      case first =>
       have H := HC13.out
       clear HC13
       replace H := S.dc H; rcases H with ⟨H, c14b0⟩ | ⟨H, c14b0⟩
       ·(first | rw [c14b0] | (simp only [i64_w, i32_w]; rw [c14b0]) | skip)
        have H' := Aside0.mk H
        clear H
        obtain ⟨Ao15, co15, eo15⟩ := Kd.R_slice HO_8.out
        subst eo15
        go_wp2
        go_meet
        case rel => exact ⟨_, (decide (x9_2 < 0)), S.eA, H', ⟨by have := HJ4.out; have := HK2.out; first | omega | exact Nat.le_refl _⟩, ⟨S.uR HO_8.out⟩, ⟨S.uB BK275.out⟩, ⟨S.bG⟩⟩
       ·(first | rw [c14b0] | (simp only [i64_w, i32_w]; rw [c14b0]) | skip)
        have H' := Aside0.mk H
        clear H
        obtain ⟨Ao16, co16, eo16⟩ := Kd.R_slice HO_8.out
        subst eo16
        go_wp2
        go_meet
        case rel => exact ⟨_, (false), S.eA, H', ⟨by have := HJ4.out; have := HK2.out; first | omega | exact Nat.le_refl _⟩, ⟨S.uR HO_8.out⟩, ⟨S.uB BK275.out⟩, ⟨S.bG⟩⟩
      case rest =>
       clear HC13
       try clear c1
       try clear c11
       obtain ⟨kq, x32_12, rfl, HA, HJ12, HO_8, BK275, HB⟩ := hcut
       cases kq with
       | zero => exact absurd HA.out (by simp [spec_WindowOf.j2])
       | succ kj12 =>
        have H := HA.out
        clear HA
        simp only [spec_WindowOf.j2] at H
        replace H := S.db H; rcases H with ⟨rfl, H⟩ | ⟨rfl, H⟩
        ·by_cases c18 : 0 ≤ x10_2
         ·rw [if_pos c18] at H
          have c18b0 : decide (0 ≤ x10_2) = true := decide_eq_true c18
          clear c18
          by_cases c19 : x10_2 < (t276.length : Int)
          ·rw [if_pos c19] at H
           have c19b0 : decide (x10_2 < (t276.length : Int)) = true := decide_eq_true c19
           clear c19
           by_cases c20 : (rd t276 x10_2) = 1
           ·rw [if_pos c20] at H
            have c20b0 : ((rd t276 x10_2) == 1) = true := beq_iff_eq.mpr c20
            have c20b1 : ((rd t276 x10_2) != 1) = false := bne_eq_false_iff_eq.mpr c20
            clear c20
            by_cases c21 : (t276.length : Int) = 0
            ·rw [if_pos c21] at H
             exact absurd H (by simp)
            ·rw [if_neg c21] at H
             have c21b0 : ((t276.length : Int) == 0) = false := beq_eq_false_iff_ne.mpr c21
             have c21b1 : ((t276.length : Int) != 0) = true := bne_iff_ne.mpr c21
             have c21b2 : ¬ (t276 = []) := fun h_ => c21 (by rw [h_]; rfl)
             obtain ⟨ji22, hji22⟩ : ∃ j_ : Int, (Int.tmod (wrap64 ((wrap64 (x10_2 + (t276.length : Int))) - 1)) (t276.length : Int)) = j_ := ⟨_, rfl⟩
             replace H : (if 0 ≤ (ji22) then (if (ji22) < (t276.length : Int) then (if (rd t276 (ji22)) = 1 then (spec_WindowOf.l0 kj12 t276 x9_2 (wrap64 (x10_2 + 1))) else (spec_WindowOf.l0 kj12 t276 x10_2 (wrap64 (x10_2 + 1)))) else (none)) else (none)) = some (r1, r2, r3) := by first | (rw [hji22] at H; exact H) | (simp only [hji22] at H ⊢; exact H)
             by_cases c23 : 0 ≤ (ji22)
             ·rw [if_pos c23] at H
              have c23b0 : decide (0 ≤ (ji22)) = true := decide_eq_true c23
              clear c23
              by_cases c24 : (ji22) < (t276.length : Int)
              ·rw [if_pos c24] at H
               have c24b0 : decide ((ji22) < (t276.length : Int)) = true := decide_eq_true c24
               clear c24
               by_cases c25 : (rd t276 (ji22)) = 1
               ·rw [if_pos c25] at H
                have c25b0 : ((rd t276 (ji22)) == 1) = true := beq_iff_eq.mpr c25
                have c25b1 : ((rd t276 (ji22)) != 1) = false := bne_eq_false_iff_eq.mpr c25
                clear c25
                have H' := Aside0.mk H
                clear H
                obtain ⟨Ao26, co26, eo26⟩ := Kd.R_slice HO_8.out
                subst eo26
                have p279 : 0 ≤ (x10_2 : Int) := S.oD
                have q279 : x10_2 < (t276.length : Int) := S.oD
                obtain ⟨ad279, e279, hx279_0⟩ := Kd.at_int (Kd.R_reads' HO_8.out).2.2 x10_2 p279 q279
                cases e279
                replace p279 := eq_true p279
                replace q279 := eq_true q279
                have p280 : 0 ≤ ((ji22) : Int) := S.oD
                have q280 : (ji22) < (t276.length : Int) := S.oD
                obtain ⟨ad280, e280, hx280_0⟩ := Kd.at_int (Kd.R_reads' HO_8.out).2.2 (ji22) p280 q280
                obtain rfl : ad279 = ad280 := (by injection e280)
                replace p280 := eq_true p280
                replace q280 := eq_true q280
                go_wp2
                go_roundg kj12
                case measure => have := HJ4.out; have := HK2.out; have := HJ12.out; omega
                case rel => exact ⟨(x9_2), (wrap64 (x10_2 + 1)), S.eA, S.eA, H', ⟨by have := HJ4.out; have := HK2.out; have := HJ12.out; omega⟩, ⟨S.uR HO_8.out⟩, ⟨S.uB BK275.out⟩, ⟨S.bG⟩⟩
               ·rw [if_neg c25] at H
                have c25b0 : ((rd t276 (ji22)) == 1) = false := beq_eq_false_iff_ne.mpr c25
                have c25b1 : ((rd t276 (ji22)) != 1) = true := bne_iff_ne.mpr c25
                have H' := Aside0.mk H
                clear H
                obtain ⟨Ao27, co27, eo27⟩ := Kd.R_slice HO_8.out
                subst eo27
                have p279 : 0 ≤ (x10_2 : Int) := S.oD
                have q279 : x10_2 < (t276.length : Int) := S.oD
                obtain ⟨ad279, e279, hx279_0⟩ := Kd.at_int (Kd.R_reads' HO_8.out).2.2 x10_2 p279 q279
                cases e279
                replace p279 := eq_true p279
                replace q279 := eq_true q279
                have p280 : 0 ≤ ((ji22) : Int) := S.oD
                have q280 : (ji22) < (t276.length : Int) := S.oD
                obtain ⟨ad280, e280, hx280_0⟩ := Kd.at_int (Kd.R_reads' HO_8.out).2.2 (ji22) p280 q280
                obtain rfl : ad279 = ad280 := (by injection e280)
                replace p280 := eq_true p280
                replace q280 := eq_true q280
                go_wp2
                go_roundg kj12
                case measure => have := HJ4.out; have := HK2.out; have := HJ12.out; omega
                case rel => exact ⟨(x10_2), (wrap64 (x10_2 + 1)), S.eA, S.eA, H', ⟨by have := HJ4.out; have := HK2.out; have := HJ12.out; omega⟩, ⟨S.uR HO_8.out⟩, ⟨S.uB BK275.out⟩, ⟨S.bG⟩⟩
              ·rw [if_neg c24] at H
               exact absurd H (by simp)
             ·rw [if_neg c23] at H
              exact absurd H (by simp)
           ·rw [if_neg c20] at H
            have c20b0 : ((rd t276 x10_2) == 1) = false := beq_eq_false_iff_ne.mpr c20
            have c20b1 : ((rd t276 x10_2) != 1) = true := bne_iff_ne.mpr c20
            have H' := Aside0.mk H
            clear H
            obtain ⟨Ao28, co28, eo28⟩ := Kd.R_slice HO_8.out
            subst eo28
            have p279 : 0 ≤ (x10_2 : Int) := S.oD
            have q279 : x10_2 < (t276.length : Int) := S.oD
            obtain ⟨ad279, e279, hx279_0⟩ := Kd.at_int (Kd.R_reads' HO_8.out).2.2 x10_2 p279 q279
            cases e279
            replace p279 := eq_true p279
            replace q279 := eq_true q279
            go_wp2
            go_roundg kj12
            case measure => have := HJ4.out; have := HK2.out; have := HJ12.out; omega
            case rel => exact ⟨(x9_2), (wrap64 (x10_2 + 1)), S.eA, S.eA, H', ⟨by have := HJ4.out; have := HK2.out; have := HJ12.out; omega⟩, ⟨S.uR HO_8.out⟩, ⟨S.uB BK275.out⟩, ⟨S.bG⟩⟩
          ·rw [if_neg c19] at H
           exact absurd H (by simp)
         ·rw [if_neg c18] at H
          exact absurd H (by simp)
        ·replace H := S.dc H; rcases H with ⟨H, c29b0⟩ | ⟨H, c29b0⟩
         ·simp only [Option.some.injEq, Prod.mk.injEq] at H
          obtain ⟨rfl, rfl, rfl⟩ := H
          obtain ⟨Ao30, co30, eo30⟩ := Kd.R_slice HO_8.out
          subst eo30
          obtain ⟨Z31a, Z31b, Y31a, Y31b⟩ := S.c2 BK275.out
          go_wp2
          refine bodyPost_ret (results_ct rfl _ _ gb275 45 #[.int .i64 0, .int .i64 (t276.length : Int)] (0, 0) _ rfl (by (with_reducible repeat (first | refine blk_drewN ?_ _ | refine blk_drew ?_ | refine blk_alloc ?_ _)); refine blk_put (cs := #[.int .i64 0, .int .i64 0]) ?_ 1 _ rfl; (with_reducible repeat (first | refine blk_drewN ?_ _ | refine blk_drew ?_ | refine blk_alloc ?_ _)); refine blk_put (cs := #[.int .i64 0, .int .i64 0]) ?_ 0 _ rfl; (with_reducible repeat (first | refine blk_drewN ?_ _ | refine blk_drew ?_ | refine blk_alloc ?_ _)); exact BK275.out) Try.underlying45 rfl (by kernel_rfl)) rfl ?_
          exact ⟨S.eW, S.bG⟩
         ·have H' := Aside0.mk H
          clear H
          go_wp2
          go_loopg [11] kj12 (fun kq v11 w' => ∃ (x11_4 : Int), v11 = .int .i64 x11_4 ∧ Aside0 (spec_WindowOf.l1 kq t276 x9_2 x11_4 = some (r1, r2, r3)) ∧ Aside0 (kq ≤ kj12) ∧ Aside0 (Kd.R (Kd.int .i64) 3 w' w.heap.size (fun _ => True) v277 t276) ∧ Aside0 (w'.heap[gb275]? = some (.cells #[.int .i64 0, .int .i64 0] 45 (0, 0))) ∧ Aside0 (Below w.heap.size w w'))
          case atStart => exact ⟨(0), S.eA, H', ⟨Nat.le_refl _⟩, ⟨S.uR HO_8.out⟩, ⟨S.uB BK275.out⟩, ⟨S.bG⟩⟩
          case round =>
           clear H'
           try clear c1
           try clear c11
           try clear c17
           try clear c29
           try clear c29b0
           obtain ⟨x11_4, rfl, HA, HK4, HO_8, BK275, HB⟩ := hrel
           cases gk with
           | zero => exact absurd HA.out (by simp [spec_WindowOf.l1])
           | succ k4 =>
            have H := HA.out
            clear HA
            simp only [spec_WindowOf.l1] at H
            by_cases c32 : (t276.length : Int) = 0
            ·rw [if_pos c32] at H
             exact absurd H (by simp)
            ·rw [if_neg c32] at H
             have c32b0 : ((t276.length : Int) == 0) = false := beq_eq_false_iff_ne.mpr c32
             have c32b1 : ((t276.length : Int) != 0) = true := bne_iff_ne.mpr c32
             have c32b2 : ¬ (t276 = []) := fun h_ => c32 (by rw [h_]; rfl)
             obtain ⟨ji33, hji33⟩ : ∃ j_ : Int, (Int.tmod (wrap64 (x9_2 + x11_4)) (t276.length : Int)) = j_ := ⟨_, rfl⟩
             replace H : (if 0 ≤ (ji33) then (if (ji33) < (t276.length : Int) then (if (rd t276 (ji33)) = 1 then (spec_WindowOf.l1 k4 t276 x9_2 (wrap64 (x11_4 + 1))) else (some (x9_2, x11_4, true))) else (none)) else (none)) = some (r1, r2, r3) := by first | (rw [hji33] at H; exact H) | (simp only [hji33] at H ⊢; exact H)
             by_cases c34 : 0 ≤ (ji33)
             ·rw [if_pos c34] at H
              have c34b0 : decide (0 ≤ (ji33)) = true := decide_eq_true c34
              clear c34
              by_cases c35 : (ji33) < (t276.length : Int)
              ·rw [if_pos c35] at H
               have c35b0 : decide ((ji33) < (t276.length : Int)) = true := decide_eq_true c35
               clear c35
               by_cases c36 : (rd t276 (ji33)) = 1
               ·rw [if_pos c36] at H
                have c36b0 : ((rd t276 (ji33)) == 1) = true := beq_iff_eq.mpr c36
                have c36b1 : ((rd t276 (ji33)) != 1) = false := bne_eq_false_iff_eq.mpr c36
                clear c36
                have H' := Aside0.mk H
                clear H
                obtain ⟨Ao37, co37, eo37⟩ := Kd.R_slice HO_8.out
                subst eo37
                have p281 : 0 ≤ ((ji33) : Int) := S.oD
                have q281 : (ji33) < (t276.length : Int) := S.oD
                obtain ⟨ad281, e281, hx281_0⟩ := Kd.at_int (Kd.R_reads' HO_8.out).2.2 (ji33) p281 q281
                cases e281
                replace p281 := eq_true p281
                replace q281 := eq_true q281
                go_wp2
                go_roundg k4
                case measure => have := HJ4.out; have := HK2.out; have := HJ12.out; have := HK4.out; omega
                case rel => exact ⟨(wrap64 (x11_4 + 1)), S.eA, H', ⟨by have := HJ4.out; have := HK2.out; have := HJ12.out; have := HK4.out; omega⟩, ⟨S.uR HO_8.out⟩, ⟨S.uB BK275.out⟩, ⟨S.bG⟩⟩
               ·rw [if_neg c36] at H
                have c36b0 : ((rd t276 (ji33)) == 1) = false := beq_eq_false_iff_ne.mpr c36
                have c36b1 : ((rd t276 (ji33)) != 1) = true := bne_iff_ne.mpr c36
                simp only [Option.some.injEq, Prod.mk.injEq] at H
                obtain ⟨rfl, rfl, rfl⟩ := H
                obtain ⟨Ao38, co38, eo38⟩ := Kd.R_slice HO_8.out
                subst eo38
                have p281 : 0 ≤ ((ji33) : Int) := S.oD
                have q281 : (ji33) < (t276.length : Int) := S.oD
                obtain ⟨ad281, e281, hx281_0⟩ := Kd.at_int (Kd.R_reads' HO_8.out).2.2 (ji33) p281 q281
                cases e281
                replace p281 := eq_true p281
                replace q281 := eq_true q281
                obtain ⟨Z39a, Z39b, Y39a, Y39b⟩ := S.c2 BK275.out
                go_wp2
                refine bodyPost_ret (results_ct rfl _ _ gb275 45 #[.int .i64 x9_2, .int .i64 x11_4] (0, 0) _ rfl (by (with_reducible repeat (first | refine blk_drewN ?_ _ | refine blk_drew ?_ | refine blk_alloc ?_ _)); refine blk_put (cs := #[.int .i64 x9_2, .int .i64 0]) ?_ 1 _ rfl; (with_reducible repeat (first | refine blk_drewN ?_ _ | refine blk_drew ?_ | refine blk_alloc ?_ _)); refine blk_put (cs := #[.int .i64 0, .int .i64 0]) ?_ 0 _ rfl; (with_reducible repeat (first | refine blk_drewN ?_ _ | refine blk_drew ?_ | refine blk_alloc ?_ _)); exact BK275.out) Try.underlying45 rfl (by kernel_rfl)) rfl ?_
                exact ⟨by first | rfl | (simp [errW_none, errW_some] <;> rfl) | (simp only [← hji33]; first | rfl | (simp [errW_none, errW_some] <;> rfl)) | (simp [*, errW_none, errW_some] <;> rfl), S.bG⟩
              ·rw [if_neg c35] at H
               exact absurd H (by simp)
             ·rw [if_neg c34] at H
              exact absurd H (by simp)

/-! ### impl_InRange: function 62 -/
def impl_InRange.f (a0 : Int) (a1 : Int) (a2 : Int) : Option (Bool) := if a1 ≤ a0 then (some (decide (a0 ≤ a2))) else (some false)
set_option maxHeartbeats 8000000 in
set_option maxRecDepth 100000 in
theorem impl_InRange.calls (a0 : Int) (a1 : Int) (a2 : Int) (r : Bool) (w : World) (h : impl_InRange.f a0 a1 a2 = some r) :
  Calls Try.prog 62 #[.int .i64 a0, .int .i64 a1, .int .i64 a2] w fun e w' => e = .returned (.bool r) ∧ Drawn0 w w' := by
 have H : (if a1 ≤ a0 then (some (decide (a0 ≤ a2))) else (some false)) = some r := h
 clear h
 replace H := S.dc H; rcases H with ⟨H, c4b0⟩ | ⟨H, c4b0⟩
 ·obtain rfl := Option.some.inj H
  go_enter Try.func62, Try.ntmps62
  go_wp2
  go_ret
  exact ⟨S.eA, by repeat (first | exact Drawn0.refl _ | apply Drawn0.step)⟩
 ·obtain rfl := Option.some.inj H
  go_enter Try.func62, Try.ntmps62
  go_wp2
  go_ret
  exact ⟨S.eA, by repeat (first | exact Drawn0.refl _ | apply Drawn0.step)⟩

-- NOT PRINTED: function 111 (impl_Path)

/-! ### impl_FindPath: function 83 -/
set_option maxHeartbeats 8000000 in
set_option maxRecDepth 100000 in
theorem impl_FindPath.idx (p : S71 → Bool) (g : Nat) (lb : Array Value) (eg : ∀ args w, (callFunc g args).run Try.prog w = .ok (.enter g args) w) (A0 : Option Addr) (c0 : Nat) (l0 : List S71) (w : World)
  (hp : ∀ (W : World) (x : S71), Below w.heap.size w W → Calls Try.prog g (#[.agg #[.int .i64 x.f0, .int .i64 x.f1, .int .i64 x.f2, .int .i64 x.f3]] ++ lb) W fun e w' => e = .returned (.bool (p x)) ∧ Below w.heap.size w w')
  (hr0 : Kd.C k71 w A0 l0.length l0) (hc0 : l0.length ≤ c0) :
  Calls Try.prog 111 #[.slice A0 l0.length c0, .func (.func g) #[] lb] w fun e w' => e = .returned (.int .i64 (Go.Proofs.Ytjgigmghcfdomaa.Hnd.fidx p l0 0)) ∧ Below w.heap.size w w' := by
 have hbig : l0.length ≤ 9223372036854775807 := hr0.2.1
 have HR0 := Aside0.mk hr0
 have HP := Aside0.mk hp
 clear hr0 hp
 go_enter Try.func111, Try.ntmps111
 go_wp2
 go_loopg [5, 8] l0.length (fun gg _ s8 wr => ∃ kk : Nat, kk ≤ l0.length ∧ l0.length - kk ≤ gg ∧ s8 = .int .i64 kk ∧ Aside0 (Below w.heap.size w wr) ∧ Aside0 (Go.Proofs.Ytjgigmghcfdomaa.Hnd.fidx p l0 0 = Go.Proofs.Ytjgigmghcfdomaa.Hnd.fidx p (l0.drop kk) kk))
 case atStart => exact ⟨0, Nat.zero_le _, by omega, rfl, ⟨Below.refl _ w⟩, ⟨by simp⟩⟩
 case round =>
  obtain ⟨kk, hkk, hg, rfl, BW, A⟩ := hrel
  by_cases hlt : kk < l0.length
  ·have hltz : (kk : Int) < (l0.length : Int) := by omega
   obtain ⟨ad116, e116, hx0, hx1, hx2, hx3⟩ := at_T71 HR0.out (kk : Int) (by omega) hltz
   cases e116
   simp only [Int.toNat_natCast] at hx0 hx1 hx2 hx3
   replace hx0 := (BW.out.cell (World.block_lt_of_cell? w _ hx0)).trans hx0
   replace hx1 := (BW.out.cell (World.block_lt_of_cell? w _ hx1)).trans hx1
   replace hx2 := (BW.out.cell (World.block_lt_of_cell? w _ hx2)).trans hx2
   replace hx3 := (BW.out.cell (World.block_lt_of_cell? w _ hx3)).trans hx3
   have hcall := HP.out wr (rd_T71 l0 (kk : Int)) BW.out
   have hq0 : rd_T71 l0 (kk : Int) = l0[kk] := by simp [rd_T71, hlt]
   have E : Aside0 (Go.Proofs.Ytjgigmghcfdomaa.Hnd.fidx p l0 0 = if p (rd_T71 l0 (kk : Int)) = true then (kk : Int) else Go.Proofs.Ytjgigmghcfdomaa.Hnd.fidx p (l0.drop (kk + 1)) (kk + 1)) := ⟨by rw [A.out, List.drop_eq_getElem_cons hlt, hq0]; rfl⟩
   clear A hq0
   generalize rd_T71 l0 (kk : Int) = y at hx0 hx1 hx2 hx3 hcall E
   cases hq : p y with
   | true =>
    rw [hq] at hcall
    go_wp2_with (fail)
    refine hcall.mono ?_
    rintro e w' ⟨rfl, hb'⟩
    clear hcall
    dsimp only
    go_wp2_with (fail)
    go_ret
    exact ⟨by rw [E.out, if_pos hq]; rfl, hb'⟩
   | false =>
    rw [hq] at hcall
    go_wp2_with (fail)
    refine hcall.mono ?_
    rintro e w' ⟨rfl, hb'⟩
    clear hcall
    dsimp only
    go_wp2_with (fail)
    go_roundg (l0.length - (kk + 1))
    case measure => omega
    case rel => exact ⟨kk + 1, by omega, by omega, by go_num, ⟨hb'⟩, ⟨by rw [E.out, hq]; rfl⟩⟩
  ·have hltz : ¬ (kk : Int) < (l0.length : Int) := by omega
   have hkn : kk = l0.length := by omega
   have E : Aside0 (Go.Proofs.Ytjgigmghcfdomaa.Hnd.fidx p l0 0 = -1) := ⟨by rw [A.out, hkn, List.drop_length]; rfl⟩
   clear A
   subst hkn
   go_wp2
   go_ret
   exact ⟨by rw [E.out]; rfl, BW.out⟩

theorem impl_FindPath.pred (a1 : Int) (B0 : Nat) (w : World) (hB0 : B0 < w.heap.size) (hcB0 : w.cell? ⟨B0, 0, none⟩ = some (.int .i64 a1)) :
  ∀ (W : World) (x : S71), Below w.heap.size w W → Calls Try.prog 112 (#[.agg #[.int .i64 x.f0, .int .i64 x.f1, .int .i64 x.f2, .int .i64 x.f3]] ++ #[.pointer (some ⟨B0, 0, none⟩)]) W fun e w' => e = .returned (.bool (x.f0 == a1)) ∧ Below w.heap.size w w' := fun W x hb => by
 have cB0 : W.cell? ⟨B0, 0, none⟩ = some (.int .i64 a1) := (hb.cell (p := ⟨B0, 0, none⟩) hB0).trans hcB0
 have lB0 : B0 < W.heap.size := Nat.lt_of_lt_of_le hB0 hb.size
 have nB0 : B0 ≠ W.heap.size := by omega
 have hB2 := Aside0.mk hb
 clear hb hcB0
 show Calls Try.prog 112 #[.agg #[.int .i64 x.f0, .int .i64 x.f1, .int .i64 x.f2, .int .i64 x.f3], .pointer (some ⟨B0, 0, none⟩)] W _
 go_enter Try.func112, Try.ntmps112
 go_wp2
 go_ret
 exact ⟨by first | rfl | simp, hB2.out.alloc hB2.out.size _⟩
def impl_FindPath.f (l0 : List (S71)) (a1 : Int) : Option (Int) := some (Go.Proofs.Ytjgigmghcfdomaa.Hnd.fidx (fun x : S71 => x.f0 == a1) l0 0)
set_option maxHeartbeats 8000000 in
theorem impl_FindPath.calls (A0 : Option Addr) (c0 : Nat) (l0 : List (S71)) (a1 : Int) (r : Int) (w : World) (hr0 : Kd.C k71 w A0 l0.length l0) (hc0 : l0.length ≤ c0) (h : impl_FindPath.f l0 a1 = some r) :
  Calls Try.prog 83 #[.slice A0 l0.length c0, .int .i64 a1] w fun e w' => e = .returned (.int .i64 r) ∧ Below w.heap.size w w' := by
 obtain rfl := Option.some.inj h
 clear h
 have eg : ∀ args w, (callFunc 112 args).run Try.prog w = .ok (.enter 112 args) w := Go.Proofs.Ytjgigmghcfdomaa.Hnd.enters_fn Try.func112 (by kernel_rfl) rfl
 have hB1 : Below w.heap.size w (w.alloc (.cells #[.int .i64 a1] 3)) := ((Below.refl _ w).alloc (Nat.le_refl _) _)
 have hcon := impl_FindPath.idx (fun x : S71 => x.f0 == a1) 112 #[.pointer (some ⟨w.heap.size, 0, none⟩)] eg A0 c0 l0 (w.alloc (.cells #[.int .i64 a1] 3)) (impl_FindPath.pred a1 w.heap.size _ (by simp) (by simp)) (Kd.C_below hr0 hB1) hc0
 generalize Go.Proofs.Ytjgigmghcfdomaa.Hnd.fidx (fun x : S71 => x.f0 == a1) l0 0 = r at hcon ⊢
 clear hr0 eg
 have HB1 := Aside0.mk hB1
 clear hB1
 go_enter Try.func83, Try.ntmps83
 go_wp2_with (fail)
 refine hcon.mono ?_
 rintro e w' ⟨rfl, hb'⟩
 clear hcon
 dsimp only
 go_wp2_with (fail)
 go_ret
 exact ⟨rfl, HB1.out.trans (hb'.mono (by simp))⟩

/-! ### impl_IsPath: function 117 -/
def impl_IsPath.f (a0_0 : Int) (a0_1 : Int) (a0_2 : Int) (a0_3 : Int) : Option (Bool) := (impl_InRange.f a0_0 1 20).bind fun t283 => (if t283 = true then ((impl_InRange.f a0_1 1 3).bind fun t284 => (if t284 = true then ((impl_InRange.f a0_2 0 3).bind fun t285 => (if t285 = true then ((impl_InRange.f a0_3 0 3).bind fun t286 => (if t286 = true then (some ((a0_2 == a0_3) == (a0_1 == 2))) else (some false))) else (some false))) else (some false))) else (some false))
set_option maxHeartbeats 8000000 in
set_option maxRecDepth 100000 in
theorem impl_IsPath.calls (a0_0 : Int) (a0_1 : Int) (a0_2 : Int) (a0_3 : Int) (r : Bool) (w : World) (h : impl_IsPath.f a0_0 a0_1 a0_2 a0_3 = some r) :
  Calls Try.prog 117 #[.agg #[.int .i64 a0_0, .int .i64 a0_1, .int .i64 a0_2, .int .i64 a0_3]] w fun e w' => e = .returned (.bool r) ∧ Below w.heap.size w w' := by
 have hu71 := Try.underlying71
 have HB := Aside0.mk (Below.refl w.heap.size w)
 have H : ((impl_InRange.f a0_0 1 20).bind fun t283 => (if t283 = true then ((impl_InRange.f a0_1 1 3).bind fun t284 => (if t284 = true then ((impl_InRange.f a0_2 0 3).bind fun t285 => (if t285 = true then ((impl_InRange.f a0_3 0 3).bind fun t286 => (if t286 = true then (some ((a0_2 == a0_3) == (a0_1 == 2))) else (some false))) else (some false))) else (some false))) else (some false))) = some r := h
 clear h
 replace H := S.bd H; obtain ⟨t283, A2, H⟩ := H
 (try dsimp only at H)
 replace H := S.db H; rcases H with ⟨rfl, H⟩ | ⟨rfl, H⟩
 ·replace H := S.bd H; obtain ⟨t284, A4, H⟩ := H
  (try dsimp only at H)
  replace H := S.db H; rcases H with ⟨rfl, H⟩ | ⟨rfl, H⟩
  ·replace H := S.bd H; obtain ⟨t285, A6, H⟩ := H
   (try dsimp only at H)
   replace H := S.db H; rcases H with ⟨rfl, H⟩ | ⟨rfl, H⟩
   ·replace H := S.bd H; obtain ⟨t286, A8, H⟩ := H
    (try dsimp only at H)
    replace H := S.db H; rcases H with ⟨rfl, H⟩ | ⟨rfl, H⟩
    ·obtain rfl := Option.some.inj H
     go_enter Try.func117, Try.ntmps117
     go_wp2_with (first | ((with_reducible refine gate_dst (N := 1) rfl ?_); refine S.bx 1 (cs := #[.int .i64 a0_0, .int .i64 a0_1, .int .i64 a0_2, .int .i64 a0_3]) (t := 71) ?_; intro gb282 hg w10 hbox hb; have BK282 := Aside0.mk hbox; have GW282 := S.geA hg; have GE282 := S.geA hg; replace HB := S.sA hb; clear hb hbox hg; obtain ⟨Z11a, Z11b, Z11c, Z11d, Y11a, Y11b, Y11c, Y11d⟩ := S.c4 BK282.out) | ((with_reducible refine gate_callee (f := 62) rfl ?_); refine S.gL (some 5) Try.func62 #[.int .i64 a0_0, .int .i64 1, .int .i64 20] ?_; (with_reducible refine (impl_InRange.calls a0_0 1 20 true _ A2.out).mono ?_); rintro e w' ⟨rfl, ⟨nd, rfl⟩⟩; refine ⟨_, rfl, ?_⟩) | (go_at_call 62; (with_reducible refine (impl_InRange.calls a0_1 1 3 true _ A4.out).mono ?_); rintro e w' ⟨rfl, ⟨nd, rfl⟩⟩) | (go_at_call 62; (with_reducible refine (impl_InRange.calls a0_2 0 3 true _ A6.out).mono ?_); rintro e w' ⟨rfl, ⟨nd, rfl⟩⟩) | (go_at_call 62; (with_reducible refine (impl_InRange.calls a0_3 0 3 true _ A8.out).mono ?_); rintro e w' ⟨rfl, ⟨nd, rfl⟩⟩))
     go_ret
     exact ⟨S.eW, S.bG⟩
    ·obtain rfl := Option.some.inj H
     go_enter Try.func117, Try.ntmps117
     go_wp2_with (first | ((with_reducible refine gate_dst (N := 1) rfl ?_); refine S.bx 1 (cs := #[.int .i64 a0_0, .int .i64 a0_1, .int .i64 a0_2, .int .i64 a0_3]) (t := 71) ?_; intro gb282 hg w12 hbox hb; have BK282 := Aside0.mk hbox; have GW282 := S.geA hg; have GE282 := S.geA hg; replace HB := S.sA hb; clear hb hbox hg; obtain ⟨Z13a, Z13b, Z13c, Z13d, Y13a, Y13b, Y13c, Y13d⟩ := S.c4 BK282.out) | ((with_reducible refine gate_callee (f := 62) rfl ?_); refine S.gL (some 5) Try.func62 #[.int .i64 a0_0, .int .i64 1, .int .i64 20] ?_; (with_reducible refine (impl_InRange.calls a0_0 1 20 true _ A2.out).mono ?_); rintro e w' ⟨rfl, ⟨nd, rfl⟩⟩; refine ⟨_, rfl, ?_⟩) | (go_at_call 62; (with_reducible refine (impl_InRange.calls a0_1 1 3 true _ A4.out).mono ?_); rintro e w' ⟨rfl, ⟨nd, rfl⟩⟩) | (go_at_call 62; (with_reducible refine (impl_InRange.calls a0_2 0 3 true _ A6.out).mono ?_); rintro e w' ⟨rfl, ⟨nd, rfl⟩⟩) | (go_at_call 62; (with_reducible refine (impl_InRange.calls a0_3 0 3 false _ A8.out).mono ?_); rintro e w' ⟨rfl, ⟨nd, rfl⟩⟩))
     go_ret
     exact ⟨S.eW, S.bG⟩
   ·obtain rfl := Option.some.inj H
    go_enter Try.func117, Try.ntmps117
    go_wp2_with (first | ((with_reducible refine gate_dst (N := 1) rfl ?_); refine S.bx 1 (cs := #[.int .i64 a0_0, .int .i64 a0_1, .int .i64 a0_2, .int .i64 a0_3]) (t := 71) ?_; intro gb282 hg w14 hbox hb; have BK282 := Aside0.mk hbox; have GW282 := S.geA hg; have GE282 := S.geA hg; replace HB := S.sA hb; clear hb hbox hg; obtain ⟨Z15a, Z15b, Z15c, Z15d, Y15a, Y15b, Y15c, Y15d⟩ := S.c4 BK282.out) | ((with_reducible refine gate_callee (f := 62) rfl ?_); refine S.gL (some 5) Try.func62 #[.int .i64 a0_0, .int .i64 1, .int .i64 20] ?_; (with_reducible refine (impl_InRange.calls a0_0 1 20 true _ A2.out).mono ?_); rintro e w' ⟨rfl, ⟨nd, rfl⟩⟩; refine ⟨_, rfl, ?_⟩) | (go_at_call 62; (with_reducible refine (impl_InRange.calls a0_1 1 3 true _ A4.out).mono ?_); rintro e w' ⟨rfl, ⟨nd, rfl⟩⟩) | (go_at_call 62; (with_reducible refine (impl_InRange.calls a0_2 0 3 false _ A6.out).mono ?_); rintro e w' ⟨rfl, ⟨nd, rfl⟩⟩))
    go_ret
    exact ⟨S.eW, S.bG⟩
  ·obtain rfl := Option.some.inj H
   go_enter Try.func117, Try.ntmps117
   go_wp2_with (first | ((with_reducible refine gate_dst (N := 1) rfl ?_); refine S.bx 1 (cs := #[.int .i64 a0_0, .int .i64 a0_1, .int .i64 a0_2, .int .i64 a0_3]) (t := 71) ?_; intro gb282 hg w16 hbox hb; have BK282 := Aside0.mk hbox; have GW282 := S.geA hg; have GE282 := S.geA hg; replace HB := S.sA hb; clear hb hbox hg; obtain ⟨Z17a, Z17b, Z17c, Z17d, Y17a, Y17b, Y17c, Y17d⟩ := S.c4 BK282.out) | ((with_reducible refine gate_callee (f := 62) rfl ?_); refine S.gL (some 5) Try.func62 #[.int .i64 a0_0, .int .i64 1, .int .i64 20] ?_; (with_reducible refine (impl_InRange.calls a0_0 1 20 true _ A2.out).mono ?_); rintro e w' ⟨rfl, ⟨nd, rfl⟩⟩; refine ⟨_, rfl, ?_⟩) | (go_at_call 62; (with_reducible refine (impl_InRange.calls a0_1 1 3 false _ A4.out).mono ?_); rintro e w' ⟨rfl, ⟨nd, rfl⟩⟩))
   go_ret
   exact ⟨S.eW, S.bG⟩
 ·obtain rfl := Option.some.inj H
  go_enter Try.func117, Try.ntmps117
  go_wp2_with (first | ((with_reducible refine gate_dst (N := 1) rfl ?_); refine S.bx 1 (cs := #[.int .i64 a0_0, .int .i64 a0_1, .int .i64 a0_2, .int .i64 a0_3]) (t := 71) ?_; intro gb282 hg w18 hbox hb; have BK282 := Aside0.mk hbox; have GW282 := S.geA hg; have GE282 := S.geA hg; replace HB := S.sA hb; clear hb hbox hg; obtain ⟨Z19a, Z19b, Z19c, Z19d, Y19a, Y19b, Y19c, Y19d⟩ := S.c4 BK282.out) | ((with_reducible refine gate_callee (f := 62) rfl ?_); refine S.gL (some 5) Try.func62 #[.int .i64 a0_0, .int .i64 1, .int .i64 20] ?_; (with_reducible refine (impl_InRange.calls a0_0 1 20 false _ A2.out).mono ?_); rintro e w' ⟨rfl, ⟨nd, rfl⟩⟩; refine ⟨_, rfl, ?_⟩))
  go_ret
  exact ⟨S.eW, S.bG⟩

end Go.Proofs.Ytjgigmghcfdomaa.PFnExactWindowOf
