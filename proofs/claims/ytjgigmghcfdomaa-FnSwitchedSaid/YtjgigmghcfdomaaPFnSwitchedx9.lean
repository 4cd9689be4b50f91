/- Printed by a program: what the Go functions compute, as plain Lean functions (.f), and the proofs that the machine's calls come to just that (.calls). -/
import Derived.Test.YtjgigmghcfdomaaPFnSwitchedx0
import Derived.Test.YtjgigmghcfdomaaPFnSwitchedx6
import Derived.Test.YtjgigmghcfdomaaPFnSwitchedx7
import Derived.Test.YtjgigmghcfdomaaPFnSwitchedx8
import Derived.Test.YtjgigmghcfdomaaPFnSwitchedx5
namespace Go.Proofs.Ytjgigmghcfdomaa.PFnSwitched
open Go.RowKit Go.Proofs.YtjgigmghcfdomaaW.PrintWords Go.Proofs.YtjgigmghcfdomaaW.PrintLast Go.Proofs.YtjgigmghcfdomaaW.PrintMore
attribute [local go_sem] max2_int min2_int max_two min_two max_three min_three max_four min_four   -- for this text's walks alone
set_option linter.unusedVariables false
set_option linter.unusedSimpArgs false
set_option maxHeartbeats 8000000
set_option maxRecDepth 100000
/-! ### spec_AddToStage: function 149 -/
mutual
def spec_AddToStage.l0 : Nat → List (S71) → List Int → List Int → Int → Option (List Int)
 | 0, _, _, _, _ => none
 | k + 1, x0, x1, x5, x6 => if x6 < (x0.length : Int) then ((spec_IsTogether.f k x0 x1).bind fun t442 => (spec_AddToStage.j1 k x0 x1 x5 x6 t442)) else (spec_AddToStage.j1 k x0 x1 x5 x6 false)
def spec_AddToStage.j1 : Nat → List (S71) → List Int → List Int → Int → Bool → Option (List Int)
 | 0, _, _, _, _, _ => none
 | k + 1, x0, x1, x5, x6, x19 => if x19 = true then (if 0 ≤ x6 then (if x6 < (x0.length : Int) then ((spec_l6Put.f k x5 ((rd_T71 x0 x6).f0)).bind fun t444 => ((spec_IsTogether.f k x0 t444).bind fun t447 => (if t447 = true then (spec_AddToStage.l0 k x0 x1 t444 (wrap64 (x6 + 1))) else (spec_AddToStage.l0 k x0 x1 x5 (wrap64 (x6 + 1)))))) else (none)) else (none)) else (some x5)
end
def spec_AddToStage.f (k : Nat) (l0 : List (S71)) (l1 : List Int) : Option (List Int) := (some (([] : List Int) : List Int)).bind fun y436 => (if y436.length + l1.length < 17592186044416 then (spec_AddToStage.l0 k l0 l1 (y436 ++ l1) 0) else (none))
theorem spec_AddToStage.calls (k : Nat) (A0 : Option Addr) (c0 : Nat) (l0 : List (S71)) (A1 : Option Addr) (c1 : Nat) (l1 : List Int) (r : List Int) (w : World) (hr0 : Kd.C k71 w A0 l0.length l0) (hc0 : l0.length ≤ c0) (hr1 : Kd.C (Kd.int .i64) w A1 l1.length l1) (hc1 : l1.length ≤ c1) (h : spec_AddToStage.f k l0 l1 = some r) :
  Calls Try.prog 149 #[.slice A0 l0.length c0, .slice A1 l1.length c1] w fun e w' => ∃ v0_ : Value, e = .returned (v0_) ∧ Kd.R (Kd.int .i64) 3 w' w.heap.size (fun _ => True) v0_ r ∧ Below w.heap.size w w' := by
 have HR0 := Aside0.mk hr0
 have HC0 := Aside0.mk hc0
 clear hr0 hc0
 have HR1 := Aside0.mk hr1
 have HC1 := Aside0.mk hc1
 clear hr1 hc1
 have HB := Aside0.mk (Below.refl w.heap.size w)
 have H : ((some (([] : List Int) : List Int)).bind fun y436 => (if y436.length + l1.length < 17592186044416 then (spec_AddToStage.l0 k l0 l1 (y436 ++ l1) 0) else (none))) = some r := h
 clear h
 obtain ⟨y436, hy436⟩ : ∃ y_ : List Int, y_ = (([] : List Int)) := ⟨_, rfl⟩
 have hY_ := hy436; replace H : (if y436.length + l1.length < 17592186044416 then (spec_AddToStage.l0 k l0 l1 (y436 ++ l1) 0) else (none)) = some r := S.rh; clear hY_
 have Ny436 := Aside0.mk hy436
 clear hy436
 by_cases c3 : y436.length + l1.length < 17592186044416
 ·rw [if_pos c3] at H
  have LMc3 := Aside0.mk c3
  clear c3
  obtain ⟨y439, hy439⟩ : ∃ y_ : List Int, y_ = (y436 ++ l1) := ⟨_, rfl⟩
  have hY_ := hy439; replace H : (spec_AddToStage.l0 k l0 l1 y439 0) = some r := S.rh; clear hY_
  have Ny439 := Aside0.mk hy439
  clear hy439
  have H' := Aside0.mk H
  clear H
  go_enter Try.func149, Try.ntmps149
  go_wp2_with (first | ((with_reducible refine gate_dst (N := 8) rfl ?_); refine Kd.R_lit (Kd.int .i64) _ 3 ?hg (N := 8) ?hd (xs := ([] : List Int)) (inner := []) (ok := fun _ => True) (okp := fun _ => True) ?hr ?hp (fun _ hk => hk) trivial (Below.refl _ _) (Nat.le_refl _) (by simp) ?_; (case hd => rfl); (case hg => rfl); (case hr => first | (go_simp; done) | (go_simp; rfl)); (case hp => exact (Reps.none _ _)); intro v437 w4 ho5 hb hg_ hnew_; clear hg_ hnew_; (first | rw [← Ny436.out] at ho5 | (simp only [Int.reduceToNat] at ho5; rw [← Ny436.out] at ho5)); have HO438 := S.lwA ho5; replace HB := S.sA hb; clear hb ho5) | ((with_reducible refine gate_builtin (b := .append) (xs := #[.tmp 8, .tmp 9]) rfl ?_); at_builtin; refine Kd.R_append_rows (Kd.int .i64) (w0 := w) w.heap.size rfl (.tmp 8) (.tmp 9) 36 3 (.int .i64 0) 8 rfl Try.underlying36 info3 rfl (by decide) (by omega) v437 y436 l1 _ _ _ (fun _ => True) (fun _ => False) rfl rfl ?aO ?aR (fun _ _ h => h) (fun _ h => h.elim) ?aF ?aB ?aS ?aL ?_; (case aR => exact S.cA HR1.out); (case aB => exact S.bA); (case aF => exact (fun _ _ => trivial)); (case aO => exact (S.uR HO438.out)); (case aS => exact (below_size S.bA)); (case aL => have := LMc3.out; omega); intro v440 w6 ho hb hg hat; rw [← Ny439.out] at ho; have n0_ := Aside0.mk (hb); have n1_ := Aside0.mk (ho); clear HB; clear HO438; have HB := n0_; have HO441 := n1_; clear n0_ n1_; clear ho hb hg hat))
  go_loopg [5, 6] k (fun kq v5 v6 w' => ∃ (x5_1 : List Int) (x6_1 : Int), v6 = .int .i64 x6_1 ∧ Aside0 (spec_AddToStage.l0 kq l0 l1 x5_1 x6_1 = some r) ∧ Aside0 (kq ≤ k) ∧ Aside0 (Kd.R (Kd.int .i64) 3 w' w.heap.size (fun _ => True) v5 x5_1) ∧ Aside0 (Below w.heap.size w w'))
  case atStart => exact ⟨(y439), (0), S.eA, H', ⟨Nat.le_refl _⟩, ⟨S.uR HO441.out⟩, ⟨S.bA⟩⟩
  case round =>
   clear H'
   try clear c1
   try clear c3
   obtain ⟨x5_1, x6_1, rfl, HA, HK1, HO_5, HB⟩ := hrel
   cases gk with
   | zero => exact absurd HA.out (by simp [spec_AddToStage.l0])
   | succ k1 =>
    have H := HA.out
    clear HA
    simp only [spec_AddToStage.l0] at H
    have HC7 := Aside0.mk H
    clear H
    go_upto_region 3 with (fail)
    go_cut [19] (fun v19 wc => ∃ (kq : Nat) (x19_6 : Bool), v19 = .bool x19_6 ∧ Aside0 (spec_AddToStage.j1 kq l0 l1 x5_1 x6_1 x19_6 = some r) ∧ Aside0 (kq ≤ k1) ∧ Aside0 (Kd.R (Kd.int .i64) 3 wc w.heap.size (fun _ => True) u5 x5_1) ∧ Aside0 (Below w.heap.size w wc))
    case first =>
     have H := HC7.out
     clear HC7
     replace H := S.dc H; rcases H with ⟨H, c8b0⟩ | ⟨H, c8b0⟩
     ·(first | rw [c8b0] | (simp only [i64_w, i32_w]; rw [c8b0]) | skip)
      replace H := S.bd H; obtain ⟨t442, A9, H⟩ := H
      (try dsimp only at H)
      have H' := Aside0.mk H
      clear H
      go_wp2_with (first | (go_at_call 99; (with_reducible refine (spec_IsTogether.calls k1 _ _ l0 _ _ l1 t442 _ ?s1 HC0.out ?s3 HC1.out A9.out).mono ?_); (case s1 => exact S.cA HR0.out); (case s3 => exact S.cA HR1.out); rintro e w10 ⟨rfl, hb⟩; replace HO_5 := S.rb HO_5 hb; replace HB := S.sA hb; (try clear hb)))
      go_meet
      case rel => exact ⟨_, (t442), S.eA, H', ⟨by have := HK1.out; first | omega | exact Nat.le_refl _⟩, ⟨S.uR HO_5.out⟩, ⟨S.bA⟩⟩
     ·(first | rw [c8b0] | (simp only [i64_w, i32_w]; rw [c8b0]) | skip)
      have H' := Aside0.mk H
      clear H
      go_wp2
      go_meet
      case rel => exact ⟨_, (false), S.eA, H', ⟨by have := HK1.out; first | omega | exact Nat.le_refl _⟩, ⟨S.uR HO_5.out⟩, ⟨S.bA⟩⟩
    case rest =>
     clear HC7
     try clear c1
     try clear c3
     obtain ⟨kq, x19_6, rfl, HA, HJ6, HO_5, HB⟩ := hcut
     cases kq with
     | zero => exact absurd HA.out (by simp [spec_AddToStage.j1])
     | succ kj6 =>
      have H := HA.out
      clear HA
      simp only [spec_AddToStage.j1] at H
      replace H := S.db H; rcases H with ⟨rfl, H⟩ | ⟨rfl, H⟩
      ·by_cases c12 : 0 ≤ x6_1
       ·rw [if_pos c12] at H
        have c12b0 : decide (0 ≤ x6_1) = true := decide_eq_true c12
        clear c12
        by_cases c13 : x6_1 < (l0.length : Int)
        ·rw [if_pos c13] at H
         have c13b0 : decide (x6_1 < (l0.length : Int)) = true := decide_eq_true c13
         clear c13
         replace H := S.bd H; obtain ⟨t444, A14, H⟩ := H
         (try dsimp only at H)
         replace H := S.bd H; obtain ⟨t447, A15, H⟩ := H
         (try dsimp only at H)
         replace H := S.db H; rcases H with ⟨rfl, H⟩ | ⟨rfl, H⟩
         ·have H' := Aside0.mk H
          clear H
          have p443 : 0 ≤ (x6_1 : Int) := S.oD
          have q443 : x6_1 < (l0.length : Int) := S.oD
          obtain ⟨ad443, e443, hx443_0, hx443_1, hx443_2, hx443_3⟩ := at_T71 HR0.out x6_1 p443 q443
          cases e443
          replace hx443_0 := S.hb HB hx443_0
          replace hx443_1 := S.hb HB hx443_1
          replace hx443_2 := S.hb HB hx443_2
          replace hx443_3 := S.hb HB hx443_3
          replace p443 := eq_true p443
          replace q443 := eq_true q443
          obtain ⟨Ao17, co17, eo17⟩ := Kd.R_slice HO_5.out
          subst eo17
          go_wp2_with (first | ((with_reducible refine gate_callee (f := 150) rfl ?_); refine S.gL (some 28) Try.func150 #[.slice Ao17 x5_1.length co17, .int .i64 ((rd_T71 l0 x6_1).f0)] ?_; (with_reducible refine (spec_l6Put.calls kj6 _ _ x5_1 ((rd_T71 l0 x6_1).f0) t444 _ ?s1 (S.rl HO_5) A14.out).mono ?_); (case s1 => exact S.rd HO_5); rintro e w18 ⟨v445, rfl, ho0, hb⟩; refine ⟨_, rfl, ?_⟩; have HO446 := S.rnA ho0 HO_5; replace HO_5 := S.re HO_5 ho0 hb; replace HB := S.sA hb; (try clear hb); (try clear ho0); obtain ⟨Ao19, co19, eo19⟩ := Kd.R_slice HO446.out; subst eo19) | ((with_reducible refine gate_callee (f := 99) rfl ?_); refine S.gL (some 31) Try.func99 #[.slice (some ad443) l0.length c0, .slice Ao19 t444.length co19] ?_; (with_reducible refine (spec_IsTogether.calls kj6 _ _ l0 _ _ t444 true _ ?s1 HC0.out ?s3 (S.rl HO446) A15.out).mono ?_); (case s1 => exact S.cA HR0.out); (case s3 => exact S.rd HO446); rintro e w20 ⟨rfl, hb⟩; refine ⟨_, rfl, ?_⟩; replace HO_5 := S.rb HO_5 hb; replace HO446 := S.rb HO446 hb; replace HB := S.sA hb; (try clear hb)))
          go_roundg kj6
          case measure => have := HK1.out; have := HJ6.out; omega
          case rel => exact ⟨(t444), (wrap64 (x6_1 + 1)), S.eA, H', ⟨by have := HK1.out; have := HJ6.out; omega⟩, ⟨by (with_reducible repeat (first | apply Kd.R_alloc | apply Kd.R_drewN | apply Kd.R_drew)); exact Kd.R_mono HO446.out (fun _ hk => trivial)⟩, ⟨S.bA⟩⟩
         ·have H' := Aside0.mk H
          clear H
          have p443 : 0 ≤ (x6_1 : Int) := S.oD
          have q443 : x6_1 < (l0.length : Int) := S.oD
          obtain ⟨ad443, e443, hx443_0, hx443_1, hx443_2, hx443_3⟩ := at_T71 HR0.out x6_1 p443 q443
          cases e443
          replace hx443_0 := S.hb HB hx443_0
          replace hx443_1 := S.hb HB hx443_1
          replace hx443_2 := S.hb HB hx443_2
          replace hx443_3 := S.hb HB hx443_3
          replace p443 := eq_true p443
          replace q443 := eq_true q443
          obtain ⟨Ao21, co21, eo21⟩ := Kd.R_slice HO_5.out
          subst eo21
          go_wp2_with (first | ((with_reducible refine gate_callee (f := 150) rfl ?_); refine S.gL (some 28) Try.func150 #[.slice Ao21 x5_1.length co21, .int .i64 ((rd_T71 l0 x6_1).f0)] ?_; (with_reducible refine (spec_l6Put.calls kj6 _ _ x5_1 ((rd_T71 l0 x6_1).f0) t444 _ ?s1 (S.rl HO_5) A14.out).mono ?_); (case s1 => exact S.rd HO_5); rintro e w22 ⟨v445, rfl, ho0, hb⟩; refine ⟨_, rfl, ?_⟩; have HO446 := S.rnA ho0 HO_5; replace HO_5 := S.re HO_5 ho0 hb; replace HB := S.sA hb; (try clear hb); (try clear ho0); obtain ⟨Ao23, co23, eo23⟩ := Kd.R_slice HO446.out; subst eo23) | ((with_reducible refine gate_callee (f := 99) rfl ?_); refine S.gL (some 31) Try.func99 #[.slice (some ad443) l0.length c0, .slice Ao23 t444.length co23] ?_; (with_reducible refine (spec_IsTogether.calls kj6 _ _ l0 _ _ t444 false _ ?s1 HC0.out ?s3 (S.rl HO446) A15.out).mono ?_); (case s1 => exact S.cA HR0.out); (case s3 => exact S.rd HO446); rintro e w24 ⟨rfl, hb⟩; refine ⟨_, rfl, ?_⟩; replace HO_5 := S.rb HO_5 hb; replace HO446 := S.rb HO446 hb; replace HB := S.sA hb; (try clear hb)))
          go_roundg kj6
          case measure => have := HK1.out; have := HJ6.out; omega
          case rel => exact ⟨(x5_1), (wrap64 (x6_1 + 1)), S.eA, H', ⟨by have := HK1.out; have := HJ6.out; omega⟩, ⟨by (with_reducible repeat (first | apply Kd.R_alloc | apply Kd.R_drewN | apply Kd.R_drew)); exact Kd.R_mono HO_5.out (fun _ hk => trivial)⟩, ⟨S.bA⟩⟩
        ·rw [if_neg c13] at H
         exact absurd H (by simp)
       ·rw [if_neg c12] at H
        exact absurd H (by simp)
      ·obtain rfl := Option.some.inj H
       go_wp2
       go_ret
       exact ⟨_, S.eW, S.uR HO_5.out, S.bA⟩
 ·rw [if_neg c3] at H
  exact absurd H (by simp)

/-! ### spec_CoverOf: function 145 -/
mutual
def spec_CoverOf.l0 : Nat → List (S71) → List (List Int) → List Int → Int → Option ((List (List Int)))
 | 0, _, _, _, _ => none
 | k + 1, x0, x3, x4, x5 => if x5 < (x0.length : Int) then ((spec_ArePaths.f k x0).bind fun t454 => (spec_CoverOf.j1 k x0 x3 x4 x5 t454)) else (spec_CoverOf.j1 k x0 x3 x4 x5 false)
def spec_CoverOf.j1 : Nat → List (S71) → List (List Int) → List Int → Int → Bool → Option ((List (List Int)))
 | 0, _, _, _, _, _ => none
 | k + 1, x0, x3, x4, x5, x17 => if x17 = true then (if 0 ≤ x5 then (if x5 < (x0.length : Int) then ((spec_l6Has.f k x4 ((rd_T71 x0 x5).f0)).bind fun t456 => (if t456 = true then (spec_CoverOf.l0 k x0 x3 x4 (wrap64 (x5 + 1))) else ((spec_AddToStage.f k x0 (([(rd_T71 x0 x5).f0] : List Int))).bind fun t461 => (if x3.length < 5864062014805 then (spec_CoverOf.l1 k x0 (x3 ++ [t461]) x4 x5 t461 0) else (none))))) else (none)) else (none)) else (some x3)
def spec_CoverOf.l1 : Nat → List (S71) → List (List Int) → List Int → Int → List Int → Int → Option ((List (List Int)))
 | 0, _, _, _, _, _, _ => none
 | k + 1, x0, x3, x4, x5, x6, x7 => if x7 < (x6.length : Int) then (if 0 ≤ x7 then ((spec_l6Put.f k x4 (rd x6 x7)).bind fun t468 => (spec_CoverOf.l1 k x0 x3 t468 x5 x6 (wrap64 (x7 + 1)))) else (none)) else (spec_CoverOf.l0 k x0 x3 x4 (wrap64 (x5 + 1)))
end
def spec_CoverOf.f (k : Nat) (l0 : List (S71)) : Option ((List (List Int))) := spec_CoverOf.l0 k l0 (([] : List (List Int))) (([] : List Int)) 0
theorem spec_CoverOf.calls (k : Nat) (A0 : Option Addr) (c0 : Nat) (l0 : List (S71)) (r : List (List Int)) (w : World) (hr0 : Kd.C k71 w A0 l0.length l0) (hc0 : l0.length ≤ c0) (h : spec_CoverOf.f k l0 = some r) :
  Calls Try.prog 145 #[.slice A0 l0.length c0] w fun e w' => ∃ v0_ : Value, e = .returned (v0_) ∧ Kd.R (Kd.slice 3 (Kd.int .i64)) 36 w' w.heap.size (fun _ => True) v0_ r ∧ Below w.heap.size w w' := by
 have HR0 := Aside0.mk hr0
 have HC0 := Aside0.mk hc0
 clear hr0 hc0
 have HB := Aside0.mk (Below.refl w.heap.size w)
 have H : (spec_CoverOf.l0 k l0 (([] : List (List Int))) (([] : List Int)) 0) = some r := h
 clear h
 obtain ⟨y448, hy448⟩ : ∃ y_ : List (List Int), y_ = (([] : List (List Int))) := ⟨_, rfl⟩
 have hY_ := hy448; replace H : (spec_CoverOf.l0 k l0 y448 (([] : List Int)) 0) = some r := S.rh; clear hY_
 have Ny448 := Aside0.mk hy448
 clear hy448
 obtain ⟨y451, hy451⟩ : ∃ y_ : List Int, y_ = (([] : List Int)) := ⟨_, rfl⟩
 have hY_ := hy451; replace H : (spec_CoverOf.l0 k l0 y448 y451 0) = some r := S.rh; clear hY_
 have Ny451 := Aside0.mk hy451
 clear hy451
 have H' := Aside0.mk H
 clear H
 go_enter Try.func145, Try.ntmps145
 go_wp2_with (first | ((with_reducible refine gate_dst (N := 8) rfl ?_); refine Kd.R_lit (Kd.slice 3 (Kd.int .i64)) _ 36 ?hg (N := 8) ?hd (xs := ([] : List (List Int))) (inner := []) (ok := fun _ => True) (okp := fun _ => True) ?hr ?hp (fun _ hk => hk) trivial (Below.refl _ _) (Nat.le_refl _) (by simp) ?_; (case hd => rfl); (case hg => rfl); (case hr => first | (go_simp; done) | (go_simp; rfl)); (case hp => exact (Reps.none _ _)); intro v449 w2 ho3 hb hg_ hnew_; clear hg_ hnew_; (first | rw [← Ny448.out] at ho3 | (simp only [Int.reduceToNat] at ho3; rw [← Ny448.out] at ho3)); have HO450 := S.lwA ho3; replace HB := S.sA hb; clear hb ho3) | ((with_reducible refine gate_dst (N := 9) rfl ?_); refine Kd.R_lit (Kd.int .i64) _ 3 ?hg (N := 9) ?hd (xs := ([] : List Int)) (inner := []) (ok := fun _ => True) (okp := fun _ => True) ?hr ?hp (fun _ hk => hk) trivial (Below.refl _ _) (Nat.le_refl _) (by simp) ?_; (case hd => rfl); (case hg => rfl); (case hr => first | (go_simp; done) | (go_simp; rfl)); (case hp => exact (Reps.none _ _)); intro v452 w4 ho5 hb hg_ hnew_; clear hg_ hnew_; (first | rw [← Ny451.out] at ho5 | (simp only [Int.reduceToNat] at ho5; rw [← Ny451.out] at ho5)); replace HO450 := S.re HO450 ho5 hb; have HO453 := S.lwA ho5; replace HB := S.sA hb; clear hb ho5))
 go_loopg [3, 4, 5] k (fun kq v3 v4 v5 w' => ∃ (x3_1 : List (List Int)) (x4_1 : List Int) (x5_1 : Int), v5 = .int .i64 x5_1 ∧ Aside0 (spec_CoverOf.l0 kq l0 x3_1 x4_1 x5_1 = some r) ∧ Aside0 (kq ≤ k) ∧ Aside0 (Kd.R (Kd.slice 3 (Kd.int .i64)) 36 w' w.heap.size (fun k_ => S.N k_ v4) v3 x3_1) ∧ Aside0 (Kd.R (Kd.int .i64) 3 w' w.heap.size (fun _ => True) v4 x4_1) ∧ Aside0 (Below w.heap.size w w'))
 case atStart => exact ⟨(y448), (y451), (0), S.eA, H', ⟨Nat.le_refl _⟩, ⟨by (with_reducible repeat (first | apply Kd.R_alloc | apply Kd.R_drewN | apply Kd.R_drew)); exact Kd.R_mono HO450.out (fun _ hk => hk.2)⟩, ⟨S.uR HO453.out⟩, ⟨S.bA⟩⟩
 case round =>
  clear H'
  obtain ⟨x3_1, x4_1, x5_1, rfl, HA, HK1, HO_3, HO_4, HB⟩ := hrel
  cases gk with
  | zero => exact absurd HA.out (by simp [spec_CoverOf.l0])
  | succ k1 =>
   have H := HA.out
   clear HA
   simp only [spec_CoverOf.l0] at H
   have HC6 := Aside0.mk H
   clear H
   go_upto_region 4 with (fail)
   go_cut [17] (fun v17 wc => ∃ (kq : Nat) (x17_5 : Bool), v17 = .bool x17_5 ∧ Aside0 (spec_CoverOf.j1 kq l0 x3_1 x4_1 x5_1 x17_5 = some r) ∧ Aside0 (kq ≤ k1) ∧ Aside0 (Kd.R (Kd.slice 3 (Kd.int .i64)) 36 wc w.heap.size (fun k_ => some k_ ≠ (u4 : Value).ownBlock) u3 x3_1) ∧ Aside0 (Kd.R (Kd.int .i64) 3 wc w.heap.size (fun _ => True) u4 x4_1) ∧ Aside0 (Below w.heap.size w wc))
   case first =>
    have H := HC6.out
    clear HC6
    replace H := S.dc H; rcases H with ⟨H, c7b0⟩ | ⟨H, c7b0⟩
    ·(first | rw [c7b0] | (simp only [i64_w, i32_w]; rw [c7b0]) | skip)
     replace H := S.bd H; obtain ⟨t454, A8, H⟩ := H
     (try dsimp only at H)
     have H' := Aside0.mk H
     clear H
     go_wp2_with (first | (go_at_call 125; (with_reducible refine (spec_ArePaths.calls k1 _ _ l0 t454 _ ?s1 HC0.out A8.out).mono ?_); (case s1 => exact S.cA HR0.out); rintro e w9 ⟨rfl, hb⟩; replace HO_3 := S.rb HO_3 hb; replace HO_4 := S.rb HO_4 hb; replace HB := S.sA hb; (try clear hb)))
     go_meet
     case rel => exact ⟨_, (t454), S.eA, H', ⟨by have := HK1.out; first | omega | exact Nat.le_refl _⟩, ⟨S.uR HO_3.out⟩, ⟨S.uR HO_4.out⟩, ⟨S.bA⟩⟩
    ·(first | rw [c7b0] | (simp only [i64_w, i32_w]; rw [c7b0]) | skip)
     have H' := Aside0.mk H
     clear H
     go_wp2
     go_meet
     case rel => exact ⟨_, (false), S.eA, H', ⟨by have := HK1.out; first | omega | exact Nat.le_refl _⟩, ⟨S.uR HO_3.out⟩, ⟨S.uR HO_4.out⟩, ⟨S.bA⟩⟩
   case rest =>
    clear HC6
    obtain ⟨kq, x17_5, rfl, HA, HJ5, HO_3, HO_4, HB⟩ := hcut
    cases kq with
    | zero => exact absurd HA.out (by simp [spec_CoverOf.j1])
    | succ kj5 =>
     have H := HA.out
     clear HA
     simp only [spec_CoverOf.j1] at H
     replace H := S.db H; rcases H with ⟨rfl, H⟩ | ⟨rfl, H⟩
     ·by_cases c11 : 0 ≤ x5_1
      ·rw [if_pos c11] at H
       have c11b0 : decide (0 ≤ x5_1) = true := decide_eq_true c11
       clear c11
       by_cases c12 : x5_1 < (l0.length : Int)
       ·rw [if_pos c12] at H
        have c12b0 : decide (x5_1 < (l0.length : Int)) = true := decide_eq_true c12
        clear c12
        replace H := S.bd H; obtain ⟨t456, A13, H⟩ := H
        (try dsimp only at H)
        replace H := S.db H; rcases H with ⟨rfl, H⟩ | ⟨rfl, H⟩
        ·have H' := Aside0.mk H
         clear H
         have p455 : 0 ≤ (x5_1 : Int) := S.oD
         have q455 : x5_1 < (l0.length : Int) := S.oD
         obtain ⟨ad455, e455, hx455_0, hx455_1, hx455_2, hx455_3⟩ := at_T71 HR0.out x5_1 p455 q455
         cases e455
         replace hx455_0 := S.hb HB hx455_0
         replace hx455_1 := S.hb HB hx455_1
         replace hx455_2 := S.hb HB hx455_2
         replace hx455_3 := S.hb HB hx455_3
         replace p455 := eq_true p455
         replace q455 := eq_true q455
         obtain ⟨Ao15, co15, eo15⟩ := Kd.R_slice HO_4.out
         subst eo15
         go_wp2_with (first | ((with_reducible refine gate_callee (f := 72) rfl ?_); refine S.gL (some 26) Try.func72 #[.slice Ao15 x4_1.length co15, .int .i64 ((rd_T71 l0 x5_1).f0)] ?_; (with_reducible refine (spec_l6Has.calls kj5 _ _ x4_1 ((rd_T71 l0 x5_1).f0) true _ ?s1 (S.rl HO_4) A13.out).mono ?_); (case s1 => exact S.rd HO_4); rintro e w' ⟨rfl, ⟨nd, rfl⟩⟩; refine ⟨_, rfl, ?_⟩))
         go_roundg kj5
         case measure => have := HK1.out; have := HJ5.out; omega
         case rel => exact ⟨(x3_1), (x4_1), (wrap64 (x5_1 + 1)), S.eA, H', ⟨by have := HK1.out; have := HJ5.out; omega⟩, ⟨S.uR HO_3.out⟩, ⟨S.uR HO_4.out⟩, ⟨S.bA⟩⟩
        ·obtain ⟨y458, hy458⟩ : ∃ y_ : List Int, y_ = (([(rd_T71 l0 x5_1).f0] : List Int)) := ⟨_, rfl⟩
         have hY_ := hy458; replace H : ((spec_AddToStage.f kj5 l0 y458).bind fun t461 => (if x3_1.length < 5864062014805 then (spec_CoverOf.l1 kj5 l0 (x3_1 ++ [t461]) x4_1 x5_1 t461 0) else (none))) = some r := S.rh; clear hY_
         have Ny458 := Aside0.mk hy458
         clear hy458
         replace H := S.bd H; obtain ⟨t461, A16, H⟩ := H
         (try dsimp only at H)
         by_cases c17 : x3_1.length < 5864062014805
         ·rw [if_pos c17] at H
          have LMc17 := Aside0.mk c17
          clear c17
          obtain ⟨y464, hy464⟩ : ∃ y_ : List (List Int), y_ = (x3_1 ++ [t461]) := ⟨_, rfl⟩
          have hY_ := hy464; replace H : (spec_CoverOf.l1 kj5 l0 y464 x4_1 x5_1 t461 0) = some r := S.rh; clear hY_
          have Ny464 := Aside0.mk hy464
          clear hy464
          have H' := Aside0.mk H
          clear H
          have p455 : 0 ≤ (x5_1 : Int) := S.oD
          have q455 : x5_1 < (l0.length : Int) := S.oD
          obtain ⟨ad455, e455, hx455_0, hx455_1, hx455_2, hx455_3⟩ := at_T71 HR0.out x5_1 p455 q455
          cases e455
          replace hx455_0 := S.hb HB hx455_0
          replace hx455_1 := S.hb HB hx455_1
          replace hx455_2 := S.hb HB hx455_2
          replace hx455_3 := S.hb HB hx455_3
          replace p455 := eq_true p455
          replace q455 := eq_true q455
          obtain ⟨Ao18, co18, eo18⟩ := Kd.R_slice HO_4.out
          subst eo18
          go_wp2_with (first | ((with_reducible refine gate_callee (f := 72) rfl ?_); refine S.gL (some 26) Try.func72 #[.slice Ao18 x4_1.length co18, .int .i64 ((rd_T71 l0 x5_1).f0)] ?_; (with_reducible refine (spec_l6Has.calls kj5 _ _ x4_1 ((rd_T71 l0 x5_1).f0) false _ ?s1 (S.rl HO_4) A13.out).mono ?_); (case s1 => exact S.rd HO_4); rintro e w' ⟨rfl, ⟨nd, rfl⟩⟩; refine ⟨_, rfl, ?_⟩; have p457 : 0 ≤ (x5_1 : Int) := S.oD; have q457 : x5_1 < (l0.length : Int) := S.oD; obtain ⟨ad457, e457, hx457_0, hx457_1, hx457_2, hx457_3⟩ := at_T71 HR0.out x5_1 p457 q457; obtain rfl : ad455 = ad457 := (by injection e457); replace hx457_0 := S.hb HB hx457_0; replace hx457_1 := S.hb HB hx457_1; replace hx457_2 := S.hb HB hx457_2; replace hx457_3 := S.hb HB hx457_3; replace p457 := eq_true p457; replace q457 := eq_true q457) | ((with_reducible refine gate_dst (N := 33) rfl ?_); refine Kd.R_lit (Kd.int .i64) _ 3 ?hg (N := 33) ?hd (xs := ([(rd_T71 l0 x5_1).f0] : List Int)) (inner := [.int .i64 ((rd_T71 l0 x5_1).f0)]) (ok := fun _ => True) (okp := fun _ => True) ?hr ?hp (fun _ hk => hk) trivial (Below.refl _ _) (Nat.le_refl _) (by simp) ?_; (case hd => rfl); (case hg => rfl); (case hr => first | (go_simp; done) | (go_simp; rfl)); (case hp => exact (Reps.one (show Kd.M (Kd.int .i64) _ _ _ ((rd_T71 l0 x5_1).f0) [.int .i64 ((rd_T71 l0 x5_1).f0)] from rfl) (Reps.none _ _))); intro v459 w19 ho20 hb hg_ hnew_; clear hg_ hnew_; (first | rw [← Ny458.out] at ho20 | (simp only [Int.reduceToNat] at ho20; rw [← Ny458.out] at ho20)); replace HO_3 := S.re HO_3 ho20 hb; have HO460 := S.rnA ho20 HO_4; replace HO_4 := S.re HO_4 ho20 hb; replace HB := S.sA hb; clear hb ho20; obtain ⟨Ao21, co21, eo21⟩ := Kd.R_slice HO460.out; subst eo21) | ((with_reducible refine gate_callee (f := 149) rfl ?_); refine S.gL (some 34) Try.func149 #[.slice (some ad455) l0.length c0, .slice Ao21 y458.length co21] ?_; (with_reducible refine (spec_AddToStage.calls kj5 _ _ l0 _ _ y458 t461 _ ?s1 HC0.out ?s3 (S.rl HO460) A16.out).mono ?_); (case s1 => exact S.cA HR0.out); (case s3 => exact S.rd HO460); rintro e w22 ⟨v462, rfl, ho0, hb⟩; refine ⟨_, rfl, ?_⟩; replace HO_3 := S.re HO_3 ho0 hb; have HO463 := Aside0.mk (Kd.R_lower (Kd.R_new' (Kd.R_new' ho0 (Kd.R_lt (S.uR HO_4.out))) (Kd.R_lt (S.uR HO460.out))) (below_size S.bA)); replace HO_4 := S.re HO_4 ho0 hb; replace HO460 := S.re HO460 ho0 hb; replace HB := S.sA hb; (try clear hb); (try clear ho0); obtain ⟨Ao24, co24, eo24⟩ := Kd.R_slice HO463.out; subst eo24) | ((with_reducible refine gate_builtin (b := .append) (xs := #[.tmp 35, .tmp 37]) rfl ?_); at_builtin; refine Kd.R_append (Kd.slice 3 (Kd.int .i64)) (w0 := w) w.heap.size rfl (.tmp 35) (.tmp 37) 111 36 (.slice none 0 0) 24 rfl Try.underlying111 info36 rfl (by decide) (by omega) u3 x3_1 t461 [.slice Ao24 t461.length co24] (fun k_ => S.N k_ (.slice Ao18 x4_1.length co18) ∧ S.N k_ (.slice Ao21 y458.length co21)) (fun k_ => ((fun k_ => S.N k_ (.slice Ao18 x4_1.length co18) ∧ S.N k_ (.slice Ao21 y458.length co21))) k_ ∧ some k_ ≠ (u3 : Value).ownBlock) rfl rfl ?aP (fun _ hk => hk) ?aF ?aO ?aB ?aS ?aL ?_; (case aP => exact Kd.M_row (Kd.R_mono (Kd.R_apart' (HO463.out) (Kd.R_typed HO_3.out) (by decide)) (fun k_ hk => ⟨⟨hk.1.1.2, hk.1.2⟩, hk.2⟩))); (case aB => exact S.bA); (case aF => exact (fun k_ hk => ⟨Kd.fresh' (Kd.R_lt (S.uR HO_4.out)) k_ hk, Kd.fresh' (Kd.R_lt (S.uR HO460.out)) k_ hk⟩)); (case aO => exact (by (with_reducible repeat (first | apply Kd.R_alloc | apply Kd.R_drewN | apply Kd.R_drew)); exact Kd.R_mono HO_3.out (fun _ hk => ⟨hk.1.1, hk.1.2⟩))); (case aS => exact (below_size S.bA)); (case aL => have := LMc17.out; omega); intro v465 w23 ho hb hg hat; rw [← Ny464.out] at ho; have n0_ := Aside0.mk (Kd.R_over' (S.uR HO_4.out) (Kd.R_typed (S.uR HO_3.out)) (by decide) hg); have n1_ := Aside0.mk (Kd.R_over' (S.uR HO460.out) (Kd.R_typed (S.uR HO_3.out)) (by decide) hg); have n2_ := Aside0.mk (hb); have n3_ := Aside0.mk (ho); have n99_ := Aside0.mk (Kd.R_mono (ok' := fun _ => True) (Kd.R_over' (S.uR HO463.out) (Kd.R_typed (S.uR HO_3.out)) (by decide) hg) (fun _ _ => trivial)); clear HO_4; clear HO460; clear HB; clear HO_3; clear HO463; have HO_4 := n0_; have HO460 := n1_; have HB := n2_; have HO466 := n3_; have HO463 := n99_; clear n0_ n1_ n2_ n3_ n99_; clear ho hb hg hat))
          go_loopg [4, 7] kj5 (fun kq v4 v7 w' => ∃ (x4_3 : List Int) (x7_3 : Int), v7 = .int .i64 x7_3 ∧ Aside0 (spec_CoverOf.l1 kq l0 y464 x4_3 x5_1 t461 x7_3 = some r) ∧ Aside0 (kq ≤ kj5) ∧ Aside0 (Kd.R (Kd.slice 3 (Kd.int .i64)) 36 w' w.heap.size (fun k_ => S.N k_ v4) v465 y464) ∧ Aside0 (Kd.R (Kd.int .i64) 3 w' w.heap.size (fun k_ => some k_ ≠ ((.slice Ao24 t461.length co24) : Value).ownBlock) v4 x4_3) ∧ Aside0 (Kd.R (Kd.int .i64) 3 w' w.heap.size (fun _ => True) (.slice Ao24 t461.length co24) t461) ∧ Aside0 (Below w.heap.size w w'))
          case atStart => exact ⟨(x4_1), (0), S.eA, H', ⟨Nat.le_refl _⟩, ⟨by (with_reducible repeat (first | apply Kd.R_alloc | apply Kd.R_drewN | apply Kd.R_drew)); exact Kd.R_mono HO466.out (fun _ hk => hk.1)⟩, ⟨by (with_reducible repeat (first | apply Kd.R_alloc | apply Kd.R_drewN | apply Kd.R_drew)); exact Kd.R_mono HO_4.out (fun _ hk => hk.2)⟩, ⟨S.uR HO463.out⟩, ⟨S.bA⟩⟩
          case round =>
           clear H'
           try clear c10
           try clear c11
           try clear c11b0
           try clear c12
           try clear c12b0
           try clear c14
           try clear c17
           try clear hx455_0
           try clear hx455_1
           try clear hx455_2
           try clear hx455_3
           try clear hx457_0
           try clear hx457_1
           try clear hx457_2
           try clear hx457_3
           try clear p455
           try clear p457
           try clear q455
           try clear q457
           obtain ⟨x4_3, x7_3, rfl, HA, HK3, HO_3, HO_4, HO_6, HB⟩ := hrel
           cases gk with
           | zero => exact absurd HA.out (by simp [spec_CoverOf.l1])
           | succ k3 =>
            have H := HA.out
            clear HA
            simp only [spec_CoverOf.l1] at H
            replace H := S.dc H; rcases H with ⟨H, c25b0⟩ | ⟨H, c25b0⟩
            ·by_cases c26 : 0 ≤ x7_3
             ·rw [if_pos c26] at H
              have c26b0 : decide (0 ≤ x7_3) = true := decide_eq_true c26
              clear c26
              replace H := S.bd H; obtain ⟨t468, A27, H⟩ := H
              (try dsimp only at H)
              have H' := Aside0.mk H
              clear H
              have p467 : 0 ≤ (x7_3 : Int) := S.oD
              have q467 : x7_3 < (t461.length : Int) := S.oD
              obtain ⟨ad467, e467, hx467_0⟩ := Kd.at_int (Kd.R_reads' HO_6.out).2.2 x7_3 p467 q467
              cases e467
              replace p467 := eq_true p467
              replace q467 := eq_true q467
              obtain ⟨Ao28, co28, eo28⟩ := Kd.R_slice HO_4.out
              subst eo28
              go_wp2_with (first | ((with_reducible refine gate_callee (f := 150) rfl ?_); refine S.gL (some 50) Try.func150 #[.slice Ao28 x4_3.length co28, .int .i64 (rd t461 x7_3)] ?_; (with_reducible refine (spec_l6Put.calls k3 _ _ x4_3 (rd t461 x7_3) t468 _ ?s1 (S.rl HO_4) A27.out).mono ?_); (case s1 => exact S.rd HO_4); rintro e w29 ⟨v469, rfl, ho0, hb⟩; refine ⟨_, rfl, ?_⟩; replace HO_3 := S.re HO_3 ho0 hb; have HO470 := Aside0.mk (Kd.R_lower (Kd.R_new' (Kd.R_new' ho0 (Kd.R_lt (S.uR HO_4.out))) (Kd.R_lt (S.uR HO_6.out))) (below_size S.bA)); replace HO_4 := S.re HO_4 ho0 hb; replace HO_6 := S.re HO_6 ho0 hb; replace HB := S.sA hb; (try clear hb); (try clear ho0)))
              go_roundg k3
              case measure => have := HK1.out; have := HJ5.out; have := HK3.out; omega
              case rel => exact ⟨(t468), (wrap64 (x7_3 + 1)), S.eA, H', ⟨by have := HK1.out; have := HJ5.out; have := HK3.out; omega⟩, ⟨by (with_reducible repeat (first | apply Kd.R_alloc | apply Kd.R_drewN | apply Kd.R_drew)); exact Kd.R_mono HO_3.out (fun _ hk => hk.2)⟩, ⟨by (with_reducible repeat (first | apply Kd.R_alloc | apply Kd.R_drewN | apply Kd.R_drew)); exact Kd.R_mono HO470.out (fun _ hk => hk.2)⟩, ⟨by (with_reducible repeat (first | apply Kd.R_alloc | apply Kd.R_drewN | apply Kd.R_drew)); exact Kd.R_mono HO_6.out (fun _ hk => trivial)⟩, ⟨S.bA⟩⟩
             ·rw [if_neg c26] at H
              exact absurd H (by simp)
            ·have H' := Aside0.mk H
             clear H
             go_wp2
             go_roundg k3
             case measure => have := HK1.out; have := HJ5.out; have := HK3.out; omega
             case rel => exact ⟨(y464), (x4_3), (wrap64 (x5_1 + 1)), S.eA, H', ⟨by have := HK1.out; have := HJ5.out; have := HK3.out; omega⟩, ⟨S.uR HO_3.out⟩, ⟨by (with_reducible repeat (first | apply Kd.R_alloc | apply Kd.R_drewN | apply Kd.R_drew)); exact Kd.R_mono HO_4.out (fun _ hk => trivial)⟩, ⟨S.bA⟩⟩
         ·rw [if_neg c17] at H
          exact absurd H (by simp)
       ·rw [if_neg c12] at H
        exact absurd H (by simp)
      ·rw [if_neg c11] at H
       exact absurd H (by simp)
     ·obtain rfl := Option.some.inj H
      go_wp2
      go_ret
      exact ⟨_, S.eW, by (with_reducible repeat (first | apply Kd.R_alloc | apply Kd.R_drewN | apply Kd.R_drew)); exact Kd.R_mono HO_3.out (fun _ hk => trivial), S.bA⟩
/-! ### spec_PlanFor: function 134 -/
def spec_PlanFor.l0 : Nat → List (S71) → List (S85) → List (List Int) → Int → Option ((List (S85)))
 | 0, _, _, _, _ => none
 | k + 1, x0, x3, x4, x5 => if x5 < (x4.length : Int) then (if 0 ≤ x5 then ((spec_LeastGreen.f k x0 (rd_L2 x4 x5)).bind fun t479 => (if x3.length < 4398046511104 then (spec_PlanFor.l0 k x0 (x3 ++ [(⟨rd_L2 x4 x5, t479⟩ : S85)]) x4 (wrap64 (x5 + 1))) else (none))) else (none)) else ((spec_IsPlan.f k x0 x3).bind fun t483 => (if t483 = true then (some x3) else (some (([] : List (S85))))))
def spec_PlanFor.f (k : Nat) (l0 : List (S71)) : Option ((List (S85))) := (spec_CoverOf.f k l0).bind fun t474 => (spec_PlanFor.l0 k l0 (([] : List (S85))) t474 0)
def spec_PlanFor.T6 : Bool × List (List Nat × List Nat) := (true, [([], []), ([], []), ([], []), ([1, 2], [1, 2]), ([3], [3]), ([], []), ([], []), ([], []), ([6, 7], [6, 7]), ([8], [8]), ([5, 9], [5, 9]), ([4, 10], [4, 10]), ([11], [11]), ([0, 12, 10], [0, 12]), ([13, 13, 0, 1, 2, 3, 4, 5, 6, 7, 8, 9, 10, 11, 12, 13], [0, 13])])
def spec_PlanFor.B6 : List Nat := [0, 0, 0, 6, 14, 0, 0, 0, 192, 448, 992, 2046, 4094, 8191, 16383]
theorem spec_PlanFor.tab6 : rtab .any (opsOf Try.f134 6) = spec_PlanFor.T6 := by kernel_rfl
theorem spec_PlanFor.bits6 : waitsOk spec_PlanFor.T6.2 spec_PlanFor.B6 = true := by kernel_rfl
theorem spec_PlanFor.calls (k : Nat) (A0 : Option Addr) (c0 : Nat) (l0 : List (S71)) (r : List (S85)) (w : World) (hr0 : Kd.C k71 w A0 l0.length l0) (hc0 : l0.length ≤ c0) (h : spec_PlanFor.f k l0 = some r) :
  Calls Try.prog 134 #[.slice A0 l0.length c0] w fun e w' => ∃ v0_ : Value, e = .returned (v0_) ∧ Kd.N k85 85 w' w.heap.size (fun k_ => (w.heap.size ≤ k_)) v0_ r ∧ Below w.heap.size w w' := by
 have hu85 := Try.underlying85
 have HR0 := Aside0.mk hr0
 have HC0 := Aside0.mk hc0
 clear hr0 hc0
 have HB := Aside0.mk (Below.refl w.heap.size w)
 have H : ((spec_CoverOf.f k l0).bind fun t474 => (spec_PlanFor.l0 k l0 (([] : List (S85))) t474 0)) = some r := h
 clear h
 obtain ⟨y471, hy471⟩ : ∃ y_ : List (S85), y_ = (([] : List (S85))) := ⟨_, rfl⟩
 have hY_ := hy471; replace H : ((spec_CoverOf.f k l0).bind fun t474 => (spec_PlanFor.l0 k l0 y471 t474 0)) = some r := S.rh; clear hY_
 have Ny471 := Aside0.mk hy471
 clear hy471
 replace H := S.bd H; obtain ⟨t474, A2, H⟩ := H
 (try dsimp only at H)
 have H' := Aside0.mk H
 clear H
 go_enter Try.func134, Try.ntmps134
 go_wp2_with (first | ((with_reducible refine gate_dst (N := 6) rfl ?_); refine Kd.N_lit k85 _ 85 ?hg (N' := 6) ?hd (xs := ([] : List (S85))) (inner := []) (ok := (fun k_ => (w.heap.size ≤ k_))) (okp := (fun k_ => (w.heap.size ≤ k_))) ?hr ?hp (fun _ hk => hk) ((show ∀ k_, w.heap.size ≤ k_ → (fun k_ => (w.heap.size ≤ k_)) k_ from fun k_ hk => (Nat.le_trans (below_size S.bA) hk)) _ (Nat.le_refl _)) (Below.refl _ _) (Nat.le_refl _) (by simp) ?_; (case hd => rfl); (case hg => rfl); (case hr => first | (go_simp; done) | (go_simp; rfl)); (case hp => exact (Reps.none _ _)); intro v472 w3 ho4 hb hg_ hnew_; clear hg_ hnew_; (first | rw [← Ny471.out] at ho4 | (simp only [Int.reduceToNat] at ho4; rw [← Ny471.out] at ho4)); have HO473 := Aside0.mk (Kd.N_lower ho4 (below_size S.bA)); replace HB := S.sA hb; clear hb ho4) | ((with_reducible refine gate_callee (f := 145) rfl ?_); refine S.gL (some 8) Try.func145 #[.slice A0 l0.length c0] ?_; (with_reducible refine (spec_CoverOf.calls k _ _ l0 t474 _ ?s1 HC0.out A2.out).mono ?_); (case s1 => exact S.cA HR0.out); rintro e w5 ⟨v475, rfl, ho0, hb⟩; refine ⟨_, rfl, ?_⟩; have HO476 := Aside0.mk (Kd.N_lower (Kd.N_mono (ok' := fun k_ => (w.heap.size ≤ k_) ∧ S.N k_ v472) (Kd.R_N (Kd.R_bound ho0)) (fun k_ hk_ => ⟨(Nat.le_trans (below_size S.bA) hk_.2.1), (Kd.fresh' (Kd.N_lt (by (with_reducible repeat (first | apply Kd.N_alloc | apply Kd.N_drewN | apply Kd.N_drew)); exact HO473.out)) k_ hk_.2.1)⟩)) (below_size S.bA)); replace HO473 := Aside0.mk (Kd.N_elder' (by (with_reducible repeat (first | apply Kd.N_alloc | apply Kd.N_drewN | apply Kd.N_drew)); exact HO473.out) (Kd.N_base (Kd.R_N ho0)) hb); replace HB := S.sA hb; (try clear hb); (try clear ho0)))
 go_loopg [3, 5] k (fun kq v3 v5 w' => ∃ (x3_1 : List (S85)) (x5_1 : Int), v5 = .int .i64 x5_1 ∧ Aside0 (spec_PlanFor.l0 kq l0 x3_1 t474 x5_1 = some r) ∧ Aside0 (kq ≤ k) ∧ Aside0 (Kd.N k85 85 w' w.heap.size (fun k_ => (w.heap.size ≤ k_) ∧ S.N k_ v475) v3 x3_1) ∧ Aside0 (Kd.N (Kd.slice 3 (Kd.int .i64)) 36 w' w.heap.size (fun k_ => (w.heap.size ≤ k_) ∧ S.N k_ v3) v475 t474) ∧ Aside0 (Below w.heap.size w w'))
 case atStart => exact ⟨(y471), (0), S.eA, H', ⟨Nat.le_refl _⟩, ⟨by (with_reducible repeat (first | apply Kd.N_alloc | apply Kd.N_drewN | apply Kd.N_drew)); exact HO473.out⟩, ⟨by (with_reducible repeat (first | apply Kd.N_alloc | apply Kd.N_drewN | apply Kd.N_drew)); exact HO476.out⟩, ⟨S.bA⟩⟩
 case round =>
  clear H'
  obtain ⟨x3_1, x5_1, rfl, HA, HK1, HO_3, HO_4, HB⟩ := hrel
  cases gk with
  | zero => exact absurd HA.out (by simp [spec_PlanFor.l0])
  | succ k1 =>
   have H := HA.out
   clear HA
   simp only [spec_PlanFor.l0] at H
   replace H := S.dc H; rcases H with ⟨H, c6b0⟩ | ⟨H, c6b0⟩
   ·by_cases c7 : 0 ≤ x5_1
    ·rw [if_pos c7] at H
     have c7b0 : decide (0 ≤ x5_1) = true := decide_eq_true c7
     clear c7
     replace H := S.bd H; obtain ⟨t479, A8, H⟩ := H
     (try dsimp only at H)
     by_cases c9 : x3_1.length < 4398046511104
     ·rw [if_pos c9] at H
      have LMc9 := Aside0.mk c9
      clear c9
      obtain ⟨y480, hy480⟩ : ∃ y_ : List (S85), y_ = (x3_1 ++ [(⟨rd_L2 t474 x5_1, t479⟩ : S85)]) := ⟨_, rfl⟩
      have hY_ := hy480; replace H : (spec_PlanFor.l0 k1 l0 y480 t474 (wrap64 (x5_1 + 1))) = some r := S.rh; clear hY_
      have Ny480 := Aside0.mk hy480
      clear hy480
      have H' := Aside0.mk H
      clear H
      obtain ⟨Ao10, co10, eo10⟩ := Kd.N_slice HO_4.out
      subst eo10
      try go_wp2
      replace HO_3 := Aside0.mk (Kd.N_drew HO_3.out)
      replace HO_4 := Aside0.mk (Kd.N_drew HO_4.out)
      replace HB := Aside0.mk (below_drew1 HB.out)
      have p477 : 0 ≤ (x5_1 : Int) := S.oD
      have q477 : x5_1 < (t474.length : Int) := S.oD
      obtain ⟨ad477, A477_0, c477_0, e477, hx477_0, hl477_0, hi477_0⟩ := at_L2 (Kd.N_reads' HO_4.out).2.2 x5_1 p477 q477
      cases e477
      obtain ⟨ce477, hce477, hMe477, hcc477⟩ := Kd.N_get HO_4.out [] x5_1 p477 (by first | exact q477 | exact S.oD | (have e_ := (Kd.N_reads' HO_4.out).1; omega))
      obtain ⟨ua477_0, uc477_0, rfl, ul477_0, ge477_0⟩ := Kd.FK_slice_open hMe477
      have hv477_0 := hcc477 0 _ rfl
      rw [Nat.add_zero, show ((Kd.slice 3 (Kd.int .i64))).sz = 1 from rfl, Nat.mul_one] at hv477_0
      replace hv477_0 := Option.some.inj (hv477_0.symm.trans hx477_0)
      injection hv477_0 with hva_ hvn_ hvc_
      rw [hva_] at ge477_0
      rw [hvc_] at ul477_0
      have HL477_0 := Aside0.mk (show Kd.V (Kd.int .i64) 3 _ w.heap.size _ _ (rd_L2 t474 x5_1) from Kd.V_mk ul477_0 ge477_0)
      clear hva_ hvn_ hvc_ ge477_0 ul477_0
      clear hcc477 hce477
      have HR477_0 := Aside0.mk hi477_0
      have HC477_0 := Aside0.mk hl477_0
      clear hi477_0 hl477_0
      replace p477 := eq_true p477
      replace q477 := eq_true q477
      have p478 : 0 ≤ (x5_1 : Int) := S.oD
      have q478 : x5_1 < (t474.length : Int) := S.oD
      obtain ⟨ad478, A478_0, c478_0, e478, hx478_0, hl478_0, hi478_0⟩ := at_L2 (Kd.N_reads' HO_4.out).2.2 x5_1 p478 q478
      obtain rfl : ad477 = ad478 := (by injection e478)
      obtain ⟨ce478, hce478, hMe478, hcc478⟩ := Kd.N_get HO_4.out [] x5_1 p478 (by first | exact q478 | exact S.oD | (have e_ := (Kd.N_reads' HO_4.out).1; omega))
      obtain ⟨ua478_0, uc478_0, rfl, ul478_0, ge478_0⟩ := Kd.FK_slice_open hMe478
      have hv478_0 := hcc478 0 _ rfl
      rw [Nat.add_zero, show ((Kd.slice 3 (Kd.int .i64))).sz = 1 from rfl, Nat.mul_one] at hv478_0
      replace hv478_0 := Option.some.inj (hv478_0.symm.trans hx478_0)
      injection hv478_0 with hva_ hvn_ hvc_
      rw [hva_] at ge478_0
      rw [hvc_] at ul478_0
      have HL478_0 := Aside0.mk (show Kd.V (Kd.int .i64) 3 _ w.heap.size _ _ (rd_L2 t474 x5_1) from Kd.V_mk ul478_0 ge478_0)
      clear hva_ hvn_ hvc_ ge478_0 ul478_0
      clear hcc478 hce478
      have HR478_0 := Aside0.mk hi478_0
      have HC478_0 := Aside0.mk hl478_0
      clear hi478_0 hl478_0
      replace p478 := eq_true p478
      replace q478 := eq_true q478
      have ea_ := Option.some.inj (hx477_0.symm.trans hx478_0)
      injection ea_ with ea_ en_ ec_
      subst ea_
      subst ec_
      clear en_
      refine S.st (n := 15) (ds := [12, 13]) #[false, false, false, false, false, false, false, false, false, false, false, false, false, false, false] (fun w_ h_ => have x_ := And.intro (S.q h_ hx477_0) (S.q h_ hx478_0); x_) (fun hHeld => ?_); refine with_tabW spec_PlanFor.tab6 spec_PlanFor.bits6 (fun HT_ HW_ => ?_)
      generalize wr.drew = w11 at HO_3 HO_4 HB HL477_0 HL478_0 HR477_0 HR478_0 hx477_0 hx478_0 hHeld ⊢
      refine S.pS 0 15 ?_
      refine S.pS 1 16 ?_
      refine S.pS 2 17 ?_
      refine S.pS 3 18 ?_
      refine S.pS 5 20 ?_
      refine S.pS 6 21 ?_
      refine S.pS 7 22 ?_
      refine S.pS 8 23 ?_
      refine S.tK 4 19 #[true, true, true, true, true, true, true, true, true, false, false, false, false, false, false] ?_
      refine S.tK 9 24 #[true, true, true, true, true, true, true, true, true, true, false, false, false, false, false] ?_
      refine S.oN 10 25 #[true, true, true, true, true, true, true, true, true, true, true, false, false, false, false] (fun K hK => ?_)
      refine S.go Try.func100 #[.slice A0 l0.length c0, .slice A477_0 (rd_L2 t474 x5_1).length c477_0] ?_
      with_reducible refine (spec_LeastGreen.calls k1 _ _ l0 _ _ (rd_L2 t474 x5_1) t479 _ ?s1 ?s2 ?s3 ?s4 A8.out).mono ?_
      (case s1 => exact S.cA HR0.out)
      (case s2 => exact HC0.out)
      (case s3 => repeat (first | exact (by repeat (first | (with_reducible exact HR478_0.out) | (with_reducible refine Kd.C_alloc ?_ _) | (with_reducible refine Kd.C_drewN ?_ _) | (with_reducible refine Kd.C_drew ?_) | exact HR478_0.out)) | (with_reducible refine Kd.C_alloc ?_ _) | (with_reducible refine Kd.C_drewN ?_ _) | (with_reducible refine Kd.C_drew ?_)))
      (case s4 => exact HC478_0.out)
      rintro e w' ⟨rfl, ⟨nd, rfl⟩⟩
      refine ⟨_, rfl, ?_⟩
      refine hK.out _ _ ⟨hHeld.1, hHeld.2⟩ (fun hHeld => ?_)
      clear hK K
      refine S.nm 25 ?_
      refine S.pS 11 26 ?_
      refine last_ (i := 12) (N := some 27) #[true, true, true, true, true, true, true, true, true, true, true, true, true, false, false] rfl rfl (one_of HT_.out (by kernel_rfl)) (by decide) (fun K hK => ?_)
      refine value_ (w1 := ?_) (v := ?_) (by rfl) rfl ?_ ?_
      rotate_left 2
      ·go_simp
       constructor
       ·rfl
       ·rfl
      refine hK.out _ _ ?_
      clear hK K
      refine S.nm 27 ?_
      refine last_ (i := 13) (N := some 28) #[true, true, true, true, true, true, true, true, true, true, true, true, true, true, false] rfl rfl (one_of HT_.out (by kernel_rfl)) (by decide) (fun K hK => ?_)
      refine Kd.N_append_step k85 (w0 := w) w.heap.size (by rfl) (.tmp 15) (.tmp 27) 29 85 (.agg #[(.slice none 0 0), (.int .i64 0)]) 32 rfl Try.underlying29 info85 rfl (by decide) (by omega) u3 x3_1 (⟨rd_L2 t474 x5_1, t479⟩ : S85) [.slice A477_0 (rd_L2 t474 x5_1).length c477_0, .int .i64 t479] (fun k_ => (w.heap.size ≤ k_) ∧ some k_ ≠ (.slice (some ad477) t474.length co10 : Value).ownBlock) (fun k_ => ((fun k_ => (w.heap.size ≤ k_) ∧ some k_ ≠ (.slice (some ad477) t474.length co10 : Value).ownBlock)) k_ ∧ some k_ ≠ (u3 : Value).ownBlock) rfl rfl ?aP (fun _ hk => hk) ?aF ?aO ?aB ?aS ?aL ?_
      (case aP => exact (k85_mkF _ _ (⟨rd_L2 t474 x5_1, t479⟩ : S85) (Kd.V_reads' (e := 3) (base := w.heap.size) (Kd.V_mono (e := 3) (base := w.heap.size) (ok' := (fun k_ => ((fun k_ => (w.heap.size ≤ k_) ∧ some k_ ≠ (.slice (some ad477) t474.length co10 : Value).ownBlock)) k_ ∧ some k_ ≠ (u3 : Value).ownBlock)) (HL477_0.out) (fun k_ hk => ⟨⟨hk.1.1, hk.2⟩, hk.1.2⟩))).2.1 (Kd.V_F (e := 3) (base := w.heap.size) (Kd.V_mono (e := 3) (base := w.heap.size) (ok' := (fun k_ => ((fun k_ => (w.heap.size ≤ k_) ∧ some k_ ≠ (.slice (some ad477) t474.length co10 : Value).ownBlock)) k_ ∧ some k_ ≠ (u3 : Value).ownBlock)) (HL477_0.out) (fun k_ hk => ⟨⟨hk.1.1, hk.2⟩, hk.1.2⟩)))))
      (case aB => exact S.bA)
      (case aF => exact (fun k_ hk => ⟨(Nat.le_trans (below_size S.bA) hk), Kd.fresh' (Kd.N_lt (by (with_reducible repeat (first | apply Kd.N_alloc | apply Kd.N_drewN | apply Kd.N_drew)); exact HO_4.out)) k_ hk⟩))
      (case aO => exact (by (with_reducible repeat (first | apply Kd.N_alloc | apply Kd.N_drewN | apply Kd.N_drew)); exact HO_3.out))
      (case aS => exact (below_size S.bA))
      (case aL => have := LMc9.out; omega)
      intro v481 w12 ho hb hg hat
      rw [← Ny480.out] at ho
      have n0_ := Aside0.mk (Kd.N_afterv (ok := (fun k_ => (w.heap.size ≤ k_))) (by (with_reducible repeat (first | apply Kd.N_alloc | apply Kd.N_drewN | apply Kd.N_drew)); exact HO_4.out) hg hat)
      have n1_ := Aside0.mk (Kd.V_afterv (ok := (fun k_ => (w.heap.size ≤ k_) ∧ some k_ ≠ (.slice (some ad477) t474.length co10 : Value).ownBlock)) (by (with_reducible repeat (first | apply Kd.V_alloc | apply Kd.V_drewN | apply Kd.V_drew)); exact Kd.V_mono HL477_0.out (fun _ hk => ⟨⟨hk.1.1, hk.2⟩, hk.1.2⟩)) hg hat)
      have n2_ := Aside0.mk (Kd.V_afterv (ok := (fun k_ => (w.heap.size ≤ k_) ∧ some k_ ≠ (.slice (some ad477) t474.length co10 : Value).ownBlock)) (by (with_reducible repeat (first | apply Kd.V_alloc | apply Kd.V_drewN | apply Kd.V_drew)); exact Kd.V_mono HL478_0.out (fun _ hk => ⟨⟨hk.1.1, hk.2⟩, hk.1.2⟩)) hg hat)
      have n3_ := Aside0.mk (hb)
      have n4_ := Aside0.mk (ho)
      clear HO_4
      clear HL477_0
      clear HL478_0
      clear HB
      clear HO_3
      have HO_4 := n0_
      have HL477_0 := n1_
      have HL478_0 := n2_
      have HB := n3_
      have HO482 := n4_
      clear n0_ n1_ n2_ n3_ n4_
      clear ho hb hg hat
      refine hK.out _ _ ?_
      clear hK K
      refine S.nm 28 ?_
      refine S.pS 14 3 ?_
      refine done_ (done_of HT_.out (by kernel_rfl)) ?_
      try go_wp2
      go_roundg k1
      case measure => have := HK1.out; omega
      case rel => exact ⟨(y480), (wrap64 (x5_1 + 1)), S.eA, H', ⟨by have := HK1.out; omega⟩, ⟨by (with_reducible repeat (first | apply Kd.N_alloc | apply Kd.N_drewN | apply Kd.N_drew)); exact HO482.out⟩, ⟨by (with_reducible repeat (first | apply Kd.N_alloc | apply Kd.N_drewN | apply Kd.N_drew)); exact HO_4.out⟩, ⟨S.bA⟩⟩
     ·rw [if_neg c9] at H
      exact absurd H (by simp)
    ·rw [if_neg c7] at H
     exact absurd H (by simp)
   ·replace H := Option.bind_eq_some_iff.mp H
    obtain ⟨t483, A130, H⟩ := H
    replace H : (if t483 = true then (some x3_1) else (some (([] : List (S85))))) = some r := H
    have A13 := Aside0.mk A130
    clear A130
    replace H := S.db H; rcases H with ⟨rfl, H⟩ | ⟨rfl, H⟩
    ·obtain rfl := Option.some.inj H
     obtain ⟨Ao15, co15, eo15⟩ := Kd.N_slice HO_4.out
     subst eo15
     obtain ⟨Ao16, co16, eo16⟩ := Kd.N_slice HO_3.out
     subst eo16
     go_wp2_with (first | ((with_reducible refine gate_callee (f := 65) rfl ?_); refine S.gL (some 31) Try.func65 #[.slice A0 l0.length c0, .slice Ao16 x3_1.length co16] ?_; (with_reducible refine (spec_IsPlan.calls k1 _ _ l0 _ _ x3_1 true _ ?s1 HC0.out ?s3 ?s4 A13.out).mono ?_); (case s1 => exact S.cA HR0.out); (case s3 => exact S.cD (Kd.N_reads' HO_3.out).2.2); (case s4 => exact (Kd.N_reads' HO_3.out).2.1); rintro e w17 ⟨rfl, hb⟩; refine ⟨_, rfl, ?_⟩; replace HO_3 := Aside0.mk (Kd.N_below (by (with_reducible repeat (first | apply Kd.N_alloc | apply Kd.N_drewN | apply Kd.N_drew)); exact HO_3.out) hb); replace HO_4 := Aside0.mk (Kd.N_below (by (with_reducible repeat (first | apply Kd.N_alloc | apply Kd.N_drewN | apply Kd.N_drew)); exact HO_4.out) hb); replace HB := S.sA hb; (try clear hb)))
     go_ret
     exact ⟨_, S.eW, by (with_reducible repeat (first | apply Kd.N_alloc | apply Kd.N_drewN | apply Kd.N_drew)); exact Kd.N_mono HO_3.out (fun _ hk => hk.1), S.bA⟩
    ·obtain ⟨y484, hy484⟩ : ∃ y_ : List (S85), y_ = (([] : List (S85))) := ⟨_, rfl⟩
     have hY_ := hy484; replace H : (some y484) = some r := S.rh; clear hY_
     have Ny484 := Aside0.mk hy484
     clear hy484
     obtain rfl := Option.some.inj H
     obtain ⟨Ao18, co18, eo18⟩ := Kd.N_slice HO_4.out
     subst eo18
     obtain ⟨Ao19, co19, eo19⟩ := Kd.N_slice HO_3.out
     subst eo19
     go_wp2_with (first | ((with_reducible refine gate_callee (f := 65) rfl ?_); refine S.gL (some 31) Try.func65 #[.slice A0 l0.length c0, .slice Ao19 x3_1.length co19] ?_; (with_reducible refine (spec_IsPlan.calls k1 _ _ l0 _ _ x3_1 false _ ?s1 HC0.out ?s3 ?s4 A13.out).mono ?_); (case s1 => exact S.cA HR0.out); (case s3 => exact S.cD (Kd.N_reads' HO_3.out).2.2); (case s4 => exact (Kd.N_reads' HO_3.out).2.1); rintro e w20 ⟨rfl, hb⟩; refine ⟨_, rfl, ?_⟩; replace HO_3 := Aside0.mk (Kd.N_below (by (with_reducible repeat (first | apply Kd.N_alloc | apply Kd.N_drewN | apply Kd.N_drew)); exact HO_3.out) hb); replace HO_4 := Aside0.mk (Kd.N_below (by (with_reducible repeat (first | apply Kd.N_alloc | apply Kd.N_drewN | apply Kd.N_drew)); exact HO_4.out) hb); replace HB := S.sA hb; (try clear hb)) | ((with_reducible refine gate_dst (N := 33) rfl ?_); refine Kd.N_lit k85 _ 85 ?hg (N' := 33) ?hd (xs := ([] : List (S85))) (inner := []) (ok := (fun k_ => (w.heap.size ≤ k_) ∧ S.N k_ (.slice Ao19 x3_1.length co19) ∧ S.N k_ (.slice Ao18 t474.length co18))) (okp := (fun k_ => (w.heap.size ≤ k_) ∧ S.N k_ (.slice Ao19 x3_1.length co19) ∧ S.N k_ (.slice Ao18 t474.length co18))) ?hr ?hp (fun _ hk => hk) ((show ∀ k_, w20.heap.size ≤ k_ → (fun k_ => (w.heap.size ≤ k_) ∧ S.N k_ (.slice Ao19 x3_1.length co19) ∧ S.N k_ (.slice Ao18 t474.length co18)) k_ from fun k_ hk => ⟨(Nat.le_trans (below_size S.bA) hk), Kd.fresh' (Kd.N_lt (by (with_reducible repeat (first | apply Kd.N_alloc | apply Kd.N_drewN | apply Kd.N_drew)); exact HO_3.out)) k_ hk, Kd.fresh' (Kd.N_lt (by (with_reducible repeat (first | apply Kd.N_alloc | apply Kd.N_drewN | apply Kd.N_drew)); exact HO_4.out)) k_ hk⟩) _ (Nat.le_refl _)) (Below.refl _ _) (Nat.le_refl _) (by simp) ?_; (case hd => rfl); (case hg => rfl); (case hr => first | (go_simp; done) | (go_simp; rfl)); (case hp => exact (Reps.none _ _)); intro v485 w21 ho22 hb hg_ hnew_; clear hg_ hnew_; (first | rw [← Ny484.out] at ho22 | (simp only [Int.reduceToNat] at ho22; rw [← Ny484.out] at ho22)); replace HO_3 := Aside0.mk (Kd.N_elder' (by (with_reducible repeat (first | apply Kd.N_alloc | apply Kd.N_drewN | apply Kd.N_drew)); exact HO_3.out) (Kd.N_base ho22) hb); replace HO_4 := Aside0.mk (Kd.N_elder' (by (with_reducible repeat (first | apply Kd.N_alloc | apply Kd.N_drewN | apply Kd.N_drew)); exact HO_4.out) (Kd.N_base ho22) hb); have HO486 := Aside0.mk (Kd.N_lower ho22 (below_size S.bA)); replace HB := S.sA hb; clear hb ho22))
     go_ret
     exact ⟨_, S.eW, by (with_reducible repeat (first | apply Kd.N_alloc | apply Kd.N_drewN | apply Kd.N_drew)); exact Kd.N_mono HO486.out (fun _ hk => hk.1), S.bA⟩

/-! ### spec_l4Draw: function 151 -/
def spec_l4Draw.f (s0_0 : List Int) (s0_1 : Int) (s0_2 : Int) (a1 : Int) : Option (Int × Int × Int × Int × Int × Int) := (spec_l1Below.f s0_0 s0_1 s0_2 3).bind fun bt488 => ((spec_l1Below.f s0_0 bt488.2.1 bt488.2.2 4).bind fun bt491 => (if (wrap64 (1 + bt488.1)) = 2 then (some (a1, wrap64 (1 + bt488.1), bt491.1, bt491.1, bt491.2.1, bt491.2.2)) else ((spec_l1Below.f s0_0 bt491.2.1 bt491.2.2 3).bind fun bt495 => (some (a1, wrap64 (1 + bt488.1), bt491.1, Int.tmod (wrap64 ((wrap64 (bt491.1 + 1)) + bt495.1)) 4, bt495.2.1, bt495.2.2)))))
def spec_l4Draw.T4 : Bool × List (List Nat × List Nat) := (true, [([], []), ([0], [0]), ([1], [1]), ([], []), ([3], [3]), ([2, 4], [2, 4]), ([5], [5]), ([0, 1, 2, 3, 4, 5, 6], []), ([7, 6, 4, 0, 1, 2, 3, 4, 5, 6], [6, 7])])
def spec_l4Draw.B4 : List Nat := [0, 1, 3, 0, 8, 31, 63, 127, 255]
theorem spec_l4Draw.tab4 : rtab .any (opsOf Try.f151 4) = spec_l4Draw.T4 := by kernel_rfl
theorem spec_l4Draw.bits4 : waitsOk spec_l4Draw.T4.2 spec_l4Draw.B4 = true := by kernel_rfl
theorem spec_l4Draw.calls (g : Nat) (s0_0 : List Int) (s0_1 : Int) (s0_2 : Int) (a1 : Int) (r1 : Int) (r2 : Int) (r3 : Int) (r4 : Int) (r5 : Int) (r6 : Int) (w0 w : World) (hI : IsS114 w0 w g s0_0 s0_1 s0_2) (hB : Below w0.heap.size w0 w) (h : spec_l4Draw.f s0_0 s0_1 s0_2 a1 = some (r1, r2, r3, r4, r5, r6)) :
  Calls Try.prog 151 #[.pointer (some ⟨g, 0, none⟩), .int .i64 a1] w fun e w' => e = .returned (.agg #[.int .i64 r1, .int .i64 r2, .int .i64 r3, .int .i64 r4]) ∧ IsS114 w0 w' g s0_0 r5 r6 ∧ Below w0.heap.size w0 w' ∧ KeepBut w w' g none := by
 have hu71 := Try.underlying71
 have HI0 := Aside0.mk hI
 have HK := Aside0.mk (KeepBut.refl w g none)
 have HL := Aside0.mk hB.size
 clear hI
 have HW0 := Aside0.mk hB.size
 have HB := Aside0.mk hB
 clear hB
 have H : ((spec_l1Below.f s0_0 s0_1 s0_2 3).bind fun bt488 => ((spec_l1Below.f s0_0 bt488.2.1 bt488.2.2 4).bind fun bt491 => (if (wrap64 (1 + bt488.1)) = 2 then (some (a1, wrap64 (1 + bt488.1), bt491.1, bt491.1, bt491.2.1, bt491.2.2)) else ((spec_l1Below.f s0_0 bt491.2.1 bt491.2.2 3).bind fun bt495 => (some (a1, wrap64 (1 + bt488.1), bt491.1, Int.tmod (wrap64 ((wrap64 (bt491.1 + 1)) + bt495.1)) 4, bt495.2.1, bt495.2.2)))))) = some (r1, r2, r3, r4, r5, r6) := h
 clear h
 replace H := S.bd H; obtain ⟨⟨t488, t489, t490⟩, A3, H⟩ := H
 (try dsimp only at H)
 replace H := S.bd H; obtain ⟨⟨t491, t492, t493⟩, A4, H⟩ := H
 (try dsimp only at H)
 by_cases c5 : (wrap64 (1 + t488)) = 2
 ·rw [if_pos c5] at H
  have c5b0 : ((wrap64 (1 + t488)) == 2) = true := beq_iff_eq.mpr c5
  have c5b1 : ((wrap64 (1 + t488)) != 2) = false := bne_eq_false_iff_eq.mpr c5
  clear c5
  simp only [Option.some.injEq, Prod.mk.injEq] at H
  obtain ⟨rfl, rfl, rfl, rfl, rfl, rfl⟩ := H
  go_enter Try.func151, Try.ntmps151
  go_wp2_with (first | ((with_reducible refine gate_dst (N := 4) rfl ?_); refine S.bx 4 (cs := #[.int .i64 0, .int .i64 0, .int .i64 0, .int .i64 0]) (t := 71) ?_; intro gb487 hg w6 hbox hb; replace HB := Aside0.mk (below_step (S.bI) hb); have BK487 := Aside0.mk hbox; have GW487 := Aside0.mk ((by rw [hg]; exact (keep_size (w := w) (g := g) (row := none) S.kA) : w.heap.size ≤ gb487)); have GE487 := Aside0.mk ((Nat.le_trans HW0.out (by rw [hg]; exact (keep_size (w := w) (g := g) (row := none) S.kA) : w.heap.size ≤ gb487) : w0.heap.size ≤ gb487)); replace HK := Aside0.mk (KeepBut.trans S.kA (KeepBut.of_below hb g none) (.inl rfl)); have NB0_487 := Aside0.mk ((by rw [hg]; exact Nat.ne_of_lt (IsS114.lt (show IsS114 w0 _ g s0_0 s0_1 s0_2 from S.iI)) : g ≠ gb487)); have NB487_0 := Aside0.mk ((by rw [hg]; exact Nat.ne_of_gt (IsS114.lt (show IsS114 w0 _ g s0_0 s0_1 s0_2 from S.iI)) : gb487 ≠ g)); replace HI0 := Aside0.mk (IsS114.below (S.iI) hb); clear hb hbox hg) | ((with_reducible refine gate_callee (f := 90) rfl ?_); refine S.gL (some 8) Try.func90 #[.pointer (some ⟨g, 0, none⟩), .int .i64 3] ?_; (with_reducible refine (spec_l1Below.calls g s0_0 s0_1 s0_2 3 t488 t489 t490 w0 _ ?s1 ?s2 A3.out).mono ?_); (case s1 => exact S.iI); (case s2 => exact S.bI); rintro e w7 ⟨rfl, hi, hb, hk⟩; refine ⟨_, rfl, ?_⟩; replace BK487 := Aside0.mk (KeepBut.blk hk (g' := gb487) (o := .cells #[.int .i64 0, .int .i64 0, .int .i64 0, .int .i64 0] 71 (0, 0)) (S.uB BK487.out) NB487_0.out (by simp)); replace HK := Aside0.mk (KeepBut.trans ((S.kG : KeepBut w _ g none)) hk (.inl rfl)); replace HB := Aside0.mk (hb); replace HI0 := Aside0.mk (hi); (try clear hb); (try clear hk); (try clear hi)) | ((with_reducible refine gate_callee (f := 90) rfl ?_); refine S.gL (some 11) Try.func90 #[.pointer (some ⟨g, 0, none⟩), .int .i64 4] ?_; (with_reducible refine (spec_l1Below.calls g s0_0 t489 t490 4 t491 t492 t493 w0 _ ?s1 ?s2 A4.out).mono ?_); (case s1 => exact S.iI); (case s2 => exact S.bI); rintro e w8 ⟨rfl, hi, hb, hk⟩; refine ⟨_, rfl, ?_⟩; replace BK487 := Aside0.mk (KeepBut.blk hk (g' := gb487) (o := .cells #[.int .i64 0, .int .i64 0, .int .i64 0, .int .i64 0] 71 (0, 0)) (S.uB BK487.out) NB487_0.out (by simp)); replace HK := Aside0.mk (KeepBut.trans ((S.kG : KeepBut w _ g none)) hk (.inl rfl)); replace HB := Aside0.mk (hb); replace HI0 := Aside0.mk (hi); (try clear hb); (try clear hk); (try clear hi)) | ((with_reducible refine gate_dst (N := 5) rfl ?_); refine S.bx 5 (cs := #[.int .i64 0, .int .i64 0, .int .i64 0, .int .i64 0]) (t := 71) ?_; intro gb494 hg w9 hbox hb; replace HB := Aside0.mk (below_step (S.bI) hb); have BK494 := Aside0.mk hbox; have GW494 := Aside0.mk ((by rw [hg]; exact (keep_size (w := w) (g := g) (row := none) ((S.kG : KeepBut w _ g none))) : w.heap.size ≤ gb494)); have GE494 := Aside0.mk ((Nat.le_trans HW0.out (by rw [hg]; exact (keep_size (w := w) (g := g) (row := none) ((S.kG : KeepBut w _ g none))) : w.heap.size ≤ gb494) : w0.heap.size ≤ gb494)); replace HK := Aside0.mk (KeepBut.trans ((S.kG : KeepBut w _ g none)) (KeepBut.of_below hb g none) (.inl rfl)); have NB487_494 := S.nl hg BK487; have NB494_487 := S.ng hg BK487; replace BK487 := S.kb BK487 hb; have NB0_494 := Aside0.mk ((by rw [hg]; exact Nat.ne_of_lt (IsS114.lt (show IsS114 w0 _ g s0_0 t492 t493 from S.iI)) : g ≠ gb494)); have NB494_0 := Aside0.mk ((by rw [hg]; exact Nat.ne_of_gt (IsS114.lt (show IsS114 w0 _ g s0_0 t492 t493 from S.iI)) : gb494 ≠ g)); replace HI0 := Aside0.mk (IsS114.below (S.iI) hb); clear hb hbox hg; have hnb10 := NB494_487.out; have hnc10 := NB487_494.out; have hnb11 := NB494_0.out; have hnc11 := NB0_494.out; obtain ⟨Z12a, Z12b, Z12c, Z12d, Y12a, Y12b, Y12c, Y12d⟩ := S.c4 BK494.out; have hnb13 := NB487_0.out; have hnc13 := NB0_487.out; obtain ⟨Z14a, Z14b, Z14c, Z14d, Y14a, Y14b, Y14c, Y14d⟩ := S.c4 BK487.out) | ((with_reducible refine gate_dst (N := 27) rfl ?_); refine wpList_load_row rfl 71 (.tmp 5) rfl gb494 rfl 71 #[.int .i64 a1, .int .i64 (wrap64 (1 + t488)), .int .i64 t491, .int .i64 t491] (0, 0) _ (by (with_reducible repeat (first | refine blk_drewN ?_ _ | refine blk_drew ?_ | refine blk_alloc ?_ _)); refine blk_put (cs := #[.int .i64 a1, .int .i64 (wrap64 (1 + t488)), .int .i64 t491, .int .i64 0]) ?_ 3 _ rfl; (with_reducible repeat (first | refine blk_drewN ?_ _ | refine blk_drew ?_ | refine blk_alloc ?_ _)); refine blk_put (cs := #[.int .i64 a1, .int .i64 (wrap64 (1 + t488)), .int .i64 t491, .int .i64 0]) ?_ 3 _ rfl; (with_reducible repeat (first | refine blk_drewN ?_ _ | refine blk_drew ?_ | refine blk_alloc ?_ _)); refine blk_put (cs := #[.int .i64 a1, .int .i64 (wrap64 (1 + t488)), .int .i64 0, .int .i64 0]) ?_ 2 _ rfl; (with_reducible repeat (first | refine blk_drewN ?_ _ | refine blk_drew ?_ | refine blk_alloc ?_ _)); refine blk_put (cs := #[.int .i64 a1, .int .i64 0, .int .i64 0, .int .i64 0]) ?_ 1 _ rfl; (with_reducible repeat (first | refine blk_drewN ?_ _ | refine blk_drew ?_ | refine blk_alloc ?_ _)); refine blk_put (cs := #[.int .i64 0, .int .i64 0, .int .i64 0, .int .i64 0]) ?_ 0 _ rfl; (with_reducible repeat (first | refine blk_drewN ?_ _ | refine blk_drew ?_ | refine blk_alloc ?_ _)); exact BK494.out) Try.underlying71 rfl (by kernel_rfl) ?_))
  refine bodyPost_ret (results_cell_row rfl _ _ gb487 71 #[.int .i64 a1, .int .i64 (wrap64 (1 + t488)), .int .i64 t491, .int .i64 t491] (0, 0) _ rfl (by (with_reducible repeat (first | refine blk_drewN ?_ _ | refine blk_drew ?_ | refine blk_alloc ?_ _)); refine blk_put (cs := #[.int .i64 a1, .int .i64 (wrap64 (1 + t488)), .int .i64 t491, .int .i64 0]) ?_ 3 _ rfl; (with_reducible repeat (first | refine blk_drewN ?_ _ | refine blk_drew ?_ | refine blk_alloc ?_ _)); refine blk_put (cs := #[.int .i64 a1, .int .i64 (wrap64 (1 + t488)), .int .i64 0, .int .i64 0]) ?_ 2 _ rfl; (with_reducible repeat (first | refine blk_drewN ?_ _ | refine blk_drew ?_ | refine blk_alloc ?_ _)); refine blk_put (cs := #[.int .i64 a1, .int .i64 0, .int .i64 0, .int .i64 0]) ?_ 1 _ rfl; (with_reducible repeat (first | refine blk_drewN ?_ _ | refine blk_drew ?_ | refine blk_alloc ?_ _)); refine blk_put (cs := #[.int .i64 0, .int .i64 0, .int .i64 0, .int .i64 0]) ?_ 0 _ rfl; (with_reducible repeat (first | refine blk_drewN ?_ _ | refine blk_drew ?_ | refine blk_alloc ?_ _)); refine blk_far ?_ NB487_494.out _; (with_reducible repeat (first | refine blk_drewN ?_ _ | refine blk_drew ?_ | refine blk_alloc ?_ _)); refine blk_far ?_ NB487_494.out _; (with_reducible repeat (first | refine blk_drewN ?_ _ | refine blk_drew ?_ | refine blk_alloc ?_ _)); refine blk_far ?_ NB487_494.out _; (with_reducible repeat (first | refine blk_drewN ?_ _ | refine blk_drew ?_ | refine blk_alloc ?_ _)); refine blk_far ?_ NB487_494.out _; (with_reducible repeat (first | refine blk_drewN ?_ _ | refine blk_drew ?_ | refine blk_alloc ?_ _)); refine blk_far ?_ NB487_494.out _; (with_reducible repeat (first | refine blk_drewN ?_ _ | refine blk_drew ?_ | refine blk_alloc ?_ _)); exact BK487.out) Try.underlying71 rfl (by kernel_rfl)) rfl ?_
  exact ⟨S.eW, S.iI, S.bI, (S.kG : KeepBut w _ g none)⟩
 ·rw [if_neg c5] at H
  have c5b0 : ((wrap64 (1 + t488)) == 2) = false := beq_eq_false_iff_ne.mpr c5
  have c5b1 : ((wrap64 (1 + t488)) != 2) = true := bne_iff_ne.mpr c5
  replace H := S.bd H; obtain ⟨⟨t495, t496, t497⟩, A15, H⟩ := H
  (try dsimp only at H)
  simp only [Option.some.injEq, Prod.mk.injEq] at H
  obtain ⟨rfl, rfl, rfl, rfl, rfl, rfl⟩ := H
  go_enter Try.func151, Try.ntmps151
  try go_wp2_with (first | ((with_reducible refine gate_dst (N := 4) rfl ?_); refine S.bx 4 (cs := #[.int .i64 0, .int .i64 0, .int .i64 0, .int .i64 0]) (t := 71) ?_; intro gb487 hg w16 hbox hb; replace HB := Aside0.mk (below_step (S.bI) hb); have BK487 := Aside0.mk hbox; have GW487 := Aside0.mk ((by rw [hg]; exact (keep_size (w := w) (g := g) (row := none) S.kA) : w.heap.size ≤ gb487)); have GE487 := Aside0.mk ((Nat.le_trans HW0.out (by rw [hg]; exact (keep_size (w := w) (g := g) (row := none) S.kA) : w.heap.size ≤ gb487) : w0.heap.size ≤ gb487)); replace HK := Aside0.mk (KeepBut.trans S.kA (KeepBut.of_below hb g none) (.inl rfl)); have NB0_487 := Aside0.mk ((by rw [hg]; exact Nat.ne_of_lt (IsS114.lt (show IsS114 w0 _ g s0_0 s0_1 s0_2 from S.iI)) : g ≠ gb487)); have NB487_0 := Aside0.mk ((by rw [hg]; exact Nat.ne_of_gt (IsS114.lt (show IsS114 w0 _ g s0_0 s0_1 s0_2 from S.iI)) : gb487 ≠ g)); replace HI0 := Aside0.mk (IsS114.below (S.iI) hb); clear hb hbox hg) | ((with_reducible refine gate_callee (f := 90) rfl ?_); refine S.gL (some 8) Try.func90 #[.pointer (some ⟨g, 0, none⟩), .int .i64 3] ?_; (with_reducible refine (spec_l1Below.calls g s0_0 s0_1 s0_2 3 t488 t489 t490 w0 _ ?s1 ?s2 A3.out).mono ?_); (case s1 => exact S.iI); (case s2 => exact S.bI); rintro e w17 ⟨rfl, hi, hb, hk⟩; refine ⟨_, rfl, ?_⟩; replace BK487 := Aside0.mk (KeepBut.blk hk (g' := gb487) (o := .cells #[.int .i64 0, .int .i64 0, .int .i64 0, .int .i64 0] 71 (0, 0)) (S.uB BK487.out) NB487_0.out (by simp)); replace HK := Aside0.mk (KeepBut.trans ((S.kG : KeepBut w _ g none)) hk (.inl rfl)); replace HB := Aside0.mk (hb); replace HI0 := Aside0.mk (hi); (try clear hb); (try clear hk); (try clear hi)) | ((with_reducible refine gate_callee (f := 90) rfl ?_); refine S.gL (some 11) Try.func90 #[.pointer (some ⟨g, 0, none⟩), .int .i64 4] ?_; (with_reducible refine (spec_l1Below.calls g s0_0 t489 t490 4 t491 t492 t493 w0 _ ?s1 ?s2 A4.out).mono ?_); (case s1 => exact S.iI); (case s2 => exact S.bI); rintro e w18 ⟨rfl, hi, hb, hk⟩; refine ⟨_, rfl, ?_⟩; replace BK487 := Aside0.mk (KeepBut.blk hk (g' := gb487) (o := .cells #[.int .i64 0, .int .i64 0, .int .i64 0, .int .i64 0] 71 (0, 0)) (S.uB BK487.out) NB487_0.out (by simp)); replace HK := Aside0.mk (KeepBut.trans ((S.kG : KeepBut w _ g none)) hk (.inl rfl)); replace HB := Aside0.mk (hb); replace HI0 := Aside0.mk (hi); (try clear hb); (try clear hk); (try clear hi)) | ((with_reducible refine gate_dst (N := 5) rfl ?_); refine S.bx 5 (cs := #[.int .i64 0, .int .i64 0, .int .i64 0, .int .i64 0]) (t := 71) ?_; intro gb494 hg w19 hbox hb; replace HB := Aside0.mk (below_step (S.bI) hb); have BK494 := Aside0.mk hbox; have GW494 := Aside0.mk ((by rw [hg]; exact (keep_size (w := w) (g := g) (row := none) ((S.kG : KeepBut w _ g none))) : w.heap.size ≤ gb494)); have GE494 := Aside0.mk ((Nat.le_trans HW0.out (by rw [hg]; exact (keep_size (w := w) (g := g) (row := none) ((S.kG : KeepBut w _ g none))) : w.heap.size ≤ gb494) : w0.heap.size ≤ gb494)); replace HK := Aside0.mk (KeepBut.trans ((S.kG : KeepBut w _ g none)) (KeepBut.of_below hb g none) (.inl rfl)); have NB487_494 := S.nl hg BK487; have NB494_487 := S.ng hg BK487; replace BK487 := S.kb BK487 hb; have NB0_494 := Aside0.mk ((by rw [hg]; exact Nat.ne_of_lt (IsS114.lt (show IsS114 w0 _ g s0_0 t492 t493 from S.iI)) : g ≠ gb494)); have NB494_0 := Aside0.mk ((by rw [hg]; exact Nat.ne_of_gt (IsS114.lt (show IsS114 w0 _ g s0_0 t492 t493 from S.iI)) : gb494 ≠ g)); replace HI0 := Aside0.mk (IsS114.below (S.iI) hb); clear hb hbox hg; have hnb20 := NB494_487.out; have hnc20 := NB487_494.out; have hnb21 := NB494_0.out; have hnc21 := NB0_494.out; obtain ⟨Z22a, Z22b, Z22c, Z22d, Y22a, Y22b, Y22c, Y22d⟩ := S.c4 BK494.out))
  have n0_ : Aside0 ((((((w19.setCell ⟨gb494, 0, none⟩ (.int .i64 a1)).setCell ⟨gb494, 1, none⟩ (.int .i64 (wrap64 (1 + t488)))).setCell ⟨gb494, 2, none⟩ (.int .i64 t491)).setCell ⟨gb494, 3, none⟩ (.int .i64 0)).setCell ⟨gb494, 3, none⟩ (.int .i64 t491)).heap[gb487]? = some (.cells #[.int .i64 0, .int .i64 0, .int .i64 0, .int .i64 0] 71 (0, 0))) := ⟨S.uf BK487 NB487_494⟩
  have n1_ : Aside0 ((((((w19.setCell ⟨gb494, 0, none⟩ (.int .i64 a1)).setCell ⟨gb494, 1, none⟩ (.int .i64 (wrap64 (1 + t488)))).setCell ⟨gb494, 2, none⟩ (.int .i64 t491)).setCell ⟨gb494, 3, none⟩ (.int .i64 0)).setCell ⟨gb494, 3, none⟩ (.int .i64 t491)).heap[gb494]? = some (.cells #[.int .i64 a1, .int .i64 (wrap64 (1 + t488)), .int .i64 t491, .int .i64 t491] 71 (0, 0))) := ⟨by (with_reducible repeat (first | refine blk_drewN ?_ _ | refine blk_drew ?_ | refine blk_alloc ?_ _)); refine blk_put (cs := #[.int .i64 a1, .int .i64 (wrap64 (1 + t488)), .int .i64 t491, .int .i64 0]) ?_ 3 _ rfl; (with_reducible repeat (first | refine blk_drewN ?_ _ | refine blk_drew ?_ | refine blk_alloc ?_ _)); refine blk_put (cs := #[.int .i64 a1, .int .i64 (wrap64 (1 + t488)), .int .i64 t491, .int .i64 0]) ?_ 3 _ rfl; (with_reducible repeat (first | refine blk_drewN ?_ _ | refine blk_drew ?_ | refine blk_alloc ?_ _)); refine blk_put (cs := #[.int .i64 a1, .int .i64 (wrap64 (1 + t488)), .int .i64 0, .int .i64 0]) ?_ 2 _ rfl; (with_reducible repeat (first | refine blk_drewN ?_ _ | refine blk_drew ?_ | refine blk_alloc ?_ _)); refine blk_put (cs := #[.int .i64 a1, .int .i64 0, .int .i64 0, .int .i64 0]) ?_ 1 _ rfl; (with_reducible repeat (first | refine blk_drewN ?_ _ | refine blk_drew ?_ | refine blk_alloc ?_ _)); refine blk_put (cs := #[.int .i64 0, .int .i64 0, .int .i64 0, .int .i64 0]) ?_ 0 _ rfl; (with_reducible repeat (first | refine blk_drewN ?_ _ | refine blk_drew ?_ | refine blk_alloc ?_ _)); exact BK494.out⟩
  have n2_ : Aside0 (IsS114 w0 (((((w19.setCell ⟨gb494, 0, none⟩ (.int .i64 a1)).setCell ⟨gb494, 1, none⟩ (.int .i64 (wrap64 (1 + t488)))).setCell ⟨gb494, 2, none⟩ (.int .i64 t491)).setCell ⟨gb494, 3, none⟩ (.int .i64 0)).setCell ⟨gb494, 3, none⟩ (.int .i64 t491)) g s0_0 t492 t493) := ⟨S.iI⟩
  have n3_ : Aside0 (KeepBut w (((((w19.setCell ⟨gb494, 0, none⟩ (.int .i64 a1)).setCell ⟨gb494, 1, none⟩ (.int .i64 (wrap64 (1 + t488)))).setCell ⟨gb494, 2, none⟩ (.int .i64 t491)).setCell ⟨gb494, 3, none⟩ (.int .i64 0)).setCell ⟨gb494, 3, none⟩ (.int .i64 t491)) g none) := ⟨(S.kG : KeepBut w _ g none)⟩
  have n4_ : Aside0 (Below w0.heap.size w0 (((((w19.setCell ⟨gb494, 0, none⟩ (.int .i64 a1)).setCell ⟨gb494, 1, none⟩ (.int .i64 (wrap64 (1 + t488)))).setCell ⟨gb494, 2, none⟩ (.int .i64 t491)).setCell ⟨gb494, 3, none⟩ (.int .i64 0)).setCell ⟨gb494, 3, none⟩ (.int .i64 t491))) := ⟨S.bI⟩
  (try clear BK487)
  (try clear BK494)
  (try clear HI0)
  (try clear HK)
  (try clear HB)
  generalize (((((w19.setCell ⟨gb494, 0, none⟩ (.int .i64 a1)).setCell ⟨gb494, 1, none⟩ (.int .i64 (wrap64 (1 + t488)))).setCell ⟨gb494, 2, none⟩ (.int .i64 t491)).setCell ⟨gb494, 3, none⟩ (.int .i64 0)).setCell ⟨gb494, 3, none⟩ (.int .i64 t491)) = w23 at n0_ n1_ n2_ n3_ n4_ ⊢
  have BK487 := n0_
  have BK494 := n1_
  have HI0 := n2_
  have HK := n3_
  have HB := n4_
  clear n0_ n1_ n2_ n3_ n4_
  replace BK487 := Aside0.mk (blk_drew BK487.out)
  replace BK494 := Aside0.mk (blk_drew BK494.out)
  replace HI0 := Aside0.mk (IsS114.drew HI0.out)
  replace HK := Aside0.mk (keep_drew HK.out)
  replace HB := Aside0.mk (below_drew1 HB.out)
  refine S.st (n := 9) (ds := [8]) #[false, false, false, false, false, false, false, false, false] (fun w_ h_ => have x_ := S.e4 (S.Q h_ BK494.out); x_) (fun hHeld => ?_); refine with_tabW spec_l4Draw.tab4 spec_l4Draw.bits4 (fun HT_ HW_ => ?_)
  generalize w23.drew = w24 at BK487 BK494 HI0 HK HB hHeld ⊢
  refine S.pS 0 19 ?_
  refine S.pS 3 22 ?_
  refine S.tK 1 20 #[true, true, false, true, false, false, false, false, false] ?_
  refine S.pS 2 21 ?_
  refine S.oN 4 23 #[true, true, true, true, true, false, false, false, false] (fun K hK => ?_)
  refine S.go Try.func90 #[.pointer (some ⟨g, 0, none⟩), .int .i64 3] ?_
  with_reducible refine (spec_l1Below.calls g s0_0 t492 t493 3 t495 t496 t497 w0 _ ?s1 ?s2 A15.out).mono ?_
  (case s1 => exact S.iI)
  (case s2 => exact S.bI)
  rintro e w25 ⟨rfl, hi, hb, hk⟩
  refine ⟨_, rfl, ?_⟩
  replace BK487 := Aside0.mk (KeepBut.blk hk (g' := gb487) (o := .cells #[.int .i64 0, .int .i64 0, .int .i64 0, .int .i64 0] 71 (0, 0)) (S.uB BK487.out) NB487_0.out (by simp))
  replace BK494 := Aside0.mk (KeepBut.blk hk (g' := gb494) (o := .cells #[.int .i64 a1, .int .i64 (wrap64 (1 + t488)), .int .i64 t491, .int .i64 t491] 71 (0, 0)) (S.uB BK494.out) NB494_0.out (by simp))
  replace HK := Aside0.mk (KeepBut.trans ((S.kG : KeepBut w _ g none)) hk (.inl rfl))
  replace HB := Aside0.mk (hb)
  replace HI0 := Aside0.mk (hi)
  (try clear hb)
  (try clear hb2)
  (try clear hk)
  (try clear hi)
  refine hK.out _ _ (S.e4 BK494.out) (fun hHeld => ?_)
  clear hK K
  refine S.nm 23 ?_
  refine S.pS 5 24 ?_
  refine S.pS 6 25 ?_
  refine S.pS 7 26 ?_
  refine last_ (i := 8) (N := none) #[true, true, true, true, true, true, true, true, true] rfl rfl (one_of HT_.out (by kernel_rfl)) (by decide) (fun K hK => ?_)
  have hs26 : w25.cell? ⟨gb494, 3, none⟩ = some (.int .i64 t491) := (blk_cell BK494.out 3).trans rfl
  have hfs26 := blk_frozen BK494.out 3
  have hns26_0 := NB487_494.out
  have hms26_0 := NB494_487.out
  refine skip_ (w1 := ?_) (by rfl) rfl ?_ ?_
  rotate_left
  ·go_simp
   rfl
  refine hK.out _ _ ?_
  clear hK K
  refine done_ (done_of HT_.out (by kernel_rfl)) ?_
  obtain ⟨Z27a, Z27b, Z27c, Z27d, Y27a, Y27b, Y27c, Y27d⟩ := S.c4 BK494.out
  have hnb28 := NB487_0.out
  have hnc28 := NB0_487.out
  obtain ⟨Z29a, Z29b, Z29c, Z29d, Y29a, Y29b, Y29c, Y29d⟩ := S.c4 BK487.out
  try go_wp2
  refine bodyPost_ret (results_cell_row rfl _ _ gb487 71 #[.int .i64 a1, .int .i64 (wrap64 (1 + t488)), .int .i64 t491, .int .i64 (Int.tmod (wrap64 ((wrap64 (t491 + 1)) + t495)) 4)] (0, 0) _ rfl (by (with_reducible repeat (first | refine blk_drewN ?_ _ | refine blk_drew ?_ | refine blk_alloc ?_ _)); refine blk_put (cs := #[.int .i64 a1, .int .i64 (wrap64 (1 + t488)), .int .i64 t491, .int .i64 0]) ?_ 3 _ rfl; (with_reducible repeat (first | refine blk_drewN ?_ _ | refine blk_drew ?_ | refine blk_alloc ?_ _)); refine blk_put (cs := #[.int .i64 a1, .int .i64 (wrap64 (1 + t488)), .int .i64 0, .int .i64 0]) ?_ 2 _ rfl; (with_reducible repeat (first | refine blk_drewN ?_ _ | refine blk_drew ?_ | refine blk_alloc ?_ _)); refine blk_put (cs := #[.int .i64 a1, .int .i64 0, .int .i64 0, .int .i64 0]) ?_ 1 _ rfl; (with_reducible repeat (first | refine blk_drewN ?_ _ | refine blk_drew ?_ | refine blk_alloc ?_ _)); refine blk_put (cs := #[.int .i64 0, .int .i64 0, .int .i64 0, .int .i64 0]) ?_ 0 _ rfl; (with_reducible repeat (first | refine blk_drewN ?_ _ | refine blk_drew ?_ | refine blk_alloc ?_ _)); refine blk_far ?_ NB487_494.out _; (with_reducible repeat (first | refine blk_drewN ?_ _ | refine blk_drew ?_ | refine blk_alloc ?_ _)); exact BK487.out) Try.underlying71 rfl (by kernel_rfl)) rfl ?_
  exact ⟨S.eW, S.iI, S.bI, (S.kG : KeepBut w _ g none)⟩

/-! ### spec_l5Draw: function 147 -/
def spec_l5Draw.l0 : Nat → List (S71) → Int → List Int → Int → Int → Option ((List (S71)) × Int × Int)
 | 0, _, _, _, _, _ => none
 | k + 1, x3, x4, x1000, x1001, x1002 => (spec_l1Below.f x1000 x1001 x1002 6).bind fun bt501 => (if x4 ≤ (wrap64 (2 + bt501.1)) then ((spec_l4Draw.f x1000 bt501.2.1 bt501.2.2 x4).bind fun bt504 => (if x3.length < 4398046511104 then (spec_l5Draw.l0 k (x3 ++ [(⟨bt504.1, bt504.2.1, bt504.2.2.1, bt504.2.2.2.1⟩ : S71)]) (wrap64 (x4 + 1)) x1000 bt504.2.2.2.2.1 bt504.2.2.2.2.2) else (none))) else (some (x3, bt501.2.1, bt501.2.2)))
def spec_l5Draw.f (k : Nat) (s0_0 : List Int) (s0_1 : Int) (s0_2 : Int) : Option ((List (S71)) × Int × Int) := spec_l5Draw.l0 k (([] : List (S71))) 1 s0_0 s0_1 s0_2
theorem spec_l5Draw.calls (k : Nat) (g : Nat) (s0_0 : List Int) (s0_1 : Int) (s0_2 : Int) (r1 : List (S71)) (r2 : Int) (r3 : Int) (w0 w : World) (hI : IsS114 w0 w g s0_0 s0_1 s0_2) (hB : Below w0.heap.size w0 w) (h : spec_l5Draw.f k s0_0 s0_1 s0_2 = some (r1, r2, r3)) :
  Calls Try.prog 147 #[.pointer (some ⟨g, 0, none⟩)] w fun e w' => ∃ v0_ : Value, e = .returned (v0_) ∧ Kd.R k71 71 w' w.heap.size (fun _ => True) v0_ r1 ∧ IsS114 w0 w' g s0_0 r2 r3 ∧ Below w0.heap.size w0 w' ∧ KeepBut w w' g none := by
 have HI0 := Aside0.mk hI
 have HK := Aside0.mk (KeepBut.refl w g none)
 have HL := Aside0.mk hB.size
 clear hI
 have HW0 := Aside0.mk hB.size
 have HB := Aside0.mk hB
 clear hB
 have H : (spec_l5Draw.l0 k (([] : List (S71))) 1 s0_0 s0_1 s0_2) = some (r1, r2, r3) := h
 clear h
 obtain ⟨y498, hy498⟩ : ∃ y_ : List (S71), y_ = (([] : List (S71))) := ⟨_, rfl⟩
 have hY_ := hy498; replace H : (spec_l5Draw.l0 k y498 1 s0_0 s0_1 s0_2) = some (r1, r2, r3) := S.rh; clear hY_
 have Ny498 := Aside0.mk hy498
 clear hy498
 have H' := Aside0.mk H
 clear H
 go_enter Try.func147, Try.ntmps147
 go_wp2_with (first | ((with_reducible refine gate_dst (N := 5) rfl ?_); refine Kd.R_lit k71 _ 71 ?hg (N := 5) ?hd (xs := ([] : List (S71))) (inner := []) (ok := fun _ => True) (okp := fun _ => True) ?hr ?hp (fun _ hk => hk) trivial (Below.refl _ _) (Nat.le_refl _) (by simp) ?_; (case hd => rfl); (case hg => rfl); (case hr => first | (go_simp; done) | (go_simp; rfl)); (case hp => exact (Reps.none _ _)); intro v499 w2 ho3 hb hg_ hnew_; clear hg_ hnew_; (first | rw [← Ny498.out] at ho3 | (simp only [Int.reduceToNat] at ho3; rw [← Ny498.out] at ho3)); have HO500 := Aside0.mk (Kd.R_lower ho3 (keep_size (w := w) (g := g) (row := none) S.kA)); replace HK := Aside0.mk (KeepBut.trans S.kA (KeepBut.of_below hb g none) (.inl rfl)); replace HB := Aside0.mk (below_step (S.bI) hb); replace HI0 := Aside0.mk (IsS114.below (S.iI) hb); clear hb ho3))
 go_loopg [3, 4] k (fun kq v3 v4 w' => ∃ (x3_1 : List (S71)) (x4_1 : Int) (x1001_1 : Int) (x1002_1 : Int), v4 = .int .i64 x4_1 ∧ Aside0 (spec_l5Draw.l0 kq x3_1 x4_1 s0_0 x1001_1 x1002_1 = some (r1, r2, r3)) ∧ Aside0 (kq ≤ k) ∧ Aside0 (Kd.R k71 71 w' w.heap.size (fun _ => True) v3 x3_1) ∧ Aside0 (IsS114 w0 w' g s0_0 x1001_1 x1002_1) ∧ Aside0 (KeepBut w w' g none) ∧ Aside0 (Below w0.heap.size w0 w'))
 case atStart => exact ⟨(y498), (1), (s0_1), (s0_2), S.eA, H', ⟨Nat.le_refl _⟩, ⟨S.uR HO500.out⟩, ⟨S.iI⟩, ⟨S.kA⟩, ⟨S.bI⟩⟩
 case round =>
  clear H'
  obtain ⟨x3_1, x4_1, x1001_1, x1002_1, rfl, HA, HK1, HO_3, HI0, HK, HB⟩ := hrel
  cases gk with
  | zero => exact absurd HA.out (by simp [spec_l5Draw.l0])
  | succ k1 =>
   have H := HA.out
   clear HA
   simp only [spec_l5Draw.l0] at H
   replace H := S.bd H; obtain ⟨⟨t501, t502, t503⟩, A4, H⟩ := H
   (try dsimp only at H)
   replace H := S.dc H; rcases H with ⟨H, c5b0⟩ | ⟨H, c5b0⟩
   ·replace H := Option.bind_eq_some_iff.mp H
    obtain ⟨⟨t504, t505, t506, t507, t508, t509⟩, A60, H⟩ := H
    replace H : (if x3_1.length < 4398046511104 then (spec_l5Draw.l0 k1 (x3_1 ++ [(⟨t504, t505, t506, t507⟩ : S71)]) (wrap64 (x4_1 + 1)) s0_0 t508 t509) else (none)) = some (r1, r2, r3) := H
    have A6 := Aside0.mk A60
    clear A60
    by_cases c7 : x3_1.length < 4398046511104
    ·rw [if_pos c7] at H
     have LMc7 := Aside0.mk c7
     clear c7
     obtain ⟨y510, hy510⟩ : ∃ y_ : List (S71), y_ = (x3_1 ++ [(⟨t504, t505, t506, t507⟩ : S71)]) := ⟨_, rfl⟩
     have hY_ := hy510; replace H : (spec_l5Draw.l0 k1 y510 (wrap64 (x4_1 + 1)) s0_0 t508 t509) = some (r1, r2, r3) := S.rh; clear hY_
     have Ny510 := Aside0.mk hy510
     clear hy510
     have H' := Aside0.mk H
     clear H
     go_wp2_with (first | ((with_reducible refine gate_callee (f := 90) rfl ?_); refine S.gL (some 8) Try.func90 #[.pointer (some ⟨g, 0, none⟩), .int .i64 6] ?_; (with_reducible refine (spec_l1Below.calls g s0_0 x1001_1 x1002_1 6 t501 t502 t503 w0 _ ?s1 ?s2 A4.out).mono ?_); (case s1 => exact S.iI); (case s2 => exact S.bI); rintro e w8 ⟨rfl, hi, hb, hk⟩; refine ⟨_, rfl, ?_⟩; replace HO_3 := Aside0.mk (Kd.R_mono (Kd.R_keep (IsS114.apart (show IsS114 w0 _ g s0_0 x1001_1 x1002_1 from S.iI) (S.uR HO_3.out) (by decide)) hk (fun _ h => h.2)) (fun _ h => h.1)); replace HK := Aside0.mk (KeepBut.trans S.kA hk (.inl rfl)); replace HB := Aside0.mk (hb); replace HI0 := Aside0.mk (hi); (try clear hb); (try clear hk); (try clear hi)) | ((with_reducible refine gate_callee (f := 151) rfl ?_); refine S.gL (some 16) Try.func151 #[.pointer (some ⟨g, 0, none⟩), .int .i64 x4_1] ?_; (with_reducible refine (spec_l4Draw.calls g s0_0 t502 t503 x4_1 t504 t505 t506 t507 t508 t509 w0 _ ?s1 ?s2 A6.out).mono ?_); (case s1 => exact S.iI); (case s2 => exact S.bI); rintro e w9 ⟨rfl, hi, hb, hk⟩; refine ⟨_, rfl, ?_⟩; replace HO_3 := Aside0.mk (Kd.R_mono (Kd.R_keep (IsS114.apart (show IsS114 w0 _ g s0_0 t502 t503 from S.iI) (S.uR HO_3.out) (by decide)) hk (fun _ h => h.2)) (fun _ h => h.1)); replace HK := Aside0.mk (KeepBut.trans S.kA hk (.inl rfl)); replace HB := Aside0.mk (hb); replace HI0 := Aside0.mk (hi); (try clear hb); (try clear hk); (try clear hi)) | ((with_reducible refine gate_builtin (b := .append) (xs := #[.tmp 13, .tmp 17]) rfl ?_); at_builtin; refine Kd.R_append k71 w.heap.size rfl (.tmp 13) (.tmp 17) 27 71 (.agg #[(.int .i64 0), (.int .i64 0), (.int .i64 0), (.int .i64 0)]) 32 rfl Try.underlying27 info71 rfl (by decide) (by omega) u3 x3_1 (⟨t504, t505, t506, t507⟩ : S71) [.int .i64 t504, .int .i64 t505, .int .i64 t506, .int .i64 t507] (fun _ => True) (fun _ => False) rfl rfl ?aP (fun _ hk => hk.elim) ?aF ?aO (Below.refl _ _) ?aS ?aL ?_; (case aP => exact k71_mkM _ _ _ (⟨t504, t505, t506, t507⟩ : S71)); (case aF => exact (fun _ _ => trivial)); (case aO => exact (S.uR HO_3.out)); (case aS => exact (keep_size (w := w) (g := g) (row := none) S.kA)); (case aL => have := LMc7.out; omega); intro v511 w10 ho hb hg hat; rw [← Ny510.out] at ho; have n0_ := Aside0.mk (IsS114.grown (S.iI) hg (IsS114.own_ne HI0.out HO_3.out (by decide))); have n1_ := Aside0.mk (below_weaken (S.bI) HL.out hb); have n2_ := Aside0.mk (KeepBut.trans S.kA (KeepBut.of_grown hg g) (Kd.R_base2 HO_3.out)); have n3_ := Aside0.mk (ho); clear HI0; clear HB; clear HK; clear HO_3; have HI0 := n0_; have HB := n1_; have HK := n2_; have HO512 := n3_; clear n0_ n1_ n2_ n3_; clear ho hb hg hat))
     go_roundg k1
     case measure => have := HK1.out; omega
     case rel => exact ⟨(y510), (wrap64 (x4_1 + 1)), (t508), (t509), S.eA, H', ⟨by have := HK1.out; omega⟩, ⟨S.uR HO512.out⟩, ⟨S.iI⟩, ⟨S.kA⟩, ⟨S.bI⟩⟩
    ·rw [if_neg c7] at H
     exact absurd H (by simp)
   ·simp only [Option.some.injEq, Prod.mk.injEq] at H
    obtain ⟨rfl, rfl, rfl⟩ := H
    go_wp2_with (first | ((with_reducible refine gate_callee (f := 90) rfl ?_); refine S.gL (some 8) Try.func90 #[.pointer (some ⟨g, 0, none⟩), .int .i64 6] ?_; (with_reducible refine (spec_l1Below.calls g s0_0 x1001_1 x1002_1 6 t501 t502 t503 w0 _ ?s1 ?s2 A4.out).mono ?_); (case s1 => exact S.iI); (case s2 => exact S.bI); rintro e w11 ⟨rfl, hi, hb, hk⟩; refine ⟨_, rfl, ?_⟩; replace HO_3 := Aside0.mk (Kd.R_mono (Kd.R_keep (IsS114.apart (show IsS114 w0 _ g s0_0 x1001_1 x1002_1 from S.iI) (S.uR HO_3.out) (by decide)) hk (fun _ h => h.2)) (fun _ h => h.1)); replace HK := Aside0.mk (KeepBut.trans S.kA hk (.inl rfl)); replace HB := Aside0.mk (hb); replace HI0 := Aside0.mk (hi); (try clear hb); (try clear hk); (try clear hi)))
    go_ret
    exact ⟨_, S.eW, S.uR HO_3.out, S.iI, S.bI, S.kA⟩
end Go.Proofs.Ytjgigmghcfdomaa.PFnSwitched
