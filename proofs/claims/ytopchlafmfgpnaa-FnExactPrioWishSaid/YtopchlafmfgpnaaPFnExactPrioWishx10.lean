/- Printed by a program: what the Go functions compute, as plain Lean functions (.f), and the proofs that the machine's calls come to just that (.calls). -/
import Derived.Test.YtopchlafmfgpnaaPFnExactPrioWishx0
import Derived.Test.YtopchlafmfgpnaaPFnExactPrioWishx3
import Derived.Test.YtopchlafmfgpnaaPFnExactPrioWishx7
import Derived.Test.YtopchlafmfgpnaaPFnExactPrioWishx8
import Derived.Test.YtopchlafmfgpnaaPFnExactPrioWishx9
namespace Go.Proofs.Ytopchlafmfgpnaa.PFnExactPrioWish
open Go.RowKit Go.Proofs.YtopchlafmfgpnaaW.PrintWords Go.Proofs.YtopchlafmfgpnaaW.PrintLast Go.Proofs.YtopchlafmfgpnaaW.PrintMore
attribute [local go_sem] max2_int min2_int max_two min_two max_three min_three max_four min_four   -- for this text's walks alone
set_option linter.unusedVariables false
set_option linter.unusedSimpArgs false

/-! ### spec_ClearBetween: function 86 -/
mutual
def spec_ClearBetween.l0 : Nat → List (S52) → List Int → List Int → Int → List Int → List Int → Int → Option (Int)
 | 0, _, _, _, _, _, _, _ => none
 | k + 1, x0, x1, x2, x7, x8, x9, x10 => if x10 < (x8.length : Int) then ((spec_IsTogether.f k x0 x1).bind fun t201 => (if t201 = true then ((spec_IsTogether.f k x0 x2).bind fun t202 => (spec_ClearBetween.j1 k x0 x1 x2 x7 x8 x9 x10 t202)) else (spec_ClearBetween.j1 k x0 x1 x2 x7 x8 x9 x10 false))) else (spec_ClearBetween.j1 k x0 x1 x2 x7 x8 x9 x10 false)
def spec_ClearBetween.j1 : Nat → List (S52) → List Int → List Int → Int → List Int → List Int → Int → Bool → Option (Int)
 | 0, _, _, _, _, _, _, _, _ => none
 | k + 1, x0, x1, x2, x7, x8, x9, x10, x32 => if x32 = true then (spec_ClearBetween.l1 k x0 x1 x2 x7 x8 x9 x10 0) else (some x7)
def spec_ClearBetween.l1 : Nat → List (S52) → List Int → List Int → Int → List Int → List Int → Int → Int → Option (Int)
 | 0, _, _, _, _, _, _, _, _ => none
 | k + 1, x0, x1, x2, x7, x8, x9, x10, x11 => if x11 < (x9.length : Int) then (if 0 ≤ x10 then (if x10 < (x8.length : Int) then ((spec_FindPath.f k x0 (rd x8 x10)).bind fun t204 => (if 0 ≤ t204 then (if t204 < (x0.length : Int) then (if 0 ≤ x11 then ((spec_FindPath.f k x0 (rd x9 x11)).bind fun t208 => (if 0 ≤ t208 then (if t208 < (x0.length : Int) then ((spec_Conflict.f k ((rd_T52 x0 t204).f0) ((rd_T52 x0 t204).f1) ((rd_T52 x0 t204).f2) ((rd_T52 x0 t204).f3) ((rd_T52 x0 t208).f0) ((rd_T52 x0 t208).f1) ((rd_T52 x0 t208).f2) ((rd_T52 x0 t208).f3)).bind fun t210 => (if t210 = true then ((spec_ClearOf.f ((rd_T52 x0 t204).f0) ((rd_T52 x0 t204).f1) ((rd_T52 x0 t204).f2) ((rd_T52 x0 t204).f3)).bind fun t211 => ((spec_Max.f x7 t211).bind fun t212 => (spec_ClearBetween.l1 k x0 x1 x2 t212 x8 x9 x10 (wrap64 (x11 + 1))))) else (spec_ClearBetween.l1 k x0 x1 x2 x7 x8 x9 x10 (wrap64 (x11 + 1))))) else (none)) else (none))) else (none)) else (none)) else (none))) else (none)) else (none)) else (spec_ClearBetween.l0 k x0 x1 x2 x7 x8 x9 (wrap64 (x10 + 1)))
end
def spec_ClearBetween.f (k : Nat) (l0 : List (S52)) (l1 : List Int) (l2 : List Int) : Option (Int) := (spec_Closes.f k l1 l2).bind fun t195 => ((spec_Closes.f k l2 l1).bind fun t198 => (spec_ClearBetween.l0 k l0 l1 l2 0 t195 t198 0))
theorem spec_ClearBetween.mono_l : ∀ k, (∀ y0 y1 y2 y3 y4 y5 y6, LeO (spec_ClearBetween.l0 k y0 y1 y2 y3 y4 y5 y6) (spec_ClearBetween.l0 (k + 1) y0 y1 y2 y3 y4 y5 y6)) ∧ (∀ y0 y1 y2 y3 y4 y5 y6 y7, LeO (spec_ClearBetween.j1 k y0 y1 y2 y3 y4 y5 y6 y7) (spec_ClearBetween.j1 (k + 1) y0 y1 y2 y3 y4 y5 y6 y7)) ∧ (∀ y0 y1 y2 y3 y4 y5 y6 y7, LeO (spec_ClearBetween.l1 k y0 y1 y2 y3 y4 y5 y6 y7) (spec_ClearBetween.l1 (k + 1) y0 y1 y2 y3 y4 y5 y6 y7))
 | 0 => ⟨fun _ _ _ _ _ _ _ r h => by simp [spec_ClearBetween.l0] at h, fun _ _ _ _ _ _ _ _ r h => by simp [spec_ClearBetween.j1] at h, fun _ _ _ _ _ _ _ _ r h => by simp [spec_ClearBetween.l1] at h⟩
 | k + 1 => by
  obtain ⟨ih0, ih1, ih2⟩ := spec_ClearBetween.mono_l k
  refine ⟨?_, ?_, ?_⟩
  ·intro y0 y1 y2 y3 y4 y5 y6
   unfold spec_ClearBetween.l0
   repeat' first
   | (with_reducible exact ih0 _ _ _ _ _ _ _)
   | (with_reducible exact ih1 _ _ _ _ _ _ _ _)
   | (with_reducible exact ih2 _ _ _ _ _ _ _ _)
   | (with_reducible exact spec_Closes.mono _ _ _)
   | (with_reducible exact spec_Conflict.mono _ _ _ _ _ _ _ _ _)
   | (with_reducible exact spec_FindPath.mono _ _ _)
   | (with_reducible exact spec_IsTogether.mono _ _ _)
   | (with_reducible exact LeO.refl _)
   | (with_reducible exact LeO.none _)
   | (with_reducible refine LeO.ite ?_ ?_)
   | (with_reducible refine LeO.bind ?_ (fun _ => ?_))
   | exact ih0 _ _ _ _ _ _ _
   | exact ih1 _ _ _ _ _ _ _ _
   | exact ih2 _ _ _ _ _ _ _ _
   | exact spec_Closes.mono _ _ _
   | exact spec_Conflict.mono _ _ _ _ _ _ _ _ _
   | exact spec_FindPath.mono _ _ _
   | exact spec_IsTogether.mono _ _ _
   | exact LeO.none _
   | refine LeO.ite ?_ ?_
   | refine LeO.bind ?_ (fun _ => ?_)
  ·intro y0 y1 y2 y3 y4 y5 y6 y7
   unfold spec_ClearBetween.j1
   repeat' first
   | (with_reducible exact ih0 _ _ _ _ _ _ _)
   | (with_reducible exact ih1 _ _ _ _ _ _ _ _)
   | (with_reducible exact ih2 _ _ _ _ _ _ _ _)
   | (with_reducible exact spec_Closes.mono _ _ _)
   | (with_reducible exact spec_Conflict.mono _ _ _ _ _ _ _ _ _)
   | (with_reducible exact spec_FindPath.mono _ _ _)
   | (with_reducible exact spec_IsTogether.mono _ _ _)
   | (with_reducible exact LeO.refl _)
   | (with_reducible exact LeO.none _)
   | (with_reducible refine LeO.ite ?_ ?_)
   | (with_reducible refine LeO.bind ?_ (fun _ => ?_))
   | exact ih0 _ _ _ _ _ _ _
   | exact ih1 _ _ _ _ _ _ _ _
   | exact ih2 _ _ _ _ _ _ _ _
   | exact spec_Closes.mono _ _ _
   | exact spec_Conflict.mono _ _ _ _ _ _ _ _ _
   | exact spec_FindPath.mono _ _ _
   | exact spec_IsTogether.mono _ _ _
   | exact LeO.none _
   | refine LeO.ite ?_ ?_
   | refine LeO.bind ?_ (fun _ => ?_)
  ·intro y0 y1 y2 y3 y4 y5 y6 y7
   unfold spec_ClearBetween.l1
   repeat' first
   | (with_reducible exact ih0 _ _ _ _ _ _ _)
   | (with_reducible exact ih1 _ _ _ _ _ _ _ _)
   | (with_reducible exact ih2 _ _ _ _ _ _ _ _)
   | (with_reducible exact spec_Closes.mono _ _ _)
   | (with_reducible exact spec_Conflict.mono _ _ _ _ _ _ _ _ _)
   | (with_reducible exact spec_FindPath.mono _ _ _)
   | (with_reducible exact spec_IsTogether.mono _ _ _)
   | (with_reducible exact LeO.refl _)
   | (with_reducible exact LeO.none _)
   | (with_reducible refine LeO.ite ?_ ?_)
   | (with_reducible refine LeO.bind ?_ (fun _ => ?_))
   | exact ih0 _ _ _ _ _ _ _
   | exact ih1 _ _ _ _ _ _ _ _
   | exact ih2 _ _ _ _ _ _ _ _
   | exact spec_Closes.mono _ _ _
   | exact spec_Conflict.mono _ _ _ _ _ _ _ _ _
   | exact spec_FindPath.mono _ _ _
   | exact spec_IsTogether.mono _ _ _
   | exact LeO.none _
   | refine LeO.ite ?_ ?_
   | refine LeO.bind ?_ (fun _ => ?_)
theorem spec_ClearBetween.mono : ∀ a0 a1 a2 k, LeO (spec_ClearBetween.f k a0 a1 a2) (spec_ClearBetween.f (k + 1) a0 a1 a2) := by
 intro a0 a1 a2 k
 obtain ⟨ih0, ih1, ih2⟩ := spec_ClearBetween.mono_l k
 unfold spec_ClearBetween.f
 repeat' first
   | (with_reducible exact ih0 _ _ _ _ _ _ _)
   | (with_reducible exact ih1 _ _ _ _ _ _ _ _)
   | (with_reducible exact ih2 _ _ _ _ _ _ _ _)
   | (with_reducible exact spec_Closes.mono _ _ _)
   | (with_reducible exact spec_Conflict.mono _ _ _ _ _ _ _ _ _)
   | (with_reducible exact spec_FindPath.mono _ _ _)
   | (with_reducible exact spec_IsTogether.mono _ _ _)
   | (with_reducible exact LeO.refl _)
   | (with_reducible exact LeO.none _)
   | (with_reducible refine LeO.ite ?_ ?_)
   | (with_reducible refine LeO.bind ?_ (fun _ => ?_))
   | exact ih0 _ _ _ _ _ _ _
   | exact ih1 _ _ _ _ _ _ _ _
   | exact ih2 _ _ _ _ _ _ _ _
   | exact spec_Closes.mono _ _ _
   | exact spec_Conflict.mono _ _ _ _ _ _ _ _ _
   | exact spec_FindPath.mono _ _ _
   | exact spec_IsTogether.mono _ _ _
   | exact LeO.none _
   | refine LeO.ite ?_ ?_
   | refine LeO.bind ?_ (fun _ => ?_)
def spec_ClearBetween.T11 : Bool × List (List Nat × List Nat) := (true, [([], []), ([], []), ([], []), ([], []), ([], []), ([3, 4], [3, 4]), ([5], [5]), ([2, 6], [2, 6]), ([1, 7], [1, 7]), ([8], [8]), ([0, 9, 7], [0, 9])])
def spec_ClearBetween.B11 : List Nat := [0, 0, 0, 0, 0, 24, 56, 124, 254, 510, 1023]
theorem spec_ClearBetween.tab11 : rtab .any (opsOf Try.f86 11) = spec_ClearBetween.T11 := by kernel_rfl
theorem spec_ClearBetween.bits11 : waitsOk spec_ClearBetween.T11.2 spec_ClearBetween.B11 = true := by kernel_rfl
set_option maxHeartbeats 8000000 in
set_option maxRecDepth 100000 in
theorem spec_ClearBetween.calls (k : Nat) (A0 : Option Addr) (c0 : Nat) (l0 : List (S52)) (A1 : Option Addr) (c1 : Nat) (l1 : List Int) (A2 : Option Addr) (c2 : Nat) (l2 : List Int) (r : Int) (w : World) (hr0 : Kd.C k52 w A0 l0.length l0) (hc0 : l0.length ≤ c0) (hr1 : Kd.C (Kd.int .i64) w A1 l1.length l1) (hc1 : l1.length ≤ c1) (hr2 : Kd.C (Kd.int .i64) w A2 l2.length l2) (hc2 : l2.length ≤ c2) (h : spec_ClearBetween.f k l0 l1 l2 = some r) :
  Calls Try.prog 86 #[.slice A0 l0.length c0, .slice A1 l1.length c1, .slice A2 l2.length c2] w fun e w' => e = .returned (.int .i64 r) ∧ Below w.heap.size w w' := by
 have hu52 := Try.underlying52
 have HR0 := Aside0.mk hr0
 have HC0 := Aside0.mk hc0
 clear hr0 hc0
 have HR1 := Aside0.mk hr1
 have HC1 := Aside0.mk hc1
 clear hr1 hc1
 have HR2 := Aside0.mk hr2
 have HC2 := Aside0.mk hc2
 clear hr2 hc2
 have HB := Aside0.mk (Below.refl w.heap.size w)
 have H : ((spec_Closes.f k l1 l2).bind fun t195 => ((spec_Closes.f k l2 l1).bind fun t198 => (spec_ClearBetween.l0 k l0 l1 l2 0 t195 t198 0))) = some r := h
 clear h
 replace H := Option.bind_eq_some_iff.mp H
 obtain ⟨t195, A40, H⟩ := H
 replace H : ((spec_Closes.f k l2 l1).bind fun t198 => (spec_ClearBetween.l0 k l0 l1 l2 0 t195 t198 0)) = some r := H
 have A4 := Aside0.mk A40
 clear A40
 replace H := Option.bind_eq_some_iff.mp H
 obtain ⟨t198, A50, H⟩ := H
 replace H : (spec_ClearBetween.l0 k l0 l1 l2 0 t195 t198 0) = some r := H
 have A5 := Aside0.mk A50
 clear A50
 have H' := Aside0.mk H
 clear H
 go_enter Try.func86, Try.ntmps86
 go_wp2_with (first | ((with_reducible refine gate_callee (f := 112) rfl ?_); refine S.gL (some 15) Try.func112 #[.slice A1 l1.length c1, .slice A2 l2.length c2] ?_; (with_reducible refine (spec_Closes.calls k _ _ l1 _ _ l2 t195 _ ?side1 ?side2 ?side3 ?side4 A4.out).mono ?_); (case side1 => repeat (first | exact HR1.out | (with_reducible refine Kd.C_alloc ?_ _) | (with_reducible refine Kd.C_drewN ?_ _) | (with_reducible refine Kd.C_drew ?_))); (case side2 => exact HC1.out); (case side3 => repeat (first | exact HR2.out | (with_reducible refine Kd.C_alloc ?_ _) | (with_reducible refine Kd.C_drewN ?_ _) | (with_reducible refine Kd.C_drew ?_))); (case side4 => exact HC2.out); rintro e w6 ⟨v196, rfl, ho0, hb⟩; refine ⟨_, rfl, ?_⟩; have n0_ := Aside0.mk (Kd.R_lower ho0 (below_size S.bA)); have n1_ := Aside0.mk (below_step S.bA hb); clear HB; have HO197 := n0_; have HB := n1_; clear n0_ n1_; (try clear hb); (try clear hb2); (try clear hk); (try clear hi); (try clear ho0)) | ((with_reducible refine gate_callee (f := 112) rfl ?_); refine S.gL (some 18) Try.func112 #[.slice A2 l2.length c2, .slice A1 l1.length c1] ?_; (with_reducible refine (spec_Closes.calls k _ _ l2 _ _ l1 t198 _ ?side1 ?side2 ?side3 ?side4 A5.out).mono ?_); (case side1 => exact S.cA HR2.out); (case side2 => exact HC2.out); (case side3 => exact S.cA HR1.out); (case side4 => exact HC1.out); rintro e w7 ⟨v199, rfl, ho0, hb⟩; refine ⟨_, rfl, ?_⟩; have n0_ := Aside0.mk (Kd.R_elder' (S.uR HO197.out) (Kd.R_base ho0) hb); have n1_ := Aside0.mk (Kd.R_lower (Kd.R_new' ho0 (Kd.R_lt (S.uR HO197.out))) (below_size S.bA)); have n2_ := Aside0.mk (below_step S.bA hb); clear HO197; clear HB; have HO197 := n0_; have HO200 := n1_; have HB := n2_; clear n0_ n1_ n2_; (try clear hb); (try clear hb2); (try clear hk); (try clear hi); (try clear ho0)))
 go_loopg [7, 10] k (fun kq v7 v10 w' => ∃ (x7_1 : Int) (x10_1 : Int), v7 = .int .i64 x7_1 ∧ v10 = .int .i64 x10_1 ∧ Aside0 (spec_ClearBetween.l0 kq l0 l1 l2 x7_1 t195 t198 x10_1 = some r) ∧ Aside0 (kq ≤ k) ∧ Aside0 (Kd.R (Kd.int .i64) 3 w' w.heap.size (fun k_ => some k_ ≠ (v199 : Value).ownBlock) v196 t195) ∧ Aside0 (Kd.R (Kd.int .i64) 3 w' w.heap.size (fun k_ => some k_ ≠ (v196 : Value).ownBlock) v199 t198) ∧ Aside0 (Below w.heap.size w w'))
 case atStart => exact ⟨(0), (0), S.eA, S.eA, H', ⟨Nat.le_refl _⟩, ⟨by (with_reducible repeat (first | apply Kd.R_alloc | apply Kd.R_drewN | apply Kd.R_drew)); exact Kd.R_mono HO197.out (fun _ hk => hk.2)⟩, ⟨by (with_reducible repeat (first | apply Kd.R_alloc | apply Kd.R_drewN | apply Kd.R_drew)); exact Kd.R_mono HO200.out (fun _ hk => hk.2)⟩, ⟨S.bA⟩⟩
 case round =>
  clear H'
  try clear c1
  try clear c2
  try clear p2
  obtain ⟨x7_1, x10_1, rfl, rfl, HA, HK1, HO_8, HO_9, HB⟩ := hrel
  cases gk with
  | zero => exact absurd HA.out (by simp [spec_ClearBetween.l0])
  | succ k1 =>
   have H := HA.out
   clear HA
   simp only [spec_ClearBetween.l0] at H
   have HC8 := Aside0.mk H
   clear H
   go_upto_region 5 with (fail)
   go_cut [32] (fun v32 wc => ∃ (kq : Nat) (x32_7 : Bool), v32 = .bool x32_7 ∧ Aside0 (spec_ClearBetween.j1 kq l0 l1 l2 x7_1 t195 t198 x10_1 x32_7 = some r) ∧ Aside0 (kq ≤ k1) ∧ Aside0 (Kd.R (Kd.int .i64) 3 wc w.heap.size (fun k_ => some k_ ≠ (v199 : Value).ownBlock) v196 t195) ∧ Aside0 (Kd.R (Kd.int .i64) 3 wc w.heap.size (fun k_ => some k_ ≠ (v196 : Value).ownBlock) v199 t198) ∧ Aside0 (Below w.heap.size w wc))
   case first =>
    have H := HC8.out
    clear HC8
    by_cases c9 : x10_1 < (t195.length : Int)
    ·rw [if_pos c9] at H
     have c9b0 : decide (x10_1 < (t195.length : Int)) = true := decide_eq_true c9
     clear c9
     (first | rw [c9b0] | (simp only [i64_w, i32_w]; rw [c9b0]) | skip)
     replace H := Option.bind_eq_some_iff.mp H
     obtain ⟨t201, A100, H⟩ := H
     replace H : (if t201 = true then ((spec_IsTogether.f k1 l0 l2).bind fun t202 => (spec_ClearBetween.j1 k1 l0 l1 l2 x7_1 t195 t198 x10_1 t202)) else (spec_ClearBetween.j1 k1 l0 l1 l2 x7_1 t195 t198 x10_1 false)) = some r := H
     have A10 := Aside0.mk A100
     clear A100
     by_cases c11 : t201 = true
     ·subst c11
      have H1 : ((spec_IsTogether.f k1 l0 l2).bind fun t202 => (spec_ClearBetween.j1 k1 l0 l1 l2 x7_1 t195 t198 x10_1 t202)) = some r := by rw [if_pos rfl] at H; exact H
      clear H
      have H := H1
      clear H1
      replace H := Option.bind_eq_some_iff.mp H
      obtain ⟨t202, A120, H⟩ := H
      replace H : (spec_ClearBetween.j1 k1 l0 l1 l2 x7_1 t195 t198 x10_1 t202) = some r := H
      have A12 := Aside0.mk A120
      clear A120
      have H' := Aside0.mk H
      clear H
      obtain ⟨Ao13, co13, eo13⟩ := Kd.R_slice HO_8.out
      subst eo13
      go_wp2_with (first | (go_at_call 107; (with_reducible refine (spec_IsTogether.calls k1 _ _ l0 _ _ l1 true _ ?side1 ?side2 ?side3 ?side4 A10.out).mono ?_); (case side1 => exact S.cA HR0.out); (case side2 => exact HC0.out); (case side3 => exact S.cA HR1.out); (case side4 => exact HC1.out); rintro e w14 ⟨rfl, hb⟩; have n0_ := Aside0.mk (Kd.R_below (S.uR HO_8.out) hb); have n1_ := Aside0.mk (Kd.R_below (S.uR HO_9.out) hb); have n2_ := Aside0.mk (below_step S.bA hb); clear HO_8; clear HO_9; clear HB; have HO_8 := n0_; have HO_9 := n1_; have HB := n2_; clear n0_ n1_ n2_; (try clear hb); (try clear hb2); (try clear hk); (try clear hi)) | (go_at_call 107; (with_reducible refine (spec_IsTogether.calls k1 _ _ l0 _ _ l2 t202 _ ?side1 ?side2 ?side3 ?side4 A12.out).mono ?_); (case side1 => exact S.cA HR0.out); (case side2 => exact HC0.out); (case side3 => exact S.cA HR2.out); (case side4 => exact HC2.out); rintro e w15 ⟨rfl, hb⟩; have n0_ := Aside0.mk (Kd.R_below (S.uR HO_8.out) hb); have n1_ := Aside0.mk (Kd.R_below (S.uR HO_9.out) hb); have n2_ := Aside0.mk (below_step S.bA hb); clear HO_8; clear HO_9; clear HB; have HO_8 := n0_; have HO_9 := n1_; have HB := n2_; clear n0_ n1_ n2_; (try clear hb); (try clear hb2); (try clear hk); (try clear hi)))
      go_meet
      case rel => exact ⟨_, (t202), S.eA, H', ⟨by have := HK1.out; first | omega | exact Nat.le_refl _⟩, ⟨S.uR HO_8.out⟩, ⟨S.uR HO_9.out⟩, ⟨S.bA⟩⟩
     ·replace c11 := Bool.eq_false_iff.mpr c11
      subst c11
      have H1 : (spec_ClearBetween.j1 k1 l0 l1 l2 x7_1 t195 t198 x10_1 false) = some r := by rw [if_neg (show ¬ (false = true) by decide)] at H; exact H
      clear H
      have H := H1
      clear H1
      have H' := Aside0.mk H
      clear H
      obtain ⟨Ao16, co16, eo16⟩ := Kd.R_slice HO_8.out
      subst eo16
      go_wp2_with (first | (go_at_call 107; (with_reducible refine (spec_IsTogether.calls k1 _ _ l0 _ _ l1 false _ ?side1 ?side2 ?side3 ?side4 A10.out).mono ?_); (case side1 => exact S.cA HR0.out); (case side2 => exact HC0.out); (case side3 => exact S.cA HR1.out); (case side4 => exact HC1.out); rintro e w17 ⟨rfl, hb⟩; have n0_ := Aside0.mk (Kd.R_below (S.uR HO_8.out) hb); have n1_ := Aside0.mk (Kd.R_below (S.uR HO_9.out) hb); have n2_ := Aside0.mk (below_step S.bA hb); clear HO_8; clear HO_9; clear HB; have HO_8 := n0_; have HO_9 := n1_; have HB := n2_; clear n0_ n1_ n2_; (try clear hb); (try clear hb2); (try clear hk); (try clear hi)))
      go_meet
      case rel => exact ⟨_, (false), S.eA, H', ⟨by have := HK1.out; first | omega | exact Nat.le_refl _⟩, ⟨S.uR HO_8.out⟩, ⟨S.uR HO_9.out⟩, ⟨S.bA⟩⟩
    ·rw [if_neg c9] at H
     have c9b0 : decide (x10_1 < (t195.length : Int)) = false := decide_eq_false c9
     clear c9
     (first | rw [c9b0] | (simp only [i64_w, i32_w]; rw [c9b0]) | skip)
     have H' := Aside0.mk H
     clear H
     obtain ⟨Ao18, co18, eo18⟩ := Kd.R_slice HO_8.out
     subst eo18
     go_wp2
     go_meet
     case rel => exact ⟨_, (false), S.eA, H', ⟨by have := HK1.out; first | omega | exact Nat.le_refl _⟩, ⟨S.uR HO_8.out⟩, ⟨S.uR HO_9.out⟩, ⟨S.bA⟩⟩
   case rest =>
    clear HC8
    try clear c1
    try clear c2
    try clear p2
    try clear c8
    try clear c9
    try clear c9b0
    try clear c11
    try clear p2
    obtain ⟨kq, x32_7, rfl, HA, HJ7, HO_8, HO_9, HB⟩ := hcut
    cases kq with
    | zero => exact absurd HA.out (by simp [spec_ClearBetween.j1])
    | succ kj7 =>
     have H := HA.out
     clear HA
     simp only [spec_ClearBetween.j1] at H
     by_cases c19 : x32_7 = true
     ·subst c19
      have H1 : (spec_ClearBetween.l1 kj7 l0 l1 l2 x7_1 t195 t198 x10_1 0) = some r := by rw [if_pos rfl] at H; exact H
      clear H
      have H := H1
      clear H1
      have H' := Aside0.mk H
      clear H
      go_wp2
      go_loopg [7, 11] kj7 (fun kq v7 v11 w' => ∃ (x7_3 : Int) (x11_3 : Int), v7 = .int .i64 x7_3 ∧ v11 = .int .i64 x11_3 ∧ Aside0 (spec_ClearBetween.l1 kq l0 l1 l2 x7_3 t195 t198 x10_1 x11_3 = some r) ∧ Aside0 (kq ≤ kj7) ∧ Aside0 (Kd.R (Kd.int .i64) 3 w' w.heap.size (fun k_ => some k_ ≠ (v199 : Value).ownBlock) v196 t195) ∧ Aside0 (Kd.R (Kd.int .i64) 3 w' w.heap.size (fun k_ => some k_ ≠ (v196 : Value).ownBlock) v199 t198) ∧ Aside0 (Below w.heap.size w w'))
      case atStart => exact ⟨(x7_1), (0), S.eA, S.eA, H', ⟨Nat.le_refl _⟩, ⟨S.uR HO_8.out⟩, ⟨S.uR HO_9.out⟩, ⟨S.bA⟩⟩
      case round =>
       clear H'
       try clear c1
       try clear c2
       try clear p2
       try clear c8
       try clear c9
       try clear c9b0
       try clear c11
       try clear c19
       try clear p2
       obtain ⟨x7_3, x11_3, rfl, rfl, HA, HK3, HO_8, HO_9, HB⟩ := hrel
       cases gk with
       | zero => exact absurd HA.out (by simp [spec_ClearBetween.l1])
       | succ k3 =>
        have H := HA.out
        clear HA
        simp only [spec_ClearBetween.l1] at H
        by_cases c20 : x11_3 < (t198.length : Int)
        ·rw [if_pos c20] at H
         have c20b0 : decide (x11_3 < (t198.length : Int)) = true := decide_eq_true c20
         clear c20
         by_cases c21 : 0 ≤ x10_1
         ·rw [if_pos c21] at H
          have c21b0 : decide (0 ≤ x10_1) = true := decide_eq_true c21
          clear c21
          by_cases c22 : x10_1 < (t195.length : Int)
          ·rw [if_pos c22] at H
           have c22b0 : decide (x10_1 < (t195.length : Int)) = true := decide_eq_true c22
           clear c22
           replace H := Option.bind_eq_some_iff.mp H
           obtain ⟨t204, A230, H⟩ := H
           replace H : (if 0 ≤ t204 then (if t204 < (l0.length : Int) then (if 0 ≤ x11_3 then ((spec_FindPath.f k3 l0 (rd t198 x11_3)).bind fun t208 => (if 0 ≤ t208 then (if t208 < (l0.length : Int) then ((spec_Conflict.f k3 ((rd_T52 l0 t204).f0) ((rd_T52 l0 t204).f1) ((rd_T52 l0 t204).f2) ((rd_T52 l0 t204).f3) ((rd_T52 l0 t208).f0) ((rd_T52 l0 t208).f1) ((rd_T52 l0 t208).f2) ((rd_T52 l0 t208).f3)).bind fun t210 => (if t210 = true then ((spec_ClearOf.f ((rd_T52 l0 t204).f0) ((rd_T52 l0 t204).f1) ((rd_T52 l0 t204).f2) ((rd_T52 l0 t204).f3)).bind fun t211 => ((spec_Max.f x7_3 t211).bind fun t212 => (spec_ClearBetween.l1 k3 l0 l1 l2 t212 t195 t198 x10_1 (wrap64 (x11_3 + 1))))) else (spec_ClearBetween.l1 k3 l0 l1 l2 x7_3 t195 t198 x10_1 (wrap64 (x11_3 + 1))))) else (none)) else (none))) else (none)) else (none)) else (none)) = some r := H
           have A23 := Aside0.mk A230
           clear A230
           by_cases c24 : 0 ≤ t204
           ·rw [if_pos c24] at H
            have c24b0 : decide (0 ≤ t204) = true := decide_eq_true c24
            clear c24
            by_cases c25 : t204 < (l0.length : Int)
            ·rw [if_pos c25] at H
             have c25b0 : decide (t204 < (l0.length : Int)) = true := decide_eq_true c25
             clear c25
             by_cases c26 : 0 ≤ x11_3
             ·rw [if_pos c26] at H
              have c26b0 : decide (0 ≤ x11_3) = true := decide_eq_true c26
              clear c26
              replace H := Option.bind_eq_some_iff.mp H
              obtain ⟨t208, A270, H⟩ := H
              replace H : (if 0 ≤ t208 then (if t208 < (l0.length : Int) then ((spec_Conflict.f k3 ((rd_T52 l0 t204).f0) ((rd_T52 l0 t204).f1) ((rd_T52 l0 t204).f2) ((rd_T52 l0 t204).f3) ((rd_T52 l0 t208).f0) ((rd_T52 l0 t208).f1) ((rd_T52 l0 t208).f2) ((rd_T52 l0 t208).f3)).bind fun t210 => (if t210 = true then ((spec_ClearOf.f ((rd_T52 l0 t204).f0) ((rd_T52 l0 t204).f1) ((rd_T52 l0 t204).f2) ((rd_T52 l0 t204).f3)).bind fun t211 => ((spec_Max.f x7_3 t211).bind fun t212 => (spec_ClearBetween.l1 k3 l0 l1 l2 t212 t195 t198 x10_1 (wrap64 (x11_3 + 1))))) else (spec_ClearBetween.l1 k3 l0 l1 l2 x7_3 t195 t198 x10_1 (wrap64 (x11_3 + 1))))) else (none)) else (none)) = some r := H
              have A27 := Aside0.mk A270
              clear A270
              by_cases c28 : 0 ≤ t208
              ·rw [if_pos c28] at H
               have c28b0 : decide (0 ≤ t208) = true := decide_eq_true c28
               clear c28
               by_cases c29 : t208 < (l0.length : Int)
               ·rw [if_pos c29] at H
                have c29b0 : decide (t208 < (l0.length : Int)) = true := decide_eq_true c29
                clear c29
                replace H := Option.bind_eq_some_iff.mp H
                obtain ⟨t210, A300, H⟩ := H
                replace H : (if t210 = true then ((spec_ClearOf.f ((rd_T52 l0 t204).f0) ((rd_T52 l0 t204).f1) ((rd_T52 l0 t204).f2) ((rd_T52 l0 t204).f3)).bind fun t211 => ((spec_Max.f x7_3 t211).bind fun t212 => (spec_ClearBetween.l1 k3 l0 l1 l2 t212 t195 t198 x10_1 (wrap64 (x11_3 + 1))))) else (spec_ClearBetween.l1 k3 l0 l1 l2 x7_3 t195 t198 x10_1 (wrap64 (x11_3 + 1)))) = some r := H
                have A30 := Aside0.mk A300
                clear A300
                by_cases c31 : t210 = true
                ·subst c31
                 have H1 : ((spec_ClearOf.f ((rd_T52 l0 t204).f0) ((rd_T52 l0 t204).f1) ((rd_T52 l0 t204).f2) ((rd_T52 l0 t204).f3)).bind fun t211 => ((spec_Max.f x7_3 t211).bind fun t212 => (spec_ClearBetween.l1 k3 l0 l1 l2 t212 t195 t198 x10_1 (wrap64 (x11_3 + 1))))) = some r := by rw [if_pos rfl] at H; exact H
                 clear H
                 have H := H1
                 clear H1
                 replace H := Option.bind_eq_some_iff.mp H
                 obtain ⟨t211, A320, H⟩ := H
                 replace H : ((spec_Max.f x7_3 t211).bind fun t212 => (spec_ClearBetween.l1 k3 l0 l1 l2 t212 t195 t198 x10_1 (wrap64 (x11_3 + 1)))) = some r := H
                 have A32 := Aside0.mk A320
                 clear A320
                 replace H := Option.bind_eq_some_iff.mp H
                 obtain ⟨t212, A330, H⟩ := H
                 replace H : (spec_ClearBetween.l1 k3 l0 l1 l2 t212 t195 t198 x10_1 (wrap64 (x11_3 + 1))) = some r := H
                 have A33 := Aside0.mk A330
                 clear A330
                 have H' := Aside0.mk H
                 clear H
                 obtain ⟨Ao34, co34, eo34⟩ := Kd.R_slice HO_9.out
                 subst eo34
                 obtain ⟨Ao35, co35, eo35⟩ := Kd.R_slice HO_8.out
                 subst eo35
                 have p203 : 0 ≤ (x10_1 : Int) := S.oD
                 have q203 : x10_1 < (t195.length : Int) := S.oD
                 obtain ⟨ad203, e203, hx203_0⟩ := Kd.at_int (Kd.R_reads' HO_8.out).2.2 x10_1 p203 q203
                 cases e203
                 replace p203 := eq_true p203
                 replace q203 := eq_true q203
                 try go_wp2_with (first | ((with_reducible refine gate_callee (f := 85) rfl ?_); refine S.gL (some 47) Try.func85 #[.slice A0 l0.length c0, .int .i64 (rd t195 x10_1)] ?_; (with_reducible refine (spec_FindPath.calls k3 _ _ l0 (rd t195 x10_1) t204 _ ?side1 ?side2 A23.out).mono ?_); (case side1 => exact S.cA HR0.out); (case side2 => exact HC0.out); rintro e w' ⟨rfl, ⟨nd, rfl⟩⟩; refine ⟨_, rfl, ?_⟩; (try (rw [drewN_self wr]; generalize hq_ : World.drewN wr _ = wr; have n0_ : Aside0 (Kd.R (Kd.int .i64) 3 wr w.heap.size (fun k_ => some k_ ≠ (.slice Ao34 t198.length co34 : Value).ownBlock) (.slice (some ad203) t195.length co35) t195) := ⟨by rw [← hq_]; exact (S.uR HO_8.out)⟩; have n1_ : Aside0 (Kd.R (Kd.int .i64) 3 wr w.heap.size (fun k_ => some k_ ≠ (.slice (some ad203) t195.length co35 : Value).ownBlock) (.slice Ao34 t198.length co34) t198) := ⟨by rw [← hq_]; exact (S.uR HO_9.out)⟩; have n2_ : Aside0 (Below w.heap.size w wr) := ⟨by rw [← hq_]; exact S.bA⟩; clear HO_8 HO_9 HB hq_; have HO_8 := n0_; have HO_9 := n1_; have HB := n2_; clear n0_ n1_ n2_)); have p205 : 0 ≤ (t204 : Int) := S.oD; have q205 : t204 < (l0.length : Int) := S.oD; obtain ⟨ad205, e205, hx205_0, hx205_1, hx205_2, hx205_3⟩ := at_T52 HR0.out t204 p205 q205; cases e205; replace hx205_0 := (HB.out.cell (World.block_lt_of_cell? w _ hx205_0)).trans hx205_0; replace hx205_1 := (HB.out.cell (World.block_lt_of_cell? w _ hx205_1)).trans hx205_1; replace hx205_2 := (HB.out.cell (World.block_lt_of_cell? w _ hx205_2)).trans hx205_2; replace hx205_3 := (HB.out.cell (World.block_lt_of_cell? w _ hx205_3)).trans hx205_3; replace p205 := eq_true p205; replace q205 := eq_true q205) | ((with_reducible refine gate_dst (N := 12) rfl ?_); refine box_event ?hg (N := 12) ?hd (cs := #[.int .i64 0, .int .i64 0, .int .i64 0, .int .i64 0]) (t := 52) ?hr ?_; (case hd => rfl); (case hg => rfl); (case hr => first | (go_simp; done) | (go_simp; rfl)); intro gb206 hg w36 hbox hb; have n0_ := Aside0.mk (Kd.R_below (S.uR HO_8.out) hb); have n1_ := Aside0.mk (Kd.R_below (S.uR HO_9.out) hb); have n2_ := Aside0.mk (below_step S.bA hb); have n3_ := Aside0.mk (hbox); have n4_ := Aside0.mk ((by rw [hg]; exact (below_size S.bA) : w.heap.size ≤ gb206)); have n5_ := Aside0.mk ((by rw [hg]; exact (below_size S.bA) : w.heap.size ≤ gb206)); clear HO_8; clear HO_9; clear HB; have HO_8 := n0_; have HO_9 := n1_; have HB := n2_; have BK206 := n3_; have GW206 := n4_; have GE206 := n5_; clear n0_ n1_ n2_ n3_ n4_ n5_; clear hb hbox hg; have hcz37_0 : w36.cell? ⟨gb206, 0, none⟩ = some (.int .i64 0) := (blk_cell BK206.out 0).trans rfl; have hcz37_1 : w36.cell? ⟨gb206, 1, none⟩ = some (.int .i64 0) := (blk_cell BK206.out 1).trans rfl; have hcz37_2 : w36.cell? ⟨gb206, 2, none⟩ = some (.int .i64 0) := (blk_cell BK206.out 2).trans rfl; have hcz37_3 : w36.cell? ⟨gb206, 3, none⟩ = some (.int .i64 0) := (blk_cell BK206.out 3).trans rfl; have hfz37_0 := blk_frozen BK206.out 0; have hfz37_1 := blk_frozen BK206.out 1; have hfz37_2 := blk_frozen BK206.out 2; have hfz37_3 := blk_frozen BK206.out 3))
                 have n0_ : Aside0 (Kd.R (Kd.int .i64) 3 ((((w36.setCell ⟨gb206, 0, none⟩ (.int .i64 ((rd_T52 l0 t204).f0))).setCell ⟨gb206, 1, none⟩ (.int .i64 ((rd_T52 l0 t204).f1))).setCell ⟨gb206, 2, none⟩ (.int .i64 ((rd_T52 l0 t204).f2))).setCell ⟨gb206, 3, none⟩ (.int .i64 ((rd_T52 l0 t204).f3))) w.heap.size (fun k_ => some k_ ≠ (.slice Ao34 t198.length co34 : Value).ownBlock) (.slice (some ad203) t195.length co35) t195) := ⟨by (with_reducible repeat (first | apply Kd.R_alloc | apply Kd.R_drewN | apply Kd.R_drew)); exact Kd.R_mono (Kd.R_far (p := ⟨gb206, 3, none⟩) (Kd.R_far (p := ⟨gb206, 2, none⟩) (Kd.R_far (p := ⟨gb206, 1, none⟩) (Kd.R_far (p := ⟨gb206, 0, none⟩) (Kd.R_types HO_8.out BK206.out (by decide)) (fun _ hk => hk.2) (.int .i64 ((rd_T52 l0 t204).f0))) (fun _ hk => hk.2) (.int .i64 ((rd_T52 l0 t204).f1))) (fun _ hk => hk.2) (.int .i64 ((rd_T52 l0 t204).f2))) (fun _ hk => hk.2) (.int .i64 ((rd_T52 l0 t204).f3))) (fun _ hk => hk.1)⟩
                 have n1_ : Aside0 (Kd.R (Kd.int .i64) 3 ((((w36.setCell ⟨gb206, 0, none⟩ (.int .i64 ((rd_T52 l0 t204).f0))).setCell ⟨gb206, 1, none⟩ (.int .i64 ((rd_T52 l0 t204).f1))).setCell ⟨gb206, 2, none⟩ (.int .i64 ((rd_T52 l0 t204).f2))).setCell ⟨gb206, 3, none⟩ (.int .i64 ((rd_T52 l0 t204).f3))) w.heap.size (fun k_ => some k_ ≠ (.slice (some ad203) t195.length co35 : Value).ownBlock) (.slice Ao34 t198.length co34) t198) := ⟨by (with_reducible repeat (first | apply Kd.R_alloc | apply Kd.R_drewN | apply Kd.R_drew)); exact Kd.R_mono (Kd.R_far (p := ⟨gb206, 3, none⟩) (Kd.R_far (p := ⟨gb206, 2, none⟩) (Kd.R_far (p := ⟨gb206, 1, none⟩) (Kd.R_far (p := ⟨gb206, 0, none⟩) (Kd.R_types HO_9.out BK206.out (by decide)) (fun _ hk => hk.2) (.int .i64 ((rd_T52 l0 t204).f0))) (fun _ hk => hk.2) (.int .i64 ((rd_T52 l0 t204).f1))) (fun _ hk => hk.2) (.int .i64 ((rd_T52 l0 t204).f2))) (fun _ hk => hk.2) (.int .i64 ((rd_T52 l0 t204).f3))) (fun _ hk => hk.1)⟩
                 have n2_ : Aside0 (((((w36.setCell ⟨gb206, 0, none⟩ (.int .i64 ((rd_T52 l0 t204).f0))).setCell ⟨gb206, 1, none⟩ (.int .i64 ((rd_T52 l0 t204).f1))).setCell ⟨gb206, 2, none⟩ (.int .i64 ((rd_T52 l0 t204).f2))).setCell ⟨gb206, 3, none⟩ (.int .i64 ((rd_T52 l0 t204).f3))).heap[gb206]? = some (.cells #[.int .i64 ((rd_T52 l0 t204).f0), .int .i64 ((rd_T52 l0 t204).f1), .int .i64 ((rd_T52 l0 t204).f2), .int .i64 ((rd_T52 l0 t204).f3)] 52 (0, 0))) := ⟨by (with_reducible repeat (first | refine blk_drewN ?_ _ | refine blk_drew ?_ | refine blk_alloc ?_ _)); refine blk_put (cs := #[.int .i64 ((rd_T52 l0 t204).f0), .int .i64 ((rd_T52 l0 t204).f1), .int .i64 ((rd_T52 l0 t204).f2), .int .i64 0]) ?_ 3 _ rfl; (with_reducible repeat (first | refine blk_drewN ?_ _ | refine blk_drew ?_ | refine blk_alloc ?_ _)); refine blk_put (cs := #[.int .i64 ((rd_T52 l0 t204).f0), .int .i64 ((rd_T52 l0 t204).f1), .int .i64 0, .int .i64 0]) ?_ 2 _ rfl; (with_reducible repeat (first | refine blk_drewN ?_ _ | refine blk_drew ?_ | refine blk_alloc ?_ _)); refine blk_put (cs := #[.int .i64 ((rd_T52 l0 t204).f0), .int .i64 0, .int .i64 0, .int .i64 0]) ?_ 1 _ rfl; (with_reducible repeat (first | refine blk_drewN ?_ _ | refine blk_drew ?_ | refine blk_alloc ?_ _)); refine blk_put (cs := #[.int .i64 0, .int .i64 0, .int .i64 0, .int .i64 0]) ?_ 0 _ rfl; (with_reducible repeat (first | refine blk_drewN ?_ _ | refine blk_drew ?_ | refine blk_alloc ?_ _)); exact BK206.out⟩
                 have n3_ : Aside0 (Below w.heap.size w ((((w36.setCell ⟨gb206, 0, none⟩ (.int .i64 ((rd_T52 l0 t204).f0))).setCell ⟨gb206, 1, none⟩ (.int .i64 ((rd_T52 l0 t204).f1))).setCell ⟨gb206, 2, none⟩ (.int .i64 ((rd_T52 l0 t204).f2))).setCell ⟨gb206, 3, none⟩ (.int .i64 ((rd_T52 l0 t204).f3)))) := ⟨S.bG⟩
                 (try clear HO_8)
                 (try clear HO_9)
                 (try clear BK206)
                 (try clear HB)
                 generalize ((((w36.setCell ⟨gb206, 0, none⟩ (.int .i64 ((rd_T52 l0 t204).f0))).setCell ⟨gb206, 1, none⟩ (.int .i64 ((rd_T52 l0 t204).f1))).setCell ⟨gb206, 2, none⟩ (.int .i64 ((rd_T52 l0 t204).f2))).setCell ⟨gb206, 3, none⟩ (.int .i64 ((rd_T52 l0 t204).f3))) = w38 at n0_ n1_ n2_ n3_ ⊢
                 have HO_8 := n0_
                 have HO_9 := n1_
                 have BK206 := n2_
                 have HB := n3_
                 clear n0_ n1_ n2_ n3_
                 have n0_ := Aside0.mk (Kd.R_drew HO_8.out)
                 have n1_ := Aside0.mk (Kd.R_drew HO_9.out)
                 have n2_ := Aside0.mk (blk_drew BK206.out)
                 have n3_ := Aside0.mk (below_drew1 HB.out)
                 clear HO_8
                 clear HO_9
                 clear BK206
                 clear HB
                 have HO_8 := n0_
                 have HO_9 := n1_
                 have BK206 := n2_
                 have HB := n3_
                 clear n0_ n1_ n2_ n3_
                 have p207 : 0 ≤ (x11_3 : Int) := S.oD
                 have q207 : x11_3 < (t198.length : Int) := S.oD
                 obtain ⟨ad207, e207, hx207_0⟩ := Kd.at_int (Kd.R_reads' HO_9.out).2.2 x11_3 p207 q207
                 cases e207
                 replace p207 := eq_true p207
                 replace q207 := eq_true q207
                 have p209 : 0 ≤ (t208 : Int) := S.oD
                 have q209 : t208 < (l0.length : Int) := S.oD
                 obtain ⟨ad209, e209, hx209_0, hx209_1, hx209_2, hx209_3⟩ := at_T52 HR0.out t208 p209 q209
                 have hw209_3 := hx209_3
                 have hw209_2 := hx209_2
                 have hw209_1 := hx209_1
                 have hw209_0 := hx209_0
                 obtain rfl : ad205 = ad209 := (by injection e209)
                 replace hx209_0 := (HB.out.cell (World.block_lt_of_cell? w _ hx209_0)).trans hx209_0
                 replace hx209_1 := (HB.out.cell (World.block_lt_of_cell? w _ hx209_1)).trans hx209_1
                 replace hx209_2 := (HB.out.cell (World.block_lt_of_cell? w _ hx209_2)).trans hx209_2
                 replace hx209_3 := (HB.out.cell (World.block_lt_of_cell? w _ hx209_3)).trans hx209_3
                 replace p209 := eq_true p209
                 replace q209 := eq_true q209
                 refine start_ (n := 11) (S := fun w' => w'.cell? ⟨gb206, 0, none⟩ = some (.int .i64 ((rd_T52 l0 t204).f0)) ∧ w'.cell? ⟨gb206, 1, none⟩ = some (.int .i64 ((rd_T52 l0 t204).f1)) ∧ w'.cell? ⟨gb206, 2, none⟩ = some (.int .i64 ((rd_T52 l0 t204).f2)) ∧ w'.cell? ⟨gb206, 3, none⟩ = some (.int .i64 ((rd_T52 l0 t204).f3)) ∧ w'.cell? (ad207.add (x11_3).toNat) = some (.int .i64 (rd t198 x11_3)) ∧ w'.cell? (ad205.add ((t208).toNat * 4)) = some (.int .i64 ((rd_T52 l0 t208).f0)) ∧ w'.cell? ⟨(ad205.add ((t208).toNat * 4)).block, (ad205.add ((t208).toNat * 4)).off + 1, none⟩ = some (.int .i64 ((rd_T52 l0 t208).f1)) ∧ w'.cell? ⟨(ad205.add ((t208).toNat * 4)).block, (ad205.add ((t208).toNat * 4)).off + 2, none⟩ = some (.int .i64 ((rd_T52 l0 t208).f2)) ∧ w'.cell? ⟨(ad205.add ((t208).toNat * 4)).block, (ad205.add ((t208).toNat * 4)).off + 3, none⟩ = some (.int .i64 ((rd_T52 l0 t208).f3))) (ds := []) #[false, false, false, false, false, false, false, false, false, false, false] (by kernel_rfl) rfl rfl ⟨(blk_cell BK206.out 0).trans rfl, (blk_cell BK206.out 1).trans rfl, (blk_cell BK206.out 2).trans rfl, (blk_cell BK206.out 3).trans rfl, hx207_0, ((HB.out.cell (World.block_lt_of_cell? w _ hw209_0)).trans hw209_0), ((HB.out.cell (World.block_lt_of_cell? w _ hw209_1)).trans hw209_1), ((HB.out.cell (World.block_lt_of_cell? w _ hw209_2)).trans hw209_2), ((HB.out.cell (World.block_lt_of_cell? w _ hw209_3)).trans hw209_3)⟩ (fun hHeld => ?_); refine with_tabW spec_ClearBetween.tab11 spec_ClearBetween.bits11 (fun HT_ HW_ => ?_)
                 generalize w38.drew = w39 at HO_8 HO_9 BK206 HB hx207_0 hx209_0 hx209_1 hx209_2 hx209_3 hHeld ⊢
                 refine S.pS 1 51 ?_
                 refine S.pS 2 52 ?_
                 refine S.pS 3 53 ?_
                 refine S.pS 4 54 ?_
                 refine S.pS 5 55 ?_
                 refine take_ (i := 0) (N := some 50) (v := ?_) (a' := ?_) #[true, true, true, true, true, true, false, false, false, false, false] rfl rfl (take_ofW HT_.out HW_.out (by kernel_rfl)) (fun _ _ _ h => h) (Or.inl ⟨by rfl, ?_⟩) hHeld ?_ ?_
                 rotate_left
                 ·rintro w' ⟨s0, s1, s2, s3, s4, s5, s6, s7, s8⟩
                  go_simp
                  with_reducible rfl
                 rotate_left
                 ·simp only [Act.put, List.setIfInBounds_toArray, List.set_cons_zero, List.set_cons_succ, i64_w, i32_w]
                  rfl
                 refine take_ (i := 6) (N := some 56) (v := ?_) (a' := ?_) #[true, true, true, true, true, true, true, false, false, false, false] rfl rfl (take_ofW HT_.out HW_.out (by kernel_rfl)) (fun _ _ _ h => h) (Or.inl ⟨by rfl, ?_⟩) hHeld ?_ ?_
                 rotate_left
                 ·rintro w' ⟨s0, s1, s2, s3, s4, s5, s6, s7, s8⟩
                  go_simp
                  with_reducible rfl
                 rotate_left
                 ·simp only [Act.put, List.setIfInBounds_toArray, List.set_cons_zero, List.set_cons_succ, i64_w, i32_w]
                  rfl
                 refine one_ (i := 7) (N := some 57) #[true, true, true, true, true, true, true, true, false, false, false] rfl rfl (one_of HT_.out (by kernel_rfl)) (by decide) (fun K hK => ?_)
                 refine goes_ Try.func85 (by kernel_rfl) rfl #[.slice (some ad205) l0.length c0, .int .i64 (rd t198 x11_3)] (by rfl) rfl rfl (by (try simp only [List.map_toArray, List.map_cons, List.map_nil]); first | done | rfl | (simp only [List.length_drop, List.length_take]; rfl)) ?_
                 with_reducible refine (spec_FindPath.calls k3 _ _ l0 (rd t198 x11_3) t208 _ ?side1 ?side2 A27.out).mono ?_
                 (case side1 => exact S.cA HR0.out)
                 (case side2 => exact HC0.out)
                 rintro e w' ⟨rfl, ⟨nd, rfl⟩⟩
                 refine ⟨_, rfl, ?_⟩
                 refine hK.out _ _ ⟨(blk_cell BK206.out 0).trans rfl, (blk_cell BK206.out 1).trans rfl, (blk_cell BK206.out 2).trans rfl, (blk_cell BK206.out 3).trans rfl, hHeld.2.2.2.2.1, ((HB.out.cell (World.block_lt_of_cell? w _ hw209_0)).trans hw209_0), ((HB.out.cell (World.block_lt_of_cell? w _ hw209_1)).trans hw209_1), ((HB.out.cell (World.block_lt_of_cell? w _ hw209_2)).trans hw209_2), ((HB.out.cell (World.block_lt_of_cell? w _ hw209_3)).trans hw209_3)⟩ (fun hHeld => ?_)
                 clear hK K
                 refine norm_ (a' := ?_) ?_ ?_
                 rotate_left
                 ·show Act.put _ (some 57) _ = _
                  simp only [Act.put, List.setIfInBounds_toArray, List.set_cons_zero, List.set_cons_succ, i64_w, i32_w]
                  rfl
                 refine S.pS 8 58 ?_
                 refine take_ (i := 9) (N := some 59) (v := ?_) (a' := ?_) #[true, true, true, true, true, true, true, true, true, true, false] rfl rfl (take_ofW HT_.out HW_.out (by kernel_rfl)) (fun _ _ _ h => h) (Or.inl ⟨by rfl, ?_⟩) hHeld ?_ ?_
                 rotate_left
                 ·rintro w' ⟨s0, s1, s2, s3, s4, s5, s6, s7, s8⟩
                  go_simp
                  with_reducible rfl
                 rotate_left
                 ·simp only [Act.put, List.setIfInBounds_toArray, List.set_cons_zero, List.set_cons_succ, i64_w, i32_w]
                  rfl
                 refine one_ (i := 10) (N := some 60) #[true, true, true, true, true, true, true, true, true, true, true] rfl rfl (one_of HT_.out (by kernel_rfl)) (by decide) (fun K hK => ?_)
                 refine goes_ Try.func113 (by kernel_rfl) rfl #[.agg #[.int .i64 ((rd_T52 l0 t204).f0), .int .i64 ((rd_T52 l0 t204).f1), .int .i64 ((rd_T52 l0 t204).f2), .int .i64 ((rd_T52 l0 t204).f3)], .agg #[.int .i64 ((rd_T52 l0 t208).f0), .int .i64 ((rd_T52 l0 t208).f1), .int .i64 ((rd_T52 l0 t208).f2), .int .i64 ((rd_T52 l0 t208).f3)]] (by rfl) rfl rfl (by (try simp only [List.map_toArray, List.map_cons, List.map_nil]); first | done | rfl | (simp only [List.length_drop, List.length_take]; rfl)) ?_
                 with_reducible refine (spec_Conflict.calls k3 ((rd_T52 l0 t204).f0) ((rd_T52 l0 t204).f1) ((rd_T52 l0 t204).f2) ((rd_T52 l0 t204).f3) ((rd_T52 l0 t208).f0) ((rd_T52 l0 t208).f1) ((rd_T52 l0 t208).f2) ((rd_T52 l0 t208).f3) true _ A30.out).mono ?_
                 rintro e w40 ⟨rfl, hb⟩
                 have HS4_ := (hb.cell (World.block_lt_of_cell? _ _ (hHeld.2.2.2.2.1))).trans (hHeld.2.2.2.2.1)
                 refine ⟨_, rfl, ?_⟩
                 have n0_ := Aside0.mk (Kd.R_below (S.uR HO_8.out) hb)
                 have n1_ := Aside0.mk (Kd.R_below (S.uR HO_9.out) hb)
                 have n2_ := Aside0.mk (blk_below (g := gb206) (o := .cells #[.int .i64 ((rd_T52 l0 t204).f0), .int .i64 ((rd_T52 l0 t204).f1), .int .i64 ((rd_T52 l0 t204).f2), .int .i64 ((rd_T52 l0 t204).f3)] 52 (0, 0)) (S.uB BK206.out) hb)
                 have n3_ := Aside0.mk (below_step S.bG hb)
                 clear HO_8
                 clear HO_9
                 clear BK206
                 clear HB
                 have HO_8 := n0_
                 have HO_9 := n1_
                 have BK206 := n2_
                 have HB := n3_
                 clear n0_ n1_ n2_ n3_
                 (try clear hb)
                 (try clear hb2)
                 (try clear hk)
                 (try clear hi)
                 refine hK.out _ _ ⟨(blk_cell BK206.out 0).trans rfl, (blk_cell BK206.out 1).trans rfl, (blk_cell BK206.out 2).trans rfl, (blk_cell BK206.out 3).trans rfl, HS4_, ((HB.out.cell (World.block_lt_of_cell? w _ hw209_0)).trans hw209_0), ((HB.out.cell (World.block_lt_of_cell? w _ hw209_1)).trans hw209_1), ((HB.out.cell (World.block_lt_of_cell? w _ hw209_2)).trans hw209_2), ((HB.out.cell (World.block_lt_of_cell? w _ hw209_3)).trans hw209_3)⟩ (fun hHeld => ?_)
                 clear hK K
                 refine norm_ (a' := ?_) ?_ ?_
                 rotate_left
                 ·show Act.put _ (some 60) _ = _
                  simp only [Act.put, List.setIfInBounds_toArray, List.set_cons_zero, List.set_cons_succ, i64_w, i32_w]
                  rfl
                 refine done_ (done_of HT_.out (by kernel_rfl)) ?_
                 have hcz41_0 : w40.cell? ⟨gb206, 0, none⟩ = some (.int .i64 ((rd_T52 l0 t204).f0)) := (blk_cell BK206.out 0).trans rfl
                 have hcz41_1 : w40.cell? ⟨gb206, 1, none⟩ = some (.int .i64 ((rd_T52 l0 t204).f1)) := (blk_cell BK206.out 1).trans rfl
                 have hcz41_2 : w40.cell? ⟨gb206, 2, none⟩ = some (.int .i64 ((rd_T52 l0 t204).f2)) := (blk_cell BK206.out 2).trans rfl
                 have hcz41_3 : w40.cell? ⟨gb206, 3, none⟩ = some (.int .i64 ((rd_T52 l0 t204).f3)) := (blk_cell BK206.out 3).trans rfl
                 have hfz41_0 := blk_frozen BK206.out 0
                 have hfz41_1 := blk_frozen BK206.out 1
                 have hfz41_2 := blk_frozen BK206.out 2
                 have hfz41_3 := blk_frozen BK206.out 3
                 try go_wp2_with (first | ((with_reducible refine gate_callee (f := 115) rfl ?_); refine S.gL (some 63) Try.func115 #[.agg #[.int .i64 ((rd_T52 l0 t204).f0), .int .i64 ((rd_T52 l0 t204).f1), .int .i64 ((rd_T52 l0 t204).f2), .int .i64 ((rd_T52 l0 t204).f3)]] ?_; (with_reducible refine (spec_ClearOf.calls ((rd_T52 l0 t204).f0) ((rd_T52 l0 t204).f1) ((rd_T52 l0 t204).f2) ((rd_T52 l0 t204).f3) t211 _ A32.out).mono ?_); rintro e w42 ⟨rfl, hb⟩; refine ⟨_, rfl, ?_⟩; have n0_ := Aside0.mk (Kd.R_below (S.uR HO_8.out) hb); have n1_ := Aside0.mk (Kd.R_below (S.uR HO_9.out) hb); have n2_ := Aside0.mk (blk_below (g := gb206) (o := .cells #[.int .i64 ((rd_T52 l0 t204).f0), .int .i64 ((rd_T52 l0 t204).f1), .int .i64 ((rd_T52 l0 t204).f2), .int .i64 ((rd_T52 l0 t204).f3)] 52 (0, 0)) (S.uB BK206.out) hb); have n3_ := Aside0.mk (below_step S.bG hb); clear HO_8; clear HO_9; clear BK206; clear HB; have HO_8 := n0_; have HO_9 := n1_; have BK206 := n2_; have HB := n3_; clear n0_ n1_ n2_ n3_; (try clear hb); (try clear hb2); (try clear hk); (try clear hi)) | ((with_reducible refine gate_callee (f := 114) rfl ?_); refine S.gL (some 64) Try.func114 #[.int .i64 x7_3, .int .i64 t211] ?_; (with_reducible refine (spec_Max.calls x7_3 t211 t212 _ A33.out).mono ?_); rintro e w' ⟨rfl, ⟨nd, rfl⟩⟩; refine ⟨_, rfl, ?_⟩))
                 go_roundg k3
                 case measure => have := HK1.out; have := HJ7.out; have := HK3.out; omega
                 case rel => exact ⟨(t212), (wrap64 (x11_3 + 1)), S.eA, S.eA, H', ⟨by have := HK1.out; have := HJ7.out; have := HK3.out; omega⟩, ⟨S.uR HO_8.out⟩, ⟨S.uR HO_9.out⟩, ⟨S.bG⟩⟩
                ·replace c31 := Bool.eq_false_iff.mpr c31
                 subst c31
                 have H1 : (spec_ClearBetween.l1 k3 l0 l1 l2 x7_3 t195 t198 x10_1 (wrap64 (x11_3 + 1))) = some r := by rw [if_neg (show ¬ (false = true) by decide)] at H; exact H
                 clear H
                 have H := H1
                 clear H1
                 have H' := Aside0.mk H
                 clear H
                 obtain ⟨Ao43, co43, eo43⟩ := Kd.R_slice HO_9.out
                 subst eo43
                 obtain ⟨Ao44, co44, eo44⟩ := Kd.R_slice HO_8.out
                 subst eo44
                 have p203 : 0 ≤ (x10_1 : Int) := S.oD
                 have q203 : x10_1 < (t195.length : Int) := S.oD
                 obtain ⟨ad203, e203, hx203_0⟩ := Kd.at_int (Kd.R_reads' HO_8.out).2.2 x10_1 p203 q203
                 cases e203
                 replace p203 := eq_true p203
                 replace q203 := eq_true q203
                 try go_wp2_with (first | ((with_reducible refine gate_callee (f := 85) rfl ?_); refine S.gL (some 47) Try.func85 #[.slice A0 l0.length c0, .int .i64 (rd t195 x10_1)] ?_; (with_reducible refine (spec_FindPath.calls k3 _ _ l0 (rd t195 x10_1) t204 _ ?side1 ?side2 A23.out).mono ?_); (case side1 => exact S.cA HR0.out); (case side2 => exact HC0.out); rintro e w' ⟨rfl, ⟨nd, rfl⟩⟩; refine ⟨_, rfl, ?_⟩; (try (rw [drewN_self wr]; generalize hq_ : World.drewN wr _ = wr; have n0_ : Aside0 (Kd.R (Kd.int .i64) 3 wr w.heap.size (fun k_ => some k_ ≠ (.slice Ao43 t198.length co43 : Value).ownBlock) (.slice (some ad203) t195.length co44) t195) := ⟨by rw [← hq_]; exact (S.uR HO_8.out)⟩; have n1_ : Aside0 (Kd.R (Kd.int .i64) 3 wr w.heap.size (fun k_ => some k_ ≠ (.slice (some ad203) t195.length co44 : Value).ownBlock) (.slice Ao43 t198.length co43) t198) := ⟨by rw [← hq_]; exact (S.uR HO_9.out)⟩; have n2_ : Aside0 (Below w.heap.size w wr) := ⟨by rw [← hq_]; exact S.bA⟩; clear HO_8 HO_9 HB hq_; have HO_8 := n0_; have HO_9 := n1_; have HB := n2_; clear n0_ n1_ n2_)); have p205 : 0 ≤ (t204 : Int) := S.oD; have q205 : t204 < (l0.length : Int) := S.oD; obtain ⟨ad205, e205, hx205_0, hx205_1, hx205_2, hx205_3⟩ := at_T52 HR0.out t204 p205 q205; cases e205; replace hx205_0 := (HB.out.cell (World.block_lt_of_cell? w _ hx205_0)).trans hx205_0; replace hx205_1 := (HB.out.cell (World.block_lt_of_cell? w _ hx205_1)).trans hx205_1; replace hx205_2 := (HB.out.cell (World.block_lt_of_cell? w _ hx205_2)).trans hx205_2; replace hx205_3 := (HB.out.cell (World.block_lt_of_cell? w _ hx205_3)).trans hx205_3; replace p205 := eq_true p205; replace q205 := eq_true q205) | ((with_reducible refine gate_dst (N := 12) rfl ?_); refine box_event ?hg (N := 12) ?hd (cs := #[.int .i64 0, .int .i64 0, .int .i64 0, .int .i64 0]) (t := 52) ?hr ?_; (case hd => rfl); (case hg => rfl); (case hr => first | (go_simp; done) | (go_simp; rfl)); intro gb206 hg w45 hbox hb; have n0_ := Aside0.mk (Kd.R_below (S.uR HO_8.out) hb); have n1_ := Aside0.mk (Kd.R_below (S.uR HO_9.out) hb); have n2_ := Aside0.mk (below_step S.bA hb); have n3_ := Aside0.mk (hbox); have n4_ := Aside0.mk ((by rw [hg]; exact (below_size S.bA) : w.heap.size ≤ gb206)); have n5_ := Aside0.mk ((by rw [hg]; exact (below_size S.bA) : w.heap.size ≤ gb206)); clear HO_8; clear HO_9; clear HB; have HO_8 := n0_; have HO_9 := n1_; have HB := n2_; have BK206 := n3_; have GW206 := n4_; have GE206 := n5_; clear n0_ n1_ n2_ n3_ n4_ n5_; clear hb hbox hg; have hcz46_0 : w45.cell? ⟨gb206, 0, none⟩ = some (.int .i64 0) := (blk_cell BK206.out 0).trans rfl; have hcz46_1 : w45.cell? ⟨gb206, 1, none⟩ = some (.int .i64 0) := (blk_cell BK206.out 1).trans rfl; have hcz46_2 : w45.cell? ⟨gb206, 2, none⟩ = some (.int .i64 0) := (blk_cell BK206.out 2).trans rfl; have hcz46_3 : w45.cell? ⟨gb206, 3, none⟩ = some (.int .i64 0) := (blk_cell BK206.out 3).trans rfl; have hfz46_0 := blk_frozen BK206.out 0; have hfz46_1 := blk_frozen BK206.out 1; have hfz46_2 := blk_frozen BK206.out 2; have hfz46_3 := blk_frozen BK206.out 3))
                 have n0_ : Aside0 (Kd.R (Kd.int .i64) 3 ((((w45.setCell ⟨gb206, 0, none⟩ (.int .i64 ((rd_T52 l0 t204).f0))).setCell ⟨gb206, 1, none⟩ (.int .i64 ((rd_T52 l0 t204).f1))).setCell ⟨gb206, 2, none⟩ (.int .i64 ((rd_T52 l0 t204).f2))).setCell ⟨gb206, 3, none⟩ (.int .i64 ((rd_T52 l0 t204).f3))) w.heap.size (fun k_ => some k_ ≠ (.slice Ao43 t198.length co43 : Value).ownBlock) (.slice (some ad203) t195.length co44) t195) := ⟨by (with_reducible repeat (first | apply Kd.R_alloc | apply Kd.R_drewN | apply Kd.R_drew)); exact Kd.R_mono (Kd.R_far (p := ⟨gb206, 3, none⟩) (Kd.R_far (p := ⟨gb206, 2, none⟩) (Kd.R_far (p := ⟨gb206, 1, none⟩) (Kd.R_far (p := ⟨gb206, 0, none⟩) (Kd.R_types HO_8.out BK206.out (by decide)) (fun _ hk => hk.2) (.int .i64 ((rd_T52 l0 t204).f0))) (fun _ hk => hk.2) (.int .i64 ((rd_T52 l0 t204).f1))) (fun _ hk => hk.2) (.int .i64 ((rd_T52 l0 t204).f2))) (fun _ hk => hk.2) (.int .i64 ((rd_T52 l0 t204).f3))) (fun _ hk => hk.1)⟩
                 have n1_ : Aside0 (Kd.R (Kd.int .i64) 3 ((((w45.setCell ⟨gb206, 0, none⟩ (.int .i64 ((rd_T52 l0 t204).f0))).setCell ⟨gb206, 1, none⟩ (.int .i64 ((rd_T52 l0 t204).f1))).setCell ⟨gb206, 2, none⟩ (.int .i64 ((rd_T52 l0 t204).f2))).setCell ⟨gb206, 3, none⟩ (.int .i64 ((rd_T52 l0 t204).f3))) w.heap.size (fun k_ => some k_ ≠ (.slice (some ad203) t195.length co44 : Value).ownBlock) (.slice Ao43 t198.length co43) t198) := ⟨by (with_reducible repeat (first | apply Kd.R_alloc | apply Kd.R_drewN | apply Kd.R_drew)); exact Kd.R_mono (Kd.R_far (p := ⟨gb206, 3, none⟩) (Kd.R_far (p := ⟨gb206, 2, none⟩) (Kd.R_far (p := ⟨gb206, 1, none⟩) (Kd.R_far (p := ⟨gb206, 0, none⟩) (Kd.R_types HO_9.out BK206.out (by decide)) (fun _ hk => hk.2) (.int .i64 ((rd_T52 l0 t204).f0))) (fun _ hk => hk.2) (.int .i64 ((rd_T52 l0 t204).f1))) (fun _ hk => hk.2) (.int .i64 ((rd_T52 l0 t204).f2))) (fun _ hk => hk.2) (.int .i64 ((rd_T52 l0 t204).f3))) (fun _ hk => hk.1)⟩
                 have n2_ : Aside0 (((((w45.setCell ⟨gb206, 0, none⟩ (.int .i64 ((rd_T52 l0 t204).f0))).setCell ⟨gb206, 1, none⟩ (.int .i64 ((rd_T52 l0 t204).f1))).setCell ⟨gb206, 2, none⟩ (.int .i64 ((rd_T52 l0 t204).f2))).setCell ⟨gb206, 3, none⟩ (.int .i64 ((rd_T52 l0 t204).f3))).heap[gb206]? = some (.cells #[.int .i64 ((rd_T52 l0 t204).f0), .int .i64 ((rd_T52 l0 t204).f1), .int .i64 ((rd_T52 l0 t204).f2), .int .i64 ((rd_T52 l0 t204).f3)] 52 (0, 0))) := ⟨by (with_reducible repeat (first | refine blk_drewN ?_ _ | refine blk_drew ?_ | refine blk_alloc ?_ _)); refine blk_put (cs := #[.int .i64 ((rd_T52 l0 t204).f0), .int .i64 ((rd_T52 l0 t204).f1), .int .i64 ((rd_T52 l0 t204).f2), .int .i64 0]) ?_ 3 _ rfl; (with_reducible repeat (first | refine blk_drewN ?_ _ | refine blk_drew ?_ | refine blk_alloc ?_ _)); refine blk_put (cs := #[.int .i64 ((rd_T52 l0 t204).f0), .int .i64 ((rd_T52 l0 t204).f1), .int .i64 0, .int .i64 0]) ?_ 2 _ rfl; (with_reducible repeat (first | refine blk_drewN ?_ _ | refine blk_drew ?_ | refine blk_alloc ?_ _)); refine blk_put (cs := #[.int .i64 ((rd_T52 l0 t204).f0), .int .i64 0, .int .i64 0, .int .i64 0]) ?_ 1 _ rfl; (with_reducible repeat (first | refine blk_drewN ?_ _ | refine blk_drew ?_ | refine blk_alloc ?_ _)); refine blk_put (cs := #[.int .i64 0, .int .i64 0, .int .i64 0, .int .i64 0]) ?_ 0 _ rfl; (with_reducible repeat (first | refine blk_drewN ?_ _ | refine blk_drew ?_ | refine blk_alloc ?_ _)); exact BK206.out⟩
                 have n3_ : Aside0 (Below w.heap.size w ((((w45.setCell ⟨gb206, 0, none⟩ (.int .i64 ((rd_T52 l0 t204).f0))).setCell ⟨gb206, 1, none⟩ (.int .i64 ((rd_T52 l0 t204).f1))).setCell ⟨gb206, 2, none⟩ (.int .i64 ((rd_T52 l0 t204).f2))).setCell ⟨gb206, 3, none⟩ (.int .i64 ((rd_T52 l0 t204).f3)))) := ⟨S.bG⟩
                 (try clear HO_8)
                 (try clear HO_9)
                 (try clear BK206)
                 (try clear HB)
                 generalize ((((w45.setCell ⟨gb206, 0, none⟩ (.int .i64 ((rd_T52 l0 t204).f0))).setCell ⟨gb206, 1, none⟩ (.int .i64 ((rd_T52 l0 t204).f1))).setCell ⟨gb206, 2, none⟩ (.int .i64 ((rd_T52 l0 t204).f2))).setCell ⟨gb206, 3, none⟩ (.int .i64 ((rd_T52 l0 t204).f3))) = w47 at n0_ n1_ n2_ n3_ ⊢
                 have HO_8 := n0_
                 have HO_9 := n1_
                 have BK206 := n2_
                 have HB := n3_
                 clear n0_ n1_ n2_ n3_
                 have n0_ := Aside0.mk (Kd.R_drew HO_8.out)
                 have n1_ := Aside0.mk (Kd.R_drew HO_9.out)
                 have n2_ := Aside0.mk (blk_drew BK206.out)
                 have n3_ := Aside0.mk (below_drew1 HB.out)
                 clear HO_8
                 clear HO_9
                 clear BK206
                 clear HB
                 have HO_8 := n0_
                 have HO_9 := n1_
                 have BK206 := n2_
                 have HB := n3_
                 clear n0_ n1_ n2_ n3_
                 have p207 : 0 ≤ (x11_3 : Int) := S.oD
                 have q207 : x11_3 < (t198.length : Int) := S.oD
                 obtain ⟨ad207, e207, hx207_0⟩ := Kd.at_int (Kd.R_reads' HO_9.out).2.2 x11_3 p207 q207
                 cases e207
                 replace p207 := eq_true p207
                 replace q207 := eq_true q207
                 have p209 : 0 ≤ (t208 : Int) := S.oD
                 have q209 : t208 < (l0.length : Int) := S.oD
                 obtain ⟨ad209, e209, hx209_0, hx209_1, hx209_2, hx209_3⟩ := at_T52 HR0.out t208 p209 q209
                 have hw209_3 := hx209_3
                 have hw209_2 := hx209_2
                 have hw209_1 := hx209_1
                 have hw209_0 := hx209_0
                 obtain rfl : ad205 = ad209 := (by injection e209)
                 replace hx209_0 := (HB.out.cell (World.block_lt_of_cell? w _ hx209_0)).trans hx209_0
                 replace hx209_1 := (HB.out.cell (World.block_lt_of_cell? w _ hx209_1)).trans hx209_1
                 replace hx209_2 := (HB.out.cell (World.block_lt_of_cell? w _ hx209_2)).trans hx209_2
                 replace hx209_3 := (HB.out.cell (World.block_lt_of_cell? w _ hx209_3)).trans hx209_3
                 replace p209 := eq_true p209
                 replace q209 := eq_true q209
                 refine start_ (n := 11) (S := fun w' => w'.cell? ⟨gb206, 0, none⟩ = some (.int .i64 ((rd_T52 l0 t204).f0)) ∧ w'.cell? ⟨gb206, 1, none⟩ = some (.int .i64 ((rd_T52 l0 t204).f1)) ∧ w'.cell? ⟨gb206, 2, none⟩ = some (.int .i64 ((rd_T52 l0 t204).f2)) ∧ w'.cell? ⟨gb206, 3, none⟩ = some (.int .i64 ((rd_T52 l0 t204).f3)) ∧ w'.cell? (ad207.add (x11_3).toNat) = some (.int .i64 (rd t198 x11_3)) ∧ w'.cell? (ad205.add ((t208).toNat * 4)) = some (.int .i64 ((rd_T52 l0 t208).f0)) ∧ w'.cell? ⟨(ad205.add ((t208).toNat * 4)).block, (ad205.add ((t208).toNat * 4)).off + 1, none⟩ = some (.int .i64 ((rd_T52 l0 t208).f1)) ∧ w'.cell? ⟨(ad205.add ((t208).toNat * 4)).block, (ad205.add ((t208).toNat * 4)).off + 2, none⟩ = some (.int .i64 ((rd_T52 l0 t208).f2)) ∧ w'.cell? ⟨(ad205.add ((t208).toNat * 4)).block, (ad205.add ((t208).toNat * 4)).off + 3, none⟩ = some (.int .i64 ((rd_T52 l0 t208).f3))) (ds := []) #[false, false, false, false, false, false, false, false, false, false, false] (by kernel_rfl) rfl rfl ⟨(blk_cell BK206.out 0).trans rfl, (blk_cell BK206.out 1).trans rfl, (blk_cell BK206.out 2).trans rfl, (blk_cell BK206.out 3).trans rfl, hx207_0, ((HB.out.cell (World.block_lt_of_cell? w _ hw209_0)).trans hw209_0), ((HB.out.cell (World.block_lt_of_cell? w _ hw209_1)).trans hw209_1), ((HB.out.cell (World.block_lt_of_cell? w _ hw209_2)).trans hw209_2), ((HB.out.cell (World.block_lt_of_cell? w _ hw209_3)).trans hw209_3)⟩ (fun hHeld => ?_); refine with_tabW spec_ClearBetween.tab11 spec_ClearBetween.bits11 (fun HT_ HW_ => ?_)
                 generalize w47.drew = w48 at HO_8 HO_9 BK206 HB hx207_0 hx209_0 hx209_1 hx209_2 hx209_3 hHeld ⊢
                 refine S.pS 1 51 ?_
                 refine S.pS 2 52 ?_
                 refine S.pS 3 53 ?_
                 refine S.pS 4 54 ?_
                 refine S.pS 5 55 ?_
                 refine take_ (i := 0) (N := some 50) (v := ?_) (a' := ?_) #[true, true, true, true, true, true, false, false, false, false, false] rfl rfl (take_ofW HT_.out HW_.out (by kernel_rfl)) (fun _ _ _ h => h) (Or.inl ⟨by rfl, ?_⟩) hHeld ?_ ?_
                 rotate_left
                 ·rintro w' ⟨s0, s1, s2, s3, s4, s5, s6, s7, s8⟩
                  go_simp
                  with_reducible rfl
                 rotate_left
                 ·simp only [Act.put, List.setIfInBounds_toArray, List.set_cons_zero, List.set_cons_succ, i64_w, i32_w]
                  rfl
                 refine take_ (i := 6) (N := some 56) (v := ?_) (a' := ?_) #[true, true, true, true, true, true, true, false, false, false, false] rfl rfl (take_ofW HT_.out HW_.out (by kernel_rfl)) (fun _ _ _ h => h) (Or.inl ⟨by rfl, ?_⟩) hHeld ?_ ?_
                 rotate_left
                 ·rintro w' ⟨s0, s1, s2, s3, s4, s5, s6, s7, s8⟩
                  go_simp
                  with_reducible rfl
                 rotate_left
                 ·simp only [Act.put, List.setIfInBounds_toArray, List.set_cons_zero, List.set_cons_succ, i64_w, i32_w]
                  rfl
                 refine one_ (i := 7) (N := some 57) #[true, true, true, true, true, true, true, true, false, false, false] rfl rfl (one_of HT_.out (by kernel_rfl)) (by decide) (fun K hK => ?_)
                 refine goes_ Try.func85 (by kernel_rfl) rfl #[.slice (some ad205) l0.length c0, .int .i64 (rd t198 x11_3)] (by rfl) rfl rfl (by (try simp only [List.map_toArray, List.map_cons, List.map_nil]); first | done | rfl | (simp only [List.length_drop, List.length_take]; rfl)) ?_
                 with_reducible refine (spec_FindPath.calls k3 _ _ l0 (rd t198 x11_3) t208 _ ?side1 ?side2 A27.out).mono ?_
                 (case side1 => exact S.cA HR0.out)
                 (case side2 => exact HC0.out)
                 rintro e w' ⟨rfl, ⟨nd, rfl⟩⟩
                 refine ⟨_, rfl, ?_⟩
                 refine hK.out _ _ ⟨(blk_cell BK206.out 0).trans rfl, (blk_cell BK206.out 1).trans rfl, (blk_cell BK206.out 2).trans rfl, (blk_cell BK206.out 3).trans rfl, hHeld.2.2.2.2.1, ((HB.out.cell (World.block_lt_of_cell? w _ hw209_0)).trans hw209_0), ((HB.out.cell (World.block_lt_of_cell? w _ hw209_1)).trans hw209_1), ((HB.out.cell (World.block_lt_of_cell? w _ hw209_2)).trans hw209_2), ((HB.out.cell (World.block_lt_of_cell? w _ hw209_3)).trans hw209_3)⟩ (fun hHeld => ?_)
                 clear hK K
                 refine norm_ (a' := ?_) ?_ ?_
                 rotate_left
                 ·show Act.put _ (some 57) _ = _
                  simp only [Act.put, List.setIfInBounds_toArray, List.set_cons_zero, List.set_cons_succ, i64_w, i32_w]
                  rfl
                 refine S.pS 8 58 ?_
                 refine take_ (i := 9) (N := some 59) (v := ?_) (a' := ?_) #[true, true, true, true, true, true, true, true, true, true, false] rfl rfl (take_ofW HT_.out HW_.out (by kernel_rfl)) (fun _ _ _ h => h) (Or.inl ⟨by rfl, ?_⟩) hHeld ?_ ?_
                 rotate_left
                 ·rintro w' ⟨s0, s1, s2, s3, s4, s5, s6, s7, s8⟩
                  go_simp
                  with_reducible rfl
                 rotate_left
                 ·simp only [Act.put, List.setIfInBounds_toArray, List.set_cons_zero, List.set_cons_succ, i64_w, i32_w]
                  rfl
                 refine one_ (i := 10) (N := some 60) #[true, true, true, true, true, true, true, true, true, true, true] rfl rfl (one_of HT_.out (by kernel_rfl)) (by decide) (fun K hK => ?_)
                 refine goes_ Try.func113 (by kernel_rfl) rfl #[.agg #[.int .i64 ((rd_T52 l0 t204).f0), .int .i64 ((rd_T52 l0 t204).f1), .int .i64 ((rd_T52 l0 t204).f2), .int .i64 ((rd_T52 l0 t204).f3)], .agg #[.int .i64 ((rd_T52 l0 t208).f0), .int .i64 ((rd_T52 l0 t208).f1), .int .i64 ((rd_T52 l0 t208).f2), .int .i64 ((rd_T52 l0 t208).f3)]] (by rfl) rfl rfl (by (try simp only [List.map_toArray, List.map_cons, List.map_nil]); first | done | rfl | (simp only [List.length_drop, List.length_take]; rfl)) ?_
                 with_reducible refine (spec_Conflict.calls k3 ((rd_T52 l0 t204).f0) ((rd_T52 l0 t204).f1) ((rd_T52 l0 t204).f2) ((rd_T52 l0 t204).f3) ((rd_T52 l0 t208).f0) ((rd_T52 l0 t208).f1) ((rd_T52 l0 t208).f2) ((rd_T52 l0 t208).f3) false _ A30.out).mono ?_
                 rintro e w49 ⟨rfl, hb⟩
                 have HS4_ := (hb.cell (World.block_lt_of_cell? _ _ (hHeld.2.2.2.2.1))).trans (hHeld.2.2.2.2.1)
                 refine ⟨_, rfl, ?_⟩
                 have n0_ := Aside0.mk (Kd.R_below (S.uR HO_8.out) hb)
                 have n1_ := Aside0.mk (Kd.R_below (S.uR HO_9.out) hb)
                 have n2_ := Aside0.mk (blk_below (g := gb206) (o := .cells #[.int .i64 ((rd_T52 l0 t204).f0), .int .i64 ((rd_T52 l0 t204).f1), .int .i64 ((rd_T52 l0 t204).f2), .int .i64 ((rd_T52 l0 t204).f3)] 52 (0, 0)) (S.uB BK206.out) hb)
                 have n3_ := Aside0.mk (below_step S.bG hb)
                 clear HO_8
                 clear HO_9
                 clear BK206
                 clear HB
                 have HO_8 := n0_
                 have HO_9 := n1_
                 have BK206 := n2_
                 have HB := n3_
                 clear n0_ n1_ n2_ n3_
                 (try clear hb)
                 (try clear hb2)
                 (try clear hk)
                 (try clear hi)
                 refine hK.out _ _ ⟨(blk_cell BK206.out 0).trans rfl, (blk_cell BK206.out 1).trans rfl, (blk_cell BK206.out 2).trans rfl, (blk_cell BK206.out 3).trans rfl, HS4_, ((HB.out.cell (World.block_lt_of_cell? w _ hw209_0)).trans hw209_0), ((HB.out.cell (World.block_lt_of_cell? w _ hw209_1)).trans hw209_1), ((HB.out.cell (World.block_lt_of_cell? w _ hw209_2)).trans hw209_2), ((HB.out.cell (World.block_lt_of_cell? w _ hw209_3)).trans hw209_3)⟩ (fun hHeld => ?_)
                 clear hK K
                 refine norm_ (a' := ?_) ?_ ?_
                 rotate_left
                 ·show Act.put _ (some 60) _ = _
                  simp only [Act.put, List.setIfInBounds_toArray, List.set_cons_zero, List.set_cons_succ, i64_w, i32_w]
                  rfl
                 refine done_ (done_of HT_.out (by kernel_rfl)) ?_
                 try go_wp2
                 go_roundg k3
                 case measure => have := HK1.out; have := HJ7.out; have := HK3.out; omega
                 case rel => exact ⟨(x7_3), (wrap64 (x11_3 + 1)), S.eA, S.eA, H', ⟨by have := HK1.out; have := HJ7.out; have := HK3.out; omega⟩, ⟨S.uR HO_8.out⟩, ⟨S.uR HO_9.out⟩, ⟨S.bG⟩⟩
               ·rw [if_neg c29] at H
                exact absurd H (by simp)
              ·rw [if_neg c28] at H
               exact absurd H (by simp)
             ·rw [if_neg c26] at H
              exact absurd H (by simp)
            ·rw [if_neg c25] at H
             exact absurd H (by simp)
           ·rw [if_neg c24] at H
            exact absurd H (by simp)
          ·rw [if_neg c22] at H
           exact absurd H (by simp)
         ·rw [if_neg c21] at H
          exact absurd H (by simp)
        ·rw [if_neg c20] at H
         have c20b0 : decide (x11_3 < (t198.length : Int)) = false := decide_eq_false c20
         clear c20
         have H' := Aside0.mk H
         clear H
         obtain ⟨Ao50, co50, eo50⟩ := Kd.R_slice HO_9.out
         subst eo50
         go_wp2
         go_roundg k3
         case measure => have := HK1.out; have := HJ7.out; have := HK3.out; omega
         case rel => exact ⟨(x7_3), (wrap64 (x10_1 + 1)), S.eA, S.eA, H', ⟨by have := HK1.out; have := HJ7.out; have := HK3.out; omega⟩, ⟨S.uR HO_8.out⟩, ⟨S.uR HO_9.out⟩, ⟨S.bA⟩⟩
     ·replace c19 := Bool.eq_false_iff.mpr c19
      subst c19
      have H1 : (some x7_1) = some r := by rw [if_neg (show ¬ (false = true) by decide)] at H; exact H
      clear H
      have H := H1
      clear H1
      obtain rfl := Option.some.inj H
      go_wp2
      go_ret
      exact ⟨S.eW, S.bA⟩

end Go.Proofs.Ytopchlafmfgpnaa.PFnExactPrioWish
