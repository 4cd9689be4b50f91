/- Printed by a program: what the Go functions compute, as plain Lean functions (.f), and the proofs that the machine's calls come to just that (.calls). -/
import Derived.Test.YtjgigmghcfdomaaPFnSwitchedx0
import Derived.Test.YtjgigmghcfdomaaPFnSwitchedx2
import Derived.Test.YtjgigmghcfdomaaPFnSwitchedx3
namespace Go.Proofs.Ytjgigmghcfdomaa.PFnSwitched
open Go.RowKit Go.Proofs.YtjgigmghcfdomaaW.PrintWords Go.Proofs.YtjgigmghcfdomaaW.PrintLast Go.Proofs.YtjgigmghcfdomaaW.PrintMore
attribute [local go_sem] max2_int min2_int max_two min_two max_three min_three max_four min_four   -- for this text's walks alone
set_option linter.unusedVariables false
set_option linter.unusedSimpArgs false
set_option maxHeartbeats 8000000
set_option maxRecDepth 100000
/-! ### impl_LightAt: function 44 -/
def impl_LightAt.f (k : Nat) (l0 : List (S71)) (l1 : List (S85)) (a2 : Int) (a3 : Int) : Option (Int) := (impl_FindPath.f l0 a3).bind fun t222 => (if t222 < 0 then (some 0) else (if 0 ≤ t222 then (if t222 < (l0.length : Int) then ((impl_shown.f k l0 l1 a2 ((rd_T71 l0 t222).f0) ((rd_T71 l0 t222).f1) ((rd_T71 l0 t222).f2) ((rd_T71 l0 t222).f3)).bind fun t224 => (some t224)) else (none)) else (none)))
theorem impl_LightAt.calls (k : Nat) (A0 : Option Addr) (c0 : Nat) (l0 : List (S71)) (A1 : Option Addr) (c1 : Nat) (l1 : List (S85)) (a2 : Int) (a3 : Int) (r : Int) (w : World) (hr0 : Kd.C k71 w A0 l0.length l0) (hc0 : l0.length ≤ c0) (hr1 : Kd.C k85 w A1 l1.length l1) (hc1 : l1.length ≤ c1) (h : impl_LightAt.f k l0 l1 a2 a3 = some r) :
  Calls Try.prog 44 #[.slice A0 l0.length c0, .slice A1 l1.length c1, .int .i64 a2, .int .i64 a3] w fun e w' => e = .returned (.int .i64 r) ∧ Below w.heap.size w w' := by
 have hu71 := Try.underlying71
 have HR0 := Aside0.mk hr0
 have HC0 := Aside0.mk hc0
 clear hr0 hc0
 have HR1 := Aside0.mk hr1
 have HC1 := Aside0.mk hc1
 clear hr1 hc1
 have HB := Aside0.mk (Below.refl w.heap.size w)
 have H : ((impl_FindPath.f l0 a3).bind fun t222 => (if t222 < 0 then (some 0) else (if 0 ≤ t222 then (if t222 < (l0.length : Int) then ((impl_shown.f k l0 l1 a2 ((rd_T71 l0 t222).f0) ((rd_T71 l0 t222).f1) ((rd_T71 l0 t222).f2) ((rd_T71 l0 t222).f3)).bind fun t224 => (some t224)) else (none)) else (none)))) = some r := h
 clear h
 replace H := S.bd H; obtain ⟨t222, A5, H⟩ := H
 (try dsimp only at H)
 replace H := S.dc H; rcases H with ⟨H, c6b0⟩ | ⟨H, c6b0⟩
 ·obtain rfl := Option.some.inj H
  go_enter Try.func44, Try.ntmps44
  go_wp2_with (first | ((with_reducible refine gate_callee (f := 83) rfl ?_); refine S.gL (some 12) Try.func83 #[.slice A0 l0.length c0, .int .i64 a3] ?_; (with_reducible refine (impl_FindPath.calls _ _ l0 a3 t222 _ ?s1 HC0.out A5.out).mono ?_); (case s1 => exact S.cD HR0.out); rintro e w7 ⟨rfl, hb⟩; refine ⟨_, rfl, ?_⟩; replace HB := S.sA hb; (try clear hb)))
  go_ret
  exact ⟨S.eW, S.bA⟩
 ·by_cases c8 : 0 ≤ t222
  ·rw [if_pos c8] at H
   have c8b0 : decide (0 ≤ t222) = true := decide_eq_true c8
   clear c8
   by_cases c9 : t222 < (l0.length : Int)
   ·rw [if_pos c9] at H
    have c9b0 : decide (t222 < (l0.length : Int)) = true := decide_eq_true c9
    clear c9
    replace H := S.bd H; obtain ⟨t224, A10, H⟩ := H
    (try dsimp only at H)
    obtain rfl := Option.some.inj H
    go_enter Try.func44, Try.ntmps44
    go_wp2_with (first | ((with_reducible refine gate_callee (f := 83) rfl ?_); refine S.gL (some 12) Try.func83 #[.slice A0 l0.length c0, .int .i64 a3] ?_; (with_reducible refine (impl_FindPath.calls _ _ l0 a3 t222 _ ?s1 HC0.out A5.out).mono ?_); (case s1 => exact S.cD HR0.out); rintro e w11 ⟨rfl, hb⟩; refine ⟨_, rfl, ?_⟩; replace HB := S.sA hb; (try clear hb); have p223 : 0 ≤ (t222 : Int) := S.oD; have q223 : t222 < (l0.length : Int) := S.oD; obtain ⟨ad223, e223, hx223_0, hx223_1, hx223_2, hx223_3⟩ := at_T71 HR0.out t222 p223 q223; cases e223; replace hx223_0 := S.hb HB hx223_0; replace hx223_1 := S.hb HB hx223_1; replace hx223_2 := S.hb HB hx223_2; replace hx223_3 := S.hb HB hx223_3; replace p223 := eq_true p223; replace q223 := eq_true q223) | ((with_reducible refine gate_callee (f := 84) rfl ?_); refine S.gL (some 22) Try.func84 #[.slice (some ad223) l0.length c0, .slice A1 l1.length c1, .int .i64 a2, .agg #[.int .i64 ((rd_T71 l0 t222).f0), .int .i64 ((rd_T71 l0 t222).f1), .int .i64 ((rd_T71 l0 t222).f2), .int .i64 ((rd_T71 l0 t222).f3)]] ?_; (with_reducible refine (impl_shown.calls k _ _ l0 _ _ l1 a2 ((rd_T71 l0 t222).f0) ((rd_T71 l0 t222).f1) ((rd_T71 l0 t222).f2) ((rd_T71 l0 t222).f3) t224 _ ?s1 HC0.out ?s3 HC1.out A10.out).mono ?_); (case s1 => exact S.cA HR0.out); (case s3 => exact S.cA HR1.out); rintro e w12 ⟨rfl, hb⟩; refine ⟨_, rfl, ?_⟩; replace HB := S.sA hb; (try clear hb)))
    go_ret
    exact ⟨S.eW, S.bA⟩
   ·rw [if_neg c9] at H
    exact absurd H (by simp)
  ·rw [if_neg c8] at H
   exact absurd H (by simp)

/-! ### impl_LightAfter: function 17 -/
def impl_LightAfter.j0 : Nat → List (S71) → List (S85) → List (S85) → Int → Int → Int → Bool → Option (Int)
 | 0, _, _, _, _, _, _, _ => none
 | k + 1, x0, x1, x2, x3, x4, x5, x13 => if x13 = true then (some 0) else (if x4 < x3 then ((impl_LightAt.f k x0 x1 x4 x5).bind fun t227 => (some t227)) else ((impl_LightAt.f k x0 x2 (wrap64 (x4 - x3)) x5).bind fun t228 => (some t228)))
def impl_LightAfter.f (k : Nat) (l0 : List (S71)) (l1 : List (S85)) (l2 : List (S85)) (a3 : Int) (a4 : Int) (a5 : Int) : Option (Int) := (impl_InRange.f a3 0 200000).bind fun t225 => (if t225 = true then ((impl_InRange.f a4 0 1000000).bind fun t226 => (impl_LightAfter.j0 k l0 l1 l2 a3 a4 a5 (!t226))) else (impl_LightAfter.j0 k l0 l1 l2 a3 a4 a5 true))
theorem impl_LightAfter.calls (k : Nat) (A0 : Option Addr) (c0 : Nat) (l0 : List (S71)) (A1 : Option Addr) (c1 : Nat) (l1 : List (S85)) (A2 : Option Addr) (c2 : Nat) (l2 : List (S85)) (a3 : Int) (a4 : Int) (a5 : Int) (r : Int) (w : World) (hr0 : Kd.C k71 w A0 l0.length l0) (hc0 : l0.length ≤ c0) (hr1 : Kd.C k85 w A1 l1.length l1) (hc1 : l1.length ≤ c1) (hr2 : Kd.C k85 w A2 l2.length l2) (hc2 : l2.length ≤ c2) (h : impl_LightAfter.f k l0 l1 l2 a3 a4 a5 = some r) :
  Calls Try.prog 17 #[.slice A0 l0.length c0, .slice A1 l1.length c1, .slice A2 l2.length c2, .int .i64 a3, .int .i64 a4, .int .i64 a5] w fun e w' => e = .returned (.int .i64 r) ∧ Below w.heap.size w w' := by
 have HR0 := Aside0.mk hr0
 have HC0 := Aside0.mk hc0
 clear hr0 hc0
 have HR1 := Aside0.mk hr1
 have HC1 := Aside0.mk hc1
 clear hr1 hc1
 have HR2 := Aside0.mk hr2
 have HC2 := Aside0.mk hc2
 clear hr2 hc2
 have HB := Aside0.mk (Below.refl w.heap.size w)
 have H : ((impl_InRange.f a3 0 200000).bind fun t225 => (if t225 = true then ((impl_InRange.f a4 0 1000000).bind fun t226 => (impl_LightAfter.j0 k l0 l1 l2 a3 a4 a5 (!t226))) else (impl_LightAfter.j0 k l0 l1 l2 a3 a4 a5 true))) = some r := h
 clear h
 have HC7 := Aside0.mk H
 clear H
 go_enter Try.func17, Try.ntmps17
 go_upto_region 1 with (fail)
 go_cut [13] (fun v13 wc => ∃ (kq : Nat) (x13_6 : Bool), v13 = .bool x13_6 ∧ Aside0 (impl_LightAfter.j0 kq l0 l1 l2 a3 a4 a5 x13_6 = some r) ∧ Aside0 (kq ≤ k) ∧ Aside0 (Below w.heap.size w wc))
 case first =>
  have H := HC7.out
  clear HC7
  replace H := S.bd H; obtain ⟨t225, A8, H⟩ := H
  (try dsimp only at H)
  replace H := S.db H; rcases H with ⟨rfl, H⟩ | ⟨rfl, H⟩
  ·replace H := S.bd H; obtain ⟨t226, A10, H⟩ := H
   (try dsimp only at H)
   have H' := Aside0.mk H
   clear H
   go_wp2_with (first | ((with_reducible refine gate_callee (f := 62) rfl ?_); refine S.gL (some 15) Try.func62 #[.int .i64 a3, .int .i64 0, .int .i64 200000] ?_; (with_reducible refine (impl_InRange.calls a3 0 200000 true _ A8.out).mono ?_); rintro e w' ⟨rfl, ⟨nd, rfl⟩⟩; refine ⟨_, rfl, ?_⟩) | (go_at_call 62; (with_reducible refine (impl_InRange.calls a4 0 1000000 t226 _ A10.out).mono ?_); rintro e w' ⟨rfl, ⟨nd, rfl⟩⟩))
   go_meet
   case rel => exact ⟨_, (!t226), S.eA, H', S.le, ⟨S.bA⟩⟩
  ·have H' := Aside0.mk H
   clear H
   go_wp2_with (first | ((with_reducible refine gate_callee (f := 62) rfl ?_); refine S.gL (some 15) Try.func62 #[.int .i64 a3, .int .i64 0, .int .i64 200000] ?_; (with_reducible refine (impl_InRange.calls a3 0 200000 false _ A8.out).mono ?_); rintro e w' ⟨rfl, ⟨nd, rfl⟩⟩; refine ⟨_, rfl, ?_⟩))
   go_meet
   case rel => exact ⟨_, (true), S.eA, H', S.le, ⟨S.bA⟩⟩
 case rest =>
  clear HC7
  try clear c1
  try clear c2
  obtain ⟨kq, x13_6, rfl, HA, HJ6, HB⟩ := hcut
  cases kq with
  | zero => exact absurd HA.out (by simp [impl_LightAfter.j0])
  | succ kj6 =>
   have H := HA.out
   clear HA
   simp only [impl_LightAfter.j0] at H
   replace H := S.db H; rcases H with ⟨rfl, H⟩ | ⟨rfl, H⟩
   ·obtain rfl := Option.some.inj H
    go_wp2
    go_ret
    exact ⟨S.eW, S.bA⟩
   ·replace H := S.dc H; rcases H with ⟨H, c12b0⟩ | ⟨H, c12b0⟩
    ·replace H := Option.bind_eq_some_iff.mp H
     obtain ⟨t227, A130, H⟩ := H
     replace H : (some t227) = some r := H
     have A13 := Aside0.mk A130
     clear A130
     obtain rfl := Option.some.inj H
     go_wp2_with (first | ((with_reducible refine gate_callee (f := 44) rfl ?_); refine S.gL (some 30) Try.func44 #[.slice A0 l0.length c0, .slice A1 l1.length c1, .int .i64 a4, .int .i64 a5] ?_; (with_reducible refine (impl_LightAt.calls kj6 _ _ l0 _ _ l1 a4 a5 t227 _ ?s1 HC0.out ?s3 HC1.out A13.out).mono ?_); (case s1 => exact S.cA HR0.out); (case s3 => exact S.cA HR1.out); rintro e w14 ⟨rfl, hb⟩; refine ⟨_, rfl, ?_⟩; replace HB := S.sA hb; (try clear hb)))
     go_ret
     exact ⟨S.eW, S.bA⟩
    ·replace H := Option.bind_eq_some_iff.mp H
     obtain ⟨t228, A150, H⟩ := H
     replace H : (some t228) = some r := H
     have A15 := Aside0.mk A150
     clear A150
     obtain rfl := Option.some.inj H
     go_wp2_with (first | ((with_reducible refine gate_callee (f := 44) rfl ?_); refine S.gL (some 37) Try.func44 #[.slice A0 l0.length c0, .slice A2 l2.length c2, .int .i64 (wrap64 (a4 - a3)), .int .i64 a5] ?_; (with_reducible refine (impl_LightAt.calls kj6 _ _ l0 _ _ l2 (wrap64 (a4 - a3)) a5 t228 _ ?s1 HC0.out ?s3 HC2.out A15.out).mono ?_); (case s1 => exact S.cA HR0.out); (case s3 => exact S.cA HR2.out); rintro e w16 ⟨rfl, hb⟩; refine ⟨_, rfl, ?_⟩; replace HB := S.sA hb; (try clear hb)))
     go_ret
     exact ⟨S.eW, S.bA⟩

/-! ### impl_StartOf: function 70 -/
mutual
def impl_StartOf.j0 : Nat → List (S71) → List (S85) → Int → Bool → Option (Int)
 | 0, _, _, _, _ => none
 | k + 1, x0, x1, x2, x22 => if x22 = true then (some (-1)) else (impl_StartOf.l0 k x0 x1 0 x2 0)
def impl_StartOf.l0 : Nat → List (S71) → List (S85) → Int → Int → Int → Option (Int)
 | 0, _, _, _, _, _ => none
 | k + 1, x0, x1, x7, x23, x24 => if x24 < x23 then ((impl_longOf.f k x0 x1 x24).bind fun t230 => (impl_StartOf.l0 k x0 x1 (wrap64 (x7 + t230)) x23 (wrap64 (x24 + 1)))) else (some x7)
end
def impl_StartOf.f (k : Nat) (l0 : List (S71)) (l1 : List (S85)) (a2 : Int) : Option (Int) := (impl_IsPlan.f k l0 l1).bind fun t229 => (if t229 = true then (if a2 < 0 then (impl_StartOf.j0 k l0 l1 a2 true) else (impl_StartOf.j0 k l0 l1 a2 (decide (a2 ≥ (l1.length : Int))))) else (impl_StartOf.j0 k l0 l1 a2 true))
theorem impl_StartOf.calls (k : Nat) (A0 : Option Addr) (c0 : Nat) (l0 : List (S71)) (A1 : Option Addr) (c1 : Nat) (l1 : List (S85)) (a2 : Int) (r : Int) (w : World) (hr0 : Kd.C k71 w A0 l0.length l0) (hc0 : l0.length ≤ c0) (hr1 : Kd.C k85 w A1 l1.length l1) (hc1 : l1.length ≤ c1) (h : impl_StartOf.f k l0 l1 a2 = some r) :
  Calls Try.prog 70 #[.slice A0 l0.length c0, .slice A1 l1.length c1, .int .i64 a2] w fun e w' => e = .returned (.int .i64 r) ∧ Below w.heap.size w w' := by
 have HR0 := Aside0.mk hr0
 have HC0 := Aside0.mk hc0
 clear hr0 hc0
 have HR1 := Aside0.mk hr1
 have HC1 := Aside0.mk hc1
 clear hr1 hc1
 have HB := Aside0.mk (Below.refl w.heap.size w)
 have H : ((impl_IsPlan.f k l0 l1).bind fun t229 => (if t229 = true then (if a2 < 0 then (impl_StartOf.j0 k l0 l1 a2 true) else (impl_StartOf.j0 k l0 l1 a2 (decide (a2 ≥ (l1.length : Int))))) else (impl_StartOf.j0 k l0 l1 a2 true))) = some r := h
 clear h
 have HC4 := Aside0.mk H
 clear H
 go_enter Try.func70, Try.ntmps70
 go_upto_region 1 with (fail)
 go_cut [22] (fun v22 wc => ∃ (kq : Nat) (x22_3 : Bool), v22 = .bool x22_3 ∧ Aside0 (impl_StartOf.j0 kq l0 l1 a2 x22_3 = some r) ∧ Aside0 (kq ≤ k) ∧ Aside0 (Below w.heap.size w wc))
 case first =>
  have H := HC4.out
  clear HC4
  replace H := S.bd H; obtain ⟨t229, A5, H⟩ := H
  (try dsimp only at H)
  replace H := S.db H; rcases H with ⟨rfl, H⟩ | ⟨rfl, H⟩
  ·replace H := S.dc H; rcases H with ⟨H, c7b0⟩ | ⟨H, c7b0⟩
   ·(first | rw [c7b0] | (simp only [i64_w, i32_w]; rw [c7b0]) | skip)
    have H' := Aside0.mk H
    clear H
    go_wp2_with (first | ((with_reducible refine gate_callee (f := 68) rfl ?_); refine S.gL (some 11) Try.func68 #[.slice A0 l0.length c0, .slice A1 l1.length c1] ?_; (with_reducible refine (impl_IsPlan.calls k _ _ l0 (fun k_ => k_ < w.heap.size) _ _ l1 true _ ?s1 HC0.out ?s3 A5.out).mono ?_); (case s1 => exact S.cA HR0.out); (case s3 => exact Kd.V_mk HC1.out (Kd.F_below (Kd.C_F k85_heap HR1.out) S.bA)); rintro e w8 ⟨rfl, hb⟩; refine ⟨_, rfl, ?_⟩; replace HB := S.sA hb; (try clear hb)))
    go_meet
    case rel => exact ⟨_, (true), S.eA, H', S.le, ⟨S.bA⟩⟩
   ·(first | rw [c7b0] | (simp only [i64_w, i32_w]; rw [c7b0]) | skip)
    have H' := Aside0.mk H
    clear H
    go_wp2_with (first | ((with_reducible refine gate_callee (f := 68) rfl ?_); refine S.gL (some 11) Try.func68 #[.slice A0 l0.length c0, .slice A1 l1.length c1] ?_; (with_reducible refine (impl_IsPlan.calls k _ _ l0 (fun k_ => k_ < w.heap.size) _ _ l1 true _ ?s1 HC0.out ?s3 A5.out).mono ?_); (case s1 => exact S.cA HR0.out); (case s3 => exact Kd.V_mk HC1.out (Kd.F_below (Kd.C_F k85_heap HR1.out) S.bA)); rintro e w9 ⟨rfl, hb⟩; refine ⟨_, rfl, ?_⟩; replace HB := S.sA hb; (try clear hb)))
    go_meet
    case rel => exact ⟨_, (decide (a2 ≥ (l1.length : Int))), S.eA, H', S.le, ⟨S.bA⟩⟩
  ·have H' := Aside0.mk H
   clear H
   go_wp2_with (first | ((with_reducible refine gate_callee (f := 68) rfl ?_); refine S.gL (some 11) Try.func68 #[.slice A0 l0.length c0, .slice A1 l1.length c1] ?_; (with_reducible refine (impl_IsPlan.calls k _ _ l0 (fun k_ => k_ < w.heap.size) _ _ l1 false _ ?s1 HC0.out ?s3 A5.out).mono ?_); (case s1 => exact S.cA HR0.out); (case s3 => exact Kd.V_mk HC1.out (Kd.F_below (Kd.C_F k85_heap HR1.out) S.bA)); rintro e w10 ⟨rfl, hb⟩; refine ⟨_, rfl, ?_⟩; replace HB := S.sA hb; (try clear hb)))
   go_meet
   case rel => exact ⟨_, (true), S.eA, H', S.le, ⟨S.bA⟩⟩
 case rest =>
  clear HC4
  try clear c1
  obtain ⟨kq, x22_3, rfl, HA, HJ3, HB⟩ := hcut
  cases kq with
  | zero => exact absurd HA.out (by simp [impl_StartOf.j0])
  | succ kj3 =>
   have H := HA.out
   clear HA
   simp only [impl_StartOf.j0] at H
   replace H := S.db H; rcases H with ⟨rfl, H⟩ | ⟨rfl, H⟩
   ·obtain rfl := Option.some.inj H
    go_wp2
    go_ret
    exact ⟨S.eW, S.bA⟩
   ·have H' := Aside0.mk H
    clear H
    go_wp2
    go_loopg [7, 24] kj3 (fun kq v7 v24 w' => ∃ (x7_2 : Int) (x24_2 : Int), v7 = .int .i64 x7_2 ∧ v24 = .int .i64 x24_2 ∧ Aside0 (impl_StartOf.l0 kq l0 l1 x7_2 a2 x24_2 = some r) ∧ Aside0 (kq ≤ kj3) ∧ Aside0 (Below w.heap.size w w'))
    case atStart => exact ⟨(0), (0), S.eA, S.eA, H', ⟨Nat.le_refl _⟩, ⟨S.bA⟩⟩
    case round =>
     clear H'
     try clear c1
     try clear c11
     obtain ⟨x7_2, x24_2, rfl, rfl, HA, HK2, HB⟩ := hrel
     cases gk with
     | zero => exact absurd HA.out (by simp [impl_StartOf.l0])
     | succ k2 =>
      have H := HA.out
      clear HA
      simp only [impl_StartOf.l0] at H
      replace H := S.dc H; rcases H with ⟨H, c12b0⟩ | ⟨H, c12b0⟩
      ·replace H := Option.bind_eq_some_iff.mp H
       obtain ⟨t230, A130, H⟩ := H
       replace H : (impl_StartOf.l0 k2 l0 l1 (wrap64 (x7_2 + t230)) a2 (wrap64 (x24_2 + 1))) = some r := H
       have A13 := Aside0.mk A130
       clear A130
       have H' := Aside0.mk H
       clear H
       go_wp2_with (first | ((with_reducible refine gate_callee (f := 81) rfl ?_); refine S.gL (some 31) Try.func81 #[.slice A0 l0.length c0, .slice A1 l1.length c1, .int .i64 x24_2] ?_; (with_reducible refine (impl_longOf.calls k2 _ _ l0 _ _ l1 x24_2 t230 _ ?s1 HC0.out ?s3 HC1.out A13.out).mono ?_); (case s1 => exact S.cA HR0.out); (case s3 => exact S.cA HR1.out); rintro e w14 ⟨rfl, hb⟩; refine ⟨_, rfl, ?_⟩; replace HB := S.sA hb; (try clear hb)))
       go_roundg k2
       case measure => have := HJ3.out; have := HK2.out; omega
       case rel => exact ⟨(wrap64 (x7_2 + t230)), (wrap64 (x24_2 + 1)), S.eA, S.eA, H', ⟨by have := HJ3.out; have := HK2.out; omega⟩, ⟨S.bA⟩⟩
      ·obtain rfl := Option.some.inj H
       go_wp2
       go_ret
       exact ⟨S.eW, S.bA⟩

/-! ### impl_SwitchSeconds: function 23 -/
mutual
def impl_SwitchSeconds.j0 : Nat → List (S71) → List (S85) → List (S85) → List Int → Bool → Option (List Int)
 | 0, _, _, _, _, _ => none
 | k + 1, x0, x1, x2, x7, x20 => if x20 = true then (some x7) else (impl_SwitchSeconds.l0 k x0 x1 x2 x7 x1 (x1.length : Int) 0)
def impl_SwitchSeconds.l0 : Nat → List (S71) → List (S85) → List (S85) → List Int → List (S85) → Int → Int → Option (List Int)
 | 0, _, _, _, _, _, _, _ => none
 | k + 1, x0, x1, x2, x7, x22, x23, x24 => if x24 < x23 then (if 0 ≤ x24 then (if x24 < (x22.length : Int) then (if 0 < (x2.length : Int) then ((slices_Equal_int_int.f k ((rd_T85 x22 x24).f0) ((rd_T85 x2 0).f0)).bind fun t239 => (if t239 = true then ((impl_StartOf.f k x0 x1 x24).bind fun t240 => (if x7.length < 17592186044416 then (impl_SwitchSeconds.l0 k x0 x1 x2 (x7 ++ [t240]) x22 x23 (wrap64 (x24 + 1))) else (none))) else (impl_SwitchSeconds.l0 k x0 x1 x2 x7 x22 x23 (wrap64 (x24 + 1))))) else (none)) else (none)) else (none)) else (some x7)
end
def impl_SwitchSeconds.f (k : Nat) (l0 : List (S71)) (l1 : List (S85)) (l2 : List (S85)) : Option (List Int) := (some (([] : List Int) : List Int)).bind fun y231 => ((impl_IsPlan.f k l0 l1).bind fun t234 => (if t234 = true then ((impl_IsPlan.f k l0 l2).bind fun t235 => (impl_SwitchSeconds.j0 k l0 l1 l2 y231 (!t235))) else (impl_SwitchSeconds.j0 k l0 l1 l2 y231 true)))
theorem impl_SwitchSeconds.calls (k : Nat) (A0 : Option Addr) (c0 : Nat) (l0 : List (S71)) (A1 : Option Addr) (c1 : Nat) (l1 : List (S85)) (A2 : Option Addr) (c2 : Nat) (l2 : List (S85)) (r : List Int) (w : World) (hr0 : Kd.C k71 w A0 l0.length l0) (hc0 : l0.length ≤ c0) (hr1 : Kd.C k85 w A1 l1.length l1) (hc1 : l1.length ≤ c1) (hr2 : Kd.C k85 w A2 l2.length l2) (hc2 : l2.length ≤ c2) (h : impl_SwitchSeconds.f k l0 l1 l2 = some r) :
  Calls Try.prog 23 #[.slice A0 l0.length c0, .slice A1 l1.length c1, .slice A2 l2.length c2] w fun e w' => ∃ v0_ : Value, e = .returned (v0_) ∧ Kd.R (Kd.int .i64) 3 w' w.heap.size (fun _ => True) v0_ r ∧ Below w.heap.size w w' := by
 have hu85 := Try.underlying85
 have HR0 := Aside0.mk hr0
 have HC0 := Aside0.mk hc0
 clear hr0 hc0
 have HR1 := Aside0.mk hr1
 have HC1 := Aside0.mk hc1
 clear hr1 hc1
 have HR2 := Aside0.mk hr2
 have HC2 := Aside0.mk hc2
 clear hr2 hc2
 have HB := Aside0.mk (Below.refl w.heap.size w)
 have H : ((some (([] : List Int) : List Int)).bind fun y231 => ((impl_IsPlan.f k l0 l1).bind fun t234 => (if t234 = true then ((impl_IsPlan.f k l0 l2).bind fun t235 => (impl_SwitchSeconds.j0 k l0 l1 l2 y231 (!t235))) else (impl_SwitchSeconds.j0 k l0 l1 l2 y231 true)))) = some r := h
 clear h
 obtain ⟨y231, hy231⟩ : ∃ y_ : List Int, y_ = (([] : List Int)) := ⟨_, rfl⟩
 have hY_ := hy231; replace H : ((impl_IsPlan.f k l0 l1).bind fun t234 => (if t234 = true then ((impl_IsPlan.f k l0 l2).bind fun t235 => (impl_SwitchSeconds.j0 k l0 l1 l2 y231 (!t235))) else (impl_SwitchSeconds.j0 k l0 l1 l2 y231 true))) = some r := S.rh; clear hY_
 have Ny231 := Aside0.mk hy231
 clear hy231
 have HC4 := Aside0.mk H
 clear H
 go_enter Try.func23, Try.ntmps23
 go_upto_region 2 with (first | ((with_reducible refine gate_dst (N := 10) rfl ?_); refine Kd.R_lit (Kd.int .i64) _ 3 ?hg (N := 10) ?hd (xs := ([] : List Int)) (inner := []) (ok := fun _ => True) (okp := fun _ => True) ?hr ?hp (fun _ hk => hk) trivial (Below.refl _ _) (Nat.le_refl _) (by simp) ?_; (case hd => rfl); (case hg => rfl); (case hr => first | (go_simp; done) | (go_simp; rfl)); (case hp => exact (Reps.none _ _)); intro v232 w5 ho6 hb hg_ hnew_; clear hg_ hnew_; (first | rw [← Ny231.out] at ho6 | (simp only [Int.reduceToNat] at ho6; rw [← Ny231.out] at ho6)); have HO233 := S.lwA ho6; replace HB := S.sA hb; clear hb ho6))
 repeat (go_quiet (first | ((with_reducible refine gate_dst (N := 10) rfl ?_); refine Kd.R_lit (Kd.int .i64) _ 3 ?hg (N := 10) ?hd (xs := ([] : List Int)) (inner := []) (ok := fun _ => True) (okp := fun _ => True) ?hr ?hp (fun _ hk => hk) trivial (Below.refl _ _) (Nat.le_refl _) (by simp) ?_; (case hd => rfl); (case hg => rfl); (case hr => first | (go_simp; done) | (go_simp; rfl)); (case hp => exact (Reps.none _ _)); intro v232 w5 ho6 hb hg_ hnew_; clear hg_ hnew_; (first | rw [← Ny231.out] at ho6 | (simp only [Int.reduceToNat] at ho6; rw [← Ny231.out] at ho6)); have HO233 := S.lwA ho6; replace HB := S.sA hb; clear hb ho6)); go_upto_region 2 with (first | ((with_reducible refine gate_dst (N := 10) rfl ?_); refine Kd.R_lit (Kd.int .i64) _ 3 ?hg (N := 10) ?hd (xs := ([] : List Int)) (inner := []) (ok := fun _ => True) (okp := fun _ => True) ?hr ?hp (fun _ hk => hk) trivial (Below.refl _ _) (Nat.le_refl _) (by simp) ?_; (case hd => rfl); (case hg => rfl); (case hr => first | (go_simp; done) | (go_simp; rfl)); (case hp => exact (Reps.none _ _)); intro v232 w5 ho6 hb hg_ hnew_; clear hg_ hnew_; (first | rw [← Ny231.out] at ho6 | (simp only [Int.reduceToNat] at ho6; rw [← Ny231.out] at ho6)); have n0_ := S.lwA ho6; have n1_ := S.sA hb; clear HB; have HO233 := n0_; have HB := n1_; clear n0_ n1_; clear hb ho6)))
 (try simp only [Act.put, List.setIfInBounds_toArray, List.set_cons_zero, List.set_cons_succ])
 go_cut [20] (fun v20 wc => ∃ (kq : Nat) (x20_3 : Bool), v20 = .bool x20_3 ∧ Aside0 (impl_SwitchSeconds.j0 kq l0 l1 l2 y231 x20_3 = some r) ∧ Aside0 (kq ≤ k) ∧ Aside0 (Kd.R (Kd.int .i64) 3 wc w.heap.size (fun _ => True) v232 y231) ∧ Aside0 (Below w.heap.size w wc))
 case first =>
  have H := HC4.out
  clear HC4
  replace H := S.bd H; obtain ⟨t234, A7, H⟩ := H
  (try dsimp only at H)
  replace H := S.db H; rcases H with ⟨rfl, H⟩ | ⟨rfl, H⟩
  ·replace H := S.bd H; obtain ⟨t235, A9, H⟩ := H
   (try dsimp only at H)
   have H' := Aside0.mk H
   clear H
   go_wp2_with (first | (go_at_call 68; (with_reducible refine (impl_IsPlan.calls k _ _ l0 (fun k_ => k_ < w.heap.size) _ _ l1 true _ ?s1 HC0.out ?s3 A7.out).mono ?_); (case s1 => exact S.cA HR0.out); (case s3 => exact Kd.V_mk HC1.out (Kd.F_below (Kd.C_F k85_heap HR1.out) S.bA)); rintro e w10 ⟨rfl, hb⟩; replace HO233 := S.rb HO233 hb; replace HB := S.sA hb; (try clear hb)) | (go_at_call 68; (with_reducible refine (impl_IsPlan.calls k _ _ l0 (fun k_ => k_ < w.heap.size) _ _ l2 t235 _ ?s1 HC0.out ?s3 A9.out).mono ?_); (case s1 => exact S.cA HR0.out); (case s3 => exact Kd.V_mk HC2.out (Kd.F_below (Kd.C_F k85_heap HR2.out) S.bA)); rintro e w11 ⟨rfl, hb⟩; replace HO233 := S.rb HO233 hb; replace HB := S.sA hb; (try clear hb)))
   repeat (go_quiet (first | (go_at_call 68; (with_reducible refine (impl_IsPlan.calls k _ _ l0 (fun k_ => k_ < w.heap.size) _ _ l1 true _ ?s1 HC0.out ?s3 A7.out).mono ?_); (case s1 => exact S.cA HR0.out); (case s3 => exact Kd.V_mk HC1.out (Kd.F_below (Kd.C_F k85_heap HR1.out) S.bA)); rintro e w10 ⟨rfl, hb⟩; replace HO233 := S.rb HO233 hb; replace HB := S.sA hb; (try clear hb)) | (go_at_call 68; (with_reducible refine (impl_IsPlan.calls k _ _ l0 (fun k_ => k_ < w.heap.size) _ _ l2 t235 _ ?s1 HC0.out ?s3 A9.out).mono ?_); (case s1 => exact S.cA HR0.out); (case s3 => exact Kd.V_mk HC2.out (Kd.F_below (Kd.C_F k85_heap HR2.out) S.bA)); rintro e w11 ⟨rfl, hb⟩; replace HO233 := S.rb HO233 hb; replace HB := S.sA hb; (try clear hb))); try go_wp2_with (first | (go_at_call 68; (with_reducible refine (impl_IsPlan.calls k _ _ l0 (fun k_ => k_ < w.heap.size) _ _ l1 true _ ?s1 ?s2 ?s3 A7.out).mono ?_); (case s1 => exact S.cA HR0.out); (case s2 => exact HC0.out); (case s3 => exact Kd.V_mk HC1.out (Kd.F_below (Kd.C_F k85_heap HR1.out) S.bA)); rintro e w10 ⟨rfl, hb⟩; have n0_ := S.rb HO233 hb; have n1_ := S.sA hb; clear HO233; clear HB; have HO233 := n0_; have HB := n1_; clear n0_ n1_; (try clear hb); (try clear hb2); (try clear hk); (try clear hi)) | (go_at_call 68; (with_reducible refine (impl_IsPlan.calls k _ _ l0 (fun k_ => k_ < w.heap.size) _ _ l2 t235 _ ?s1 ?s2 ?s3 A9.out).mono ?_); (case s1 => exact S.cA HR0.out); (case s2 => exact HC0.out); (case s3 => exact Kd.V_mk HC2.out (Kd.F_below (Kd.C_F k85_heap HR2.out) S.bA)); rintro e w11 ⟨rfl, hb⟩; have n0_ := S.rb HO233 hb; have n1_ := S.sA hb; clear HO233; clear HB; have HO233 := n0_; have HB := n1_; clear n0_ n1_; (try clear hb); (try clear hb2); (try clear hk); (try clear hi))))
   go_meet
   case rel => exact ⟨_, (!t235), S.eA, H', S.le, ⟨S.uR HO233.out⟩, ⟨S.bA⟩⟩
  ·have H' := Aside0.mk H
   clear H
   go_wp2_with (first | (go_at_call 68; (with_reducible refine (impl_IsPlan.calls k _ _ l0 (fun k_ => k_ < w.heap.size) _ _ l1 false _ ?s1 HC0.out ?s3 A7.out).mono ?_); (case s1 => exact S.cA HR0.out); (case s3 => exact Kd.V_mk HC1.out (Kd.F_below (Kd.C_F k85_heap HR1.out) S.bA)); rintro e w12 ⟨rfl, hb⟩; replace HO233 := S.rb HO233 hb; replace HB := S.sA hb; (try clear hb)))
   repeat (go_quiet (first | (go_at_call 68; (with_reducible refine (impl_IsPlan.calls k _ _ l0 (fun k_ => k_ < w.heap.size) _ _ l1 false _ ?s1 HC0.out ?s3 A7.out).mono ?_); (case s1 => exact S.cA HR0.out); (case s3 => exact Kd.V_mk HC1.out (Kd.F_below (Kd.C_F k85_heap HR1.out) S.bA)); rintro e w12 ⟨rfl, hb⟩; replace HO233 := S.rb HO233 hb; replace HB := S.sA hb; (try clear hb))); try go_wp2_with (first | (go_at_call 68; (with_reducible refine (impl_IsPlan.calls k _ _ l0 (fun k_ => k_ < w.heap.size) _ _ l1 false _ ?s1 HC0.out ?s3 A7.out).mono ?_); (case s1 => exact S.cA HR0.out); (case s3 => exact Kd.V_mk HC1.out (Kd.F_below (Kd.C_F k85_heap HR1.out) S.bA)); rintro e w12 ⟨rfl, hb⟩; have n0_ := S.rb HO233 hb; have n1_ := S.sA hb; clear HO233; clear HB; have HO233 := n0_; have HB := n1_; clear n0_ n1_; (try clear hb); (try clear hb2); (try clear hk); (try clear hi))))
   go_meet
   case rel => exact ⟨_, (true), S.eA, H', S.le, ⟨S.uR HO233.out⟩, ⟨S.bA⟩⟩
 case rest =>
  clear HC4
  try clear c1
  try clear c2
  obtain ⟨kq, x20_3, rfl, HA, HJ3, HO_7, HB⟩ := hcut
  cases kq with
  | zero => exact absurd HA.out (by simp [impl_SwitchSeconds.j0])
  | succ kj3 =>
   have H := HA.out
   clear HA
   simp only [impl_SwitchSeconds.j0] at H
   replace H := S.db H; rcases H with ⟨rfl, H⟩ | ⟨rfl, H⟩
   ·obtain rfl := Option.some.inj H
    go_wp2
    repeat (go_quiet (fail); try go_wp2)
    go_ret
    exact ⟨_, S.eW, S.uR HO_7.out, S.bA⟩
   ·have H' := Aside0.mk H
    clear H
    go_wp2
    repeat (go_quiet (fail); try go_wp2)
    go_loopg [7, 24] kj3 (fun kq v7 v24 w' => ∃ (x7_2 : List Int) (x24_2 : Int), v24 = .int .i64 x24_2 ∧ Aside0 (impl_SwitchSeconds.l0 kq l0 l1 l2 x7_2 l1 (l1.length : Int) x24_2 = some r) ∧ Aside0 (kq ≤ kj3) ∧ Aside0 (Kd.R (Kd.int .i64) 3 w' w.heap.size (fun _ => True) v7 x7_2) ∧ Aside0 (Below w.heap.size w w'))
    case atStart => exact ⟨(y231), (0), S.eA, H', ⟨Nat.le_refl _⟩, ⟨S.uR HO_7.out⟩, ⟨S.bA⟩⟩
    case round =>
     clear H'
     try clear c1
     try clear c2
     try clear c13
     obtain ⟨x7_2, x24_2, rfl, HA, HK2, HO_7, HB⟩ := hrel
     cases gk with
     | zero => exact absurd HA.out (by simp [impl_SwitchSeconds.l0])
     | succ k2 =>
      have H := HA.out
      clear HA
      simp only [impl_SwitchSeconds.l0] at H
      replace H := S.dc H; rcases H with ⟨H, c14b0⟩ | ⟨H, c14b0⟩
      ·by_cases c15 : 0 ≤ x24_2
       ·rw [if_pos c15] at H
        have c15b0 : decide (0 ≤ x24_2) = true := decide_eq_true c15
        clear c15
        by_cases c16 : x24_2 < (l1.length : Int)
        ·rw [if_pos c16] at H
         have c16b0 : decide (x24_2 < (l1.length : Int)) = true := decide_eq_true c16
         clear c16
         by_cases c17 : 0 < (l2.length : Int)
         ·rw [if_pos c17] at H
          have c17b0 : decide (0 < (l2.length : Int)) = true := decide_eq_true c17
          have c17b1 : decide (0 < l2.length) = true := decide_eq_true (by omega)
          clear c17
          replace H := S.bd H; obtain ⟨t239, A18, H⟩ := H
          (try dsimp only at H)
          replace H := S.db H; rcases H with ⟨rfl, H⟩ | ⟨rfl, H⟩
          ·replace H := S.bd H; obtain ⟨t240, A20, H⟩ := H
           (try dsimp only at H)
           by_cases c21 : x7_2.length < 17592186044416
           ·rw [if_pos c21] at H
            have LMc21 := Aside0.mk c21
            clear c21
            obtain ⟨y241, hy241⟩ : ∃ y_ : List Int, y_ = (x7_2 ++ [t240]) := ⟨_, rfl⟩
            have hY_ := hy241; replace H : (impl_SwitchSeconds.l0 k2 l0 l1 l2 y241 l1 (l1.length : Int) (wrap64 (x24_2 + 1))) = some r := S.rh; clear hY_
            have Ny241 := Aside0.mk hy241
            clear hy241
            have H' := Aside0.mk H
            clear H
            have p236 : 0 ≤ (x24_2 : Int) := S.oD
            have q236 : x24_2 < (l1.length : Int) := S.oD
            obtain ⟨ad236, A236_0, c236_0, e236, hx236_0, hx236_1, hl236_0, hi236_0⟩ := at_T85 HR1.out x24_2 p236 q236
            cases e236
            replace hx236_0 := S.hb HB hx236_0
            replace hx236_1 := S.hb HB hx236_1
            have HR236_0 := Aside0.mk hi236_0
            have HC236_0 := Aside0.mk hl236_0
            clear hi236_0 hl236_0
            replace p236 := eq_true p236
            replace q236 := eq_true q236
            go_wp2_with (first | ((with_reducible refine gate_dst (N := 9) rfl ?_); refine S.bx 9 (cs := #[.slice none 0 0, .int .i64 0]) (t := 85) ?_; intro gb237 hg w22 hbox hb; replace HO_7 := S.rb HO_7 hb; have BK237 := Aside0.mk hbox; have GW237 := S.geA hg; have GE237 := S.geA hg; replace HB := S.sA hb; clear hb hbox hg; obtain ⟨Z23a, Z23b, Y23a, Y23b⟩ := S.c2 BK237.out; have p238 : 0 ≤ (0 : Int) := (by omega); have q238 : 0 < (l2.length : Int) := S.oD; obtain ⟨ad238, A238_0, c238_0, e238, hx238_0, hx238_1, hl238_0, hi238_0⟩ := at_T85 HR2.out 0 p238 q238; cases e238; have qi238 : (0 < l2.length) = True := eq_true (by omega); (try rw [show ((0 : Int)).toNat = 0 from rfl] at hx238_0); (try rw [show 0 * 2 = 0 from rfl] at hx238_0); (try rw [Addr.add_zero'] at hx238_0); (try rw [show ((0 : Int)).toNat = 0 from rfl] at hx238_1); (try rw [show 0 * 2 = 0 from rfl] at hx238_1); (try rw [Addr.add_zero'] at hx238_1); have hn238_0 : ad238.block ≠ gb237 := Nat.ne_of_lt (Nat.lt_of_lt_of_le (by have := World.block_lt_of_cell? _ _ hx238_0; first | rwa [add_block] at this | exact this) GW237.out); have hn238_1 : ad238.block ≠ gb237 := Nat.ne_of_lt (Nat.lt_of_lt_of_le (by have := World.block_lt_of_cell? _ _ hx238_0; first | rwa [add_block] at this | exact this) GW237.out); replace hx238_0 := S.hb HB hx238_0; replace hx238_1 := S.hb HB hx238_1; have HR238_0 := Aside0.mk hi238_0; have HC238_0 := Aside0.mk hl238_0; clear hi238_0 hl238_0; replace hx238_0 := (cell_far (p := ⟨gb237, 0, none⟩) (by first | (rw [add_block]; exact hn238_0) | (show (Addr.add _ _).block ≠ _; rw [add_block]; exact hn238_0) | exact hn238_0) (.slice A236_0 ((rd_T85 l1 x24_2).f0).length c236_0)).trans hx238_0; replace hx238_1 := (cell_far (p := ⟨gb237, 0, none⟩) (by first | (rw [add_block]; exact hn238_0) | (show (Addr.add _ _).block ≠ _; rw [add_block]; exact hn238_0) | exact hn238_0) (.slice A236_0 ((rd_T85 l1 x24_2).f0).length c236_0)).trans hx238_1; replace hx238_0 := (cell_far (p := ⟨gb237, 1, none⟩) (by first | (rw [add_block]; exact hn238_1) | (show (Addr.add _ _).block ≠ _; rw [add_block]; exact hn238_1) | exact hn238_1) (.int .i64 ((rd_T85 l1 x24_2).f1))).trans hx238_0; replace hx238_1 := (cell_far (p := ⟨gb237, 1, none⟩) (by first | (rw [add_block]; exact hn238_1) | (show (Addr.add _ _).block ≠ _; rw [add_block]; exact hn238_1) | exact hn238_1) (.int .i64 ((rd_T85 l1 x24_2).f1))).trans hx238_1; (try have hy238_0 := fun (n_ : Nat) => (show ((((w22.drewN n_).setCell ⟨gb237, 0, none⟩ (.slice A236_0 ((rd_T85 l1 x24_2).f0).length c236_0)).setCell ⟨gb237, 1, none⟩ (.int .i64 ((rd_T85 l1 x24_2).f1)))).cell? _ = some _ from hx238_0)); (try have hy238_1 := fun (n_ : Nat) => (show ((((w22.drewN n_).setCell ⟨gb237, 0, none⟩ (.slice A236_0 ((rd_T85 l1 x24_2).f0).length c236_0)).setCell ⟨gb237, 1, none⟩ (.int .i64 ((rd_T85 l1 x24_2).f1)))).cell? _ = some _ from hx238_1)); clear hn238_0; clear hn238_1; replace p238 := eq_true p238; replace q238 := eq_true q238) | (go_at_call 69; (with_reducible refine (slices_Equal_int_int.calls k2 _ _ ((rd_T85 l1 x24_2).f0) _ _ ((rd_T85 l2 0).f0) true _ ?s1 HC236_0.out ?s3 HC238_0.out A18.out).mono ?_); (case s1 => exact Kd.C_below HR236_0.out S.bG); (case s3 => exact Kd.C_below HR238_0.out S.bG); rintro e w' ⟨rfl, ⟨nd, rfl⟩⟩; (try first | exact ⟨rfl, _, World.drewN_drewN _ _ _⟩ | exact ⟨rfl, _, Eq.trans (World.drewN_drewN _ _ _) (congrArg (World.drewN _) (Nat.add_assoc _ _ _))⟩)) | (go_at_call 70; (with_reducible refine (impl_StartOf.calls k2 _ _ l0 _ _ l1 x24_2 t240 _ ?s1 HC0.out ?s3 HC1.out A20.out).mono ?_); (case s1 => exact Kd.C_below HR0.out S.bG); (case s3 => exact Kd.C_below HR1.out S.bG); rintro e w24 ⟨rfl, hb⟩; replace HO_7 := Aside0.mk (Kd.R_below (S.G2 HO_7 BK237) hb); replace BK237 := S.kp2 BK237 hb; replace HB := S.sG hb; (try clear hb)) | ((with_reducible refine gate_builtin (b := .append) (xs := #[.tmp 36, .tmp 41]) rfl ?_); at_builtin; refine Kd.R_append (Kd.int .i64) (w0 := w) w.heap.size rfl (.tmp 36) (.tmp 41) 36 3 (.int .i64 0) 8 rfl Try.underlying36 info3 rfl (by decide) (by omega) u7 x7_2 t240 [.int .i64 t240] (fun _ => True) (fun _ => False) rfl rfl ?aP (fun _ hk => hk.elim) ?aF ?aO ?aB ?aS ?aL ?_; (case aP => exact rfl); (case aB => exact S.bG); (case aF => exact (fun _ _ => trivial)); (case aO => exact (S.uR HO_7.out)); (case aS => exact (below_size S.bG)); (case aL => have := LMc21.out; omega); intro v242 w25 ho hb hg hat; rw [← Ny241.out] at ho; have n0_ := Aside0.mk (blk_grown (g := gb237) (o := .cells #[.slice A236_0 ((rd_T85 l1 x24_2).f0).length c236_0, .int .i64 ((rd_T85 l1 x24_2).f1)] 85 (0, 0)) (S.uB BK237.out) hg (Kd.R_ne HO_7.out BK237.out (by decide))); have n1_ := Aside0.mk (hb); have n2_ := Aside0.mk (ho); clear BK237; clear HB; clear HO_7; have BK237 := n0_; have HB := n1_; have HO243 := n2_; clear n0_ n1_ n2_; clear ho hb hg hat))
            repeat (go_quiet (first | ((with_reducible refine gate_dst (N := 9) rfl ?_); refine S.bx 9 (cs := #[.slice none 0 0, .int .i64 0]) (t := 85) ?_; intro gb237 hg w22 hbox hb; replace HO_7 := S.rb HO_7 hb; have BK237 := Aside0.mk hbox; have GW237 := S.geA hg; have GE237 := S.geA hg; replace HB := S.sA hb; clear hb hbox hg; obtain ⟨Z23a, Z23b, Y23a, Y23b⟩ := S.c2 BK237.out; have p238 : 0 ≤ (0 : Int) := (by omega); have q238 : 0 < (l2.length : Int) := S.oD; obtain ⟨ad238, A238_0, c238_0, e238, hx238_0, hx238_1, hl238_0, hi238_0⟩ := at_T85 HR2.out 0 p238 q238; cases e238; have qi238 : (0 < l2.length) = True := eq_true (by omega); (try rw [show ((0 : Int)).toNat = 0 from rfl] at hx238_0); (try rw [show 0 * 2 = 0 from rfl] at hx238_0); (try rw [Addr.add_zero'] at hx238_0); (try rw [show ((0 : Int)).toNat = 0 from rfl] at hx238_1); (try rw [show 0 * 2 = 0 from rfl] at hx238_1); (try rw [Addr.add_zero'] at hx238_1); have hn238_0 : ad238.block ≠ gb237 := Nat.ne_of_lt (Nat.lt_of_lt_of_le (by have := World.block_lt_of_cell? _ _ hx238_0; first | rwa [add_block] at this | exact this) GW237.out); have hn238_1 : ad238.block ≠ gb237 := Nat.ne_of_lt (Nat.lt_of_lt_of_le (by have := World.block_lt_of_cell? _ _ hx238_0; first | rwa [add_block] at this | exact this) GW237.out); replace hx238_0 := S.hb HB hx238_0; replace hx238_1 := S.hb HB hx238_1; have HR238_0 := Aside0.mk hi238_0; have HC238_0 := Aside0.mk hl238_0; clear hi238_0 hl238_0; replace hx238_0 := (cell_far (p := ⟨gb237, 0, none⟩) (by first | (rw [add_block]; exact hn238_0) | (show (Addr.add _ _).block ≠ _; rw [add_block]; exact hn238_0) | exact hn238_0) (.slice A236_0 ((rd_T85 l1 x24_2).f0).length c236_0)).trans hx238_0; replace hx238_1 := (cell_far (p := ⟨gb237, 0, none⟩) (by first | (rw [add_block]; exact hn238_0) | (show (Addr.add _ _).block ≠ _; rw [add_block]; exact hn238_0) | exact hn238_0) (.slice A236_0 ((rd_T85 l1 x24_2).f0).length c236_0)).trans hx238_1; replace hx238_0 := (cell_far (p := ⟨gb237, 1, none⟩) (by first | (rw [add_block]; exact hn238_1) | (show (Addr.add _ _).block ≠ _; rw [add_block]; exact hn238_1) | exact hn238_1) (.int .i64 ((rd_T85 l1 x24_2).f1))).trans hx238_0; replace hx238_1 := (cell_far (p := ⟨gb237, 1, none⟩) (by first | (rw [add_block]; exact hn238_1) | (show (Addr.add _ _).block ≠ _; rw [add_block]; exact hn238_1) | exact hn238_1) (.int .i64 ((rd_T85 l1 x24_2).f1))).trans hx238_1; (try have hy238_0 := fun (n_ : Nat) => (show ((((w22.drewN n_).setCell ⟨gb237, 0, none⟩ (.slice A236_0 ((rd_T85 l1 x24_2).f0).length c236_0)).setCell ⟨gb237, 1, none⟩ (.int .i64 ((rd_T85 l1 x24_2).f1)))).cell? _ = some _ from hx238_0)); (try have hy238_1 := fun (n_ : Nat) => (show ((((w22.drewN n_).setCell ⟨gb237, 0, none⟩ (.slice A236_0 ((rd_T85 l1 x24_2).f0).length c236_0)).setCell ⟨gb237, 1, none⟩ (.int .i64 ((rd_T85 l1 x24_2).f1)))).cell? _ = some _ from hx238_1)); clear hn238_0; clear hn238_1; replace p238 := eq_true p238; replace q238 := eq_true q238) | (go_at_call 69; (with_reducible refine (slices_Equal_int_int.calls k2 _ _ ((rd_T85 l1 x24_2).f0) _ _ ((rd_T85 l2 0).f0) true _ ?s1 HC236_0.out ?s3 HC238_0.out A18.out).mono ?_); (case s1 => exact Kd.C_below HR236_0.out S.bG); (case s3 => exact Kd.C_below HR238_0.out S.bG); rintro e w' ⟨rfl, ⟨nd, rfl⟩⟩; (try first | exact ⟨rfl, _, World.drewN_drewN _ _ _⟩ | exact ⟨rfl, _, Eq.trans (World.drewN_drewN _ _ _) (congrArg (World.drewN _) (Nat.add_assoc _ _ _))⟩)) | (go_at_call 70; (with_reducible refine (impl_StartOf.calls k2 _ _ l0 _ _ l1 x24_2 t240 _ ?s1 HC0.out ?s3 HC1.out A20.out).mono ?_); (case s1 => exact Kd.C_below HR0.out S.bG); (case s3 => exact Kd.C_below HR1.out S.bG); rintro e w24 ⟨rfl, hb⟩; replace HO_7 := Aside0.mk (Kd.R_below (S.G2 HO_7 BK237) hb); replace BK237 := S.kp2 BK237 hb; replace HB := S.sG hb; (try clear hb)) | ((with_reducible refine gate_builtin (b := .append) (xs := #[.tmp 36, .tmp 41]) rfl ?_); at_builtin; refine Kd.R_append (Kd.int .i64) (w0 := w) w.heap.size rfl (.tmp 36) (.tmp 41) 36 3 (.int .i64 0) 8 rfl Try.underlying36 info3 rfl (by decide) (by omega) u7 x7_2 t240 [.int .i64 t240] (fun _ => True) (fun _ => False) rfl rfl ?aP (fun _ hk => hk.elim) ?aF ?aO ?aB ?aS ?aL ?_; (case aP => exact rfl); (case aB => exact S.bG); (case aF => exact (fun _ _ => trivial)); (case aO => exact (S.uR HO_7.out)); (case aS => exact (below_size S.bG)); (case aL => have := LMc21.out; omega); intro v242 w25 ho hb hg hat; rw [← Ny241.out] at ho; have n0_ := Aside0.mk (blk_grown (g := gb237) (o := .cells #[.slice A236_0 ((rd_T85 l1 x24_2).f0).length c236_0, .int .i64 ((rd_T85 l1 x24_2).f1)] 85 (0, 0)) (S.uB BK237.out) hg (Kd.R_ne HO_7.out BK237.out (by decide))); have n1_ := Aside0.mk (hb); have n2_ := Aside0.mk (ho); clear BK237; clear HB; clear HO_7; have BK237 := n0_; have HB := n1_; have HO243 := n2_; clear n0_ n1_ n2_; clear ho hb hg hat)); try go_wp2_with (first | ((with_reducible refine gate_dst (N := 9) rfl ?_); refine box_event ?hg (N := 9) ?hd (cs := #[.slice none 0 0, .int .i64 0]) (t := 85) ?hr ?_; (case hd => rfl); (case hg => rfl); (case hr => first | (go_simp; done) | (go_simp; rfl)); intro gb237 hg w22 hbox hb; have n0_ := S.rb HO_7 hb; have n1_ := S.sA hb; have n2_ := Aside0.mk hbox; have n3_ := S.geA hg; have n4_ := S.geA hg; clear HO_7; clear HB; have HO_7 := n0_; have HB := n1_; have BK237 := n2_; have GW237 := n3_; have GE237 := n4_; clear n0_ n1_ n2_ n3_ n4_; clear hb hbox hg; have Z23a : w22.cell? ⟨gb237, 0, none⟩ = some (.slice none 0 0) := (blk_cell BK237.out 0).trans rfl; have Z23b : w22.cell? ⟨gb237, 1, none⟩ = some (.int .i64 0) := (blk_cell BK237.out 1).trans rfl; have Y23a := blk_frozen BK237.out 0; have Y23b := blk_frozen BK237.out 1; have p238 : 0 ≤ (0 : Int) := (by omega); have q238 : 0 < (l2.length : Int) := S.oD; obtain ⟨ad238, A238_0, c238_0, e238, hx238_0, hx238_1, hl238_0, hi238_0⟩ := at_T85 HR2.out 0 p238 q238; cases e238; have qi238 : (0 < l2.length) = True := eq_true (by omega); (try rw [show ((0 : Int)).toNat = 0 from rfl] at hx238_0); (try rw [show 0 * 2 = 0 from rfl] at hx238_0); (try rw [Addr.add_zero'] at hx238_0); (try rw [show ((0 : Int)).toNat = 0 from rfl] at hx238_1); (try rw [show 0 * 2 = 0 from rfl] at hx238_1); (try rw [Addr.add_zero'] at hx238_1); have hn238_0 : ad238.block ≠ gb237 := Nat.ne_of_lt (Nat.lt_of_lt_of_le (by have := World.block_lt_of_cell? _ _ hx238_0; first | rwa [add_block] at this | exact this) GW237.out); have hn238_1 : ad238.block ≠ gb237 := Nat.ne_of_lt (Nat.lt_of_lt_of_le (by have := World.block_lt_of_cell? _ _ hx238_0; first | rwa [add_block] at this | exact this) GW237.out); replace hx238_0 := S.hb HB hx238_0; replace hx238_1 := S.hb HB hx238_1; have HR238_0 := Aside0.mk hi238_0; have HC238_0 := Aside0.mk hl238_0; clear hi238_0 hl238_0; replace hx238_0 := (cell_far (p := ⟨gb237, 0, none⟩) (by first | (rw [add_block]; exact hn238_0) | (show (Addr.add _ _).block ≠ _; rw [add_block]; exact hn238_0) | exact hn238_0) (.slice A236_0 ((rd_T85 l1 x24_2).f0).length c236_0)).trans hx238_0; replace hx238_1 := (cell_far (p := ⟨gb237, 0, none⟩) (by first | (rw [add_block]; exact hn238_0) | (show (Addr.add _ _).block ≠ _; rw [add_block]; exact hn238_0) | exact hn238_0) (.slice A236_0 ((rd_T85 l1 x24_2).f0).length c236_0)).trans hx238_1; replace hx238_0 := (cell_far (p := ⟨gb237, 1, none⟩) (by first | (rw [add_block]; exact hn238_1) | (show (Addr.add _ _).block ≠ _; rw [add_block]; exact hn238_1) | exact hn238_1) (.int .i64 ((rd_T85 l1 x24_2).f1))).trans hx238_0; replace hx238_1 := (cell_far (p := ⟨gb237, 1, none⟩) (by first | (rw [add_block]; exact hn238_1) | (show (Addr.add _ _).block ≠ _; rw [add_block]; exact hn238_1) | exact hn238_1) (.int .i64 ((rd_T85 l1 x24_2).f1))).trans hx238_1; (try have hy238_0 := fun (n_ : Nat) => (show ((((w22.drewN n_).setCell ⟨gb237, 0, none⟩ (.slice A236_0 ((rd_T85 l1 x24_2).f0).length c236_0)).setCell ⟨gb237, 1, none⟩ (.int .i64 ((rd_T85 l1 x24_2).f1)))).cell? _ = some _ from hx238_0)); (try have hy238_1 := fun (n_ : Nat) => (show ((((w22.drewN n_).setCell ⟨gb237, 0, none⟩ (.slice A236_0 ((rd_T85 l1 x24_2).f0).length c236_0)).setCell ⟨gb237, 1, none⟩ (.int .i64 ((rd_T85 l1 x24_2).f1)))).cell? _ = some _ from hx238_1)); clear hn238_0; clear hn238_1; replace p238 := eq_true p238; replace q238 := eq_true q238) | (go_at_call 69; (with_reducible refine (slices_Equal_int_int.calls k2 _ _ ((rd_T85 l1 x24_2).f0) _ _ ((rd_T85 l2 0).f0) true _ ?s1 ?s2 ?s3 ?s4 A18.out).mono ?_); (case s1 => exact Kd.C_below HR236_0.out S.bG); (case s2 => exact HC236_0.out); (case s3 => exact Kd.C_below HR238_0.out S.bG); (case s4 => exact HC238_0.out); rintro e w' ⟨rfl, ⟨nd, rfl⟩⟩; (try first | exact ⟨rfl, _, World.drewN_drewN _ _ _⟩ | exact ⟨rfl, _, Eq.trans (World.drewN_drewN _ _ _) (congrArg (World.drewN _) (Nat.add_assoc _ _ _))⟩)) | (go_at_call 70; (with_reducible refine (impl_StartOf.calls k2 _ _ l0 _ _ l1 x24_2 t240 _ ?s1 ?s2 ?s3 ?s4 A20.out).mono ?_); (case s1 => exact Kd.C_below HR0.out S.bG); (case s2 => exact HC0.out); (case s3 => exact Kd.C_below HR1.out S.bG); (case s4 => exact HC1.out); rintro e w24 ⟨rfl, hb⟩; have n0_ := Aside0.mk (Kd.R_below (S.G2 HO_7 BK237) hb); have n1_ := S.kp2 BK237 hb; have n2_ := S.sG hb; clear HO_7; clear BK237; clear HB; have HO_7 := n0_; have BK237 := n1_; have HB := n2_; clear n0_ n1_ n2_; (try clear hb); (try clear hb2); (try clear hk); (try clear hi)) | ((with_reducible refine gate_builtin (b := .append) (xs := #[.tmp 36, .tmp 41]) rfl ?_); at_builtin; refine Kd.R_append (Kd.int .i64) (w0 := w) w.heap.size rfl (.tmp 36) (.tmp 41) 36 3 (.int .i64 0) 8 rfl Try.underlying36 info3 rfl (by decide) (by omega) u7 x7_2 t240 [.int .i64 t240] (fun _ => True) (fun _ => False) rfl rfl ?aP (fun _ hk => hk.elim) ?aF ?aO ?aB ?aS ?aL ?_; (case aP => exact rfl); (case aB => exact S.bG); (case aF => exact (fun _ _ => trivial)); (case aO => exact (S.uR HO_7.out)); (case aS => exact (below_size S.bG)); (case aL => have := LMc21.out; omega); intro v242 w25 ho hb hg hat; rw [← Ny241.out] at ho; have n0_ := Aside0.mk (blk_grown (g := gb237) (o := .cells #[.slice A236_0 ((rd_T85 l1 x24_2).f0).length c236_0, .int .i64 ((rd_T85 l1 x24_2).f1)] 85 (0, 0)) (S.uB BK237.out) hg (Kd.R_ne HO_7.out BK237.out (by decide))); have n1_ := Aside0.mk (hb); have n2_ := Aside0.mk (ho); clear BK237; clear HB; clear HO_7; have BK237 := n0_; have HB := n1_; have HO243 := n2_; clear n0_ n1_ n2_; clear ho hb hg hat)))
            go_roundg k2
            case measure => have := HJ3.out; have := HK2.out; omega
            case rel => exact ⟨(y241), (wrap64 (x24_2 + 1)), S.eA, H', ⟨by have := HJ3.out; have := HK2.out; omega⟩, ⟨S.uR HO243.out⟩, ⟨S.bG⟩⟩
           ·rw [if_neg c21] at H
            exact absurd H (by simp)
          ·have H' := Aside0.mk H
           clear H
           have p236 : 0 ≤ (x24_2 : Int) := S.oD
           have q236 : x24_2 < (l1.length : Int) := S.oD
           obtain ⟨ad236, A236_0, c236_0, e236, hx236_0, hx236_1, hl236_0, hi236_0⟩ := at_T85 HR1.out x24_2 p236 q236
           cases e236
           replace hx236_0 := S.hb HB hx236_0
           replace hx236_1 := S.hb HB hx236_1
           have HR236_0 := Aside0.mk hi236_0
           have HC236_0 := Aside0.mk hl236_0
           clear hi236_0 hl236_0
           replace p236 := eq_true p236
           replace q236 := eq_true q236
           go_wp2_with (first | ((with_reducible refine gate_dst (N := 9) rfl ?_); refine S.bx 9 (cs := #[.slice none 0 0, .int .i64 0]) (t := 85) ?_; intro gb237 hg w26 hbox hb; replace HO_7 := S.rb HO_7 hb; have BK237 := Aside0.mk hbox; have GW237 := S.geA hg; have GE237 := S.geA hg; replace HB := S.sA hb; clear hb hbox hg; obtain ⟨Z27a, Z27b, Y27a, Y27b⟩ := S.c2 BK237.out; have p238 : 0 ≤ (0 : Int) := (by omega); have q238 : 0 < (l2.length : Int) := S.oD; obtain ⟨ad238, A238_0, c238_0, e238, hx238_0, hx238_1, hl238_0, hi238_0⟩ := at_T85 HR2.out 0 p238 q238; cases e238; have qi238 : (0 < l2.length) = True := eq_true (by omega); (try rw [show ((0 : Int)).toNat = 0 from rfl] at hx238_0); (try rw [show 0 * 2 = 0 from rfl] at hx238_0); (try rw [Addr.add_zero'] at hx238_0); (try rw [show ((0 : Int)).toNat = 0 from rfl] at hx238_1); (try rw [show 0 * 2 = 0 from rfl] at hx238_1); (try rw [Addr.add_zero'] at hx238_1); have hn238_0 : ad238.block ≠ gb237 := Nat.ne_of_lt (Nat.lt_of_lt_of_le (by have := World.block_lt_of_cell? _ _ hx238_0; first | rwa [add_block] at this | exact this) GW237.out); have hn238_1 : ad238.block ≠ gb237 := Nat.ne_of_lt (Nat.lt_of_lt_of_le (by have := World.block_lt_of_cell? _ _ hx238_0; first | rwa [add_block] at this | exact this) GW237.out); replace hx238_0 := S.hb HB hx238_0; replace hx238_1 := S.hb HB hx238_1; have HR238_0 := Aside0.mk hi238_0; have HC238_0 := Aside0.mk hl238_0; clear hi238_0 hl238_0; replace hx238_0 := (cell_far (p := ⟨gb237, 0, none⟩) (by first | (rw [add_block]; exact hn238_0) | (show (Addr.add _ _).block ≠ _; rw [add_block]; exact hn238_0) | exact hn238_0) (.slice A236_0 ((rd_T85 l1 x24_2).f0).length c236_0)).trans hx238_0; replace hx238_1 := (cell_far (p := ⟨gb237, 0, none⟩) (by first | (rw [add_block]; exact hn238_0) | (show (Addr.add _ _).block ≠ _; rw [add_block]; exact hn238_0) | exact hn238_0) (.slice A236_0 ((rd_T85 l1 x24_2).f0).length c236_0)).trans hx238_1; replace hx238_0 := (cell_far (p := ⟨gb237, 1, none⟩) (by first | (rw [add_block]; exact hn238_1) | (show (Addr.add _ _).block ≠ _; rw [add_block]; exact hn238_1) | exact hn238_1) (.int .i64 ((rd_T85 l1 x24_2).f1))).trans hx238_0; replace hx238_1 := (cell_far (p := ⟨gb237, 1, none⟩) (by first | (rw [add_block]; exact hn238_1) | (show (Addr.add _ _).block ≠ _; rw [add_block]; exact hn238_1) | exact hn238_1) (.int .i64 ((rd_T85 l1 x24_2).f1))).trans hx238_1; (try have hy238_0 := fun (n_ : Nat) => (show ((((w26.drewN n_).setCell ⟨gb237, 0, none⟩ (.slice A236_0 ((rd_T85 l1 x24_2).f0).length c236_0)).setCell ⟨gb237, 1, none⟩ (.int .i64 ((rd_T85 l1 x24_2).f1)))).cell? _ = some _ from hx238_0)); (try have hy238_1 := fun (n_ : Nat) => (show ((((w26.drewN n_).setCell ⟨gb237, 0, none⟩ (.slice A236_0 ((rd_T85 l1 x24_2).f0).length c236_0)).setCell ⟨gb237, 1, none⟩ (.int .i64 ((rd_T85 l1 x24_2).f1)))).cell? _ = some _ from hx238_1)); clear hn238_0; clear hn238_1; replace p238 := eq_true p238; replace q238 := eq_true q238) | (go_at_call 69; (with_reducible refine (slices_Equal_int_int.calls k2 _ _ ((rd_T85 l1 x24_2).f0) _ _ ((rd_T85 l2 0).f0) false _ ?s1 HC236_0.out ?s3 HC238_0.out A18.out).mono ?_); (case s1 => exact Kd.C_below HR236_0.out S.bG); (case s3 => exact Kd.C_below HR238_0.out S.bG); rintro e w' ⟨rfl, ⟨nd, rfl⟩⟩; (try first | exact ⟨rfl, _, World.drewN_drewN _ _ _⟩ | exact ⟨rfl, _, Eq.trans (World.drewN_drewN _ _ _) (congrArg (World.drewN _) (Nat.add_assoc _ _ _))⟩)))
           repeat (go_quiet (first | ((with_reducible refine gate_dst (N := 9) rfl ?_); refine S.bx 9 (cs := #[.slice none 0 0, .int .i64 0]) (t := 85) ?_; intro gb237 hg w26 hbox hb; replace HO_7 := S.rb HO_7 hb; have BK237 := Aside0.mk hbox; have GW237 := S.geA hg; have GE237 := S.geA hg; replace HB := S.sA hb; clear hb hbox hg; obtain ⟨Z27a, Z27b, Y27a, Y27b⟩ := S.c2 BK237.out; have p238 : 0 ≤ (0 : Int) := (by omega); have q238 : 0 < (l2.length : Int) := S.oD; obtain ⟨ad238, A238_0, c238_0, e238, hx238_0, hx238_1, hl238_0, hi238_0⟩ := at_T85 HR2.out 0 p238 q238; cases e238; have qi238 : (0 < l2.length) = True := eq_true (by omega); (try rw [show ((0 : Int)).toNat = 0 from rfl] at hx238_0); (try rw [show 0 * 2 = 0 from rfl] at hx238_0); (try rw [Addr.add_zero'] at hx238_0); (try rw [show ((0 : Int)).toNat = 0 from rfl] at hx238_1); (try rw [show 0 * 2 = 0 from rfl] at hx238_1); (try rw [Addr.add_zero'] at hx238_1); have hn238_0 : ad238.block ≠ gb237 := Nat.ne_of_lt (Nat.lt_of_lt_of_le (by have := World.block_lt_of_cell? _ _ hx238_0; first | rwa [add_block] at this | exact this) GW237.out); have hn238_1 : ad238.block ≠ gb237 := Nat.ne_of_lt (Nat.lt_of_lt_of_le (by have := World.block_lt_of_cell? _ _ hx238_0; first | rwa [add_block] at this | exact this) GW237.out); replace hx238_0 := S.hb HB hx238_0; replace hx238_1 := S.hb HB hx238_1; have HR238_0 := Aside0.mk hi238_0; have HC238_0 := Aside0.mk hl238_0; clear hi238_0 hl238_0; replace hx238_0 := (cell_far (p := ⟨gb237, 0, none⟩) (by first | (rw [add_block]; exact hn238_0) | (show (Addr.add _ _).block ≠ _; rw [add_block]; exact hn238_0) | exact hn238_0) (.slice A236_0 ((rd_T85 l1 x24_2).f0).length c236_0)).trans hx238_0; replace hx238_1 := (cell_far (p := ⟨gb237, 0, none⟩) (by first | (rw [add_block]; exact hn238_0) | (show (Addr.add _ _).block ≠ _; rw [add_block]; exact hn238_0) | exact hn238_0) (.slice A236_0 ((rd_T85 l1 x24_2).f0).length c236_0)).trans hx238_1; replace hx238_0 := (cell_far (p := ⟨gb237, 1, none⟩) (by first | (rw [add_block]; exact hn238_1) | (show (Addr.add _ _).block ≠ _; rw [add_block]; exact hn238_1) | exact hn238_1) (.int .i64 ((rd_T85 l1 x24_2).f1))).trans hx238_0; replace hx238_1 := (cell_far (p := ⟨gb237, 1, none⟩) (by first | (rw [add_block]; exact hn238_1) | (show (Addr.add _ _).block ≠ _; rw [add_block]; exact hn238_1) | exact hn238_1) (.int .i64 ((rd_T85 l1 x24_2).f1))).trans hx238_1; (try have hy238_0 := fun (n_ : Nat) => (show ((((w26.drewN n_).setCell ⟨gb237, 0, none⟩ (.slice A236_0 ((rd_T85 l1 x24_2).f0).length c236_0)).setCell ⟨gb237, 1, none⟩ (.int .i64 ((rd_T85 l1 x24_2).f1)))).cell? _ = some _ from hx238_0)); (try have hy238_1 := fun (n_ : Nat) => (show ((((w26.drewN n_).setCell ⟨gb237, 0, none⟩ (.slice A236_0 ((rd_T85 l1 x24_2).f0).length c236_0)).setCell ⟨gb237, 1, none⟩ (.int .i64 ((rd_T85 l1 x24_2).f1)))).cell? _ = some _ from hx238_1)); clear hn238_0; clear hn238_1; replace p238 := eq_true p238; replace q238 := eq_true q238) | (go_at_call 69; (with_reducible refine (slices_Equal_int_int.calls k2 _ _ ((rd_T85 l1 x24_2).f0) _ _ ((rd_T85 l2 0).f0) false _ ?s1 HC236_0.out ?s3 HC238_0.out A18.out).mono ?_); (case s1 => exact Kd.C_below HR236_0.out S.bG); (case s3 => exact Kd.C_below HR238_0.out S.bG); rintro e w' ⟨rfl, ⟨nd, rfl⟩⟩; (try first | exact ⟨rfl, _, World.drewN_drewN _ _ _⟩ | exact ⟨rfl, _, Eq.trans (World.drewN_drewN _ _ _) (congrArg (World.drewN _) (Nat.add_assoc _ _ _))⟩))); try go_wp2_with (first | ((with_reducible refine gate_dst (N := 9) rfl ?_); refine box_event ?hg (N := 9) ?hd (cs := #[.slice none 0 0, .int .i64 0]) (t := 85) ?hr ?_; (case hd => rfl); (case hg => rfl); (case hr => first | (go_simp; done) | (go_simp; rfl)); intro gb237 hg w26 hbox hb; have n0_ := S.rb HO_7 hb; have n1_ := S.sA hb; have n2_ := Aside0.mk hbox; have n3_ := S.geA hg; have n4_ := S.geA hg; clear HO_7; clear HB; have HO_7 := n0_; have HB := n1_; have BK237 := n2_; have GW237 := n3_; have GE237 := n4_; clear n0_ n1_ n2_ n3_ n4_; clear hb hbox hg; have Z27a : w26.cell? ⟨gb237, 0, none⟩ = some (.slice none 0 0) := (blk_cell BK237.out 0).trans rfl; have Z27b : w26.cell? ⟨gb237, 1, none⟩ = some (.int .i64 0) := (blk_cell BK237.out 1).trans rfl; have Y27a := blk_frozen BK237.out 0; have Y27b := blk_frozen BK237.out 1; have p238 : 0 ≤ (0 : Int) := (by omega); have q238 : 0 < (l2.length : Int) := S.oD; obtain ⟨ad238, A238_0, c238_0, e238, hx238_0, hx238_1, hl238_0, hi238_0⟩ := at_T85 HR2.out 0 p238 q238; cases e238; have qi238 : (0 < l2.length) = True := eq_true (by omega); (try rw [show ((0 : Int)).toNat = 0 from rfl] at hx238_0); (try rw [show 0 * 2 = 0 from rfl] at hx238_0); (try rw [Addr.add_zero'] at hx238_0); (try rw [show ((0 : Int)).toNat = 0 from rfl] at hx238_1); (try rw [show 0 * 2 = 0 from rfl] at hx238_1); (try rw [Addr.add_zero'] at hx238_1); have hn238_0 : ad238.block ≠ gb237 := Nat.ne_of_lt (Nat.lt_of_lt_of_le (by have := World.block_lt_of_cell? _ _ hx238_0; first | rwa [add_block] at this | exact this) GW237.out); have hn238_1 : ad238.block ≠ gb237 := Nat.ne_of_lt (Nat.lt_of_lt_of_le (by have := World.block_lt_of_cell? _ _ hx238_0; first | rwa [add_block] at this | exact this) GW237.out); replace hx238_0 := S.hb HB hx238_0; replace hx238_1 := S.hb HB hx238_1; have HR238_0 := Aside0.mk hi238_0; have HC238_0 := Aside0.mk hl238_0; clear hi238_0 hl238_0; replace hx238_0 := (cell_far (p := ⟨gb237, 0, none⟩) (by first | (rw [add_block]; exact hn238_0) | (show (Addr.add _ _).block ≠ _; rw [add_block]; exact hn238_0) | exact hn238_0) (.slice A236_0 ((rd_T85 l1 x24_2).f0).length c236_0)).trans hx238_0; replace hx238_1 := (cell_far (p := ⟨gb237, 0, none⟩) (by first | (rw [add_block]; exact hn238_0) | (show (Addr.add _ _).block ≠ _; rw [add_block]; exact hn238_0) | exact hn238_0) (.slice A236_0 ((rd_T85 l1 x24_2).f0).length c236_0)).trans hx238_1; replace hx238_0 := (cell_far (p := ⟨gb237, 1, none⟩) (by first | (rw [add_block]; exact hn238_1) | (show (Addr.add _ _).block ≠ _; rw [add_block]; exact hn238_1) | exact hn238_1) (.int .i64 ((rd_T85 l1 x24_2).f1))).trans hx238_0; replace hx238_1 := (cell_far (p := ⟨gb237, 1, none⟩) (by first | (rw [add_block]; exact hn238_1) | (show (Addr.add _ _).block ≠ _; rw [add_block]; exact hn238_1) | exact hn238_1) (.int .i64 ((rd_T85 l1 x24_2).f1))).trans hx238_1; (try have hy238_0 := fun (n_ : Nat) => (show ((((w26.drewN n_).setCell ⟨gb237, 0, none⟩ (.slice A236_0 ((rd_T85 l1 x24_2).f0).length c236_0)).setCell ⟨gb237, 1, none⟩ (.int .i64 ((rd_T85 l1 x24_2).f1)))).cell? _ = some _ from hx238_0)); (try have hy238_1 := fun (n_ : Nat) => (show ((((w26.drewN n_).setCell ⟨gb237, 0, none⟩ (.slice A236_0 ((rd_T85 l1 x24_2).f0).length c236_0)).setCell ⟨gb237, 1, none⟩ (.int .i64 ((rd_T85 l1 x24_2).f1)))).cell? _ = some _ from hx238_1)); clear hn238_0; clear hn238_1; replace p238 := eq_true p238; replace q238 := eq_true q238) | (go_at_call 69; (with_reducible refine (slices_Equal_int_int.calls k2 _ _ ((rd_T85 l1 x24_2).f0) _ _ ((rd_T85 l2 0).f0) false _ ?s1 HC236_0.out ?s3 HC238_0.out A18.out).mono ?_); (case s1 => exact Kd.C_below HR236_0.out S.bG); (case s3 => exact Kd.C_below HR238_0.out S.bG); rintro e w' ⟨rfl, ⟨nd, rfl⟩⟩; (try first | exact ⟨rfl, _, World.drewN_drewN _ _ _⟩ | exact ⟨rfl, _, Eq.trans (World.drewN_drewN _ _ _) (congrArg (World.drewN _) (Nat.add_assoc _ _ _))⟩))))
           go_roundg k2
           case measure => have := HJ3.out; have := HK2.out; omega
           case rel => exact ⟨(x7_2), (wrap64 (x24_2 + 1)), S.eA, H', ⟨by have := HJ3.out; have := HK2.out; omega⟩, ⟨by (with_reducible repeat (first | apply Kd.R_alloc | apply Kd.R_drewN | apply Kd.R_drew)); exact Kd.R_mono (Kd.R_far (p := ⟨gb237, 1, none⟩) (Kd.R_far (p := ⟨gb237, 0, none⟩) (Kd.R_types HO_7.out BK237.out (by decide)) (fun _ hk => hk.2) (.slice A236_0 ((rd_T85 l1 x24_2).f0).length c236_0)) (fun _ hk => hk.2) (.int .i64 ((rd_T85 l1 x24_2).f1))) (fun _ hk => trivial)⟩, ⟨S.bG⟩⟩
         ·rw [if_neg c17] at H
          exact absurd H (by simp)
        ·rw [if_neg c16] at H
         exact absurd H (by simp)
       ·rw [if_neg c15] at H
        exact absurd H (by simp)
      ·obtain rfl := Option.some.inj H
       go_wp2
       repeat (go_quiet (fail); try go_wp2)
       go_ret
       exact ⟨_, S.eW, S.uR HO_7.out, S.bA⟩

/-! ### impl_CanSwitch: function 21 -/
def impl_CanSwitch.f (k : Nat) (l0 : List (S71)) (l1 : List (S85)) (l2 : List (S85)) : Option (Bool) := (impl_SwitchSeconds.f k l0 l1 l2).bind fun t244 => (some (decide ((t244.length : Int) > 0)))
theorem impl_CanSwitch.calls (k : Nat) (A0 : Option Addr) (c0 : Nat) (l0 : List (S71)) (A1 : Option Addr) (c1 : Nat) (l1 : List (S85)) (A2 : Option Addr) (c2 : Nat) (l2 : List (S85)) (r : Bool) (w : World) (hr0 : Kd.C k71 w A0 l0.length l0) (hc0 : l0.length ≤ c0) (hr1 : Kd.C k85 w A1 l1.length l1) (hc1 : l1.length ≤ c1) (hr2 : Kd.C k85 w A2 l2.length l2) (hc2 : l2.length ≤ c2) (h : impl_CanSwitch.f k l0 l1 l2 = some r) :
  Calls Try.prog 21 #[.slice A0 l0.length c0, .slice A1 l1.length c1, .slice A2 l2.length c2] w fun e w' => e = .returned (.bool r) ∧ Below w.heap.size w w' := by
 have HR0 := Aside0.mk hr0
 have HC0 := Aside0.mk hc0
 clear hr0 hc0
 have HR1 := Aside0.mk hr1
 have HC1 := Aside0.mk hc1
 clear hr1 hc1
 have HR2 := Aside0.mk hr2
 have HC2 := Aside0.mk hc2
 clear hr2 hc2
 have HB := Aside0.mk (Below.refl w.heap.size w)
 have H : ((impl_SwitchSeconds.f k l0 l1 l2).bind fun t244 => (some (decide ((t244.length : Int) > 0)))) = some r := h
 clear h
 replace H := S.bd H; obtain ⟨t244, A4, H⟩ := H
 (try dsimp only at H)
 obtain rfl := Option.some.inj H
 go_enter Try.func21, Try.ntmps21
 go_wp2_with (first | ((with_reducible refine gate_callee (f := 23) rfl ?_); refine S.gL (some 10) Try.func23 #[.slice A0 l0.length c0, .slice A1 l1.length c1, .slice A2 l2.length c2] ?_; (with_reducible refine (impl_SwitchSeconds.calls k _ _ l0 _ _ l1 _ _ l2 t244 _ ?s1 HC0.out ?s3 HC1.out ?s5 HC2.out A4.out).mono ?_); (case s1 => exact S.cD HR0.out); (case s3 => exact S.cD HR1.out); (case s5 => exact S.cD HR2.out); rintro e w5 ⟨v245, rfl, ho0, hb⟩; refine ⟨_, rfl, ?_⟩; have HO246 := S.lwA ho0; replace HB := S.sA hb; (try clear hb); (try clear ho0); obtain ⟨Ao6, co6, eo6⟩ := Kd.R_slice HO246.out; subst eo6))
 go_ret
 exact ⟨S.eW, S.bA⟩
end Go.Proofs.Ytjgigmghcfdomaa.PFnSwitched
