/- Printed by a program: what the Go functions compute, as plain Lean functions (.f), and the proofs that the machine's calls come to just that (.calls). -/
import Derived.Test.YtjgigmghcfdomaaPFnExactMakeSwitchx0
import Derived.Test.YtjgigmghcfdomaaPFnExactMakeSwitchx3
import Derived.Test.YtjgigmghcfdomaaPFnExactMakeSwitchx5
import Derived.Test.YtjgigmghcfdomaaPFnExactMakeSwitchx7
import Derived.Test.YtjgigmghcfdomaaPFnExactMakeSwitchx10
namespace Go.Proofs.Ytjgigmghcfdomaa.PFnExactMakeSwitch
open Go.RowKit Go.Proofs.YtjgigmghcfdomaaW.PrintWords Go.Proofs.YtjgigmghcfdomaaW.PrintLast Go.Proofs.YtjgigmghcfdomaaW.PrintMore
attribute [local go_sem] max2_int min2_int max_two min_two max_three min_three max_four min_four   -- for this text's walks alone
set_option linter.unusedVariables false
set_option linter.unusedSimpArgs false

/-! ### spec_ClearBetween: function 126 -/
mutual
def spec_ClearBetween.l0 : Nat → List (S71) → List Int → List Int → Int → List Int → List Int → Int → Option (Int)
 | 0, _, _, _, _, _, _, _ => none
 | k + 1, x0, x1, x2, x7, x8, x9, x10 => if x10 < (x8.length : Int) then ((spec_IsTogether.f k x0 x1).bind fun t247 => (if t247 = true then ((spec_IsTogether.f k x0 x2).bind fun t248 => (spec_ClearBetween.j1 k x0 x1 x2 x7 x8 x9 x10 t248)) else (spec_ClearBetween.j1 k x0 x1 x2 x7 x8 x9 x10 false))) else (spec_ClearBetween.j1 k x0 x1 x2 x7 x8 x9 x10 false)
def spec_ClearBetween.j1 : Nat → List (S71) → List Int → List Int → Int → List Int → List Int → Int → Bool → Option (Int)
 | 0, _, _, _, _, _, _, _, _ => none
 | k + 1, x0, x1, x2, x7, x8, x9, x10, x32 => if x32 = true then (spec_ClearBetween.l1 k x0 x1 x2 x7 x8 x9 x10 0) else (some x7)
def spec_ClearBetween.l1 : Nat → List (S71) → List Int → List Int → Int → List Int → List Int → Int → Int → Option (Int)
 | 0, _, _, _, _, _, _, _, _ => none
 | k + 1, x0, x1, x2, x7, x8, x9, x10, x11 => if x11 < (x9.length : Int) then (if 0 ≤ x10 then (if x10 < (x8.length : Int) then ((spec_FindPath.f k x0 (rd x8 x10)).bind fun t250 => (if 0 ≤ t250 then (if t250 < (x0.length : Int) then (if 0 ≤ x11 then ((spec_FindPath.f k x0 (rd x9 x11)).bind fun t254 => (if 0 ≤ t254 then (if t254 < (x0.length : Int) then ((spec_Conflict.f k ((rd_T71 x0 t250).f0) ((rd_T71 x0 t250).f1) ((rd_T71 x0 t250).f2) ((rd_T71 x0 t250).f3) ((rd_T71 x0 t254).f0) ((rd_T71 x0 t254).f1) ((rd_T71 x0 t254).f2) ((rd_T71 x0 t254).f3)).bind fun t256 => (if t256 = true then ((spec_ClearOf.f ((rd_T71 x0 t250).f0) ((rd_T71 x0 t250).f1) ((rd_T71 x0 t250).f2) ((rd_T71 x0 t250).f3)).bind fun t257 => ((spec_Max.f x7 t257).bind fun t258 => (spec_ClearBetween.l1 k x0 x1 x2 t258 x8 x9 x10 (wrap64 (x11 + 1))))) else (spec_ClearBetween.l1 k x0 x1 x2 x7 x8 x9 x10 (wrap64 (x11 + 1))))) else (none)) else (none))) else (none)) else (none)) else (none))) else (none)) else (none)) else (spec_ClearBetween.l0 k x0 x1 x2 x7 x8 x9 (wrap64 (x10 + 1)))
end
def spec_ClearBetween.f (k : Nat) (l0 : List (S71)) (l1 : List Int) (l2 : List Int) : Option (Int) := (spec_Closes.f k l1 l2).bind fun t241 => ((spec_Closes.f k l2 l1).bind fun t244 => (spec_ClearBetween.l0 k l0 l1 l2 0 t241 t244 0))
def spec_ClearBetween.T11 : Bool × List (List Nat × List Nat) := (true, [([], []), ([], []), ([], []), ([], []), ([], []), ([3, 4], [3, 4]), ([5], [5]), ([2, 6], [2, 6]), ([1, 7], [1, 7]), ([8], [8]), ([0, 9, 7], [0, 9])])
def spec_ClearBetween.B11 : List Nat := [0, 0, 0, 0, 0, 24, 56, 124, 254, 510, 1023]
theorem spec_ClearBetween.tab11 : rtab .any (opsOf Try.f126 11) = spec_ClearBetween.T11 := by kernel_rfl
theorem spec_ClearBetween.bits11 : waitsOk spec_ClearBetween.T11.2 spec_ClearBetween.B11 = true := by kernel_rfl
set_option maxHeartbeats 8000000 in
set_option maxRecDepth 100000 in
theorem spec_ClearBetween.calls (k : Nat) (A0 : Option Addr) (c0 : Nat) (l0 : List (S71)) (A1 : Option Addr) (c1 : Nat) (l1 : List Int) (A2 : Option Addr) (c2 : Nat) (l2 : List Int) (r : Int) (w : World) (hr0 : Kd.C k71 w A0 l0.length l0) (hc0 : l0.length ≤ c0) (hr1 : Kd.C (Kd.int .i64) w A1 l1.length l1) (hc1 : l1.length ≤ c1) (hr2 : Kd.C (Kd.int .i64) w A2 l2.length l2) (hc2 : l2.length ≤ c2) (h : spec_ClearBetween.f k l0 l1 l2 = some r) :
  Calls Try.prog 126 #[.slice A0 l0.length c0, .slice A1 l1.length c1, .slice A2 l2.length c2] w fun e w' => e = .returned (.int .i64 r) ∧ Below w.heap.size w w' := by
 have hu71 := Try.underlying71
 have HR0 := Aside0.mk hr0
 have HC0 := Aside0.mk hc0
 clear hr0 hc0
 have HR1 := Aside0.mk hr1
 have HC1 := Aside0.mk hc1
 clear hr1 hc1
 have HR2 := Aside0.mk hr2
 have HC2 := Aside0.mk hc2
 clear hr2 hc2
 have HB := Aside0.mk (Below.refl w.heap.size w)
 have H : ((spec_Closes.f k l1 l2).bind fun t241 => ((spec_Closes.f k l2 l1).bind fun t244 => (spec_ClearBetween.l0 k l0 l1 l2 0 t241 t244 0))) = some r := h
 clear h
 replace H := S.bd H; obtain ⟨t241, A4, H⟩ := H
 (try dsimp only at H)
 replace H := S.bd H; obtain ⟨t244, A5, H⟩ := H
 (try dsimp only at H)
 have H' := Aside0.mk H
 clear H
 go_enter Try.func126, Try.ntmps126
 go_wp2_with (first | ((with_reducible refine gate_callee (f := 139) rfl ?_); refine S.gL (some 15) Try.func139 #[.slice A1 l1.length c1, .slice A2 l2.length c2] ?_; (with_reducible refine (spec_Closes.calls k _ _ l1 _ _ l2 t241 _ ?s1 HC1.out ?s3 HC2.out A4.out).mono ?_); (case s1 => repeat (first | exact HR1.out | (with_reducible refine Kd.C_alloc ?_ _) | (with_reducible refine Kd.C_drewN ?_ _) | (with_reducible refine Kd.C_drew ?_))); (case s3 => repeat (first | exact HR2.out | (with_reducible refine Kd.C_alloc ?_ _) | (with_reducible refine Kd.C_drewN ?_ _) | (with_reducible refine Kd.C_drew ?_))); rintro e w6 ⟨v242, rfl, ho0, hb⟩; refine ⟨_, rfl, ?_⟩; have HO243 := S.lwA ho0; replace HB := S.sA hb; (try clear hb); (try clear ho0)) | ((with_reducible refine gate_callee (f := 139) rfl ?_); refine S.gL (some 18) Try.func139 #[.slice A2 l2.length c2, .slice A1 l1.length c1] ?_; (with_reducible refine (spec_Closes.calls k _ _ l2 _ _ l1 t244 _ ?s1 HC2.out ?s3 HC1.out A5.out).mono ?_); (case s1 => exact S.cA HR2.out); (case s3 => exact S.cA HR1.out); rintro e w7 ⟨v245, rfl, ho0, hb⟩; refine ⟨_, rfl, ?_⟩; have HO246 := S.rnA ho0 HO243; replace HO243 := S.re HO243 ho0 hb; replace HB := S.sA hb; (try clear hb); (try clear ho0)))
 go_loopg [7, 10] k (fun kq v7 v10 w' => ∃ (x7_1 : Int) (x10_1 : Int), v7 = .int .i64 x7_1 ∧ v10 = .int .i64 x10_1 ∧ Aside0 (spec_ClearBetween.l0 kq l0 l1 l2 x7_1 t241 t244 x10_1 = some r) ∧ Aside0 (kq ≤ k) ∧ Aside0 (Kd.R (Kd.int .i64) 3 w' w.heap.size (fun k_ => S.N k_ v245) v242 t241) ∧ Aside0 (Kd.R (Kd.int .i64) 3 w' w.heap.size (fun k_ => S.N k_ v242) v245 t244) ∧ Aside0 (Below w.heap.size w w'))
 case atStart => exact ⟨(0), (0), S.eA, S.eA, H', ⟨Nat.le_refl _⟩, ⟨by (with_reducible repeat (first | apply Kd.R_alloc | apply Kd.R_drewN | apply Kd.R_drew)); exact Kd.R_mono HO243.out (fun _ hk => hk.2)⟩, ⟨by (with_reducible repeat (first | apply Kd.R_alloc | apply Kd.R_drewN | apply Kd.R_drew)); exact Kd.R_mono HO246.out (fun _ hk => hk.2)⟩, ⟨S.bA⟩⟩
 case round =>
  clear H'
  try clear c1
  try clear c2
  obtain ⟨x7_1, x10_1, rfl, rfl, HA, HK1, HO_8, HO_9, HB⟩ := hrel
  cases gk with
  | zero => exact absurd HA.out (by simp [spec_ClearBetween.l0])
  | succ k1 =>
   have H := HA.out
   clear HA
   simp only [spec_ClearBetween.l0] at H
   have HC8 := Aside0.mk H
   clear H
   go_upto_region 5 with (fail)
   go_cut [32] (fun v32 wc => ∃ (kq : Nat) (x32_7 : Bool), v32 = .bool x32_7 ∧ Aside0 (spec_ClearBetween.j1 kq l0 l1 l2 x7_1 t241 t244 x10_1 x32_7 = some r) ∧ Aside0 (kq ≤ k1) ∧ Aside0 (Kd.R (Kd.int .i64) 3 wc w.heap.size (fun k_ => S.N k_ v245) v242 t241) ∧ Aside0 (Kd.R (Kd.int .i64) 3 wc w.heap.size (fun k_ => S.N k_ v242) v245 t244) ∧ Aside0 (Below w.heap.size w wc))
   case first =>
    have H := HC8.out
    clear HC8
    replace H := S.dc H; rcases H with ⟨H, c9b0⟩ | ⟨H, c9b0⟩
    ·(first | rw [c9b0] | (simp only [i64_w, i32_w]; rw [c9b0]) | skip)
     replace H := S.bd H; obtain ⟨t247, A10, H⟩ := H
     (try dsimp only at H)
     replace H := S.db H; rcases H with ⟨rfl, H⟩ | ⟨rfl, H⟩
     ·replace H := S.bd H; obtain ⟨t248, A12, H⟩ := H
      (try dsimp only at H)
      have H' := Aside0.mk H
      clear H
      obtain ⟨Ao13, co13, eo13⟩ := Kd.R_slice HO_8.out
      subst eo13
      go_wp2_with (first | (go_at_call 99; (with_reducible refine (spec_IsTogether.calls k1 _ _ l0 _ _ l1 true _ ?s1 HC0.out ?s3 HC1.out A10.out).mono ?_); (case s1 => exact S.cA HR0.out); (case s3 => exact S.cA HR1.out); rintro e w14 ⟨rfl, hb⟩; replace HO_8 := S.rb HO_8 hb; replace HO_9 := S.rb HO_9 hb; replace HB := S.sA hb; (try clear hb)) | (go_at_call 99; (with_reducible refine (spec_IsTogether.calls k1 _ _ l0 _ _ l2 t248 _ ?s1 HC0.out ?s3 HC2.out A12.out).mono ?_); (case s1 => exact S.cA HR0.out); (case s3 => exact S.cA HR2.out); rintro e w15 ⟨rfl, hb⟩; replace HO_8 := S.rb HO_8 hb; replace HO_9 := S.rb HO_9 hb; replace HB := S.sA hb; (try clear hb)))
      go_meet
      case rel => exact ⟨_, (t248), S.eA, H', ⟨by have := HK1.out; first | omega | exact Nat.le_refl _⟩, ⟨S.uR HO_8.out⟩, ⟨S.uR HO_9.out⟩, ⟨S.bA⟩⟩
     ·have H' := Aside0.mk H
      clear H
      obtain ⟨Ao16, co16, eo16⟩ := Kd.R_slice HO_8.out
      subst eo16
      go_wp2_with (first | (go_at_call 99; (with_reducible refine (spec_IsTogether.calls k1 _ _ l0 _ _ l1 false _ ?s1 HC0.out ?s3 HC1.out A10.out).mono ?_); (case s1 => exact S.cA HR0.out); (case s3 => exact S.cA HR1.out); rintro e w17 ⟨rfl, hb⟩; replace HO_8 := S.rb HO_8 hb; replace HO_9 := S.rb HO_9 hb; replace HB := S.sA hb; (try clear hb)))
      go_meet
      case rel => exact ⟨_, (false), S.eA, H', ⟨by have := HK1.out; first | omega | exact Nat.le_refl _⟩, ⟨S.uR HO_8.out⟩, ⟨S.uR HO_9.out⟩, ⟨S.bA⟩⟩
    ·(first | rw [c9b0] | (simp only [i64_w, i32_w]; rw [c9b0]) | skip)
     have H' := Aside0.mk H
     clear H
     obtain ⟨Ao18, co18, eo18⟩ := Kd.R_slice HO_8.out
     subst eo18
     go_wp2
     go_meet
     case rel => exact ⟨_, (false), S.eA, H', ⟨by have := HK1.out; first | omega | exact Nat.le_refl _⟩, ⟨S.uR HO_8.out⟩, ⟨S.uR HO_9.out⟩, ⟨S.bA⟩⟩
   case rest =>
    clear HC8
    try clear c1
    try clear c2
    obtain ⟨kq, x32_7, rfl, HA, HJ7, HO_8, HO_9, HB⟩ := hcut
    cases kq with
    | zero => exact absurd HA.out (by simp [spec_ClearBetween.j1])
    | succ kj7 =>
     have H := HA.out
     clear HA
     simp only [spec_ClearBetween.j1] at H
     replace H := S.db H; rcases H with ⟨rfl, H⟩ | ⟨rfl, H⟩
     ·have H' := Aside0.mk H
      clear H
      go_wp2
      go_loopg [7, 11] kj7 (fun kq v7 v11 w' => ∃ (x7_3 : Int) (x11_3 : Int), v7 = .int .i64 x7_3 ∧ v11 = .int .i64 x11_3 ∧ Aside0 (spec_ClearBetween.l1 kq l0 l1 l2 x7_3 t241 t244 x10_1 x11_3 = some r) ∧ Aside0 (kq ≤ kj7) ∧ Aside0 (Kd.R (Kd.int .i64) 3 w' w.heap.size (fun k_ => S.N k_ v245) v242 t241) ∧ Aside0 (Kd.R (Kd.int .i64) 3 w' w.heap.size (fun k_ => S.N k_ v242) v245 t244) ∧ Aside0 (Below w.heap.size w w'))
      case atStart => exact ⟨(x7_1), (0), S.eA, S.eA, H', ⟨Nat.le_refl _⟩, ⟨S.uR HO_8.out⟩, ⟨S.uR HO_9.out⟩, ⟨S.bA⟩⟩
      case round =>
       clear H'
       try clear c1
       try clear c2
       try clear c19
       obtain ⟨x7_3, x11_3, rfl, rfl, HA, HK3, HO_8, HO_9, HB⟩ := hrel
       cases gk with
       | zero => exact absurd HA.out (by simp [spec_ClearBetween.l1])
       | succ k3 =>
        have H := HA.out
        clear HA
        simp only [spec_ClearBetween.l1] at H
        replace H := S.dc H; rcases H with ⟨H, c20b0⟩ | ⟨H, c20b0⟩
        ·by_cases c21 : 0 ≤ x10_1
         ·rw [if_pos c21] at H
          have c21b0 : decide (0 ≤ x10_1) = true := decide_eq_true c21
          clear c21
          by_cases c22 : x10_1 < (t241.length : Int)
          ·rw [if_pos c22] at H
           have c22b0 : decide (x10_1 < (t241.length : Int)) = true := decide_eq_true c22
           clear c22
           replace H := S.bd H; obtain ⟨t250, A23, H⟩ := H
           (try dsimp only at H)
           by_cases c24 : 0 ≤ t250
           ·rw [if_pos c24] at H
            have c24b0 : decide (0 ≤ t250) = true := decide_eq_true c24
            clear c24
            by_cases c25 : t250 < (l0.length : Int)
            ·rw [if_pos c25] at H
             have c25b0 : decide (t250 < (l0.length : Int)) = true := decide_eq_true c25
             clear c25
             by_cases c26 : 0 ≤ x11_3
             ·rw [if_pos c26] at H
              have c26b0 : decide (0 ≤ x11_3) = true := decide_eq_true c26
              clear c26
              replace H := S.bd H; obtain ⟨t254, A27, H⟩ := H
              (try dsimp only at H)
              by_cases c28 : 0 ≤ t254
              ·rw [if_pos c28] at H
               have c28b0 : decide (0 ≤ t254) = true := decide_eq_true c28
               clear c28
               by_cases c29 : t254 < (l0.length : Int)
               ·rw [if_pos c29] at H
                have c29b0 : decide (t254 < (l0.length : Int)) = true := decide_eq_true c29
                clear c29
                replace H := S.bd H; obtain ⟨t256, A30, H⟩ := H
                (try dsimp only at H)
                replace H := S.db H; rcases H with ⟨rfl, H⟩ | ⟨rfl, H⟩
                ·replace H := S.bd H; obtain ⟨t257, A32, H⟩ := H
                 (try dsimp only at H)
                 replace H := S.bd H; obtain ⟨t258, A33, H⟩ := H
                 (try dsimp only at H)
                 have H' := Aside0.mk H
                 clear H
                 obtain ⟨Ao34, co34, eo34⟩ := Kd.R_slice HO_9.out
                 subst eo34
                 obtain ⟨Ao35, co35, eo35⟩ := Kd.R_slice HO_8.out
                 subst eo35
                 have p249 : 0 ≤ (x10_1 : Int) := S.oD
                 have q249 : x10_1 < (t241.length : Int) := S.oD
                 obtain ⟨ad249, e249, hx249_0⟩ := Kd.at_int (Kd.R_reads' HO_8.out).2.2 x10_1 p249 q249
                 cases e249
                 replace p249 := eq_true p249
                 replace q249 := eq_true q249
                 try go_wp2_with (first | ((with_reducible refine gate_callee (f := 96) rfl ?_); refine S.gL (some 47) Try.func96 #[.slice A0 l0.length c0, .int .i64 (rd t241 x10_1)] ?_; (with_reducible refine (spec_FindPath.calls k3 _ _ l0 (rd t241 x10_1) t250 _ ?s1 HC0.out A23.out).mono ?_); (case s1 => exact S.cA HR0.out); rintro e w' ⟨rfl, ⟨nd, rfl⟩⟩; refine ⟨_, rfl, ?_⟩; (try (rw [drewN_self wr]; generalize hq_ : World.drewN wr _ = wr; have n0_ : Aside0 (Kd.R (Kd.int .i64) 3 wr w.heap.size (fun k_ => S.N k_ (.slice Ao34 t244.length co34)) (.slice (some ad249) t241.length co35) t241) := ⟨by rw [← hq_]; exact (S.uR HO_8.out)⟩; have n1_ : Aside0 (Kd.R (Kd.int .i64) 3 wr w.heap.size (fun k_ => some k_ ≠ (.slice (some ad249) t241.length co35 : Value).ownBlock) (.slice Ao34 t244.length co34) t244) := ⟨by rw [← hq_]; exact (S.uR HO_9.out)⟩; have n2_ : Aside0 (Below w.heap.size w wr) := ⟨by rw [← hq_]; exact S.bA⟩; clear HO_8 HO_9 HB hq_; have HO_8 := n0_; have HO_9 := n1_; have HB := n2_; clear n0_ n1_ n2_)); have p251 : 0 ≤ (t250 : Int) := S.oD; have q251 : t250 < (l0.length : Int) := S.oD; obtain ⟨ad251, e251, hx251_0, hx251_1, hx251_2, hx251_3⟩ := at_T71 HR0.out t250 p251 q251; cases e251; replace hx251_0 := S.hb HB hx251_0; replace hx251_1 := S.hb HB hx251_1; replace hx251_2 := S.hb HB hx251_2; replace hx251_3 := S.hb HB hx251_3; replace p251 := eq_true p251; replace q251 := eq_true q251) | ((with_reducible refine gate_dst (N := 12) rfl ?_); refine S.bx 12 (cs := #[.int .i64 0, .int .i64 0, .int .i64 0, .int .i64 0]) (t := 71) ?_; intro gb252 hg w36 hbox hb; replace HO_8 := S.rb HO_8 hb; replace HO_9 := S.rb HO_9 hb; have BK252 := Aside0.mk hbox; have GW252 := S.geA hg; have GE252 := S.geA hg; replace HB := S.sA hb; clear hb hbox hg; obtain ⟨Z37a, Z37b, Z37c, Z37d, Y37a, Y37b, Y37c, Y37d⟩ := S.c4 BK252.out))
                 generalize hq_ : ((((w36.setCell ⟨gb252, 0, none⟩ (.int .i64 ((rd_T71 l0 t250).f0))).setCell ⟨gb252, 1, none⟩ (.int .i64 ((rd_T71 l0 t250).f1))).setCell ⟨gb252, 2, none⟩ (.int .i64 ((rd_T71 l0 t250).f2))).setCell ⟨gb252, 3, none⟩ (.int .i64 ((rd_T71 l0 t250).f3))) = w38
                 replace HO_8 := S.f4 hq_ HO_8 BK252
                 replace HO_9 := S.f4 hq_ HO_9 BK252
                 replace BK252 := S.p4 hq_ BK252
                 replace HB := S.bQ hq_
                 clear hq_
                 replace HO_8 := S.dr HO_8
                 replace HO_9 := S.dr HO_9
                 replace BK252 := Aside0.mk (blk_drew BK252.out)
                 replace HB := Aside0.mk (below_drew1 HB.out)
                 have p253 : 0 ≤ (x11_3 : Int) := S.oD
                 have q253 : x11_3 < (t244.length : Int) := S.oD
                 obtain ⟨ad253, e253, hx253_0⟩ := Kd.at_int (Kd.R_reads' HO_9.out).2.2 x11_3 p253 q253
                 cases e253
                 replace p253 := eq_true p253
                 replace q253 := eq_true q253
                 have p255 : 0 ≤ (t254 : Int) := S.oD
                 have q255 : t254 < (l0.length : Int) := S.oD
                 obtain ⟨ad255, e255, hx255_0, hx255_1, hx255_2, hx255_3⟩ := at_T71 HR0.out t254 p255 q255
                 have hw255_3 := hx255_3
                 have hw255_2 := hx255_2
                 have hw255_1 := hx255_1
                 have hw255_0 := hx255_0
                 obtain rfl : ad251 = ad255 := (by injection e255)
                 replace hx255_0 := S.hb HB hx255_0
                 replace hx255_1 := S.hb HB hx255_1
                 replace hx255_2 := S.hb HB hx255_2
                 replace hx255_3 := S.hb HB hx255_3
                 replace p255 := eq_true p255
                 replace q255 := eq_true q255
                 refine S.st (n := 11) (ds := []) #[false, false, false, false, false, false, false, false, false, false, false] (fun w_ h_ => have x_ := S.d4 (S.Q h_ BK252.out) (And.intro (S.q h_ hx253_0) (And.intro (S.q h_ (S.hb HB hw255_0)) (And.intro (S.q h_ (S.hb HB hw255_1)) (And.intro (S.q h_ (S.hb HB hw255_2)) (S.q h_ (S.hb HB hw255_3)))))); x_) (fun hHeld => ?_); refine with_tabW spec_ClearBetween.tab11 spec_ClearBetween.bits11 (fun HT_ HW_ => ?_)
                 generalize w38.drew = w39 at HO_8 HO_9 BK252 HB hx253_0 hx255_0 hx255_1 hx255_2 hx255_3 hHeld ⊢
                 refine S.pS 1 51 ?_
                 refine S.pS 2 52 ?_
                 refine S.pS 3 53 ?_
                 refine S.pS 4 54 ?_
                 refine S.pS 5 55 ?_
                 refine S.tK 0 50 #[true, true, true, true, true, true, false, false, false, false, false] ?_
                 refine S.tK 6 56 #[true, true, true, true, true, true, true, false, false, false, false] ?_
                 refine S.oN 7 57 #[true, true, true, true, true, true, true, true, false, false, false] (fun K hK => ?_)
                 refine S.go Try.func96 #[.slice (some ad251) l0.length c0, .int .i64 (rd t244 x11_3)] ?_
                 with_reducible refine (spec_FindPath.calls k3 _ _ l0 (rd t244 x11_3) t254 _ ?s1 ?s2 A27.out).mono ?_
                 (case s1 => exact S.cA HR0.out)
                 (case s2 => exact HC0.out)
                 rintro e w' ⟨rfl, ⟨nd, rfl⟩⟩
                 refine ⟨_, rfl, ?_⟩
                 refine hK.out _ _ (S.d4 BK252.out (And.intro (hHeld.2.2.2.2.1) (And.intro ((S.hb HB hw255_0 :)) (And.intro ((S.hb HB hw255_1 :)) (And.intro ((S.hb HB hw255_2 :)) ((S.hb HB hw255_3 :))))))) (fun hHeld => ?_)
                 clear hK K
                 refine S.nm 57 ?_
                 refine S.pS 8 58 ?_
                 refine S.tK 9 59 #[true, true, true, true, true, true, true, true, true, true, false] ?_
                 refine S.oN 10 60 #[true, true, true, true, true, true, true, true, true, true, true] (fun K hK => ?_)
                 refine S.go Try.func124 #[.agg #[.int .i64 ((rd_T71 l0 t250).f0), .int .i64 ((rd_T71 l0 t250).f1), .int .i64 ((rd_T71 l0 t250).f2), .int .i64 ((rd_T71 l0 t250).f3)], .agg #[.int .i64 ((rd_T71 l0 t254).f0), .int .i64 ((rd_T71 l0 t254).f1), .int .i64 ((rd_T71 l0 t254).f2), .int .i64 ((rd_T71 l0 t254).f3)]] ?_
                 with_reducible refine (spec_Conflict.calls k3 ((rd_T71 l0 t250).f0) ((rd_T71 l0 t250).f1) ((rd_T71 l0 t250).f2) ((rd_T71 l0 t250).f3) ((rd_T71 l0 t254).f0) ((rd_T71 l0 t254).f1) ((rd_T71 l0 t254).f2) ((rd_T71 l0 t254).f3) true _ A30.out).mono ?_
                 rintro e w40 ⟨rfl, hb⟩
                 have HS4_ := (hb.cell (World.block_lt_of_cell? _ _ (hHeld.2.2.2.2.1))).trans (hHeld.2.2.2.2.1)
                 refine ⟨_, rfl, ?_⟩
                 replace HO_8 := S.rb HO_8 hb
                 replace HO_9 := S.rb HO_9 hb
                 replace BK252 := S.kb BK252 hb
                 replace HB := S.sG hb
                 (try clear hb)
                 (try clear hb2)
                 (try clear hk)
                 (try clear hi)
                 refine hK.out _ _ (S.d4 BK252.out (And.intro (HS4_) (And.intro ((S.hb HB hw255_0 :)) (And.intro ((S.hb HB hw255_1 :)) (And.intro ((S.hb HB hw255_2 :)) ((S.hb HB hw255_3 :))))))) (fun hHeld => ?_)
                 clear hK K
                 refine S.nm 60 ?_
                 refine done_ (done_of HT_.out (by kernel_rfl)) ?_
                 obtain ⟨Z41a, Z41b, Z41c, Z41d, Y41a, Y41b, Y41c, Y41d⟩ := S.c4 BK252.out
                 try go_wp2_with (first | ((with_reducible refine gate_callee (f := 123) rfl ?_); refine S.gL (some 63) Try.func123 #[.agg #[.int .i64 ((rd_T71 l0 t250).f0), .int .i64 ((rd_T71 l0 t250).f1), .int .i64 ((rd_T71 l0 t250).f2), .int .i64 ((rd_T71 l0 t250).f3)]] ?_; (with_reducible refine (spec_ClearOf.calls ((rd_T71 l0 t250).f0) ((rd_T71 l0 t250).f1) ((rd_T71 l0 t250).f2) ((rd_T71 l0 t250).f3) t257 _ A32.out).mono ?_); rintro e w42 ⟨rfl, hb⟩; refine ⟨_, rfl, ?_⟩; replace HO_8 := S.rb HO_8 hb; replace HO_9 := S.rb HO_9 hb; replace BK252 := S.kb BK252 hb; replace HB := S.sG hb; (try clear hb)) | ((with_reducible refine gate_callee (f := 132) rfl ?_); refine S.gL (some 64) Try.func132 #[.int .i64 x7_3, .int .i64 t257] ?_; (with_reducible refine (spec_Max.calls x7_3 t257 t258 _ A33.out).mono ?_); rintro e w' ⟨rfl, ⟨nd, rfl⟩⟩; refine ⟨_, rfl, ?_⟩))
                 go_roundg k3
                 case measure => have := HK1.out; have := HJ7.out; have := HK3.out; omega
                 case rel => exact ⟨(t258), (wrap64 (x11_3 + 1)), S.eA, S.eA, H', ⟨by have := HK1.out; have := HJ7.out; have := HK3.out; omega⟩, ⟨S.uR HO_8.out⟩, ⟨S.uR HO_9.out⟩, ⟨S.bG⟩⟩
                ·have H' := Aside0.mk H
                 clear H
                 obtain ⟨Ao43, co43, eo43⟩ := Kd.R_slice HO_9.out
                 subst eo43
                 obtain ⟨Ao44, co44, eo44⟩ := Kd.R_slice HO_8.out
                 subst eo44
                 have p249 : 0 ≤ (x10_1 : Int) := S.oD
                 have q249 : x10_1 < (t241.length : Int) := S.oD
                 obtain ⟨ad249, e249, hx249_0⟩ := Kd.at_int (Kd.R_reads' HO_8.out).2.2 x10_1 p249 q249
                 cases e249
                 replace p249 := eq_true p249
                 replace q249 := eq_true q249
                 try go_wp2_with (first | ((with_reducible refine gate_callee (f := 96) rfl ?_); refine S.gL (some 47) Try.func96 #[.slice A0 l0.length c0, .int .i64 (rd t241 x10_1)] ?_; (with_reducible refine (spec_FindPath.calls k3 _ _ l0 (rd t241 x10_1) t250 _ ?s1 HC0.out A23.out).mono ?_); (case s1 => exact S.cA HR0.out); rintro e w' ⟨rfl, ⟨nd, rfl⟩⟩; refine ⟨_, rfl, ?_⟩; (try (rw [drewN_self wr]; generalize hq_ : World.drewN wr _ = wr; have n0_ : Aside0 (Kd.R (Kd.int .i64) 3 wr w.heap.size (fun k_ => S.N k_ (.slice Ao43 t244.length co43)) (.slice (some ad249) t241.length co44) t241) := ⟨by rw [← hq_]; exact (S.uR HO_8.out)⟩; have n1_ : Aside0 (Kd.R (Kd.int .i64) 3 wr w.heap.size (fun k_ => some k_ ≠ (.slice (some ad249) t241.length co44 : Value).ownBlock) (.slice Ao43 t244.length co43) t244) := ⟨by rw [← hq_]; exact (S.uR HO_9.out)⟩; have n2_ : Aside0 (Below w.heap.size w wr) := ⟨by rw [← hq_]; exact S.bA⟩; clear HO_8 HO_9 HB hq_; have HO_8 := n0_; have HO_9 := n1_; have HB := n2_; clear n0_ n1_ n2_)); have p251 : 0 ≤ (t250 : Int) := S.oD; have q251 : t250 < (l0.length : Int) := S.oD; obtain ⟨ad251, e251, hx251_0, hx251_1, hx251_2, hx251_3⟩ := at_T71 HR0.out t250 p251 q251; cases e251; replace hx251_0 := S.hb HB hx251_0; replace hx251_1 := S.hb HB hx251_1; replace hx251_2 := S.hb HB hx251_2; replace hx251_3 := S.hb HB hx251_3; replace p251 := eq_true p251; replace q251 := eq_true q251) | ((with_reducible refine gate_dst (N := 12) rfl ?_); refine S.bx 12 (cs := #[.int .i64 0, .int .i64 0, .int .i64 0, .int .i64 0]) (t := 71) ?_; intro gb252 hg w45 hbox hb; replace HO_8 := S.rb HO_8 hb; replace HO_9 := S.rb HO_9 hb; have BK252 := Aside0.mk hbox; have GW252 := S.geA hg; have GE252 := S.geA hg; replace HB := S.sA hb; clear hb hbox hg; obtain ⟨Z46a, Z46b, Z46c, Z46d, Y46a, Y46b, Y46c, Y46d⟩ := S.c4 BK252.out))
                 generalize hq_ : ((((w45.setCell ⟨gb252, 0, none⟩ (.int .i64 ((rd_T71 l0 t250).f0))).setCell ⟨gb252, 1, none⟩ (.int .i64 ((rd_T71 l0 t250).f1))).setCell ⟨gb252, 2, none⟩ (.int .i64 ((rd_T71 l0 t250).f2))).setCell ⟨gb252, 3, none⟩ (.int .i64 ((rd_T71 l0 t250).f3))) = w47
                 replace HO_8 := S.f4 hq_ HO_8 BK252
                 replace HO_9 := S.f4 hq_ HO_9 BK252
                 replace BK252 := S.p4 hq_ BK252
                 replace HB := S.bQ hq_
                 clear hq_
                 replace HO_8 := S.dr HO_8
                 replace HO_9 := S.dr HO_9
                 replace BK252 := Aside0.mk (blk_drew BK252.out)
                 replace HB := Aside0.mk (below_drew1 HB.out)
                 have p253 : 0 ≤ (x11_3 : Int) := S.oD
                 have q253 : x11_3 < (t244.length : Int) := S.oD
                 obtain ⟨ad253, e253, hx253_0⟩ := Kd.at_int (Kd.R_reads' HO_9.out).2.2 x11_3 p253 q253
                 cases e253
                 replace p253 := eq_true p253
                 replace q253 := eq_true q253
                 have p255 : 0 ≤ (t254 : Int) := S.oD
                 have q255 : t254 < (l0.length : Int) := S.oD
                 obtain ⟨ad255, e255, hx255_0, hx255_1, hx255_2, hx255_3⟩ := at_T71 HR0.out t254 p255 q255
                 have hw255_3 := hx255_3
                 have hw255_2 := hx255_2
                 have hw255_1 := hx255_1
                 have hw255_0 := hx255_0
                 obtain rfl : ad251 = ad255 := (by injection e255)
                 replace hx255_0 := S.hb HB hx255_0
                 replace hx255_1 := S.hb HB hx255_1
                 replace hx255_2 := S.hb HB hx255_2
                 replace hx255_3 := S.hb HB hx255_3
                 replace p255 := eq_true p255
                 replace q255 := eq_true q255
                 refine S.st (n := 11) (ds := []) #[false, false, false, false, false, false, false, false, false, false, false] (fun w_ h_ => have x_ := S.d4 (S.Q h_ BK252.out) (And.intro (S.q h_ hx253_0) (And.intro (S.q h_ (S.hb HB hw255_0)) (And.intro (S.q h_ (S.hb HB hw255_1)) (And.intro (S.q h_ (S.hb HB hw255_2)) (S.q h_ (S.hb HB hw255_3)))))); x_) (fun hHeld => ?_); refine with_tabW spec_ClearBetween.tab11 spec_ClearBetween.bits11 (fun HT_ HW_ => ?_)
                 generalize w47.drew = w48 at HO_8 HO_9 BK252 HB hx253_0 hx255_0 hx255_1 hx255_2 hx255_3 hHeld ⊢
                 refine S.pS 1 51 ?_
                 refine S.pS 2 52 ?_
                 refine S.pS 3 53 ?_
                 refine S.pS 4 54 ?_
                 refine S.pS 5 55 ?_
                 refine S.tK 0 50 #[true, true, true, true, true, true, false, false, false, false, false] ?_
                 refine S.tK 6 56 #[true, true, true, true, true, true, true, false, false, false, false] ?_
                 refine S.oN 7 57 #[true, true, true, true, true, true, true, true, false, false, false] (fun K hK => ?_)
                 refine S.go Try.func96 #[.slice (some ad251) l0.length c0, .int .i64 (rd t244 x11_3)] ?_
                 with_reducible refine (spec_FindPath.calls k3 _ _ l0 (rd t244 x11_3) t254 _ ?s1 ?s2 A27.out).mono ?_
                 (case s1 => exact S.cA HR0.out)
                 (case s2 => exact HC0.out)
                 rintro e w' ⟨rfl, ⟨nd, rfl⟩⟩
                 refine ⟨_, rfl, ?_⟩
                 refine hK.out _ _ (S.d4 BK252.out (And.intro (hHeld.2.2.2.2.1) (And.intro ((S.hb HB hw255_0 :)) (And.intro ((S.hb HB hw255_1 :)) (And.intro ((S.hb HB hw255_2 :)) ((S.hb HB hw255_3 :))))))) (fun hHeld => ?_)
                 clear hK K
                 refine S.nm 57 ?_
                 refine S.pS 8 58 ?_
                 refine S.tK 9 59 #[true, true, true, true, true, true, true, true, true, true, false] ?_
                 refine S.oN 10 60 #[true, true, true, true, true, true, true, true, true, true, true] (fun K hK => ?_)
                 refine S.go Try.func124 #[.agg #[.int .i64 ((rd_T71 l0 t250).f0), .int .i64 ((rd_T71 l0 t250).f1), .int .i64 ((rd_T71 l0 t250).f2), .int .i64 ((rd_T71 l0 t250).f3)], .agg #[.int .i64 ((rd_T71 l0 t254).f0), .int .i64 ((rd_T71 l0 t254).f1), .int .i64 ((rd_T71 l0 t254).f2), .int .i64 ((rd_T71 l0 t254).f3)]] ?_
                 with_reducible refine (spec_Conflict.calls k3 ((rd_T71 l0 t250).f0) ((rd_T71 l0 t250).f1) ((rd_T71 l0 t250).f2) ((rd_T71 l0 t250).f3) ((rd_T71 l0 t254).f0) ((rd_T71 l0 t254).f1) ((rd_T71 l0 t254).f2) ((rd_T71 l0 t254).f3) false _ A30.out).mono ?_
                 rintro e w49 ⟨rfl, hb⟩
                 have HS4_ := (hb.cell (World.block_lt_of_cell? _ _ (hHeld.2.2.2.2.1))).trans (hHeld.2.2.2.2.1)
                 refine ⟨_, rfl, ?_⟩
                 replace HO_8 := S.rb HO_8 hb
                 replace HO_9 := S.rb HO_9 hb
                 replace BK252 := S.kb BK252 hb
                 replace HB := S.sG hb
                 (try clear hb)
                 (try clear hb2)
                 (try clear hk)
                 (try clear hi)
                 refine hK.out _ _ (S.d4 BK252.out (And.intro (HS4_) (And.intro ((S.hb HB hw255_0 :)) (And.intro ((S.hb HB hw255_1 :)) (And.intro ((S.hb HB hw255_2 :)) ((S.hb HB hw255_3 :))))))) (fun hHeld => ?_)
                 clear hK K
                 refine S.nm 60 ?_
                 refine done_ (done_of HT_.out (by kernel_rfl)) ?_
                 try go_wp2
                 go_roundg k3
                 case measure => have := HK1.out; have := HJ7.out; have := HK3.out; omega
                 case rel => exact ⟨(x7_3), (wrap64 (x11_3 + 1)), S.eA, S.eA, H', ⟨by have := HK1.out; have := HJ7.out; have := HK3.out; omega⟩, ⟨S.uR HO_8.out⟩, ⟨S.uR HO_9.out⟩, ⟨S.bG⟩⟩
               ·rw [if_neg c29] at H
                exact absurd H (by simp)
              ·rw [if_neg c28] at H
               exact absurd H (by simp)
             ·rw [if_neg c26] at H
              exact absurd H (by simp)
            ·rw [if_neg c25] at H
             exact absurd H (by simp)
           ·rw [if_neg c24] at H
            exact absurd H (by simp)
          ·rw [if_neg c22] at H
           exact absurd H (by simp)
         ·rw [if_neg c21] at H
          exact absurd H (by simp)
        ·have H' := Aside0.mk H
         clear H
         obtain ⟨Ao50, co50, eo50⟩ := Kd.R_slice HO_9.out
         subst eo50
         go_wp2
         go_roundg k3
         case measure => have := HK1.out; have := HJ7.out; have := HK3.out; omega
         case rel => exact ⟨(x7_3), (wrap64 (x10_1 + 1)), S.eA, S.eA, H', ⟨by have := HK1.out; have := HJ7.out; have := HK3.out; omega⟩, ⟨S.uR HO_8.out⟩, ⟨S.uR HO_9.out⟩, ⟨S.bA⟩⟩
     ·obtain rfl := Option.some.inj H
      go_wp2
      go_ret
      exact ⟨S.eW, S.bA⟩

end Go.Proofs.Ytjgigmghcfdomaa.PFnExactMakeSwitch
