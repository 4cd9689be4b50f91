/- Printed by a program: what the Go functions compute, as plain Lean functions (.f), and the proofs that the machine's calls come to just that (.calls). -/
import Derived.Test.YtjgigmghcfdomaaPFnExactSwitchSecondsx0
import Derived.Test.YtjgigmghcfdomaaPFnExactSwitchSecondsx3
import Derived.Test.YtjgigmghcfdomaaPFnExactSwitchSecondsx5
import Derived.Test.YtjgigmghcfdomaaPFnExactSwitchSecondsx7
import Derived.Test.YtjgigmghcfdomaaPFnExactSwitchSecondsx10
namespace Go.Proofs.Ytjgigmghcfdomaa.PFnExactSwitchSeconds
open Go.RowKit Go.Proofs.YtjgigmghcfdomaaW.PrintWords Go.Proofs.YtjgigmghcfdomaaW.PrintLast Go.Proofs.YtjgigmghcfdomaaW.PrintMore
attribute [local go_sem] max2_int min2_int max_two min_two max_three min_three max_four min_four   -- for this text's walks alone
set_option linter.unusedVariables false
set_option linter.unusedSimpArgs false

/-! ### spec_ClearBetween: function 126 -/
mutual
def spec_ClearBetween.l0 : Nat → List (S71) → List Int → List Int → Int → List Int → List Int → Int → Option (Int)
 | 0, _, _, _, _, _, _, _ => none
 | k + 1, x0, x1, x2, x7, x8, x9, x10 => if x10 < (x8.length : Int) then ((spec_IsTogether.f k x0 x1).bind fun t242 => (if t242 = true then ((spec_IsTogether.f k x0 x2).bind fun t243 => (spec_ClearBetween.j1 k x0 x1 x2 x7 x8 x9 x10 t243)) else (spec_ClearBetween.j1 k x0 x1 x2 x7 x8 x9 x10 false))) else (spec_ClearBetween.j1 k x0 x1 x2 x7 x8 x9 x10 false)
def spec_ClearBetween.j1 : Nat → List (S71) → List Int → List Int → Int → List Int → List Int → Int → Bool → Option (Int)
 | 0, _, _, _, _, _, _, _, _ => none
 | k + 1, x0, x1, x2, x7, x8, x9, x10, x32 => if x32 = true then (spec_ClearBetween.l1 k x0 x1 x2 x7 x8 x9 x10 0) else (some x7)
def spec_ClearBetween.l1 : Nat → List (S71) → List Int → List Int → Int → List Int → List Int → Int → Int → Option (Int)
 | 0, _, _, _, _, _, _, _, _ => none
 | k + 1, x0, x1, x2, x7, x8, x9, x10, x11 => if x11 < (x9.length : Int) then (if 0 ≤ x10 then (if x10 < (x8.length : Int) then ((spec_FindPath.f k x0 (rd x8 x10)).bind fun t245 => (if 0 ≤ t245 then (if t245 < (x0.length : Int) then (if 0 ≤ x11 then ((spec_FindPath.f k x0 (rd x9 x11)).bind fun t249 => (if 0 ≤ t249 then (if t249 < (x0.length : Int) then ((spec_Conflict.f k ((rd_T71 x0 t245).f0) ((rd_T71 x0 t245).f1) ((rd_T71 x0 t245).f2) ((rd_T71 x0 t245).f3) ((rd_T71 x0 t249).f0) ((rd_T71 x0 t249).f1) ((rd_T71 x0 t249).f2) ((rd_T71 x0 t249).f3)).bind fun t251 => (if t251 = true then ((spec_ClearOf.f ((rd_T71 x0 t245).f0) ((rd_T71 x0 t245).f1) ((rd_T71 x0 t245).f2) ((rd_T71 x0 t245).f3)).bind fun t252 => ((spec_Max.f x7 t252).bind fun t253 => (spec_ClearBetween.l1 k x0 x1 x2 t253 x8 x9 x10 (wrap64 (x11 + 1))))) else (spec_ClearBetween.l1 k x0 x1 x2 x7 x8 x9 x10 (wrap64 (x11 + 1))))) else (none)) else (none))) else (none)) else (none)) else (none))) else (none)) else (none)) else (spec_ClearBetween.l0 k x0 x1 x2 x7 x8 x9 (wrap64 (x10 + 1)))
end
def spec_ClearBetween.f (k : Nat) (l0 : List (S71)) (l1 : List Int) (l2 : List Int) : Option (Int) := (spec_Closes.f k l1 l2).bind fun t236 => ((spec_Closes.f k l2 l1).bind fun t239 => (spec_ClearBetween.l0 k l0 l1 l2 0 t236 t239 0))
def spec_ClearBetween.T11 : Bool × List (List Nat × List Nat) := (true, [([], []), ([], []), ([], []), ([], []), ([], []), ([3, 4], [3, 4]), ([5], [5]), ([2, 6], [2, 6]), ([1, 7], [1, 7]), ([8], [8]), ([0, 9, 7], [0, 9])])
def spec_ClearBetween.B11 : List Nat := [0, 0, 0, 0, 0, 24, 56, 124, 254, 510, 1023]
theorem spec_ClearBetween.tab11 : rtab .any (opsOf Try.f126 11) = spec_ClearBetween.T11 := by kernel_rfl
theorem spec_ClearBetween.bits11 : waitsOk spec_ClearBetween.T11.2 spec_ClearBetween.B11 = true := by kernel_rfl
set_option maxHeartbeats 8000000 in
set_option maxRecDepth 100000 in
theorem spec_ClearBetween.calls (k : Nat) (A0 : Option Addr) (c0 : Nat) (l0 : List (S71)) (A1 : Option Addr) (c1 : Nat) (l1 : List Int) (A2 : Option Addr) (c2 : Nat) (l2 : List Int) (r : Int) (w : World) (hr0 : Kd.C k71 w A0 l0.length l0) (hc0 : l0.length ≤ c0) (hr1 : Kd.C (Kd.int .i64) w A1 l1.length l1) (hc1 : l1.length ≤ c1) (hr2 : Kd.C (Kd.int .i64) w A2 l2.length l2) (hc2 : l2.length ≤ c2) (h : spec_ClearBetween.f k l0 l1 l2 = some r) :
  Calls Try.prog 126 #[.slice A0 l0.length c0, .slice A1 l1.length c1, .slice A2 l2.length c2] w fun e w' => e = .returned (.int .i64 r) ∧ Below w.heap.size w w' := by
 have hu71 := Try.underlying71
 have HR0 := Aside0.mk hr0
 have HC0 := Aside0.mk hc0
 clear hr0 hc0
 have HR1 := Aside0.mk hr1
 have HC1 := Aside0.mk hc1
 clear hr1 hc1
 have HR2 := Aside0.mk hr2
 have HC2 := Aside0.mk hc2
 clear hr2 hc2
 have HB := Aside0.mk (Below.refl w.heap.size w)
 have H : ((spec_Closes.f k l1 l2).bind fun t236 => ((spec_Closes.f k l2 l1).bind fun t239 => (spec_ClearBetween.l0 k l0 l1 l2 0 t236 t239 0))) = some r := h
 clear h
 replace H := S.bd H; obtain ⟨t236, A4, H⟩ := H
 (try dsimp only at H)
 replace H := S.bd H; obtain ⟨t239, A5, H⟩ := H
 (try dsimp only at H)
 have H' := Aside0.mk H
 clear H
 go_enter Try.func126, Try.ntmps126
 go_wp2_with (first | ((with_reducible refine gate_callee (f := 139) rfl ?_); refine S.gL (some 15) Try.func139 #[.slice A1 l1.length c1, .slice A2 l2.length c2] ?_; (with_reducible refine (spec_Closes.calls k _ _ l1 _ _ l2 t236 _ ?s1 HC1.out ?s3 HC2.out A4.out).mono ?_); (case s1 => repeat (first | exact HR1.out | (with_reducible refine Kd.C_alloc ?_ _) | (with_reducible refine Kd.C_drewN ?_ _) | (with_reducible refine Kd.C_drew ?_))); (case s3 => repeat (first | exact HR2.out | (with_reducible refine Kd.C_alloc ?_ _) | (with_reducible refine Kd.C_drewN ?_ _) | (with_reducible refine Kd.C_drew ?_))); rintro e w6 ⟨v237, rfl, ho0, hb⟩; refine ⟨_, rfl, ?_⟩; have HO238 := S.lwA ho0; replace HB := S.sA hb; (try clear hb); (try clear ho0)) | ((with_reducible refine gate_callee (f := 139) rfl ?_); refine S.gL (some 18) Try.func139 #[.slice A2 l2.length c2, .slice A1 l1.length c1] ?_; (with_reducible refine (spec_Closes.calls k _ _ l2 _ _ l1 t239 _ ?s1 HC2.out ?s3 HC1.out A5.out).mono ?_); (case s1 => exact S.cA HR2.out); (case s3 => exact S.cA HR1.out); rintro e w7 ⟨v240, rfl, ho0, hb⟩; refine ⟨_, rfl, ?_⟩; have HO241 := S.rnA ho0 HO238; replace HO238 := S.re HO238 ho0 hb; replace HB := S.sA hb; (try clear hb); (try clear ho0)))
 go_loopg [7, 10] k (fun kq v7 v10 w' => ∃ (x7_1 : Int) (x10_1 : Int), v7 = .int .i64 x7_1 ∧ v10 = .int .i64 x10_1 ∧ Aside0 (spec_ClearBetween.l0 kq l0 l1 l2 x7_1 t236 t239 x10_1 = some r) ∧ Aside0 (kq ≤ k) ∧ Aside0 (Kd.R (Kd.int .i64) 3 w' w.heap.size (fun k_ => S.N k_ v240) v237 t236) ∧ Aside0 (Kd.R (Kd.int .i64) 3 w' w.heap.size (fun k_ => S.N k_ v237) v240 t239) ∧ Aside0 (Below w.heap.size w w'))
 case atStart => exact ⟨(0), (0), S.eA, S.eA, H', ⟨Nat.le_refl _⟩, ⟨by (with_reducible repeat (first | apply Kd.R_alloc | apply Kd.R_drewN | apply Kd.R_drew)); exact Kd.R_mono HO238.out (fun _ hk => hk.2)⟩, ⟨by (with_reducible repeat (first | apply Kd.R_alloc | apply Kd.R_drewN | apply Kd.R_drew)); exact Kd.R_mono HO241.out (fun _ hk => hk.2)⟩, ⟨S.bA⟩⟩
 case round =>
  clear H'
  try clear c1
  try clear c2
  obtain ⟨x7_1, x10_1, rfl, rfl, HA, HK1, HO_8, HO_9, HB⟩ := hrel
  cases gk with
  | zero => exact absurd HA.out (by simp [spec_ClearBetween.l0])
  | succ k1 =>
   have H := HA.out
   clear HA
   simp only [spec_ClearBetween.l0] at H
   have HC8 := Aside0.mk H
   clear H
   go_upto_region 5 with (fail)
   go_cut [32] (fun v32 wc => ∃ (kq : Nat) (x32_7 : Bool), v32 = .bool x32_7 ∧ Aside0 (spec_ClearBetween.j1 kq l0 l1 l2 x7_1 t236 t239 x10_1 x32_7 = some r) ∧ Aside0 (kq ≤ k1) ∧ Aside0 (Kd.R (Kd.int .i64) 3 wc w.heap.size (fun k_ => S.N k_ v240) v237 t236) ∧ Aside0 (Kd.R (Kd.int .i64) 3 wc w.heap.size (fun k_ => S.N k_ v237) v240 t239) ∧ Aside0 (Below w.heap.size w wc))
   case first =>
    have H := HC8.out
    clear HC8
    replace H := S.dc H; rcases H with ⟨H, c9b0⟩ | ⟨H, c9b0⟩
    ·(first | rw [c9b0] | (simp only [i64_w, i32_w]; rw [c9b0]) | skip)
     replace H := S.bd H; obtain ⟨t242, A10, H⟩ := H
     (try dsimp only at H)
     replace H := S.db H; rcases H with ⟨rfl, H⟩ | ⟨rfl, H⟩
     ·replace H := S.bd H; obtain ⟨t243, A12, H⟩ := H
      (try dsimp only at H)
      have H' := Aside0.mk H
      clear H
      obtain ⟨Ao13, co13, eo13⟩ := Kd.R_slice HO_8.out
      subst eo13
      go_wp2_with (first | (go_at_call 99; (with_reducible refine (spec_IsTogether.calls k1 _ _ l0 _ _ l1 true _ ?s1 HC0.out ?s3 HC1.out A10.out).mono ?_); (case s1 => exact S.cA HR0.out); (case s3 => exact S.cA HR1.out); rintro e w14 ⟨rfl, hb⟩; replace HO_8 := S.rb HO_8 hb; replace HO_9 := S.rb HO_9 hb; replace HB := S.sA hb; (try clear hb)) | (go_at_call 99; (with_reducible refine (spec_IsTogether.calls k1 _ _ l0 _ _ l2 t243 _ ?s1 HC0.out ?s3 HC2.out A12.out).mono ?_); (case s1 => exact S.cA HR0.out); (case s3 => exact S.cA HR2.out); rintro e w15 ⟨rfl, hb⟩; replace HO_8 := S.rb HO_8 hb; replace HO_9 := S.rb HO_9 hb; replace HB := S.sA hb; (try clear hb)))
      go_meet
      case rel => exact ⟨_, (t243), S.eA, H', ⟨by have := HK1.out; first | omega | exact Nat.le_refl _⟩, ⟨S.uR HO_8.out⟩, ⟨S.uR HO_9.out⟩, ⟨S.bA⟩⟩
     ·have H' := Aside0.mk H
      clear H
      obtain ⟨Ao16, co16, eo16⟩ := Kd.R_slice HO_8.out
      subst eo16
      go_wp2_with (first | (go_at_call 99; (with_reducible refine (spec_IsTogether.calls k1 _ _ l0 _ _ l1 false _ ?s1 HC0.out ?s3 HC1.out A10.out).mono ?_); (case s1 => exact S.cA HR0.out); (case s3 => exact S.cA HR1.out); rintro e w17 ⟨rfl, hb⟩; replace HO_8 := S.rb HO_8 hb; replace HO_9 := S.rb HO_9 hb; replace HB := S.sA hb; (try clear hb)))
      go_meet
      case rel => exact ⟨_, (false), S.eA, H', ⟨by have := HK1.out; first | omega | exact Nat.le_refl _⟩, ⟨S.uR HO_8.out⟩, ⟨S.uR HO_9.out⟩, ⟨S.bA⟩⟩
    ·(first | rw [c9b0] | (simp only [i64_w, i32_w]; rw [c9b0]) | skip)
     have H' := Aside0.mk H
     clear H
     obtain ⟨Ao18, co18, eo18⟩ := Kd.R_slice HO_8.out
     subst eo18
     go_wp2
     go_meet
     case rel => exact ⟨_, (false), S.eA, H', ⟨by have := HK1.out; first | omega | exact Nat.le_refl _⟩, ⟨S.uR HO_8.out⟩, ⟨S.uR HO_9.out⟩, ⟨S.bA⟩⟩
   case rest =>
    clear HC8
    try clear c1
    try clear c2
    obtain ⟨kq, x32_7, rfl, HA, HJ7, HO_8, HO_9, HB⟩ := hcut
    cases kq with
    | zero => exact absurd HA.out (by simp [spec_ClearBetween.j1])
    | succ kj7 =>
     have H := HA.out
     clear HA
     simp only [spec_ClearBetween.j1] at H
     replace H := S.db H; rcases H with ⟨rfl, H⟩ | ⟨rfl, H⟩
     ·have H' := Aside0.mk H
      clear H
      go_wp2
      go_loopg [7, 11] kj7 (fun kq v7 v11 w' => ∃ (x7_3 : Int) (x11_3 : Int), v7 = .int .i64 x7_3 ∧ v11 = .int .i64 x11_3 ∧ Aside0 (spec_ClearBetween.l1 kq l0 l1 l2 x7_3 t236 t239 x10_1 x11_3 = some r) ∧ Aside0 (kq ≤ kj7) ∧ Aside0 (Kd.R (Kd.int .i64) 3 w' w.heap.size (fun k_ => S.N k_ v240) v237 t236) ∧ Aside0 (Kd.R (Kd.int .i64) 3 w' w.heap.size (fun k_ => S.N k_ v237) v240 t239) ∧ Aside0 (Below w.heap.size w w'))
      case atStart => exact ⟨(x7_1), (0), S.eA, S.eA, H', ⟨Nat.le_refl _⟩, ⟨S.uR HO_8.out⟩, ⟨S.uR HO_9.out⟩, ⟨S.bA⟩⟩
      case round =>
       clear H'
       try clear c1
       try clear c2
       try clear c19
       obtain ⟨x7_3, x11_3, rfl, rfl, HA, HK3, HO_8, HO_9, HB⟩ := hrel
       cases gk with
       | zero => exact absurd HA.out (by simp [spec_ClearBetween.l1])
       | succ k3 =>
        have H := HA.out
        clear HA
        simp only [spec_ClearBetween.l1] at H
        replace H := S.dc H; rcases H with ⟨H, c20b0⟩ | ⟨H, c20b0⟩
        ·by_cases c21 : 0 ≤ x10_1
         ·rw [if_pos c21] at H
          have c21b0 : decide (0 ≤ x10_1) = true := decide_eq_true c21
          clear c21
          by_cases c22 : x10_1 < (t236.length : Int)
          ·rw [if_pos c22] at H
           have c22b0 : decide (x10_1 < (t236.length : Int)) = true := decide_eq_true c22
           clear c22
           replace H := S.bd H; obtain ⟨t245, A23, H⟩ := H
           (try dsimp only at H)
           by_cases c24 : 0 ≤ t245
           ·rw [if_pos c24] at H
            have c24b0 : decide (0 ≤ t245) = true := decide_eq_true c24
            clear c24
            by_cases c25 : t245 < (l0.length : Int)
            ·rw [if_pos c25] at H
             have c25b0 : decide (t245 < (l0.length : Int)) = true := decide_eq_true c25
             clear c25
             by_cases c26 : 0 ≤ x11_3
             ·rw [if_pos c26] at H
              have c26b0 : decide (0 ≤ x11_3) = true := decide_eq_true c26
              clear c26
              replace H := S.bd H; obtain ⟨t249, A27, H⟩ := H
              (try dsimp only at H)
              by_cases c28 : 0 ≤ t249
              ·rw [if_pos c28] at H
               have c28b0 : decide (0 ≤ t249) = true := decide_eq_true c28
               clear c28
               by_cases c29 : t249 < (l0.length : Int)
               ·rw [if_pos c29] at H
                have c29b0 : decide (t249 < (l0.length : Int)) = true := decide_eq_true c29
                clear c29
                replace H := S.bd H; obtain ⟨t251, A30, H⟩ := H
                (try dsimp only at H)
                replace H := S.db H; rcases H with ⟨rfl, H⟩ | ⟨rfl, H⟩
                ·replace H := S.bd H; obtain ⟨t252, A32, H⟩ := H
                 (try dsimp only at H)
                 replace H := S.bd H; obtain ⟨t253, A33, H⟩ := H
                 (try dsimp only at H)
                 have H' := Aside0.mk H
                 clear H
                 obtain ⟨Ao34, co34, eo34⟩ := Kd.R_slice HO_9.out
                 subst eo34
                 obtain ⟨Ao35, co35, eo35⟩ := Kd.R_slice HO_8.out
                 subst eo35
                 have p244 : 0 ≤ (x10_1 : Int) := S.oD
                 have q244 : x10_1 < (t236.length : Int) := S.oD
                 obtain ⟨ad244, e244, hx244_0⟩ := Kd.at_int (Kd.R_reads' HO_8.out).2.2 x10_1 p244 q244
                 cases e244
                 replace p244 := eq_true p244
                 replace q244 := eq_true q244
                 try go_wp2_with (first | ((with_reducible refine gate_callee (f := 96) rfl ?_); refine S.gL (some 47) Try.func96 #[.slice A0 l0.length c0, .int .i64 (rd t236 x10_1)] ?_; (with_reducible refine (spec_FindPath.calls k3 _ _ l0 (rd t236 x10_1) t245 _ ?s1 HC0.out A23.out).mono ?_); (case s1 => exact S.cA HR0.out); rintro e w' ⟨rfl, ⟨nd, rfl⟩⟩; refine ⟨_, rfl, ?_⟩; (try (rw [drewN_self wr]; generalize hq_ : World.drewN wr _ = wr; have n0_ : Aside0 (Kd.R (Kd.int .i64) 3 wr w.heap.size (fun k_ => S.N k_ (.slice Ao34 t239.length co34)) (.slice (some ad244) t236.length co35) t236) := ⟨by rw [← hq_]; exact (S.uR HO_8.out)⟩; have n1_ : Aside0 (Kd.R (Kd.int .i64) 3 wr w.heap.size (fun k_ => some k_ ≠ (.slice (some ad244) t236.length co35 : Value).ownBlock) (.slice Ao34 t239.length co34) t239) := ⟨by rw [← hq_]; exact (S.uR HO_9.out)⟩; have n2_ : Aside0 (Below w.heap.size w wr) := ⟨by rw [← hq_]; exact S.bA⟩; clear HO_8 HO_9 HB hq_; have HO_8 := n0_; have HO_9 := n1_; have HB := n2_; clear n0_ n1_ n2_)); have p246 : 0 ≤ (t245 : Int) := S.oD; have q246 : t245 < (l0.length : Int) := S.oD; obtain ⟨ad246, e246, hx246_0, hx246_1, hx246_2, hx246_3⟩ := at_T71 HR0.out t245 p246 q246; cases e246; replace hx246_0 := S.hb HB hx246_0; replace hx246_1 := S.hb HB hx246_1; replace hx246_2 := S.hb HB hx246_2; replace hx246_3 := S.hb HB hx246_3; replace p246 := eq_true p246; replace q246 := eq_true q246) | ((with_reducible refine gate_dst (N := 12) rfl ?_); refine S.bx 12 (cs := #[.int .i64 0, .int .i64 0, .int .i64 0, .int .i64 0]) (t := 71) ?_; intro gb247 hg w36 hbox hb; replace HO_8 := S.rb HO_8 hb; replace HO_9 := S.rb HO_9 hb; have BK247 := Aside0.mk hbox; have GW247 := S.geA hg; have GE247 := S.geA hg; replace HB := S.sA hb; clear hb hbox hg; obtain ⟨Z37a, Z37b, Z37c, Z37d, Y37a, Y37b, Y37c, Y37d⟩ := S.c4 BK247.out))
                 generalize hq_ : ((((w36.setCell ⟨gb247, 0, none⟩ (.int .i64 ((rd_T71 l0 t245).f0))).setCell ⟨gb247, 1, none⟩ (.int .i64 ((rd_T71 l0 t245).f1))).setCell ⟨gb247, 2, none⟩ (.int .i64 ((rd_T71 l0 t245).f2))).setCell ⟨gb247, 3, none⟩ (.int .i64 ((rd_T71 l0 t245).f3))) = w38
                 replace HO_8 := S.f4 hq_ HO_8 BK247
                 replace HO_9 := S.f4 hq_ HO_9 BK247
                 replace BK247 := S.p4 hq_ BK247
                 replace HB := S.bQ hq_
                 clear hq_
                 replace HO_8 := S.dr HO_8
                 replace HO_9 := S.dr HO_9
                 replace BK247 := Aside0.mk (blk_drew BK247.out)
                 replace HB := Aside0.mk (below_drew1 HB.out)
                 have p248 : 0 ≤ (x11_3 : Int) := S.oD
                 have q248 : x11_3 < (t239.length : Int) := S.oD
                 obtain ⟨ad248, e248, hx248_0⟩ := Kd.at_int (Kd.R_reads' HO_9.out).2.2 x11_3 p248 q248
                 cases e248
                 replace p248 := eq_true p248
                 replace q248 := eq_true q248
                 have p250 : 0 ≤ (t249 : Int) := S.oD
                 have q250 : t249 < (l0.length : Int) := S.oD
                 obtain ⟨ad250, e250, hx250_0, hx250_1, hx250_2, hx250_3⟩ := at_T71 HR0.out t249 p250 q250
                 have hw250_3 := hx250_3
                 have hw250_2 := hx250_2
                 have hw250_1 := hx250_1
                 have hw250_0 := hx250_0
                 obtain rfl : ad246 = ad250 := (by injection e250)
                 replace hx250_0 := S.hb HB hx250_0
                 replace hx250_1 := S.hb HB hx250_1
                 replace hx250_2 := S.hb HB hx250_2
                 replace hx250_3 := S.hb HB hx250_3
                 replace p250 := eq_true p250
                 replace q250 := eq_true q250
                 refine S.st (n := 11) (ds := []) #[false, false, false, false, false, false, false, false, false, false, false] (fun w_ h_ => have x_ := S.d4 (S.Q h_ BK247.out) (And.intro (S.q h_ hx248_0) (And.intro (S.q h_ (S.hb HB hw250_0)) (And.intro (S.q h_ (S.hb HB hw250_1)) (And.intro (S.q h_ (S.hb HB hw250_2)) (S.q h_ (S.hb HB hw250_3)))))); x_) (fun hHeld => ?_); refine with_tabW spec_ClearBetween.tab11 spec_ClearBetween.bits11 (fun HT_ HW_ => ?_)
                 generalize w38.drew = w39 at HO_8 HO_9 BK247 HB hx248_0 hx250_0 hx250_1 hx250_2 hx250_3 hHeld ⊢
                 refine S.pS 1 51 ?_
                 refine S.pS 2 52 ?_
                 refine S.pS 3 53 ?_
                 refine S.pS 4 54 ?_
                 refine S.pS 5 55 ?_
                 refine S.tK 0 50 #[true, true, true, true, true, true, false, false, false, false, false] ?_
                 refine S.tK 6 56 #[true, true, true, true, true, true, true, false, false, false, false] ?_
                 refine S.oN 7 57 #[true, true, true, true, true, true, true, true, false, false, false] (fun K hK => ?_)
                 refine S.go Try.func96 #[.slice (some ad246) l0.length c0, .int .i64 (rd t239 x11_3)] ?_
                 with_reducible refine (spec_FindPath.calls k3 _ _ l0 (rd t239 x11_3) t249 _ ?s1 ?s2 A27.out).mono ?_
                 (case s1 => exact S.cA HR0.out)
                 (case s2 => exact HC0.out)
                 rintro e w' ⟨rfl, ⟨nd, rfl⟩⟩
                 refine ⟨_, rfl, ?_⟩
                 refine hK.out _ _ (S.d4 BK247.out (And.intro (hHeld.2.2.2.2.1) (And.intro ((S.hb HB hw250_0 :)) (And.intro ((S.hb HB hw250_1 :)) (And.intro ((S.hb HB hw250_2 :)) ((S.hb HB hw250_3 :))))))) (fun hHeld => ?_)
                 clear hK K
                 refine S.nm 57 ?_
                 refine S.pS 8 58 ?_
                 refine S.tK 9 59 #[true, true, true, true, true, true, true, true, true, true, false] ?_
                 refine S.oN 10 60 #[true, true, true, true, true, true, true, true, true, true, true] (fun K hK => ?_)
                 refine S.go Try.func124 #[.agg #[.int .i64 ((rd_T71 l0 t245).f0), .int .i64 ((rd_T71 l0 t245).f1), .int .i64 ((rd_T71 l0 t245).f2), .int .i64 ((rd_T71 l0 t245).f3)], .agg #[.int .i64 ((rd_T71 l0 t249).f0), .int .i64 ((rd_T71 l0 t249).f1), .int .i64 ((rd_T71 l0 t249).f2), .int .i64 ((rd_T71 l0 t249).f3)]] ?_
                 with_reducible refine (spec_Conflict.calls k3 ((rd_T71 l0 t245).f0) ((rd_T71 l0 t245).f1) ((rd_T71 l0 t245).f2) ((rd_T71 l0 t245).f3) ((rd_T71 l0 t249).f0) ((rd_T71 l0 t249).f1) ((rd_T71 l0 t249).f2) ((rd_T71 l0 t249).f3) true _ A30.out).mono ?_
                 rintro e w40 ⟨rfl, hb⟩
                 have HS4_ := (hb.cell (World.block_lt_of_cell? _ _ (hHeld.2.2.2.2.1))).trans (hHeld.2.2.2.2.1)
                 refine ⟨_, rfl, ?_⟩
                 replace HO_8 := S.rb HO_8 hb
                 replace HO_9 := S.rb HO_9 hb
                 replace BK247 := S.kb BK247 hb
                 replace HB := S.sG hb
                 (try clear hb)
                 (try clear hb2)
                 (try clear hk)
                 (try clear hi)
                 refine hK.out _ _ (S.d4 BK247.out (And.intro (HS4_) (And.intro ((S.hb HB hw250_0 :)) (And.intro ((S.hb HB hw250_1 :)) (And.intro ((S.hb HB hw250_2 :)) ((S.hb HB hw250_3 :))))))) (fun hHeld => ?_)
                 clear hK K
                 refine S.nm 60 ?_
                 refine done_ (done_of HT_.out (by kernel_rfl)) ?_
                 obtain ⟨Z41a, Z41b, Z41c, Z41d, Y41a, Y41b, Y41c, Y41d⟩ := S.c4 BK247.out
                 try go_wp2_with (first | ((with_reducible refine gate_callee (f := 123) rfl ?_); refine S.gL (some 63) Try.func123 #[.agg #[.int .i64 ((rd_T71 l0 t245).f0), .int .i64 ((rd_T71 l0 t245).f1), .int .i64 ((rd_T71 l0 t245).f2), .int .i64 ((rd_T71 l0 t245).f3)]] ?_; (with_reducible refine (spec_ClearOf.calls ((rd_T71 l0 t245).f0) ((rd_T71 l0 t245).f1) ((rd_T71 l0 t245).f2) ((rd_T71 l0 t245).f3) t252 _ A32.out).mono ?_); rintro e w42 ⟨rfl, hb⟩; refine ⟨_, rfl, ?_⟩; replace HO_8 := S.rb HO_8 hb; replace HO_9 := S.rb HO_9 hb; replace BK247 := S.kb BK247 hb; replace HB := S.sG hb; (try clear hb)) | ((with_reducible refine gate_callee (f := 132) rfl ?_); refine S.gL (some 64) Try.func132 #[.int .i64 x7_3, .int .i64 t252] ?_; (with_reducible refine (spec_Max.calls x7_3 t252 t253 _ A33.out).mono ?_); rintro e w' ⟨rfl, ⟨nd, rfl⟩⟩; refine ⟨_, rfl, ?_⟩))
                 go_roundg k3
                 case measure => have := HK1.out; have := HJ7.out; have := HK3.out; omega
                 case rel => exact ⟨(t253), (wrap64 (x11_3 + 1)), S.eA, S.eA, H', ⟨by have := HK1.out; have := HJ7.out; have := HK3.out; omega⟩, ⟨S.uR HO_8.out⟩, ⟨S.uR HO_9.out⟩, ⟨S.bG⟩⟩
                ·have H' := Aside0.mk H
                 clear H
                 obtain ⟨Ao43, co43, eo43⟩ := Kd.R_slice HO_9.out
                 subst eo43
                 obtain ⟨Ao44, co44, eo44⟩ := Kd.R_slice HO_8.out
                 subst eo44
                 have p244 : 0 ≤ (x10_1 : Int) := S.oD
                 have q244 : x10_1 < (t236.length : Int) := S.oD
                 obtain ⟨ad244, e244, hx244_0⟩ := Kd.at_int (Kd.R_reads' HO_8.out).2.2 x10_1 p244 q244
                 cases e244
                 replace p244 := eq_true p244
                 replace q244 := eq_true q244
                 try go_wp2_with (first | ((with_reducible refine gate_callee (f := 96) rfl ?_); refine S.gL (some 47) Try.func96 #[.slice A0 l0.length c0, .int .i64 (rd t236 x10_1)] ?_; (with_reducible refine (spec_FindPath.calls k3 _ _ l0 (rd t236 x10_1) t245 _ ?s1 HC0.out A23.out).mono ?_); (case s1 => exact S.cA HR0.out); rintro e w' ⟨rfl, ⟨nd, rfl⟩⟩; refine ⟨_, rfl, ?_⟩; (try (rw [drewN_self wr]; generalize hq_ : World.drewN wr _ = wr; have n0_ : Aside0 (Kd.R (Kd.int .i64) 3 wr w.heap.size (fun k_ => S.N k_ (.slice Ao43 t239.length co43)) (.slice (some ad244) t236.length co44) t236) := ⟨by rw [← hq_]; exact (S.uR HO_8.out)⟩; have n1_ : Aside0 (Kd.R (Kd.int .i64) 3 wr w.heap.size (fun k_ => some k_ ≠ (.slice (some ad244) t236.length co44 : Value).ownBlock) (.slice Ao43 t239.length co43) t239) := ⟨by rw [← hq_]; exact (S.uR HO_9.out)⟩; have n2_ : Aside0 (Below w.heap.size w wr) := ⟨by rw [← hq_]; exact S.bA⟩; clear HO_8 HO_9 HB hq_; have HO_8 := n0_; have HO_9 := n1_; have HB := n2_; clear n0_ n1_ n2_)); have p246 : 0 ≤ (t245 : Int) := S.oD; have q246 : t245 < (l0.length : Int) := S.oD; obtain ⟨ad246, e246, hx246_0, hx246_1, hx246_2, hx246_3⟩ := at_T71 HR0.out t245 p246 q246; cases e246; replace hx246_0 := S.hb HB hx246_0; replace hx246_1 := S.hb HB hx246_1; replace hx246_2 := S.hb HB hx246_2; replace hx246_3 := S.hb HB hx246_3; replace p246 := eq_true p246; replace q246 := eq_true q246) | ((with_reducible refine gate_dst (N := 12) rfl ?_); refine S.bx 12 (cs := #[.int .i64 0, .int .i64 0, .int .i64 0, .int .i64 0]) (t := 71) ?_; intro gb247 hg w45 hbox hb; replace HO_8 := S.rb HO_8 hb; replace HO_9 := S.rb HO_9 hb; have BK247 := Aside0.mk hbox; have GW247 := S.geA hg; have GE247 := S.geA hg; replace HB := S.sA hb; clear hb hbox hg; obtain ⟨Z46a, Z46b, Z46c, Z46d, Y46a, Y46b, Y46c, Y46d⟩ := S.c4 BK247.out))
                 generalize hq_ : ((((w45.setCell ⟨gb247, 0, none⟩ (.int .i64 ((rd_T71 l0 t245).f0))).setCell ⟨gb247, 1, none⟩ (.int .i64 ((rd_T71 l0 t245).f1))).setCell ⟨gb247, 2, none⟩ (.int .i64 ((rd_T71 l0 t245).f2))).setCell ⟨gb247, 3, none⟩ (.int .i64 ((rd_T71 l0 t245).f3))) = w47
                 replace HO_8 := S.f4 hq_ HO_8 BK247
                 replace HO_9 := S.f4 hq_ HO_9 BK247
                 replace BK247 := S.p4 hq_ BK247
                 replace HB := S.bQ hq_
                 clear hq_
                 replace HO_8 := S.dr HO_8
                 replace HO_9 := S.dr HO_9
                 replace BK247 := Aside0.mk (blk_drew BK247.out)
                 replace HB := Aside0.mk (below_drew1 HB.out)
                 have p248 : 0 ≤ (x11_3 : Int) := S.oD
                 have q248 : x11_3 < (t239.length : Int) := S.oD
                 obtain ⟨ad248, e248, hx248_0⟩ := Kd.at_int (Kd.R_reads' HO_9.out).2.2 x11_3 p248 q248
                 cases e248
                 replace p248 := eq_true p248
                 replace q248 := eq_true q248
                 have p250 : 0 ≤ (t249 : Int) := S.oD
                 have q250 : t249 < (l0.length : Int) := S.oD
                 obtain ⟨ad250, e250, hx250_0, hx250_1, hx250_2, hx250_3⟩ := at_T71 HR0.out t249 p250 q250
                 have hw250_3 := hx250_3
                 have hw250_2 := hx250_2
                 have hw250_1 := hx250_1
                 have hw250_0 := hx250_0
                 obtain rfl : ad246 = ad250 := (by injection e250)
                 replace hx250_0 := S.hb HB hx250_0
                 replace hx250_1 := S.hb HB hx250_1
                 replace hx250_2 := S.hb HB hx250_2
                 replace hx250_3 := S.hb HB hx250_3
                 replace p250 := eq_true p250
                 replace q250 := eq_true q250
                 refine S.st (n := 11) (ds := []) #[false, false, false, false, false, false, false, false, false, false, false] (fun w_ h_ => have x_ := S.d4 (S.Q h_ BK247.out) (And.intro (S.q h_ hx248_0) (And.intro (S.q h_ (S.hb HB hw250_0)) (And.intro (S.q h_ (S.hb HB hw250_1)) (And.intro (S.q h_ (S.hb HB hw250_2)) (S.q h_ (S.hb HB hw250_3)))))); x_) (fun hHeld => ?_); refine with_tabW spec_ClearBetween.tab11 spec_ClearBetween.bits11 (fun HT_ HW_ => ?_)
                 generalize w47.drew = w48 at HO_8 HO_9 BK247 HB hx248_0 hx250_0 hx250_1 hx250_2 hx250_3 hHeld ⊢
                 refine S.pS 1 51 ?_
                 refine S.pS 2 52 ?_
                 refine S.pS 3 53 ?_
                 refine S.pS 4 54 ?_
                 refine S.pS 5 55 ?_
                 refine S.tK 0 50 #[true, true, true, true, true, true, false, false, false, false, false] ?_
                 refine S.tK 6 56 #[true, true, true, true, true, true, true, false, false, false, false] ?_
                 refine S.oN 7 57 #[true, true, true, true, true, true, true, true, false, false, false] (fun K hK => ?_)
                 refine S.go Try.func96 #[.slice (some ad246) l0.length c0, .int .i64 (rd t239 x11_3)] ?_
                 with_reducible refine (spec_FindPath.calls k3 _ _ l0 (rd t239 x11_3) t249 _ ?s1 ?s2 A27.out).mono ?_
                 (case s1 => exact S.cA HR0.out)
                 (case s2 => exact HC0.out)
                 rintro e w' ⟨rfl, ⟨nd, rfl⟩⟩
                 refine ⟨_, rfl, ?_⟩
                 refine hK.out _ _ (S.d4 BK247.out (And.intro (hHeld.2.2.2.2.1) (And.intro ((S.hb HB hw250_0 :)) (And.intro ((S.hb HB hw250_1 :)) (And.intro ((S.hb HB hw250_2 :)) ((S.hb HB hw250_3 :))))))) (fun hHeld => ?_)
                 clear hK K
                 refine S.nm 57 ?_
                 refine S.pS 8 58 ?_
                 refine S.tK 9 59 #[true, true, true, true, true, true, true, true, true, true, false] ?_
                 refine S.oN 10 60 #[true, true, true, true, true, true, true, true, true, true, true] (fun K hK => ?_)
                 refine S.go Try.func124 #[.agg #[.int .i64 ((rd_T71 l0 t245).f0), .int .i64 ((rd_T71 l0 t245).f1), .int .i64 ((rd_T71 l0 t245).f2), .int .i64 ((rd_T71 l0 t245).f3)], .agg #[.int .i64 ((rd_T71 l0 t249).f0), .int .i64 ((rd_T71 l0 t249).f1), .int .i64 ((rd_T71 l0 t249).f2), .int .i64 ((rd_T71 l0 t249).f3)]] ?_
                 with_reducible refine (spec_Conflict.calls k3 ((rd_T71 l0 t245).f0) ((rd_T71 l0 t245).f1) ((rd_T71 l0 t245).f2) ((rd_T71 l0 t245).f3) ((rd_T71 l0 t249).f0) ((rd_T71 l0 t249).f1) ((rd_T71 l0 t249).f2) ((rd_T71 l0 t249).f3) false _ A30.out).mono ?_
                 rintro e w49 ⟨rfl, hb⟩
                 have HS4_ := (hb.cell (World.block_lt_of_cell? _ _ (hHeld.2.2.2.2.1))).trans (hHeld.2.2.2.2.1)
                 refine ⟨_, rfl, ?_⟩
                 replace HO_8 := S.rb HO_8 hb
                 replace HO_9 := S.rb HO_9 hb
                 replace BK247 := S.kb BK247 hb
                 replace HB := S.sG hb
                 (try clear hb)
                 (try clear hb2)
                 (try clear hk)
                 (try clear hi)
                 refine hK.out _ _ (S.d4 BK247.out (And.intro (HS4_) (And.intro ((S.hb HB hw250_0 :)) (And.intro ((S.hb HB hw250_1 :)) (And.intro ((S.hb HB hw250_2 :)) ((S.hb HB hw250_3 :))))))) (fun hHeld => ?_)
                 clear hK K
                 refine S.nm 60 ?_
                 refine done_ (done_of HT_.out (by kernel_rfl)) ?_
                 try go_wp2
                 go_roundg k3
                 case measure => have := HK1.out; have := HJ7.out; have := HK3.out; omega
                 case rel => exact ⟨(x7_3), (wrap64 (x11_3 + 1)), S.eA, S.eA, H', ⟨by have := HK1.out; have := HJ7.out; have := HK3.out; omega⟩, ⟨S.uR HO_8.out⟩, ⟨S.uR HO_9.out⟩, ⟨S.bG⟩⟩
               ·rw [if_neg c29] at H
                exact absurd H (by simp)
              ·rw [if_neg c28] at H
               exact absurd H (by simp)
             ·rw [if_neg c26] at H
              exact absurd H (by simp)
            ·rw [if_neg c25] at H
             exact absurd H (by simp)
           ·rw [if_neg c24] at H
            exact absurd H (by simp)
          ·rw [if_neg c22] at H
           exact absurd H (by simp)
         ·rw [if_neg c21] at H
          exact absurd H (by simp)
        ·have H' := Aside0.mk H
         clear H
         obtain ⟨Ao50, co50, eo50⟩ := Kd.R_slice HO_9.out
         subst eo50
         go_wp2
         go_roundg k3
         case measure => have := HK1.out; have := HJ7.out; have := HK3.out; omega
         case rel => exact ⟨(x7_3), (wrap64 (x10_1 + 1)), S.eA, S.eA, H', ⟨by have := HK1.out; have := HJ7.out; have := HK3.out; omega⟩, ⟨S.uR HO_8.out⟩, ⟨S.uR HO_9.out⟩, ⟨S.bA⟩⟩
     ·obtain rfl := Option.some.inj H
      go_wp2
      go_ret
      exact ⟨S.eW, S.bA⟩

end Go.Proofs.Ytjgigmghcfdomaa.PFnExactSwitchSeconds
