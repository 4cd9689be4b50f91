/- Printed by a program: what the Go functions compute, as plain Lean functions (.f), and the proofs that the machine's calls come to just that (.calls). -/
import Derived.Test.YtjgigmghcfdomaaPFnExactMakeSwitchx0
import Derived.Test.YtjgigmghcfdomaaPFnExactMakeSwitchx13
import Derived.Test.YtjgigmghcfdomaaPFnExactMakeSwitchx17
import Derived.Test.YtjgigmghcfdomaaPFnExactMakeSwitchx18
import Derived.Test.YtjgigmghcfdomaaPFnExactMakeSwitchx21
namespace Go.Proofs.Ytjgigmghcfdomaa.PFnExactMakeSwitch
open Go.RowKit Go.Proofs.YtjgigmghcfdomaaW.PrintWords Go.Proofs.YtjgigmghcfdomaaW.PrintLast Go.Proofs.YtjgigmghcfdomaaW.PrintMore
attribute [local go_sem] max2_int min2_int max_two min_two max_three min_three max_four min_four   -- for this text's walks alone
set_option linter.unusedVariables false
set_option linter.unusedSimpArgs false

/-! ### impl_ClearBetween: function 109 -/
mutual
def impl_ClearBetween.j0 : Nat → List (S71) → List Int → List Int → Int → Bool → Option (Int)
 | 0, _, _, _, _, _ => none
 | k + 1, x0, x1, x2, x7, x22 => if x22 = true then (some x7) else ((impl_Closes.f k x1 x2).bind fun t402 => (impl_ClearBetween.l0 k x0 x1 x2 x7 t402 (t402.length : Int) 0))
def impl_ClearBetween.l0 : Nat → List (S71) → List Int → List Int → Int → List Int → Int → Int → Option (Int)
 | 0, _, _, _, _, _, _, _ => none
 | k + 1, x0, x1, x2, x7, x26, x27, x28 => if x28 < x27 then (if 0 ≤ x28 then (if x28 < (x26.length : Int) then ((impl_Closes.f k x2 x1).bind fun t406 => (impl_ClearBetween.l1 k x0 x1 x2 x7 (rd x26 x28) x26 x27 x28 t406 (t406.length : Int) 0)) else (none)) else (none)) else (some x7)
def impl_ClearBetween.l1 : Nat → List (S71) → List Int → List Int → Int → Int → List Int → Int → Int → List Int → Int → Int → Option (Int)
 | 0, _, _, _, _, _, _, _, _, _, _, _ => none
 | k + 1, x0, x1, x2, x7, x9, x26, x27, x28, x34, x35, x36 => if x36 < x35 then (if 0 ≤ x36 then (if x36 < (x34.length : Int) then ((impl_FindPath.f x0 x9).bind fun t410 => (if 0 ≤ t410 then (if t410 < (x0.length : Int) then ((impl_FindPath.f x0 (rd x34 x36)).bind fun t413 => (if 0 ≤ t413 then (if t413 < (x0.length : Int) then ((impl_Conflict.f k ((rd_T71 x0 t410).f0) ((rd_T71 x0 t410).f1) ((rd_T71 x0 t410).f2) ((rd_T71 x0 t410).f3) ((rd_T71 x0 t413).f0) ((rd_T71 x0 t413).f1) ((rd_T71 x0 t413).f2) ((rd_T71 x0 t413).f3)).bind fun t415 => (if t415 = true then ((impl_ClearOf.f ((rd_T71 x0 t410).f0) ((rd_T71 x0 t410).f1) ((rd_T71 x0 t410).f2) ((rd_T71 x0 t410).f3)).bind fun t416 => (impl_ClearBetween.l1 k x0 x1 x2 (mx x7 t416) x9 x26 x27 x28 x34 x35 (wrap64 (x36 + 1)))) else (impl_ClearBetween.l1 k x0 x1 x2 x7 x9 x26 x27 x28 x34 x35 (wrap64 (x36 + 1))))) else (none)) else (none))) else (none)) else (none))) else (none)) else (none)) else (impl_ClearBetween.l0 k x0 x1 x2 x7 x26 x27 (wrap64 (x28 + 1)))
end
def impl_ClearBetween.f (k : Nat) (l0 : List (S71)) (l1 : List Int) (l2 : List Int) : Option (Int) := (impl_IsTogether.f k l0 l1).bind fun t400 => (if t400 = true then ((impl_IsTogether.f k l0 l2).bind fun t401 => (impl_ClearBetween.j0 k l0 l1 l2 0 (!t401))) else (impl_ClearBetween.j0 k l0 l1 l2 0 true))
def impl_ClearBetween.T11 : Bool × List (List Nat × List Nat) := (true, [([], []), ([], []), ([], []), ([], []), ([2, 3], [2, 3]), ([1, 4], [1, 4]), ([5], [5]), ([0, 6, 4], [0, 6])])
def impl_ClearBetween.B11 : List Nat := [0, 0, 0, 0, 12, 30, 62, 127]
theorem impl_ClearBetween.tab11 : rtab .any (opsOf Try.f109 11) = impl_ClearBetween.T11 := by kernel_rfl
theorem impl_ClearBetween.bits11 : waitsOk impl_ClearBetween.T11.2 impl_ClearBetween.B11 = true := by kernel_rfl
set_option maxHeartbeats 8000000 in
set_option maxRecDepth 100000 in
theorem impl_ClearBetween.calls (k : Nat) (A0 : Option Addr) (c0 : Nat) (l0 : List (S71)) (A1 : Option Addr) (c1 : Nat) (l1 : List Int) (A2 : Option Addr) (c2 : Nat) (l2 : List Int) (r : Int) (w : World) (hr0 : Kd.C k71 w A0 l0.length l0) (hc0 : l0.length ≤ c0) (hr1 : Kd.C (Kd.int .i64) w A1 l1.length l1) (hc1 : l1.length ≤ c1) (hr2 : Kd.C (Kd.int .i64) w A2 l2.length l2) (hc2 : l2.length ≤ c2) (h : impl_ClearBetween.f k l0 l1 l2 = some r) :
  Calls Try.prog 109 #[.slice A0 l0.length c0, .slice A1 l1.length c1, .slice A2 l2.length c2] w fun e w' => e = .returned (.int .i64 r) ∧ Below w.heap.size w w' := by
 have hu71 := Try.underlying71
 have HR0 := Aside0.mk hr0
 have HC0 := Aside0.mk hc0
 clear hr0 hc0
 have HR1 := Aside0.mk hr1
 have HC1 := Aside0.mk hc1
 clear hr1 hc1
 have HR2 := Aside0.mk hr2
 have HC2 := Aside0.mk hc2
 clear hr2 hc2
 have HB := Aside0.mk (Below.refl w.heap.size w)
 have H : ((impl_IsTogether.f k l0 l1).bind fun t400 => (if t400 = true then ((impl_IsTogether.f k l0 l2).bind fun t401 => (impl_ClearBetween.j0 k l0 l1 l2 0 (!t401))) else (impl_ClearBetween.j0 k l0 l1 l2 0 true))) = some r := h
 clear h
 have HC4 := Aside0.mk H
 clear H
 go_enter Try.func109, Try.ntmps109
 go_upto_region 2 with (fail)
 go_cut [22] (fun v22 wc => ∃ (kq : Nat) (x22_3 : Bool), v22 = .bool x22_3 ∧ Aside0 (impl_ClearBetween.j0 kq l0 l1 l2 0 x22_3 = some r) ∧ Aside0 (kq ≤ k) ∧ Aside0 (Below w.heap.size w wc))
 case first =>
  have H := HC4.out
  clear HC4
  replace H := S.bd H; obtain ⟨t400, A5, H⟩ := H
  (try dsimp only at H)
  replace H := S.db H; rcases H with ⟨rfl, H⟩ | ⟨rfl, H⟩
  ·replace H := S.bd H; obtain ⟨t401, A7, H⟩ := H
   (try dsimp only at H)
   have H' := Aside0.mk H
   clear H
   go_wp2_with (first | ((with_reducible refine gate_callee (f := 104) rfl ?_); refine S.gL (some 15) Try.func104 #[.slice A0 l0.length c0, .slice A1 l1.length c1] ?_; (with_reducible refine (impl_IsTogether.calls k _ _ l0 _ _ l1 true _ ?s1 HC0.out ?s3 HC1.out A5.out).mono ?_); (case s1 => exact S.cA HR0.out); (case s3 => exact S.cA HR1.out); rintro e w8 ⟨rfl, hb⟩; refine ⟨_, rfl, ?_⟩; replace HB := S.sA hb; (try clear hb)) | (go_at_call 104; (with_reducible refine (impl_IsTogether.calls k _ _ l0 _ _ l2 t401 _ ?s1 HC0.out ?s3 HC2.out A7.out).mono ?_); (case s1 => exact S.cA HR0.out); (case s3 => exact S.cA HR2.out); rintro e w9 ⟨rfl, hb⟩; replace HB := S.sA hb; (try clear hb)))
   go_meet
   case rel => exact ⟨_, (!t401), S.eA, H', S.le, ⟨S.bA⟩⟩
  ·have H' := Aside0.mk H
   clear H
   go_wp2_with (first | ((with_reducible refine gate_callee (f := 104) rfl ?_); refine S.gL (some 15) Try.func104 #[.slice A0 l0.length c0, .slice A1 l1.length c1] ?_; (with_reducible refine (impl_IsTogether.calls k _ _ l0 _ _ l1 false _ ?s1 HC0.out ?s3 HC1.out A5.out).mono ?_); (case s1 => exact S.cA HR0.out); (case s3 => exact S.cA HR1.out); rintro e w10 ⟨rfl, hb⟩; refine ⟨_, rfl, ?_⟩; replace HB := S.sA hb; (try clear hb)))
   go_meet
   case rel => exact ⟨_, (true), S.eA, H', S.le, ⟨S.bA⟩⟩
 case rest =>
  clear HC4
  try clear c1
  try clear c2
  obtain ⟨kq, x22_3, rfl, HA, HJ3, HB⟩ := hcut
  cases kq with
  | zero => exact absurd HA.out (by simp [impl_ClearBetween.j0])
  | succ kj3 =>
   have H := HA.out
   clear HA
   simp only [impl_ClearBetween.j0] at H
   replace H := S.db H; rcases H with ⟨rfl, H⟩ | ⟨rfl, H⟩
   ·obtain rfl := Option.some.inj H
    go_wp2
    go_ret
    exact ⟨S.eW, S.bA⟩
   ·replace H := S.bd H; obtain ⟨t402, A12, H⟩ := H
    (try dsimp only at H)
    have H' := Aside0.mk H
    clear H
    go_wp2_with (first | ((with_reducible refine gate_callee (f := 130) rfl ?_); refine S.gL (some 26) Try.func130 #[.slice A1 l1.length c1, .slice A2 l2.length c2] ?_; (with_reducible refine (impl_Closes.calls kj3 _ _ l1 _ _ l2 t402 _ ?s1 HC1.out ?s3 HC2.out A12.out).mono ?_); (case s1 => exact S.cA HR1.out); (case s3 => exact S.cA HR2.out); rintro e w13 ⟨v403, rfl, ho0, hb⟩; refine ⟨_, rfl, ?_⟩; have HO404 := S.lwA ho0; replace HB := S.sA hb; (try clear hb); (try clear ho0); obtain ⟨Ao14, co14, eo14⟩ := Kd.R_slice HO404.out; subst eo14))
    go_loopg [7, 28] kj3 (fun kq v7 v28 w' => ∃ (x7_2 : Int) (x28_2 : Int), v7 = .int .i64 x7_2 ∧ v28 = .int .i64 x28_2 ∧ Aside0 (impl_ClearBetween.l0 kq l0 l1 l2 x7_2 t402 (t402.length : Int) x28_2 = some r) ∧ Aside0 (kq ≤ kj3) ∧ Aside0 (Kd.R (Kd.int .i64) 3 w' w.heap.size (fun _ => True) (.slice Ao14 t402.length co14) t402) ∧ Aside0 (Below w.heap.size w w'))
    case atStart => exact ⟨(0), (0), S.eA, S.eA, H', ⟨Nat.le_refl _⟩, ⟨S.uR HO404.out⟩, ⟨S.bA⟩⟩
    case round =>
     clear H'
     try clear c1
     try clear c2
     try clear c11
     obtain ⟨x7_2, x28_2, rfl, rfl, HA, HK2, HO_26, HB⟩ := hrel
     cases gk with
     | zero => exact absurd HA.out (by simp [impl_ClearBetween.l0])
     | succ k2 =>
      have H := HA.out
      clear HA
      simp only [impl_ClearBetween.l0] at H
      replace H := S.dc H; rcases H with ⟨H, c15b0⟩ | ⟨H, c15b0⟩
      ·by_cases c16 : 0 ≤ x28_2
       ·rw [if_pos c16] at H
        have c16b0 : decide (0 ≤ x28_2) = true := decide_eq_true c16
        clear c16
        by_cases c17 : x28_2 < (t402.length : Int)
        ·rw [if_pos c17] at H
         have c17b0 : decide (x28_2 < (t402.length : Int)) = true := decide_eq_true c17
         clear c17
         replace H := S.bd H; obtain ⟨t406, A18, H⟩ := H
         (try dsimp only at H)
         have H' := Aside0.mk H
         clear H
         have p405 : 0 ≤ (x28_2 : Int) := S.oD
         have q405 : x28_2 < (t402.length : Int) := S.oD
         obtain ⟨ad405, e405, hx405_0⟩ := Kd.at_int (Kd.R_reads' HO_26.out).2.2 x28_2 p405 q405
         cases e405
         replace p405 := eq_true p405
         replace q405 := eq_true q405
         go_wp2_with (first | ((with_reducible refine gate_callee (f := 130) rfl ?_); refine S.gL (some 34) Try.func130 #[.slice A2 l2.length c2, .slice A1 l1.length c1] ?_; (with_reducible refine (impl_Closes.calls k2 _ _ l2 _ _ l1 t406 _ ?s1 HC2.out ?s3 HC1.out A18.out).mono ?_); (case s1 => exact S.cA HR2.out); (case s3 => exact S.cA HR1.out); rintro e w19 ⟨v407, rfl, ho0, hb⟩; refine ⟨_, rfl, ?_⟩; have HO408 := S.rnA ho0 HO_26; replace HO_26 := S.re HO_26 ho0 hb; replace HB := S.sA hb; (try clear hb); (try clear ho0); obtain ⟨Ao20, co20, eo20⟩ := Kd.R_slice HO408.out; subst eo20))
         go_loopg [7, 36] k2 (fun kq v7 v36 w' => ∃ (x7_3 : Int) (x36_3 : Int), v7 = .int .i64 x7_3 ∧ v36 = .int .i64 x36_3 ∧ Aside0 (impl_ClearBetween.l1 kq l0 l1 l2 x7_3 (rd t402 x28_2) t402 (t402.length : Int) x28_2 t406 (t406.length : Int) x36_3 = some r) ∧ Aside0 (kq ≤ k2) ∧ Aside0 (Kd.R (Kd.int .i64) 3 w' w.heap.size (fun k_ => some k_ ≠ ((.slice Ao20 t406.length co20) : Value).ownBlock) (.slice (some ad405) t402.length co14) t402) ∧ Aside0 (Kd.R (Kd.int .i64) 3 w' w.heap.size (fun k_ => some k_ ≠ ((.slice (some ad405) t402.length co14) : Value).ownBlock) (.slice Ao20 t406.length co20) t406) ∧ Aside0 (Below w.heap.size w w'))
         case atStart => exact ⟨(x7_2), (0), S.eA, S.eA, H', ⟨Nat.le_refl _⟩, ⟨by (with_reducible repeat (first | apply Kd.R_alloc | apply Kd.R_drewN | apply Kd.R_drew)); exact Kd.R_mono HO_26.out (fun _ hk => hk.2)⟩, ⟨by (with_reducible repeat (first | apply Kd.R_alloc | apply Kd.R_drewN | apply Kd.R_drew)); exact Kd.R_mono HO408.out (fun _ hk => hk.2)⟩, ⟨S.bA⟩⟩
         case round =>
          clear H'
          try clear c1
          try clear c2
          try clear c11
          try clear c15
          try clear c15b0
          try clear c16
          try clear c16b0
          try clear c17
          try clear c17b0
          try clear hx405_0
          try clear p405
          try clear q405
          obtain ⟨x7_3, x36_3, rfl, rfl, HA, HK3, HO_26, HO_34, HB⟩ := hrel
          cases gk with
          | zero => exact absurd HA.out (by simp [impl_ClearBetween.l1])
          | succ k3 =>
           have H := HA.out
           clear HA
           simp only [impl_ClearBetween.l1] at H
           replace H := S.dc H; rcases H with ⟨H, c21b0⟩ | ⟨H, c21b0⟩
           ·by_cases c22 : 0 ≤ x36_3
            ·rw [if_pos c22] at H
             have c22b0 : decide (0 ≤ x36_3) = true := decide_eq_true c22
             clear c22
             by_cases c23 : x36_3 < (t406.length : Int)
             ·rw [if_pos c23] at H
              have c23b0 : decide (x36_3 < (t406.length : Int)) = true := decide_eq_true c23
              clear c23
              replace H := S.bd H; obtain ⟨t410, A24, H⟩ := H
              (try dsimp only at H)
              by_cases c25 : 0 ≤ t410
              ·rw [if_pos c25] at H
               have c25b0 : decide (0 ≤ t410) = true := decide_eq_true c25
               clear c25
               by_cases c26 : t410 < (l0.length : Int)
               ·rw [if_pos c26] at H
                have c26b0 : decide (t410 < (l0.length : Int)) = true := decide_eq_true c26
                clear c26
                replace H := S.bd H; obtain ⟨t413, A27, H⟩ := H
                (try dsimp only at H)
                by_cases c28 : 0 ≤ t413
                ·rw [if_pos c28] at H
                 have c28b0 : decide (0 ≤ t413) = true := decide_eq_true c28
                 clear c28
                 by_cases c29 : t413 < (l0.length : Int)
                 ·rw [if_pos c29] at H
                  have c29b0 : decide (t413 < (l0.length : Int)) = true := decide_eq_true c29
                  clear c29
                  replace H := S.bd H; obtain ⟨t415, A30, H⟩ := H
                  (try dsimp only at H)
                  replace H := S.db H; rcases H with ⟨rfl, H⟩ | ⟨rfl, H⟩
                  ·replace H := S.bd H; obtain ⟨t416, A32, H⟩ := H
                   (try dsimp only at H)
                   obtain ⟨ji33, hji33⟩ : ∃ j_ : Int, (mx x7_3 t416) = j_ := ⟨_, rfl⟩
                   replace H : (impl_ClearBetween.l1 k3 l0 l1 l2 ji33 (rd t402 x28_2) t402 (t402.length : Int) x28_2 t406 (t406.length : Int) (wrap64 (x36_3 + 1))) = some r := by first | (rw [hji33] at H; exact H) | (simp only [hji33] at H ⊢; exact H)
                   (try rw [hji33] at A24)
                   (try rw [hji33] at A27)
                   (try rw [hji33] at A30)
                   (try rw [hji33] at A32)
                   have hji33_ : (if x7_3 < t416 then t416 else x7_3) = ji33 := hji33
                   have H' := Aside0.mk H
                   clear H
                   have p409 : 0 ≤ (x36_3 : Int) := S.oD
                   have q409 : x36_3 < (t406.length : Int) := S.oD
                   obtain ⟨ad409, e409, hx409_0⟩ := Kd.at_int (Kd.R_reads' HO_34.out).2.2 x36_3 p409 q409
                   cases e409
                   replace p409 := eq_true p409
                   replace q409 := eq_true q409
                   try go_wp2_with (first | ((with_reducible refine gate_callee (f := 83) rfl ?_); refine S.gL (some 43) Try.func83 #[.slice A0 l0.length c0, .int .i64 (rd t402 x28_2)] ?_; (with_reducible refine (impl_FindPath.calls _ _ l0 (rd t402 x28_2) t410 _ ?s1 HC0.out A24.out).mono ?_); (case s1 => exact S.cA HR0.out); rintro e w34 ⟨rfl, hb⟩; refine ⟨_, rfl, ?_⟩; replace HO_26 := S.rb HO_26 hb; replace HO_34 := S.rb HO_34 hb; replace HB := S.sA hb; (try clear hb); have p411 : 0 ≤ (t410 : Int) := S.oD; have q411 : t410 < (l0.length : Int) := S.oD; obtain ⟨ad411, e411, hx411_0, hx411_1, hx411_2, hx411_3⟩ := at_T71 HR0.out t410 p411 q411; cases e411; replace hx411_0 := S.hb HB hx411_0; replace hx411_1 := S.hb HB hx411_1; replace hx411_2 := S.hb HB hx411_2; replace hx411_3 := S.hb HB hx411_3; replace p411 := eq_true p411; replace q411 := eq_true q411) | ((with_reducible refine gate_dst (N := 12) rfl ?_); refine S.bx 12 (cs := #[.int .i64 0, .int .i64 0, .int .i64 0, .int .i64 0]) (t := 71) ?_; intro gb412 hg w35 hbox hb; replace HO_26 := S.rb HO_26 hb; replace HO_34 := S.rb HO_34 hb; have BK412 := Aside0.mk hbox; have GW412 := S.geA hg; have GE412 := S.geA hg; replace HB := S.sA hb; clear hb hbox hg; obtain ⟨Z36a, Z36b, Z36c, Z36d, Y36a, Y36b, Y36c, Y36d⟩ := S.c4 BK412.out))
                   generalize hq_ : ((((w35.setCell ⟨gb412, 0, none⟩ (.int .i64 ((rd_T71 l0 t410).f0))).setCell ⟨gb412, 1, none⟩ (.int .i64 ((rd_T71 l0 t410).f1))).setCell ⟨gb412, 2, none⟩ (.int .i64 ((rd_T71 l0 t410).f2))).setCell ⟨gb412, 3, none⟩ (.int .i64 ((rd_T71 l0 t410).f3))) = w37
                   replace HO_26 := S.f4 hq_ HO_26 BK412
                   replace HO_34 := S.f4 hq_ HO_34 BK412
                   replace BK412 := S.p4 hq_ BK412
                   replace HB := S.bQ hq_
                   clear hq_
                   replace HO_26 := S.dr HO_26
                   replace HO_34 := S.dr HO_34
                   replace BK412 := Aside0.mk (blk_drew BK412.out)
                   replace HB := Aside0.mk (below_drew1 HB.out)
                   have p414 : 0 ≤ (t413 : Int) := S.oD
                   have q414 : t413 < (l0.length : Int) := S.oD
                   obtain ⟨ad414, e414, hx414_0, hx414_1, hx414_2, hx414_3⟩ := at_T71 HR0.out t413 p414 q414
                   have hw414_3 := hx414_3
                   have hw414_2 := hx414_2
                   have hw414_1 := hx414_1
                   have hw414_0 := hx414_0
                   obtain rfl : ad411 = ad414 := (by injection e414)
                   replace hx414_0 := S.hb HB hx414_0
                   replace hx414_1 := S.hb HB hx414_1
                   replace hx414_2 := S.hb HB hx414_2
                   replace hx414_3 := S.hb HB hx414_3
                   replace p414 := eq_true p414
                   replace q414 := eq_true q414
                   refine S.st (n := 8) (ds := []) #[false, false, false, false, false, false, false, false] (fun w_ h_ => have x_ := S.d4 (S.Q h_ BK412.out) (And.intro (S.q h_ (S.hb HB hw414_0)) (And.intro (S.q h_ (S.hb HB hw414_1)) (And.intro (S.q h_ (S.hb HB hw414_2)) (S.q h_ (S.hb HB hw414_3))))); x_) (fun hHeld => ?_); refine with_tabW impl_ClearBetween.tab11 impl_ClearBetween.bits11 (fun HT_ HW_ => ?_)
                   generalize w37.drew = w38 at HO_26 HO_34 BK412 HB hx414_0 hx414_1 hx414_2 hx414_3 hHeld ⊢
                   refine S.pS 1 47 ?_
                   refine S.pS 2 48 ?_
                   refine S.pS 3 49 ?_
                   refine S.tK 0 46 #[true, true, true, true, false, false, false, false] ?_
                   refine S.oN 4 50 #[true, true, true, true, true, false, false, false] (fun K hK => ?_)
                   refine S.go Try.func83 #[.slice (some ad411) l0.length c0, .int .i64 (rd t406 x36_3)] ?_
                   with_reducible refine (impl_FindPath.calls _ _ l0 (rd t406 x36_3) t413 _ ?s1 ?s2 A27.out).mono ?_
                   (case s1 => exact S.cA HR0.out)
                   (case s2 => exact HC0.out)
                   rintro e w39 ⟨rfl, hb⟩
                   refine ⟨_, rfl, ?_⟩
                   replace HO_26 := S.rb HO_26 hb
                   replace HO_34 := S.rb HO_34 hb
                   replace BK412 := S.kb BK412 hb
                   replace HB := S.sG hb
                   (try clear hb)
                   (try clear hb2)
                   (try clear hk)
                   (try clear hi)
                   refine hK.out _ _ (S.d4 BK412.out (And.intro ((S.hb HB hw414_0 :)) (And.intro ((S.hb HB hw414_1 :)) (And.intro ((S.hb HB hw414_2 :)) ((S.hb HB hw414_3 :)))))) (fun hHeld => ?_)
                   clear hK K
                   refine S.nm 50 ?_
                   refine S.pS 5 51 ?_
                   refine S.tK 6 52 #[true, true, true, true, true, true, true, false] ?_
                   refine S.oN 7 53 #[true, true, true, true, true, true, true, true] (fun K hK => ?_)
                   refine S.go Try.func89 #[.agg #[.int .i64 ((rd_T71 l0 t410).f0), .int .i64 ((rd_T71 l0 t410).f1), .int .i64 ((rd_T71 l0 t410).f2), .int .i64 ((rd_T71 l0 t410).f3)], .agg #[.int .i64 ((rd_T71 l0 t413).f0), .int .i64 ((rd_T71 l0 t413).f1), .int .i64 ((rd_T71 l0 t413).f2), .int .i64 ((rd_T71 l0 t413).f3)]] ?_
                   with_reducible refine (impl_Conflict.calls k3 ((rd_T71 l0 t410).f0) ((rd_T71 l0 t410).f1) ((rd_T71 l0 t410).f2) ((rd_T71 l0 t410).f3) ((rd_T71 l0 t413).f0) ((rd_T71 l0 t413).f1) ((rd_T71 l0 t413).f2) ((rd_T71 l0 t413).f3) true _ A30.out).mono ?_
                   rintro e w40 ⟨rfl, hb⟩
                   refine ⟨_, rfl, ?_⟩
                   replace HO_26 := S.rb HO_26 hb
                   replace HO_34 := S.rb HO_34 hb
                   replace BK412 := S.kb BK412 hb
                   replace HB := S.sG hb
                   (try clear hb)
                   (try clear hb2)
                   (try clear hk)
                   (try clear hi)
                   refine hK.out _ _ (S.d4 BK412.out (And.intro ((S.hb HB hw414_0 :)) (And.intro ((S.hb HB hw414_1 :)) (And.intro ((S.hb HB hw414_2 :)) ((S.hb HB hw414_3 :)))))) (fun hHeld => ?_)
                   clear hK K
                   refine S.nm 53 ?_
                   refine done_ (done_of HT_.out (by kernel_rfl)) ?_
                   obtain ⟨Z41a, Z41b, Z41c, Z41d, Y41a, Y41b, Y41c, Y41d⟩ := S.c4 BK412.out
                   try go_wp2_with (first | ((with_reducible refine gate_callee (f := 114) rfl ?_); refine S.gL (some 56) Try.func114 #[.agg #[.int .i64 ((rd_T71 l0 t410).f0), .int .i64 ((rd_T71 l0 t410).f1), .int .i64 ((rd_T71 l0 t410).f2), .int .i64 ((rd_T71 l0 t410).f3)]] ?_; (with_reducible refine (impl_ClearOf.calls ((rd_T71 l0 t410).f0) ((rd_T71 l0 t410).f1) ((rd_T71 l0 t410).f2) ((rd_T71 l0 t410).f3) t416 _ A32.out).mono ?_); rintro e w42 ⟨rfl, hb⟩; refine ⟨_, rfl, ?_⟩; replace HO_26 := S.rb HO_26 hb; replace HO_34 := S.rb HO_34 hb; replace BK412 := S.kb BK412 hb; replace HB := S.sG hb; (try clear hb)))
                   go_roundg k3
                   case measure => have := HJ3.out; have := HK2.out; have := HK3.out; omega
                   case rel => exact ⟨(ji33), (wrap64 (x36_3 + 1)), (by first | rfl | (simp; done) | (simp only [← hji33] <;> (first | rfl | simp)) | (simp [*]; done)), S.eA, H', ⟨by have := HJ3.out; have := HK2.out; have := HK3.out; omega⟩, ⟨S.uR HO_26.out⟩, ⟨S.uR HO_34.out⟩, ⟨S.bG⟩⟩
                  ·have H' := Aside0.mk H
                   clear H
                   have p409 : 0 ≤ (x36_3 : Int) := S.oD
                   have q409 : x36_3 < (t406.length : Int) := S.oD
                   obtain ⟨ad409, e409, hx409_0⟩ := Kd.at_int (Kd.R_reads' HO_34.out).2.2 x36_3 p409 q409
                   cases e409
                   replace p409 := eq_true p409
                   replace q409 := eq_true q409
                   try go_wp2_with (first | ((with_reducible refine gate_callee (f := 83) rfl ?_); refine S.gL (some 43) Try.func83 #[.slice A0 l0.length c0, .int .i64 (rd t402 x28_2)] ?_; (with_reducible refine (impl_FindPath.calls _ _ l0 (rd t402 x28_2) t410 _ ?s1 HC0.out A24.out).mono ?_); (case s1 => exact S.cA HR0.out); rintro e w43 ⟨rfl, hb⟩; refine ⟨_, rfl, ?_⟩; replace HO_26 := S.rb HO_26 hb; replace HO_34 := S.rb HO_34 hb; replace HB := S.sA hb; (try clear hb); have p411 : 0 ≤ (t410 : Int) := S.oD; have q411 : t410 < (l0.length : Int) := S.oD; obtain ⟨ad411, e411, hx411_0, hx411_1, hx411_2, hx411_3⟩ := at_T71 HR0.out t410 p411 q411; cases e411; replace hx411_0 := S.hb HB hx411_0; replace hx411_1 := S.hb HB hx411_1; replace hx411_2 := S.hb HB hx411_2; replace hx411_3 := S.hb HB hx411_3; replace p411 := eq_true p411; replace q411 := eq_true q411) | ((with_reducible refine gate_dst (N := 12) rfl ?_); refine S.bx 12 (cs := #[.int .i64 0, .int .i64 0, .int .i64 0, .int .i64 0]) (t := 71) ?_; intro gb412 hg w44 hbox hb; replace HO_26 := S.rb HO_26 hb; replace HO_34 := S.rb HO_34 hb; have BK412 := Aside0.mk hbox; have GW412 := S.geA hg; have GE412 := S.geA hg; replace HB := S.sA hb; clear hb hbox hg; obtain ⟨Z45a, Z45b, Z45c, Z45d, Y45a, Y45b, Y45c, Y45d⟩ := S.c4 BK412.out))
                   generalize hq_ : ((((w44.setCell ⟨gb412, 0, none⟩ (.int .i64 ((rd_T71 l0 t410).f0))).setCell ⟨gb412, 1, none⟩ (.int .i64 ((rd_T71 l0 t410).f1))).setCell ⟨gb412, 2, none⟩ (.int .i64 ((rd_T71 l0 t410).f2))).setCell ⟨gb412, 3, none⟩ (.int .i64 ((rd_T71 l0 t410).f3))) = w46
                   replace HO_26 := S.f4 hq_ HO_26 BK412
                   replace HO_34 := S.f4 hq_ HO_34 BK412
                   replace BK412 := S.p4 hq_ BK412
                   replace HB := S.bQ hq_
                   clear hq_
                   replace HO_26 := S.dr HO_26
                   replace HO_34 := S.dr HO_34
                   replace BK412 := Aside0.mk (blk_drew BK412.out)
                   replace HB := Aside0.mk (below_drew1 HB.out)
                   have p414 : 0 ≤ (t413 : Int) := S.oD
                   have q414 : t413 < (l0.length : Int) := S.oD
                   obtain ⟨ad414, e414, hx414_0, hx414_1, hx414_2, hx414_3⟩ := at_T71 HR0.out t413 p414 q414
                   have hw414_3 := hx414_3
                   have hw414_2 := hx414_2
                   have hw414_1 := hx414_1
                   have hw414_0 := hx414_0
                   obtain rfl : ad411 = ad414 := (by injection e414)
                   replace hx414_0 := S.hb HB hx414_0
                   replace hx414_1 := S.hb HB hx414_1
                   replace hx414_2 := S.hb HB hx414_2
                   replace hx414_3 := S.hb HB hx414_3
                   replace p414 := eq_true p414
                   replace q414 := eq_true q414
                   refine S.st (n := 8) (ds := []) #[false, false, false, false, false, false, false, false] (fun w_ h_ => have x_ := S.d4 (S.Q h_ BK412.out) (And.intro (S.q h_ (S.hb HB hw414_0)) (And.intro (S.q h_ (S.hb HB hw414_1)) (And.intro (S.q h_ (S.hb HB hw414_2)) (S.q h_ (S.hb HB hw414_3))))); x_) (fun hHeld => ?_); refine with_tabW impl_ClearBetween.tab11 impl_ClearBetween.bits11 (fun HT_ HW_ => ?_)
                   generalize w46.drew = w47 at HO_26 HO_34 BK412 HB hx414_0 hx414_1 hx414_2 hx414_3 hHeld ⊢
                   refine S.pS 1 47 ?_
                   refine S.pS 2 48 ?_
                   refine S.pS 3 49 ?_
                   refine S.tK 0 46 #[true, true, true, true, false, false, false, false] ?_
                   refine S.oN 4 50 #[true, true, true, true, true, false, false, false] (fun K hK => ?_)
                   refine S.go Try.func83 #[.slice (some ad411) l0.length c0, .int .i64 (rd t406 x36_3)] ?_
                   with_reducible refine (impl_FindPath.calls _ _ l0 (rd t406 x36_3) t413 _ ?s1 ?s2 A27.out).mono ?_
                   (case s1 => exact S.cA HR0.out)
                   (case s2 => exact HC0.out)
                   rintro e w48 ⟨rfl, hb⟩
                   refine ⟨_, rfl, ?_⟩
                   replace HO_26 := S.rb HO_26 hb
                   replace HO_34 := S.rb HO_34 hb
                   replace BK412 := S.kb BK412 hb
                   replace HB := S.sG hb
                   (try clear hb)
                   (try clear hb2)
                   (try clear hk)
                   (try clear hi)
                   refine hK.out _ _ (S.d4 BK412.out (And.intro ((S.hb HB hw414_0 :)) (And.intro ((S.hb HB hw414_1 :)) (And.intro ((S.hb HB hw414_2 :)) ((S.hb HB hw414_3 :)))))) (fun hHeld => ?_)
                   clear hK K
                   refine S.nm 50 ?_
                   refine S.pS 5 51 ?_
                   refine S.tK 6 52 #[true, true, true, true, true, true, true, false] ?_
                   refine S.oN 7 53 #[true, true, true, true, true, true, true, true] (fun K hK => ?_)
                   refine S.go Try.func89 #[.agg #[.int .i64 ((rd_T71 l0 t410).f0), .int .i64 ((rd_T71 l0 t410).f1), .int .i64 ((rd_T71 l0 t410).f2), .int .i64 ((rd_T71 l0 t410).f3)], .agg #[.int .i64 ((rd_T71 l0 t413).f0), .int .i64 ((rd_T71 l0 t413).f1), .int .i64 ((rd_T71 l0 t413).f2), .int .i64 ((rd_T71 l0 t413).f3)]] ?_
                   with_reducible refine (impl_Conflict.calls k3 ((rd_T71 l0 t410).f0) ((rd_T71 l0 t410).f1) ((rd_T71 l0 t410).f2) ((rd_T71 l0 t410).f3) ((rd_T71 l0 t413).f0) ((rd_T71 l0 t413).f1) ((rd_T71 l0 t413).f2) ((rd_T71 l0 t413).f3) false _ A30.out).mono ?_
                   rintro e w49 ⟨rfl, hb⟩
                   refine ⟨_, rfl, ?_⟩
                   replace HO_26 := S.rb HO_26 hb
                   replace HO_34 := S.rb HO_34 hb
                   replace BK412 := S.kb BK412 hb
                   replace HB := S.sG hb
                   (try clear hb)
                   (try clear hb2)
                   (try clear hk)
                   (try clear hi)
                   refine hK.out _ _ (S.d4 BK412.out (And.intro ((S.hb HB hw414_0 :)) (And.intro ((S.hb HB hw414_1 :)) (And.intro ((S.hb HB hw414_2 :)) ((S.hb HB hw414_3 :)))))) (fun hHeld => ?_)
                   clear hK K
                   refine S.nm 53 ?_
                   refine done_ (done_of HT_.out (by kernel_rfl)) ?_
                   try go_wp2
                   go_roundg k3
                   case measure => have := HJ3.out; have := HK2.out; have := HK3.out; omega
                   case rel => exact ⟨(x7_3), (wrap64 (x36_3 + 1)), S.eA, S.eA, H', ⟨by have := HJ3.out; have := HK2.out; have := HK3.out; omega⟩, ⟨S.uR HO_26.out⟩, ⟨S.uR HO_34.out⟩, ⟨S.bG⟩⟩
                 ·rw [if_neg c29] at H
                  exact absurd H (by simp)
                ·rw [if_neg c28] at H
                 exact absurd H (by simp)
               ·rw [if_neg c26] at H
                exact absurd H (by simp)
              ·rw [if_neg c25] at H
               exact absurd H (by simp)
             ·rw [if_neg c23] at H
              exact absurd H (by simp)
            ·rw [if_neg c22] at H
             exact absurd H (by simp)
           ·have H' := Aside0.mk H
            clear H
            go_wp2
            go_roundg k3
            case measure => have := HJ3.out; have := HK2.out; have := HK3.out; omega
            case rel => exact ⟨(x7_3), (wrap64 (x28_2 + 1)), S.eA, S.eA, H', ⟨by have := HJ3.out; have := HK2.out; have := HK3.out; omega⟩, ⟨by (with_reducible repeat (first | apply Kd.R_alloc | apply Kd.R_drewN | apply Kd.R_drew)); exact Kd.R_mono HO_26.out (fun _ hk => trivial)⟩, ⟨S.bA⟩⟩
        ·rw [if_neg c17] at H
         exact absurd H (by simp)
       ·rw [if_neg c16] at H
        exact absurd H (by simp)
      ·obtain rfl := Option.some.inj H
       go_wp2
       go_ret
       exact ⟨S.eW, S.bA⟩

/-! ### impl_nextStage: function 110 -/
def impl_nextStage.f (l0 : List (S85)) (a1 : Int) : Option (List Int) := if (l0.length : Int) = 0 then (none) else (if 0 ≤ (Int.tmod (wrap64 (a1 + 1)) (l0.length : Int)) then (if (Int.tmod (wrap64 (a1 + 1)) (l0.length : Int)) < (l0.length : Int) then (some ((rd_T85 l0 (Int.tmod (wrap64 (a1 + 1)) (l0.length : Int))).f0)) else (none)) else (none))
set_option maxHeartbeats 8000000 in
set_option maxRecDepth 100000 in
theorem impl_nextStage.calls (P0_ : Nat → Prop) (A0 : Option Addr) (c0 : Nat) (l0 : List (S85)) (a1 : Int) (r : List Int) (w : World) (hs0 : Kd.V k85 85 w w.heap.size (fun k_ => P0_ k_) (.slice A0 l0.length c0) l0) (h : impl_nextStage.f l0 a1 = some r) :
  Calls Try.prog 110 #[.slice A0 l0.length c0, .int .i64 a1] w fun e w' => ∃ v0_ : Value, e = .returned (v0_) ∧ Kd.V (Kd.int .i64) 3 w' w.heap.size (fun k_ => (P0_ k_ ∨ w.heap.size ≤ k_)) v0_ r ∧ Below w.heap.size w w' := by
 have HO0 := Aside0.mk (show Kd.V k85 85 w w.heap.size (fun k_ => (P0_ k_ ∨ w.heap.size ≤ k_)) (.slice A0 l0.length c0) l0 from Kd.V_mono hs0 (fun k_ hk => .inl hk))
 have HB := Aside0.mk (Below.refl w.heap.size w)
 have H : (if (l0.length : Int) = 0 then (none) else (if 0 ≤ (Int.tmod (wrap64 (a1 + 1)) (l0.length : Int)) then (if (Int.tmod (wrap64 (a1 + 1)) (l0.length : Int)) < (l0.length : Int) then (some ((rd_T85 l0 (Int.tmod (wrap64 (a1 + 1)) (l0.length : Int))).f0)) else (none)) else (none))) = some r := h
 clear h
 by_cases c3 : (l0.length : Int) = 0
 ·rw [if_pos c3] at H
  exact absurd H (by simp)
 ·rw [if_neg c3] at H
  have c3b0 : ((l0.length : Int) == 0) = false := beq_eq_false_iff_ne.mpr c3
  have c3b1 : ((l0.length : Int) != 0) = true := bne_iff_ne.mpr c3
  have c3b2 : ¬ (l0 = []) := fun h_ => c3 (by rw [h_]; rfl)
  obtain ⟨ji4, hji4⟩ : ∃ j_ : Int, (Int.tmod (wrap64 (a1 + 1)) (l0.length : Int)) = j_ := ⟨_, rfl⟩
  replace H : (if 0 ≤ (ji4) then (if (ji4) < (l0.length : Int) then (some ((rd_T85 l0 (ji4)).f0)) else (none)) else (none)) = some r := by first | (rw [hji4] at H; exact H) | (simp only [hji4] at H ⊢; exact H)
  by_cases c5 : 0 ≤ (ji4)
  ·rw [if_pos c5] at H
   have c5b0 : decide (0 ≤ (ji4)) = true := decide_eq_true c5
   clear c5
   by_cases c6 : (ji4) < (l0.length : Int)
   ·rw [if_pos c6] at H
    have c6b0 : decide ((ji4) < (l0.length : Int)) = true := decide_eq_true c6
    clear c6
    obtain rfl := Option.some.inj H
    have p417 : 0 ≤ ((ji4) : Int) := S.oD
    have q417 : (ji4) < (l0.length : Int) := S.oD
    obtain ⟨ad417, A417_0, c417_0, e417, hx417_0, hx417_1, hl417_0, hi417_0⟩ := at_T85 (Kd.V_reads' HO0.out).2.2 (ji4) p417 q417
    cases e417
    obtain ⟨ce417, hce417, hMe417, hcc417⟩ := Kd.V_get HO0.out z85 (ji4) p417 (by first | exact q417 | exact S.oD | (have e_ := (Kd.V_reads' HO0.out).1; omega))
    obtain ⟨ua417_0, uc417_0, rfl, ul417_0, ge417_0⟩ := k85_openF hMe417
    have hv417_0 := hcc417 0 _ rfl
    rw [Nat.add_zero] at hv417_0
    replace hv417_0 := Option.some.inj (hv417_0.symm.trans hx417_0)
    injection hv417_0 with hva_ hvn_ hvc_
    rw [hva_] at ge417_0
    rw [hvc_] at ul417_0
    have HL417_0 := Aside0.mk (show Kd.V (Kd.int .i64) 3 _ w.heap.size _ _ ((rd_T85 l0 (ji4)).f0) from Kd.V_mk ul417_0 ge417_0)
    clear hva_ hvn_ hvc_ ge417_0 ul417_0
    clear hcc417 hce417
    have HR417_0 := Aside0.mk hi417_0
    have HC417_0 := Aside0.mk hl417_0
    clear hi417_0 hl417_0
    replace p417 := eq_true p417
    replace q417 := eq_true q417
    go_enter Try.func110, Try.ntmps110
    go_wp2
    go_ret
    exact ⟨_, by first | rfl | (simp [errW_none, errW_some] <;> rfl) | (simp only [← hji4]; first | rfl | (simp [errW_none, errW_some] <;> rfl)) | (simp [*, errW_none, errW_some] <;> rfl), S.uV HL417_0.out, S.bA⟩
   ·rw [if_neg c6] at H
    exact absurd H (by simp)
  ·rw [if_neg c5] at H
   exact absurd H (by simp)

end Go.Proofs.Ytjgigmghcfdomaa.PFnExactMakeSwitch
