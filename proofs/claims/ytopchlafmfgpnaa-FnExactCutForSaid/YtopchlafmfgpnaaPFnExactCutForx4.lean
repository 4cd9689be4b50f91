/- Printed by a program: what the Go functions compute, as plain Lean functions (.f), and the proofs that the machine's calls come to just that (.calls). -/
import Derived.Test.YtopchlafmfgpnaaPFnExactCutForx0
import Derived.Test.YtopchlafmfgpnaaPFnExactCutForx3
namespace Go.Proofs.Ytopchlafmfgpnaa.PFnExactCutFor
open Go.RowKit Go.Proofs.YtopchlafmfgpnaaW.PrintWords Go.Proofs.YtopchlafmfgpnaaW.PrintLast Go.Proofs.YtopchlafmfgpnaaW.PrintMore
attribute [local go_sem] max2_int min2_int max_two min_two max_three min_three max_four min_four   -- for this text's walks alone
set_option linter.unusedVariables false
set_option linter.unusedSimpArgs false

/-! ### spec_ArePaths: function 109 -/
def spec_ArePaths.l0 : Nat → List (S52) → Int → Option (Bool)
 | 0, _, _ => none
 | k + 1, x0, x3 => if x3 < (x0.length : Int) then (if 0 ≤ x3 then ((spec_IsPath.f ((rd_T52 x0 x3).f0) ((rd_T52 x0 x3).f1) ((rd_T52 x0 x3).f2) ((rd_T52 x0 x3).f3)).bind fun t157 => (if t157 = true then (if x3 > 0 then (if 0 ≤ (wrap64 (x3 - 1)) then (if (wrap64 (x3 - 1)) < (x0.length : Int) then (if ((rd_T52 x0 (wrap64 (x3 - 1))).f0) ≥ ((rd_T52 x0 x3).f0) then (some false) else (spec_ArePaths.l0 k x0 (wrap64 (x3 + 1)))) else (none)) else (none)) else (spec_ArePaths.l0 k x0 (wrap64 (x3 + 1)))) else (some false))) else (none)) else (some (decide ((x0.length : Int) ≤ 12)))
def spec_ArePaths.f (k : Nat) (l0 : List (S52)) : Option (Bool) := spec_ArePaths.l0 k l0 0
def spec_ArePaths.T4 : Bool × List (List Nat × List Nat) := (true, [([], []), ([], []), ([0, 1], [0, 1]), ([2], [2]), ([3], [3]), ([4], [4]), ([5, 4], [5]), ([6], [6]), ([7, 6], [6, 7]), ([8, 6, 6], [6, 8]), ([9], [9]), ([9], [9]), ([11, 9], [9, 11]), ([10, 12, 9], [9, 10, 12]), ([13, 9], [9, 13]), ([14, 9], [9, 14]), ([9], [9]), ([9], [9]), ([16, 17, 9], [9, 16, 17]), ([18, 9], [9, 18]), ([19, 9], [9, 19]), ([15, 20, 9], [9, 15, 20]), ([9, 21, 6], [6, 9, 21]), ([6, 22], [6, 22])])
def spec_ArePaths.B4 : List Nat := [0, 0, 3, 7, 15, 31, 63, 127, 255, 511, 1023, 1023, 3071, 8191, 16383, 32767, 1023, 1023, 197631, 459775, 984063, 2097151, 4194303, 8388607]
theorem spec_ArePaths.tab4 : rtab .any (opsOf Try.f109 4) = spec_ArePaths.T4 := by kernel_rfl
theorem spec_ArePaths.bits4 : waitsOk spec_ArePaths.T4.2 spec_ArePaths.B4 = true := by kernel_rfl
set_option maxHeartbeats 8000000 in
set_option maxRecDepth 100000 in
theorem spec_ArePaths.calls (k : Nat) (A0 : Option Addr) (c0 : Nat) (l0 : List (S52)) (r : Bool) (w : World) (hr0 : Kd.C k52 w A0 l0.length l0) (hc0 : l0.length ≤ c0) (h : spec_ArePaths.f k l0 = some r) :
  Calls Try.prog 109 #[.slice A0 l0.length c0] w fun e w' => e = .returned (.bool r) ∧ Below w.heap.size w w' := by
 have hu52 := Try.underlying52
 have HR0 := Aside0.mk hr0
 have HC0 := Aside0.mk hc0
 clear hr0 hc0
 have HB := Aside0.mk (Below.refl w.heap.size w)
 have H : (spec_ArePaths.l0 k l0 0) = some r := h
 clear h
 have H' := Aside0.mk H
 clear H
 go_enter Try.func109, Try.ntmps109
 go_wp2
 go_loopg [3] k (fun kq v3 w' => ∃ (x3_1 : Int), v3 = .int .i64 x3_1 ∧ Aside0 (spec_ArePaths.l0 kq l0 x3_1 = some r) ∧ Aside0 (kq ≤ k) ∧ Aside0 (Below w.heap.size w w'))
 case atStart => exact ⟨(0), S.eA, H', ⟨Nat.le_refl _⟩, ⟨S.bA⟩⟩
 case round =>
  clear H'
  obtain ⟨x3_1, rfl, HA, HK1, HB⟩ := hrel
  cases gk with
  | zero => exact absurd HA.out (by simp [spec_ArePaths.l0])
  | succ k1 =>
   have H := HA.out
   clear HA
   simp only [spec_ArePaths.l0] at H
   replace H := S.dc H; rcases H with ⟨H, c2b0⟩ | ⟨H, c2b0⟩
   ·by_cases c3 : 0 ≤ x3_1
    ·rw [if_pos c3] at H
     have c3b0 : decide (0 ≤ x3_1) = true := decide_eq_true c3
     clear c3
     replace H := S.bd H; obtain ⟨t157, A4, H⟩ := H
     (try dsimp only at H)
     replace H := S.db H; rcases H with ⟨rfl, H⟩ | ⟨rfl, H⟩
     ·by_cases c6 : x3_1 > 0
      ·rw [if_pos c6] at H
       have c6b0 : decide (0 < x3_1) = true := decide_eq_true c6
       clear c6
       obtain ⟨ji7, hji7⟩ : ∃ j_ : Int, (wrap64 (x3_1 - 1)) = j_ := ⟨_, rfl⟩
       replace H : (if 0 ≤ (ji7) then (if (ji7) < (l0.length : Int) then (if ((rd_T52 l0 (ji7)).f0) ≥ ((rd_T52 l0 x3_1).f0) then (some false) else (spec_ArePaths.l0 k1 l0 (wrap64 (x3_1 + 1)))) else (none)) else (none)) = some r := by first | (rw [hji7] at H; exact H) | (simp only [hji7] at H ⊢; exact H)
       (try rw [hji7] at A4)
       have hji7w : (IntKind.i64.wrap (x3_1 - 1)) = ji7 := (i64_w _).trans hji7
       by_cases c8 : 0 ≤ (ji7)
       ·rw [if_pos c8] at H
        have c8b0 : decide (0 ≤ (ji7)) = true := decide_eq_true c8
        clear c8
        by_cases c9 : (ji7) < (l0.length : Int)
        ·rw [if_pos c9] at H
         have c9b0 : decide ((ji7) < (l0.length : Int)) = true := decide_eq_true c9
         clear c9
         by_cases c10 : ((rd_T52 l0 (ji7)).f0) ≥ ((rd_T52 l0 x3_1).f0)
         ·rw [if_pos c10] at H
          have c10b0 : decide (((rd_T52 l0 x3_1).f0) ≤ ((rd_T52 l0 (ji7)).f0)) = true := decide_eq_true c10
          clear c10
          obtain rfl := Option.some.inj H
          try go_wp2
          replace HB := Aside0.mk (below_drew1 HB.out)
          have p156 : 0 ≤ (x3_1 : Int) := S.oD
          have q156 : x3_1 < (l0.length : Int) := S.oD
          obtain ⟨ad156, e156, hx156_0, hx156_1, hx156_2, hx156_3⟩ := at_T52 HR0.out x3_1 p156 q156
          have hw156_3 := hx156_3
          have hw156_2 := hx156_2
          have hw156_1 := hx156_1
          have hw156_0 := hx156_0
          cases e156
          replace hx156_0 := S.hb HB hx156_0
          replace hx156_1 := S.hb HB hx156_1
          replace hx156_2 := S.hb HB hx156_2
          replace hx156_3 := S.hb HB hx156_3
          replace p156 := eq_true p156
          replace q156 := eq_true q156
          have p158 : 0 ≤ ((ji7) : Int) := S.oD
          have q158 : (ji7) < (l0.length : Int) := S.oD
          obtain ⟨ad158, e158, hx158_0, hx158_1, hx158_2, hx158_3⟩ := at_T52 HR0.out (ji7) p158 q158
          have hw158_3 := hx158_3
          have hw158_2 := hx158_2
          have hw158_1 := hx158_1
          have hw158_0 := hx158_0
          obtain rfl : ad156 = ad158 := (by injection e158)
          replace hx158_0 := S.hb HB hx158_0
          replace hx158_1 := S.hb HB hx158_1
          replace hx158_2 := S.hb HB hx158_2
          replace hx158_3 := S.hb HB hx158_3
          replace p158 := eq_true p158
          replace q158 := eq_true q158
          have p159 : 0 ≤ (x3_1 : Int) := S.oD
          have q159 : x3_1 < (l0.length : Int) := S.oD
          obtain ⟨ad159, e159, hx159_0, hx159_1, hx159_2, hx159_3⟩ := at_T52 HR0.out x3_1 p159 q159
          have hw159_3 := hx159_3
          have hw159_2 := hx159_2
          have hw159_1 := hx159_1
          have hw159_0 := hx159_0
          obtain rfl : ad156 = ad159 := (by injection e159)
          replace hx159_0 := S.hb HB hx159_0
          replace hx159_1 := S.hb HB hx159_1
          replace hx159_2 := S.hb HB hx159_2
          replace hx159_3 := S.hb HB hx159_3
          replace p159 := eq_true p159
          replace q159 := eq_true q159
          refine S.st (n := 24) (ds := []) #[false, false, false, false, false, false, false, false, false, false, false, false, false, false, false, false, false, false, false, false, false, false, false, false] (fun w_ h_ => have x_ := And.intro (S.q h_ (S.hb HB hw156_0)) (And.intro (S.q h_ (S.hb HB hw156_1)) (And.intro (S.q h_ (S.hb HB hw156_2)) (And.intro (S.q h_ (S.hb HB hw156_3)) (And.intro (S.q h_ (S.hb HB hw158_0)) (And.intro (S.q h_ (S.hb HB hw158_1)) (And.intro (S.q h_ (S.hb HB hw158_2)) (And.intro (S.q h_ (S.hb HB hw158_3)) (And.intro (S.q h_ (S.hb HB hw159_0)) (And.intro (S.q h_ (S.hb HB hw159_1)) (And.intro (S.q h_ (S.hb HB hw159_2)) (S.q h_ (S.hb HB hw159_3)))))))))))); x_) (fun hHeld => ?_); refine with_tabW spec_ArePaths.tab4 spec_ArePaths.bits4 (fun HT_ HW_ => ?_)
          generalize wr.drew = w11 at HB hx156_0 hx156_1 hx156_2 hx156_3 hx158_0 hx158_1 hx158_2 hx158_3 hx159_0 hx159_1 hx159_2 hx159_3 hHeld ⊢
          refine S.pS 0 10 ?_
          refine S.pS 1 11 ?_
          refine S.pS 2 12 ?_
          refine S.tK 3 13 #[true, true, true, true, false, false, false, false, false, false, false, false, false, false, false, false, false, false, false, false, false, false, false, false] ?_
          refine S.oN 4 14 #[true, true, true, true, true, false, false, false, false, false, false, false, false, false, false, false, false, false, false, false, false, false, false, false] (fun K hK => ?_)
          refine S.go Try.func129 #[.agg #[.int .i64 ((rd_T52 l0 x3_1).f0), .int .i64 ((rd_T52 l0 x3_1).f1), .int .i64 ((rd_T52 l0 x3_1).f2), .int .i64 ((rd_T52 l0 x3_1).f3)]] ?_
          with_reducible refine (spec_IsPath.calls ((rd_T52 l0 x3_1).f0) ((rd_T52 l0 x3_1).f1) ((rd_T52 l0 x3_1).f2) ((rd_T52 l0 x3_1).f3) true _ A4.out).mono ?_
          rintro e w12 ⟨rfl, hb⟩
          refine ⟨_, rfl, ?_⟩
          replace HB := S.sA hb
          (try clear hb)
          (try clear hb2)
          (try clear hk)
          (try clear hi)
          refine hK.out _ _ ⟨(S.hb HB hw156_0 :), (S.hb HB hw156_1 :), (S.hb HB hw156_2 :), (S.hb HB hw156_3 :), (S.hb HB hw158_0 :), (S.hb HB hw158_1 :), (S.hb HB hw158_2 :), (S.hb HB hw158_3 :), (S.hb HB hw159_0 :), (S.hb HB hw159_1 :), (S.hb HB hw159_2 :), (S.hb HB hw159_3 :)⟩ (fun hHeld => ?_)
          clear hK K
          refine S.nm 14 ?_
          refine S.pS 5 15 ?_
          refine S.pS 6 16 ?_
          refine S.pS 7 17 ?_
          refine S.pS 8 18 ?_
          refine S.pS 9 19 ?_
          refine S.pS 10 20 ?_
          refine S.pS 11 21 ?_
          refine S.pS 12 22 ?_
          refine S.pS 13 23 ?_
          refine S.pS 14 24 ?_
          refine S.pS 16 26 ?_
          refine S.pS 17 27 ?_
          refine S.pS 18 28 ?_
          refine S.pS 19 29 ?_
          refine S.tK 15 25 #[true, true, true, true, true, true, true, true, true, true, true, true, true, true, true, true, true, true, true, true, false, false, false, false] ?_
          refine S.tK 20 30 #[true, true, true, true, true, true, true, true, true, true, true, true, true, true, true, true, true, true, true, true, true, false, false, false] ?_
          refine S.pS 21 31 ?_
          refine S.pS 22 32 ?_
          refine S.pS 23 33 ?_
          refine done_ (done_of HT_.out (by kernel_rfl)) ?_
          try go_wp2
          go_ret
          exact ⟨by first | rfl | (simp [errW_none, errW_some] <;> rfl) | (simp only [← hji7]; first | rfl | (simp [errW_none, errW_some] <;> rfl)) | (simp [*, errW_none, errW_some] <;> rfl), S.bA⟩
         ·rw [if_neg c10] at H
          have c10b0 : decide (((rd_T52 l0 x3_1).f0) ≤ ((rd_T52 l0 (ji7)).f0)) = false := decide_eq_false c10
          clear c10
          have H' := Aside0.mk H
          clear H
          try go_wp2
          replace HB := Aside0.mk (below_drew1 HB.out)
          have p156 : 0 ≤ (x3_1 : Int) := S.oD
          have q156 : x3_1 < (l0.length : Int) := S.oD
          obtain ⟨ad156, e156, hx156_0, hx156_1, hx156_2, hx156_3⟩ := at_T52 HR0.out x3_1 p156 q156
          have hw156_3 := hx156_3
          have hw156_2 := hx156_2
          have hw156_1 := hx156_1
          have hw156_0 := hx156_0
          cases e156
          replace hx156_0 := S.hb HB hx156_0
          replace hx156_1 := S.hb HB hx156_1
          replace hx156_2 := S.hb HB hx156_2
          replace hx156_3 := S.hb HB hx156_3
          replace p156 := eq_true p156
          replace q156 := eq_true q156
          have p158 : 0 ≤ ((ji7) : Int) := S.oD
          have q158 : (ji7) < (l0.length : Int) := S.oD
          obtain ⟨ad158, e158, hx158_0, hx158_1, hx158_2, hx158_3⟩ := at_T52 HR0.out (ji7) p158 q158
          have hw158_3 := hx158_3
          have hw158_2 := hx158_2
          have hw158_1 := hx158_1
          have hw158_0 := hx158_0
          obtain rfl : ad156 = ad158 := (by injection e158)
          replace hx158_0 := S.hb HB hx158_0
          replace hx158_1 := S.hb HB hx158_1
          replace hx158_2 := S.hb HB hx158_2
          replace hx158_3 := S.hb HB hx158_3
          replace p158 := eq_true p158
          replace q158 := eq_true q158
          have p159 : 0 ≤ (x3_1 : Int) := S.oD
          have q159 : x3_1 < (l0.length : Int) := S.oD
          obtain ⟨ad159, e159, hx159_0, hx159_1, hx159_2, hx159_3⟩ := at_T52 HR0.out x3_1 p159 q159
          have hw159_3 := hx159_3
          have hw159_2 := hx159_2
          have hw159_1 := hx159_1
          have hw159_0 := hx159_0
          obtain rfl : ad156 = ad159 := (by injection e159)
          replace hx159_0 := S.hb HB hx159_0
          replace hx159_1 := S.hb HB hx159_1
          replace hx159_2 := S.hb HB hx159_2
          replace hx159_3 := S.hb HB hx159_3
          replace p159 := eq_true p159
          replace q159 := eq_true q159
          refine S.st (n := 24) (ds := []) #[false, false, false, false, false, false, false, false, false, false, false, false, false, false, false, false, false, false, false, false, false, false, false, false] (fun w_ h_ => have x_ := And.intro (S.q h_ (S.hb HB hw156_0)) (And.intro (S.q h_ (S.hb HB hw156_1)) (And.intro (S.q h_ (S.hb HB hw156_2)) (And.intro (S.q h_ (S.hb HB hw156_3)) (And.intro (S.q h_ (S.hb HB hw158_0)) (And.intro (S.q h_ (S.hb HB hw158_1)) (And.intro (S.q h_ (S.hb HB hw158_2)) (And.intro (S.q h_ (S.hb HB hw158_3)) (And.intro (S.q h_ (S.hb HB hw159_0)) (And.intro (S.q h_ (S.hb HB hw159_1)) (And.intro (S.q h_ (S.hb HB hw159_2)) (S.q h_ (S.hb HB hw159_3)))))))))))); x_) (fun hHeld => ?_); refine with_tabW spec_ArePaths.tab4 spec_ArePaths.bits4 (fun HT_ HW_ => ?_)
          generalize wr.drew = w13 at HB hx156_0 hx156_1 hx156_2 hx156_3 hx158_0 hx158_1 hx158_2 hx158_3 hx159_0 hx159_1 hx159_2 hx159_3 hHeld ⊢
          refine S.pS 0 10 ?_
          refine S.pS 1 11 ?_
          refine S.pS 2 12 ?_
          refine S.tK 3 13 #[true, true, true, true, false, false, false, false, false, false, false, false, false, false, false, false, false, false, false, false, false, false, false, false] ?_
          refine S.oN 4 14 #[true, true, true, true, true, false, false, false, false, false, false, false, false, false, false, false, false, false, false, false, false, false, false, false] (fun K hK => ?_)
          refine S.go Try.func129 #[.agg #[.int .i64 ((rd_T52 l0 x3_1).f0), .int .i64 ((rd_T52 l0 x3_1).f1), .int .i64 ((rd_T52 l0 x3_1).f2), .int .i64 ((rd_T52 l0 x3_1).f3)]] ?_
          with_reducible refine (spec_IsPath.calls ((rd_T52 l0 x3_1).f0) ((rd_T52 l0 x3_1).f1) ((rd_T52 l0 x3_1).f2) ((rd_T52 l0 x3_1).f3) true _ A4.out).mono ?_
          rintro e w14 ⟨rfl, hb⟩
          refine ⟨_, rfl, ?_⟩
          replace HB := S.sA hb
          (try clear hb)
          (try clear hb2)
          (try clear hk)
          (try clear hi)
          refine hK.out _ _ ⟨(S.hb HB hw156_0 :), (S.hb HB hw156_1 :), (S.hb HB hw156_2 :), (S.hb HB hw156_3 :), (S.hb HB hw158_0 :), (S.hb HB hw158_1 :), (S.hb HB hw158_2 :), (S.hb HB hw158_3 :), (S.hb HB hw159_0 :), (S.hb HB hw159_1 :), (S.hb HB hw159_2 :), (S.hb HB hw159_3 :)⟩ (fun hHeld => ?_)
          clear hK K
          refine S.nm 14 ?_
          refine S.pS 5 15 ?_
          refine S.pS 6 16 ?_
          refine S.pS 7 17 ?_
          refine S.pS 8 18 ?_
          refine S.pS 9 19 ?_
          refine S.pS 10 20 ?_
          refine S.pS 11 21 ?_
          refine S.pS 12 22 ?_
          refine S.pS 13 23 ?_
          refine S.pS 14 24 ?_
          refine S.pS 16 26 ?_
          refine S.pS 17 27 ?_
          refine S.pS 18 28 ?_
          refine S.pS 19 29 ?_
          refine S.tK 15 25 #[true, true, true, true, true, true, true, true, true, true, true, true, true, true, true, true, true, true, true, true, false, false, false, false] ?_
          refine S.tK 20 30 #[true, true, true, true, true, true, true, true, true, true, true, true, true, true, true, true, true, true, true, true, true, false, false, false] ?_
          refine S.pS 21 31 ?_
          refine S.pS 22 32 ?_
          refine S.pS 23 33 ?_
          refine done_ (done_of HT_.out (by kernel_rfl)) ?_
          try go_wp2
          go_roundg k1
          case measure => have := HK1.out; omega
          case rel => exact ⟨(wrap64 (x3_1 + 1)), S.eA, H', ⟨by have := HK1.out; omega⟩, ⟨S.bA⟩⟩
        ·rw [if_neg c9] at H
         exact absurd H (by simp)
       ·rw [if_neg c8] at H
        exact absurd H (by simp)
      ·rw [if_neg c6] at H
       have c6b0 : decide (0 < x3_1) = false := decide_eq_false c6
       clear c6
       have H' := Aside0.mk H
       clear H
       try go_wp2
       replace HB := Aside0.mk (below_drew1 HB.out)
       have p156 : 0 ≤ (x3_1 : Int) := S.oD
       have q156 : x3_1 < (l0.length : Int) := S.oD
       obtain ⟨ad156, e156, hx156_0, hx156_1, hx156_2, hx156_3⟩ := at_T52 HR0.out x3_1 p156 q156
       have hw156_3 := hx156_3
       have hw156_2 := hx156_2
       have hw156_1 := hx156_1
       have hw156_0 := hx156_0
       cases e156
       replace hx156_0 := S.hb HB hx156_0
       replace hx156_1 := S.hb HB hx156_1
       replace hx156_2 := S.hb HB hx156_2
       replace hx156_3 := S.hb HB hx156_3
       replace p156 := eq_true p156
       replace q156 := eq_true q156
       refine S.st (n := 24) (ds := []) #[false, false, false, false, false, false, false, false, false, false, false, false, false, false, false, false, false, false, false, false, false, false, false, false] (fun w_ h_ => have x_ := And.intro (S.q h_ (S.hb HB hw156_0)) (And.intro (S.q h_ (S.hb HB hw156_1)) (And.intro (S.q h_ (S.hb HB hw156_2)) (S.q h_ (S.hb HB hw156_3)))); x_) (fun hHeld => ?_); refine with_tabW spec_ArePaths.tab4 spec_ArePaths.bits4 (fun HT_ HW_ => ?_)
       generalize wr.drew = w15 at HB hx156_0 hx156_1 hx156_2 hx156_3 hHeld ⊢
       refine S.pS 0 10 ?_
       refine S.pS 1 11 ?_
       refine S.pS 2 12 ?_
       refine S.tK 3 13 #[true, true, true, true, false, false, false, false, false, false, false, false, false, false, false, false, false, false, false, false, false, false, false, false] ?_
       refine S.oN 4 14 #[true, true, true, true, true, false, false, false, false, false, false, false, false, false, false, false, false, false, false, false, false, false, false, false] (fun K hK => ?_)
       refine S.go Try.func129 #[.agg #[.int .i64 ((rd_T52 l0 x3_1).f0), .int .i64 ((rd_T52 l0 x3_1).f1), .int .i64 ((rd_T52 l0 x3_1).f2), .int .i64 ((rd_T52 l0 x3_1).f3)]] ?_
       with_reducible refine (spec_IsPath.calls ((rd_T52 l0 x3_1).f0) ((rd_T52 l0 x3_1).f1) ((rd_T52 l0 x3_1).f2) ((rd_T52 l0 x3_1).f3) true _ A4.out).mono ?_
       rintro e w16 ⟨rfl, hb⟩
       refine ⟨_, rfl, ?_⟩
       replace HB := S.sA hb
       (try clear hb)
       (try clear hb2)
       (try clear hk)
       (try clear hi)
       refine hK.out _ _ ⟨(S.hb HB hw156_0 :), (S.hb HB hw156_1 :), (S.hb HB hw156_2 :), (S.hb HB hw156_3 :)⟩ (fun hHeld => ?_)
       clear hK K
       refine S.nm 14 ?_
       refine S.pS 5 15 ?_
       refine S.pS 6 16 ?_
       refine S.pS 7 17 ?_
       refine S.pS 8 18 ?_
       refine S.pS 9 19 ?_
       refine S.pU 10 20 ?_
       refine S.pU 11 21 ?_
       refine S.pU 12 22 ?_
       refine S.pU 13 23 ?_
       refine S.pU 14 24 ?_
       refine S.pU 15 25 ?_
       refine S.pU 16 26 ?_
       refine S.pU 17 27 ?_
       refine S.pU 18 28 ?_
       refine S.pU 19 29 ?_
       refine S.pU 20 30 ?_
       refine S.pU 21 31 ?_
       refine S.pS 22 32 ?_
       refine S.pS 23 33 ?_
       refine done_ (done_of HT_.out (by kernel_rfl)) ?_
       try go_wp2
       go_roundg k1
       case measure => have := HK1.out; omega
       case rel => exact ⟨(wrap64 (x3_1 + 1)), S.eA, H', ⟨by have := HK1.out; omega⟩, ⟨S.bA⟩⟩
     ·obtain rfl := Option.some.inj H
      try go_wp2
      replace HB := Aside0.mk (below_drew1 HB.out)
      have p156 : 0 ≤ (x3_1 : Int) := S.oD
      have q156 : x3_1 < (l0.length : Int) := S.oD
      obtain ⟨ad156, e156, hx156_0, hx156_1, hx156_2, hx156_3⟩ := at_T52 HR0.out x3_1 p156 q156
      have hw156_3 := hx156_3
      have hw156_2 := hx156_2
      have hw156_1 := hx156_1
      have hw156_0 := hx156_0
      cases e156
      replace hx156_0 := S.hb HB hx156_0
      replace hx156_1 := S.hb HB hx156_1
      replace hx156_2 := S.hb HB hx156_2
      replace hx156_3 := S.hb HB hx156_3
      replace p156 := eq_true p156
      replace q156 := eq_true q156
      refine S.st (n := 24) (ds := []) #[false, false, false, false, false, false, false, false, false, false, false, false, false, false, false, false, false, false, false, false, false, false, false, false] (fun w_ h_ => have x_ := And.intro (S.q h_ (S.hb HB hw156_0)) (And.intro (S.q h_ (S.hb HB hw156_1)) (And.intro (S.q h_ (S.hb HB hw156_2)) (S.q h_ (S.hb HB hw156_3)))); x_) (fun hHeld => ?_); refine with_tabW spec_ArePaths.tab4 spec_ArePaths.bits4 (fun HT_ HW_ => ?_)
      generalize wr.drew = w17 at HB hx156_0 hx156_1 hx156_2 hx156_3 hHeld ⊢
      refine S.pS 0 10 ?_
      refine S.pS 1 11 ?_
      refine S.pS 2 12 ?_
      refine S.tK 3 13 #[true, true, true, true, false, false, false, false, false, false, false, false, false, false, false, false, false, false, false, false, false, false, false, false] ?_
      refine S.oN 4 14 #[true, true, true, true, true, false, false, false, false, false, false, false, false, false, false, false, false, false, false, false, false, false, false, false] (fun K hK => ?_)
      refine S.go Try.func129 #[.agg #[.int .i64 ((rd_T52 l0 x3_1).f0), .int .i64 ((rd_T52 l0 x3_1).f1), .int .i64 ((rd_T52 l0 x3_1).f2), .int .i64 ((rd_T52 l0 x3_1).f3)]] ?_
      with_reducible refine (spec_IsPath.calls ((rd_T52 l0 x3_1).f0) ((rd_T52 l0 x3_1).f1) ((rd_T52 l0 x3_1).f2) ((rd_T52 l0 x3_1).f3) false _ A4.out).mono ?_
      rintro e w18 ⟨rfl, hb⟩
      refine ⟨_, rfl, ?_⟩
      replace HB := S.sA hb
      (try clear hb)
      (try clear hb2)
      (try clear hk)
      (try clear hi)
      refine hK.out _ _ ⟨(S.hb HB hw156_0 :), (S.hb HB hw156_1 :), (S.hb HB hw156_2 :), (S.hb HB hw156_3 :)⟩ (fun hHeld => ?_)
      clear hK K
      refine S.nm 14 ?_
      refine S.pS 5 15 ?_
      refine S.pS 6 16 ?_
      refine S.pU 7 17 ?_
      refine S.pU 8 18 ?_
      refine S.pU 9 19 ?_
      refine S.pU 10 20 ?_
      refine S.pU 11 21 ?_
      refine S.pU 12 22 ?_
      refine S.pU 13 23 ?_
      refine S.pU 14 24 ?_
      refine S.pU 15 25 ?_
      refine S.pU 16 26 ?_
      refine S.pU 17 27 ?_
      refine S.pU 18 28 ?_
      refine S.pU 19 29 ?_
      refine S.pU 20 30 ?_
      refine S.pU 21 31 ?_
      refine S.pU 22 32 ?_
      refine S.pS 23 33 ?_
      refine done_ (done_of HT_.out (by kernel_rfl)) ?_
      try go_wp2
      go_ret
      exact ⟨S.eW, S.bA⟩
    ·rw [if_neg c3] at H
     exact absurd H (by simp)
   ·obtain rfl := Option.some.inj H
    go_wp2
    go_ret
    exact ⟨S.eW, S.bA⟩

end Go.Proofs.Ytopchlafmfgpnaa.PFnExactCutFor
