/- Printed by a program: what the Go functions compute, as plain Lean functions (.f), and the proofs that the machine's calls come to just that (.calls). -/
import Derived.Test.YtjgigmghcfdomaaPFnExactMakeSwitchx0
import Derived.Test.YtjgigmghcfdomaaPFnExactMakeSwitchx4
namespace Go.Proofs.Ytjgigmghcfdomaa.PFnExactMakeSwitch
open Go.RowKit Go.Proofs.YtjgigmghcfdomaaW.PrintWords Go.Proofs.YtjgigmghcfdomaaW.PrintLast Go.Proofs.YtjgigmghcfdomaaW.PrintMore
attribute [local go_sem] max2_int min2_int max_two min_two max_three min_three max_four min_four   -- for this text's walks alone
set_option linter.unusedVariables false
set_option linter.unusedSimpArgs false

/-! ### spec_ArePaths: function 125 -/
def spec_ArePaths.l0 : Nat → List (S71) → Int → Option (Bool)
 | 0, _, _ => none
 | k + 1, x0, x3 => if x3 < (x0.length : Int) then (if 0 ≤ x3 then ((spec_IsPath.f ((rd_T71 x0 x3).f0) ((rd_T71 x0 x3).f1) ((rd_T71 x0 x3).f2) ((rd_T71 x0 x3).f3)).bind fun t182 => (if t182 = true then (if x3 > 0 then (if 0 ≤ (wrap64 (x3 - 1)) then (if (wrap64 (x3 - 1)) < (x0.length : Int) then (if ((rd_T71 x0 (wrap64 (x3 - 1))).f0) ≥ ((rd_T71 x0 x3).f0) then (some false) else (spec_ArePaths.l0 k x0 (wrap64 (x3 + 1)))) else (none)) else (none)) else (spec_ArePaths.l0 k x0 (wrap64 (x3 + 1)))) else (some false))) else (none)) else (some (decide ((x0.length : Int) ≤ 12)))
def spec_ArePaths.f (k : Nat) (l0 : List (S71)) : Option (Bool) := spec_ArePaths.l0 k l0 0
def spec_ArePaths.T4 : Bool × List (List Nat × List Nat) := (true, [([], []), ([], []), ([0, 1], [0, 1]), ([2], [2]), ([3], [3]), ([4], [4]), ([5, 4], [5]), ([6], [6]), ([7, 6], [6, 7]), ([8, 6, 6], [6, 8]), ([9], [9]), ([9], [9]), ([11, 9], [9, 11]), ([10, 12, 9], [9, 10, 12]), ([13, 9], [9, 13]), ([14, 9], [9, 14]), ([9], [9]), ([9], [9]), ([16, 17, 9], [9, 16, 17]), ([18, 9], [9, 18]), ([19, 9], [9, 19]), ([15, 20, 9], [9, 15, 20]), ([9, 21, 6], [6, 9, 21]), ([6, 22], [6, 22])])
def spec_ArePaths.B4 : List Nat := [0, 0, 3, 7, 15, 31, 63, 127, 255, 511, 1023, 1023, 3071, 8191, 16383, 32767, 1023, 1023, 197631, 459775, 984063, 2097151, 4194303, 8388607]
theorem spec_ArePaths.tab4 : rtab .any (opsOf Try.f125 4) = spec_ArePaths.T4 := by kernel_rfl
theorem spec_ArePaths.bits4 : waitsOk spec_ArePaths.T4.2 spec_ArePaths.B4 = true := by kernel_rfl
set_option maxHeartbeats 8000000 in
set_option maxRecDepth 100000 in
theorem spec_ArePaths.calls (k : Nat) (A0 : Option Addr) (c0 : Nat) (l0 : List (S71)) (r : Bool) (w : World) (hr0 : Kd.C k71 w A0 l0.length l0) (hc0 : l0.length ≤ c0) (h : spec_ArePaths.f k l0 = some r) :
  Calls Try.prog 125 #[.slice A0 l0.length c0] w fun e w' => e = .returned (.bool r) ∧ Below w.heap.size w w' := by
 have hu71 := Try.underlying71
 have HR0 := Aside0.mk hr0
 have HC0 := Aside0.mk hc0
 clear hr0 hc0
 have HB := Aside0.mk (Below.refl w.heap.size w)
 have H : (spec_ArePaths.l0 k l0 0) = some r := h
 clear h
 have H' := Aside0.mk H
 clear H
 go_enter Try.func125, Try.ntmps125
 go_wp2
 go_loopg [3] k (fun kq v3 w' => ∃ (x3_1 : Int), v3 = .int .i64 x3_1 ∧ Aside0 (spec_ArePaths.l0 kq l0 x3_1 = some r) ∧ Aside0 (kq ≤ k) ∧ Aside0 (Below w.heap.size w w'))
 case atStart => exact ⟨(0), S.eA, H', ⟨Nat.le_refl _⟩, ⟨S.bA⟩⟩
 case round =>
  clear H'
  obtain ⟨x3_1, rfl, HA, HK1, HB⟩ := hrel
  cases gk with
  | zero => exact absurd HA.out (by simp [spec_ArePaths.l0])
  | succ k1 =>
   have H := HA.out
   clear HA
   simp only [spec_ArePaths.l0] at H
   replace H := S.dc H; rcases H with ⟨H, c2b0⟩ | ⟨H, c2b0⟩
   ·by_cases c3 : 0 ≤ x3_1
    ·rw [if_pos c3] at H
     have c3b0 : decide (0 ≤ x3_1) = true := decide_eq_true c3
     clear c3
     replace H := S.bd H; obtain ⟨t182, A4, H⟩ := H
     (try dsimp only at H)
     replace H := S.db H; rcases H with ⟨rfl, H⟩ | ⟨rfl, H⟩
     ·by_cases c6 : x3_1 > 0
      ·rw [if_pos c6] at H
       have c6b0 : decide (0 < x3_1) = true := decide_eq_true c6
       clear c6
       obtain ⟨ji7, hji7⟩ : ∃ j_ : Int, (wrap64 (x3_1 - 1)) = j_ := ⟨_, rfl⟩
       replace H : (if 0 ≤ (ji7) then (if (ji7) < (l0.length : Int) then (if ((rd_T71 l0 (ji7)).f0) ≥ ((rd_T71 l0 x3_1).f0) then (some false) else (spec_ArePaths.l0 k1 l0 (wrap64 (x3_1 + 1)))) else (none)) else (none)) = some r := by first | (rw [hji7] at H; exact H) | (simp only [hji7] at H ⊢; exact H)
       (try rw [hji7] at A4)
       have hji7w : (IntKind.i64.wrap (x3_1 - 1)) = ji7 := (i64_w _).trans hji7
       by_cases c8 : 0 ≤ (ji7)
       ·rw [if_pos c8] at H
        have c8b0 : decide (0 ≤ (ji7)) = true := decide_eq_true c8
        clear c8
        by_cases c9 : (ji7) < (l0.length : Int)
        ·rw [if_pos c9] at H
         have c9b0 : decide ((ji7) < (l0.length : Int)) = true := decide_eq_true c9
         clear c9
         by_cases c10 : ((rd_T71 l0 (ji7)).f0) ≥ ((rd_T71 l0 x3_1).f0)
         ·rw [if_pos c10] at H
          have c10b0 : decide (((rd_T71 l0 x3_1).f0) ≤ ((rd_T71 l0 (ji7)).f0)) = true := decide_eq_true c10
          clear c10
          obtain rfl := Option.some.inj H
          try go_wp2
          replace HB := Aside0.mk (below_drew1 HB.out)
          have p181 : 0 ≤ (x3_1 : Int) := S.oD
          have q181 : x3_1 < (l0.length : Int) := S.oD
          obtain ⟨ad181, e181, hx181_0, hx181_1, hx181_2, hx181_3⟩ := at_T71 HR0.out x3_1 p181 q181
          have hw181_3 := hx181_3
          have hw181_2 := hx181_2
          have hw181_1 := hx181_1
          have hw181_0 := hx181_0
          cases e181
          replace hx181_0 := S.hb HB hx181_0
          replace hx181_1 := S.hb HB hx181_1
          replace hx181_2 := S.hb HB hx181_2
          replace hx181_3 := S.hb HB hx181_3
          replace p181 := eq_true p181
          replace q181 := eq_true q181
          have p183 : 0 ≤ ((ji7) : Int) := S.oD
          have q183 : (ji7) < (l0.length : Int) := S.oD
          obtain ⟨ad183, e183, hx183_0, hx183_1, hx183_2, hx183_3⟩ := at_T71 HR0.out (ji7) p183 q183
          have hw183_3 := hx183_3
          have hw183_2 := hx183_2
          have hw183_1 := hx183_1
          have hw183_0 := hx183_0
          obtain rfl : ad181 = ad183 := (by injection e183)
          replace hx183_0 := S.hb HB hx183_0
          replace hx183_1 := S.hb HB hx183_1
          replace hx183_2 := S.hb HB hx183_2
          replace hx183_3 := S.hb HB hx183_3
          replace p183 := eq_true p183
          replace q183 := eq_true q183
          have p184 : 0 ≤ (x3_1 : Int) := S.oD
          have q184 : x3_1 < (l0.length : Int) := S.oD
          obtain ⟨ad184, e184, hx184_0, hx184_1, hx184_2, hx184_3⟩ := at_T71 HR0.out x3_1 p184 q184
          have hw184_3 := hx184_3
          have hw184_2 := hx184_2
          have hw184_1 := hx184_1
          have hw184_0 := hx184_0
          obtain rfl : ad181 = ad184 := (by injection e184)
          replace hx184_0 := S.hb HB hx184_0
          replace hx184_1 := S.hb HB hx184_1
          replace hx184_2 := S.hb HB hx184_2
          replace hx184_3 := S.hb HB hx184_3
          replace p184 := eq_true p184
          replace q184 := eq_true q184
          refine S.st (n := 24) (ds := []) #[false, false, false, false, false, false, false, false, false, false, false, false, false, false, false, false, false, false, false, false, false, false, false, false] (fun w_ h_ => have x_ := And.intro (S.q h_ (S.hb HB hw181_0)) (And.intro (S.q h_ (S.hb HB hw181_1)) (And.intro (S.q h_ (S.hb HB hw181_2)) (And.intro (S.q h_ (S.hb HB hw181_3)) (And.intro (S.q h_ (S.hb HB hw183_0)) (And.intro (S.q h_ (S.hb HB hw183_1)) (And.intro (S.q h_ (S.hb HB hw183_2)) (And.intro (S.q h_ (S.hb HB hw183_3)) (And.intro (S.q h_ (S.hb HB hw184_0)) (And.intro (S.q h_ (S.hb HB hw184_1)) (And.intro (S.q h_ (S.hb HB hw184_2)) (S.q h_ (S.hb HB hw184_3)))))))))))); x_) (fun hHeld => ?_); refine with_tabW spec_ArePaths.tab4 spec_ArePaths.bits4 (fun HT_ HW_ => ?_)
          generalize wr.drew = w11 at HB hx181_0 hx181_1 hx181_2 hx181_3 hx183_0 hx183_1 hx183_2 hx183_3 hx184_0 hx184_1 hx184_2 hx184_3 hHeld ⊢
          refine S.pS 0 10 ?_
          refine S.pS 1 11 ?_
          refine S.pS 2 12 ?_
          refine S.tK 3 13 #[true, true, true, true, false, false, false, false, false, false, false, false, false, false, false, false, false, false, false, false, false, false, false, false] ?_
          refine S.oN 4 14 #[true, true, true, true, true, false, false, false, false, false, false, false, false, false, false, false, false, false, false, false, false, false, false, false] (fun K hK => ?_)
          refine S.go Try.func135 #[.agg #[.int .i64 ((rd_T71 l0 x3_1).f0), .int .i64 ((rd_T71 l0 x3_1).f1), .int .i64 ((rd_T71 l0 x3_1).f2), .int .i64 ((rd_T71 l0 x3_1).f3)]] ?_
          with_reducible refine (spec_IsPath.calls ((rd_T71 l0 x3_1).f0) ((rd_T71 l0 x3_1).f1) ((rd_T71 l0 x3_1).f2) ((rd_T71 l0 x3_1).f3) true _ A4.out).mono ?_
          rintro e w12 ⟨rfl, hb⟩
          refine ⟨_, rfl, ?_⟩
          replace HB := S.sA hb
          (try clear hb)
          (try clear hb2)
          (try clear hk)
          (try clear hi)
          refine hK.out _ _ ⟨(S.hb HB hw181_0 :), (S.hb HB hw181_1 :), (S.hb HB hw181_2 :), (S.hb HB hw181_3 :), (S.hb HB hw183_0 :), (S.hb HB hw183_1 :), (S.hb HB hw183_2 :), (S.hb HB hw183_3 :), (S.hb HB hw184_0 :), (S.hb HB hw184_1 :), (S.hb HB hw184_2 :), (S.hb HB hw184_3 :)⟩ (fun hHeld => ?_)
          clear hK K
          refine S.nm 14 ?_
          refine S.pS 5 15 ?_
          refine S.pS 6 16 ?_
          refine S.pS 7 17 ?_
          refine S.pS 8 18 ?_
          refine S.pS 9 19 ?_
          refine S.pS 10 20 ?_
          refine S.pS 11 21 ?_
          refine S.pS 12 22 ?_
          refine S.pS 13 23 ?_
          refine S.pS 14 24 ?_
          refine S.pS 16 26 ?_
          refine S.pS 17 27 ?_
          refine S.pS 18 28 ?_
          refine S.pS 19 29 ?_
          refine S.tK 15 25 #[true, true, true, true, true, true, true, true, true, true, true, true, true, true, true, true, true, true, true, true, false, false, false, false] ?_
          refine S.tK 20 30 #[true, true, true, true, true, true, true, true, true, true, true, true, true, true, true, true, true, true, true, true, true, false, false, false] ?_
          refine S.pS 21 31 ?_
          refine S.pS 22 32 ?_
          refine S.pS 23 33 ?_
          refine done_ (done_of HT_.out (by kernel_rfl)) ?_
          try go_wp2
          go_ret
          exact ⟨by first | rfl | (simp [errW_none, errW_some] <;> rfl) | (simp only [← hji7]; first | rfl | (simp [errW_none, errW_some] <;> rfl)) | (simp [*, errW_none, errW_some] <;> rfl), S.bA⟩
         ·rw [if_neg c10] at H
          have c10b0 : decide (((rd_T71 l0 x3_1).f0) ≤ ((rd_T71 l0 (ji7)).f0)) = false := decide_eq_false c10
          clear c10
          have H' := Aside0.mk H
          clear H
          try go_wp2
          replace HB := Aside0.mk (below_drew1 HB.out)
          have p181 : 0 ≤ (x3_1 : Int) := S.oD
          have q181 : x3_1 < (l0.length : Int) := S.oD
          obtain ⟨ad181, e181, hx181_0, hx181_1, hx181_2, hx181_3⟩ := at_T71 HR0.out x3_1 p181 q181
          have hw181_3 := hx181_3
          have hw181_2 := hx181_2
          have hw181_1 := hx181_1
          have hw181_0 := hx181_0
          cases e181
          replace hx181_0 := S.hb HB hx181_0
          replace hx181_1 := S.hb HB hx181_1
          replace hx181_2 := S.hb HB hx181_2
          replace hx181_3 := S.hb HB hx181_3
          replace p181 := eq_true p181
          replace q181 := eq_true q181
          have p183 : 0 ≤ ((ji7) : Int) := S.oD
          have q183 : (ji7) < (l0.length : Int) := S.oD
          obtain ⟨ad183, e183, hx183_0, hx183_1, hx183_2, hx183_3⟩ := at_T71 HR0.out (ji7) p183 q183
          have hw183_3 := hx183_3
          have hw183_2 := hx183_2
          have hw183_1 := hx183_1
          have hw183_0 := hx183_0
          obtain rfl : ad181 = ad183 := (by injection e183)
          replace hx183_0 := S.hb HB hx183_0
          replace hx183_1 := S.hb HB hx183_1
          replace hx183_2 := S.hb HB hx183_2
          replace hx183_3 := S.hb HB hx183_3
          replace p183 := eq_true p183
          replace q183 := eq_true q183
          have p184 : 0 ≤ (x3_1 : Int) := S.oD
          have q184 : x3_1 < (l0.length : Int) := S.oD
          obtain ⟨ad184, e184, hx184_0, hx184_1, hx184_2, hx184_3⟩ := at_T71 HR0.out x3_1 p184 q184
          have hw184_3 := hx184_3
          have hw184_2 := hx184_2
          have hw184_1 := hx184_1
          have hw184_0 := hx184_0
          obtain rfl : ad181 = ad184 := (by injection e184)
          replace hx184_0 := S.hb HB hx184_0
          replace hx184_1 := S.hb HB hx184_1
          replace hx184_2 := S.hb HB hx184_2
          replace hx184_3 := S.hb HB hx184_3
          replace p184 := eq_true p184
          replace q184 := eq_true q184
          refine S.st (n := 24) (ds := []) #[false, false, false, false, false, false, false, false, false, false, false, false, false, false, false, false, false, false, false, false, false, false, false, false] (fun w_ h_ => have x_ := And.intro (S.q h_ (S.hb HB hw181_0)) (And.intro (S.q h_ (S.hb HB hw181_1)) (And.intro (S.q h_ (S.hb HB hw181_2)) (And.intro (S.q h_ (S.hb HB hw181_3)) (And.intro (S.q h_ (S.hb HB hw183_0)) (And.intro (S.q h_ (S.hb HB hw183_1)) (And.intro (S.q h_ (S.hb HB hw183_2)) (And.intro (S.q h_ (S.hb HB hw183_3)) (And.intro (S.q h_ (S.hb HB hw184_0)) (And.intro (S.q h_ (S.hb HB hw184_1)) (And.intro (S.q h_ (S.hb HB hw184_2)) (S.q h_ (S.hb HB hw184_3)))))))))))); x_) (fun hHeld => ?_); refine with_tabW spec_ArePaths.tab4 spec_ArePaths.bits4 (fun HT_ HW_ => ?_)
          generalize wr.drew = w13 at HB hx181_0 hx181_1 hx181_2 hx181_3 hx183_0 hx183_1 hx183_2 hx183_3 hx184_0 hx184_1 hx184_2 hx184_3 hHeld ⊢
          refine S.pS 0 10 ?_
          refine S.pS 1 11 ?_
          refine S.pS 2 12 ?_
          refine S.tK 3 13 #[true, true, true, true, false, false, false, false, false, false, false, false, false, false, false, false, false, false, false, false, false, false, false, false] ?_
          refine S.oN 4 14 #[true, true, true, true, true, false, false, false, false, false, false, false, false, false, false, false, false, false, false, false, false, false, false, false] (fun K hK => ?_)
          refine S.go Try.func135 #[.agg #[.int .i64 ((rd_T71 l0 x3_1).f0), .int .i64 ((rd_T71 l0 x3_1).f1), .int .i64 ((rd_T71 l0 x3_1).f2), .int .i64 ((rd_T71 l0 x3_1).f3)]] ?_
          with_reducible refine (spec_IsPath.calls ((rd_T71 l0 x3_1).f0) ((rd_T71 l0 x3_1).f1) ((rd_T71 l0 x3_1).f2) ((rd_T71 l0 x3_1).f3) true _ A4.out).mono ?_
          rintro e w14 ⟨rfl, hb⟩
          refine ⟨_, rfl, ?_⟩
          replace HB := S.sA hb
          (try clear hb)
          (try clear hb2)
          (try clear hk)
          (try clear hi)
          refine hK.out _ _ ⟨(S.hb HB hw181_0 :), (S.hb HB hw181_1 :), (S.hb HB hw181_2 :), (S.hb HB hw181_3 :), (S.hb HB hw183_0 :), (S.hb HB hw183_1 :), (S.hb HB hw183_2 :), (S.hb HB hw183_3 :), (S.hb HB hw184_0 :), (S.hb HB hw184_1 :), (S.hb HB hw184_2 :), (S.hb HB hw184_3 :)⟩ (fun hHeld => ?_)
          clear hK K
          refine S.nm 14 ?_
          refine S.pS 5 15 ?_
          refine S.pS 6 16 ?_
          refine S.pS 7 17 ?_
          refine S.pS 8 18 ?_
          refine S.pS 9 19 ?_
          refine S.pS 10 20 ?_
          refine S.pS 11 21 ?_
          refine S.pS 12 22 ?_
          refine S.pS 13 23 ?_
          refine S.pS 14 24 ?_
          refine S.pS 16 26 ?_
          refine S.pS 17 27 ?_
          refine S.pS 18 28 ?_
          refine S.pS 19 29 ?_
          refine S.tK 15 25 #[true, true, true, true, true, true, true, true, true, true, true, true, true, true, true, true, true, true, true, true, false, false, false, false] ?_
          refine S.tK 20 30 #[true, true, true, true, true, true, true, true, true, true, true, true, true, true, true, true, true, true, true, true, true, false, false, false] ?_
          refine S.pS 21 31 ?_
          refine S.pS 22 32 ?_
          refine S.pS 23 33 ?_
          refine done_ (done_of HT_.out (by kernel_rfl)) ?_
          try go_wp2
          go_roundg k1
          case measure => have := HK1.out; omega
          case rel => exact ⟨(wrap64 (x3_1 + 1)), S.eA, H', ⟨by have := HK1.out; omega⟩, ⟨S.bA⟩⟩
        ·rw [if_neg c9] at H
         exact absurd H (by simp)
       ·rw [if_neg c8] at H
        exact absurd H (by simp)
      ·rw [if_neg c6] at H
       have c6b0 : decide (0 < x3_1) = false := decide_eq_false c6
       clear c6
       have H' := Aside0.mk H
       clear H
       try go_wp2
       replace HB := Aside0.mk (below_drew1 HB.out)
       have p181 : 0 ≤ (x3_1 : Int) := S.oD
       have q181 : x3_1 < (l0.length : Int) := S.oD
       obtain ⟨ad181, e181, hx181_0, hx181_1, hx181_2, hx181_3⟩ := at_T71 HR0.out x3_1 p181 q181
       have hw181_3 := hx181_3
       have hw181_2 := hx181_2
       have hw181_1 := hx181_1
       have hw181_0 := hx181_0
       cases e181
       replace hx181_0 := S.hb HB hx181_0
       replace hx181_1 := S.hb HB hx181_1
       replace hx181_2 := S.hb HB hx181_2
       replace hx181_3 := S.hb HB hx181_3
       replace p181 := eq_true p181
       replace q181 := eq_true q181
       refine S.st (n := 24) (ds := []) #[false, false, false, false, false, false, false, false, false, false, false, false, false, false, false, false, false, false, false, false, false, false, false, false] (fun w_ h_ => have x_ := And.intro (S.q h_ (S.hb HB hw181_0)) (And.intro (S.q h_ (S.hb HB hw181_1)) (And.intro (S.q h_ (S.hb HB hw181_2)) (S.q h_ (S.hb HB hw181_3)))); x_) (fun hHeld => ?_); refine with_tabW spec_ArePaths.tab4 spec_ArePaths.bits4 (fun HT_ HW_ => ?_)
       generalize wr.drew = w15 at HB hx181_0 hx181_1 hx181_2 hx181_3 hHeld ⊢
       refine S.pS 0 10 ?_
       refine S.pS 1 11 ?_
       refine S.pS 2 12 ?_
       refine S.tK 3 13 #[true, true, true, true, false, false, false, false, false, false, false, false, false, false, false, false, false, false, false, false, false, false, false, false] ?_
       refine S.oN 4 14 #[true, true, true, true, true, false, false, false, false, false, false, false, false, false, false, false, false, false, false, false, false, false, false, false] (fun K hK => ?_)
       refine S.go Try.func135 #[.agg #[.int .i64 ((rd_T71 l0 x3_1).f0), .int .i64 ((rd_T71 l0 x3_1).f1), .int .i64 ((rd_T71 l0 x3_1).f2), .int .i64 ((rd_T71 l0 x3_1).f3)]] ?_
       with_reducible refine (spec_IsPath.calls ((rd_T71 l0 x3_1).f0) ((rd_T71 l0 x3_1).f1) ((rd_T71 l0 x3_1).f2) ((rd_T71 l0 x3_1).f3) true _ A4.out).mono ?_
       rintro e w16 ⟨rfl, hb⟩
       refine ⟨_, rfl, ?_⟩
       replace HB := S.sA hb
       (try clear hb)
       (try clear hb2)
       (try clear hk)
       (try clear hi)
       refine hK.out _ _ ⟨(S.hb HB hw181_0 :), (S.hb HB hw181_1 :), (S.hb HB hw181_2 :), (S.hb HB hw181_3 :)⟩ (fun hHeld => ?_)
       clear hK K
       refine S.nm 14 ?_
       refine S.pS 5 15 ?_
       refine S.pS 6 16 ?_
       refine S.pS 7 17 ?_
       refine S.pS 8 18 ?_
       refine S.pS 9 19 ?_
       refine S.pU 10 20 ?_
       refine S.pU 11 21 ?_
       refine S.pU 12 22 ?_
       refine S.pU 13 23 ?_
       refine S.pU 14 24 ?_
       refine S.pU 15 25 ?_
       refine S.pU 16 26 ?_
       refine S.pU 17 27 ?_
       refine S.pU 18 28 ?_
       refine S.pU 19 29 ?_
       refine S.pU 20 30 ?_
       refine S.pU 21 31 ?_
       refine S.pS 22 32 ?_
       refine S.pS 23 33 ?_
       refine done_ (done_of HT_.out (by kernel_rfl)) ?_
       try go_wp2
       go_roundg k1
       case measure => have := HK1.out; omega
       case rel => exact ⟨(wrap64 (x3_1 + 1)), S.eA, H', ⟨by have := HK1.out; omega⟩, ⟨S.bA⟩⟩
     ·obtain rfl := Option.some.inj H
      try go_wp2
      replace HB := Aside0.mk (below_drew1 HB.out)
      have p181 : 0 ≤ (x3_1 : Int) := S.oD
      have q181 : x3_1 < (l0.length : Int) := S.oD
      obtain ⟨ad181, e181, hx181_0, hx181_1, hx181_2, hx181_3⟩ := at_T71 HR0.out x3_1 p181 q181
      have hw181_3 := hx181_3
      have hw181_2 := hx181_2
      have hw181_1 := hx181_1
      have hw181_0 := hx181_0
      cases e181
      replace hx181_0 := S.hb HB hx181_0
      replace hx181_1 := S.hb HB hx181_1
      replace hx181_2 := S.hb HB hx181_2
      replace hx181_3 := S.hb HB hx181_3
      replace p181 := eq_true p181
      replace q181 := eq_true q181
      refine S.st (n := 24) (ds := []) #[false, false, false, false, false, false, false, false, false, false, false, false, false, false, false, false, false, false, false, false, false, false, false, false] (fun w_ h_ => have x_ := And.intro (S.q h_ (S.hb HB hw181_0)) (And.intro (S.q h_ (S.hb HB hw181_1)) (And.intro (S.q h_ (S.hb HB hw181_2)) (S.q h_ (S.hb HB hw181_3)))); x_) (fun hHeld => ?_); refine with_tabW spec_ArePaths.tab4 spec_ArePaths.bits4 (fun HT_ HW_ => ?_)
      generalize wr.drew = w17 at HB hx181_0 hx181_1 hx181_2 hx181_3 hHeld ⊢
      refine S.pS 0 10 ?_
      refine S.pS 1 11 ?_
      refine S.pS 2 12 ?_
      refine S.tK 3 13 #[true, true, true, true, false, false, false, false, false, false, false, false, false, false, false, false, false, false, false, false, false, false, false, false] ?_
      refine S.oN 4 14 #[true, true, true, true, true, false, false, false, false, false, false, false, false, false, false, false, false, false, false, false, false, false, false, false] (fun K hK => ?_)
      refine S.go Try.func135 #[.agg #[.int .i64 ((rd_T71 l0 x3_1).f0), .int .i64 ((rd_T71 l0 x3_1).f1), .int .i64 ((rd_T71 l0 x3_1).f2), .int .i64 ((rd_T71 l0 x3_1).f3)]] ?_
      with_reducible refine (spec_IsPath.calls ((rd_T71 l0 x3_1).f0) ((rd_T71 l0 x3_1).f1) ((rd_T71 l0 x3_1).f2) ((rd_T71 l0 x3_1).f3) false _ A4.out).mono ?_
      rintro e w18 ⟨rfl, hb⟩
      refine ⟨_, rfl, ?_⟩
      replace HB := S.sA hb
      (try clear hb)
      (try clear hb2)
      (try clear hk)
      (try clear hi)
      refine hK.out _ _ ⟨(S.hb HB hw181_0 :), (S.hb HB hw181_1 :), (S.hb HB hw181_2 :), (S.hb HB hw181_3 :)⟩ (fun hHeld => ?_)
      clear hK K
      refine S.nm 14 ?_
      refine S.pS 5 15 ?_
      refine S.pS 6 16 ?_
      refine S.pU 7 17 ?_
      refine S.pU 8 18 ?_
      refine S.pU 9 19 ?_
      refine S.pU 10 20 ?_
      refine S.pU 11 21 ?_
      refine S.pU 12 22 ?_
      refine S.pU 13 23 ?_
      refine S.pU 14 24 ?_
      refine S.pU 15 25 ?_
      refine S.pU 16 26 ?_
      refine S.pU 17 27 ?_
      refine S.pU 18 28 ?_
      refine S.pU 19 29 ?_
      refine S.pU 20 30 ?_
      refine S.pU 21 31 ?_
      refine S.pU 22 32 ?_
      refine S.pS 23 33 ?_
      refine done_ (done_of HT_.out (by kernel_rfl)) ?_
      try go_wp2
      go_ret
      exact ⟨S.eW, S.bA⟩
    ·rw [if_neg c3] at H
     exact absurd H (by simp)
   ·obtain rfl := Option.some.inj H
    go_wp2
    go_ret
    exact ⟨S.eW, S.bA⟩

end Go.Proofs.Ytjgigmghcfdomaa.PFnExactMakeSwitch
