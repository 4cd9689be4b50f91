/- Printed by a program: what the Go functions compute, as plain Lean functions (.f), and the proofs that the machine's calls come to just that (.calls). -/
import Derived.Test.YtopchlafmfgpnaaPFnSirensx0
import Derived.Test.YtopchlafmfgpnaaPFnSirensx5
namespace Go.Proofs.Ytopchlafmfgpnaa.PFnSirens
open Go.RowKit Go.Proofs.YtopchlafmfgpnaaW.PrintWords Go.Proofs.YtopchlafmfgpnaaW.PrintLast Go.Proofs.YtopchlafmfgpnaaW.PrintMore
attribute [local go_sem] max2_int min2_int max_two min_two max_three min_three max_four min_four   -- for this text's walks alone
set_option linter.unusedVariables false
set_option linter.unusedSimpArgs false
set_option maxHeartbeats 8000000
set_option maxRecDepth 100000
/-! ### spec_ArePaths: function 109 -/
def spec_ArePaths.l0 : Nat → List (S52) → Int → Option (Bool)
 | 0, _, _ => none
 | k + 1, x0, x3 => if x3 < (x0.length : Int) then (if 0 ≤ x3 then ((spec_IsPath.f ((rd_T52 x0 x3).f0) ((rd_T52 x0 x3).f1) ((rd_T52 x0 x3).f2) ((rd_T52 x0 x3).f3)).bind fun t399 => (if t399 = true then (if x3 > 0 then (if 0 ≤ (wrap64 (x3 - 1)) then (if (wrap64 (x3 - 1)) < (x0.length : Int) then (if ((rd_T52 x0 (wrap64 (x3 - 1))).f0) ≥ ((rd_T52 x0 x3).f0) then (some false) else (spec_ArePaths.l0 k x0 (wrap64 (x3 + 1)))) else (none)) else (none)) else (spec_ArePaths.l0 k x0 (wrap64 (x3 + 1)))) else (some false))) else (none)) else (some (decide ((x0.length : Int) ≤ 12)))
def spec_ArePaths.f (k : Nat) (l0 : List (S52)) : Option (Bool) := spec_ArePaths.l0 k l0 0
def spec_ArePaths.T4 : Bool × List (List Nat × List Nat) := (true, [([], []), ([], []), ([0, 1], [0, 1]), ([2], [2]), ([3], [3]), ([4], [4]), ([5, 4], [5]), ([6], [6]), ([7, 6], [6, 7]), ([8, 6, 6], [6, 8]), ([9], [9]), ([9], [9]), ([11, 9], [9, 11]), ([10, 12, 9], [9, 10, 12]), ([13, 9], [9, 13]), ([14, 9], [9, 14]), ([9], [9]), ([9], [9]), ([16, 17, 9], [9, 16, 17]), ([18, 9], [9, 18]), ([19, 9], [9, 19]), ([15, 20, 9], [9, 15, 20]), ([9, 21, 6], [6, 9, 21]), ([6, 22], [6, 22])])
def spec_ArePaths.B4 : List Nat := [0, 0, 3, 7, 15, 31, 63, 127, 255, 511, 1023, 1023, 3071, 8191, 16383, 32767, 1023, 1023, 197631, 459775, 984063, 2097151, 4194303, 8388607]
theorem spec_ArePaths.tab4 : rtab .any (opsOf Try.f109 4) = spec_ArePaths.T4 := by kernel_rfl
theorem spec_ArePaths.bits4 : waitsOk spec_ArePaths.T4.2 spec_ArePaths.B4 = true := by kernel_rfl
theorem spec_ArePaths.calls (k : Nat) (A0 : Option Addr) (c0 : Nat) (l0 : List (S52)) (r : Bool) (w : World) (hr0 : Kd.C k52 w A0 l0.length l0) (hc0 : l0.length ≤ c0) (h : spec_ArePaths.f k l0 = some r) :
  Calls Try.prog 109 #[.slice A0 l0.length c0] w fun e w' => e = .returned (.bool r) ∧ Below w.heap.size w w' := by
 have hu52 := Try.underlying52; have HR0 := Aside0.mk hr0; have HC0 := Aside0.mk hc0; clear hr0 hc0; have HB := Aside0.mk (Below.refl w.heap.size w); have H : (spec_ArePaths.l0 k l0 0) = some r := h; clear h; have H' := Aside0.mk H; clear H; go_enter Try.func109, Try.ntmps109; go_wp2; go_loopg [3] k (fun kq v3 w' => ∃ (x3_1 : Int), v3 = .int .i64 x3_1 ∧ Aside0 (spec_ArePaths.l0 kq l0 x3_1 = some r) ∧ Aside0 (kq ≤ k) ∧ Aside0 (Below w.heap.size w w'))
 case atStart => exact ⟨(0), S.eA, H', ⟨Nat.le_refl _⟩, ⟨S.bA⟩⟩
 case round =>
  clear H'; obtain ⟨x3_1, rfl, HA, HK1, HB⟩ := hrel
  cases gk with
  | zero => exact absurd HA.out (by simp [spec_ArePaths.l0])
  | succ k1 =>
   have H := HA.out; clear HA; simp only [spec_ArePaths.l0] at H; replace H := S.dc H; rcases H with ⟨H, c2b0⟩ | ⟨H, c2b0⟩
   ·by_cases c3 : 0 ≤ x3_1
    ·rw [if_pos c3] at H; have c3b0 : decide (0 ≤ x3_1) = true := decide_eq_true c3; clear c3; replace H := S.bd H; obtain ⟨t399, A4, H⟩ := H; (try dsimp only at H); replace H := S.db H; rcases H with ⟨rfl, H⟩ | ⟨rfl, H⟩
     ·by_cases c6 : x3_1 > 0
      ·rw [if_pos c6] at H; have c6b0 : decide (0 < x3_1) = true := decide_eq_true c6; clear c6; obtain ⟨ji7, hji7⟩ : ∃ j_ : Int, (wrap64 (x3_1 - 1)) = j_ := ⟨_, rfl⟩; replace H : (if 0 ≤ (ji7) then (if (ji7) < (l0.length : Int) then (if ((rd_T52 l0 (ji7)).f0) ≥ ((rd_T52 l0 x3_1).f0) then (some false) else (spec_ArePaths.l0 k1 l0 (wrap64 (x3_1 + 1)))) else (none)) else (none)) = some r := by first | (rw [hji7] at H; exact H) | (simp only [hji7] at H ⊢; exact H)
       (try rw [hji7] at A4); have hji7w : (IntKind.i64.wrap (x3_1 - 1)) = ji7 := (i64_w _).trans hji7
       by_cases c8 : 0 ≤ (ji7)
       ·rw [if_pos c8] at H; have c8b0 : decide (0 ≤ (ji7)) = true := decide_eq_true c8; clear c8
        by_cases c9 : (ji7) < (l0.length : Int)
        ·rw [if_pos c9] at H; have c9b0 : decide ((ji7) < (l0.length : Int)) = true := decide_eq_true c9; clear c9
         by_cases c10 : ((rd_T52 l0 (ji7)).f0) ≥ ((rd_T52 l0 x3_1).f0)
         ·rw [if_pos c10] at H; have c10b0 : decide (((rd_T52 l0 x3_1).f0) ≤ ((rd_T52 l0 (ji7)).f0)) = true := decide_eq_true c10; clear c10; obtain rfl := Option.some.inj H; try go_wp2
          replace HB := Aside0.mk (below_drew1 HB.out); have p398 : 0 ≤ (x3_1 : Int) := S.oD; have q398 : x3_1 < (l0.length : Int) := S.oD; obtain ⟨ad398, e398, hx398_0, hx398_1, hx398_2, hx398_3⟩ := at_T52 HR0.out x3_1 p398 q398; have hw398_3 := hx398_3; have hw398_2 := hx398_2; have hw398_1 := hx398_1; have hw398_0 := hx398_0; cases e398; replace hx398_0 := S.hb HB hx398_0; replace hx398_1 := S.hb HB hx398_1; replace hx398_2 := S.hb HB hx398_2; replace hx398_3 := S.hb HB hx398_3; replace p398 := eq_true p398; replace q398 := eq_true q398; have p400 : 0 ≤ ((ji7) : Int) := S.oD; have q400 : (ji7) < (l0.length : Int) := S.oD; obtain ⟨ad400, e400, hx400_0, hx400_1, hx400_2, hx400_3⟩ := at_T52 HR0.out (ji7) p400 q400; have hw400_3 := hx400_3; have hw400_2 := hx400_2; have hw400_1 := hx400_1; have hw400_0 := hx400_0; obtain rfl : ad398 = ad400 := (by injection e400); replace hx400_0 := S.hb HB hx400_0; replace hx400_1 := S.hb HB hx400_1; replace hx400_2 := S.hb HB hx400_2; replace hx400_3 := S.hb HB hx400_3; replace p400 := eq_true p400; replace q400 := eq_true q400; have p401 : 0 ≤ (x3_1 : Int) := S.oD; have q401 : x3_1 < (l0.length : Int) := S.oD; obtain ⟨ad401, e401, hx401_0, hx401_1, hx401_2, hx401_3⟩ := at_T52 HR0.out x3_1 p401 q401; have hw401_3 := hx401_3; have hw401_2 := hx401_2; have hw401_1 := hx401_1; have hw401_0 := hx401_0; obtain rfl : ad398 = ad401 := (by injection e401); replace hx401_0 := S.hb HB hx401_0; replace hx401_1 := S.hb HB hx401_1; replace hx401_2 := S.hb HB hx401_2; replace hx401_3 := S.hb HB hx401_3; replace p401 := eq_true p401; replace q401 := eq_true q401; refine S.st (n := 24) (ds := []) #[false, false, false, false, false, false, false, false, false, false, false, false, false, false, false, false, false, false, false, false, false, false, false, false] (fun w_ h_ => have x_ := And.intro (S.q h_ (S.hb HB hw398_0)) (And.intro (S.q h_ (S.hb HB hw398_1)) (And.intro (S.q h_ (S.hb HB hw398_2)) (And.intro (S.q h_ (S.hb HB hw398_3)) (And.intro (S.q h_ (S.hb HB hw400_0)) (And.intro (S.q h_ (S.hb HB hw400_1)) (And.intro (S.q h_ (S.hb HB hw400_2)) (And.intro (S.q h_ (S.hb HB hw400_3)) (And.intro (S.q h_ (S.hb HB hw401_0)) (And.intro (S.q h_ (S.hb HB hw401_1)) (And.intro (S.q h_ (S.hb HB hw401_2)) (S.q h_ (S.hb HB hw401_3)))))))))))); x_) (fun hHeld => ?_); refine with_tabW spec_ArePaths.tab4 spec_ArePaths.bits4 (fun HT_ HW_ => ?_); generalize wr.drew = w11 at HB hx398_0 hx398_1 hx398_2 hx398_3 hx400_0 hx400_1 hx400_2 hx400_3 hx401_0 hx401_1 hx401_2 hx401_3 hHeld ⊢; refine S.pS 0 10 ?_; refine S.pS 1 11 ?_; refine S.pS 2 12 ?_; refine S.tK 3 13 #[true, true, true, true, false, false, false, false, false, false, false, false, false, false, false, false, false, false, false, false, false, false, false, false] ?_; refine S.oN 4 14 #[true, true, true, true, true, false, false, false, false, false, false, false, false, false, false, false, false, false, false, false, false, false, false, false] (fun K hK => ?_); refine S.go Try.func129 #[.agg #[.int .i64 ((rd_T52 l0 x3_1).f0), .int .i64 ((rd_T52 l0 x3_1).f1), .int .i64 ((rd_T52 l0 x3_1).f2), .int .i64 ((rd_T52 l0 x3_1).f3)]] ?_
          with_reducible refine (spec_IsPath.calls ((rd_T52 l0 x3_1).f0) ((rd_T52 l0 x3_1).f1) ((rd_T52 l0 x3_1).f2) ((rd_T52 l0 x3_1).f3) true _ A4.out).mono ?_
          rintro e w12 ⟨rfl, hb⟩; refine ⟨_, rfl, ?_⟩; replace HB := S.sA hb; (try clear hb); (try clear hb2); (try clear hk); (try clear hi); refine hK.out _ _ ⟨(S.hb HB hw398_0 :), (S.hb HB hw398_1 :), (S.hb HB hw398_2 :), (S.hb HB hw398_3 :), (S.hb HB hw400_0 :), (S.hb HB hw400_1 :), (S.hb HB hw400_2 :), (S.hb HB hw400_3 :), (S.hb HB hw401_0 :), (S.hb HB hw401_1 :), (S.hb HB hw401_2 :), (S.hb HB hw401_3 :)⟩ (fun hHeld => ?_); clear hK K; refine S.nm 14 ?_; refine S.pS 5 15 ?_; refine S.pS 6 16 ?_; refine S.pS 7 17 ?_; refine S.pS 8 18 ?_; refine S.pS 9 19 ?_; refine S.pS 10 20 ?_; refine S.pS 11 21 ?_; refine S.pS 12 22 ?_; refine S.pS 13 23 ?_; refine S.pS 14 24 ?_; refine S.pS 16 26 ?_; refine S.pS 17 27 ?_; refine S.pS 18 28 ?_; refine S.pS 19 29 ?_; refine S.tK 15 25 #[true, true, true, true, true, true, true, true, true, true, true, true, true, true, true, true, true, true, true, true, false, false, false, false] ?_; refine S.tK 20 30 #[true, true, true, true, true, true, true, true, true, true, true, true, true, true, true, true, true, true, true, true, true, false, false, false] ?_; refine S.pS 21 31 ?_; refine S.pS 22 32 ?_; refine S.pS 23 33 ?_; refine done_ (done_of HT_.out (by kernel_rfl)) ?_; try go_wp2
          go_ret; exact ⟨by first | rfl | (simp [errW_none, errW_some] <;> rfl) | (simp only [← hji7]; first | rfl | (simp [errW_none, errW_some] <;> rfl)) | (simp [*, errW_none, errW_some] <;> rfl), S.bA⟩
         ·rw [if_neg c10] at H; have c10b0 : decide (((rd_T52 l0 x3_1).f0) ≤ ((rd_T52 l0 (ji7)).f0)) = false := decide_eq_false c10; clear c10; have H' := Aside0.mk H; clear H; try go_wp2
          replace HB := Aside0.mk (below_drew1 HB.out); have p398 : 0 ≤ (x3_1 : Int) := S.oD; have q398 : x3_1 < (l0.length : Int) := S.oD; obtain ⟨ad398, e398, hx398_0, hx398_1, hx398_2, hx398_3⟩ := at_T52 HR0.out x3_1 p398 q398; have hw398_3 := hx398_3; have hw398_2 := hx398_2; have hw398_1 := hx398_1; have hw398_0 := hx398_0; cases e398; replace hx398_0 := S.hb HB hx398_0; replace hx398_1 := S.hb HB hx398_1; replace hx398_2 := S.hb HB hx398_2; replace hx398_3 := S.hb HB hx398_3; replace p398 := eq_true p398; replace q398 := eq_true q398; have p400 : 0 ≤ ((ji7) : Int) := S.oD; have q400 : (ji7) < (l0.length : Int) := S.oD; obtain ⟨ad400, e400, hx400_0, hx400_1, hx400_2, hx400_3⟩ := at_T52 HR0.out (ji7) p400 q400; have hw400_3 := hx400_3; have hw400_2 := hx400_2; have hw400_1 := hx400_1; have hw400_0 := hx400_0; obtain rfl : ad398 = ad400 := (by injection e400); replace hx400_0 := S.hb HB hx400_0; replace hx400_1 := S.hb HB hx400_1; replace hx400_2 := S.hb HB hx400_2; replace hx400_3 := S.hb HB hx400_3; replace p400 := eq_true p400; replace q400 := eq_true q400; have p401 : 0 ≤ (x3_1 : Int) := S.oD; have q401 : x3_1 < (l0.length : Int) := S.oD; obtain ⟨ad401, e401, hx401_0, hx401_1, hx401_2, hx401_3⟩ := at_T52 HR0.out x3_1 p401 q401; have hw401_3 := hx401_3; have hw401_2 := hx401_2; have hw401_1 := hx401_1; have hw401_0 := hx401_0; obtain rfl : ad398 = ad401 := (by injection e401); replace hx401_0 := S.hb HB hx401_0; replace hx401_1 := S.hb HB hx401_1; replace hx401_2 := S.hb HB hx401_2; replace hx401_3 := S.hb HB hx401_3; replace p401 := eq_true p401; replace q401 := eq_true q401; refine S.st (n := 24) (ds := []) #[false, false, false, false, false, false, false, false, false, false, false, false, false, false, false, false, false, false, false, false, false, false, false, false] (fun w_ h_ => have x_ := And.intro (S.q h_ (S.hb HB hw398_0)) (And.intro (S.q h_ (S.hb HB hw398_1)) (And.intro (S.q h_ (S.hb HB hw398_2)) (And.intro (S.q h_ (S.hb HB hw398_3)) (And.intro (S.q h_ (S.hb HB hw400_0)) (And.intro (S.q h_ (S.hb HB hw400_1)) (And.intro (S.q h_ (S.hb HB hw400_2)) (And.intro (S.q h_ (S.hb HB hw400_3)) (And.intro (S.q h_ (S.hb HB hw401_0)) (And.intro (S.q h_ (S.hb HB hw401_1)) (And.intro (S.q h_ (S.hb HB hw401_2)) (S.q h_ (S.hb HB hw401_3)))))))))))); x_) (fun hHeld => ?_); refine with_tabW spec_ArePaths.tab4 spec_ArePaths.bits4 (fun HT_ HW_ => ?_); generalize wr.drew = w13 at HB hx398_0 hx398_1 hx398_2 hx398_3 hx400_0 hx400_1 hx400_2 hx400_3 hx401_0 hx401_1 hx401_2 hx401_3 hHeld ⊢; refine S.pS 0 10 ?_; refine S.pS 1 11 ?_; refine S.pS 2 12 ?_; refine S.tK 3 13 #[true, true, true, true, false, false, false, false, false, false, false, false, false, false, false, false, false, false, false, false, false, false, false, false] ?_; refine S.oN 4 14 #[true, true, true, true, true, false, false, false, false, false, false, false, false, false, false, false, false, false, false, false, false, false, false, false] (fun K hK => ?_); refine S.go Try.func129 #[.agg #[.int .i64 ((rd_T52 l0 x3_1).f0), .int .i64 ((rd_T52 l0 x3_1).f1), .int .i64 ((rd_T52 l0 x3_1).f2), .int .i64 ((rd_T52 l0 x3_1).f3)]] ?_
          with_reducible refine (spec_IsPath.calls ((rd_T52 l0 x3_1).f0) ((rd_T52 l0 x3_1).f1) ((rd_T52 l0 x3_1).f2) ((rd_T52 l0 x3_1).f3) true _ A4.out).mono ?_
          rintro e w14 ⟨rfl, hb⟩; refine ⟨_, rfl, ?_⟩; replace HB := S.sA hb; (try clear hb); (try clear hb2); (try clear hk); (try clear hi); refine hK.out _ _ ⟨(S.hb HB hw398_0 :), (S.hb HB hw398_1 :), (S.hb HB hw398_2 :), (S.hb HB hw398_3 :), (S.hb HB hw400_0 :), (S.hb HB hw400_1 :), (S.hb HB hw400_2 :), (S.hb HB hw400_3 :), (S.hb HB hw401_0 :), (S.hb HB hw401_1 :), (S.hb HB hw401_2 :), (S.hb HB hw401_3 :)⟩ (fun hHeld => ?_); clear hK K; refine S.nm 14 ?_; refine S.pS 5 15 ?_; refine S.pS 6 16 ?_; refine S.pS 7 17 ?_; refine S.pS 8 18 ?_; refine S.pS 9 19 ?_; refine S.pS 10 20 ?_; refine S.pS 11 21 ?_; refine S.pS 12 22 ?_; refine S.pS 13 23 ?_; refine S.pS 14 24 ?_; refine S.pS 16 26 ?_; refine S.pS 17 27 ?_; refine S.pS 18 28 ?_; refine S.pS 19 29 ?_; refine S.tK 15 25 #[true, true, true, true, true, true, true, true, true, true, true, true, true, true, true, true, true, true, true, true, false, false, false, false] ?_; refine S.tK 20 30 #[true, true, true, true, true, true, true, true, true, true, true, true, true, true, true, true, true, true, true, true, true, false, false, false] ?_; refine S.pS 21 31 ?_; refine S.pS 22 32 ?_; refine S.pS 23 33 ?_; refine done_ (done_of HT_.out (by kernel_rfl)) ?_; try go_wp2
          go_roundg k1
          case measure => have := HK1.out; omega
          case rel => exact ⟨(wrap64 (x3_1 + 1)), S.eA, H', ⟨by have := HK1.out; omega⟩, ⟨S.bA⟩⟩
        ·rw [if_neg c9] at H; exact absurd H (by simp)
       ·rw [if_neg c8] at H; exact absurd H (by simp)
      ·rw [if_neg c6] at H; have c6b0 : decide (0 < x3_1) = false := decide_eq_false c6; clear c6; have H' := Aside0.mk H; clear H; try go_wp2
       replace HB := Aside0.mk (below_drew1 HB.out); have p398 : 0 ≤ (x3_1 : Int) := S.oD; have q398 : x3_1 < (l0.length : Int) := S.oD; obtain ⟨ad398, e398, hx398_0, hx398_1, hx398_2, hx398_3⟩ := at_T52 HR0.out x3_1 p398 q398; have hw398_3 := hx398_3; have hw398_2 := hx398_2; have hw398_1 := hx398_1; have hw398_0 := hx398_0; cases e398; replace hx398_0 := S.hb HB hx398_0; replace hx398_1 := S.hb HB hx398_1; replace hx398_2 := S.hb HB hx398_2; replace hx398_3 := S.hb HB hx398_3; replace p398 := eq_true p398; replace q398 := eq_true q398; refine S.st (n := 24) (ds := []) #[false, false, false, false, false, false, false, false, false, false, false, false, false, false, false, false, false, false, false, false, false, false, false, false] (fun w_ h_ => have x_ := And.intro (S.q h_ (S.hb HB hw398_0)) (And.intro (S.q h_ (S.hb HB hw398_1)) (And.intro (S.q h_ (S.hb HB hw398_2)) (S.q h_ (S.hb HB hw398_3)))); x_) (fun hHeld => ?_); refine with_tabW spec_ArePaths.tab4 spec_ArePaths.bits4 (fun HT_ HW_ => ?_); generalize wr.drew = w15 at HB hx398_0 hx398_1 hx398_2 hx398_3 hHeld ⊢; refine S.pS 0 10 ?_; refine S.pS 1 11 ?_; refine S.pS 2 12 ?_; refine S.tK 3 13 #[true, true, true, true, false, false, false, false, false, false, false, false, false, false, false, false, false, false, false, false, false, false, false, false] ?_; refine S.oN 4 14 #[true, true, true, true, true, false, false, false, false, false, false, false, false, false, false, false, false, false, false, false, false, false, false, false] (fun K hK => ?_); refine S.go Try.func129 #[.agg #[.int .i64 ((rd_T52 l0 x3_1).f0), .int .i64 ((rd_T52 l0 x3_1).f1), .int .i64 ((rd_T52 l0 x3_1).f2), .int .i64 ((rd_T52 l0 x3_1).f3)]] ?_
       with_reducible refine (spec_IsPath.calls ((rd_T52 l0 x3_1).f0) ((rd_T52 l0 x3_1).f1) ((rd_T52 l0 x3_1).f2) ((rd_T52 l0 x3_1).f3) true _ A4.out).mono ?_
       rintro e w16 ⟨rfl, hb⟩; refine ⟨_, rfl, ?_⟩; replace HB := S.sA hb; (try clear hb); (try clear hb2); (try clear hk); (try clear hi); refine hK.out _ _ ⟨(S.hb HB hw398_0 :), (S.hb HB hw398_1 :), (S.hb HB hw398_2 :), (S.hb HB hw398_3 :)⟩ (fun hHeld => ?_); clear hK K; refine S.nm 14 ?_; refine S.pS 5 15 ?_; refine S.pS 6 16 ?_; refine S.pS 7 17 ?_; refine S.pS 8 18 ?_; refine S.pS 9 19 ?_; refine S.pU 10 20 ?_; refine S.pU 11 21 ?_; refine S.pU 12 22 ?_; refine S.pU 13 23 ?_; refine S.pU 14 24 ?_; refine S.pU 15 25 ?_; refine S.pU 16 26 ?_; refine S.pU 17 27 ?_; refine S.pU 18 28 ?_; refine S.pU 19 29 ?_; refine S.pU 20 30 ?_; refine S.pU 21 31 ?_; refine S.pS 22 32 ?_; refine S.pS 23 33 ?_; refine done_ (done_of HT_.out (by kernel_rfl)) ?_; try go_wp2
       go_roundg k1
       case measure => have := HK1.out; omega
       case rel => exact ⟨(wrap64 (x3_1 + 1)), S.eA, H', ⟨by have := HK1.out; omega⟩, ⟨S.bA⟩⟩
     ·obtain rfl := Option.some.inj H; try go_wp2
      replace HB := Aside0.mk (below_drew1 HB.out); have p398 : 0 ≤ (x3_1 : Int) := S.oD; have q398 : x3_1 < (l0.length : Int) := S.oD; obtain ⟨ad398, e398, hx398_0, hx398_1, hx398_2, hx398_3⟩ := at_T52 HR0.out x3_1 p398 q398; have hw398_3 := hx398_3; have hw398_2 := hx398_2; have hw398_1 := hx398_1; have hw398_0 := hx398_0; cases e398; replace hx398_0 := S.hb HB hx398_0; replace hx398_1 := S.hb HB hx398_1; replace hx398_2 := S.hb HB hx398_2; replace hx398_3 := S.hb HB hx398_3; replace p398 := eq_true p398; replace q398 := eq_true q398; refine S.st (n := 24) (ds := []) #[false, false, false, false, false, false, false, false, false, false, false, false, false, false, false, false, false, false, false, false, false, false, false, false] (fun w_ h_ => have x_ := And.intro (S.q h_ (S.hb HB hw398_0)) (And.intro (S.q h_ (S.hb HB hw398_1)) (And.intro (S.q h_ (S.hb HB hw398_2)) (S.q h_ (S.hb HB hw398_3)))); x_) (fun hHeld => ?_); refine with_tabW spec_ArePaths.tab4 spec_ArePaths.bits4 (fun HT_ HW_ => ?_); generalize wr.drew = w17 at HB hx398_0 hx398_1 hx398_2 hx398_3 hHeld ⊢; refine S.pS 0 10 ?_; refine S.pS 1 11 ?_; refine S.pS 2 12 ?_; refine S.tK 3 13 #[true, true, true, true, false, false, false, false, false, false, false, false, false, false, false, false, false, false, false, false, false, false, false, false] ?_; refine S.oN 4 14 #[true, true, true, true, true, false, false, false, false, false, false, false, false, false, false, false, false, false, false, false, false, false, false, false] (fun K hK => ?_); refine S.go Try.func129 #[.agg #[.int .i64 ((rd_T52 l0 x3_1).f0), .int .i64 ((rd_T52 l0 x3_1).f1), .int .i64 ((rd_T52 l0 x3_1).f2), .int .i64 ((rd_T52 l0 x3_1).f3)]] ?_
      with_reducible refine (spec_IsPath.calls ((rd_T52 l0 x3_1).f0) ((rd_T52 l0 x3_1).f1) ((rd_T52 l0 x3_1).f2) ((rd_T52 l0 x3_1).f3) false _ A4.out).mono ?_
      rintro e w18 ⟨rfl, hb⟩; refine ⟨_, rfl, ?_⟩; replace HB := S.sA hb; (try clear hb); (try clear hb2); (try clear hk); (try clear hi); refine hK.out _ _ ⟨(S.hb HB hw398_0 :), (S.hb HB hw398_1 :), (S.hb HB hw398_2 :), (S.hb HB hw398_3 :)⟩ (fun hHeld => ?_); clear hK K; refine S.nm 14 ?_; refine S.pS 5 15 ?_; refine S.pS 6 16 ?_; refine S.pU 7 17 ?_; refine S.pU 8 18 ?_; refine S.pU 9 19 ?_; refine S.pU 10 20 ?_; refine S.pU 11 21 ?_; refine S.pU 12 22 ?_; refine S.pU 13 23 ?_; refine S.pU 14 24 ?_; refine S.pU 15 25 ?_; refine S.pU 16 26 ?_; refine S.pU 17 27 ?_; refine S.pU 18 28 ?_; refine S.pU 19 29 ?_; refine S.pU 20 30 ?_; refine S.pU 21 31 ?_; refine S.pU 22 32 ?_; refine S.pS 23 33 ?_; refine done_ (done_of HT_.out (by kernel_rfl)) ?_; try go_wp2
      go_ret; exact ⟨S.eW, S.bA⟩
    ·rw [if_neg c3] at H; exact absurd H (by simp)
   ·obtain rfl := Option.some.inj H; go_wp2; go_ret; exact ⟨S.eW, S.bA⟩
/-! ### spec_Interleave: function 130 -/
mutual
def spec_Interleave.l0 : Nat → Int → Int → Int → Int → List Int → Int → Option (Bool)
 | 0, _, _, _, _, _, _ => none
 | k + 1, x0, x1, x2, x3, x9, x10 => if x10 < 4 then (spec_Interleave.l1 k x0 x1 x2 x3 x9 x10 0) else (spec_Interleave.l2 k x1 x2 x3 0 (Int.tmod (wrap64 (x0 + 1)) 8))
def spec_Interleave.l1 : Nat → Int → Int → Int → Int → List Int → Int → Int → Option (Bool)
 | 0, _, _, _, _, _, _, _ => none
 | k + 1, x0, x1, x2, x3, x9, x10, x11 => if x11 < x10 then (if 0 ≤ x10 then (if x10 < (x9.length : Int) then (if 0 ≤ x11 then (if x11 < (x9.length : Int) then (if (rd x9 x10) = (rd x9 x11) then (some false) else (spec_Interleave.l1 k x0 x1 x2 x3 x9 x10 (wrap64 (x11 + 1)))) else (none)) else (none)) else (none)) else (none)) else (if 0 ≤ x10 then (if x10 < (x9.length : Int) then ((spec_l1In.f (rd x9 x10) 0 7).bind fun t408 => (if t408 = true then (spec_Interleave.l0 k x0 x1 x2 x3 x9 (wrap64 (x10 + 1))) else (some false))) else (none)) else (none))
def spec_Interleave.l2 : Nat → Int → Int → Int → Int → Int → Option (Bool)
 | 0, _, _, _, _, _ => none
 | k + 1, x1, x2, x3, x12, x13 => if x13 = x1 then (some (x12 == 1)) else (if x13 = x2 then (spec_Interleave.l2 k x1 x2 x3 (wrap64 (x12 + 1)) (Int.tmod (wrap64 (x13 + 1)) 8)) else (if x13 = x3 then (spec_Interleave.l2 k x1 x2 x3 (wrap64 (x12 + 1)) (Int.tmod (wrap64 (x13 + 1)) 8)) else (spec_Interleave.l2 k x1 x2 x3 x12 (Int.tmod (wrap64 (x13 + 1)) 8))))
end
def spec_Interleave.f (k : Nat) (a0 : Int) (a1 : Int) (a2 : Int) (a3 : Int) : Option (Bool) := spec_Interleave.l0 k a0 a1 a2 a3 (([a0, a1, a2, a3] : List Int)) 0
theorem spec_Interleave.mono_l : ∀ k, (∀ y0 y1 y2 y3 y4 y5, LeO (spec_Interleave.l0 k y0 y1 y2 y3 y4 y5) (spec_Interleave.l0 (k + 1) y0 y1 y2 y3 y4 y5)) ∧ (∀ y0 y1 y2 y3 y4 y5 y6, LeO (spec_Interleave.l1 k y0 y1 y2 y3 y4 y5 y6) (spec_Interleave.l1 (k + 1) y0 y1 y2 y3 y4 y5 y6)) ∧ (∀ y0 y1 y2 y3 y4, LeO (spec_Interleave.l2 k y0 y1 y2 y3 y4) (spec_Interleave.l2 (k + 1) y0 y1 y2 y3 y4))
 | 0 => ⟨fun _ _ _ _ _ _ r h => by simp [spec_Interleave.l0] at h, fun _ _ _ _ _ _ _ r h => by simp [spec_Interleave.l1] at h, fun _ _ _ _ _ r h => by simp [spec_Interleave.l2] at h⟩
 | k + 1 => by
  obtain ⟨ih0, ih1, ih2⟩ := spec_Interleave.mono_l k; refine ⟨?_, ?_, ?_⟩
  ·intro y0 y1 y2 y3 y4 y5
   unfold spec_Interleave.l0
   repeat' first
   | (with_reducible exact ih0 _ _ _ _ _ _)
   | (with_reducible exact ih1 _ _ _ _ _ _ _)
   | (with_reducible exact ih2 _ _ _ _ _)
   | (with_reducible exact LeO.refl _)
   | (with_reducible exact LeO.none _)
   | (with_reducible refine LeO.ite ?_ ?_)
   | (with_reducible refine LeO.bind ?_ (fun _ => ?_))
   | exact ih0 _ _ _ _ _ _
   | exact ih1 _ _ _ _ _ _ _
   | exact ih2 _ _ _ _ _
   | exact LeO.none _
   | refine LeO.ite ?_ ?_
   | refine LeO.bind ?_ (fun _ => ?_)
  ·intro y0 y1 y2 y3 y4 y5 y6
   unfold spec_Interleave.l1
   repeat' first
   | (with_reducible exact ih0 _ _ _ _ _ _)
   | (with_reducible exact ih1 _ _ _ _ _ _ _)
   | (with_reducible exact ih2 _ _ _ _ _)
   | (with_reducible exact LeO.refl _)
   | (with_reducible exact LeO.none _)
   | (with_reducible refine LeO.ite ?_ ?_)
   | (with_reducible refine LeO.bind ?_ (fun _ => ?_))
   | exact ih0 _ _ _ _ _ _
   | exact ih1 _ _ _ _ _ _ _
   | exact ih2 _ _ _ _ _
   | exact LeO.none _
   | refine LeO.ite ?_ ?_
   | refine LeO.bind ?_ (fun _ => ?_)
  ·intro y0 y1 y2 y3 y4
   unfold spec_Interleave.l2
   repeat' first
   | (with_reducible exact ih0 _ _ _ _ _ _)
   | (with_reducible exact ih1 _ _ _ _ _ _ _)
   | (with_reducible exact ih2 _ _ _ _ _)
   | (with_reducible exact LeO.refl _)
   | (with_reducible exact LeO.none _)
   | (with_reducible refine LeO.ite ?_ ?_)
   | (with_reducible refine LeO.bind ?_ (fun _ => ?_))
   | exact ih0 _ _ _ _ _ _
   | exact ih1 _ _ _ _ _ _ _
   | exact ih2 _ _ _ _ _
   | exact LeO.none _
   | refine LeO.ite ?_ ?_
   | refine LeO.bind ?_ (fun _ => ?_)
theorem spec_Interleave.mono : ∀ a0 a1 a2 a3 k, LeO (spec_Interleave.f k a0 a1 a2 a3) (spec_Interleave.f (k + 1) a0 a1 a2 a3) := by
 intro a0 a1 a2 a3 k; obtain ⟨ih0, ih1, ih2⟩ := spec_Interleave.mono_l k
 unfold spec_Interleave.f
 repeat' first
   | (with_reducible exact ih0 _ _ _ _ _ _)
   | (with_reducible exact ih1 _ _ _ _ _ _ _)
   | (with_reducible exact ih2 _ _ _ _ _)
   | (with_reducible exact LeO.refl _)
   | (with_reducible exact LeO.none _)
   | (with_reducible refine LeO.ite ?_ ?_)
   | (with_reducible refine LeO.bind ?_ (fun _ => ?_))
   | exact ih0 _ _ _ _ _ _
   | exact ih1 _ _ _ _ _ _ _
   | exact ih2 _ _ _ _ _
   | exact LeO.none _
   | refine LeO.ite ?_ ?_
   | refine LeO.bind ?_ (fun _ => ?_)
theorem spec_Interleave.calls (k : Nat) (a0 : Int) (a1 : Int) (a2 : Int) (a3 : Int) (r : Bool) (w : World) (h : spec_Interleave.f k a0 a1 a2 a3 = some r) :
  Calls Try.prog 130 #[.int .i64 a0, .int .i64 a1, .int .i64 a2, .int .i64 a3] w fun e w' => e = .returned (.bool r) ∧ Below w.heap.size w w' := by
 have HB := Aside0.mk (Below.refl w.heap.size w); have H : (spec_Interleave.l0 k a0 a1 a2 a3 (([a0, a1, a2, a3] : List Int)) 0) = some r := h; clear h; obtain ⟨y402, hy402⟩ : ∃ y_ : List Int, y_ = (([a0, a1, a2, a3] : List Int)) := ⟨_, rfl⟩; have hY_ := hy402; replace H : (spec_Interleave.l0 k a0 a1 a2 a3 y402 0) = some r := S.rh; clear hY_; have Ny402 := Aside0.mk hy402; clear hy402; have H' := Aside0.mk H; clear H; go_enter Try.func130, Try.ntmps130; go_wp2_with (first | ((with_reducible refine gate_dst (N := 18) rfl ?_); refine Kd.R_lit (Kd.int .i64) _ 3 ?hg (N := 18) ?hd (xs := ([a0, a1, a2, a3] : List Int)) (inner := [.int .i64 a0, .int .i64 a1, .int .i64 a2, .int .i64 a3]) (ok := fun _ => True) (okp := fun _ => True) ?hr ?hp (fun _ hk => hk) trivial (Below.refl _ _) (Nat.le_refl _) (by simp) ?_; (case hd => rfl); (case hg => rfl); (case hr => first | (go_simp; done) | (go_simp; rfl)); (case hp => exact (Reps.one (show Kd.M (Kd.int .i64) _ _ _ a0 [.int .i64 a0] from rfl) (Reps.one (show Kd.M (Kd.int .i64) _ _ _ a1 [.int .i64 a1] from rfl) (Reps.one (show Kd.M (Kd.int .i64) _ _ _ a2 [.int .i64 a2] from rfl) (Reps.one (show Kd.M (Kd.int .i64) _ _ _ a3 [.int .i64 a3] from rfl) (Reps.none _ _)))))); intro v403 w5 ho6 hb hg_ hnew_; clear hg_ hnew_; (first | rw [← Ny402.out] at ho6 | (simp only [Int.reduceToNat] at ho6; rw [← Ny402.out] at ho6)); have HO404 := S.lwA ho6; replace HB := S.sA hb; clear hb ho6))
 repeat (go_quiet (first | ((with_reducible refine gate_dst (N := 18) rfl ?_); refine Kd.R_lit (Kd.int .i64) _ 3 ?hg (N := 18) ?hd (xs := ([a0, a1, a2, a3] : List Int)) (inner := [.int .i64 a0, .int .i64 a1, .int .i64 a2, .int .i64 a3]) (ok := fun _ => True) (okp := fun _ => True) ?hr ?hp (fun _ hk => hk) trivial (Below.refl _ _) (Nat.le_refl _) (by simp) ?_; (case hd => rfl); (case hg => rfl); (case hr => first | (go_simp; done) | (go_simp; rfl)); (case hp => exact (Reps.one (show Kd.M (Kd.int .i64) _ _ _ a0 [.int .i64 a0] from rfl) (Reps.one (show Kd.M (Kd.int .i64) _ _ _ a1 [.int .i64 a1] from rfl) (Reps.one (show Kd.M (Kd.int .i64) _ _ _ a2 [.int .i64 a2] from rfl) (Reps.one (show Kd.M (Kd.int .i64) _ _ _ a3 [.int .i64 a3] from rfl) (Reps.none _ _)))))); intro v403 w5 ho6 hb hg_ hnew_; clear hg_ hnew_; (first | rw [← Ny402.out] at ho6 | (simp only [Int.reduceToNat] at ho6; rw [← Ny402.out] at ho6)); have HO404 := S.lwA ho6; replace HB := S.sA hb; clear hb ho6)); try go_wp2_with (first | ((with_reducible refine gate_dst (N := 18) rfl ?_); refine Kd.R_lit (Kd.int .i64) _ 3 ?hg (N := 18) ?hd (xs := ([a0, a1, a2, a3] : List Int)) (inner := [.int .i64 a0, .int .i64 a1, .int .i64 a2, .int .i64 a3]) (ok := fun _ => True) (okp := fun _ => True) ?hr ?hp (fun _ hk => hk) trivial (Below.refl _ _) (Nat.le_refl _) (by simp) ?_; (case hd => rfl); (case hg => rfl); (case hr => first | (go_simp; done) | (go_simp; rfl)); (case hp => exact (Reps.one (show Kd.M (Kd.int .i64) _ _ _ a0 [.int .i64 a0] from rfl) (Reps.one (show Kd.M (Kd.int .i64) _ _ _ a1 [.int .i64 a1] from rfl) (Reps.one (show Kd.M (Kd.int .i64) _ _ _ a2 [.int .i64 a2] from rfl) (Reps.one (show Kd.M (Kd.int .i64) _ _ _ a3 [.int .i64 a3] from rfl) (Reps.none _ _)))))); intro v403 w5 ho6 hb hg_ hnew_; clear hg_ hnew_; (first | rw [← Ny402.out] at ho6 | (simp only [Int.reduceToNat] at ho6; rw [← Ny402.out] at ho6)); have n0_ := S.lwA ho6; have n1_ := S.sA hb; clear HB; have HO404 := n0_; have HB := n1_; clear n0_ n1_; clear hb ho6)))
 go_loopg [10] k (fun kq v10 w' => ∃ (x10_1 : Int), v10 = .int .i64 x10_1 ∧ Aside0 (spec_Interleave.l0 kq a0 a1 a2 a3 y402 x10_1 = some r) ∧ Aside0 (kq ≤ k) ∧ Aside0 (Kd.R (Kd.int .i64) 3 w' w.heap.size (fun _ => True) v403 y402) ∧ Aside0 (Below w.heap.size w w'))
 case atStart => exact ⟨(0), S.eA, H', ⟨Nat.le_refl _⟩, ⟨S.uR HO404.out⟩, ⟨S.bA⟩⟩
 case round =>
  clear H'; obtain ⟨x10_1, rfl, HA, HK1, HO_9, HB⟩ := hrel
  cases gk with
  | zero => exact absurd HA.out (by simp [spec_Interleave.l0])
  | succ k1 =>
   have H := HA.out; clear HA; simp only [spec_Interleave.l0] at H; replace H := S.dc H; rcases H with ⟨H, c7b0⟩ | ⟨H, c7b0⟩
   ·have H' := Aside0.mk H; clear H; go_wp2
    repeat (go_quiet (fail); try go_wp2)
    go_loopg [11] k1 (fun kq v11 w' => ∃ (x11_2 : Int), v11 = .int .i64 x11_2 ∧ Aside0 (spec_Interleave.l1 kq a0 a1 a2 a3 y402 x10_1 x11_2 = some r) ∧ Aside0 (kq ≤ k1) ∧ Aside0 (Kd.R (Kd.int .i64) 3 w' w.heap.size (fun _ => True) v403 y402) ∧ Aside0 (Below w.heap.size w w'))
    case atStart => exact ⟨(0), S.eA, H', ⟨Nat.le_refl _⟩, ⟨S.uR HO_9.out⟩, ⟨S.bA⟩⟩
    case round =>
     clear H'; try clear c7
     try clear c7b0
     obtain ⟨x11_2, rfl, HA, HK2, HO_9, HB⟩ := hrel
     cases gk with
     | zero => exact absurd HA.out (by simp [spec_Interleave.l1])
     | succ k2 =>
      have H := HA.out; clear HA; simp only [spec_Interleave.l1] at H; replace H := S.dc H; rcases H with ⟨H, c8b0⟩ | ⟨H, c8b0⟩
      ·by_cases c9 : 0 ≤ x10_1
       ·rw [if_pos c9] at H; have c9b0 : decide (0 ≤ x10_1) = true := decide_eq_true c9; clear c9
        by_cases c10 : x10_1 < (y402.length : Int)
        ·rw [if_pos c10] at H; have c10b0 : decide (x10_1 < (y402.length : Int)) = true := decide_eq_true c10; clear c10
         by_cases c11 : 0 ≤ x11_2
         ·rw [if_pos c11] at H; have c11b0 : decide (0 ≤ x11_2) = true := decide_eq_true c11; clear c11
          by_cases c12 : x11_2 < (y402.length : Int)
          ·rw [if_pos c12] at H; have c12b0 : decide (x11_2 < (y402.length : Int)) = true := decide_eq_true c12; clear c12
           by_cases c13 : (rd y402 x10_1) = (rd y402 x11_2)
           ·rw [if_pos c13] at H; have c13b0 : ((rd y402 x10_1) == (rd y402 x11_2)) = true := beq_iff_eq.mpr c13; have c13b1 : ((rd y402 x10_1) != (rd y402 x11_2)) = false := bne_eq_false_iff_eq.mpr c13; clear c13; obtain rfl := Option.some.inj H; obtain ⟨Ao14, co14, eo14⟩ := Kd.R_slice HO_9.out; subst eo14; have p405 : 0 ≤ (x10_1 : Int) := S.oD; have q405 : x10_1 < (y402.length : Int) := S.oD; obtain ⟨ad405, e405, hx405_0⟩ := Kd.at_int (Kd.R_reads' HO_9.out).2.2 x10_1 p405 q405; cases e405; replace p405 := eq_true p405; replace q405 := eq_true q405; have p406 : 0 ≤ (x11_2 : Int) := S.oD; have q406 : x11_2 < (y402.length : Int) := S.oD; obtain ⟨ad406, e406, hx406_0⟩ := Kd.at_int (Kd.R_reads' HO_9.out).2.2 x11_2 p406 q406; obtain rfl : ad405 = ad406 := (by injection e406); replace p406 := eq_true p406; replace q406 := eq_true q406; go_wp2
            repeat (go_quiet (fail); try go_wp2)
            go_ret; exact ⟨S.eW, S.bA⟩
           ·rw [if_neg c13] at H; have c13b0 : ((rd y402 x10_1) == (rd y402 x11_2)) = false := beq_eq_false_iff_ne.mpr c13; have c13b1 : ((rd y402 x10_1) != (rd y402 x11_2)) = true := bne_iff_ne.mpr c13; have H' := Aside0.mk H; clear H; obtain ⟨Ao15, co15, eo15⟩ := Kd.R_slice HO_9.out; subst eo15; have p405 : 0 ≤ (x10_1 : Int) := S.oD; have q405 : x10_1 < (y402.length : Int) := S.oD; obtain ⟨ad405, e405, hx405_0⟩ := Kd.at_int (Kd.R_reads' HO_9.out).2.2 x10_1 p405 q405; cases e405; replace p405 := eq_true p405; replace q405 := eq_true q405; have p406 : 0 ≤ (x11_2 : Int) := S.oD; have q406 : x11_2 < (y402.length : Int) := S.oD; obtain ⟨ad406, e406, hx406_0⟩ := Kd.at_int (Kd.R_reads' HO_9.out).2.2 x11_2 p406 q406; obtain rfl : ad405 = ad406 := (by injection e406); replace p406 := eq_true p406; replace q406 := eq_true q406; go_wp2
            repeat (go_quiet (fail); try go_wp2)
            go_roundg k2
            case measure => have := HK1.out; have := HK2.out; omega
            case rel => exact ⟨(wrap64 (x11_2 + 1)), S.eA, H', ⟨by have := HK1.out; have := HK2.out; omega⟩, ⟨S.uR HO_9.out⟩, ⟨S.bA⟩⟩
          ·rw [if_neg c12] at H; exact absurd H (by simp)
         ·rw [if_neg c11] at H; exact absurd H (by simp)
        ·rw [if_neg c10] at H; exact absurd H (by simp)
       ·rw [if_neg c9] at H; exact absurd H (by simp)
      ·by_cases c16 : 0 ≤ x10_1
       ·rw [if_pos c16] at H; have c16b0 : decide (0 ≤ x10_1) = true := decide_eq_true c16; clear c16
        by_cases c17 : x10_1 < (y402.length : Int)
        ·rw [if_pos c17] at H; have c17b0 : decide (x10_1 < (y402.length : Int)) = true := decide_eq_true c17; clear c17; replace H := S.bd H; obtain ⟨t408, A18, H⟩ := H; (try dsimp only at H); replace H := S.db H; rcases H with ⟨rfl, H⟩ | ⟨rfl, H⟩
         ·have H' := Aside0.mk H; clear H; obtain ⟨Ao20, co20, eo20⟩ := Kd.R_slice HO_9.out; subst eo20; have p407 : 0 ≤ (x10_1 : Int) := S.oD; have q407 : x10_1 < (y402.length : Int) := S.oD; obtain ⟨ad407, e407, hx407_0⟩ := Kd.at_int (Kd.R_reads' HO_9.out).2.2 x10_1 p407 q407; cases e407; replace p407 := eq_true p407; replace q407 := eq_true q407; go_wp2_with (first | (go_at_call 108; (with_reducible refine (spec_l1In.calls (rd y402 x10_1) 0 7 true _ A18.out).mono ?_); rintro e w' ⟨rfl, ⟨nd, rfl⟩⟩; (try first | exact ⟨rfl, _, World.drewN_drewN _ _ _⟩ | exact ⟨rfl, _, Eq.trans (World.drewN_drewN _ _ _) (congrArg (World.drewN _) (Nat.add_assoc _ _ _))⟩)))
          repeat (go_quiet (first | (go_at_call 108; (with_reducible refine (spec_l1In.calls (rd y402 x10_1) 0 7 true _ A18.out).mono ?_); rintro e w' ⟨rfl, ⟨nd, rfl⟩⟩; (try first | exact ⟨rfl, _, World.drewN_drewN _ _ _⟩ | exact ⟨rfl, _, Eq.trans (World.drewN_drewN _ _ _) (congrArg (World.drewN _) (Nat.add_assoc _ _ _))⟩))); try go_wp2_with (first | (go_at_call 108; (with_reducible refine (spec_l1In.calls (rd y402 x10_1) 0 7 true _ A18.out).mono ?_); rintro e w' ⟨rfl, ⟨nd, rfl⟩⟩; (try first | exact ⟨rfl, _, World.drewN_drewN _ _ _⟩ | exact ⟨rfl, _, Eq.trans (World.drewN_drewN _ _ _) (congrArg (World.drewN _) (Nat.add_assoc _ _ _))⟩))))
          go_roundg k2
          case measure => have := HK1.out; have := HK2.out; omega
          case rel => exact ⟨(wrap64 (x10_1 + 1)), S.eA, H', ⟨by have := HK1.out; have := HK2.out; omega⟩, ⟨S.uR HO_9.out⟩, ⟨S.bA⟩⟩
         ·obtain rfl := Option.some.inj H; obtain ⟨Ao21, co21, eo21⟩ := Kd.R_slice HO_9.out; subst eo21; have p407 : 0 ≤ (x10_1 : Int) := S.oD; have q407 : x10_1 < (y402.length : Int) := S.oD; obtain ⟨ad407, e407, hx407_0⟩ := Kd.at_int (Kd.R_reads' HO_9.out).2.2 x10_1 p407 q407; cases e407; replace p407 := eq_true p407; replace q407 := eq_true q407; go_wp2_with (first | (go_at_call 108; (with_reducible refine (spec_l1In.calls (rd y402 x10_1) 0 7 false _ A18.out).mono ?_); rintro e w' ⟨rfl, ⟨nd, rfl⟩⟩; (try first | exact ⟨rfl, _, World.drewN_drewN _ _ _⟩ | exact ⟨rfl, _, Eq.trans (World.drewN_drewN _ _ _) (congrArg (World.drewN _) (Nat.add_assoc _ _ _))⟩)))
          repeat (go_quiet (first | (go_at_call 108; (with_reducible refine (spec_l1In.calls (rd y402 x10_1) 0 7 false _ A18.out).mono ?_); rintro e w' ⟨rfl, ⟨nd, rfl⟩⟩; (try first | exact ⟨rfl, _, World.drewN_drewN _ _ _⟩ | exact ⟨rfl, _, Eq.trans (World.drewN_drewN _ _ _) (congrArg (World.drewN _) (Nat.add_assoc _ _ _))⟩))); try go_wp2_with (first | (go_at_call 108; (with_reducible refine (spec_l1In.calls (rd y402 x10_1) 0 7 false _ A18.out).mono ?_); rintro e w' ⟨rfl, ⟨nd, rfl⟩⟩; (try first | exact ⟨rfl, _, World.drewN_drewN _ _ _⟩ | exact ⟨rfl, _, Eq.trans (World.drewN_drewN _ _ _) (congrArg (World.drewN _) (Nat.add_assoc _ _ _))⟩))))
          go_ret; exact ⟨S.eW, S.bA⟩
        ·rw [if_neg c17] at H; exact absurd H (by simp)
       ·rw [if_neg c16] at H; exact absurd H (by simp)
   ·have H' := Aside0.mk H; clear H; go_wp2
    repeat (go_quiet (fail); try go_wp2)
    go_loopg [12, 13] k1 (fun kq v12 v13 w' => ∃ (x12_2 : Int) (x13_2 : Int), v12 = .int .i64 x12_2 ∧ v13 = .int .i64 x13_2 ∧ Aside0 (spec_Interleave.l2 kq a1 a2 a3 x12_2 x13_2 = some r) ∧ Aside0 (kq ≤ k1) ∧ Aside0 (Below w.heap.size w w'))
    case atStart => exact ⟨(0), (Int.tmod (wrap64 (a0 + 1)) 8), S.eA, S.eA, H', ⟨Nat.le_refl _⟩, ⟨S.bA⟩⟩
    case round =>
     clear H'; try clear c7
     try clear c7b0
     obtain ⟨x12_2, x13_2, rfl, rfl, HA, HK2, HB⟩ := hrel
     cases gk with
     | zero => exact absurd HA.out (by simp [spec_Interleave.l2])
     | succ k2 =>
      have H := HA.out; clear HA; simp only [spec_Interleave.l2] at H
      by_cases c22 : x13_2 = a1
      ·rw [if_pos c22] at H; have c22b0 : (x13_2 == a1) = true := beq_iff_eq.mpr c22; have c22b1 : (x13_2 != a1) = false := bne_eq_false_iff_eq.mpr c22; clear c22; obtain rfl := Option.some.inj H; go_wp2
       repeat (go_quiet (fail); try go_wp2)
       go_ret; exact ⟨S.eW, S.bA⟩
      ·rw [if_neg c22] at H; have c22b0 : (x13_2 == a1) = false := beq_eq_false_iff_ne.mpr c22; have c22b1 : (x13_2 != a1) = true := bne_iff_ne.mpr c22
       by_cases c23 : x13_2 = a2
       ·rw [if_pos c23] at H; have c23b0 : (x13_2 == a2) = true := beq_iff_eq.mpr c23; have c23b1 : (x13_2 != a2) = false := bne_eq_false_iff_eq.mpr c23; clear c23; have H' := Aside0.mk H; clear H; go_wp2
        repeat (go_quiet (fail); try go_wp2)
        go_roundg k2
        case measure => have := HK1.out; have := HK2.out; omega
        case rel => exact ⟨(wrap64 (x12_2 + 1)), (Int.tmod (wrap64 (x13_2 + 1)) 8), S.eA, S.eA, H', ⟨by have := HK1.out; have := HK2.out; omega⟩, ⟨S.bA⟩⟩
       ·rw [if_neg c23] at H; have c23b0 : (x13_2 == a2) = false := beq_eq_false_iff_ne.mpr c23; have c23b1 : (x13_2 != a2) = true := bne_iff_ne.mpr c23
        by_cases c24 : x13_2 = a3
        ·rw [if_pos c24] at H; have c24b0 : (x13_2 == a3) = true := beq_iff_eq.mpr c24; have c24b1 : (x13_2 != a3) = false := bne_eq_false_iff_eq.mpr c24; clear c24; have H' := Aside0.mk H; clear H; go_wp2
         repeat (go_quiet (fail); try go_wp2)
         go_roundg k2
         case measure => have := HK1.out; have := HK2.out; omega
         case rel => exact ⟨(wrap64 (x12_2 + 1)), (Int.tmod (wrap64 (x13_2 + 1)) 8), S.eA, S.eA, H', ⟨by have := HK1.out; have := HK2.out; omega⟩, ⟨S.bA⟩⟩
        ·rw [if_neg c24] at H; have c24b0 : (x13_2 == a3) = false := beq_eq_false_iff_ne.mpr c24; have c24b1 : (x13_2 != a3) = true := bne_iff_ne.mpr c24; have H' := Aside0.mk H; clear H; go_wp2
         repeat (go_quiet (fail); try go_wp2)
         go_roundg k2
         case measure => have := HK1.out; have := HK2.out; omega
         case rel => exact ⟨(x12_2), (Int.tmod (wrap64 (x13_2 + 1)) 8), S.eA, S.eA, H', ⟨by have := HK1.out; have := HK2.out; omega⟩, ⟨S.bA⟩⟩

/-! ### spec_InPlace: function 131 -/
def spec_InPlace.f (a0 : Int) : Option (Int) := (spec_l1In.f a0 0 3).bind fun t409 => (if t409 = true then (some (wrap64 (2 * a0))) else (some (-1)))
theorem spec_InPlace.calls (a0 : Int) (r : Int) (w : World) (h : spec_InPlace.f a0 = some r) :
  Calls Try.prog 131 #[.int .i64 a0] w fun e w' => e = .returned (.int .i64 r) ∧ Drawn0 w w' := by
 have H : ((spec_l1In.f a0 0 3).bind fun t409 => (if t409 = true then (some (wrap64 (2 * a0))) else (some (-1)))) = some r := h; clear h; replace H := S.bd H; obtain ⟨t409, A2, H⟩ := H; (try dsimp only at H); replace H := S.db H; rcases H with ⟨rfl, H⟩ | ⟨rfl, H⟩
 ·obtain rfl := Option.some.inj H; go_enter Try.func131, Try.ntmps131; go_wp2_with (first | ((with_reducible refine gate_callee (f := 108) rfl ?_); refine S.gL (some 4) Try.func108 #[.int .i64 a0, .int .i64 0, .int .i64 3] ?_; (with_reducible refine (spec_l1In.calls a0 0 3 true _ A2.out).mono ?_); rintro e w' ⟨rfl, ⟨nd, rfl⟩⟩; refine ⟨_, rfl, ?_⟩)); go_ret; exact ⟨S.eA, by repeat (first | exact Drawn0.refl _ | apply Drawn0.step)⟩
 ·obtain rfl := Option.some.inj H; go_enter Try.func131, Try.ntmps131; go_wp2_with (first | ((with_reducible refine gate_callee (f := 108) rfl ?_); refine S.gL (some 4) Try.func108 #[.int .i64 a0, .int .i64 0, .int .i64 3] ?_; (with_reducible refine (spec_l1In.calls a0 0 3 false _ A2.out).mono ?_); rintro e w' ⟨rfl, ⟨nd, rfl⟩⟩; refine ⟨_, rfl, ?_⟩)); go_ret; exact ⟨S.eA, by repeat (first | exact Drawn0.refl _ | apply Drawn0.step)⟩

/-! ### spec_OutPlace: function 132 -/
def spec_OutPlace.f (a0 : Int) : Option (Int) := (spec_l1In.f a0 0 3).bind fun t410 => (if t410 = true then (some (wrap64 ((wrap64 (2 * a0)) + 1))) else (some (-1)))
theorem spec_OutPlace.calls (a0 : Int) (r : Int) (w : World) (h : spec_OutPlace.f a0 = some r) :
  Calls Try.prog 132 #[.int .i64 a0] w fun e w' => e = .returned (.int .i64 r) ∧ Drawn0 w w' := by
 have H : ((spec_l1In.f a0 0 3).bind fun t410 => (if t410 = true then (some (wrap64 ((wrap64 (2 * a0)) + 1))) else (some (-1)))) = some r := h; clear h; replace H := S.bd H; obtain ⟨t410, A2, H⟩ := H; (try dsimp only at H); replace H := S.db H; rcases H with ⟨rfl, H⟩ | ⟨rfl, H⟩
 ·obtain rfl := Option.some.inj H; go_enter Try.func132, Try.ntmps132; go_wp2_with (first | ((with_reducible refine gate_callee (f := 108) rfl ?_); refine S.gL (some 4) Try.func108 #[.int .i64 a0, .int .i64 0, .int .i64 3] ?_; (with_reducible refine (spec_l1In.calls a0 0 3 true _ A2.out).mono ?_); rintro e w' ⟨rfl, ⟨nd, rfl⟩⟩; refine ⟨_, rfl, ?_⟩)); go_ret; exact ⟨S.eA, by repeat (first | exact Drawn0.refl _ | apply Drawn0.step)⟩
 ·obtain rfl := Option.some.inj H; go_enter Try.func132, Try.ntmps132; go_wp2_with (first | ((with_reducible refine gate_callee (f := 108) rfl ?_); refine S.gL (some 4) Try.func108 #[.int .i64 a0, .int .i64 0, .int .i64 3] ?_; (with_reducible refine (spec_l1In.calls a0 0 3 false _ A2.out).mono ?_); rintro e w' ⟨rfl, ⟨nd, rfl⟩⟩; refine ⟨_, rfl, ?_⟩)); go_ret; exact ⟨S.eA, by repeat (first | exact Drawn0.refl _ | apply Drawn0.step)⟩
/-! ### spec_Conflict: function 113 -/
def spec_Conflict.j0 : Nat → Bool → Int → Int → Int → Int → Int → Int → Int → Int → Option (Bool)
 | 0, _, _, _, _, _, _, _, _, _ => none
 | k + 1, x5, x412000, x412001, x412002, x412003, x413000, x413001, x413002, x413003 => if x5 = true then (some false) else (if x412001 = 2 then (if x413002 = x412002 then (some true) else (some (x413003 == x412002))) else (if x413001 = 2 then (if x412002 = x413002 then (some true) else (some (x412003 == x413002))) else (if x412002 = x413002 then (some false) else (if x412003 = x413003 then (some true) else ((spec_InPlace.f x412002).bind fun t415 => ((spec_OutPlace.f x412003).bind fun t416 => ((spec_InPlace.f x413002).bind fun t417 => ((spec_OutPlace.f x413003).bind fun t418 => ((spec_Interleave.f k t415 t416 t417 t418).bind fun t419 => (some t419))))))))))
def spec_Conflict.f (k : Nat) (a0_0 : Int) (a0_1 : Int) (a0_2 : Int) (a0_3 : Int) (a1_0 : Int) (a1_1 : Int) (a1_2 : Int) (a1_3 : Int) : Option (Bool) := (spec_IsPath.f a0_0 a0_1 a0_2 a0_3).bind fun t413 => (if t413 = true then ((spec_IsPath.f a1_0 a1_1 a1_2 a1_3).bind fun t414 => (if t414 = true then (if a0_1 = 2 then (spec_Conflict.j0 k (a1_1 == 2) a0_0 a0_1 a0_2 a0_3 a1_0 a1_1 a1_2 a1_3) else (spec_Conflict.j0 k false a0_0 a0_1 a0_2 a0_3 a1_0 a1_1 a1_2 a1_3)) else (spec_Conflict.j0 k true a0_0 a0_1 a0_2 a0_3 a1_0 a1_1 a1_2 a1_3))) else (spec_Conflict.j0 k true a0_0 a0_1 a0_2 a0_3 a1_0 a1_1 a1_2 a1_3))
def spec_Conflict.T11 : Bool × List (List Nat × List Nat) := (true, [([], []), ([0], [0]), ([1], [1]), ([], []), ([3], [3]), ([4, 2], [4]), ([], []), ([6], [6]), ([7, 5], [7]), ([], []), ([9], [9]), ([10, 8], [10]), ([2, 5, 8, 11, 11], [2, 5, 8, 11]), ([12, 12, 0, 1, 2, 3, 4, 5, 6, 7, 8, 9, 10, 11, 12], [12])])
def spec_Conflict.B11 : List Nat := [0, 1, 3, 0, 8, 31, 0, 64, 255, 0, 512, 2047, 4095, 8191]
theorem spec_Conflict.tab11 : rtab .any (opsOf Try.f113 11) = spec_Conflict.T11 := by kernel_rfl
theorem spec_Conflict.bits11 : waitsOk spec_Conflict.T11.2 spec_Conflict.B11 = true := by kernel_rfl
theorem spec_Conflict.calls (k : Nat) (a0_0 : Int) (a0_1 : Int) (a0_2 : Int) (a0_3 : Int) (a1_0 : Int) (a1_1 : Int) (a1_2 : Int) (a1_3 : Int) (r : Bool) (w : World) (h : spec_Conflict.f k a0_0 a0_1 a0_2 a0_3 a1_0 a1_1 a1_2 a1_3 = some r) :
  Calls Try.prog 113 #[.agg #[.int .i64 a0_0, .int .i64 a0_1, .int .i64 a0_2, .int .i64 a0_3], .agg #[.int .i64 a1_0, .int .i64 a1_1, .int .i64 a1_2, .int .i64 a1_3]] w fun e w' => e = .returned (.bool r) ∧ Below w.heap.size w w' := by
 have hu52 := Try.underlying52; have HB := Aside0.mk (Below.refl w.heap.size w); have H : ((spec_IsPath.f a0_0 a0_1 a0_2 a0_3).bind fun t413 => (if t413 = true then ((spec_IsPath.f a1_0 a1_1 a1_2 a1_3).bind fun t414 => (if t414 = true then (if a0_1 = 2 then (spec_Conflict.j0 k (a1_1 == 2) a0_0 a0_1 a0_2 a0_3 a1_0 a1_1 a1_2 a1_3) else (spec_Conflict.j0 k false a0_0 a0_1 a0_2 a0_3 a1_0 a1_1 a1_2 a1_3)) else (spec_Conflict.j0 k true a0_0 a0_1 a0_2 a0_3 a1_0 a1_1 a1_2 a1_3))) else (spec_Conflict.j0 k true a0_0 a0_1 a0_2 a0_3 a1_0 a1_1 a1_2 a1_3))) = some r := h; clear h; have HC3 := Aside0.mk H; clear H; go_enter Try.func113, Try.ntmps113; go_upto_region 1 with (first | ((with_reducible refine gate_dst (N := 2) rfl ?_); refine S.bx 2 (cs := #[.int .i64 a0_0, .int .i64 a0_1, .int .i64 a0_2, .int .i64 a0_3]) (t := 52) ?_; intro gb411 hg w4 hbox hb; have BK411 := Aside0.mk hbox; have GW411 := S.geA hg; have GE411 := S.geA hg; replace HB := S.sA hb; clear hb hbox hg) | ((with_reducible refine gate_dst (N := 3) rfl ?_); refine S.bx 3 (cs := #[.int .i64 a1_0, .int .i64 a1_1, .int .i64 a1_2, .int .i64 a1_3]) (t := 52) ?_; intro gb412 hg w5 hbox hb; have BK412 := Aside0.mk hbox; have GW412 := S.geG hg; have GE412 := S.geG hg; replace HB := S.sG hb; have NB411_412 := S.nl hg BK411; have NB412_411 := S.ng hg BK411; replace BK411 := S.kb BK411 hb; clear hb hbox hg)); (try simp only [Act.put, List.setIfInBounds_toArray, List.set_cons_zero, List.set_cons_succ]); go_cut [5] (fun v5 wc => ∃ (kq : Nat) (x5_2 : Bool), v5 = .bool x5_2 ∧ Aside0 (spec_Conflict.j0 kq x5_2 a0_0 a0_1 a0_2 a0_3 a1_0 a1_1 a1_2 a1_3 = some r) ∧ Aside0 (kq ≤ k) ∧ Aside0 (wc.heap[gb411]? = some (.cells #[.int .i64 a0_0, .int .i64 a0_1, .int .i64 a0_2, .int .i64 a0_3] 52 (0, 0))) ∧ Aside0 (wc.heap[gb412]? = some (.cells #[.int .i64 a1_0, .int .i64 a1_1, .int .i64 a1_2, .int .i64 a1_3] 52 (0, 0))) ∧ Aside0 (Below w.heap.size w wc))
 case first =>
  have H := HC3.out; clear HC3; replace H := S.bd H; obtain ⟨t413, A6, H⟩ := H; (try dsimp only at H); replace H := S.db H; rcases H with ⟨rfl, H⟩ | ⟨rfl, H⟩
  ·replace H := S.bd H; obtain ⟨t414, A8, H⟩ := H; (try dsimp only at H); replace H := S.db H; rcases H with ⟨rfl, H⟩ | ⟨rfl, H⟩
   ·by_cases c10 : a0_1 = 2
    ·rw [if_pos c10] at H; have c10b0 : (a0_1 == 2) = true := beq_iff_eq.mpr c10; have c10b1 : (a0_1 != 2) = false := bne_eq_false_iff_eq.mpr c10; clear c10; (first | rw [c10b0] | (simp only [i64_w, i32_w]; rw [c10b0]) | skip); have H' := Aside0.mk H; clear H; have hnb11 := NB411_412.out; have hnc11 := NB412_411.out; obtain ⟨Z12a, Z12b, Z12c, Z12d, Y12a, Y12b, Y12c, Y12d⟩ := S.c4 BK411.out; go_wp2_with (first | ((with_reducible refine gate_callee (f := 129) rfl ?_); refine S.gL (some 7) Try.func129 #[.agg #[.int .i64 a0_0, .int .i64 a0_1, .int .i64 a0_2, .int .i64 a0_3]] ?_; (with_reducible refine (spec_IsPath.calls a0_0 a0_1 a0_2 a0_3 true _ A6.out).mono ?_); rintro e w13 ⟨rfl, hb⟩; refine ⟨_, rfl, ?_⟩; replace BK411 := S.kb BK411 hb; replace BK412 := S.kb BK412 hb; replace HB := S.sG hb; (try clear hb); obtain ⟨Z14a, Z14b, Z14c, Z14d, Y14a, Y14b, Y14c, Y14d⟩ := S.c4 BK412.out) | (go_at_call 129; (with_reducible refine (spec_IsPath.calls a1_0 a1_1 a1_2 a1_3 true _ A8.out).mono ?_); rintro e w15 ⟨rfl, hb⟩; replace BK411 := S.kb BK411 hb; replace BK412 := S.kb BK412 hb; replace HB := S.sG hb; (try clear hb); obtain ⟨Z16a, Z16b, Z16c, Z16d, Y16a, Y16b, Y16c, Y16d⟩ := S.c4 BK411.out; obtain ⟨Z17a, Z17b, Z17c, Z17d, Y17a, Y17b, Y17c, Y17d⟩ := S.c4 BK412.out)); go_meet
     case rel => exact ⟨_, ((a1_1 == 2)), S.eA, H', S.le, ⟨S.uB BK411.out⟩, ⟨S.uB BK412.out⟩, ⟨S.bG⟩⟩
    ·rw [if_neg c10] at H; have c10b0 : (a0_1 == 2) = false := beq_eq_false_iff_ne.mpr c10; have c10b1 : (a0_1 != 2) = true := bne_iff_ne.mpr c10; (first | rw [c10b0] | (simp only [i64_w, i32_w]; rw [c10b0]) | skip); have H' := Aside0.mk H; clear H; have hnb18 := NB411_412.out; have hnc18 := NB412_411.out; obtain ⟨Z19a, Z19b, Z19c, Z19d, Y19a, Y19b, Y19c, Y19d⟩ := S.c4 BK411.out; go_wp2_with (first | ((with_reducible refine gate_callee (f := 129) rfl ?_); refine S.gL (some 7) Try.func129 #[.agg #[.int .i64 a0_0, .int .i64 a0_1, .int .i64 a0_2, .int .i64 a0_3]] ?_; (with_reducible refine (spec_IsPath.calls a0_0 a0_1 a0_2 a0_3 true _ A6.out).mono ?_); rintro e w20 ⟨rfl, hb⟩; refine ⟨_, rfl, ?_⟩; replace BK411 := S.kb BK411 hb; replace BK412 := S.kb BK412 hb; replace HB := S.sG hb; (try clear hb); obtain ⟨Z21a, Z21b, Z21c, Z21d, Y21a, Y21b, Y21c, Y21d⟩ := S.c4 BK412.out) | (go_at_call 129; (with_reducible refine (spec_IsPath.calls a1_0 a1_1 a1_2 a1_3 true _ A8.out).mono ?_); rintro e w22 ⟨rfl, hb⟩; replace BK411 := S.kb BK411 hb; replace BK412 := S.kb BK412 hb; replace HB := S.sG hb; (try clear hb); obtain ⟨Z23a, Z23b, Z23c, Z23d, Y23a, Y23b, Y23c, Y23d⟩ := S.c4 BK411.out)); go_meet
     case rel => exact ⟨_, (false), S.eA, H', S.le, ⟨S.uB BK411.out⟩, ⟨S.uB BK412.out⟩, ⟨S.bG⟩⟩
   ·have H' := Aside0.mk H; clear H; have hnb24 := NB411_412.out; have hnc24 := NB412_411.out; obtain ⟨Z25a, Z25b, Z25c, Z25d, Y25a, Y25b, Y25c, Y25d⟩ := S.c4 BK411.out; go_wp2_with (first | ((with_reducible refine gate_callee (f := 129) rfl ?_); refine S.gL (some 7) Try.func129 #[.agg #[.int .i64 a0_0, .int .i64 a0_1, .int .i64 a0_2, .int .i64 a0_3]] ?_; (with_reducible refine (spec_IsPath.calls a0_0 a0_1 a0_2 a0_3 true _ A6.out).mono ?_); rintro e w26 ⟨rfl, hb⟩; refine ⟨_, rfl, ?_⟩; replace BK411 := S.kb BK411 hb; replace BK412 := S.kb BK412 hb; replace HB := S.sG hb; (try clear hb); obtain ⟨Z27a, Z27b, Z27c, Z27d, Y27a, Y27b, Y27c, Y27d⟩ := S.c4 BK412.out) | (go_at_call 129; (with_reducible refine (spec_IsPath.calls a1_0 a1_1 a1_2 a1_3 false _ A8.out).mono ?_); rintro e w28 ⟨rfl, hb⟩; replace BK411 := S.kb BK411 hb; replace BK412 := S.kb BK412 hb; replace HB := S.sG hb; (try clear hb))); go_meet
    case rel => exact ⟨_, (true), S.eA, H', S.le, ⟨S.uB BK411.out⟩, ⟨S.uB BK412.out⟩, ⟨S.bG⟩⟩
  ·have H' := Aside0.mk H; clear H; have hnb29 := NB411_412.out; have hnc29 := NB412_411.out; obtain ⟨Z30a, Z30b, Z30c, Z30d, Y30a, Y30b, Y30c, Y30d⟩ := S.c4 BK411.out; go_wp2_with (first | ((with_reducible refine gate_callee (f := 129) rfl ?_); refine S.gL (some 7) Try.func129 #[.agg #[.int .i64 a0_0, .int .i64 a0_1, .int .i64 a0_2, .int .i64 a0_3]] ?_; (with_reducible refine (spec_IsPath.calls a0_0 a0_1 a0_2 a0_3 false _ A6.out).mono ?_); rintro e w31 ⟨rfl, hb⟩; refine ⟨_, rfl, ?_⟩; replace BK411 := S.kb BK411 hb; replace BK412 := S.kb BK412 hb; replace HB := S.sG hb; (try clear hb))); go_meet
   case rel => exact ⟨_, (true), S.eA, H', S.le, ⟨S.uB BK411.out⟩, ⟨S.uB BK412.out⟩, ⟨S.bG⟩⟩
 case rest =>
  clear HC3; obtain ⟨kq, x5_2, rfl, HA, HJ2, BK411, BK412, HB⟩ := hcut
  cases kq with
  | zero => exact absurd HA.out (by simp [spec_Conflict.j0])
  | succ kj2 =>
   have H := HA.out; clear HA; simp only [spec_Conflict.j0] at H; replace H := S.db H; rcases H with ⟨rfl, H⟩ | ⟨rfl, H⟩
   ·obtain rfl := Option.some.inj H; go_wp2; go_ret; exact ⟨S.eW, S.bG⟩
   ·by_cases c33 : a0_1 = 2
    ·rw [if_pos c33] at H; have c33b0 : (a0_1 == 2) = true := beq_iff_eq.mpr c33; have c33b1 : (a0_1 != 2) = false := bne_eq_false_iff_eq.mpr c33; clear c33
     by_cases c34 : a1_2 = a0_2
     ·rw [if_pos c34] at H; have c34b0 : (a1_2 == a0_2) = true := beq_iff_eq.mpr c34; have c34b1 : (a1_2 != a0_2) = false := bne_eq_false_iff_eq.mpr c34; clear c34; obtain rfl := Option.some.inj H; have hnb35 := NB411_412.out; have hnc35 := NB412_411.out; obtain ⟨Z36a, Z36b, Z36c, Z36d, Y36a, Y36b, Y36c, Y36d⟩ := S.c4 BK411.out; obtain ⟨Z37a, Z37b, Z37c, Z37d, Y37a, Y37b, Y37c, Y37d⟩ := S.c4 BK412.out; go_wp2; go_ret; exact ⟨S.eW, S.bG⟩
     ·rw [if_neg c34] at H; have c34b0 : (a1_2 == a0_2) = false := beq_eq_false_iff_ne.mpr c34; have c34b1 : (a1_2 != a0_2) = true := bne_iff_ne.mpr c34; obtain rfl := Option.some.inj H; have hnb38 := NB411_412.out; have hnc38 := NB412_411.out; obtain ⟨Z39a, Z39b, Z39c, Z39d, Y39a, Y39b, Y39c, Y39d⟩ := S.c4 BK411.out; obtain ⟨Z40a, Z40b, Z40c, Z40d, Y40a, Y40b, Y40c, Y40d⟩ := S.c4 BK412.out; go_wp2; go_ret; exact ⟨S.eW, S.bG⟩
    ·rw [if_neg c33] at H; have c33b0 : (a0_1 == 2) = false := beq_eq_false_iff_ne.mpr c33; have c33b1 : (a0_1 != 2) = true := bne_iff_ne.mpr c33
     by_cases c41 : a1_1 = 2
     ·rw [if_pos c41] at H; have c41b0 : (a1_1 == 2) = true := beq_iff_eq.mpr c41; have c41b1 : (a1_1 != 2) = false := bne_eq_false_iff_eq.mpr c41; clear c41
      by_cases c42 : a0_2 = a1_2
      ·rw [if_pos c42] at H; have c42b0 : (a0_2 == a1_2) = true := beq_iff_eq.mpr c42; have c42b1 : (a0_2 != a1_2) = false := bne_eq_false_iff_eq.mpr c42; clear c42; obtain rfl := Option.some.inj H; have hnb43 := NB411_412.out; have hnc43 := NB412_411.out; obtain ⟨Z44a, Z44b, Z44c, Z44d, Y44a, Y44b, Y44c, Y44d⟩ := S.c4 BK411.out; obtain ⟨Z45a, Z45b, Z45c, Z45d, Y45a, Y45b, Y45c, Y45d⟩ := S.c4 BK412.out; go_wp2; go_ret; exact ⟨S.eW, S.bG⟩
      ·rw [if_neg c42] at H; have c42b0 : (a0_2 == a1_2) = false := beq_eq_false_iff_ne.mpr c42; have c42b1 : (a0_2 != a1_2) = true := bne_iff_ne.mpr c42; obtain rfl := Option.some.inj H; have hnb46 := NB411_412.out; have hnc46 := NB412_411.out; obtain ⟨Z47a, Z47b, Z47c, Z47d, Y47a, Y47b, Y47c, Y47d⟩ := S.c4 BK411.out; obtain ⟨Z48a, Z48b, Z48c, Z48d, Y48a, Y48b, Y48c, Y48d⟩ := S.c4 BK412.out; go_wp2; go_ret; exact ⟨S.eW, S.bG⟩
     ·rw [if_neg c41] at H; have c41b0 : (a1_1 == 2) = false := beq_eq_false_iff_ne.mpr c41; have c41b1 : (a1_1 != 2) = true := bne_iff_ne.mpr c41
      by_cases c49 : a0_2 = a1_2
      ·rw [if_pos c49] at H; have c49b0 : (a0_2 == a1_2) = true := beq_iff_eq.mpr c49; have c49b1 : (a0_2 != a1_2) = false := bne_eq_false_iff_eq.mpr c49; clear c49; obtain rfl := Option.some.inj H; have hnb50 := NB411_412.out; have hnc50 := NB412_411.out; obtain ⟨Z51a, Z51b, Z51c, Z51d, Y51a, Y51b, Y51c, Y51d⟩ := S.c4 BK411.out; obtain ⟨Z52a, Z52b, Z52c, Z52d, Y52a, Y52b, Y52c, Y52d⟩ := S.c4 BK412.out; go_wp2; go_ret; exact ⟨S.eW, S.bG⟩
      ·rw [if_neg c49] at H; have c49b0 : (a0_2 == a1_2) = false := beq_eq_false_iff_ne.mpr c49; have c49b1 : (a0_2 != a1_2) = true := bne_iff_ne.mpr c49
       by_cases c53 : a0_3 = a1_3
       ·rw [if_pos c53] at H; have c53b0 : (a0_3 == a1_3) = true := beq_iff_eq.mpr c53; have c53b1 : (a0_3 != a1_3) = false := bne_eq_false_iff_eq.mpr c53; clear c53; obtain rfl := Option.some.inj H; have hnb54 := NB411_412.out; have hnc54 := NB412_411.out; obtain ⟨Z55a, Z55b, Z55c, Z55d, Y55a, Y55b, Y55c, Y55d⟩ := S.c4 BK411.out; obtain ⟨Z56a, Z56b, Z56c, Z56d, Y56a, Y56b, Y56c, Y56d⟩ := S.c4 BK412.out; go_wp2; go_ret; exact ⟨S.eW, S.bG⟩
       ·rw [if_neg c53] at H; have c53b0 : (a0_3 == a1_3) = false := beq_eq_false_iff_ne.mpr c53; have c53b1 : (a0_3 != a1_3) = true := bne_iff_ne.mpr c53; replace H := S.bd H; obtain ⟨t415, A57, H⟩ := H; (try dsimp only at H); replace H := S.bd H; obtain ⟨t416, A58, H⟩ := H; (try dsimp only at H); replace H := S.bd H; obtain ⟨t417, A59, H⟩ := H; (try dsimp only at H); replace H := S.bd H; obtain ⟨t418, A60, H⟩ := H; (try dsimp only at H); replace H := S.bd H; obtain ⟨t419, A61, H⟩ := H; (try dsimp only at H); obtain rfl := Option.some.inj H; have hnb62 := NB411_412.out; have hnc62 := NB412_411.out; obtain ⟨Z63a, Z63b, Z63c, Z63d, Y63a, Y63b, Y63c, Y63d⟩ := S.c4 BK411.out; obtain ⟨Z64a, Z64b, Z64c, Z64d, Y64a, Y64b, Y64c, Y64d⟩ := S.c4 BK412.out; try go_wp2
        replace BK411 := Aside0.mk (blk_drew BK411.out); replace BK412 := Aside0.mk (blk_drew BK412.out); replace HB := Aside0.mk (below_drew1 HB.out); refine S.st (n := 14) (ds := []) #[false, false, false, false, false, false, false, false, false, false, false, false, false, false] (fun w_ h_ => have x_ := S.d4 (S.Q h_ BK411.out) (S.e4 (S.Q h_ BK412.out)); x_) (fun hHeld => ?_); refine with_tabW spec_Conflict.tab11 spec_Conflict.bits11 (fun HT_ HW_ => ?_); generalize wc.drew = w65 at BK411 BK412 HB hHeld ⊢; refine S.pS 0 68 ?_; refine S.pS 3 71 ?_; refine S.pS 6 74 ?_; refine S.pS 9 77 ?_; refine S.tK 1 69 #[true, true, false, true, false, false, true, false, false, true, false, false, false, false] ?_; refine S.tK 4 72 #[true, true, false, true, true, false, true, false, false, true, false, false, false, false] ?_; refine S.tK 7 75 #[true, true, false, true, true, false, true, true, false, true, false, false, false, false] ?_; refine S.tK 10 78 #[true, true, false, true, true, false, true, true, false, true, true, false, false, false] ?_; refine S.oN 2 70 #[true, true, true, true, true, false, true, true, false, true, true, false, false, false] (fun K hK => ?_); refine S.go Try.func131 #[.int .i64 a0_2] ?_
        with_reducible refine (spec_InPlace.calls a0_2 t415 _ A57.out).mono ?_
        rintro e w' ⟨rfl, ⟨nd, rfl⟩⟩; refine ⟨_, rfl, ?_⟩; refine hK.out _ _ (S.d4 BK411.out (S.e4 BK412.out)) (fun hHeld => ?_); clear hK K; refine S.nm 70 ?_; refine S.oN 5 73 #[true, true, true, true, true, true, true, true, false, true, true, false, false, false] (fun K hK => ?_); refine S.go Try.func132 #[.int .i64 a0_3] ?_
        with_reducible refine (spec_OutPlace.calls a0_3 t416 _ A58.out).mono ?_
        rintro e w' ⟨rfl, ⟨nd, rfl⟩⟩; refine ⟨_, rfl, ?_⟩; refine hK.out _ _ (S.d4 BK411.out (S.e4 BK412.out)) (fun hHeld => ?_); clear hK K; refine S.nm 73 ?_; refine S.oN 8 76 #[true, true, true, true, true, true, true, true, true, true, true, false, false, false] (fun K hK => ?_); refine S.go Try.func131 #[.int .i64 a1_2] ?_
        with_reducible refine (spec_InPlace.calls a1_2 t417 _ A59.out).mono ?_
        rintro e w' ⟨rfl, ⟨nd, rfl⟩⟩; refine ⟨_, rfl, ?_⟩; refine hK.out _ _ (S.d4 BK411.out (S.e4 BK412.out)) (fun hHeld => ?_); clear hK K; refine S.nm 76 ?_; refine S.oN 11 79 #[true, true, true, true, true, true, true, true, true, true, true, true, false, false] (fun K hK => ?_); refine S.go Try.func132 #[.int .i64 a1_3] ?_
        with_reducible refine (spec_OutPlace.calls a1_3 t418 _ A60.out).mono ?_
        rintro e w' ⟨rfl, ⟨nd, rfl⟩⟩; refine ⟨_, rfl, ?_⟩; refine hK.out _ _ (S.d4 BK411.out (S.e4 BK412.out)) (fun hHeld => ?_); clear hK K; refine S.nm 79 ?_; refine S.oN 12 80 #[true, true, true, true, true, true, true, true, true, true, true, true, true, false] (fun K hK => ?_); refine S.go Try.func130 #[.int .i64 t415, .int .i64 t416, .int .i64 t417, .int .i64 t418] ?_
        with_reducible refine (spec_Interleave.calls kj2 t415 t416 t417 t418 t419 _ A61.out).mono ?_
        rintro e w66 ⟨rfl, hb⟩; refine ⟨_, rfl, ?_⟩; replace BK411 := S.kb BK411 hb; replace BK412 := S.kb BK412 hb; replace HB := S.sG hb; (try clear hb); (try clear hb2); (try clear hk); (try clear hi); refine hK.out _ _ (S.d4 BK411.out (S.e4 BK412.out)) (fun hHeld => ?_); clear hK K; refine S.nm 80 ?_; refine S.pS 13 4 ?_; refine done_ (done_of HT_.out (by kernel_rfl)) ?_; try go_wp2
        go_ret; exact ⟨S.eW, S.bG⟩
/-! ### spec_IsTogether: function 107 -/
mutual
def spec_IsTogether.l0 : Nat → List (S52) → List Int → Int → Option (Bool)
 | 0, _, _, _ => none
 | k + 1, x0, x1, x5 => if x5 < (x1.length : Int) then (if 0 ≤ x5 then ((spec_FindPath.f k x0 (rd x1 x5)).bind fun t422 => (if t422 < 0 then (spec_IsTogether.j1 k x0 x1 x5 t422 true) else (if x5 > 0 then (if 0 ≤ (wrap64 (x5 - 1)) then (if (wrap64 (x5 - 1)) < (x1.length : Int) then (spec_IsTogether.j1 k x0 x1 x5 t422 (decide ((rd x1 (wrap64 (x5 - 1))) ≥ (rd x1 x5)))) else (none)) else (none)) else (spec_IsTogether.j1 k x0 x1 x5 t422 false)))) else (none)) else ((spec_ArePaths.f k x0).bind fun t420 => (some t420))
def spec_IsTogether.j1 : Nat → List (S52) → List Int → Int → Int → Bool → Option (Bool)
 | 0, _, _, _, _, _ => none
 | k + 1, x0, x1, x5, x6, x37 => if x37 = true then (some false) else (spec_IsTogether.l1 k x0 x1 x5 x6 0)
def spec_IsTogether.l1 : Nat → List (S52) → List Int → Int → Int → Int → Option (Bool)
 | 0, _, _, _, _, _ => none
 | k + 1, x0, x1, x5, x6, x7 => if x7 < x5 then (if 0 ≤ x6 then (if x6 < (x0.length : Int) then (if 0 ≤ x7 then (if x7 < (x1.length : Int) then ((spec_FindPath.f k x0 (rd x1 x7)).bind fun t427 => (if 0 ≤ t427 then (if t427 < (x0.length : Int) then ((spec_Conflict.f k ((rd_T52 x0 x6).f0) ((rd_T52 x0 x6).f1) ((rd_T52 x0 x6).f2) ((rd_T52 x0 x6).f3) ((rd_T52 x0 t427).f0) ((rd_T52 x0 t427).f1) ((rd_T52 x0 t427).f2) ((rd_T52 x0 t427).f3)).bind fun t429 => (if t429 = true then (some false) else (spec_IsTogether.l1 k x0 x1 x5 x6 (wrap64 (x7 + 1))))) else (none)) else (none))) else (none)) else (none)) else (none)) else (none)) else (spec_IsTogether.l0 k x0 x1 (wrap64 (x5 + 1)))
end
def spec_IsTogether.f (k : Nat) (l0 : List (S52)) (l1 : List Int) : Option (Bool) := spec_IsTogether.l0 k l0 l1 0
def spec_IsTogether.T5 : Bool × List (List Nat × List Nat) := (true, [([], []), ([0], [0]), ([1], [1]), ([2], [2]), ([3, 2], [2, 3]), ([4, 2, 2], [2, 4]), ([5], [5]), ([5], [5]), ([7, 5], [5, 7]), ([6, 8, 5], [5, 6, 8]), ([9, 5], [5, 9]), ([5], [5]), ([5], [5]), ([11, 12, 5], [5, 11, 12]), ([13, 5], [5, 13]), ([10, 14, 5], [5, 10, 14]), ([5, 15, 2], [2, 5, 15]), ([2, 16], [2, 16])])
def spec_IsTogether.B5 : List Nat := [0, 1, 3, 7, 15, 31, 63, 63, 191, 511, 1023, 63, 63, 6207, 14399, 32767, 65535, 131071]
theorem spec_IsTogether.tab5 : rtab .any (opsOf Try.f107 5) = spec_IsTogether.T5 := by kernel_rfl
theorem spec_IsTogether.bits5 : waitsOk spec_IsTogether.T5.2 spec_IsTogether.B5 = true := by kernel_rfl
def spec_IsTogether.T10 : Bool × List (List Nat × List Nat) := (true, [([], []), ([], []), ([0, 1], [0, 1]), ([2], [2]), ([], []), ([], []), ([], []), ([], []), ([6, 7], [6, 7]), ([8], [8]), ([5, 9], [5, 9]), ([4, 10], [4, 10]), ([11], [11]), ([3, 12, 10], [3, 12])])
def spec_IsTogether.B10 : List Nat := [0, 0, 3, 7, 0, 0, 0, 0, 192, 448, 992, 2032, 4080, 8191]
theorem spec_IsTogether.tab10 : rtab .any (opsOf Try.f107 10) = spec_IsTogether.T10 := by kernel_rfl
theorem spec_IsTogether.bits10 : waitsOk spec_IsTogether.T10.2 spec_IsTogether.B10 = true := by kernel_rfl
theorem spec_IsTogether.calls (k : Nat) (A0 : Option Addr) (c0 : Nat) (l0 : List (S52)) (A1 : Option Addr) (c1 : Nat) (l1 : List Int) (r : Bool) (w : World) (hr0 : Kd.C k52 w A0 l0.length l0) (hc0 : l0.length ≤ c0) (hr1 : Kd.C (Kd.int .i64) w A1 l1.length l1) (hc1 : l1.length ≤ c1) (h : spec_IsTogether.f k l0 l1 = some r) :
  Calls Try.prog 107 #[.slice A0 l0.length c0, .slice A1 l1.length c1] w fun e w' => e = .returned (.bool r) ∧ Below w.heap.size w w' := by
 have hu52 := Try.underlying52; have HR0 := Aside0.mk hr0; have HC0 := Aside0.mk hc0; clear hr0 hc0; have HR1 := Aside0.mk hr1; have HC1 := Aside0.mk hc1; clear hr1 hc1; have HB := Aside0.mk (Below.refl w.heap.size w); have H : (spec_IsTogether.l0 k l0 l1 0) = some r := h; clear h; have H' := Aside0.mk H; clear H; go_enter Try.func107, Try.ntmps107; go_wp2; go_loopg [5] k (fun kq v5 w' => ∃ (x5_1 : Int), v5 = .int .i64 x5_1 ∧ Aside0 (spec_IsTogether.l0 kq l0 l1 x5_1 = some r) ∧ Aside0 (kq ≤ k) ∧ Aside0 (Below w.heap.size w w'))
 case atStart => exact ⟨(0), S.eA, H', ⟨Nat.le_refl _⟩, ⟨S.bA⟩⟩
 case round =>
  clear H'; try clear c1
  obtain ⟨x5_1, rfl, HA, HK1, HB⟩ := hrel
  cases gk with
  | zero => exact absurd HA.out (by simp [spec_IsTogether.l0])
  | succ k1 =>
   have H := HA.out; clear HA; simp only [spec_IsTogether.l0] at H; replace H := S.dc H; rcases H with ⟨H, c3b0⟩ | ⟨H, c3b0⟩
   ·by_cases c4 : 0 ≤ x5_1
    ·rw [if_pos c4] at H; have c4b0 : decide (0 ≤ x5_1) = true := decide_eq_true c4; clear c4; replace H := S.bd H; obtain ⟨t422, A5, H⟩ := H; (try dsimp only at H); have HC6 := Aside0.mk H; clear H; have p421 : 0 ≤ (x5_1 : Int) := S.oD; have q421 : x5_1 < (l1.length : Int) := S.oD; obtain ⟨ad421, e421, hx421_0⟩ := Kd.at_int HR1.out x5_1 p421 q421; cases e421; replace hx421_0 := S.hb HB hx421_0; replace p421 := eq_true p421; replace q421 := eq_true q421; go_upto_region 5 with (first | ((with_reducible refine gate_callee (f := 85) rfl ?_); refine S.gL (some 19) Try.func85 #[.slice A0 l0.length c0, .int .i64 (rd l1 x5_1)] ?_; (with_reducible refine (spec_FindPath.calls k1 _ _ l0 (rd l1 x5_1) t422 _ ?s1 HC0.out A5.out).mono ?_); (case s1 => exact S.cA HR0.out); rintro e w' ⟨rfl, ⟨nd, rfl⟩⟩; refine ⟨_, rfl, ?_⟩)); have nB_ := Aside0.mk (pw_below_drewN HB.out nd); clear HB; have HB := nB_; clear nB_; generalize wr.drewN nd = wq at HB ⊢; (try simp only [Act.put, List.setIfInBounds_toArray, List.set_cons_zero, List.set_cons_succ]); go_cut [37] (fun v37 wc => ∃ (kq : Nat) (x37_5 : Bool), v37 = .bool x37_5 ∧ Aside0 (spec_IsTogether.j1 kq l0 l1 x5_1 t422 x37_5 = some r) ∧ Aside0 (kq ≤ k1) ∧ Aside0 (Below w.heap.size w wc))
     case first =>
      have H := HC6.out; clear HC6; replace H := S.dc H; rcases H with ⟨H, c7b0⟩ | ⟨H, c7b0⟩
      ·(first | rw [c7b0] | (simp only [i64_w, i32_w]; rw [c7b0]) | skip); have H' := Aside0.mk H; clear H; try go_wp2
       replace HB := Aside0.mk (below_drew1 HB.out); refine start_ (n := 18) (S := fun w' => True) (ds := []) #[false, false, false, false, false, false, false, false, false, false, false, false, false, false, false, false, false, false] (by kernel_rfl) rfl rfl trivial (fun hHeld => ?_); refine with_tabW spec_IsTogether.tab5 spec_IsTogether.bits5 (fun HT_ HW_ => ?_); generalize wq.drew = w8 at HB hHeld ⊢; refine S.pS 0 20 ?_; refine S.pS 1 21 ?_; refine S.pS 2 22 ?_; refine S.pU 3 23 ?_; refine S.pU 4 24 ?_; refine S.pU 5 25 ?_; refine S.pU 6 26 ?_; refine S.pU 7 27 ?_; refine S.pU 8 28 ?_; refine S.pU 9 29 ?_; refine S.pU 10 30 ?_; refine S.pU 11 31 ?_; refine S.pU 12 32 ?_; refine S.pU 13 33 ?_; refine S.pU 14 34 ?_; refine S.pU 15 35 ?_; refine S.pU 16 36 ?_; refine S.pS 17 37 ?_; refine done_ (done_of HT_.out (by kernel_rfl)) ?_; try go_wp2
       go_meet
       case rel => exact ⟨_, (true), S.eA, H', ⟨by have := HK1.out; first | omega | exact Nat.le_refl _⟩, ⟨S.bA⟩⟩
      ·(first | rw [c7b0] | (simp only [i64_w, i32_w]; rw [c7b0]) | skip)
       by_cases c9 : x5_1 > 0
       ·rw [if_pos c9] at H; have c9b0 : decide (0 < x5_1) = true := decide_eq_true c9; clear c9; obtain ⟨ji10, hji10⟩ : ∃ j_ : Int, (wrap64 (x5_1 - 1)) = j_ := ⟨_, rfl⟩; replace H : (if 0 ≤ (ji10) then (if (ji10) < (l1.length : Int) then (spec_IsTogether.j1 k1 l0 l1 x5_1 t422 (decide ((rd l1 (ji10)) ≥ (rd l1 x5_1)))) else (none)) else (none)) = some r := by first | (rw [hji10] at H; exact H) | (simp only [hji10] at H ⊢; exact H)
        have hji10w : (IntKind.i64.wrap (x5_1 - 1)) = ji10 := (i64_w _).trans hji10
        by_cases c11 : 0 ≤ (ji10)
        ·rw [if_pos c11] at H; have c11b0 : decide (0 ≤ (ji10)) = true := decide_eq_true c11; clear c11
         by_cases c12 : (ji10) < (l1.length : Int)
         ·rw [if_pos c12] at H; have c12b0 : decide ((ji10) < (l1.length : Int)) = true := decide_eq_true c12; clear c12; have H' := Aside0.mk H; clear H; try go_wp2
          replace HB := Aside0.mk (below_drew1 HB.out); have p423 : 0 ≤ ((ji10) : Int) := S.oD; have q423 : (ji10) < (l1.length : Int) := S.oD; obtain ⟨ad423, e423, hx423_0⟩ := Kd.at_int HR1.out (ji10) p423 q423; have hw423_0 := hx423_0; obtain rfl : ad421 = ad423 := (by injection e423); replace hx423_0 := S.hb HB hx423_0; replace p423 := eq_true p423; replace q423 := eq_true q423; have p424 : 0 ≤ (x5_1 : Int) := S.oD; have q424 : x5_1 < (l1.length : Int) := S.oD; obtain ⟨ad424, e424, hx424_0⟩ := Kd.at_int HR1.out x5_1 p424 q424; have hw424_0 := hx424_0; obtain rfl : ad421 = ad424 := (by injection e424); replace hx424_0 := S.hb HB hx424_0; replace p424 := eq_true p424; replace q424 := eq_true q424; refine S.st (n := 18) (ds := []) #[false, false, false, false, false, false, false, false, false, false, false, false, false, false, false, false, false, false] (fun w_ h_ => have x_ := And.intro (S.q h_ (S.hb HB hw423_0)) (S.q h_ (S.hb HB hw424_0)); x_) (fun hHeld => ?_); refine with_tabW spec_IsTogether.tab5 spec_IsTogether.bits5 (fun HT_ HW_ => ?_); generalize wr.drew = w13 at HB hx423_0 hx424_0 hHeld ⊢; refine S.pS 0 20 ?_; refine S.pS 1 21 ?_; refine S.pS 2 22 ?_; refine S.pS 3 23 ?_; refine S.pS 4 24 ?_; refine S.pS 5 25 ?_; refine S.pS 6 26 ?_; refine S.pS 7 27 ?_; refine S.pS 8 28 ?_; refine S.pS 9 29 ?_; refine S.pS 11 31 ?_; refine S.pS 12 32 ?_; refine S.pS 13 33 ?_; refine S.tK 10 30 #[true, true, true, true, true, true, true, true, true, true, true, true, true, true, false, false, false, false] ?_; refine S.tK 14 34 #[true, true, true, true, true, true, true, true, true, true, true, true, true, true, true, false, false, false] ?_; refine S.pS 15 35 ?_; refine S.pS 16 36 ?_; refine S.pS 17 37 ?_; refine done_ (done_of HT_.out (by kernel_rfl)) ?_; try go_wp2
          go_meet
          case rel => exact ⟨_, (decide ((rd l1 (ji10)) ≥ (rd l1 x5_1))), (by first | rfl | (simp; done) | (simp only [← hji10] <;> (first | rfl | simp)) | (simp [*]; done)), H', ⟨by have := HK1.out; first | omega | exact Nat.le_refl _⟩, ⟨S.bA⟩⟩
         ·rw [if_neg c12] at H; exact absurd H (by simp)
        ·rw [if_neg c11] at H; exact absurd H (by simp)
       ·rw [if_neg c9] at H; have c9b0 : decide (0 < x5_1) = false := decide_eq_false c9; clear c9; have H' := Aside0.mk H; clear H; try go_wp2
        replace HB := Aside0.mk (below_drew1 HB.out); refine start_ (n := 18) (S := fun w' => True) (ds := []) #[false, false, false, false, false, false, false, false, false, false, false, false, false, false, false, false, false, false] (by kernel_rfl) rfl rfl trivial (fun hHeld => ?_); refine with_tabW spec_IsTogether.tab5 spec_IsTogether.bits5 (fun HT_ HW_ => ?_); generalize wq.drew = w14 at HB hHeld ⊢; refine S.pS 0 20 ?_; refine S.pS 1 21 ?_; refine S.pS 2 22 ?_; refine S.pS 3 23 ?_; refine S.pS 4 24 ?_; refine S.pS 5 25 ?_; refine S.pU 6 26 ?_; refine S.pU 7 27 ?_; refine S.pU 8 28 ?_; refine S.pU 9 29 ?_; refine S.pU 10 30 ?_; refine S.pU 11 31 ?_; refine S.pU 12 32 ?_; refine S.pU 13 33 ?_; refine S.pU 14 34 ?_; refine S.pU 15 35 ?_; refine S.pS 16 36 ?_; refine S.pS 17 37 ?_; refine done_ (done_of HT_.out (by kernel_rfl)) ?_; try go_wp2
        go_meet
        case rel => exact ⟨_, (false), S.eA, H', ⟨by have := HK1.out; first | omega | exact Nat.le_refl _⟩, ⟨S.bA⟩⟩
     case rest =>
      clear HC6; try clear c1
      try clear c3
      try clear c3b0
      try clear c4
      try clear c4b0
      try clear hx421_0
      try clear p421
      try clear q421
      obtain ⟨kq, x37_5, rfl, HA, HJ5, HB⟩ := hcut
      cases kq with
      | zero => exact absurd HA.out (by simp [spec_IsTogether.j1])
      | succ kj5 =>
       have H := HA.out; clear HA; simp only [spec_IsTogether.j1] at H; replace H := S.db H; rcases H with ⟨rfl, H⟩ | ⟨rfl, H⟩
       ·obtain rfl := Option.some.inj H; go_wp2; go_ret; exact ⟨S.eW, S.bA⟩
       ·have H' := Aside0.mk H; clear H; go_wp2; go_loopg [7] kj5 (fun kq v7 w' => ∃ (x7_3 : Int), v7 = .int .i64 x7_3 ∧ Aside0 (spec_IsTogether.l1 kq l0 l1 x5_1 t422 x7_3 = some r) ∧ Aside0 (kq ≤ kj5) ∧ Aside0 (Below w.heap.size w w'))
        case atStart => exact ⟨(0), S.eA, H', ⟨Nat.le_refl _⟩, ⟨S.bA⟩⟩
        case round =>
         clear H'; try clear c1
         try clear c3
         try clear c3b0
         try clear c4
         try clear c4b0
         try clear c15
         try clear hx421_0
         try clear p421
         try clear q421
         obtain ⟨x7_3, rfl, HA, HK3, HB⟩ := hrel
         cases gk with
         | zero => exact absurd HA.out (by simp [spec_IsTogether.l1])
         | succ k3 =>
          have H := HA.out; clear HA; simp only [spec_IsTogether.l1] at H; replace H := S.dc H; rcases H with ⟨H, c16b0⟩ | ⟨H, c16b0⟩
          ·by_cases c17 : 0 ≤ t422
           ·rw [if_pos c17] at H; have c17b0 : decide (0 ≤ t422) = true := decide_eq_true c17; clear c17
            by_cases c18 : t422 < (l0.length : Int)
            ·rw [if_pos c18] at H; have c18b0 : decide (t422 < (l0.length : Int)) = true := decide_eq_true c18; clear c18
             by_cases c19 : 0 ≤ x7_3
             ·rw [if_pos c19] at H; have c19b0 : decide (0 ≤ x7_3) = true := decide_eq_true c19; clear c19
              by_cases c20 : x7_3 < (l1.length : Int)
              ·rw [if_pos c20] at H; have c20b0 : decide (x7_3 < (l1.length : Int)) = true := decide_eq_true c20; clear c20; replace H := S.bd H; obtain ⟨t427, A21, H⟩ := H; (try dsimp only at H)
               by_cases c22 : 0 ≤ t427
               ·rw [if_pos c22] at H; have c22b0 : decide (0 ≤ t427) = true := decide_eq_true c22; clear c22
                by_cases c23 : t427 < (l0.length : Int)
                ·rw [if_pos c23] at H; have c23b0 : decide (t427 < (l0.length : Int)) = true := decide_eq_true c23; clear c23; replace H := S.bd H; obtain ⟨t429, A24, H⟩ := H; (try dsimp only at H); replace H := S.db H; rcases H with ⟨rfl, H⟩ | ⟨rfl, H⟩
                 ·obtain rfl := Option.some.inj H; try go_wp2
                  replace HB := Aside0.mk (below_drew1 HB.out); have p425 : 0 ≤ (t422 : Int) := S.oD; have q425 : t422 < (l0.length : Int) := S.oD; obtain ⟨ad425, e425, hx425_0, hx425_1, hx425_2, hx425_3⟩ := at_T52 HR0.out t422 p425 q425; have hw425_3 := hx425_3; have hw425_2 := hx425_2; have hw425_1 := hx425_1; have hw425_0 := hx425_0; cases e425; replace hx425_0 := S.hb HB hx425_0; replace hx425_1 := S.hb HB hx425_1; replace hx425_2 := S.hb HB hx425_2; replace hx425_3 := S.hb HB hx425_3; replace p425 := eq_true p425; replace q425 := eq_true q425; have p426 : 0 ≤ (x7_3 : Int) := S.oD; have q426 : x7_3 < (l1.length : Int) := S.oD; obtain ⟨ad426, e426, hx426_0⟩ := Kd.at_int HR1.out x7_3 p426 q426; have hw426_0 := hx426_0; obtain rfl : ad421 = ad426 := (by injection e426); replace hx426_0 := S.hb HB hx426_0; replace p426 := eq_true p426; replace q426 := eq_true q426; have p428 : 0 ≤ (t427 : Int) := S.oD; have q428 : t427 < (l0.length : Int) := S.oD; obtain ⟨ad428, e428, hx428_0, hx428_1, hx428_2, hx428_3⟩ := at_T52 HR0.out t427 p428 q428; have hw428_3 := hx428_3; have hw428_2 := hx428_2; have hw428_1 := hx428_1; have hw428_0 := hx428_0; obtain rfl : ad425 = ad428 := (by injection e428); replace hx428_0 := S.hb HB hx428_0; replace hx428_1 := S.hb HB hx428_1; replace hx428_2 := S.hb HB hx428_2; replace hx428_3 := S.hb HB hx428_3; replace p428 := eq_true p428; replace q428 := eq_true q428; refine S.st (n := 14) (ds := []) #[false, false, false, false, false, false, false, false, false, false, false, false, false, false] (fun w_ h_ => have x_ := And.intro (S.q h_ (S.hb HB hw425_0)) (And.intro (S.q h_ (S.hb HB hw425_1)) (And.intro (S.q h_ (S.hb HB hw425_2)) (And.intro (S.q h_ (S.hb HB hw425_3)) (And.intro (S.q h_ (S.hb HB hw426_0)) (And.intro (S.q h_ (S.hb HB hw428_0)) (And.intro (S.q h_ (S.hb HB hw428_1)) (And.intro (S.q h_ (S.hb HB hw428_2)) (S.q h_ (S.hb HB hw428_3))))))))); x_) (fun hHeld => ?_); refine with_tabW spec_IsTogether.tab10 spec_IsTogether.bits10 (fun HT_ HW_ => ?_); generalize wr.drew = w26 at HB hx425_0 hx425_1 hx425_2 hx425_3 hx426_0 hx428_0 hx428_1 hx428_2 hx428_3 hHeld ⊢; refine S.pS 0 43 ?_; refine S.pS 1 44 ?_; refine S.pS 2 45 ?_; refine S.pS 4 47 ?_; refine S.pS 5 48 ?_; refine S.pS 6 49 ?_; refine S.pS 7 50 ?_; refine S.pS 8 51 ?_; refine S.tK 3 46 #[true, true, true, true, true, true, true, true, true, false, false, false, false, false] ?_; refine S.tK 9 52 #[true, true, true, true, true, true, true, true, true, true, false, false, false, false] ?_; refine S.oN 10 53 #[true, true, true, true, true, true, true, true, true, true, true, false, false, false] (fun K hK => ?_); refine S.go Try.func85 #[.slice (some ad425) l0.length c0, .int .i64 (rd l1 x7_3)] ?_
                  with_reducible refine (spec_FindPath.calls k3 _ _ l0 (rd l1 x7_3) t427 _ ?s1 ?s2 A21.out).mono ?_
                  (case s1 => exact S.cA HR0.out); (case s2 => exact HC0.out); rintro e w' ⟨rfl, ⟨nd, rfl⟩⟩; refine ⟨_, rfl, ?_⟩; refine hK.out _ _ ⟨(S.hb HB hw425_0 :), (S.hb HB hw425_1 :), (S.hb HB hw425_2 :), (S.hb HB hw425_3 :), (S.hb HB hw426_0 :), (S.hb HB hw428_0 :), (S.hb HB hw428_1 :), (S.hb HB hw428_2 :), (S.hb HB hw428_3 :)⟩ (fun hHeld => ?_); clear hK K; refine S.nm 53 ?_; refine S.pS 11 54 ?_; refine S.tK 12 55 #[true, true, true, true, true, true, true, true, true, true, true, true, true, false] ?_; refine S.oN 13 56 #[true, true, true, true, true, true, true, true, true, true, true, true, true, true] (fun K hK => ?_); refine S.go Try.func113 #[.agg #[.int .i64 ((rd_T52 l0 t422).f0), .int .i64 ((rd_T52 l0 t422).f1), .int .i64 ((rd_T52 l0 t422).f2), .int .i64 ((rd_T52 l0 t422).f3)], .agg #[.int .i64 ((rd_T52 l0 t427).f0), .int .i64 ((rd_T52 l0 t427).f1), .int .i64 ((rd_T52 l0 t427).f2), .int .i64 ((rd_T52 l0 t427).f3)]] ?_
                  with_reducible refine (spec_Conflict.calls k3 ((rd_T52 l0 t422).f0) ((rd_T52 l0 t422).f1) ((rd_T52 l0 t422).f2) ((rd_T52 l0 t422).f3) ((rd_T52 l0 t427).f0) ((rd_T52 l0 t427).f1) ((rd_T52 l0 t427).f2) ((rd_T52 l0 t427).f3) true _ A24.out).mono ?_
                  rintro e w27 ⟨rfl, hb⟩; refine ⟨_, rfl, ?_⟩; replace HB := S.sA hb; (try clear hb); (try clear hb2); (try clear hk); (try clear hi); refine hK.out _ _ ⟨(S.hb HB hw425_0 :), (S.hb HB hw425_1 :), (S.hb HB hw425_2 :), (S.hb HB hw425_3 :), (S.hb HB hw426_0 :), (S.hb HB hw428_0 :), (S.hb HB hw428_1 :), (S.hb HB hw428_2 :), (S.hb HB hw428_3 :)⟩ (fun hHeld => ?_); clear hK K; refine S.nm 56 ?_; refine done_ (done_of HT_.out (by kernel_rfl)) ?_; try go_wp2
                  go_ret; exact ⟨S.eW, S.bA⟩
                 ·have H' := Aside0.mk H; clear H; try go_wp2
                  replace HB := Aside0.mk (below_drew1 HB.out); have p425 : 0 ≤ (t422 : Int) := S.oD; have q425 : t422 < (l0.length : Int) := S.oD; obtain ⟨ad425, e425, hx425_0, hx425_1, hx425_2, hx425_3⟩ := at_T52 HR0.out t422 p425 q425; have hw425_3 := hx425_3; have hw425_2 := hx425_2; have hw425_1 := hx425_1; have hw425_0 := hx425_0; cases e425; replace hx425_0 := S.hb HB hx425_0; replace hx425_1 := S.hb HB hx425_1; replace hx425_2 := S.hb HB hx425_2; replace hx425_3 := S.hb HB hx425_3; replace p425 := eq_true p425; replace q425 := eq_true q425; have p426 : 0 ≤ (x7_3 : Int) := S.oD; have q426 : x7_3 < (l1.length : Int) := S.oD; obtain ⟨ad426, e426, hx426_0⟩ := Kd.at_int HR1.out x7_3 p426 q426; have hw426_0 := hx426_0; obtain rfl : ad421 = ad426 := (by injection e426); replace hx426_0 := S.hb HB hx426_0; replace p426 := eq_true p426; replace q426 := eq_true q426; have p428 : 0 ≤ (t427 : Int) := S.oD; have q428 : t427 < (l0.length : Int) := S.oD; obtain ⟨ad428, e428, hx428_0, hx428_1, hx428_2, hx428_3⟩ := at_T52 HR0.out t427 p428 q428; have hw428_3 := hx428_3; have hw428_2 := hx428_2; have hw428_1 := hx428_1; have hw428_0 := hx428_0; obtain rfl : ad425 = ad428 := (by injection e428); replace hx428_0 := S.hb HB hx428_0; replace hx428_1 := S.hb HB hx428_1; replace hx428_2 := S.hb HB hx428_2; replace hx428_3 := S.hb HB hx428_3; replace p428 := eq_true p428; replace q428 := eq_true q428; refine S.st (n := 14) (ds := []) #[false, false, false, false, false, false, false, false, false, false, false, false, false, false] (fun w_ h_ => have x_ := And.intro (S.q h_ (S.hb HB hw425_0)) (And.intro (S.q h_ (S.hb HB hw425_1)) (And.intro (S.q h_ (S.hb HB hw425_2)) (And.intro (S.q h_ (S.hb HB hw425_3)) (And.intro (S.q h_ (S.hb HB hw426_0)) (And.intro (S.q h_ (S.hb HB hw428_0)) (And.intro (S.q h_ (S.hb HB hw428_1)) (And.intro (S.q h_ (S.hb HB hw428_2)) (S.q h_ (S.hb HB hw428_3))))))))); x_) (fun hHeld => ?_); refine with_tabW spec_IsTogether.tab10 spec_IsTogether.bits10 (fun HT_ HW_ => ?_); generalize wr.drew = w28 at HB hx425_0 hx425_1 hx425_2 hx425_3 hx426_0 hx428_0 hx428_1 hx428_2 hx428_3 hHeld ⊢; refine S.pS 0 43 ?_; refine S.pS 1 44 ?_; refine S.pS 2 45 ?_; refine S.pS 4 47 ?_; refine S.pS 5 48 ?_; refine S.pS 6 49 ?_; refine S.pS 7 50 ?_; refine S.pS 8 51 ?_; refine S.tK 3 46 #[true, true, true, true, true, true, true, true, true, false, false, false, false, false] ?_; refine S.tK 9 52 #[true, true, true, true, true, true, true, true, true, true, false, false, false, false] ?_; refine S.oN 10 53 #[true, true, true, true, true, true, true, true, true, true, true, false, false, false] (fun K hK => ?_); refine S.go Try.func85 #[.slice (some ad425) l0.length c0, .int .i64 (rd l1 x7_3)] ?_
                  with_reducible refine (spec_FindPath.calls k3 _ _ l0 (rd l1 x7_3) t427 _ ?s1 ?s2 A21.out).mono ?_
                  (case s1 => exact S.cA HR0.out); (case s2 => exact HC0.out); rintro e w' ⟨rfl, ⟨nd, rfl⟩⟩; refine ⟨_, rfl, ?_⟩; refine hK.out _ _ ⟨(S.hb HB hw425_0 :), (S.hb HB hw425_1 :), (S.hb HB hw425_2 :), (S.hb HB hw425_3 :), (S.hb HB hw426_0 :), (S.hb HB hw428_0 :), (S.hb HB hw428_1 :), (S.hb HB hw428_2 :), (S.hb HB hw428_3 :)⟩ (fun hHeld => ?_); clear hK K; refine S.nm 53 ?_; refine S.pS 11 54 ?_; refine S.tK 12 55 #[true, true, true, true, true, true, true, true, true, true, true, true, true, false] ?_; refine S.oN 13 56 #[true, true, true, true, true, true, true, true, true, true, true, true, true, true] (fun K hK => ?_); refine S.go Try.func113 #[.agg #[.int .i64 ((rd_T52 l0 t422).f0), .int .i64 ((rd_T52 l0 t422).f1), .int .i64 ((rd_T52 l0 t422).f2), .int .i64 ((rd_T52 l0 t422).f3)], .agg #[.int .i64 ((rd_T52 l0 t427).f0), .int .i64 ((rd_T52 l0 t427).f1), .int .i64 ((rd_T52 l0 t427).f2), .int .i64 ((rd_T52 l0 t427).f3)]] ?_
                  with_reducible refine (spec_Conflict.calls k3 ((rd_T52 l0 t422).f0) ((rd_T52 l0 t422).f1) ((rd_T52 l0 t422).f2) ((rd_T52 l0 t422).f3) ((rd_T52 l0 t427).f0) ((rd_T52 l0 t427).f1) ((rd_T52 l0 t427).f2) ((rd_T52 l0 t427).f3) false _ A24.out).mono ?_
                  rintro e w29 ⟨rfl, hb⟩; refine ⟨_, rfl, ?_⟩; replace HB := S.sA hb; (try clear hb); (try clear hb2); (try clear hk); (try clear hi); refine hK.out _ _ ⟨(S.hb HB hw425_0 :), (S.hb HB hw425_1 :), (S.hb HB hw425_2 :), (S.hb HB hw425_3 :), (S.hb HB hw426_0 :), (S.hb HB hw428_0 :), (S.hb HB hw428_1 :), (S.hb HB hw428_2 :), (S.hb HB hw428_3 :)⟩ (fun hHeld => ?_); clear hK K; refine S.nm 56 ?_; refine done_ (done_of HT_.out (by kernel_rfl)) ?_; try go_wp2
                  go_roundg k3
                  case measure => have := HK1.out; have := HJ5.out; have := HK3.out; omega
                  case rel => exact ⟨(wrap64 (x7_3 + 1)), S.eA, H', ⟨by have := HK1.out; have := HJ5.out; have := HK3.out; omega⟩, ⟨S.bA⟩⟩
                ·rw [if_neg c23] at H; exact absurd H (by simp)
               ·rw [if_neg c22] at H; exact absurd H (by simp)
              ·rw [if_neg c20] at H; exact absurd H (by simp)
             ·rw [if_neg c19] at H; exact absurd H (by simp)
            ·rw [if_neg c18] at H; exact absurd H (by simp)
           ·rw [if_neg c17] at H; exact absurd H (by simp)
          ·have H' := Aside0.mk H; clear H; go_wp2; go_roundg k3
           case measure => have := HK1.out; have := HJ5.out; have := HK3.out; omega
           case rel => exact ⟨(wrap64 (x5_1 + 1)), S.eA, H', ⟨by have := HK1.out; have := HJ5.out; have := HK3.out; omega⟩, ⟨S.bA⟩⟩
    ·rw [if_neg c4] at H; exact absurd H (by simp)
   ·replace H := Option.bind_eq_some_iff.mp H; obtain ⟨t420, A300, H⟩ := H; replace H : (some t420) = some r := H; have A30 := Aside0.mk A300; clear A300; obtain rfl := Option.some.inj H; go_wp2_with (first | ((with_reducible refine gate_callee (f := 109) rfl ?_); refine S.gL (some 58) Try.func109 #[.slice A0 l0.length c0] ?_; (with_reducible refine (spec_ArePaths.calls k1 _ _ l0 t420 _ ?s1 HC0.out A30.out).mono ?_); (case s1 => exact S.cA HR0.out); rintro e w31 ⟨rfl, hb⟩; refine ⟨_, rfl, ?_⟩; replace HB := S.sA hb; (try clear hb))); go_ret; exact ⟨S.eW, S.bA⟩
end Go.Proofs.Ytopchlafmfgpnaa.PFnSirens
