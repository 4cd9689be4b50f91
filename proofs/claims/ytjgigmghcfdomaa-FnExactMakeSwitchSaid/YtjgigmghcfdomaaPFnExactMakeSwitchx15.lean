/- Printed by a program: what the Go functions compute, as plain Lean functions (.f), and the proofs that the machine's calls come to just that (.calls). -/
import Derived.Test.YtjgigmghcfdomaaPFnExactMakeSwitchx0
import Derived.Test.YtjgigmghcfdomaaPFnExactMakeSwitchx14
namespace Go.Proofs.Ytjgigmghcfdomaa.PFnExactMakeSwitch
open Go.RowKit Go.Proofs.YtjgigmghcfdomaaW.PrintWords Go.Proofs.YtjgigmghcfdomaaW.PrintLast Go.Proofs.YtjgigmghcfdomaaW.PrintMore
attribute [local go_sem] max2_int min2_int max_two min_two max_three min_three max_four min_four   -- for this text's walks alone
set_option linter.unusedVariables false
set_option linter.unusedSimpArgs false

/-! ### impl_ArePaths: function 88 -/
def impl_ArePaths.l0 : Nat → List (S71) → List (S71) → Int → Int → Option (Bool)
 | 0, _, _, _, _ => none
 | k + 1, x0, x8, x9, x10 => if x10 < x9 then (if 0 ≤ x10 then (if x10 < (x8.length : Int) then ((impl_IsPath.f ((rd_T71 x8 x10).f0) ((rd_T71 x8 x10).f1) ((rd_T71 x8 x10).f2) ((rd_T71 x8 x10).f3)).bind fun t330 => (if t330 = true then (if x10 > 0 then (if 0 ≤ (wrap64 (x10 - 1)) then (if (wrap64 (x10 - 1)) < (x0.length : Int) then (if ((rd_T71 x8 x10).f0) ≤ ((rd_T71 x0 (wrap64 (x10 - 1))).f0) then (some false) else (impl_ArePaths.l0 k x0 x8 x9 (wrap64 (x10 + 1)))) else (none)) else (none)) else (impl_ArePaths.l0 k x0 x8 x9 (wrap64 (x10 + 1)))) else (some false))) else (none)) else (none)) else (some true)
def impl_ArePaths.f (k : Nat) (l0 : List (S71)) : Option (Bool) := if (l0.length : Int) > 12 then (some false) else (impl_ArePaths.l0 k l0 l0 (l0.length : Int) 0)
def impl_ArePaths.T6 : Bool × List (List Nat × List Nat) := (true, [([], []), ([0], [0]), ([1], [1]), ([2, 1], [2]), ([3], [3]), ([4, 3], [3, 4]), ([5, 3, 3], [3, 5]), ([6], [6]), ([7, 6], [6, 7]), ([6], [6]), ([6], [6]), ([10, 6], [6, 10]), ([9, 11, 6], [6, 9, 11]), ([12, 6], [6, 12]), ([13, 6], [6, 13]), ([8, 14, 6], [6, 8, 14]), ([6, 15, 3], [3, 6, 15]), ([3, 16], [3, 16])])
def impl_ArePaths.B6 : List Nat := [0, 1, 3, 7, 15, 31, 63, 127, 255, 127, 127, 1151, 3711, 7807, 15999, 32767, 65535, 131071]
theorem impl_ArePaths.tab6 : rtab .any (opsOf Try.f88 6) = impl_ArePaths.T6 := by kernel_rfl
theorem impl_ArePaths.bits6 : waitsOk impl_ArePaths.T6.2 impl_ArePaths.B6 = true := by kernel_rfl
set_option maxHeartbeats 8000000 in
set_option maxRecDepth 100000 in
theorem impl_ArePaths.calls (k : Nat) (A0 : Option Addr) (c0 : Nat) (l0 : List (S71)) (r : Bool) (w : World) (hr0 : Kd.C k71 w A0 l0.length l0) (hc0 : l0.length ≤ c0) (h : impl_ArePaths.f k l0 = some r) :
  Calls Try.prog 88 #[.slice A0 l0.length c0] w fun e w' => e = .returned (.bool r) ∧ Below w.heap.size w w' := by
 have hu71 := Try.underlying71
 have HR0 := Aside0.mk hr0
 have HC0 := Aside0.mk hc0
 clear hr0 hc0
 have HB := Aside0.mk (Below.refl w.heap.size w)
 have H : (if (l0.length : Int) > 12 then (some false) else (impl_ArePaths.l0 k l0 l0 (l0.length : Int) 0)) = some r := h
 clear h
 by_cases c2 : (l0.length : Int) > 12
 ·rw [if_pos c2] at H
  have c2b0 : decide (12 < (l0.length : Int)) = true := decide_eq_true c2
  have c2b1 : decide (12 < l0.length) = true := decide_eq_true (by omega)
  clear c2
  obtain rfl := Option.some.inj H
  go_enter Try.func88, Try.ntmps88
  go_wp2
  go_ret
  exact ⟨S.eW, S.bA⟩
 ·rw [if_neg c2] at H
  have c2b0 : decide (12 < (l0.length : Int)) = false := decide_eq_false c2
  have c2b1 : decide (12 < l0.length) = false := decide_eq_false (by omega)
  clear c2
  have H' := Aside0.mk H
  clear H
  go_enter Try.func88, Try.ntmps88
  go_wp2
  go_loopg [10] k (fun kq v10 w' => ∃ (x10_1 : Int), v10 = .int .i64 x10_1 ∧ Aside0 (impl_ArePaths.l0 kq l0 l0 (l0.length : Int) x10_1 = some r) ∧ Aside0 (kq ≤ k) ∧ Aside0 (Below w.heap.size w w'))
  case atStart => exact ⟨(0), S.eA, H', ⟨Nat.le_refl _⟩, ⟨S.bA⟩⟩
  case round =>
   clear H'
   try clear c2
   try clear c2b0
   try clear c2b1
   obtain ⟨x10_1, rfl, HA, HK1, HB⟩ := hrel
   cases gk with
   | zero => exact absurd HA.out (by simp [impl_ArePaths.l0])
   | succ k1 =>
    have H := HA.out
    clear HA
    simp only [impl_ArePaths.l0] at H
    replace H := S.dc H; rcases H with ⟨H, c3b0⟩ | ⟨H, c3b0⟩
    ·by_cases c4 : 0 ≤ x10_1
     ·rw [if_pos c4] at H
      have c4b0 : decide (0 ≤ x10_1) = true := decide_eq_true c4
      clear c4
      by_cases c5 : x10_1 < (l0.length : Int)
      ·rw [if_pos c5] at H
       have c5b0 : decide (x10_1 < (l0.length : Int)) = true := decide_eq_true c5
       clear c5
       replace H := S.bd H; obtain ⟨t330, A6, H⟩ := H
       (try dsimp only at H)
       replace H := S.db H; rcases H with ⟨rfl, H⟩ | ⟨rfl, H⟩
       ·by_cases c8 : x10_1 > 0
        ·rw [if_pos c8] at H
         have c8b0 : decide (0 < x10_1) = true := decide_eq_true c8
         clear c8
         obtain ⟨ji9, hji9⟩ : ∃ j_ : Int, (wrap64 (x10_1 - 1)) = j_ := ⟨_, rfl⟩
         replace H : (if 0 ≤ (ji9) then (if (ji9) < (l0.length : Int) then (if ((rd_T71 l0 x10_1).f0) ≤ ((rd_T71 l0 (ji9)).f0) then (some false) else (impl_ArePaths.l0 k1 l0 l0 (l0.length : Int) (wrap64 (x10_1 + 1)))) else (none)) else (none)) = some r := by first | (rw [hji9] at H; exact H) | (simp only [hji9] at H ⊢; exact H)
         (try rw [hji9] at A6)
         have hji9w : (IntKind.i64.wrap (x10_1 - 1)) = ji9 := (i64_w _).trans hji9
         by_cases c10 : 0 ≤ (ji9)
         ·rw [if_pos c10] at H
          have c10b0 : decide (0 ≤ (ji9)) = true := decide_eq_true c10
          clear c10
          by_cases c11 : (ji9) < (l0.length : Int)
          ·rw [if_pos c11] at H
           have c11b0 : decide ((ji9) < (l0.length : Int)) = true := decide_eq_true c11
           clear c11
           replace H := S.dc H; rcases H with ⟨H, c12b0⟩ | ⟨H, c12b0⟩
           ·obtain rfl := Option.some.inj H
            have p328 : 0 ≤ (x10_1 : Int) := S.oD
            have q328 : x10_1 < (l0.length : Int) := S.oD
            obtain ⟨ad328, e328, hx328_0, hx328_1, hx328_2, hx328_3⟩ := at_T71 HR0.out x10_1 p328 q328
            cases e328
            replace hx328_0 := S.hb HB hx328_0
            replace hx328_1 := S.hb HB hx328_1
            replace hx328_2 := S.hb HB hx328_2
            replace hx328_3 := S.hb HB hx328_3
            replace p328 := eq_true p328
            replace q328 := eq_true q328
            try go_wp2_with (first | ((with_reducible refine gate_dst (N := 4) rfl ?_); refine S.bx 4 (cs := #[.int .i64 0, .int .i64 0, .int .i64 0, .int .i64 0]) (t := 71) ?_; intro gb329 hg w13 hbox hb; have BK329 := Aside0.mk hbox; have GW329 := S.geA hg; have GE329 := S.geA hg; replace HB := S.sA hb; clear hb hbox hg; obtain ⟨Z14a, Z14b, Z14c, Z14d, Y14a, Y14b, Y14c, Y14d⟩ := S.c4 BK329.out))
            generalize hq_ : ((((w13.setCell ⟨gb329, 0, none⟩ (.int .i64 ((rd_T71 l0 x10_1).f0))).setCell ⟨gb329, 1, none⟩ (.int .i64 ((rd_T71 l0 x10_1).f1))).setCell ⟨gb329, 2, none⟩ (.int .i64 ((rd_T71 l0 x10_1).f2))).setCell ⟨gb329, 3, none⟩ (.int .i64 ((rd_T71 l0 x10_1).f3))) = w15
            replace BK329 := S.p4 hq_ BK329
            replace HB := S.bQ hq_
            clear hq_
            replace BK329 := Aside0.mk (blk_drew BK329.out)
            replace HB := Aside0.mk (below_drew1 HB.out)
            have p331 : 0 ≤ ((ji9) : Int) := S.oD
            have q331 : (ji9) < (l0.length : Int) := S.oD
            obtain ⟨ad331, e331, hx331_0, hx331_1, hx331_2, hx331_3⟩ := at_T71 HR0.out (ji9) p331 q331
            have hw331_3 := hx331_3
            have hw331_2 := hx331_2
            have hw331_1 := hx331_1
            have hw331_0 := hx331_0
            obtain rfl : ad328 = ad331 := (by injection e331)
            replace hx331_0 := S.hb HB hx331_0
            replace hx331_1 := S.hb HB hx331_1
            replace hx331_2 := S.hb HB hx331_2
            replace hx331_3 := S.hb HB hx331_3
            replace p331 := eq_true p331
            replace q331 := eq_true q331
            refine S.st (n := 18) (ds := []) #[false, false, false, false, false, false, false, false, false, false, false, false, false, false, false, false, false, false] (fun w_ h_ => have x_ := S.d4 (S.Q h_ BK329.out) (And.intro (S.q h_ (S.hb HB hw331_0)) (And.intro (S.q h_ (S.hb HB hw331_1)) (And.intro (S.q h_ (S.hb HB hw331_2)) (S.q h_ (S.hb HB hw331_3))))); x_) (fun hHeld => ?_); refine with_tabW impl_ArePaths.tab6 impl_ArePaths.bits6 (fun HT_ HW_ => ?_)
            generalize w15.drew = w16 at BK329 HB hx331_0 hx331_1 hx331_2 hx331_3 hHeld ⊢
            refine S.tK 0 15 #[true, false, false, false, false, false, false, false, false, false, false, false, false, false, false, false, false, false] ?_
            refine S.oN 1 16 #[true, true, false, false, false, false, false, false, false, false, false, false, false, false, false, false, false, false] (fun K hK => ?_)
            refine S.go Try.func117 #[.agg #[.int .i64 ((rd_T71 l0 x10_1).f0), .int .i64 ((rd_T71 l0 x10_1).f1), .int .i64 ((rd_T71 l0 x10_1).f2), .int .i64 ((rd_T71 l0 x10_1).f3)]] ?_
            with_reducible refine (impl_IsPath.calls ((rd_T71 l0 x10_1).f0) ((rd_T71 l0 x10_1).f1) ((rd_T71 l0 x10_1).f2) ((rd_T71 l0 x10_1).f3) true _ A6.out).mono ?_
            rintro e w17 ⟨rfl, hb⟩
            refine ⟨_, rfl, ?_⟩
            replace BK329 := S.kb BK329 hb
            replace HB := S.sG hb
            (try clear hb)
            (try clear hb2)
            (try clear hk)
            (try clear hi)
            refine hK.out _ _ (S.d4 BK329.out (And.intro ((S.hb HB hw331_0 :)) (And.intro ((S.hb HB hw331_1 :)) (And.intro ((S.hb HB hw331_2 :)) ((S.hb HB hw331_3 :)))))) (fun hHeld => ?_)
            clear hK K
            refine S.nm 16 ?_
            refine S.pS 2 17 ?_
            refine S.pS 3 18 ?_
            refine S.pS 4 19 ?_
            refine S.pS 5 20 ?_
            refine S.pS 6 21 ?_
            refine S.pS 7 22 ?_
            refine S.pS 9 24 ?_
            refine S.pS 10 25 ?_
            refine S.pS 11 26 ?_
            refine S.pS 12 27 ?_
            refine S.pS 13 28 ?_
            refine S.tK 8 23 #[true, true, true, true, true, true, true, true, true, true, true, true, true, true, false, false, false, false] ?_
            refine S.tK 14 29 #[true, true, true, true, true, true, true, true, true, true, true, true, true, true, true, false, false, false] ?_
            refine S.pS 15 30 ?_
            refine S.pS 16 31 ?_
            refine S.pS 17 32 ?_
            refine done_ (done_of HT_.out (by kernel_rfl)) ?_
            try go_wp2
            go_ret
            exact ⟨by first | rfl | (simp [errW_none, errW_some] <;> rfl) | (simp only [← hji9]; first | rfl | (simp [errW_none, errW_some] <;> rfl)) | (simp [*, errW_none, errW_some] <;> rfl), S.bG⟩
           ·have H' := Aside0.mk H
            clear H
            have p328 : 0 ≤ (x10_1 : Int) := S.oD
            have q328 : x10_1 < (l0.length : Int) := S.oD
            obtain ⟨ad328, e328, hx328_0, hx328_1, hx328_2, hx328_3⟩ := at_T71 HR0.out x10_1 p328 q328
            cases e328
            replace hx328_0 := S.hb HB hx328_0
            replace hx328_1 := S.hb HB hx328_1
            replace hx328_2 := S.hb HB hx328_2
            replace hx328_3 := S.hb HB hx328_3
            replace p328 := eq_true p328
            replace q328 := eq_true q328
            try go_wp2_with (first | ((with_reducible refine gate_dst (N := 4) rfl ?_); refine S.bx 4 (cs := #[.int .i64 0, .int .i64 0, .int .i64 0, .int .i64 0]) (t := 71) ?_; intro gb329 hg w18 hbox hb; have BK329 := Aside0.mk hbox; have GW329 := S.geA hg; have GE329 := S.geA hg; replace HB := S.sA hb; clear hb hbox hg; obtain ⟨Z19a, Z19b, Z19c, Z19d, Y19a, Y19b, Y19c, Y19d⟩ := S.c4 BK329.out))
            generalize hq_ : ((((w18.setCell ⟨gb329, 0, none⟩ (.int .i64 ((rd_T71 l0 x10_1).f0))).setCell ⟨gb329, 1, none⟩ (.int .i64 ((rd_T71 l0 x10_1).f1))).setCell ⟨gb329, 2, none⟩ (.int .i64 ((rd_T71 l0 x10_1).f2))).setCell ⟨gb329, 3, none⟩ (.int .i64 ((rd_T71 l0 x10_1).f3))) = w20
            replace BK329 := S.p4 hq_ BK329
            replace HB := S.bQ hq_
            clear hq_
            replace BK329 := Aside0.mk (blk_drew BK329.out)
            replace HB := Aside0.mk (below_drew1 HB.out)
            have p331 : 0 ≤ ((ji9) : Int) := S.oD
            have q331 : (ji9) < (l0.length : Int) := S.oD
            obtain ⟨ad331, e331, hx331_0, hx331_1, hx331_2, hx331_3⟩ := at_T71 HR0.out (ji9) p331 q331
            have hw331_3 := hx331_3
            have hw331_2 := hx331_2
            have hw331_1 := hx331_1
            have hw331_0 := hx331_0
            obtain rfl : ad328 = ad331 := (by injection e331)
            replace hx331_0 := S.hb HB hx331_0
            replace hx331_1 := S.hb HB hx331_1
            replace hx331_2 := S.hb HB hx331_2
            replace hx331_3 := S.hb HB hx331_3
            replace p331 := eq_true p331
            replace q331 := eq_true q331
            refine S.st (n := 18) (ds := []) #[false, false, false, false, false, false, false, false, false, false, false, false, false, false, false, false, false, false] (fun w_ h_ => have x_ := S.d4 (S.Q h_ BK329.out) (And.intro (S.q h_ (S.hb HB hw331_0)) (And.intro (S.q h_ (S.hb HB hw331_1)) (And.intro (S.q h_ (S.hb HB hw331_2)) (S.q h_ (S.hb HB hw331_3))))); x_) (fun hHeld => ?_); refine with_tabW impl_ArePaths.tab6 impl_ArePaths.bits6 (fun HT_ HW_ => ?_)
            generalize w20.drew = w21 at BK329 HB hx331_0 hx331_1 hx331_2 hx331_3 hHeld ⊢
            refine S.tK 0 15 #[true, false, false, false, false, false, false, false, false, false, false, false, false, false, false, false, false, false] ?_
            refine S.oN 1 16 #[true, true, false, false, false, false, false, false, false, false, false, false, false, false, false, false, false, false] (fun K hK => ?_)
            refine S.go Try.func117 #[.agg #[.int .i64 ((rd_T71 l0 x10_1).f0), .int .i64 ((rd_T71 l0 x10_1).f1), .int .i64 ((rd_T71 l0 x10_1).f2), .int .i64 ((rd_T71 l0 x10_1).f3)]] ?_
            with_reducible refine (impl_IsPath.calls ((rd_T71 l0 x10_1).f0) ((rd_T71 l0 x10_1).f1) ((rd_T71 l0 x10_1).f2) ((rd_T71 l0 x10_1).f3) true _ A6.out).mono ?_
            rintro e w22 ⟨rfl, hb⟩
            refine ⟨_, rfl, ?_⟩
            replace BK329 := S.kb BK329 hb
            replace HB := S.sG hb
            (try clear hb)
            (try clear hb2)
            (try clear hk)
            (try clear hi)
            refine hK.out _ _ (S.d4 BK329.out (And.intro ((S.hb HB hw331_0 :)) (And.intro ((S.hb HB hw331_1 :)) (And.intro ((S.hb HB hw331_2 :)) ((S.hb HB hw331_3 :)))))) (fun hHeld => ?_)
            clear hK K
            refine S.nm 16 ?_
            refine S.pS 2 17 ?_
            refine S.pS 3 18 ?_
            refine S.pS 4 19 ?_
            refine S.pS 5 20 ?_
            refine S.pS 6 21 ?_
            refine S.pS 7 22 ?_
            refine S.pS 9 24 ?_
            refine S.pS 10 25 ?_
            refine S.pS 11 26 ?_
            refine S.pS 12 27 ?_
            refine S.pS 13 28 ?_
            refine S.tK 8 23 #[true, true, true, true, true, true, true, true, true, true, true, true, true, true, false, false, false, false] ?_
            refine S.tK 14 29 #[true, true, true, true, true, true, true, true, true, true, true, true, true, true, true, false, false, false] ?_
            refine S.pS 15 30 ?_
            refine S.pS 16 31 ?_
            refine S.pS 17 32 ?_
            refine done_ (done_of HT_.out (by kernel_rfl)) ?_
            try go_wp2
            go_roundg k1
            case measure => have := HK1.out; omega
            case rel => exact ⟨(wrap64 (x10_1 + 1)), S.eA, H', ⟨by have := HK1.out; omega⟩, ⟨S.bG⟩⟩
          ·rw [if_neg c11] at H
           exact absurd H (by simp)
         ·rw [if_neg c10] at H
          exact absurd H (by simp)
        ·rw [if_neg c8] at H
         have c8b0 : decide (0 < x10_1) = false := decide_eq_false c8
         clear c8
         have H' := Aside0.mk H
         clear H
         have p328 : 0 ≤ (x10_1 : Int) := S.oD
         have q328 : x10_1 < (l0.length : Int) := S.oD
         obtain ⟨ad328, e328, hx328_0, hx328_1, hx328_2, hx328_3⟩ := at_T71 HR0.out x10_1 p328 q328
         cases e328
         replace hx328_0 := S.hb HB hx328_0
         replace hx328_1 := S.hb HB hx328_1
         replace hx328_2 := S.hb HB hx328_2
         replace hx328_3 := S.hb HB hx328_3
         replace p328 := eq_true p328
         replace q328 := eq_true q328
         try go_wp2_with (first | ((with_reducible refine gate_dst (N := 4) rfl ?_); refine S.bx 4 (cs := #[.int .i64 0, .int .i64 0, .int .i64 0, .int .i64 0]) (t := 71) ?_; intro gb329 hg w23 hbox hb; have BK329 := Aside0.mk hbox; have GW329 := S.geA hg; have GE329 := S.geA hg; replace HB := S.sA hb; clear hb hbox hg; obtain ⟨Z24a, Z24b, Z24c, Z24d, Y24a, Y24b, Y24c, Y24d⟩ := S.c4 BK329.out))
         generalize hq_ : ((((w23.setCell ⟨gb329, 0, none⟩ (.int .i64 ((rd_T71 l0 x10_1).f0))).setCell ⟨gb329, 1, none⟩ (.int .i64 ((rd_T71 l0 x10_1).f1))).setCell ⟨gb329, 2, none⟩ (.int .i64 ((rd_T71 l0 x10_1).f2))).setCell ⟨gb329, 3, none⟩ (.int .i64 ((rd_T71 l0 x10_1).f3))) = w25
         replace BK329 := S.p4 hq_ BK329
         replace HB := S.bQ hq_
         clear hq_
         replace BK329 := Aside0.mk (blk_drew BK329.out)
         replace HB := Aside0.mk (below_drew1 HB.out)
         refine S.st (n := 18) (ds := []) #[false, false, false, false, false, false, false, false, false, false, false, false, false, false, false, false, false, false] (fun w_ h_ => have x_ := S.e4 (S.Q h_ BK329.out); x_) (fun hHeld => ?_); refine with_tabW impl_ArePaths.tab6 impl_ArePaths.bits6 (fun HT_ HW_ => ?_)
         generalize w25.drew = w26 at BK329 HB hHeld ⊢
         refine S.tK 0 15 #[true, false, false, false, false, false, false, false, false, false, false, false, false, false, false, false, false, false] ?_
         refine S.oN 1 16 #[true, true, false, false, false, false, false, false, false, false, false, false, false, false, false, false, false, false] (fun K hK => ?_)
         refine S.go Try.func117 #[.agg #[.int .i64 ((rd_T71 l0 x10_1).f0), .int .i64 ((rd_T71 l0 x10_1).f1), .int .i64 ((rd_T71 l0 x10_1).f2), .int .i64 ((rd_T71 l0 x10_1).f3)]] ?_
         with_reducible refine (impl_IsPath.calls ((rd_T71 l0 x10_1).f0) ((rd_T71 l0 x10_1).f1) ((rd_T71 l0 x10_1).f2) ((rd_T71 l0 x10_1).f3) true _ A6.out).mono ?_
         rintro e w27 ⟨rfl, hb⟩
         refine ⟨_, rfl, ?_⟩
         replace BK329 := S.kb BK329 hb
         replace HB := S.sG hb
         (try clear hb)
         (try clear hb2)
         (try clear hk)
         (try clear hi)
         refine hK.out _ _ (S.e4 BK329.out) (fun hHeld => ?_)
         clear hK K
         refine S.nm 16 ?_
         refine S.pS 2 17 ?_
         refine S.pS 3 18 ?_
         refine S.pS 4 19 ?_
         refine S.pS 5 20 ?_
         refine S.pS 6 21 ?_
         refine S.pU 7 22 ?_
         refine S.pU 8 23 ?_
         refine S.pU 9 24 ?_
         refine S.pU 10 25 ?_
         refine S.pU 11 26 ?_
         refine S.pU 12 27 ?_
         refine S.pU 13 28 ?_
         refine S.pU 14 29 ?_
         refine S.pU 15 30 ?_
         refine S.pS 16 31 ?_
         refine S.pS 17 32 ?_
         refine done_ (done_of HT_.out (by kernel_rfl)) ?_
         try go_wp2
         go_roundg k1
         case measure => have := HK1.out; omega
         case rel => exact ⟨(wrap64 (x10_1 + 1)), S.eA, H', ⟨by have := HK1.out; omega⟩, ⟨S.bG⟩⟩
       ·obtain rfl := Option.some.inj H
        have p328 : 0 ≤ (x10_1 : Int) := S.oD
        have q328 : x10_1 < (l0.length : Int) := S.oD
        obtain ⟨ad328, e328, hx328_0, hx328_1, hx328_2, hx328_3⟩ := at_T71 HR0.out x10_1 p328 q328
        cases e328
        replace hx328_0 := S.hb HB hx328_0
        replace hx328_1 := S.hb HB hx328_1
        replace hx328_2 := S.hb HB hx328_2
        replace hx328_3 := S.hb HB hx328_3
        replace p328 := eq_true p328
        replace q328 := eq_true q328
        try go_wp2_with (first | ((with_reducible refine gate_dst (N := 4) rfl ?_); refine S.bx 4 (cs := #[.int .i64 0, .int .i64 0, .int .i64 0, .int .i64 0]) (t := 71) ?_; intro gb329 hg w28 hbox hb; have BK329 := Aside0.mk hbox; have GW329 := S.geA hg; have GE329 := S.geA hg; replace HB := S.sA hb; clear hb hbox hg; obtain ⟨Z29a, Z29b, Z29c, Z29d, Y29a, Y29b, Y29c, Y29d⟩ := S.c4 BK329.out))
        generalize hq_ : ((((w28.setCell ⟨gb329, 0, none⟩ (.int .i64 ((rd_T71 l0 x10_1).f0))).setCell ⟨gb329, 1, none⟩ (.int .i64 ((rd_T71 l0 x10_1).f1))).setCell ⟨gb329, 2, none⟩ (.int .i64 ((rd_T71 l0 x10_1).f2))).setCell ⟨gb329, 3, none⟩ (.int .i64 ((rd_T71 l0 x10_1).f3))) = w30
        replace BK329 := S.p4 hq_ BK329
        replace HB := S.bQ hq_
        clear hq_
        replace BK329 := Aside0.mk (blk_drew BK329.out)
        replace HB := Aside0.mk (below_drew1 HB.out)
        refine S.st (n := 18) (ds := []) #[false, false, false, false, false, false, false, false, false, false, false, false, false, false, false, false, false, false] (fun w_ h_ => have x_ := S.e4 (S.Q h_ BK329.out); x_) (fun hHeld => ?_); refine with_tabW impl_ArePaths.tab6 impl_ArePaths.bits6 (fun HT_ HW_ => ?_)
        generalize w30.drew = w31 at BK329 HB hHeld ⊢
        refine S.tK 0 15 #[true, false, false, false, false, false, false, false, false, false, false, false, false, false, false, false, false, false] ?_
        refine S.oN 1 16 #[true, true, false, false, false, false, false, false, false, false, false, false, false, false, false, false, false, false] (fun K hK => ?_)
        refine S.go Try.func117 #[.agg #[.int .i64 ((rd_T71 l0 x10_1).f0), .int .i64 ((rd_T71 l0 x10_1).f1), .int .i64 ((rd_T71 l0 x10_1).f2), .int .i64 ((rd_T71 l0 x10_1).f3)]] ?_
        with_reducible refine (impl_IsPath.calls ((rd_T71 l0 x10_1).f0) ((rd_T71 l0 x10_1).f1) ((rd_T71 l0 x10_1).f2) ((rd_T71 l0 x10_1).f3) false _ A6.out).mono ?_
        rintro e w32 ⟨rfl, hb⟩
        refine ⟨_, rfl, ?_⟩
        replace BK329 := S.kb BK329 hb
        replace HB := S.sG hb
        (try clear hb)
        (try clear hb2)
        (try clear hk)
        (try clear hi)
        refine hK.out _ _ (S.e4 BK329.out) (fun hHeld => ?_)
        clear hK K
        refine S.nm 16 ?_
        refine S.pS 2 17 ?_
        refine S.pS 3 18 ?_
        refine S.pU 4 19 ?_
        refine S.pU 5 20 ?_
        refine S.pU 6 21 ?_
        refine S.pU 7 22 ?_
        refine S.pU 8 23 ?_
        refine S.pU 9 24 ?_
        refine S.pU 10 25 ?_
        refine S.pU 11 26 ?_
        refine S.pU 12 27 ?_
        refine S.pU 13 28 ?_
        refine S.pU 14 29 ?_
        refine S.pU 15 30 ?_
        refine S.pU 16 31 ?_
        refine S.pS 17 32 ?_
        refine done_ (done_of HT_.out (by kernel_rfl)) ?_
        try go_wp2
        go_ret
        exact ⟨S.eW, S.bG⟩
      ·rw [if_neg c5] at H
       exact absurd H (by simp)
     ·rw [if_neg c4] at H
      exact absurd H (by simp)
    ·obtain rfl := Option.some.inj H
     go_wp2
     go_ret
     exact ⟨S.eW, S.bA⟩

end Go.Proofs.Ytjgigmghcfdomaa.PFnExactMakeSwitch
