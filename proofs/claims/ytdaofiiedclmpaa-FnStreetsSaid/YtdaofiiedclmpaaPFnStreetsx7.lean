/- Printed by a program: what the Go functions compute, as plain Lean functions (.f), and the proofs that the machine's calls come to just that (.calls). -/
import Derived.Test.YtdaofiiedclmpaaPFnStreetsx0
import Derived.Test.YtdaofiiedclmpaaPFnStreetsx2
import Derived.Test.YtdaofiiedclmpaaPFnStreetsx3
import Derived.Test.YtdaofiiedclmpaaPFnStreetsx4
import Derived.Test.YtdaofiiedclmpaaPFnStreetsx6
namespace Go.Proofs.Ytdaofiiedclmpaa.PFnStreets
open Go.RowKit Go.Proofs.YtdaofiiedclmpaaW.PrintWords Go.Proofs.YtdaofiiedclmpaaW.PrintLast Go.Proofs.YtdaofiiedclmpaaW.PrintMore
attribute [local go_sem] max2_int min2_int max_two min_two max_three min_three max_four min_four   -- for this text's walks alone
set_option linter.unusedVariables false
set_option linter.unusedSimpArgs false

/-! ### laws_FnStreets: function 9 -/
mutual
def laws_FnStreets.j1 : Nat → List Int → Option (Bool)
 | 0, _ => none
 | k + 1, x0 => (spec_DrawChainTravel.f k x0).bind fun bt378 => ((impl_ChainTravel.f k bt378.1 bt378.2).bind fun t384 => ((impl_IsChain.f k bt378.1 bt378.2).bind fun t387 => (if (t387 != (decide ((t384.length : Int) > 0))) = true then (some false) else (laws_FnStreets.l1 k bt378.1 bt378.2 t384 0))))
def laws_FnStreets.l1 : Nat → List (S47) → List Int → List Int → Int → Option (Bool)
 | 0, _, _, _, _ => none
 | k + 1, x10, x11, x12, x13 => if x13 < (x12.length : Int) then (if 0 < (x11.length : Int) then (if 0 ≤ x13 then (if x13 < (x11.length : Int) then ((impl_Travel.f k x10 (rd x11 0) (rd x11 x13)).bind fun t390 => (if t390 < 0 then (some false) else (if t390 > (rd x12 x13) then (some false) else (if x13 > 0 then (if 0 ≤ (wrap64 (x13 - 1)) then (if (wrap64 (x13 - 1)) < (x11.length : Int) then ((impl_StreetsFrom.f k x10 (rd x11 (wrap64 (x13 - 1)))).bind fun t393 => ((laws_contains.f k t393 (rd x11 x13)).bind fun t397 => (if t397 = true then (laws_FnStreets.l1 k x10 x11 x12 (wrap64 (x13 + 1))) else (some false)))) else (none)) else (none)) else (laws_FnStreets.l1 k x10 x11 x12 (wrap64 (x13 + 1))))))) else (none)) else (none)) else (none)) else (some true)
def laws_FnStreets.l0 : Nat → List Int → List (S47) → Int → Int → Int → Int → Option (Bool)
 | 0, _, _, _, _, _, _ => none
 | k + 1, x0, x3, x4, x5, x6, x7 => if x7 < (x3.length : Int) then (if 0 ≤ x7 then ((impl_Travel.f k x3 x4 ((rd_T47 x3 x7).f0)).bind fun t370 => ((impl_Travel.f k x3 x4 ((rd_T47 x3 x7).f1)).bind fun t372 => (if t370 ≥ 0 then (if t372 < 0 then (some false) else (if t372 > (wrap64 (t370 + ((rd_T47 x3 x7).f2))) then (some false) else (laws_FnStreets.l0 k x0 x3 x4 x5 x6 (wrap64 (x7 + 1))))) else (laws_FnStreets.l0 k x0 x3 x4 x5 x6 (wrap64 (x7 + 1)))))) else (none)) else ((impl_ReachedIn.f k x3 x4 x6).bind fun t374 => ((laws_contains.f k t374 x5).bind fun t377 => (if t377 = true then (if x4 = x5 then (if x6 = 0 then (laws_FnStreets.j1 k x0) else (some false)) else (laws_FnStreets.j1 k x0)) else (some false))))
end
def laws_FnStreets.f (k : Nat) (l0 : List Int) : Option (Bool) := (laws_big.f l0).bind fun t362 => (if t362 = true then (some true) else ((spec_DrawTravel.f k l0).bind fun bt363 => ((impl_Travel.f k bt363.1 bt363.2.1 bt363.2.2).bind fun t368 => (if t368 ≥ 0 then (laws_FnStreets.l0 k l0 bt363.1 bt363.2.1 bt363.2.2 t368 0) else (laws_FnStreets.j1 k l0)))))
def laws_FnStreets.T22 : Bool × List (List Nat × List Nat) := (true, [([], []), ([], []), ([1], [1]), ([2], [2]), ([], []), ([], []), ([4, 5], [4, 5]), ([6], [6]), ([0, 3, 7], [0, 3, 7]), ([8, 8, 0, 1, 2, 3, 4, 5, 6, 7, 8], [8])])
def laws_FnStreets.B22 : List Nat := [0, 0, 2, 6, 0, 0, 48, 112, 255, 511]
theorem laws_FnStreets.tab22 : rtab .any (opsOf Try.f9 22) = laws_FnStreets.T22 := by kernel_rfl
theorem laws_FnStreets.bits22 : waitsOk laws_FnStreets.T22.2 laws_FnStreets.B22 = true := by kernel_rfl
def laws_FnStreets.T23 : Bool × List (List Nat × List Nat) := (true, [([], []), ([0], [0]), ([1], [1]), ([2], [2]), ([2], [2]), ([2], [2]), ([4, 5, 2], [2, 4, 5]), ([6, 2], [2, 6]), ([3, 7, 2], [2, 3, 7]), ([2, 8], [2, 8]), ([9, 2], [9]), ([10], [10]), ([11, 10], [10, 11]), ([12, 10, 10], [10, 12]), ([13], [13]), ([13], [13]), ([13], [13]), ([16, 13], [13, 16]), ([15, 17, 13], [13, 15, 17]), ([18, 13], [13, 18]), ([14, 19, 13, 13], [13, 14, 19]), ([13], [13]), ([13], [13]), ([21, 22, 13], [13, 21, 22]), ([23, 13], [13, 23]), ([20, 24, 20, 13], [13, 20, 24]), ([25, 13], [13, 25]), ([13, 26, 10], [10, 13, 26]), ([10, 27], [10, 27])])
def laws_FnStreets.B23 : List Nat := [0, 1, 3, 7, 7, 7, 55, 119, 255, 511, 1023, 2047, 4095, 8191, 16383, 16383, 16383, 81919, 245759, 507903, 1048575, 16383, 16383, 6307839, 14696447, 33554431, 67108863, 134217727, 268435455]
theorem laws_FnStreets.tab23 : rtab .any (opsOf Try.f9 23) = laws_FnStreets.T23 := by kernel_rfl
theorem laws_FnStreets.bits23 : waitsOk laws_FnStreets.T23.2 laws_FnStreets.B23 = true := by kernel_rfl
set_option maxHeartbeats 8000000 in
set_option maxRecDepth 100000 in
theorem laws_FnStreets.calls (k : Nat) (A0 : Option Addr) (c0 : Nat) (l0 : List Int) (r : Bool) (w : World) (hr0 : Kd.C (Kd.int .u8) w A0 l0.length l0) (hc0 : l0.length ≤ c0) (h : laws_FnStreets.f k l0 = some r) :
  Calls Try.prog 9 #[.slice A0 l0.length c0] w fun e w' => e = .returned (.bool r) ∧ Below w.heap.size w w' := by
 have HR0 := Aside0.mk hr0
 have HC0 := Aside0.mk hc0
 clear hr0 hc0
 have HB := Aside0.mk (Below.refl w.heap.size w)
 have H : ((laws_big.f l0).bind fun t362 => (if t362 = true then (some true) else ((spec_DrawTravel.f k l0).bind fun bt363 => ((impl_Travel.f k bt363.1 bt363.2.1 bt363.2.2).bind fun t368 => (if t368 ≥ 0 then (laws_FnStreets.l0 k l0 bt363.1 bt363.2.1 bt363.2.2 t368 0) else (laws_FnStreets.j1 k l0)))))) = some r := h
 clear h
 replace H := S.bd H; obtain ⟨t362, A2, H⟩ := H
 (try dsimp only at H)
 replace H := S.db H; rcases H with ⟨rfl, H⟩ | ⟨rfl, H⟩
 ·obtain rfl := Option.some.inj H
  go_enter Try.func9, Try.ntmps9
  go_wp2_with (first | ((with_reducible refine gate_callee (f := 35) rfl ?_); refine S.gL (some 16) Try.func35 #[.slice A0 l0.length c0] ?_; (with_reducible refine (laws_big.calls _ _ l0 true _ ?s1 HC0.out A2.out).mono ?_); (case s1 => repeat (first | exact HR0.out | (with_reducible refine Kd.C_alloc ?_ _) | (with_reducible refine Kd.C_drewN ?_ _) | (with_reducible refine Kd.C_drew ?_))); rintro e w' ⟨rfl, ⟨nd, rfl⟩⟩; refine ⟨_, rfl, ?_⟩))
  go_ret
  exact ⟨S.eW, S.bA⟩
 ·replace H := S.bd H; obtain ⟨⟨t363, t364, t365⟩, A4, H⟩ := H
  (try dsimp only at H)
  replace H := S.bd H; obtain ⟨t368, A5, H⟩ := H
  (try dsimp only at H)
  have HC6 := Aside0.mk H
  clear H
  go_enter Try.func9, Try.ntmps9
  go_upto_if 28 with (first | ((with_reducible refine gate_callee (f := 35) rfl ?_); refine S.gL (some 16) Try.func35 #[.slice A0 l0.length c0] ?_; (with_reducible refine (laws_big.calls _ _ l0 false _ ?s1 HC0.out A2.out).mono ?_); (case s1 => repeat (first | exact HR0.out | (with_reducible refine Kd.C_alloc ?_ _) | (with_reducible refine Kd.C_drewN ?_ _) | (with_reducible refine Kd.C_drew ?_))); rintro e w' ⟨rfl, ⟨nd, rfl⟩⟩; refine ⟨_, rfl, ?_⟩) | ((with_reducible refine gate_callee (f := 36) rfl ?_); refine S.gL (some 19) Try.func36 #[.slice A0 l0.length c0] ?_; (with_reducible refine (spec_DrawTravel.calls k _ _ l0 t363 t364 t365 _ ?s1 HC0.out A4.out).mono ?_); (case s1 => repeat (first | exact HR0.out | (with_reducible refine Kd.C_alloc ?_ _) | (with_reducible refine Kd.C_drewN ?_ _) | (with_reducible refine Kd.C_drew ?_))); rintro e w7 ⟨v366, rfl, ho0, hb⟩; refine ⟨_, rfl, ?_⟩; have HO367 := S.lwA ho0; replace HB := S.sA hb; (try clear hb); (try clear ho0); obtain ⟨Ao8, co8, eo8⟩ := Kd.R_slice HO367.out; subst eo8) | ((with_reducible refine gate_callee (f := 21) rfl ?_); refine S.gL (some 26) Try.func21 #[.slice Ao8 t363.length co8, .int .i64 t364, .int .i64 t365] ?_; (with_reducible refine (impl_Travel.calls k _ _ t363 t364 t365 t368 _ ?s1 (S.rl HO367) A5.out).mono ?_); (case s1 => exact S.rd HO367); rintro e w9 ⟨rfl, hb⟩; refine ⟨_, rfl, ?_⟩; replace HO367 := S.rb HO367 hb; replace HB := S.sA hb; (try clear hb)))
  (try simp only [Act.put, List.setIfInBounds_toArray, List.set_cons_zero, List.set_cons_succ])
  go_cut [] (fun wc => ∃ (kq : Nat), Aside0 (laws_FnStreets.j1 kq l0 = some r) ∧ Aside0 (kq ≤ k) ∧ Aside0 (Below w.heap.size w wc))
  case first =>
   have H := HC6.out
   clear HC6
   by_cases c10 : t368 ≥ 0
   ·rw [if_pos c10] at H
    have c10b0 : decide (0 ≤ t368) = true := decide_eq_true c10
    clear c10
    (first | rw [c10b0] | (simp only [i64_w, i32_w]; rw [c10b0]) | skip)
    have H' := Aside0.mk H
    clear H
    go_wp2
    go_loopg [7] k (fun kq v7 w' => ∃ (x7_1 : Int), v7 = .int .i64 x7_1 ∧ Aside0 (laws_FnStreets.l0 kq l0 t363 t364 t365 t368 x7_1 = some r) ∧ Aside0 (kq ≤ k) ∧ Aside0 (Kd.R k47 47 w' w.heap.size (fun _ => True) (.slice Ao8 t363.length co8) t363) ∧ Aside0 (Below w.heap.size w w'))
    case atStart => exact ⟨(0), S.eA, H', ⟨Nat.le_refl _⟩, ⟨S.uR HO367.out⟩, ⟨S.bA⟩⟩
    case round =>
     clear H'
     try clear c3
     try clear c10
     try clear c10b0
     obtain ⟨x7_1, rfl, HA, HK1, HO_3, HB⟩ := hrel
     cases gk with
     | zero => exact absurd HA.out (by simp [laws_FnStreets.l0])
     | succ k1 =>
      have H := HA.out
      clear HA
      simp only [laws_FnStreets.l0] at H
      replace H := S.dc H; rcases H with ⟨H, c11b0⟩ | ⟨H, c11b0⟩
      ·by_cases c12 : 0 ≤ x7_1
       ·rw [if_pos c12] at H
        have c12b0 : decide (0 ≤ x7_1) = true := decide_eq_true c12
        clear c12
        replace H := S.bd H; obtain ⟨t370, A13, H⟩ := H
        (try dsimp only at H)
        replace H := S.bd H; obtain ⟨t372, A14, H⟩ := H
        (try dsimp only at H)
        by_cases c15 : t370 ≥ 0
        ·rw [if_pos c15] at H
         have c15b0 : decide (0 ≤ t370) = true := decide_eq_true c15
         clear c15
         replace H := S.dc H; rcases H with ⟨H, c16b0⟩ | ⟨H, c16b0⟩
         ·obtain rfl := Option.some.inj H
          have p369 : 0 ≤ (x7_1 : Int) := S.oD
          have q369 : x7_1 < (t363.length : Int) := S.oD
          obtain ⟨ad369, e369, hx369_0, hx369_1, hx369_2⟩ := at_T47 (Kd.R_reads' HO_3.out).2.2 x7_1 p369 q369
          cases e369
          replace p369 := eq_true p369
          replace q369 := eq_true q369
          go_wp2_with (first | ((with_reducible refine gate_callee (f := 21) rfl ?_); refine S.gL (some 42) Try.func21 #[.slice (some ad369) t363.length co8, .int .i64 t364, .int .i64 ((rd_T47 t363 x7_1).f0)] ?_; (with_reducible refine (impl_Travel.calls k1 _ _ t363 t364 ((rd_T47 t363 x7_1).f0) t370 _ ?s1 (S.rl HO_3) A13.out).mono ?_); (case s1 => exact S.rd HO_3); rintro e w17 ⟨rfl, hb⟩; refine ⟨_, rfl, ?_⟩; replace HO_3 := S.rb HO_3 hb; replace HB := S.sA hb; (try clear hb); have p371 : 0 ≤ (x7_1 : Int) := S.oD; have q371 : x7_1 < (t363.length : Int) := S.oD; obtain ⟨ad371, e371, hx371_0, hx371_1, hx371_2⟩ := at_T47 (Kd.R_reads' HO_3.out).2.2 x7_1 p371 q371; obtain rfl : ad369 = ad371 := (by injection e371); replace p371 := eq_true p371; replace q371 := eq_true q371) | ((with_reducible refine gate_callee (f := 21) rfl ?_); refine S.gL (some 50) Try.func21 #[.slice (some ad369) t363.length co8, .int .i64 t364, .int .i64 ((rd_T47 t363 x7_1).f1)] ?_; (with_reducible refine (impl_Travel.calls k1 _ _ t363 t364 ((rd_T47 t363 x7_1).f1) t372 _ ?s1 (S.rl HO_3) A14.out).mono ?_); (case s1 => exact S.rd HO_3); rintro e w18 ⟨rfl, hb⟩; refine ⟨_, rfl, ?_⟩; replace HO_3 := S.rb HO_3 hb; replace HB := S.sA hb; (try clear hb)))
          go_ret
          exact ⟨S.eW, S.bA⟩
         ·by_cases c19 : t372 > (wrap64 (t370 + ((rd_T47 t363 x7_1).f2)))
          ·rw [if_pos c19] at H
           have c19b0 : decide ((wrap64 (t370 + ((rd_T47 t363 x7_1).f2))) < t372) = true := decide_eq_true c19
           clear c19
           obtain rfl := Option.some.inj H
           have p369 : 0 ≤ (x7_1 : Int) := S.oD
           have q369 : x7_1 < (t363.length : Int) := S.oD
           obtain ⟨ad369, e369, hx369_0, hx369_1, hx369_2⟩ := at_T47 (Kd.R_reads' HO_3.out).2.2 x7_1 p369 q369
           cases e369
           replace p369 := eq_true p369
           replace q369 := eq_true q369
           go_wp2_with (first | ((with_reducible refine gate_callee (f := 21) rfl ?_); refine S.gL (some 42) Try.func21 #[.slice (some ad369) t363.length co8, .int .i64 t364, .int .i64 ((rd_T47 t363 x7_1).f0)] ?_; (with_reducible refine (impl_Travel.calls k1 _ _ t363 t364 ((rd_T47 t363 x7_1).f0) t370 _ ?s1 (S.rl HO_3) A13.out).mono ?_); (case s1 => exact S.rd HO_3); rintro e w20 ⟨rfl, hb⟩; refine ⟨_, rfl, ?_⟩; replace HO_3 := S.rb HO_3 hb; replace HB := S.sA hb; (try clear hb); have p371 : 0 ≤ (x7_1 : Int) := S.oD; have q371 : x7_1 < (t363.length : Int) := S.oD; obtain ⟨ad371, e371, hx371_0, hx371_1, hx371_2⟩ := at_T47 (Kd.R_reads' HO_3.out).2.2 x7_1 p371 q371; obtain rfl : ad369 = ad371 := (by injection e371); replace p371 := eq_true p371; replace q371 := eq_true q371) | ((with_reducible refine gate_callee (f := 21) rfl ?_); refine S.gL (some 50) Try.func21 #[.slice (some ad369) t363.length co8, .int .i64 t364, .int .i64 ((rd_T47 t363 x7_1).f1)] ?_; (with_reducible refine (impl_Travel.calls k1 _ _ t363 t364 ((rd_T47 t363 x7_1).f1) t372 _ ?s1 (S.rl HO_3) A14.out).mono ?_); (case s1 => exact S.rd HO_3); rintro e w21 ⟨rfl, hb⟩; refine ⟨_, rfl, ?_⟩; replace HO_3 := S.rb HO_3 hb; replace HB := S.sA hb; (try clear hb); have p373 : 0 ≤ (x7_1 : Int) := S.oD; have q373 : x7_1 < (t363.length : Int) := S.oD; obtain ⟨ad373, e373, hx373_0, hx373_1, hx373_2⟩ := at_T47 (Kd.R_reads' HO_3.out).2.2 x7_1 p373 q373; obtain rfl : ad369 = ad373 := (by injection e373); replace p373 := eq_true p373; replace q373 := eq_true q373))
           go_ret
           exact ⟨S.eW, S.bA⟩
          ·rw [if_neg c19] at H
           have c19b0 : decide ((wrap64 (t370 + ((rd_T47 t363 x7_1).f2))) < t372) = false := decide_eq_false c19
           clear c19
           have H' := Aside0.mk H
           clear H
           have p369 : 0 ≤ (x7_1 : Int) := S.oD
           have q369 : x7_1 < (t363.length : Int) := S.oD
           obtain ⟨ad369, e369, hx369_0, hx369_1, hx369_2⟩ := at_T47 (Kd.R_reads' HO_3.out).2.2 x7_1 p369 q369
           cases e369
           replace p369 := eq_true p369
           replace q369 := eq_true q369
           go_wp2_with (first | ((with_reducible refine gate_callee (f := 21) rfl ?_); refine S.gL (some 42) Try.func21 #[.slice (some ad369) t363.length co8, .int .i64 t364, .int .i64 ((rd_T47 t363 x7_1).f0)] ?_; (with_reducible refine (impl_Travel.calls k1 _ _ t363 t364 ((rd_T47 t363 x7_1).f0) t370 _ ?s1 (S.rl HO_3) A13.out).mono ?_); (case s1 => exact S.rd HO_3); rintro e w22 ⟨rfl, hb⟩; refine ⟨_, rfl, ?_⟩; replace HO_3 := S.rb HO_3 hb; replace HB := S.sA hb; (try clear hb); have p371 : 0 ≤ (x7_1 : Int) := S.oD; have q371 : x7_1 < (t363.length : Int) := S.oD; obtain ⟨ad371, e371, hx371_0, hx371_1, hx371_2⟩ := at_T47 (Kd.R_reads' HO_3.out).2.2 x7_1 p371 q371; obtain rfl : ad369 = ad371 := (by injection e371); replace p371 := eq_true p371; replace q371 := eq_true q371) | ((with_reducible refine gate_callee (f := 21) rfl ?_); refine S.gL (some 50) Try.func21 #[.slice (some ad369) t363.length co8, .int .i64 t364, .int .i64 ((rd_T47 t363 x7_1).f1)] ?_; (with_reducible refine (impl_Travel.calls k1 _ _ t363 t364 ((rd_T47 t363 x7_1).f1) t372 _ ?s1 (S.rl HO_3) A14.out).mono ?_); (case s1 => exact S.rd HO_3); rintro e w23 ⟨rfl, hb⟩; refine ⟨_, rfl, ?_⟩; replace HO_3 := S.rb HO_3 hb; replace HB := S.sA hb; (try clear hb); have p373 : 0 ≤ (x7_1 : Int) := S.oD; have q373 : x7_1 < (t363.length : Int) := S.oD; obtain ⟨ad373, e373, hx373_0, hx373_1, hx373_2⟩ := at_T47 (Kd.R_reads' HO_3.out).2.2 x7_1 p373 q373; obtain rfl : ad369 = ad373 := (by injection e373); replace p373 := eq_true p373; replace q373 := eq_true q373))
           go_roundg k1
           case measure => have := HK1.out; omega
           case rel => exact ⟨(wrap64 (x7_1 + 1)), S.eA, H', ⟨by have := HK1.out; omega⟩, ⟨S.uR HO_3.out⟩, ⟨S.bA⟩⟩
        ·rw [if_neg c15] at H
         have c15b0 : decide (0 ≤ t370) = false := decide_eq_false c15
         clear c15
         have H' := Aside0.mk H
         clear H
         have p369 : 0 ≤ (x7_1 : Int) := S.oD
         have q369 : x7_1 < (t363.length : Int) := S.oD
         obtain ⟨ad369, e369, hx369_0, hx369_1, hx369_2⟩ := at_T47 (Kd.R_reads' HO_3.out).2.2 x7_1 p369 q369
         cases e369
         replace p369 := eq_true p369
         replace q369 := eq_true q369
         go_wp2_with (first | ((with_reducible refine gate_callee (f := 21) rfl ?_); refine S.gL (some 42) Try.func21 #[.slice (some ad369) t363.length co8, .int .i64 t364, .int .i64 ((rd_T47 t363 x7_1).f0)] ?_; (with_reducible refine (impl_Travel.calls k1 _ _ t363 t364 ((rd_T47 t363 x7_1).f0) t370 _ ?s1 (S.rl HO_3) A13.out).mono ?_); (case s1 => exact S.rd HO_3); rintro e w24 ⟨rfl, hb⟩; refine ⟨_, rfl, ?_⟩; replace HO_3 := S.rb HO_3 hb; replace HB := S.sA hb; (try clear hb); have p371 : 0 ≤ (x7_1 : Int) := S.oD; have q371 : x7_1 < (t363.length : Int) := S.oD; obtain ⟨ad371, e371, hx371_0, hx371_1, hx371_2⟩ := at_T47 (Kd.R_reads' HO_3.out).2.2 x7_1 p371 q371; obtain rfl : ad369 = ad371 := (by injection e371); replace p371 := eq_true p371; replace q371 := eq_true q371) | ((with_reducible refine gate_callee (f := 21) rfl ?_); refine S.gL (some 50) Try.func21 #[.slice (some ad369) t363.length co8, .int .i64 t364, .int .i64 ((rd_T47 t363 x7_1).f1)] ?_; (with_reducible refine (impl_Travel.calls k1 _ _ t363 t364 ((rd_T47 t363 x7_1).f1) t372 _ ?s1 (S.rl HO_3) A14.out).mono ?_); (case s1 => exact S.rd HO_3); rintro e w25 ⟨rfl, hb⟩; refine ⟨_, rfl, ?_⟩; replace HO_3 := S.rb HO_3 hb; replace HB := S.sA hb; (try clear hb)))
         go_roundg k1
         case measure => have := HK1.out; omega
         case rel => exact ⟨(wrap64 (x7_1 + 1)), S.eA, H', ⟨by have := HK1.out; omega⟩, ⟨S.uR HO_3.out⟩, ⟨S.bA⟩⟩
       ·rw [if_neg c12] at H
        exact absurd H (by simp)
      ·replace H := Option.bind_eq_some_iff.mp H
       obtain ⟨t374, A260, H⟩ := H
       replace H : ((laws_contains.f k1 t374 t365).bind fun t377 => (if t377 = true then (if t364 = t365 then (if t368 = 0 then (laws_FnStreets.j1 k1 l0) else (some false)) else (laws_FnStreets.j1 k1 l0)) else (some false))) = some r := H
       have A26 := Aside0.mk A260
       clear A260
       replace H := S.bd H; obtain ⟨t377, A27, H⟩ := H
       (try dsimp only at H)
       replace H := S.db H; rcases H with ⟨rfl, H⟩ | ⟨rfl, H⟩
       ·by_cases c29 : t364 = t365
        ·rw [if_pos c29] at H
         have c29b0 : (t364 == t365) = true := beq_iff_eq.mpr c29
         have c29b1 : (t364 != t365) = false := bne_eq_false_iff_eq.mpr c29
         clear c29
         by_cases c30 : t368 = 0
         ·rw [if_pos c30] at H
          have c30b0 : (t368 == 0) = true := beq_iff_eq.mpr c30
          have c30b1 : (t368 != 0) = false := bne_eq_false_iff_eq.mpr c30
          clear c30
          have H' := Aside0.mk H
          clear H
          go_wp2_with (first | ((with_reducible refine gate_callee (f := 23) rfl ?_); refine S.gL (some 71) Try.func23 #[.slice Ao8 t363.length co8, .int .i64 t364, .int .i64 t368] ?_; (with_reducible refine (impl_ReachedIn.calls k1 _ _ t363 t364 t368 t374 _ ?s1 (S.rl HO_3) A26.out).mono ?_); (case s1 => exact S.rd HO_3); rintro e w31 ⟨v375, rfl, ho0, hb⟩; refine ⟨_, rfl, ?_⟩; replace HO_3 := S.rb HO_3 hb; have HO376 := S.lwA ho0; replace HB := S.sA hb; (try clear hb); (try clear ho0); obtain ⟨Ao32, co32, eo32⟩ := Kd.R_slice HO376.out; subst eo32) | ((with_reducible refine gate_callee (f := 37) rfl ?_); refine S.gL (some 73) Try.func37 #[.slice Ao32 t374.length co32, .int .i64 t365] ?_; (with_reducible refine (laws_contains.calls k1 _ _ t374 t365 true _ ?s1 (S.rl HO376) A27.out).mono ?_); (case s1 => exact S.rd HO376); rintro e w' ⟨rfl, ⟨nd, rfl⟩⟩; refine ⟨_, rfl, ?_⟩))
          go_meet
          case rel => exact ⟨_, H', ⟨by have := HK1.out; first | omega | exact Nat.le_refl _⟩, ⟨S.bA⟩⟩
         ·rw [if_neg c30] at H
          have c30b0 : (t368 == 0) = false := beq_eq_false_iff_ne.mpr c30
          have c30b1 : (t368 != 0) = true := bne_iff_ne.mpr c30
          obtain rfl := Option.some.inj H
          go_wp2_with (first | ((with_reducible refine gate_callee (f := 23) rfl ?_); refine S.gL (some 71) Try.func23 #[.slice Ao8 t363.length co8, .int .i64 t364, .int .i64 t368] ?_; (with_reducible refine (impl_ReachedIn.calls k1 _ _ t363 t364 t368 t374 _ ?s1 (S.rl HO_3) A26.out).mono ?_); (case s1 => exact S.rd HO_3); rintro e w33 ⟨v375, rfl, ho0, hb⟩; refine ⟨_, rfl, ?_⟩; replace HO_3 := S.rb HO_3 hb; have HO376 := S.lwA ho0; replace HB := S.sA hb; (try clear hb); (try clear ho0); obtain ⟨Ao34, co34, eo34⟩ := Kd.R_slice HO376.out; subst eo34) | ((with_reducible refine gate_callee (f := 37) rfl ?_); refine S.gL (some 73) Try.func37 #[.slice Ao34 t374.length co34, .int .i64 t365] ?_; (with_reducible refine (laws_contains.calls k1 _ _ t374 t365 true _ ?s1 (S.rl HO376) A27.out).mono ?_); (case s1 => exact S.rd HO376); rintro e w' ⟨rfl, ⟨nd, rfl⟩⟩; refine ⟨_, rfl, ?_⟩))
          go_ret
          exact ⟨S.eW, S.bA⟩
        ·rw [if_neg c29] at H
         have c29b0 : (t364 == t365) = false := beq_eq_false_iff_ne.mpr c29
         have c29b1 : (t364 != t365) = true := bne_iff_ne.mpr c29
         have H' := Aside0.mk H
         clear H
         go_wp2_with (first | ((with_reducible refine gate_callee (f := 23) rfl ?_); refine S.gL (some 71) Try.func23 #[.slice Ao8 t363.length co8, .int .i64 t364, .int .i64 t368] ?_; (with_reducible refine (impl_ReachedIn.calls k1 _ _ t363 t364 t368 t374 _ ?s1 (S.rl HO_3) A26.out).mono ?_); (case s1 => exact S.rd HO_3); rintro e w35 ⟨v375, rfl, ho0, hb⟩; refine ⟨_, rfl, ?_⟩; replace HO_3 := S.rb HO_3 hb; have HO376 := S.lwA ho0; replace HB := S.sA hb; (try clear hb); (try clear ho0); obtain ⟨Ao36, co36, eo36⟩ := Kd.R_slice HO376.out; subst eo36) | ((with_reducible refine gate_callee (f := 37) rfl ?_); refine S.gL (some 73) Try.func37 #[.slice Ao36 t374.length co36, .int .i64 t365] ?_; (with_reducible refine (laws_contains.calls k1 _ _ t374 t365 true _ ?s1 (S.rl HO376) A27.out).mono ?_); (case s1 => exact S.rd HO376); rintro e w' ⟨rfl, ⟨nd, rfl⟩⟩; refine ⟨_, rfl, ?_⟩))
         go_meet
         case rel => exact ⟨_, H', ⟨by have := HK1.out; first | omega | exact Nat.le_refl _⟩, ⟨S.bA⟩⟩
       ·obtain rfl := Option.some.inj H
        go_wp2_with (first | ((with_reducible refine gate_callee (f := 23) rfl ?_); refine S.gL (some 71) Try.func23 #[.slice Ao8 t363.length co8, .int .i64 t364, .int .i64 t368] ?_; (with_reducible refine (impl_ReachedIn.calls k1 _ _ t363 t364 t368 t374 _ ?s1 (S.rl HO_3) A26.out).mono ?_); (case s1 => exact S.rd HO_3); rintro e w37 ⟨v375, rfl, ho0, hb⟩; refine ⟨_, rfl, ?_⟩; replace HO_3 := S.rb HO_3 hb; have HO376 := S.lwA ho0; replace HB := S.sA hb; (try clear hb); (try clear ho0); obtain ⟨Ao38, co38, eo38⟩ := Kd.R_slice HO376.out; subst eo38) | ((with_reducible refine gate_callee (f := 37) rfl ?_); refine S.gL (some 73) Try.func37 #[.slice Ao38 t374.length co38, .int .i64 t365] ?_; (with_reducible refine (laws_contains.calls k1 _ _ t374 t365 false _ ?s1 (S.rl HO376) A27.out).mono ?_); (case s1 => exact S.rd HO376); rintro e w' ⟨rfl, ⟨nd, rfl⟩⟩; refine ⟨_, rfl, ?_⟩))
        go_ret
        exact ⟨S.eW, S.bA⟩
   ·rw [if_neg c10] at H
    have c10b0 : decide (0 ≤ t368) = false := decide_eq_false c10
    clear c10
    (first | rw [c10b0] | (simp only [i64_w, i32_w]; rw [c10b0]) | skip)
    have H' := Aside0.mk H
    clear H
    go_wp2
    go_meet
    case rel => exact ⟨_, H', S.le, ⟨S.bA⟩⟩
  case rest =>
   clear HC6
   try clear c3
   obtain ⟨kq, HA, HJ5, HB⟩ := hcut
   cases kq with
   | zero => exact absurd HA.out (by simp [laws_FnStreets.j1])
   | succ kj5 =>
    have H := HA.out
    clear HA
    simp only [laws_FnStreets.j1] at H
    replace H := S.bd H; obtain ⟨⟨t378, t379⟩, A39, H⟩ := H
    (try dsimp only at H)
    replace H := S.bd H; obtain ⟨t384, A40, H⟩ := H
    (try dsimp only at H)
    replace H := S.bd H; obtain ⟨t387, A41, H⟩ := H
    (try dsimp only at H)
    by_cases c42 : (t387 != (decide ((t384.length : Int) > 0))) = true
    ·rw [if_pos c42] at H
     have c42b0 : (t387 != (decide ((t384.length : Int) > 0))) = true := c42
     have c42b8 : (t387 == decide (0 < t384.length)) = false := by rw [show decide (0 < t384.length) = decide ((t384.length : Int) > 0) from decide_eq_decide.2 (by omega)]; have h_ := c42b0; unfold bne at h_; generalize (t387 == decide ((t384.length : Int) > 0)) = q_ at h_ ⊢; cases q_ <;> first | rfl | exact absurd h_ (by decide)
     have c42b9 : (!(t387 == decide (0 < t384.length))) = true := by rw [c42b8]; rfl
     (try (have c42b1 : decide (t387 = (decide ((t384.length : Int) > 0))) = false := by simpa using c42))
     (try (have c42b2 : (t387 == (decide ((t384.length : Int) > 0))) = false := by simpa using c42))
     (try (have c42b3 : ¬ (t387 = (decide ((t384.length : Int) > 0))) := by simpa using c42))
     clear c42
     obtain rfl := Option.some.inj H
     go_wp2_with (first | ((with_reducible refine gate_callee (f := 38) rfl ?_); refine S.gL (some 86) Try.func38 #[.slice A0 l0.length c0] ?_; (with_reducible refine (spec_DrawChainTravel.calls kj5 _ _ l0 t378 t379 _ ?s1 HC0.out A39.out).mono ?_); (case s1 => exact S.cA HR0.out); rintro e w43 ⟨v380, v382, rfl, ho0, ho1, hb⟩; refine ⟨_, rfl, ?_⟩; have HO381 := S.lwA ho0; have HO383 := S.lwA ho1; replace HB := S.sA hb; (try clear hb); (try clear ho0); (try clear ho1); obtain ⟨Ao44, co44, eo44⟩ := Kd.R_slice HO381.out; subst eo44; obtain ⟨Ao45, co45, eo45⟩ := Kd.R_slice HO383.out; subst eo45) | ((with_reducible refine gate_callee (f := 32) rfl ?_); refine S.gL (some 91) Try.func32 #[.slice Ao44 t378.length co44, .slice Ao45 t379.length co45] ?_; (with_reducible refine (impl_ChainTravel.calls kj5 _ _ t378 _ _ t379 t384 _ ?s1 (S.rl HO381) ?s3 (S.rl HO383) A40.out).mono ?_); (case s1 => exact S.rd HO381); (case s3 => exact S.rd HO383); rintro e w46 ⟨v385, rfl, ho0, hb⟩; refine ⟨_, rfl, ?_⟩; replace HO381 := S.rb HO381 hb; have HO386 := S.rnA ho0 HO383; replace HO383 := S.re HO383 ho0 hb; replace HB := S.sA hb; (try clear hb); (try clear ho0)) | ((with_reducible refine gate_callee (f := 30) rfl ?_); refine S.gL (some 94) Try.func30 #[.slice Ao44 t378.length co44, .slice Ao45 t379.length co45] ?_; (with_reducible refine (impl_IsChain.calls kj5 _ _ t378 _ _ t379 t387 _ ?s1 (S.rl HO381) ?s3 (S.rl HO383) A41.out).mono ?_); (case s1 => exact S.rd HO381); (case s3 => exact S.rd HO383); rintro e w47 ⟨rfl, hb⟩; refine ⟨_, rfl, ?_⟩; replace HO381 := S.rb HO381 hb; replace HO383 := S.rb HO383 hb; replace HO386 := S.rb HO386 hb; replace HB := S.sA hb; (try clear hb); obtain ⟨Ao48, co48, eo48⟩ := Kd.R_slice HO386.out; subst eo48))
     go_ret
     exact ⟨S.eW, S.bA⟩
    ·rw [if_neg c42] at H
     have c42b0 : (t387 != (decide ((t384.length : Int) > 0))) = false := by simpa using c42
     have c42b8 : (t387 == decide (0 < t384.length)) = true := by rw [show decide (0 < t384.length) = decide ((t384.length : Int) > 0) from decide_eq_decide.2 (by omega)]; have h_ := c42b0; unfold bne at h_; generalize (t387 == decide ((t384.length : Int) > 0)) = q_ at h_ ⊢; cases q_ <;> first | rfl | exact absurd h_ (by decide)
     have c42b9 : (!(t387 == decide (0 < t384.length))) = false := by rw [c42b8]; rfl
     (try (have c42b1 : decide (t387 = (decide ((t384.length : Int) > 0))) = true := by simpa using c42))
     (try (have c42b2 : (t387 == (decide ((t384.length : Int) > 0))) = true := by simpa using c42))
     clear c42
     have H' := Aside0.mk H
     clear H
     go_wp2_with (first | ((with_reducible refine gate_callee (f := 38) rfl ?_); refine S.gL (some 86) Try.func38 #[.slice A0 l0.length c0] ?_; (with_reducible refine (spec_DrawChainTravel.calls kj5 _ _ l0 t378 t379 _ ?s1 HC0.out A39.out).mono ?_); (case s1 => exact S.cA HR0.out); rintro e w49 ⟨v380, v382, rfl, ho0, ho1, hb⟩; refine ⟨_, rfl, ?_⟩; have HO381 := S.lwA ho0; have HO383 := S.lwA ho1; replace HB := S.sA hb; (try clear hb); (try clear ho0); (try clear ho1); obtain ⟨Ao50, co50, eo50⟩ := Kd.R_slice HO381.out; subst eo50; obtain ⟨Ao51, co51, eo51⟩ := Kd.R_slice HO383.out; subst eo51) | ((with_reducible refine gate_callee (f := 32) rfl ?_); refine S.gL (some 91) Try.func32 #[.slice Ao50 t378.length co50, .slice Ao51 t379.length co51] ?_; (with_reducible refine (impl_ChainTravel.calls kj5 _ _ t378 _ _ t379 t384 _ ?s1 (S.rl HO381) ?s3 (S.rl HO383) A40.out).mono ?_); (case s1 => exact S.rd HO381); (case s3 => exact S.rd HO383); rintro e w52 ⟨v385, rfl, ho0, hb⟩; refine ⟨_, rfl, ?_⟩; replace HO381 := S.rb HO381 hb; have HO386 := S.rnA ho0 HO383; replace HO383 := S.re HO383 ho0 hb; replace HB := S.sA hb; (try clear hb); (try clear ho0)) | ((with_reducible refine gate_callee (f := 30) rfl ?_); refine S.gL (some 94) Try.func30 #[.slice Ao50 t378.length co50, .slice Ao51 t379.length co51] ?_; (with_reducible refine (impl_IsChain.calls kj5 _ _ t378 _ _ t379 t387 _ ?s1 (S.rl HO381) ?s3 (S.rl HO383) A41.out).mono ?_); (case s1 => exact S.rd HO381); (case s3 => exact S.rd HO383); rintro e w53 ⟨rfl, hb⟩; refine ⟨_, rfl, ?_⟩; replace HO381 := S.rb HO381 hb; replace HO383 := S.rb HO383 hb; replace HO386 := S.rb HO386 hb; replace HB := S.sA hb; (try clear hb); obtain ⟨Ao54, co54, eo54⟩ := Kd.R_slice HO386.out; subst eo54))
     go_loopg [13] kj5 (fun kq v13 w' => ∃ (x13_2 : Int), v13 = .int .i64 x13_2 ∧ Aside0 (laws_FnStreets.l1 kq t378 t379 t384 x13_2 = some r) ∧ Aside0 (kq ≤ kj5) ∧ Aside0 (Kd.R k47 47 w' w.heap.size (fun _ => True) (.slice Ao50 t378.length co50) t378) ∧ Aside0 (Kd.R (Kd.int .i64) 3 w' w.heap.size (fun k_ => some k_ ≠ ((.slice Ao54 t384.length co54) : Value).ownBlock) (.slice Ao51 t379.length co51) t379) ∧ Aside0 (Kd.R (Kd.int .i64) 3 w' w.heap.size (fun k_ => some k_ ≠ ((.slice Ao51 t379.length co51) : Value).ownBlock) (.slice Ao54 t384.length co54) t384) ∧ Aside0 (Below w.heap.size w w'))
     case atStart => exact ⟨(0), S.eA, H', ⟨Nat.le_refl _⟩, ⟨S.uR HO381.out⟩, ⟨by (with_reducible repeat (first | apply Kd.R_alloc | apply Kd.R_drewN | apply Kd.R_drew)); exact Kd.R_mono HO383.out (fun _ hk => hk.2)⟩, ⟨by (with_reducible repeat (first | apply Kd.R_alloc | apply Kd.R_drewN | apply Kd.R_drew)); exact Kd.R_mono HO386.out (fun _ hk => hk.2)⟩, ⟨S.bA⟩⟩
     case round =>
      clear H'
      try clear c3
      try clear c42
      try clear c42b0
      try clear c42b1
      try clear c42b2
      obtain ⟨x13_2, rfl, HA, HK2, HO_10, HO_11, HO_12, HB⟩ := hrel
      cases gk with
      | zero => exact absurd HA.out (by simp [laws_FnStreets.l1])
      | succ k2 =>
       have H := HA.out
       clear HA
       simp only [laws_FnStreets.l1] at H
       replace H := S.dc H; rcases H with ⟨H, c55b0⟩ | ⟨H, c55b0⟩
       ·by_cases c56 : 0 < (t379.length : Int)
        ·rw [if_pos c56] at H
         have c56b0 : decide (0 < (t379.length : Int)) = true := decide_eq_true c56
         have c56b1 : decide (0 < t379.length) = true := decide_eq_true (by omega)
         clear c56
         by_cases c57 : 0 ≤ x13_2
         ·rw [if_pos c57] at H
          have c57b0 : decide (0 ≤ x13_2) = true := decide_eq_true c57
          clear c57
          by_cases c58 : x13_2 < (t379.length : Int)
          ·rw [if_pos c58] at H
           have c58b0 : decide (x13_2 < (t379.length : Int)) = true := decide_eq_true c58
           clear c58
           replace H := S.bd H; obtain ⟨t390, A59, H⟩ := H
           (try dsimp only at H)
           replace H := S.dc H; rcases H with ⟨H, c60b0⟩ | ⟨H, c60b0⟩
           ·obtain rfl := Option.some.inj H
            try go_wp2
            replace HO_10 := S.dr HO_10
            replace HO_11 := S.dr HO_11
            replace HO_12 := S.dr HO_12
            replace HB := Aside0.mk (below_drew1 HB.out)
            have p388 : 0 ≤ (0 : Int) := (by omega)
            have q388 : 0 < (t379.length : Int) := S.oD
            obtain ⟨ad388, e388, hx388_0⟩ := Kd.at_int (Kd.R_reads' HO_11.out).2.2 0 p388 q388
            cases e388
            have qi388 : (0 < t379.length) = True := eq_true (by omega)
            (try rw [show ((0 : Int)).toNat = 0 from rfl] at hx388_0)
            (try rw [Addr.add_zero'] at hx388_0)
            replace p388 := eq_true p388
            replace q388 := eq_true q388
            have p389 : 0 ≤ (x13_2 : Int) := S.oD
            have q389 : x13_2 < (t379.length : Int) := S.oD
            obtain ⟨ad389, e389, hx389_0⟩ := Kd.at_int (Kd.R_reads' HO_11.out).2.2 x13_2 p389 q389
            obtain rfl : ad388 = ad389 := (by injection e389)
            replace p389 := eq_true p389
            replace q389 := eq_true q389
            refine S.st (n := 10) (ds := []) #[false, false, false, false, false, false, false, false, false, false] (fun w_ h_ => have x_ := And.intro (S.q h_ hx388_0) (S.q h_ hx389_0); x_) (fun hHeld => ?_); refine with_tabW laws_FnStreets.tab22 laws_FnStreets.bits22 (fun HT_ HW_ => ?_)
            generalize wr.drew = w61 at HO_10 HO_11 HO_12 HB hx388_0 hx389_0 hHeld ⊢
            refine S.pS 0 105 ?_
            refine S.pS 1 106 ?_
            refine S.pS 2 107 ?_
            refine S.pS 4 109 ?_
            refine S.pS 5 110 ?_
            refine S.pS 6 111 ?_
            refine S.tK 3 108 #[true, true, true, true, true, true, true, false, false, false] ?_
            refine S.tK 7 112 #[true, true, true, true, true, true, true, true, false, false] ?_
            refine S.oN 8 113 #[true, true, true, true, true, true, true, true, true, false] (fun K hK => ?_)
            refine S.go Try.func21 #[.slice Ao50 t378.length co50, .int .i64 (rd t379 0), .int .i64 (rd t379 x13_2)] ?_
            with_reducible refine (impl_Travel.calls k2 _ _ t378 (rd t379 0) (rd t379 x13_2) t390 _ ?s1 ?s2 A59.out).mono ?_
            (case s1 => exact S.rd HO_10)
            (case s2 => exact S.rl HO_10)
            rintro e w62 ⟨rfl, hb⟩
            have HS0_ := (hb.cell (World.block_lt_of_cell? _ _ (hHeld.1))).trans (hHeld.1)
            have HS1_ := (hb.cell (World.block_lt_of_cell? _ _ (hHeld.2))).trans (hHeld.2)
            refine ⟨_, rfl, ?_⟩
            replace HO_10 := S.rb HO_10 hb
            replace HO_11 := S.rb HO_11 hb
            replace HO_12 := S.rb HO_12 hb
            replace HB := S.sA hb
            (try clear hb)
            (try clear hb2)
            (try clear hk)
            (try clear hi)
            refine hK.out _ _ ⟨HS0_, HS1_⟩ (fun hHeld => ?_)
            clear hK K
            refine S.nm 113 ?_
            refine S.pS 9 14 ?_
            refine done_ (done_of HT_.out (by kernel_rfl)) ?_
            try go_wp2
            replace HO_10 := S.dr HO_10
            replace HO_11 := S.dr HO_11
            replace HO_12 := S.dr HO_12
            replace HB := Aside0.mk (below_drew1 HB.out)
            refine start_ (n := 29) (S := fun w' => True) (ds := []) #[false, false, false, false, false, false, false, false, false, false, false, false, false, false, false, false, false, false, false, false, false, false, false, false, false, false, false, false, false] (by kernel_rfl) rfl rfl trivial (fun hHeld => ?_); refine with_tabW laws_FnStreets.tab23 laws_FnStreets.bits23 (fun HT_ HW_ => ?_)
            generalize w62.drew = w63 at HO_10 HO_11 HO_12 HB hHeld ⊢
            refine S.pS 0 114 ?_
            refine S.pS 1 115 ?_
            refine S.pS 2 116 ?_
            refine S.pU 3 117 ?_
            refine S.pU 4 118 ?_
            refine S.pU 5 119 ?_
            refine S.pU 6 120 ?_
            refine S.pU 7 121 ?_
            refine S.pU 8 122 ?_
            refine S.pS 9 123 ?_
            refine S.pS 10 124 ?_
            refine S.pU 11 125 ?_
            refine S.pU 12 126 ?_
            refine S.pU 13 127 ?_
            refine S.pU 14 128 ?_
            refine S.pU 15 129 ?_
            refine S.pU 16 130 ?_
            refine S.pU 17 131 ?_
            refine S.pU 18 132 ?_
            refine S.pU 19 133 ?_
            refine S.pU 20 134 ?_
            refine S.pU 21 135 ?_
            refine S.pU 22 136 ?_
            refine S.pU 23 137 ?_
            refine S.pU 24 138 ?_
            refine S.pU 25 139 ?_
            refine S.pU 26 140 ?_
            refine S.pU 27 141 ?_
            refine S.pS 28 142 ?_
            refine done_ (done_of HT_.out (by kernel_rfl)) ?_
            try go_wp2
            go_ret
            exact ⟨S.eW, S.bA⟩
           ·by_cases c64 : t390 > (rd t384 x13_2)
            ·rw [if_pos c64] at H
             have c64b0 : decide ((rd t384 x13_2) < t390) = true := decide_eq_true c64
             clear c64
             obtain rfl := Option.some.inj H
             try go_wp2
             replace HO_10 := S.dr HO_10
             replace HO_11 := S.dr HO_11
             replace HO_12 := S.dr HO_12
             replace HB := Aside0.mk (below_drew1 HB.out)
             have p388 : 0 ≤ (0 : Int) := (by omega)
             have q388 : 0 < (t379.length : Int) := S.oD
             obtain ⟨ad388, e388, hx388_0⟩ := Kd.at_int (Kd.R_reads' HO_11.out).2.2 0 p388 q388
             cases e388
             have qi388 : (0 < t379.length) = True := eq_true (by omega)
             (try rw [show ((0 : Int)).toNat = 0 from rfl] at hx388_0)
             (try rw [Addr.add_zero'] at hx388_0)
             replace p388 := eq_true p388
             replace q388 := eq_true q388
             have p389 : 0 ≤ (x13_2 : Int) := S.oD
             have q389 : x13_2 < (t379.length : Int) := S.oD
             obtain ⟨ad389, e389, hx389_0⟩ := Kd.at_int (Kd.R_reads' HO_11.out).2.2 x13_2 p389 q389
             obtain rfl : ad388 = ad389 := (by injection e389)
             replace p389 := eq_true p389
             replace q389 := eq_true q389
             refine S.st (n := 10) (ds := []) #[false, false, false, false, false, false, false, false, false, false] (fun w_ h_ => have x_ := And.intro (S.q h_ hx388_0) (S.q h_ hx389_0); x_) (fun hHeld => ?_); refine with_tabW laws_FnStreets.tab22 laws_FnStreets.bits22 (fun HT_ HW_ => ?_)
             generalize wr.drew = w65 at HO_10 HO_11 HO_12 HB hx388_0 hx389_0 hHeld ⊢
             refine S.pS 0 105 ?_
             refine S.pS 1 106 ?_
             refine S.pS 2 107 ?_
             refine S.pS 4 109 ?_
             refine S.pS 5 110 ?_
             refine S.pS 6 111 ?_
             refine S.tK 3 108 #[true, true, true, true, true, true, true, false, false, false] ?_
             refine S.tK 7 112 #[true, true, true, true, true, true, true, true, false, false] ?_
             refine S.oN 8 113 #[true, true, true, true, true, true, true, true, true, false] (fun K hK => ?_)
             refine S.go Try.func21 #[.slice Ao50 t378.length co50, .int .i64 (rd t379 0), .int .i64 (rd t379 x13_2)] ?_
             with_reducible refine (impl_Travel.calls k2 _ _ t378 (rd t379 0) (rd t379 x13_2) t390 _ ?s1 ?s2 A59.out).mono ?_
             (case s1 => exact S.rd HO_10)
             (case s2 => exact S.rl HO_10)
             rintro e w66 ⟨rfl, hb⟩
             have HS0_ := (hb.cell (World.block_lt_of_cell? _ _ (hHeld.1))).trans (hHeld.1)
             have HS1_ := (hb.cell (World.block_lt_of_cell? _ _ (hHeld.2))).trans (hHeld.2)
             refine ⟨_, rfl, ?_⟩
             replace HO_10 := S.rb HO_10 hb
             replace HO_11 := S.rb HO_11 hb
             replace HO_12 := S.rb HO_12 hb
             replace HB := S.sA hb
             (try clear hb)
             (try clear hb2)
             (try clear hk)
             (try clear hi)
             refine hK.out _ _ ⟨HS0_, HS1_⟩ (fun hHeld => ?_)
             clear hK K
             refine S.nm 113 ?_
             refine S.pS 9 14 ?_
             refine done_ (done_of HT_.out (by kernel_rfl)) ?_
             try go_wp2
             replace HO_10 := S.dr HO_10
             replace HO_11 := S.dr HO_11
             replace HO_12 := S.dr HO_12
             replace HB := Aside0.mk (below_drew1 HB.out)
             have p391 : 0 ≤ (x13_2 : Int) := S.oD
             have q391 : x13_2 < (t384.length : Int) := S.oD
             obtain ⟨ad391, e391, hx391_0⟩ := Kd.at_int (Kd.R_reads' HO_12.out).2.2 x13_2 p391 q391
             cases e391
             replace p391 := eq_true p391
             replace q391 := eq_true q391
             refine start_ (n := 29) (S := fun w' => w'.cell? (ad391.add (x13_2).toNat) = some (.int .i64 (rd t384 x13_2))) (ds := []) #[false, false, false, false, false, false, false, false, false, false, false, false, false, false, false, false, false, false, false, false, false, false, false, false, false, false, false, false, false] (by kernel_rfl) rfl rfl (hx391_0) (fun hHeld => ?_); refine with_tabW laws_FnStreets.tab23 laws_FnStreets.bits23 (fun HT_ HW_ => ?_)
             generalize w66.drew = w67 at HO_10 HO_11 HO_12 HB hx391_0 hHeld ⊢
             refine S.pS 0 114 ?_
             refine S.pS 1 115 ?_
             refine S.pS 2 116 ?_
             refine S.pS 3 117 ?_
             refine S.pS 4 118 ?_
             refine S.pS 5 119 ?_
             refine S.pS 6 120 ?_
             refine take_ (i := 7) (N := some 121) (v := ?_) (a' := ?_) #[true, true, true, true, true, true, true, true, false, false, false, false, false, false, false, false, false, false, false, false, false, false, false, false, false, false, false, false, false] rfl rfl (take_ofW HT_.out HW_.out (by kernel_rfl)) (fun _ _ _ h => h) (Or.inl ⟨by rfl, ?_⟩) hHeld ?_ ?_
             rotate_left
             ·intro w' s0
              go_simp
              with_reducible rfl
             rotate_left
             ·simp only [Act.put, List.setIfInBounds_toArray, List.set_cons_zero, List.set_cons_succ, i64_w, i32_w]
              rfl
             refine S.pS 8 122 ?_
             refine S.pS 9 123 ?_
             refine S.pS 10 124 ?_
             refine S.pU 11 125 ?_
             refine S.pU 12 126 ?_
             refine S.pU 13 127 ?_
             refine S.pU 14 128 ?_
             refine S.pU 15 129 ?_
             refine S.pU 16 130 ?_
             refine S.pU 17 131 ?_
             refine S.pU 18 132 ?_
             refine S.pU 19 133 ?_
             refine S.pU 20 134 ?_
             refine S.pU 21 135 ?_
             refine S.pU 22 136 ?_
             refine S.pU 23 137 ?_
             refine S.pU 24 138 ?_
             refine S.pU 25 139 ?_
             refine S.pU 26 140 ?_
             refine S.pU 27 141 ?_
             refine S.pS 28 142 ?_
             refine done_ (done_of HT_.out (by kernel_rfl)) ?_
             try go_wp2
             go_ret
             exact ⟨S.eW, S.bA⟩
            ·rw [if_neg c64] at H
             have c64b0 : decide ((rd t384 x13_2) < t390) = false := decide_eq_false c64
             clear c64
             by_cases c68 : x13_2 > 0
             ·rw [if_pos c68] at H
              have c68b0 : decide (0 < x13_2) = true := decide_eq_true c68
              clear c68
              obtain ⟨ji69, hji69⟩ : ∃ j_ : Int, (wrap64 (x13_2 - 1)) = j_ := ⟨_, rfl⟩
              replace H : (if 0 ≤ (ji69) then (if (ji69) < (t379.length : Int) then ((impl_StreetsFrom.f k2 t378 (rd t379 (ji69))).bind fun t393 => ((laws_contains.f k2 t393 (rd t379 x13_2)).bind fun t397 => (if t397 = true then (laws_FnStreets.l1 k2 t378 t379 t384 (wrap64 (x13_2 + 1))) else (some false)))) else (none)) else (none)) = some r := by first | (rw [hji69] at H; exact H) | (simp only [hji69] at H ⊢; exact H)
              (try rw [hji69] at A59)
              have hji69w : (IntKind.i64.wrap (x13_2 - 1)) = ji69 := (i64_w _).trans hji69
              by_cases c70 : 0 ≤ (ji69)
              ·rw [if_pos c70] at H
               have c70b0 : decide (0 ≤ (ji69)) = true := decide_eq_true c70
               clear c70
               by_cases c71 : (ji69) < (t379.length : Int)
               ·rw [if_pos c71] at H
                have c71b0 : decide ((ji69) < (t379.length : Int)) = true := decide_eq_true c71
                clear c71
                replace H := S.bd H; obtain ⟨t393, A72, H⟩ := H
                (try dsimp only at H)
                replace H := S.bd H; obtain ⟨t397, A73, H⟩ := H
                (try dsimp only at H)
                replace H := S.db H; rcases H with ⟨rfl, H⟩ | ⟨rfl, H⟩
                ·have H' := Aside0.mk H
                 clear H
                 try go_wp2
                 replace HO_10 := S.dr HO_10
                 replace HO_11 := S.dr HO_11
                 replace HO_12 := S.dr HO_12
                 replace HB := Aside0.mk (below_drew1 HB.out)
                 have p388 : 0 ≤ (0 : Int) := (by omega)
                 have q388 : 0 < (t379.length : Int) := S.oD
                 obtain ⟨ad388, e388, hx388_0⟩ := Kd.at_int (Kd.R_reads' HO_11.out).2.2 0 p388 q388
                 cases e388
                 have qi388 : (0 < t379.length) = True := eq_true (by omega)
                 (try rw [show ((0 : Int)).toNat = 0 from rfl] at hx388_0)
                 (try rw [Addr.add_zero'] at hx388_0)
                 replace p388 := eq_true p388
                 replace q388 := eq_true q388
                 have p389 : 0 ≤ (x13_2 : Int) := S.oD
                 have q389 : x13_2 < (t379.length : Int) := S.oD
                 obtain ⟨ad389, e389, hx389_0⟩ := Kd.at_int (Kd.R_reads' HO_11.out).2.2 x13_2 p389 q389
                 obtain rfl : ad388 = ad389 := (by injection e389)
                 replace p389 := eq_true p389
                 replace q389 := eq_true q389
                 refine S.st (n := 10) (ds := []) #[false, false, false, false, false, false, false, false, false, false] (fun w_ h_ => have x_ := And.intro (S.q h_ hx388_0) (S.q h_ hx389_0); x_) (fun hHeld => ?_); refine with_tabW laws_FnStreets.tab22 laws_FnStreets.bits22 (fun HT_ HW_ => ?_)
                 generalize wr.drew = w75 at HO_10 HO_11 HO_12 HB hx388_0 hx389_0 hHeld ⊢
                 refine S.pS 0 105 ?_
                 refine S.pS 1 106 ?_
                 refine S.pS 2 107 ?_
                 refine S.pS 4 109 ?_
                 refine S.pS 5 110 ?_
                 refine S.pS 6 111 ?_
                 refine S.tK 3 108 #[true, true, true, true, true, true, true, false, false, false] ?_
                 refine S.tK 7 112 #[true, true, true, true, true, true, true, true, false, false] ?_
                 refine S.oN 8 113 #[true, true, true, true, true, true, true, true, true, false] (fun K hK => ?_)
                 refine S.go Try.func21 #[.slice Ao50 t378.length co50, .int .i64 (rd t379 0), .int .i64 (rd t379 x13_2)] ?_
                 with_reducible refine (impl_Travel.calls k2 _ _ t378 (rd t379 0) (rd t379 x13_2) t390 _ ?s1 ?s2 A59.out).mono ?_
                 (case s1 => exact S.rd HO_10)
                 (case s2 => exact S.rl HO_10)
                 rintro e w76 ⟨rfl, hb⟩
                 have HS0_ := (hb.cell (World.block_lt_of_cell? _ _ (hHeld.1))).trans (hHeld.1)
                 have HS1_ := (hb.cell (World.block_lt_of_cell? _ _ (hHeld.2))).trans (hHeld.2)
                 refine ⟨_, rfl, ?_⟩
                 replace HO_10 := S.rb HO_10 hb
                 replace HO_11 := S.rb HO_11 hb
                 replace HO_12 := S.rb HO_12 hb
                 replace HB := S.sA hb
                 (try clear hb)
                 (try clear hb2)
                 (try clear hk)
                 (try clear hi)
                 refine hK.out _ _ ⟨HS0_, HS1_⟩ (fun hHeld => ?_)
                 clear hK K
                 refine S.nm 113 ?_
                 refine S.pS 9 14 ?_
                 refine done_ (done_of HT_.out (by kernel_rfl)) ?_
                 try go_wp2
                 replace HO_10 := S.dr HO_10
                 replace HO_11 := S.dr HO_11
                 replace HO_12 := S.dr HO_12
                 replace HB := Aside0.mk (below_drew1 HB.out)
                 have p391 : 0 ≤ (x13_2 : Int) := S.oD
                 have q391 : x13_2 < (t384.length : Int) := S.oD
                 obtain ⟨ad391, e391, hx391_0⟩ := Kd.at_int (Kd.R_reads' HO_12.out).2.2 x13_2 p391 q391
                 cases e391
                 replace p391 := eq_true p391
                 replace q391 := eq_true q391
                 have p392 : 0 ≤ ((ji69) : Int) := S.oD
                 have q392 : (ji69) < (t379.length : Int) := S.oD
                 obtain ⟨ad392, e392, hx392_0⟩ := Kd.at_int (Kd.R_reads' HO_11.out).2.2 (ji69) p392 q392
                 obtain rfl : ad388 = ad392 := (by injection e392)
                 replace p392 := eq_true p392
                 replace q392 := eq_true q392
                 have p396 : 0 ≤ (x13_2 : Int) := S.oD
                 have q396 : x13_2 < (t379.length : Int) := S.oD
                 obtain ⟨ad396, e396, hx396_0⟩ := Kd.at_int (Kd.R_reads' HO_11.out).2.2 x13_2 p396 q396
                 obtain rfl : ad388 = ad396 := (by injection e396)
                 replace p396 := eq_true p396
                 replace q396 := eq_true q396
                 refine S.st (n := 29) (ds := []) #[false, false, false, false, false, false, false, false, false, false, false, false, false, false, false, false, false, false, false, false, false, false, false, false, false, false, false, false, false] (fun w_ h_ => have x_ := And.intro (S.q h_ hx391_0) (And.intro (S.q h_ hx392_0) (S.q h_ hx396_0)); x_) (fun hHeld => ?_); refine with_tabW laws_FnStreets.tab23 laws_FnStreets.bits23 (fun HT_ HW_ => ?_)
                 generalize w76.drew = w77 at HO_10 HO_11 HO_12 HB hx391_0 hx392_0 hx396_0 hHeld ⊢
                 refine S.pS 0 114 ?_
                 refine S.pS 1 115 ?_
                 refine S.pS 2 116 ?_
                 refine S.pS 3 117 ?_
                 refine S.pS 4 118 ?_
                 refine S.pS 5 119 ?_
                 refine S.pS 6 120 ?_
                 refine S.tK 7 121 #[true, true, true, true, true, true, true, true, false, false, false, false, false, false, false, false, false, false, false, false, false, false, false, false, false, false, false, false, false] ?_
                 refine S.pS 8 122 ?_
                 refine S.pS 9 123 ?_
                 refine S.pS 10 124 ?_
                 refine S.pS 11 125 ?_
                 refine S.pS 12 126 ?_
                 refine S.pS 13 127 ?_
                 refine S.pS 14 128 ?_
                 refine S.pS 15 129 ?_
                 refine S.pS 16 130 ?_
                 refine S.pS 17 131 ?_
                 refine S.pS 18 132 ?_
                 refine S.pS 21 135 ?_
                 refine S.pS 22 136 ?_
                 refine S.pS 23 137 ?_
                 refine S.tK 19 133 #[true, true, true, true, true, true, true, true, true, true, true, true, true, true, true, true, true, true, true, true, false, true, true, true, false, false, false, false, false] ?_
                 refine S.tK 24 138 #[true, true, true, true, true, true, true, true, true, true, true, true, true, true, true, true, true, true, true, true, false, true, true, true, true, false, false, false, false] ?_
                 refine S.oN 20 134 #[true, true, true, true, true, true, true, true, true, true, true, true, true, true, true, true, true, true, true, true, true, true, true, true, true, false, false, false, false] (fun K hK => ?_)
                 refine goes_ Try.func34 (by kernel_rfl) rfl #[.slice Ao50 t378.length co50, .int .i64 (rd t379 (ji69))] (by rfl) rfl rfl (by (try simp only [List.map_toArray, List.map_cons, List.map_nil]); first | done | (simp only [hji69]; rfl) | rfl | (simp only [List.length_drop, List.length_take]; rfl)) ?_
                 with_reducible refine (impl_StreetsFrom.calls k2 _ _ t378 (rd t379 (ji69)) t393 _ ?s1 ?s2 A72.out).mono ?_
                 (case s1 => exact S.rd HO_10)
                 (case s2 => exact S.rl HO_10)
                 rintro e w78 ⟨v394, rfl, ho0, hb⟩
                 have HS0_ := (hb.cell (World.block_lt_of_cell? _ _ (hHeld.1))).trans (hHeld.1)
                 have HS1_ := (hb.cell (World.block_lt_of_cell? _ _ (hHeld.2.1))).trans (hHeld.2.1)
                 have HS2_ := (hb.cell (World.block_lt_of_cell? _ _ (hHeld.2.2))).trans (hHeld.2.2)
                 refine ⟨_, rfl, ?_⟩
                 replace HO_10 := S.rb HO_10 hb
                 have HO395 := Aside0.mk (Kd.R_lower (Kd.R_new' (Kd.R_new' ho0 (Kd.R_lt (S.uR HO_11.out))) (Kd.R_lt (S.uR HO_12.out))) (below_size S.bA))
                 replace HO_11 := S.re HO_11 ho0 hb
                 replace HO_12 := S.re HO_12 ho0 hb
                 replace HB := S.sA hb
                 (try clear hb)
                 (try clear hb2)
                 (try clear hk)
                 (try clear hi)
                 (try clear ho0)
                 obtain ⟨Ao79, co79, eo79⟩ := Kd.R_slice HO395.out
                 (first | subst eo79 | (injection eo79 with f1_ f2_ f3_; have f4_ := f1_.symm; have f5_ := f3_.symm; clear f1_ f2_ f3_; subst f4_; subst f5_))
                 refine hK.out _ _ ⟨HS0_, HS1_, HS2_⟩ (fun hHeld => ?_)
                 clear hK K
                 refine S.nm 134 ?_
                 refine S.oN 25 139 #[true, true, true, true, true, true, true, true, true, true, true, true, true, true, true, true, true, true, true, true, true, true, true, true, true, true, false, false, false] (fun K hK => ?_)
                 refine S.go Try.func37 #[.slice Ao79 t393.length co79, .int .i64 (rd t379 x13_2)] ?_
                 with_reducible refine (laws_contains.calls k2 _ _ t393 (rd t379 x13_2) true _ ?s1 ?s2 A73.out).mono ?_
                 (case s1 => exact S.rd HO395)
                 (case s2 => exact S.rl HO395)
                 rintro e w' ⟨rfl, ⟨nd, rfl⟩⟩
                 refine ⟨_, rfl, ?_⟩
                 refine hK.out _ _ ⟨hHeld.1, hHeld.2.1, hHeld.2.2⟩ (fun hHeld => ?_)
                 clear hK K
                 refine S.nm 139 ?_
                 refine S.pS 26 140 ?_
                 refine S.pS 27 141 ?_
                 refine S.pS 28 142 ?_
                 refine done_ (done_of HT_.out (by kernel_rfl)) ?_
                 try go_wp2
                 go_roundg k2
                 case measure => have := HJ5.out; have := HK2.out; omega
                 case rel => exact ⟨(wrap64 (x13_2 + 1)), S.eA, H', ⟨by have := HJ5.out; have := HK2.out; omega⟩, ⟨S.uR HO_10.out⟩, ⟨by (with_reducible repeat (first | apply Kd.R_alloc | apply Kd.R_drewN | apply Kd.R_drew)); exact Kd.R_mono HO_11.out (fun _ hk => hk.1)⟩, ⟨by (with_reducible repeat (first | apply Kd.R_alloc | apply Kd.R_drewN | apply Kd.R_drew)); exact Kd.R_mono HO_12.out (fun _ hk => hk.1)⟩, ⟨S.bA⟩⟩
                ·obtain rfl := Option.some.inj H
                 try go_wp2
                 replace HO_10 := S.dr HO_10
                 replace HO_11 := S.dr HO_11
                 replace HO_12 := S.dr HO_12
                 replace HB := Aside0.mk (below_drew1 HB.out)
                 have p388 : 0 ≤ (0 : Int) := (by omega)
                 have q388 : 0 < (t379.length : Int) := S.oD
                 obtain ⟨ad388, e388, hx388_0⟩ := Kd.at_int (Kd.R_reads' HO_11.out).2.2 0 p388 q388
                 cases e388
                 have qi388 : (0 < t379.length) = True := eq_true (by omega)
                 (try rw [show ((0 : Int)).toNat = 0 from rfl] at hx388_0)
                 (try rw [Addr.add_zero'] at hx388_0)
                 replace p388 := eq_true p388
                 replace q388 := eq_true q388
                 have p389 : 0 ≤ (x13_2 : Int) := S.oD
                 have q389 : x13_2 < (t379.length : Int) := S.oD
                 obtain ⟨ad389, e389, hx389_0⟩ := Kd.at_int (Kd.R_reads' HO_11.out).2.2 x13_2 p389 q389
                 obtain rfl : ad388 = ad389 := (by injection e389)
                 replace p389 := eq_true p389
                 replace q389 := eq_true q389
                 refine S.st (n := 10) (ds := []) #[false, false, false, false, false, false, false, false, false, false] (fun w_ h_ => have x_ := And.intro (S.q h_ hx388_0) (S.q h_ hx389_0); x_) (fun hHeld => ?_); refine with_tabW laws_FnStreets.tab22 laws_FnStreets.bits22 (fun HT_ HW_ => ?_)
                 generalize wr.drew = w80 at HO_10 HO_11 HO_12 HB hx388_0 hx389_0 hHeld ⊢
                 refine S.pS 0 105 ?_
                 refine S.pS 1 106 ?_
                 refine S.pS 2 107 ?_
                 refine S.pS 4 109 ?_
                 refine S.pS 5 110 ?_
                 refine S.pS 6 111 ?_
                 refine S.tK 3 108 #[true, true, true, true, true, true, true, false, false, false] ?_
                 refine S.tK 7 112 #[true, true, true, true, true, true, true, true, false, false] ?_
                 refine S.oN 8 113 #[true, true, true, true, true, true, true, true, true, false] (fun K hK => ?_)
                 refine S.go Try.func21 #[.slice Ao50 t378.length co50, .int .i64 (rd t379 0), .int .i64 (rd t379 x13_2)] ?_
                 with_reducible refine (impl_Travel.calls k2 _ _ t378 (rd t379 0) (rd t379 x13_2) t390 _ ?s1 ?s2 A59.out).mono ?_
                 (case s1 => exact S.rd HO_10)
                 (case s2 => exact S.rl HO_10)
                 rintro e w81 ⟨rfl, hb⟩
                 have HS0_ := (hb.cell (World.block_lt_of_cell? _ _ (hHeld.1))).trans (hHeld.1)
                 have HS1_ := (hb.cell (World.block_lt_of_cell? _ _ (hHeld.2))).trans (hHeld.2)
                 refine ⟨_, rfl, ?_⟩
                 replace HO_10 := S.rb HO_10 hb
                 replace HO_11 := S.rb HO_11 hb
                 replace HO_12 := S.rb HO_12 hb
                 replace HB := S.sA hb
                 (try clear hb)
                 (try clear hb2)
                 (try clear hk)
                 (try clear hi)
                 refine hK.out _ _ ⟨HS0_, HS1_⟩ (fun hHeld => ?_)
                 clear hK K
                 refine S.nm 113 ?_
                 refine S.pS 9 14 ?_
                 refine done_ (done_of HT_.out (by kernel_rfl)) ?_
                 try go_wp2
                 replace HO_10 := S.dr HO_10
                 replace HO_11 := S.dr HO_11
                 replace HO_12 := S.dr HO_12
                 replace HB := Aside0.mk (below_drew1 HB.out)
                 have p391 : 0 ≤ (x13_2 : Int) := S.oD
                 have q391 : x13_2 < (t384.length : Int) := S.oD
                 obtain ⟨ad391, e391, hx391_0⟩ := Kd.at_int (Kd.R_reads' HO_12.out).2.2 x13_2 p391 q391
                 cases e391
                 replace p391 := eq_true p391
                 replace q391 := eq_true q391
                 have p392 : 0 ≤ ((ji69) : Int) := S.oD
                 have q392 : (ji69) < (t379.length : Int) := S.oD
                 obtain ⟨ad392, e392, hx392_0⟩ := Kd.at_int (Kd.R_reads' HO_11.out).2.2 (ji69) p392 q392
                 obtain rfl : ad388 = ad392 := (by injection e392)
                 replace p392 := eq_true p392
                 replace q392 := eq_true q392
                 have p396 : 0 ≤ (x13_2 : Int) := S.oD
                 have q396 : x13_2 < (t379.length : Int) := S.oD
                 obtain ⟨ad396, e396, hx396_0⟩ := Kd.at_int (Kd.R_reads' HO_11.out).2.2 x13_2 p396 q396
                 obtain rfl : ad388 = ad396 := (by injection e396)
                 replace p396 := eq_true p396
                 replace q396 := eq_true q396
                 refine S.st (n := 29) (ds := []) #[false, false, false, false, false, false, false, false, false, false, false, false, false, false, false, false, false, false, false, false, false, false, false, false, false, false, false, false, false] (fun w_ h_ => have x_ := And.intro (S.q h_ hx391_0) (And.intro (S.q h_ hx392_0) (S.q h_ hx396_0)); x_) (fun hHeld => ?_); refine with_tabW laws_FnStreets.tab23 laws_FnStreets.bits23 (fun HT_ HW_ => ?_)
                 generalize w81.drew = w82 at HO_10 HO_11 HO_12 HB hx391_0 hx392_0 hx396_0 hHeld ⊢
                 refine S.pS 0 114 ?_
                 refine S.pS 1 115 ?_
                 refine S.pS 2 116 ?_
                 refine S.pS 3 117 ?_
                 refine S.pS 4 118 ?_
                 refine S.pS 5 119 ?_
                 refine S.pS 6 120 ?_
                 refine S.tK 7 121 #[true, true, true, true, true, true, true, true, false, false, false, false, false, false, false, false, false, false, false, false, false, false, false, false, false, false, false, false, false] ?_
                 refine S.pS 8 122 ?_
                 refine S.pS 9 123 ?_
                 refine S.pS 10 124 ?_
                 refine S.pS 11 125 ?_
                 refine S.pS 12 126 ?_
                 refine S.pS 13 127 ?_
                 refine S.pS 14 128 ?_
                 refine S.pS 15 129 ?_
                 refine S.pS 16 130 ?_
                 refine S.pS 17 131 ?_
                 refine S.pS 18 132 ?_
                 refine S.pS 21 135 ?_
                 refine S.pS 22 136 ?_
                 refine S.pS 23 137 ?_
                 refine S.tK 19 133 #[true, true, true, true, true, true, true, true, true, true, true, true, true, true, true, true, true, true, true, true, false, true, true, true, false, false, false, false, false] ?_
                 refine S.tK 24 138 #[true, true, true, true, true, true, true, true, true, true, true, true, true, true, true, true, true, true, true, true, false, true, true, true, true, false, false, false, false] ?_
                 refine S.oN 20 134 #[true, true, true, true, true, true, true, true, true, true, true, true, true, true, true, true, true, true, true, true, true, true, true, true, true, false, false, false, false] (fun K hK => ?_)
                 refine goes_ Try.func34 (by kernel_rfl) rfl #[.slice Ao50 t378.length co50, .int .i64 (rd t379 (ji69))] (by rfl) rfl rfl (by (try simp only [List.map_toArray, List.map_cons, List.map_nil]); first | done | (simp only [hji69]; rfl) | rfl | (simp only [List.length_drop, List.length_take]; rfl)) ?_
                 with_reducible refine (impl_StreetsFrom.calls k2 _ _ t378 (rd t379 (ji69)) t393 _ ?s1 ?s2 A72.out).mono ?_
                 (case s1 => exact S.rd HO_10)
                 (case s2 => exact S.rl HO_10)
                 rintro e w83 ⟨v394, rfl, ho0, hb⟩
                 have HS0_ := (hb.cell (World.block_lt_of_cell? _ _ (hHeld.1))).trans (hHeld.1)
                 have HS1_ := (hb.cell (World.block_lt_of_cell? _ _ (hHeld.2.1))).trans (hHeld.2.1)
                 have HS2_ := (hb.cell (World.block_lt_of_cell? _ _ (hHeld.2.2))).trans (hHeld.2.2)
                 refine ⟨_, rfl, ?_⟩
                 replace HO_10 := S.rb HO_10 hb
                 have HO395 := Aside0.mk (Kd.R_lower (Kd.R_new' (Kd.R_new' ho0 (Kd.R_lt (S.uR HO_11.out))) (Kd.R_lt (S.uR HO_12.out))) (below_size S.bA))
                 replace HO_11 := S.re HO_11 ho0 hb
                 replace HO_12 := S.re HO_12 ho0 hb
                 replace HB := S.sA hb
                 (try clear hb)
                 (try clear hb2)
                 (try clear hk)
                 (try clear hi)
                 (try clear ho0)
                 obtain ⟨Ao84, co84, eo84⟩ := Kd.R_slice HO395.out
                 (first | subst eo84 | (injection eo84 with f1_ f2_ f3_; have f4_ := f1_.symm; have f5_ := f3_.symm; clear f1_ f2_ f3_; subst f4_; subst f5_))
                 refine hK.out _ _ ⟨HS0_, HS1_, HS2_⟩ (fun hHeld => ?_)
                 clear hK K
                 refine S.nm 134 ?_
                 refine S.oN 25 139 #[true, true, true, true, true, true, true, true, true, true, true, true, true, true, true, true, true, true, true, true, true, true, true, true, true, true, false, false, false] (fun K hK => ?_)
                 refine S.go Try.func37 #[.slice Ao84 t393.length co84, .int .i64 (rd t379 x13_2)] ?_
                 with_reducible refine (laws_contains.calls k2 _ _ t393 (rd t379 x13_2) false _ ?s1 ?s2 A73.out).mono ?_
                 (case s1 => exact S.rd HO395)
                 (case s2 => exact S.rl HO395)
                 rintro e w' ⟨rfl, ⟨nd, rfl⟩⟩
                 refine ⟨_, rfl, ?_⟩
                 refine hK.out _ _ ⟨hHeld.1, hHeld.2.1, hHeld.2.2⟩ (fun hHeld => ?_)
                 clear hK K
                 refine S.nm 139 ?_
                 refine S.pS 26 140 ?_
                 refine S.pS 27 141 ?_
                 refine S.pS 28 142 ?_
                 refine done_ (done_of HT_.out (by kernel_rfl)) ?_
                 try go_wp2
                 go_ret
                 exact ⟨by first | rfl | (simp [errW_none, errW_some] <;> rfl) | (simp only [← hji69]; first | rfl | (simp [errW_none, errW_some] <;> rfl)) | (simp [*, errW_none, errW_some] <;> rfl), S.bA⟩
               ·rw [if_neg c71] at H
                exact absurd H (by simp)
              ·rw [if_neg c70] at H
               exact absurd H (by simp)
             ·rw [if_neg c68] at H
              have c68b0 : decide (0 < x13_2) = false := decide_eq_false c68
              clear c68
              have H' := Aside0.mk H
              clear H
              try go_wp2
              replace HO_10 := S.dr HO_10
              replace HO_11 := S.dr HO_11
              replace HO_12 := S.dr HO_12
              replace HB := Aside0.mk (below_drew1 HB.out)
              have p388 : 0 ≤ (0 : Int) := (by omega)
              have q388 : 0 < (t379.length : Int) := S.oD
              obtain ⟨ad388, e388, hx388_0⟩ := Kd.at_int (Kd.R_reads' HO_11.out).2.2 0 p388 q388
              cases e388
              have qi388 : (0 < t379.length) = True := eq_true (by omega)
              (try rw [show ((0 : Int)).toNat = 0 from rfl] at hx388_0)
              (try rw [Addr.add_zero'] at hx388_0)
              replace p388 := eq_true p388
              replace q388 := eq_true q388
              have p389 : 0 ≤ (x13_2 : Int) := S.oD
              have q389 : x13_2 < (t379.length : Int) := S.oD
              obtain ⟨ad389, e389, hx389_0⟩ := Kd.at_int (Kd.R_reads' HO_11.out).2.2 x13_2 p389 q389
              obtain rfl : ad388 = ad389 := (by injection e389)
              replace p389 := eq_true p389
              replace q389 := eq_true q389
              refine S.st (n := 10) (ds := []) #[false, false, false, false, false, false, false, false, false, false] (fun w_ h_ => have x_ := And.intro (S.q h_ hx388_0) (S.q h_ hx389_0); x_) (fun hHeld => ?_); refine with_tabW laws_FnStreets.tab22 laws_FnStreets.bits22 (fun HT_ HW_ => ?_)
              generalize wr.drew = w85 at HO_10 HO_11 HO_12 HB hx388_0 hx389_0 hHeld ⊢
              refine S.pS 0 105 ?_
              refine S.pS 1 106 ?_
              refine S.pS 2 107 ?_
              refine S.pS 4 109 ?_
              refine S.pS 5 110 ?_
              refine S.pS 6 111 ?_
              refine S.tK 3 108 #[true, true, true, true, true, true, true, false, false, false] ?_
              refine S.tK 7 112 #[true, true, true, true, true, true, true, true, false, false] ?_
              refine S.oN 8 113 #[true, true, true, true, true, true, true, true, true, false] (fun K hK => ?_)
              refine S.go Try.func21 #[.slice Ao50 t378.length co50, .int .i64 (rd t379 0), .int .i64 (rd t379 x13_2)] ?_
              with_reducible refine (impl_Travel.calls k2 _ _ t378 (rd t379 0) (rd t379 x13_2) t390 _ ?s1 ?s2 A59.out).mono ?_
              (case s1 => exact S.rd HO_10)
              (case s2 => exact S.rl HO_10)
              rintro e w86 ⟨rfl, hb⟩
              have HS0_ := (hb.cell (World.block_lt_of_cell? _ _ (hHeld.1))).trans (hHeld.1)
              have HS1_ := (hb.cell (World.block_lt_of_cell? _ _ (hHeld.2))).trans (hHeld.2)
              refine ⟨_, rfl, ?_⟩
              replace HO_10 := S.rb HO_10 hb
              replace HO_11 := S.rb HO_11 hb
              replace HO_12 := S.rb HO_12 hb
              replace HB := S.sA hb
              (try clear hb)
              (try clear hb2)
              (try clear hk)
              (try clear hi)
              refine hK.out _ _ ⟨HS0_, HS1_⟩ (fun hHeld => ?_)
              clear hK K
              refine S.nm 113 ?_
              refine S.pS 9 14 ?_
              refine done_ (done_of HT_.out (by kernel_rfl)) ?_
              try go_wp2
              replace HO_10 := S.dr HO_10
              replace HO_11 := S.dr HO_11
              replace HO_12 := S.dr HO_12
              replace HB := Aside0.mk (below_drew1 HB.out)
              have p391 : 0 ≤ (x13_2 : Int) := S.oD
              have q391 : x13_2 < (t384.length : Int) := S.oD
              obtain ⟨ad391, e391, hx391_0⟩ := Kd.at_int (Kd.R_reads' HO_12.out).2.2 x13_2 p391 q391
              cases e391
              replace p391 := eq_true p391
              replace q391 := eq_true q391
              refine start_ (n := 29) (S := fun w' => w'.cell? (ad391.add (x13_2).toNat) = some (.int .i64 (rd t384 x13_2))) (ds := []) #[false, false, false, false, false, false, false, false, false, false, false, false, false, false, false, false, false, false, false, false, false, false, false, false, false, false, false, false, false] (by kernel_rfl) rfl rfl (hx391_0) (fun hHeld => ?_); refine with_tabW laws_FnStreets.tab23 laws_FnStreets.bits23 (fun HT_ HW_ => ?_)
              generalize w86.drew = w87 at HO_10 HO_11 HO_12 HB hx391_0 hHeld ⊢
              refine S.pS 0 114 ?_
              refine S.pS 1 115 ?_
              refine S.pS 2 116 ?_
              refine S.pS 3 117 ?_
              refine S.pS 4 118 ?_
              refine S.pS 5 119 ?_
              refine S.pS 6 120 ?_
              refine take_ (i := 7) (N := some 121) (v := ?_) (a' := ?_) #[true, true, true, true, true, true, true, true, false, false, false, false, false, false, false, false, false, false, false, false, false, false, false, false, false, false, false, false, false] rfl rfl (take_ofW HT_.out HW_.out (by kernel_rfl)) (fun _ _ _ h => h) (Or.inl ⟨by rfl, ?_⟩) hHeld ?_ ?_
              rotate_left
              ·intro w' s0
               go_simp
               with_reducible rfl
              rotate_left
              ·simp only [Act.put, List.setIfInBounds_toArray, List.set_cons_zero, List.set_cons_succ, i64_w, i32_w]
               rfl
              refine S.pS 8 122 ?_
              refine S.pS 9 123 ?_
              refine S.pS 10 124 ?_
              refine S.pS 11 125 ?_
              refine S.pS 12 126 ?_
              refine S.pS 13 127 ?_
              refine S.pU 14 128 ?_
              refine S.pU 15 129 ?_
              refine S.pU 16 130 ?_
              refine S.pU 17 131 ?_
              refine S.pU 18 132 ?_
              refine S.pU 19 133 ?_
              refine S.pU 20 134 ?_
              refine S.pU 21 135 ?_
              refine S.pU 22 136 ?_
              refine S.pU 23 137 ?_
              refine S.pU 24 138 ?_
              refine S.pU 25 139 ?_
              refine S.pU 26 140 ?_
              refine S.pS 27 141 ?_
              refine S.pS 28 142 ?_
              refine done_ (done_of HT_.out (by kernel_rfl)) ?_
              try go_wp2
              go_roundg k2
              case measure => have := HJ5.out; have := HK2.out; omega
              case rel => exact ⟨(wrap64 (x13_2 + 1)), S.eA, H', ⟨by have := HJ5.out; have := HK2.out; omega⟩, ⟨S.uR HO_10.out⟩, ⟨S.uR HO_11.out⟩, ⟨S.uR HO_12.out⟩, ⟨S.bA⟩⟩
          ·rw [if_neg c58] at H
           exact absurd H (by simp)
         ·rw [if_neg c57] at H
          exact absurd H (by simp)
        ·rw [if_neg c56] at H
         exact absurd H (by simp)
       ·obtain rfl := Option.some.inj H
        go_wp2
        go_ret
        exact ⟨S.eW, S.bA⟩

/-- THE ONE PURE STATEMENT of laws_FnStreets: yours. -/
def laws_FnStreets.Pure : Prop := ∀ (l0 : List Int), l0.length ≤ maxLen → l0.length * 1 ≤ 140737488351232 → (∀ x ∈ l0, (Lit.int .u8 x).wf = true) → ∃ k, laws_FnStreets.f k l0 = some true
theorem laws_FnStreets.walk (P : laws_FnStreets.Pure) (a0 : Option Addr) (len0 cap0 : Nat) (z0 : List Int) (w : World) (w0 : (a0 = none ∧ len0 = 0 ∧ cap0 = 0 ∧ z0 = []) ∨ ∃ x, a0 = some x ∧ len0 ≤ cap0 ∧ cap0 ≤ maxLen ∧ z0.length = cap0 ∧ (∀ i, i < z0.length → w.cell? (x.add i) = some (.int .u8 (z0.getD i 0))) ∧ ∀ n ∈ z0, (Lit.int .u8 n).wf = true) (y0 : len0 * 1 ≤ 140737488351232) :
  Calls Try.prog 9 #[.slice a0 len0 cap0] w fun e w' => e = .returned (.bool true) ∧ Below w.heap.size w w' := by
 obtain ⟨l0, rfl, hr0, hm0, hw0, hc0⟩ := ReadsInt.ofRowC w0
 obtain ⟨k, h⟩ := P l0 hm0 y0 hw0
 refine (laws_FnStreets.calls k _ _ l0 true w (Kd.C_of_reads (d := (0 : Int)) (h1 := fun _ => rfl) hr0) hc0 h).mono ?_
 rintro e w' ⟨rfl, hd⟩
 exact ⟨rfl, hd⟩

end Go.Proofs.Ytdaofiiedclmpaa.PFnStreets
