/- Printed by a program: what the Go functions compute, as plain Lean functions (.f), and the proofs that the machine's calls come to just that (.calls). -/
import Derived.Test.YtjgigmghcfdomaaPFnExactMakeSwitchx0
import Derived.Test.YtjgigmghcfdomaaPFnExactMakeSwitchx13
import Derived.Test.YtjgigmghcfdomaaPFnExactMakeSwitchx15
import Derived.Test.YtjgigmghcfdomaaPFnExactMakeSwitchx17
namespace Go.Proofs.Ytjgigmghcfdomaa.PFnExactMakeSwitch
open Go.RowKit Go.Proofs.YtjgigmghcfdomaaW.PrintWords Go.Proofs.YtjgigmghcfdomaaW.PrintLast Go.Proofs.YtjgigmghcfdomaaW.PrintMore
attribute [local go_sem] max2_int min2_int max_two min_two max_three min_three max_four min_four   -- for this text's walks alone
set_option linter.unusedVariables false
set_option linter.unusedSimpArgs false

/-! ### impl_IsTogether: function 104 -/
mutual
def impl_IsTogether.l0 : Nat → List (S71) → List Int → List Int → Int → Int → Option (Bool)
 | 0, _, _, _, _, _ => none
 | k + 1, x0, x1, x13, x14, x15 => if x15 < x14 then (if 0 ≤ x15 then (if x15 < (x13.length : Int) then ((impl_FindPath.f x0 (rd x13 x15)).bind fun t355 => (if t355 < 0 then (impl_IsTogether.j1 k x0 x1 x15 t355 x13 x14 x15 true) else (if x15 > 0 then (if 0 ≤ (wrap64 (x15 - 1)) then (if (wrap64 (x15 - 1)) < (x1.length : Int) then (impl_IsTogether.j1 k x0 x1 x15 t355 x13 x14 x15 (decide ((rd x13 x15) ≤ (rd x1 (wrap64 (x15 - 1)))))) else (none)) else (none)) else (impl_IsTogether.j1 k x0 x1 x15 t355 x13 x14 x15 false)))) else (none)) else (none)) else (some true)
def impl_IsTogether.j1 : Nat → List (S71) → List Int → Int → Int → List Int → Int → Int → Bool → Option (Bool)
 | 0, _, _, _, _, _, _, _, _ => none
 | k + 1, x0, x1, x5, x7, x13, x14, x15, x37 => if x37 = true then (some false) else (if 0 ≤ x5 then (if x5 ≤ (x1.length : Int) then (impl_IsTogether.l1 k x0 x1 x7 x13 x14 x15 (x1.take (x5 : Int).toNat) ((x1.take (x5 : Int).toNat).length : Int) 0) else (none)) else (none))
def impl_IsTogether.l1 : Nat → List (S71) → List Int → Int → List Int → Int → Int → List Int → Int → Int → Option (Bool)
 | 0, _, _, _, _, _, _, _, _, _ => none
 | k + 1, x0, x1, x7, x13, x14, x15, x40, x41, x42 => if x42 < x41 then (if 0 ≤ x42 then (if x42 < (x40.length : Int) then (if 0 ≤ x7 then (if x7 < (x0.length : Int) then ((impl_FindPath.f x0 (rd x40 x42)).bind fun t360 => (if 0 ≤ t360 then (if t360 < (x0.length : Int) then ((impl_Conflict.f k ((rd_T71 x0 x7).f0) ((rd_T71 x0 x7).f1) ((rd_T71 x0 x7).f2) ((rd_T71 x0 x7).f3) ((rd_T71 x0 t360).f0) ((rd_T71 x0 t360).f1) ((rd_T71 x0 t360).f2) ((rd_T71 x0 t360).f3)).bind fun t362 => (if t362 = true then (some false) else (impl_IsTogether.l1 k x0 x1 x7 x13 x14 x15 x40 x41 (wrap64 (x42 + 1))))) else (none)) else (none))) else (none)) else (none)) else (none)) else (none)) else (impl_IsTogether.l0 k x0 x1 x13 x14 (wrap64 (x15 + 1)))
end
def impl_IsTogether.f (k : Nat) (l0 : List (S71)) (l1 : List Int) : Option (Bool) := (impl_ArePaths.f k l0).bind fun t353 => (if t353 = true then (impl_IsTogether.l0 k l0 l1 l1 (l1.length : Int) 0) else (some false))
def impl_IsTogether.T12 : Bool × List (List Nat × List Nat) := (true, [([], []), ([], []), ([0, 1], [0, 1]), ([2], [2]), ([], []), ([], []), ([], []), ([5, 6], [5, 6]), ([4, 7], [4, 7]), ([8], [8]), ([3, 9, 7], [3, 9])])
def impl_IsTogether.B12 : List Nat := [0, 0, 3, 7, 0, 0, 0, 96, 240, 496, 1023]
theorem impl_IsTogether.tab12 : rtab .any (opsOf Try.f104 12) = impl_IsTogether.T12 := by kernel_rfl
theorem impl_IsTogether.bits12 : waitsOk impl_IsTogether.T12.2 impl_IsTogether.B12 = true := by kernel_rfl
set_option maxHeartbeats 8000000 in
set_option maxRecDepth 100000 in
theorem impl_IsTogether.calls (k : Nat) (A0 : Option Addr) (c0 : Nat) (l0 : List (S71)) (A1 : Option Addr) (c1 : Nat) (l1 : List Int) (r : Bool) (w : World) (hr0 : Kd.C k71 w A0 l0.length l0) (hc0 : l0.length ≤ c0) (hr1 : Kd.C (Kd.int .i64) w A1 l1.length l1) (hc1 : l1.length ≤ c1) (h : impl_IsTogether.f k l0 l1 = some r) :
  Calls Try.prog 104 #[.slice A0 l0.length c0, .slice A1 l1.length c1] w fun e w' => e = .returned (.bool r) ∧ Below w.heap.size w w' := by
 have hu71 := Try.underlying71
 have HR0 := Aside0.mk hr0
 have HC0 := Aside0.mk hc0
 clear hr0 hc0
 have HR1 := Aside0.mk hr1
 have HC1 := Aside0.mk hc1
 clear hr1 hc1
 have HB := Aside0.mk (Below.refl w.heap.size w)
 have H : ((impl_ArePaths.f k l0).bind fun t353 => (if t353 = true then (impl_IsTogether.l0 k l0 l1 l1 (l1.length : Int) 0) else (some false))) = some r := h
 clear h
 replace H := S.bd H; obtain ⟨t353, A3, H⟩ := H
 (try dsimp only at H)
 replace H := S.db H; rcases H with ⟨rfl, H⟩ | ⟨rfl, H⟩
 ·have H' := Aside0.mk H
  clear H
  go_enter Try.func104, Try.ntmps104
  go_wp2_with (first | ((with_reducible refine gate_callee (f := 88) rfl ?_); refine S.gL (some 11) Try.func88 #[.slice A0 l0.length c0] ?_; (with_reducible refine (impl_ArePaths.calls k _ _ l0 true _ ?s1 HC0.out A3.out).mono ?_); (case s1 => repeat (first | exact HR0.out | (with_reducible refine Kd.C_alloc ?_ _) | (with_reducible refine Kd.C_drewN ?_ _) | (with_reducible refine Kd.C_drew ?_))); rintro e w5 ⟨rfl, hb⟩; refine ⟨_, rfl, ?_⟩; replace HB := S.sA hb; (try clear hb)))
  go_loopg [15] k (fun kq v15 w' => ∃ (x15_1 : Int), v15 = .int .i64 x15_1 ∧ Aside0 (impl_IsTogether.l0 kq l0 l1 l1 (l1.length : Int) x15_1 = some r) ∧ Aside0 (kq ≤ k) ∧ Aside0 (Below w.heap.size w w'))
  case atStart => exact ⟨(0), S.eA, H', ⟨Nat.le_refl _⟩, ⟨S.bA⟩⟩
  case round =>
   clear H'
   try clear c1
   try clear c4
   obtain ⟨x15_1, rfl, HA, HK1, HB⟩ := hrel
   cases gk with
   | zero => exact absurd HA.out (by simp [impl_IsTogether.l0])
   | succ k1 =>
    have H := HA.out
    clear HA
    simp only [impl_IsTogether.l0] at H
    replace H := S.dc H; rcases H with ⟨H, c6b0⟩ | ⟨H, c6b0⟩
    ·by_cases c7 : 0 ≤ x15_1
     ·rw [if_pos c7] at H
      have c7b0 : decide (0 ≤ x15_1) = true := decide_eq_true c7
      clear c7
      by_cases c8 : x15_1 < (l1.length : Int)
      ·rw [if_pos c8] at H
       have c8b0 : decide (x15_1 < (l1.length : Int)) = true := decide_eq_true c8
       clear c8
       replace H := S.bd H; obtain ⟨t355, A9, H⟩ := H
       (try dsimp only at H)
       have HC10 := Aside0.mk H
       clear H
       have p354 : 0 ≤ (x15_1 : Int) := S.oD
       have q354 : x15_1 < (l1.length : Int) := S.oD
       obtain ⟨ad354, e354, hx354_0⟩ := Kd.at_int HR1.out x15_1 p354 q354
       cases e354
       replace hx354_0 := S.hb HB hx354_0
       replace p354 := eq_true p354
       replace q354 := eq_true q354
       go_upto_region 7 with (first | ((with_reducible refine gate_callee (f := 83) rfl ?_); refine S.gL (some 22) Try.func83 #[.slice A0 l0.length c0, .int .i64 (rd l1 x15_1)] ?_; (with_reducible refine (impl_FindPath.calls _ _ l0 (rd l1 x15_1) t355 _ ?s1 HC0.out A9.out).mono ?_); (case s1 => exact S.cA HR0.out); rintro e w11 ⟨rfl, hb⟩; refine ⟨_, rfl, ?_⟩; replace HB := S.sA hb; (try clear hb)))
       (try simp only [Act.put, List.setIfInBounds_toArray, List.set_cons_zero, List.set_cons_succ])
       go_cut [37] (fun v37 wc => ∃ (kq : Nat) (x37_9 : Bool), v37 = .bool x37_9 ∧ Aside0 (impl_IsTogether.j1 kq l0 l1 x15_1 t355 l1 (l1.length : Int) x15_1 x37_9 = some r) ∧ Aside0 (kq ≤ k1) ∧ Aside0 (Below w.heap.size w wc))
       case first =>
        have H := HC10.out
        clear HC10
        replace H := S.dc H; rcases H with ⟨H, c12b0⟩ | ⟨H, c12b0⟩
        ·(first | rw [c12b0] | (simp only [i64_w, i32_w]; rw [c12b0]) | skip)
         have H' := Aside0.mk H
         clear H
         go_wp2
         go_meet
         case rel => exact ⟨_, (true), S.eA, H', ⟨by have := HK1.out; first | omega | exact Nat.le_refl _⟩, ⟨S.bA⟩⟩
        ·(first | rw [c12b0] | (simp only [i64_w, i32_w]; rw [c12b0]) | skip)
         by_cases c13 : x15_1 > 0
         ·rw [if_pos c13] at H
          have c13b0 : decide (0 < x15_1) = true := decide_eq_true c13
          clear c13
          obtain ⟨ji14, hji14⟩ : ∃ j_ : Int, (wrap64 (x15_1 - 1)) = j_ := ⟨_, rfl⟩
          replace H : (if 0 ≤ (ji14) then (if (ji14) < (l1.length : Int) then (impl_IsTogether.j1 k1 l0 l1 x15_1 t355 l1 (l1.length : Int) x15_1 (decide ((rd l1 x15_1) ≤ (rd l1 (ji14))))) else (none)) else (none)) = some r := by first | (rw [hji14] at H; exact H) | (simp only [hji14] at H ⊢; exact H)
          have hji14w : (IntKind.i64.wrap (x15_1 - 1)) = ji14 := (i64_w _).trans hji14
          by_cases c15 : 0 ≤ (ji14)
          ·rw [if_pos c15] at H
           have c15b0 : decide (0 ≤ (ji14)) = true := decide_eq_true c15
           clear c15
           by_cases c16 : (ji14) < (l1.length : Int)
           ·rw [if_pos c16] at H
            have c16b0 : decide ((ji14) < (l1.length : Int)) = true := decide_eq_true c16
            clear c16
            have H' := Aside0.mk H
            clear H
            have p356 : 0 ≤ ((ji14) : Int) := S.oD
            have q356 : (ji14) < (l1.length : Int) := S.oD
            obtain ⟨ad356, e356, hx356_0⟩ := Kd.at_int HR1.out (ji14) p356 q356
            obtain rfl : ad354 = ad356 := (by injection e356)
            replace hx356_0 := S.hb HB hx356_0
            replace p356 := eq_true p356
            replace q356 := eq_true q356
            go_wp2
            go_meet
            case rel => exact ⟨_, (decide ((rd l1 x15_1) ≤ (rd l1 (ji14)))), (by first | rfl | (simp; done) | (simp only [← hji14] <;> (first | rfl | simp)) | (simp [*]; done)), H', ⟨by have := HK1.out; first | omega | exact Nat.le_refl _⟩, ⟨S.bA⟩⟩
           ·rw [if_neg c16] at H
            exact absurd H (by simp)
          ·rw [if_neg c15] at H
           exact absurd H (by simp)
         ·rw [if_neg c13] at H
          have c13b0 : decide (0 < x15_1) = false := decide_eq_false c13
          clear c13
          have H' := Aside0.mk H
          clear H
          go_wp2
          go_meet
          case rel => exact ⟨_, (false), S.eA, H', ⟨by have := HK1.out; first | omega | exact Nat.le_refl _⟩, ⟨S.bA⟩⟩
       case rest =>
        clear HC10
        try clear c1
        try clear c4
        try clear c6
        try clear c6b0
        try clear c7
        try clear c7b0
        try clear c8
        try clear c8b0
        try clear hx354_0
        try clear p354
        try clear q354
        obtain ⟨kq, x37_9, rfl, HA, HJ9, HB⟩ := hcut
        cases kq with
        | zero => exact absurd HA.out (by simp [impl_IsTogether.j1])
        | succ kj9 =>
         have H := HA.out
         clear HA
         simp only [impl_IsTogether.j1] at H
         replace H := S.db H; rcases H with ⟨rfl, H⟩ | ⟨rfl, H⟩
         ·obtain rfl := Option.some.inj H
          go_wp2
          go_ret
          exact ⟨S.eW, S.bA⟩
         ·by_cases c18 : 0 ≤ x15_1
          ·rw [if_pos c18] at H
           have c18b0 := eq_true c18
           have c18b1 : decide (0 ≤ x15_1) = true := decide_eq_true c18
           clear c18
           by_cases c19 : x15_1 ≤ (l1.length : Int)
           ·rw [if_pos c19] at H
            have c19b0 := eq_true c19
            have c19b1 : decide (x15_1 ≤ (l1.length : Int)) = true := decide_eq_true c19
            clear c19
            have H' := Aside0.mk H
            clear H
            obtain ⟨i020, hi020, _, hsz20, _⟩ := info_parts info3
            obtain ⟨hcut20, hA20, hC20⟩ := print_take_of (P := Try.prog) (Value.int .i64) 0 36 3 .i64 Try.underlying36 hi020 hsz20 (some ad354) c1 l1 x15_1 (S.oD) (S.oD) HC1.out
            have HR357 := Aside0.mk (Kd.C_of_reads (h1 := fun _ => rfl) (hA20 _ (Kd.reads_of_C HR1.out)))
            have HC357 := Aside0.mk hC20
            clear hA20 hC20 hi020 hsz20
            generalize l1.take (x15_1 : Int).toNat = yt20 at H' HR357 HC357 hcut20 ⊢
            go_wp2
            go_loopg [42] kj9 (fun kq v42 w' => ∃ (x42_3 : Int), v42 = .int .i64 x42_3 ∧ Aside0 (impl_IsTogether.l1 kq l0 l1 t355 l1 (l1.length : Int) x15_1 yt20 (yt20.length : Int) x42_3 = some r) ∧ Aside0 (kq ≤ kj9) ∧ Aside0 (Below w.heap.size w w'))
            case atStart => exact ⟨(0), S.eA, H', ⟨Nat.le_refl _⟩, ⟨S.bA⟩⟩
            case round =>
             clear H'
             try clear c1
             try clear c4
             try clear c6
             try clear c6b0
             try clear c7
             try clear c7b0
             try clear c8
             try clear c8b0
             try clear c17
             try clear c18
             try clear c18b0
             try clear c18b1
             try clear c19
             try clear c19b0
             try clear c19b1
             try clear hx354_0
             try clear p354
             try clear q354
             obtain ⟨x42_3, rfl, HA, HK3, HB⟩ := hrel
             cases gk with
             | zero => exact absurd HA.out (by simp [impl_IsTogether.l1])
             | succ k3 =>
              have H := HA.out
              clear HA
              simp only [impl_IsTogether.l1] at H
              replace H := S.dc H; rcases H with ⟨H, c21b0⟩ | ⟨H, c21b0⟩
              ·by_cases c22 : 0 ≤ x42_3
               ·rw [if_pos c22] at H
                have c22b0 : decide (0 ≤ x42_3) = true := decide_eq_true c22
                clear c22
                by_cases c23 : x42_3 < (yt20.length : Int)
                ·rw [if_pos c23] at H
                 have c23b0 : decide (x42_3 < (yt20.length : Int)) = true := decide_eq_true c23
                 clear c23
                 by_cases c24 : 0 ≤ t355
                 ·rw [if_pos c24] at H
                  have c24b0 : decide (0 ≤ t355) = true := decide_eq_true c24
                  clear c24
                  by_cases c25 : t355 < (l0.length : Int)
                  ·rw [if_pos c25] at H
                   have c25b0 : decide (t355 < (l0.length : Int)) = true := decide_eq_true c25
                   clear c25
                   replace H := S.bd H; obtain ⟨t360, A26, H⟩ := H
                   (try dsimp only at H)
                   by_cases c27 : 0 ≤ t360
                   ·rw [if_pos c27] at H
                    have c27b0 : decide (0 ≤ t360) = true := decide_eq_true c27
                    clear c27
                    by_cases c28 : t360 < (l0.length : Int)
                    ·rw [if_pos c28] at H
                     have c28b0 : decide (t360 < (l0.length : Int)) = true := decide_eq_true c28
                     clear c28
                     replace H := S.bd H; obtain ⟨t362, A29, H⟩ := H
                     (try dsimp only at H)
                     replace H := S.db H; rcases H with ⟨rfl, H⟩ | ⟨rfl, H⟩
                     ·obtain rfl := Option.some.inj H
                      have p358 : 0 ≤ (x42_3 : Int) := S.oD
                      have q358 : x42_3 < (yt20.length : Int) := S.oD
                      obtain ⟨ad358, e358, hx358_0⟩ := Kd.at_int HR357.out x42_3 p358 q358
                      obtain rfl : ad354 = ad358 := (by injection e358)
                      replace hx358_0 := S.hb HB hx358_0
                      replace p358 := eq_true p358
                      replace q358 := eq_true q358
                      try go_wp2
                      replace HB := Aside0.mk (below_drew1 HB.out)
                      have p359 : 0 ≤ (t355 : Int) := S.oD
                      have q359 : t355 < (l0.length : Int) := S.oD
                      obtain ⟨ad359, e359, hx359_0, hx359_1, hx359_2, hx359_3⟩ := at_T71 HR0.out t355 p359 q359
                      have hw359_3 := hx359_3
                      have hw359_2 := hx359_2
                      have hw359_1 := hx359_1
                      have hw359_0 := hx359_0
                      cases e359
                      replace hx359_0 := S.hb HB hx359_0
                      replace hx359_1 := S.hb HB hx359_1
                      replace hx359_2 := S.hb HB hx359_2
                      replace hx359_3 := S.hb HB hx359_3
                      replace p359 := eq_true p359
                      replace q359 := eq_true q359
                      have p361 : 0 ≤ (t360 : Int) := S.oD
                      have q361 : t360 < (l0.length : Int) := S.oD
                      obtain ⟨ad361, e361, hx361_0, hx361_1, hx361_2, hx361_3⟩ := at_T71 HR0.out t360 p361 q361
                      have hw361_3 := hx361_3
                      have hw361_2 := hx361_2
                      have hw361_1 := hx361_1
                      have hw361_0 := hx361_0
                      obtain rfl : ad359 = ad361 := (by injection e361)
                      replace hx361_0 := S.hb HB hx361_0
                      replace hx361_1 := S.hb HB hx361_1
                      replace hx361_2 := S.hb HB hx361_2
                      replace hx361_3 := S.hb HB hx361_3
                      replace p361 := eq_true p361
                      replace q361 := eq_true q361
                      refine S.st (n := 11) (ds := []) #[false, false, false, false, false, false, false, false, false, false, false] (fun w_ h_ => have x_ := And.intro (S.q h_ (S.hb HB hw359_0)) (And.intro (S.q h_ (S.hb HB hw359_1)) (And.intro (S.q h_ (S.hb HB hw359_2)) (And.intro (S.q h_ (S.hb HB hw359_3)) (And.intro (S.q h_ (S.hb HB hw361_0)) (And.intro (S.q h_ (S.hb HB hw361_1)) (And.intro (S.q h_ (S.hb HB hw361_2)) (S.q h_ (S.hb HB hw361_3)))))))); x_) (fun hHeld => ?_); refine with_tabW impl_IsTogether.tab12 impl_IsTogether.bits12 (fun HT_ HW_ => ?_)
                      generalize wr.drew = w31 at HB hx359_0 hx359_1 hx359_2 hx359_3 hx361_0 hx361_1 hx361_2 hx361_3 hHeld ⊢
                      refine S.pS 0 46 ?_
                      refine S.pS 1 47 ?_
                      refine S.pS 2 48 ?_
                      refine S.pS 4 50 ?_
                      refine S.pS 5 51 ?_
                      refine S.pS 6 52 ?_
                      refine S.tK 3 49 #[true, true, true, true, true, true, true, false, false, false, false] ?_
                      refine S.oN 7 53 #[true, true, true, true, true, true, true, true, false, false, false] (fun K hK => ?_)
                      refine S.go Try.func83 #[.slice (some ad359) l0.length c0, .int .i64 (rd yt20 x42_3)] ?_
                      with_reducible refine (impl_FindPath.calls _ _ l0 (rd yt20 x42_3) t360 _ ?s1 ?s2 A26.out).mono ?_
                      (case s1 => exact S.cA HR0.out)
                      (case s2 => exact HC0.out)
                      rintro e w32 ⟨rfl, hb⟩
                      refine ⟨_, rfl, ?_⟩
                      replace HB := S.sA hb
                      (try clear hb)
                      (try clear hb2)
                      (try clear hk)
                      (try clear hi)
                      refine hK.out _ _ ⟨(S.hb HB hw359_0 :), (S.hb HB hw359_1 :), (S.hb HB hw359_2 :), (S.hb HB hw359_3 :), (S.hb HB hw361_0 :), (S.hb HB hw361_1 :), (S.hb HB hw361_2 :), (S.hb HB hw361_3 :)⟩ (fun hHeld => ?_)
                      clear hK K
                      refine S.nm 53 ?_
                      refine S.pS 8 54 ?_
                      refine S.tK 9 55 #[true, true, true, true, true, true, true, true, true, true, false] ?_
                      refine S.oN 10 56 #[true, true, true, true, true, true, true, true, true, true, true] (fun K hK => ?_)
                      refine S.go Try.func89 #[.agg #[.int .i64 ((rd_T71 l0 t355).f0), .int .i64 ((rd_T71 l0 t355).f1), .int .i64 ((rd_T71 l0 t355).f2), .int .i64 ((rd_T71 l0 t355).f3)], .agg #[.int .i64 ((rd_T71 l0 t360).f0), .int .i64 ((rd_T71 l0 t360).f1), .int .i64 ((rd_T71 l0 t360).f2), .int .i64 ((rd_T71 l0 t360).f3)]] ?_
                      with_reducible refine (impl_Conflict.calls k3 ((rd_T71 l0 t355).f0) ((rd_T71 l0 t355).f1) ((rd_T71 l0 t355).f2) ((rd_T71 l0 t355).f3) ((rd_T71 l0 t360).f0) ((rd_T71 l0 t360).f1) ((rd_T71 l0 t360).f2) ((rd_T71 l0 t360).f3) true _ A29.out).mono ?_
                      rintro e w33 ⟨rfl, hb⟩
                      refine ⟨_, rfl, ?_⟩
                      replace HB := S.sA hb
                      (try clear hb)
                      (try clear hb2)
                      (try clear hk)
                      (try clear hi)
                      refine hK.out _ _ ⟨(S.hb HB hw359_0 :), (S.hb HB hw359_1 :), (S.hb HB hw359_2 :), (S.hb HB hw359_3 :), (S.hb HB hw361_0 :), (S.hb HB hw361_1 :), (S.hb HB hw361_2 :), (S.hb HB hw361_3 :)⟩ (fun hHeld => ?_)
                      clear hK K
                      refine S.nm 56 ?_
                      refine done_ (done_of HT_.out (by kernel_rfl)) ?_
                      try go_wp2
                      go_ret
                      exact ⟨S.eW, S.bA⟩
                     ·have H' := Aside0.mk H
                      clear H
                      have p358 : 0 ≤ (x42_3 : Int) := S.oD
                      have q358 : x42_3 < (yt20.length : Int) := S.oD
                      obtain ⟨ad358, e358, hx358_0⟩ := Kd.at_int HR357.out x42_3 p358 q358
                      obtain rfl : ad354 = ad358 := (by injection e358)
                      replace hx358_0 := S.hb HB hx358_0
                      replace p358 := eq_true p358
                      replace q358 := eq_true q358
                      try go_wp2
                      replace HB := Aside0.mk (below_drew1 HB.out)
                      have p359 : 0 ≤ (t355 : Int) := S.oD
                      have q359 : t355 < (l0.length : Int) := S.oD
                      obtain ⟨ad359, e359, hx359_0, hx359_1, hx359_2, hx359_3⟩ := at_T71 HR0.out t355 p359 q359
                      have hw359_3 := hx359_3
                      have hw359_2 := hx359_2
                      have hw359_1 := hx359_1
                      have hw359_0 := hx359_0
                      cases e359
                      replace hx359_0 := S.hb HB hx359_0
                      replace hx359_1 := S.hb HB hx359_1
                      replace hx359_2 := S.hb HB hx359_2
                      replace hx359_3 := S.hb HB hx359_3
                      replace p359 := eq_true p359
                      replace q359 := eq_true q359
                      have p361 : 0 ≤ (t360 : Int) := S.oD
                      have q361 : t360 < (l0.length : Int) := S.oD
                      obtain ⟨ad361, e361, hx361_0, hx361_1, hx361_2, hx361_3⟩ := at_T71 HR0.out t360 p361 q361
                      have hw361_3 := hx361_3
                      have hw361_2 := hx361_2
                      have hw361_1 := hx361_1
                      have hw361_0 := hx361_0
                      obtain rfl : ad359 = ad361 := (by injection e361)
                      replace hx361_0 := S.hb HB hx361_0
                      replace hx361_1 := S.hb HB hx361_1
                      replace hx361_2 := S.hb HB hx361_2
                      replace hx361_3 := S.hb HB hx361_3
                      replace p361 := eq_true p361
                      replace q361 := eq_true q361
                      refine S.st (n := 11) (ds := []) #[false, false, false, false, false, false, false, false, false, false, false] (fun w_ h_ => have x_ := And.intro (S.q h_ (S.hb HB hw359_0)) (And.intro (S.q h_ (S.hb HB hw359_1)) (And.intro (S.q h_ (S.hb HB hw359_2)) (And.intro (S.q h_ (S.hb HB hw359_3)) (And.intro (S.q h_ (S.hb HB hw361_0)) (And.intro (S.q h_ (S.hb HB hw361_1)) (And.intro (S.q h_ (S.hb HB hw361_2)) (S.q h_ (S.hb HB hw361_3)))))))); x_) (fun hHeld => ?_); refine with_tabW impl_IsTogether.tab12 impl_IsTogether.bits12 (fun HT_ HW_ => ?_)
                      generalize wr.drew = w34 at HB hx359_0 hx359_1 hx359_2 hx359_3 hx361_0 hx361_1 hx361_2 hx361_3 hHeld ⊢
                      refine S.pS 0 46 ?_
                      refine S.pS 1 47 ?_
                      refine S.pS 2 48 ?_
                      refine S.pS 4 50 ?_
                      refine S.pS 5 51 ?_
                      refine S.pS 6 52 ?_
                      refine S.tK 3 49 #[true, true, true, true, true, true, true, false, false, false, false] ?_
                      refine S.oN 7 53 #[true, true, true, true, true, true, true, true, false, false, false] (fun K hK => ?_)
                      refine S.go Try.func83 #[.slice (some ad359) l0.length c0, .int .i64 (rd yt20 x42_3)] ?_
                      with_reducible refine (impl_FindPath.calls _ _ l0 (rd yt20 x42_3) t360 _ ?s1 ?s2 A26.out).mono ?_
                      (case s1 => exact S.cA HR0.out)
                      (case s2 => exact HC0.out)
                      rintro e w35 ⟨rfl, hb⟩
                      refine ⟨_, rfl, ?_⟩
                      replace HB := S.sA hb
                      (try clear hb)
                      (try clear hb2)
                      (try clear hk)
                      (try clear hi)
                      refine hK.out _ _ ⟨(S.hb HB hw359_0 :), (S.hb HB hw359_1 :), (S.hb HB hw359_2 :), (S.hb HB hw359_3 :), (S.hb HB hw361_0 :), (S.hb HB hw361_1 :), (S.hb HB hw361_2 :), (S.hb HB hw361_3 :)⟩ (fun hHeld => ?_)
                      clear hK K
                      refine S.nm 53 ?_
                      refine S.pS 8 54 ?_
                      refine S.tK 9 55 #[true, true, true, true, true, true, true, true, true, true, false] ?_
                      refine S.oN 10 56 #[true, true, true, true, true, true, true, true, true, true, true] (fun K hK => ?_)
                      refine S.go Try.func89 #[.agg #[.int .i64 ((rd_T71 l0 t355).f0), .int .i64 ((rd_T71 l0 t355).f1), .int .i64 ((rd_T71 l0 t355).f2), .int .i64 ((rd_T71 l0 t355).f3)], .agg #[.int .i64 ((rd_T71 l0 t360).f0), .int .i64 ((rd_T71 l0 t360).f1), .int .i64 ((rd_T71 l0 t360).f2), .int .i64 ((rd_T71 l0 t360).f3)]] ?_
                      with_reducible refine (impl_Conflict.calls k3 ((rd_T71 l0 t355).f0) ((rd_T71 l0 t355).f1) ((rd_T71 l0 t355).f2) ((rd_T71 l0 t355).f3) ((rd_T71 l0 t360).f0) ((rd_T71 l0 t360).f1) ((rd_T71 l0 t360).f2) ((rd_T71 l0 t360).f3) false _ A29.out).mono ?_
                      rintro e w36 ⟨rfl, hb⟩
                      refine ⟨_, rfl, ?_⟩
                      replace HB := S.sA hb
                      (try clear hb)
                      (try clear hb2)
                      (try clear hk)
                      (try clear hi)
                      refine hK.out _ _ ⟨(S.hb HB hw359_0 :), (S.hb HB hw359_1 :), (S.hb HB hw359_2 :), (S.hb HB hw359_3 :), (S.hb HB hw361_0 :), (S.hb HB hw361_1 :), (S.hb HB hw361_2 :), (S.hb HB hw361_3 :)⟩ (fun hHeld => ?_)
                      clear hK K
                      refine S.nm 56 ?_
                      refine done_ (done_of HT_.out (by kernel_rfl)) ?_
                      try go_wp2
                      go_roundg k3
                      case measure => have := HK1.out; have := HJ9.out; have := HK3.out; omega
                      case rel => exact ⟨(wrap64 (x42_3 + 1)), S.eA, H', ⟨by have := HK1.out; have := HJ9.out; have := HK3.out; omega⟩, ⟨S.bA⟩⟩
                    ·rw [if_neg c28] at H
                     exact absurd H (by simp)
                   ·rw [if_neg c27] at H
                    exact absurd H (by simp)
                  ·rw [if_neg c25] at H
                   exact absurd H (by simp)
                 ·rw [if_neg c24] at H
                  exact absurd H (by simp)
                ·rw [if_neg c23] at H
                 exact absurd H (by simp)
               ·rw [if_neg c22] at H
                exact absurd H (by simp)
              ·have H' := Aside0.mk H
               clear H
               go_wp2
               go_roundg k3
               case measure => have := HK1.out; have := HJ9.out; have := HK3.out; omega
               case rel => exact ⟨(wrap64 (x15_1 + 1)), S.eA, H', ⟨by have := HK1.out; have := HJ9.out; have := HK3.out; omega⟩, ⟨S.bA⟩⟩
           ·rw [if_neg c19] at H
            exact absurd H (by simp)
          ·rw [if_neg c18] at H
           exact absurd H (by simp)
      ·rw [if_neg c8] at H
       exact absurd H (by simp)
     ·rw [if_neg c7] at H
      exact absurd H (by simp)
    ·obtain rfl := Option.some.inj H
     go_wp2
     go_ret
     exact ⟨S.eW, S.bA⟩
 ·obtain rfl := Option.some.inj H
  go_enter Try.func104, Try.ntmps104
  go_wp2_with (first | ((with_reducible refine gate_callee (f := 88) rfl ?_); refine S.gL (some 11) Try.func88 #[.slice A0 l0.length c0] ?_; (with_reducible refine (impl_ArePaths.calls k _ _ l0 false _ ?s1 HC0.out A3.out).mono ?_); (case s1 => repeat (first | exact HR0.out | (with_reducible refine Kd.C_alloc ?_ _) | (with_reducible refine Kd.C_drewN ?_ _) | (with_reducible refine Kd.C_drew ?_))); rintro e w37 ⟨rfl, hb⟩; refine ⟨_, rfl, ?_⟩; replace HB := S.sA hb; (try clear hb)))
  go_ret
  exact ⟨S.eW, S.bA⟩

end Go.Proofs.Ytjgigmghcfdomaa.PFnExactMakeSwitch
