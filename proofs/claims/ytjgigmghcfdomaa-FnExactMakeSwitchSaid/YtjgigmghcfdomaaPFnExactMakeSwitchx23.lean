/- Printed by a program: what the Go functions compute, as plain Lean functions (.f), and the proofs that the machine's calls come to just that (.calls). -/
import Derived.Test.YtjgigmghcfdomaaPFnExactMakeSwitchx0
import Derived.Test.YtjgigmghcfdomaaPFnExactMakeSwitchx20
import Derived.Test.YtjgigmghcfdomaaPFnExactMakeSwitchx21
import Derived.Test.YtjgigmghcfdomaaPFnExactMakeSwitchx22
namespace Go.Proofs.Ytjgigmghcfdomaa.PFnExactMakeSwitch
open Go.RowKit Go.Proofs.YtjgigmghcfdomaaW.PrintWords Go.Proofs.YtjgigmghcfdomaaW.PrintLast Go.Proofs.YtjgigmghcfdomaaW.PrintMore
attribute [local go_sem] max2_int min2_int max_two min_two max_three min_three max_four min_four   -- for this text's walks alone
set_option linter.unusedVariables false
set_option linter.unusedSimpArgs false

/-! ### impl_longOf: function 81 -/
def impl_longOf.f (k : Nat) (l0 : List (S71)) (l1 : List (S85)) (a2 : Int) : Option (Int) := if 0 ≤ a2 then (if a2 < (l1.length : Int) then ((impl_nextStage.f l1 a2).bind fun t420 => ((impl_ClearBetween.f k l0 ((rd_T85 l1 a2).f0) t420).bind fun t423 => (some (wrap64 (((rd_T85 l1 a2).f1) + t423))))) else (none)) else (none)
def impl_longOf.T1 : Bool × List (List Nat × List Nat) := (true, [([], []), ([], []), ([0, 1], [0, 1]), ([2], [2]), ([3], [3]), ([], []), ([], []), ([], []), ([6, 7], [6, 7]), ([8], [8]), ([9], [9]), ([], []), ([], []), ([11, 12], [11, 12]), ([5, 10, 13, 13], [5, 10, 13]), ([4, 14], [4, 14]), ([15, 14, 0, 1, 2, 3, 4, 5, 6, 7, 8, 9, 10, 11, 12, 13, 14, 15], [15])])
def impl_longOf.B1 : List Nat := [0, 0, 3, 7, 15, 0, 0, 0, 192, 448, 960, 0, 0, 6144, 16352, 32767, 65535]
theorem impl_longOf.tab1 : rtab .any (opsOf Try.f81 1) = impl_longOf.T1 := by kernel_rfl
theorem impl_longOf.bits1 : waitsOk impl_longOf.T1.2 impl_longOf.B1 = true := by kernel_rfl
set_option maxHeartbeats 8000000 in
set_option maxRecDepth 100000 in
theorem impl_longOf.calls (k : Nat) (A0 : Option Addr) (c0 : Nat) (l0 : List (S71)) (A1 : Option Addr) (c1 : Nat) (l1 : List (S85)) (a2 : Int) (r : Int) (w : World) (hr0 : Kd.C k71 w A0 l0.length l0) (hc0 : l0.length ≤ c0) (hr1 : Kd.C k85 w A1 l1.length l1) (hc1 : l1.length ≤ c1) (h : impl_longOf.f k l0 l1 a2 = some r) :
  Calls Try.prog 81 #[.slice A0 l0.length c0, .slice A1 l1.length c1, .int .i64 a2] w fun e w' => e = .returned (.int .i64 r) ∧ Below w.heap.size w w' := by
 have HR0 := Aside0.mk hr0
 have HC0 := Aside0.mk hc0
 clear hr0 hc0
 have HR1 := Aside0.mk hr1
 have HC1 := Aside0.mk hc1
 clear hr1 hc1
 have HB := Aside0.mk (Below.refl w.heap.size w)
 have H : (if 0 ≤ a2 then (if a2 < (l1.length : Int) then ((impl_nextStage.f l1 a2).bind fun t420 => ((impl_ClearBetween.f k l0 ((rd_T85 l1 a2).f0) t420).bind fun t423 => (some (wrap64 (((rd_T85 l1 a2).f1) + t423))))) else (none)) else (none)) = some r := h
 clear h
 by_cases c4 : 0 ≤ a2
 ·rw [if_pos c4] at H
  have c4b0 : decide (0 ≤ a2) = true := decide_eq_true c4
  clear c4
  by_cases c5 : a2 < (l1.length : Int)
  ·rw [if_pos c5] at H
   have c5b0 : decide (a2 < (l1.length : Int)) = true := decide_eq_true c5
   clear c5
   replace H := S.bd H; obtain ⟨t420, A6, H⟩ := H
   (try dsimp only at H)
   replace H := S.bd H; obtain ⟨t423, A7, H⟩ := H
   (try dsimp only at H)
   obtain rfl := Option.some.inj H
   go_enter Try.func81, Try.ntmps81
   try go_wp2
   replace HB := Aside0.mk (below_drew1 HB.out)
   have p418 : 0 ≤ (a2 : Int) := S.oD
   have q418 : a2 < (l1.length : Int) := S.oD
   obtain ⟨ad418, A418_0, c418_0, e418, hx418_0, hx418_1, hl418_0, hi418_0⟩ := at_T85 HR1.out a2 p418 q418
   have hw418_1 := hx418_1
   have hw418_0 := hx418_0
   cases e418
   replace hx418_0 := S.hb HB hx418_0
   replace hx418_1 := S.hb HB hx418_1
   have HR418_0 := Aside0.mk hi418_0
   have HC418_0 := Aside0.mk hl418_0
   clear hi418_0 hl418_0
   replace p418 := eq_true p418
   replace q418 := eq_true q418
   have p419 : 0 ≤ (a2 : Int) := S.oD
   have q419 : a2 < (l1.length : Int) := S.oD
   obtain ⟨ad419, A419_0, c419_0, e419, hx419_0, hx419_1, hl419_0, hi419_0⟩ := at_T85 HR1.out a2 p419 q419
   have hw419_1 := hx419_1
   have hw419_0 := hx419_0
   obtain rfl : ad418 = ad419 := (by injection e419)
   replace hx419_0 := S.hb HB hx419_0
   replace hx419_1 := S.hb HB hx419_1
   have HR419_0 := Aside0.mk hi419_0
   have HC419_0 := Aside0.mk hl419_0
   clear hi419_0 hl419_0
   replace p419 := eq_true p419
   replace q419 := eq_true q419
   have ea_ := Option.some.inj (hx418_0.symm.trans hx419_0)
   injection ea_ with ea_ en_ ec_
   subst ea_
   subst ec_
   clear en_
   refine S.st (n := 17) (ds := []) #[false, false, false, false, false, false, false, false, false, false, false, false, false, false, false, false, false] (fun w_ h_ => have x_ := And.intro (S.q h_ (S.hb HB hw418_0)) (And.intro (S.q h_ (S.hb HB hw418_1)) (And.intro (S.q h_ (S.hb HB hw419_0)) (S.q h_ (S.hb HB hw419_1)))); x_) (fun hHeld => ?_); refine with_tabW impl_longOf.tab1 impl_longOf.bits1 (fun HT_ HW_ => ?_)
   generalize w.drew = w8 at HB HR418_0 HR419_0 hx418_0 hx418_1 hx419_0 hx419_1 hHeld ⊢
   refine S.pS 0 7 ?_
   refine S.pS 1 8 ?_
   refine S.pS 2 9 ?_
   refine S.pS 3 10 ?_
   refine S.pS 5 12 ?_
   refine S.pS 6 13 ?_
   refine S.pS 7 14 ?_
   refine S.pS 8 15 ?_
   refine S.pS 9 16 ?_
   refine S.pS 11 18 ?_
   refine S.pS 12 19 ?_
   refine S.tK 4 11 #[true, true, true, true, true, true, true, true, true, true, false, true, true, false, false, false, false] ?_
   refine S.tK 10 17 #[true, true, true, true, true, true, true, true, true, true, true, true, true, false, false, false, false] ?_
   refine S.oN 13 20 #[true, true, true, true, true, true, true, true, true, true, true, true, true, true, false, false, false] (fun K hK => ?_)
   refine S.go Try.func110 #[.slice (some ad418) l1.length c1, .int .i64 a2] ?_
   with_reducible refine (impl_nextStage.calls (fun k_ => k_ < w.heap.size) _ _ l1 a2 t420 _ ?s1 A6.out).mono ?_
   (case s1 => exact Kd.V_mk HC1.out (Kd.F_below (Kd.C_F k85_heap HR1.out) S.bA))
   rintro e w9 ⟨v421, rfl, ho0, hb⟩
   refine ⟨_, rfl, ?_⟩
   have HO422 := Aside0.mk (Kd.V_lower (Kd.V_mono (ok' := fun k_ => True) ho0 (fun k_ hk_ => trivial)) (below_size S.bA))
   replace HB := S.sA hb
   (try clear hb)
   (try clear hb2)
   (try clear hk)
   (try clear hi)
   (try clear ho0)
   obtain ⟨Ao10, co10, eo10⟩ := Kd.V_slice HO422.out
   (first | subst eo10 | (injection eo10 with f1_ f2_ f3_; have f4_ := f1_.symm; have f5_ := f3_.symm; clear f1_ f2_ f3_; subst f4_; subst f5_))
   refine hK.out _ _ ⟨(S.hb HB hw418_0 :), (S.hb HB hw418_1 :), (S.hb HB hw419_0 :), (S.hb HB hw419_1 :)⟩ (fun hHeld => ?_)
   clear hK K
   refine S.nm 20 ?_
   refine S.oN 14 21 #[true, true, true, true, true, true, true, true, true, true, true, true, true, true, true, false, false] (fun K hK => ?_)
   refine S.go Try.func109 #[.slice A0 l0.length c0, .slice A418_0 ((rd_T85 l1 a2).f0).length c418_0, .slice Ao10 t420.length co10] ?_
   with_reducible refine (impl_ClearBetween.calls k _ _ l0 _ _ ((rd_T85 l1 a2).f0) _ _ t420 t423 _ ?s1 ?s2 ?s3 ?s4 ?s5 ?s6 A7.out).mono ?_
   (case s1 => exact S.cA HR0.out)
   (case s2 => exact HC0.out)
   (case s3 => exact S.cA HR419_0.out)
   (case s4 => exact HC419_0.out)
   (case s5 => repeat (first | exact (Kd.V_reads' HO422.out).2.2 | (with_reducible refine Kd.C_alloc ?_ _) | (with_reducible refine Kd.C_drewN ?_ _) | (with_reducible refine Kd.C_drew ?_)))
   (case s6 => exact (Kd.V_reads' HO422.out).2.1)
   rintro e w11 ⟨rfl, hb⟩
   refine ⟨_, rfl, ?_⟩
   replace HO422 := Aside0.mk (Kd.V_below (S.uV HO422.out) hb)
   replace HB := S.sA hb
   (try clear hb)
   (try clear hb2)
   (try clear hk)
   (try clear hi)
   refine hK.out _ _ ⟨(S.hb HB hw418_0 :), (S.hb HB hw418_1 :), (S.hb HB hw419_0 :), (S.hb HB hw419_1 :)⟩ (fun hHeld => ?_)
   clear hK K
   refine S.nm 21 ?_
   refine S.pS 15 22 ?_
   refine S.pS 16 6 ?_
   refine done_ (done_of HT_.out (by kernel_rfl)) ?_
   try go_wp2
   go_ret
   exact ⟨S.eW, S.bA⟩
  ·rw [if_neg c5] at H
   exact absurd H (by simp)
 ·rw [if_neg c4] at H
  exact absurd H (by simp)

/-! ### impl_StartOf: function 70 -/
mutual
def impl_StartOf.j0 : Nat → List (S71) → List (S85) → Int → Bool → Option (Int)
 | 0, _, _, _, _ => none
 | k + 1, x0, x1, x2, x22 => if x22 = true then (some (-1)) else (impl_StartOf.l0 k x0 x1 0 x2 0)
def impl_StartOf.l0 : Nat → List (S71) → List (S85) → Int → Int → Int → Option (Int)
 | 0, _, _, _, _, _ => none
 | k + 1, x0, x1, x7, x23, x24 => if x24 < x23 then ((impl_longOf.f k x0 x1 x24).bind fun t425 => (impl_StartOf.l0 k x0 x1 (wrap64 (x7 + t425)) x23 (wrap64 (x24 + 1)))) else (some x7)
end
def impl_StartOf.f (k : Nat) (l0 : List (S71)) (l1 : List (S85)) (a2 : Int) : Option (Int) := (impl_IsPlan.f k l0 l1).bind fun t424 => (if t424 = true then (if a2 < 0 then (impl_StartOf.j0 k l0 l1 a2 true) else (impl_StartOf.j0 k l0 l1 a2 (decide (a2 ≥ (l1.length : Int))))) else (impl_StartOf.j0 k l0 l1 a2 true))
set_option maxHeartbeats 8000000 in
set_option maxRecDepth 100000 in
theorem impl_StartOf.calls (k : Nat) (A0 : Option Addr) (c0 : Nat) (l0 : List (S71)) (A1 : Option Addr) (c1 : Nat) (l1 : List (S85)) (a2 : Int) (r : Int) (w : World) (hr0 : Kd.C k71 w A0 l0.length l0) (hc0 : l0.length ≤ c0) (hr1 : Kd.C k85 w A1 l1.length l1) (hc1 : l1.length ≤ c1) (h : impl_StartOf.f k l0 l1 a2 = some r) :
  Calls Try.prog 70 #[.slice A0 l0.length c0, .slice A1 l1.length c1, .int .i64 a2] w fun e w' => e = .returned (.int .i64 r) ∧ Below w.heap.size w w' := by
 have HR0 := Aside0.mk hr0
 have HC0 := Aside0.mk hc0
 clear hr0 hc0
 have HR1 := Aside0.mk hr1
 have HC1 := Aside0.mk hc1
 clear hr1 hc1
 have HB := Aside0.mk (Below.refl w.heap.size w)
 have H : ((impl_IsPlan.f k l0 l1).bind fun t424 => (if t424 = true then (if a2 < 0 then (impl_StartOf.j0 k l0 l1 a2 true) else (impl_StartOf.j0 k l0 l1 a2 (decide (a2 ≥ (l1.length : Int))))) else (impl_StartOf.j0 k l0 l1 a2 true))) = some r := h
 clear h
 have HC4 := Aside0.mk H
 clear H
 go_enter Try.func70, Try.ntmps70
 go_upto_region 1 with (fail)
 go_cut [22] (fun v22 wc => ∃ (kq : Nat) (x22_3 : Bool), v22 = .bool x22_3 ∧ Aside0 (impl_StartOf.j0 kq l0 l1 a2 x22_3 = some r) ∧ Aside0 (kq ≤ k) ∧ Aside0 (Below w.heap.size w wc))
 case first =>
  have H := HC4.out
  clear HC4
  replace H := S.bd H; obtain ⟨t424, A5, H⟩ := H
  (try dsimp only at H)
  replace H := S.db H; rcases H with ⟨rfl, H⟩ | ⟨rfl, H⟩
  ·replace H := S.dc H; rcases H with ⟨H, c7b0⟩ | ⟨H, c7b0⟩
   ·(first | rw [c7b0] | (simp only [i64_w, i32_w]; rw [c7b0]) | skip)
    have H' := Aside0.mk H
    clear H
    go_wp2_with (first | ((with_reducible refine gate_callee (f := 68) rfl ?_); refine S.gL (some 11) Try.func68 #[.slice A0 l0.length c0, .slice A1 l1.length c1] ?_; (with_reducible refine (impl_IsPlan.calls k _ _ l0 (fun k_ => k_ < w.heap.size) _ _ l1 true _ ?s1 HC0.out ?s3 A5.out).mono ?_); (case s1 => exact S.cA HR0.out); (case s3 => exact Kd.V_mk HC1.out (Kd.F_below (Kd.C_F k85_heap HR1.out) S.bA)); rintro e w8 ⟨rfl, hb⟩; refine ⟨_, rfl, ?_⟩; replace HB := S.sA hb; (try clear hb)))
    go_meet
    case rel => exact ⟨_, (true), S.eA, H', S.le, ⟨S.bA⟩⟩
   ·(first | rw [c7b0] | (simp only [i64_w, i32_w]; rw [c7b0]) | skip)
    have H' := Aside0.mk H
    clear H
    go_wp2_with (first | ((with_reducible refine gate_callee (f := 68) rfl ?_); refine S.gL (some 11) Try.func68 #[.slice A0 l0.length c0, .slice A1 l1.length c1] ?_; (with_reducible refine (impl_IsPlan.calls k _ _ l0 (fun k_ => k_ < w.heap.size) _ _ l1 true _ ?s1 HC0.out ?s3 A5.out).mono ?_); (case s1 => exact S.cA HR0.out); (case s3 => exact Kd.V_mk HC1.out (Kd.F_below (Kd.C_F k85_heap HR1.out) S.bA)); rintro e w9 ⟨rfl, hb⟩; refine ⟨_, rfl, ?_⟩; replace HB := S.sA hb; (try clear hb)))
    go_meet
    case rel => exact ⟨_, (decide (a2 ≥ (l1.length : Int))), S.eA, H', S.le, ⟨S.bA⟩⟩
  ·have H' := Aside0.mk H
   clear H
   go_wp2_with (first | ((with_reducible refine gate_callee (f := 68) rfl ?_); refine S.gL (some 11) Try.func68 #[.slice A0 l0.length c0, .slice A1 l1.length c1] ?_; (with_reducible refine (impl_IsPlan.calls k _ _ l0 (fun k_ => k_ < w.heap.size) _ _ l1 false _ ?s1 HC0.out ?s3 A5.out).mono ?_); (case s1 => exact S.cA HR0.out); (case s3 => exact Kd.V_mk HC1.out (Kd.F_below (Kd.C_F k85_heap HR1.out) S.bA)); rintro e w10 ⟨rfl, hb⟩; refine ⟨_, rfl, ?_⟩; replace HB := S.sA hb; (try clear hb)))
   go_meet
   case rel => exact ⟨_, (true), S.eA, H', S.le, ⟨S.bA⟩⟩
 case rest =>
  clear HC4
  try clear c1
  obtain ⟨kq, x22_3, rfl, HA, HJ3, HB⟩ := hcut
  cases kq with
  | zero => exact absurd HA.out (by simp [impl_StartOf.j0])
  | succ kj3 =>
   have H := HA.out
   clear HA
   simp only [impl_StartOf.j0] at H
   replace H := S.db H; rcases H with ⟨rfl, H⟩ | ⟨rfl, H⟩
   ·obtain rfl := Option.some.inj H
    go_wp2
    go_ret
    exact ⟨S.eW, S.bA⟩
   ·have H' := Aside0.mk H
    clear H
    go_wp2
    go_loopg [7, 24] kj3 (fun kq v7 v24 w' => ∃ (x7_2 : Int) (x24_2 : Int), v7 = .int .i64 x7_2 ∧ v24 = .int .i64 x24_2 ∧ Aside0 (impl_StartOf.l0 kq l0 l1 x7_2 a2 x24_2 = some r) ∧ Aside0 (kq ≤ kj3) ∧ Aside0 (Below w.heap.size w w'))
    case atStart => exact ⟨(0), (0), S.eA, S.eA, H', ⟨Nat.le_refl _⟩, ⟨S.bA⟩⟩
    case round =>
     clear H'
     try clear c1
     try clear c11
     obtain ⟨x7_2, x24_2, rfl, rfl, HA, HK2, HB⟩ := hrel
     cases gk with
     | zero => exact absurd HA.out (by simp [impl_StartOf.l0])
     | succ k2 =>
      have H := HA.out
      clear HA
      simp only [impl_StartOf.l0] at H
      replace H := S.dc H; rcases H with ⟨H, c12b0⟩ | ⟨H, c12b0⟩
      ·replace H := Option.bind_eq_some_iff.mp H
       obtain ⟨t425, A130, H⟩ := H
       replace H : (impl_StartOf.l0 k2 l0 l1 (wrap64 (x7_2 + t425)) a2 (wrap64 (x24_2 + 1))) = some r := H
       have A13 := Aside0.mk A130
       clear A130
       have H' := Aside0.mk H
       clear H
       go_wp2_with (first | ((with_reducible refine gate_callee (f := 81) rfl ?_); refine S.gL (some 31) Try.func81 #[.slice A0 l0.length c0, .slice A1 l1.length c1, .int .i64 x24_2] ?_; (with_reducible refine (impl_longOf.calls k2 _ _ l0 _ _ l1 x24_2 t425 _ ?s1 HC0.out ?s3 HC1.out A13.out).mono ?_); (case s1 => exact S.cA HR0.out); (case s3 => exact S.cA HR1.out); rintro e w14 ⟨rfl, hb⟩; refine ⟨_, rfl, ?_⟩; replace HB := S.sA hb; (try clear hb)))
       go_roundg k2
       case measure => have := HJ3.out; have := HK2.out; omega
       case rel => exact ⟨(wrap64 (x7_2 + t425)), (wrap64 (x24_2 + 1)), S.eA, S.eA, H', ⟨by have := HJ3.out; have := HK2.out; omega⟩, ⟨S.bA⟩⟩
      ·obtain rfl := Option.some.inj H
       go_wp2
       go_ret
       exact ⟨S.eW, S.bA⟩

/-! ### impl_SwitchSeconds: function 23 -/
mutual
def impl_SwitchSeconds.j0 : Nat → List (S71) → List (S85) → List (S85) → List Int → Bool → Option (List Int)
 | 0, _, _, _, _, _ => none
 | k + 1, x0, x1, x2, x7, x20 => if x20 = true then (some x7) else (impl_SwitchSeconds.l0 k x0 x1 x2 x7 x1 (x1.length : Int) 0)
def impl_SwitchSeconds.l0 : Nat → List (S71) → List (S85) → List (S85) → List Int → List (S85) → Int → Int → Option (List Int)
 | 0, _, _, _, _, _, _, _ => none
 | k + 1, x0, x1, x2, x7, x22, x23, x24 => if x24 < x23 then (if 0 ≤ x24 then (if x24 < (x22.length : Int) then (if 0 < (x2.length : Int) then ((slices_Equal_int_int.f k ((rd_T85 x22 x24).f0) ((rd_T85 x2 0).f0)).bind fun t434 => (if t434 = true then ((impl_StartOf.f k x0 x1 x24).bind fun t435 => (if x7.length < 17592186044416 then (impl_SwitchSeconds.l0 k x0 x1 x2 (x7 ++ [t435]) x22 x23 (wrap64 (x24 + 1))) else (none))) else (impl_SwitchSeconds.l0 k x0 x1 x2 x7 x22 x23 (wrap64 (x24 + 1))))) else (none)) else (none)) else (none)) else (some x7)
end
def impl_SwitchSeconds.f (k : Nat) (l0 : List (S71)) (l1 : List (S85)) (l2 : List (S85)) : Option (List Int) := (some (([] : List Int) : List Int)).bind fun y426 => ((impl_IsPlan.f k l0 l1).bind fun t429 => (if t429 = true then ((impl_IsPlan.f k l0 l2).bind fun t430 => (impl_SwitchSeconds.j0 k l0 l1 l2 y426 (!t430))) else (impl_SwitchSeconds.j0 k l0 l1 l2 y426 true)))
set_option maxHeartbeats 8000000 in
set_option maxRecDepth 100000 in
theorem impl_SwitchSeconds.calls (k : Nat) (A0 : Option Addr) (c0 : Nat) (l0 : List (S71)) (A1 : Option Addr) (c1 : Nat) (l1 : List (S85)) (A2 : Option Addr) (c2 : Nat) (l2 : List (S85)) (r : List Int) (w : World) (hr0 : Kd.C k71 w A0 l0.length l0) (hc0 : l0.length ≤ c0) (hr1 : Kd.C k85 w A1 l1.length l1) (hc1 : l1.length ≤ c1) (hr2 : Kd.C k85 w A2 l2.length l2) (hc2 : l2.length ≤ c2) (h : impl_SwitchSeconds.f k l0 l1 l2 = some r) :
  Calls Try.prog 23 #[.slice A0 l0.length c0, .slice A1 l1.length c1, .slice A2 l2.length c2] w fun e w' => ∃ v0_ : Value, e = .returned (v0_) ∧ Kd.R (Kd.int .i64) 3 w' w.heap.size (fun _ => True) v0_ r ∧ Below w.heap.size w w' := by
 have hu85 := Try.underlying85
 have HR0 := Aside0.mk hr0
 have HC0 := Aside0.mk hc0
 clear hr0 hc0
 have HR1 := Aside0.mk hr1
 have HC1 := Aside0.mk hc1
 clear hr1 hc1
 have HR2 := Aside0.mk hr2
 have HC2 := Aside0.mk hc2
 clear hr2 hc2
 have HB := Aside0.mk (Below.refl w.heap.size w)
 have H : ((some (([] : List Int) : List Int)).bind fun y426 => ((impl_IsPlan.f k l0 l1).bind fun t429 => (if t429 = true then ((impl_IsPlan.f k l0 l2).bind fun t430 => (impl_SwitchSeconds.j0 k l0 l1 l2 y426 (!t430))) else (impl_SwitchSeconds.j0 k l0 l1 l2 y426 true)))) = some r := h
 clear h
 obtain ⟨y426, hy426⟩ : ∃ y_ : List Int, y_ = (([] : List Int)) := ⟨_, rfl⟩
 replace H : ((impl_IsPlan.f k l0 l1).bind fun t429 => (if t429 = true then ((impl_IsPlan.f k l0 l2).bind fun t430 => (impl_SwitchSeconds.j0 k l0 l1 l2 y426 (!t430))) else (impl_SwitchSeconds.j0 k l0 l1 l2 y426 true))) = some r := by first | (rw [hy426]; with_reducible exact H) | (have H2_ := (Option.bind_some _ _).symm.trans H; rw [hy426]; with_reducible exact H2_) | (have H2_ := (Option.bind_some _ _).symm.trans H; with_reducible exact H2_) | with_reducible exact H | (rw [hy426]; exact H) | exact H
 have Ny426 := Aside0.mk hy426
 clear hy426
 have HC4 := Aside0.mk H
 clear H
 go_enter Try.func23, Try.ntmps23
 go_upto_region 2 with (first | ((with_reducible refine gate_dst (N := 10) rfl ?_); refine Kd.R_lit (Kd.int .i64) _ 3 ?hg (N := 10) ?hd (xs := ([] : List Int)) (inner := []) (ok := fun _ => True) (okp := fun _ => True) ?hr ?hp (fun _ hk => hk) trivial (Below.refl _ _) (Nat.le_refl _) (by simp) ?_; (case hd => rfl); (case hg => rfl); (case hr => first | (go_simp; done) | (go_simp; rfl)); (case hp => exact (Reps.none _ _)); intro v427 w5 ho6 hb hg_ hnew_; clear hg_ hnew_; (first | rw [← Ny426.out] at ho6 | (simp only [Int.reduceToNat] at ho6; rw [← Ny426.out] at ho6)); have HO428 := S.lwA ho6; replace HB := S.sA hb; clear hb ho6))
 repeat (go_quiet (first | ((with_reducible refine gate_dst (N := 10) rfl ?_); refine Kd.R_lit (Kd.int .i64) _ 3 ?hg (N := 10) ?hd (xs := ([] : List Int)) (inner := []) (ok := fun _ => True) (okp := fun _ => True) ?hr ?hp (fun _ hk => hk) trivial (Below.refl _ _) (Nat.le_refl _) (by simp) ?_; (case hd => rfl); (case hg => rfl); (case hr => first | (go_simp; done) | (go_simp; rfl)); (case hp => exact (Reps.none _ _)); intro v427 w5 ho6 hb hg_ hnew_; clear hg_ hnew_; (first | rw [← Ny426.out] at ho6 | (simp only [Int.reduceToNat] at ho6; rw [← Ny426.out] at ho6)); have HO428 := S.lwA ho6; replace HB := S.sA hb; clear hb ho6)); go_upto_region 2 with (first | ((with_reducible refine gate_dst (N := 10) rfl ?_); refine Kd.R_lit (Kd.int .i64) _ 3 ?hg (N := 10) ?hd (xs := ([] : List Int)) (inner := []) (ok := fun _ => True) (okp := fun _ => True) ?hr ?hp (fun _ hk => hk) trivial (Below.refl _ _) (Nat.le_refl _) (by simp) ?_; (case hd => rfl); (case hg => rfl); (case hr => first | (go_simp; done) | (go_simp; rfl)); (case hp => exact (Reps.none _ _)); intro v427 w5 ho6 hb hg_ hnew_; clear hg_ hnew_; (first | rw [← Ny426.out] at ho6 | (simp only [Int.reduceToNat] at ho6; rw [← Ny426.out] at ho6)); have n0_ := S.lwA ho6; have n1_ := S.sA hb; clear HB; have HO428 := n0_; have HB := n1_; clear n0_ n1_; clear hb ho6)))
 (try simp only [Act.put, List.setIfInBounds_toArray, List.set_cons_zero, List.set_cons_succ])
 go_cut [20] (fun v20 wc => ∃ (kq : Nat) (x20_3 : Bool), v20 = .bool x20_3 ∧ Aside0 (impl_SwitchSeconds.j0 kq l0 l1 l2 y426 x20_3 = some r) ∧ Aside0 (kq ≤ k) ∧ Aside0 (Kd.R (Kd.int .i64) 3 wc w.heap.size (fun _ => True) v427 y426) ∧ Aside0 (Below w.heap.size w wc))
 case first =>
  have H := HC4.out
  clear HC4
  replace H := S.bd H; obtain ⟨t429, A7, H⟩ := H
  (try dsimp only at H)
  replace H := S.db H; rcases H with ⟨rfl, H⟩ | ⟨rfl, H⟩
  ·replace H := S.bd H; obtain ⟨t430, A9, H⟩ := H
   (try dsimp only at H)
   have H' := Aside0.mk H
   clear H
   go_wp2_with (first | (go_at_call 68; (with_reducible refine (impl_IsPlan.calls k _ _ l0 (fun k_ => k_ < w.heap.size) _ _ l1 true _ ?s1 HC0.out ?s3 A7.out).mono ?_); (case s1 => exact S.cA HR0.out); (case s3 => exact Kd.V_mk HC1.out (Kd.F_below (Kd.C_F k85_heap HR1.out) S.bA)); rintro e w10 ⟨rfl, hb⟩; replace HO428 := S.rb HO428 hb; replace HB := S.sA hb; (try clear hb)) | (go_at_call 68; (with_reducible refine (impl_IsPlan.calls k _ _ l0 (fun k_ => k_ < w.heap.size) _ _ l2 t430 _ ?s1 HC0.out ?s3 A9.out).mono ?_); (case s1 => exact S.cA HR0.out); (case s3 => exact Kd.V_mk HC2.out (Kd.F_below (Kd.C_F k85_heap HR2.out) S.bA)); rintro e w11 ⟨rfl, hb⟩; replace HO428 := S.rb HO428 hb; replace HB := S.sA hb; (try clear hb)))
   repeat (go_quiet (first | (go_at_call 68; (with_reducible refine (impl_IsPlan.calls k _ _ l0 (fun k_ => k_ < w.heap.size) _ _ l1 true _ ?s1 HC0.out ?s3 A7.out).mono ?_); (case s1 => exact S.cA HR0.out); (case s3 => exact Kd.V_mk HC1.out (Kd.F_below (Kd.C_F k85_heap HR1.out) S.bA)); rintro e w10 ⟨rfl, hb⟩; replace HO428 := S.rb HO428 hb; replace HB := S.sA hb; (try clear hb)) | (go_at_call 68; (with_reducible refine (impl_IsPlan.calls k _ _ l0 (fun k_ => k_ < w.heap.size) _ _ l2 t430 _ ?s1 HC0.out ?s3 A9.out).mono ?_); (case s1 => exact S.cA HR0.out); (case s3 => exact Kd.V_mk HC2.out (Kd.F_below (Kd.C_F k85_heap HR2.out) S.bA)); rintro e w11 ⟨rfl, hb⟩; replace HO428 := S.rb HO428 hb; replace HB := S.sA hb; (try clear hb))); try go_wp2_with (first | (go_at_call 68; (with_reducible refine (impl_IsPlan.calls k _ _ l0 (fun k_ => k_ < w.heap.size) _ _ l1 true _ ?s1 ?s2 ?s3 A7.out).mono ?_); (case s1 => exact S.cA HR0.out); (case s2 => exact HC0.out); (case s3 => exact Kd.V_mk HC1.out (Kd.F_below (Kd.C_F k85_heap HR1.out) S.bA)); rintro e w10 ⟨rfl, hb⟩; have n0_ := S.rb HO428 hb; have n1_ := S.sA hb; clear HO428; clear HB; have HO428 := n0_; have HB := n1_; clear n0_ n1_; (try clear hb); (try clear hb2); (try clear hk); (try clear hi)) | (go_at_call 68; (with_reducible refine (impl_IsPlan.calls k _ _ l0 (fun k_ => k_ < w.heap.size) _ _ l2 t430 _ ?s1 ?s2 ?s3 A9.out).mono ?_); (case s1 => exact S.cA HR0.out); (case s2 => exact HC0.out); (case s3 => exact Kd.V_mk HC2.out (Kd.F_below (Kd.C_F k85_heap HR2.out) S.bA)); rintro e w11 ⟨rfl, hb⟩; have n0_ := S.rb HO428 hb; have n1_ := S.sA hb; clear HO428; clear HB; have HO428 := n0_; have HB := n1_; clear n0_ n1_; (try clear hb); (try clear hb2); (try clear hk); (try clear hi))))
   go_meet
   case rel => exact ⟨_, (!t430), S.eA, H', S.le, ⟨S.uR HO428.out⟩, ⟨S.bA⟩⟩
  ·have H' := Aside0.mk H
   clear H
   go_wp2_with (first | (go_at_call 68; (with_reducible refine (impl_IsPlan.calls k _ _ l0 (fun k_ => k_ < w.heap.size) _ _ l1 false _ ?s1 HC0.out ?s3 A7.out).mono ?_); (case s1 => exact S.cA HR0.out); (case s3 => exact Kd.V_mk HC1.out (Kd.F_below (Kd.C_F k85_heap HR1.out) S.bA)); rintro e w12 ⟨rfl, hb⟩; replace HO428 := S.rb HO428 hb; replace HB := S.sA hb; (try clear hb)))
   repeat (go_quiet (first | (go_at_call 68; (with_reducible refine (impl_IsPlan.calls k _ _ l0 (fun k_ => k_ < w.heap.size) _ _ l1 false _ ?s1 HC0.out ?s3 A7.out).mono ?_); (case s1 => exact S.cA HR0.out); (case s3 => exact Kd.V_mk HC1.out (Kd.F_below (Kd.C_F k85_heap HR1.out) S.bA)); rintro e w12 ⟨rfl, hb⟩; replace HO428 := S.rb HO428 hb; replace HB := S.sA hb; (try clear hb))); try go_wp2_with (first | (go_at_call 68; (with_reducible refine (impl_IsPlan.calls k _ _ l0 (fun k_ => k_ < w.heap.size) _ _ l1 false _ ?s1 HC0.out ?s3 A7.out).mono ?_); (case s1 => exact S.cA HR0.out); (case s3 => exact Kd.V_mk HC1.out (Kd.F_below (Kd.C_F k85_heap HR1.out) S.bA)); rintro e w12 ⟨rfl, hb⟩; have n0_ := S.rb HO428 hb; have n1_ := S.sA hb; clear HO428; clear HB; have HO428 := n0_; have HB := n1_; clear n0_ n1_; (try clear hb); (try clear hb2); (try clear hk); (try clear hi))))
   go_meet
   case rel => exact ⟨_, (true), S.eA, H', S.le, ⟨S.uR HO428.out⟩, ⟨S.bA⟩⟩
 case rest =>
  clear HC4
  try clear c1
  try clear c2
  obtain ⟨kq, x20_3, rfl, HA, HJ3, HO_7, HB⟩ := hcut
  cases kq with
  | zero => exact absurd HA.out (by simp [impl_SwitchSeconds.j0])
  | succ kj3 =>
   have H := HA.out
   clear HA
   simp only [impl_SwitchSeconds.j0] at H
   replace H := S.db H; rcases H with ⟨rfl, H⟩ | ⟨rfl, H⟩
   ·obtain rfl := Option.some.inj H
    go_wp2
    repeat (go_quiet (fail); try go_wp2)
    go_ret
    exact ⟨_, S.eW, S.uR HO_7.out, S.bA⟩
   ·have H' := Aside0.mk H
    clear H
    go_wp2
    repeat (go_quiet (fail); try go_wp2)
    go_loopg [7, 24] kj3 (fun kq v7 v24 w' => ∃ (x7_2 : List Int) (x24_2 : Int), v24 = .int .i64 x24_2 ∧ Aside0 (impl_SwitchSeconds.l0 kq l0 l1 l2 x7_2 l1 (l1.length : Int) x24_2 = some r) ∧ Aside0 (kq ≤ kj3) ∧ Aside0 (Kd.R (Kd.int .i64) 3 w' w.heap.size (fun _ => True) v7 x7_2) ∧ Aside0 (Below w.heap.size w w'))
    case atStart => exact ⟨(y426), (0), S.eA, H', ⟨Nat.le_refl _⟩, ⟨S.uR HO_7.out⟩, ⟨S.bA⟩⟩
    case round =>
     clear H'
     try clear c1
     try clear c2
     try clear c13
     obtain ⟨x7_2, x24_2, rfl, HA, HK2, HO_7, HB⟩ := hrel
     cases gk with
     | zero => exact absurd HA.out (by simp [impl_SwitchSeconds.l0])
     | succ k2 =>
      have H := HA.out
      clear HA
      simp only [impl_SwitchSeconds.l0] at H
      replace H := S.dc H; rcases H with ⟨H, c14b0⟩ | ⟨H, c14b0⟩
      ·by_cases c15 : 0 ≤ x24_2
       ·rw [if_pos c15] at H
        have c15b0 : decide (0 ≤ x24_2) = true := decide_eq_true c15
        clear c15
        by_cases c16 : x24_2 < (l1.length : Int)
        ·rw [if_pos c16] at H
         have c16b0 : decide (x24_2 < (l1.length : Int)) = true := decide_eq_true c16
         clear c16
         by_cases c17 : 0 < (l2.length : Int)
         ·rw [if_pos c17] at H
          have c17b0 : decide (0 < (l2.length : Int)) = true := decide_eq_true c17
          have c17b1 : decide (0 < l2.length) = true := decide_eq_true (by omega)
          clear c17
          replace H := S.bd H; obtain ⟨t434, A18, H⟩ := H
          (try dsimp only at H)
          replace H := S.db H; rcases H with ⟨rfl, H⟩ | ⟨rfl, H⟩
          ·replace H := S.bd H; obtain ⟨t435, A20, H⟩ := H
           (try dsimp only at H)
           by_cases c21 : x7_2.length < 17592186044416
           ·rw [if_pos c21] at H
            have LMc21 := Aside0.mk c21
            clear c21
            obtain ⟨y436, hy436⟩ : ∃ y_ : List Int, y_ = (x7_2 ++ [t435]) := ⟨_, rfl⟩
            replace H : (impl_SwitchSeconds.l0 k2 l0 l1 l2 y436 l1 (l1.length : Int) (wrap64 (x24_2 + 1))) = some r := by first | (rw [hy436]; with_reducible exact H) | (have H2_ := (Option.bind_some _ _).symm.trans H; rw [hy436]; with_reducible exact H2_) | (have H2_ := (Option.bind_some _ _).symm.trans H; with_reducible exact H2_) | with_reducible exact H | (rw [hy436]; exact H) | exact H
            have Ny436 := Aside0.mk hy436
            clear hy436
            have H' := Aside0.mk H
            clear H
            have p431 : 0 ≤ (x24_2 : Int) := S.oD
            have q431 : x24_2 < (l1.length : Int) := S.oD
            obtain ⟨ad431, A431_0, c431_0, e431, hx431_0, hx431_1, hl431_0, hi431_0⟩ := at_T85 HR1.out x24_2 p431 q431
            cases e431
            replace hx431_0 := S.hb HB hx431_0
            replace hx431_1 := S.hb HB hx431_1
            have HR431_0 := Aside0.mk hi431_0
            have HC431_0 := Aside0.mk hl431_0
            clear hi431_0 hl431_0
            replace p431 := eq_true p431
            replace q431 := eq_true q431
            go_wp2_with (first | ((with_reducible refine gate_dst (N := 9) rfl ?_); refine S.bx 9 (cs := #[.slice none 0 0, .int .i64 0]) (t := 85) ?_; intro gb432 hg w22 hbox hb; replace HO_7 := S.rb HO_7 hb; have BK432 := Aside0.mk hbox; have GW432 := S.geA hg; have GE432 := S.geA hg; replace HB := S.sA hb; clear hb hbox hg; obtain ⟨Z23a, Z23b, Y23a, Y23b⟩ := S.c2 BK432.out; have p433 : 0 ≤ (0 : Int) := (by omega); have q433 : 0 < (l2.length : Int) := S.oD; obtain ⟨ad433, A433_0, c433_0, e433, hx433_0, hx433_1, hl433_0, hi433_0⟩ := at_T85 HR2.out 0 p433 q433; cases e433; have qi433 : (0 < l2.length) = True := eq_true (by omega); (try rw [show ((0 : Int)).toNat = 0 from rfl] at hx433_0); (try rw [show 0 * 2 = 0 from rfl] at hx433_0); (try rw [Addr.add_zero'] at hx433_0); (try rw [show ((0 : Int)).toNat = 0 from rfl] at hx433_1); (try rw [show 0 * 2 = 0 from rfl] at hx433_1); (try rw [Addr.add_zero'] at hx433_1); have hn433_0 : ad433.block ≠ gb432 := Nat.ne_of_lt (Nat.lt_of_lt_of_le (by have := World.block_lt_of_cell? _ _ hx433_0; first | rwa [add_block] at this | exact this) GW432.out); have hn433_1 : ad433.block ≠ gb432 := Nat.ne_of_lt (Nat.lt_of_lt_of_le (by have := World.block_lt_of_cell? _ _ hx433_0; first | rwa [add_block] at this | exact this) GW432.out); replace hx433_0 := S.hb HB hx433_0; replace hx433_1 := S.hb HB hx433_1; have HR433_0 := Aside0.mk hi433_0; have HC433_0 := Aside0.mk hl433_0; clear hi433_0 hl433_0; replace hx433_0 := (cell_far (p := ⟨gb432, 0, none⟩) (by first | (rw [add_block]; exact hn433_0) | (show (Addr.add _ _).block ≠ _; rw [add_block]; exact hn433_0) | exact hn433_0) (.slice A431_0 ((rd_T85 l1 x24_2).f0).length c431_0)).trans hx433_0; replace hx433_1 := (cell_far (p := ⟨gb432, 0, none⟩) (by first | (rw [add_block]; exact hn433_0) | (show (Addr.add _ _).block ≠ _; rw [add_block]; exact hn433_0) | exact hn433_0) (.slice A431_0 ((rd_T85 l1 x24_2).f0).length c431_0)).trans hx433_1; replace hx433_0 := (cell_far (p := ⟨gb432, 1, none⟩) (by first | (rw [add_block]; exact hn433_1) | (show (Addr.add _ _).block ≠ _; rw [add_block]; exact hn433_1) | exact hn433_1) (.int .i64 ((rd_T85 l1 x24_2).f1))).trans hx433_0; replace hx433_1 := (cell_far (p := ⟨gb432, 1, none⟩) (by first | (rw [add_block]; exact hn433_1) | (show (Addr.add _ _).block ≠ _; rw [add_block]; exact hn433_1) | exact hn433_1) (.int .i64 ((rd_T85 l1 x24_2).f1))).trans hx433_1; (try have hy433_0 := fun (n_ : Nat) => (show ((((w22.drewN n_).setCell ⟨gb432, 0, none⟩ (.slice A431_0 ((rd_T85 l1 x24_2).f0).length c431_0)).setCell ⟨gb432, 1, none⟩ (.int .i64 ((rd_T85 l1 x24_2).f1)))).cell? _ = some _ from hx433_0)); (try have hy433_1 := fun (n_ : Nat) => (show ((((w22.drewN n_).setCell ⟨gb432, 0, none⟩ (.slice A431_0 ((rd_T85 l1 x24_2).f0).length c431_0)).setCell ⟨gb432, 1, none⟩ (.int .i64 ((rd_T85 l1 x24_2).f1)))).cell? _ = some _ from hx433_1)); clear hn433_0; clear hn433_1; replace p433 := eq_true p433; replace q433 := eq_true q433) | (go_at_call 69; (with_reducible refine (slices_Equal_int_int.calls k2 _ _ ((rd_T85 l1 x24_2).f0) _ _ ((rd_T85 l2 0).f0) true _ ?s1 HC431_0.out ?s3 HC433_0.out A18.out).mono ?_); (case s1 => exact Kd.C_below HR431_0.out S.bG); (case s3 => exact Kd.C_below HR433_0.out S.bG); rintro e w' ⟨rfl, ⟨nd, rfl⟩⟩; (try first | exact ⟨rfl, _, World.drewN_drewN _ _ _⟩ | exact ⟨rfl, _, Eq.trans (World.drewN_drewN _ _ _) (congrArg (World.drewN _) (Nat.add_assoc _ _ _))⟩)) | (go_at_call 70; (with_reducible refine (impl_StartOf.calls k2 _ _ l0 _ _ l1 x24_2 t435 _ ?s1 HC0.out ?s3 HC1.out A20.out).mono ?_); (case s1 => exact Kd.C_below HR0.out S.bG); (case s3 => exact Kd.C_below HR1.out S.bG); rintro e w24 ⟨rfl, hb⟩; replace HO_7 := Aside0.mk (Kd.R_below (S.G2 HO_7 BK432) hb); replace BK432 := S.kp2 BK432 hb; replace HB := S.sG hb; (try clear hb)) | ((with_reducible refine gate_builtin (b := .append) (xs := #[.tmp 36, .tmp 41]) rfl ?_); at_builtin; refine Kd.R_append (Kd.int .i64) (w0 := w) w.heap.size rfl (.tmp 36) (.tmp 41) 36 3 (.int .i64 0) 8 rfl Try.underlying36 info3 rfl (by decide) (by omega) u7 x7_2 t435 [.int .i64 t435] (fun _ => True) (fun _ => False) rfl rfl ?aP (fun _ hk => hk.elim) ?aF ?aO ?aB ?aS ?aL ?_; (case aP => exact rfl); (case aB => exact S.bG); (case aF => exact (fun _ _ => trivial)); (case aO => exact (S.uR HO_7.out)); (case aS => exact (below_size S.bG)); (case aL => have := LMc21.out; omega); intro v437 w25 ho hb hg hat; rw [← Ny436.out] at ho; have n0_ := Aside0.mk (blk_grown (g := gb432) (o := .cells #[.slice A431_0 ((rd_T85 l1 x24_2).f0).length c431_0, .int .i64 ((rd_T85 l1 x24_2).f1)] 85 (0, 0)) (S.uB BK432.out) hg (Kd.R_ne HO_7.out BK432.out (by decide))); have n1_ := Aside0.mk (hb); have n2_ := Aside0.mk (ho); clear BK432; clear HB; clear HO_7; have BK432 := n0_; have HB := n1_; have HO438 := n2_; clear n0_ n1_ n2_; clear ho hb hg hat))
            repeat (go_quiet (first | ((with_reducible refine gate_dst (N := 9) rfl ?_); refine S.bx 9 (cs := #[.slice none 0 0, .int .i64 0]) (t := 85) ?_; intro gb432 hg w22 hbox hb; replace HO_7 := S.rb HO_7 hb; have BK432 := Aside0.mk hbox; have GW432 := S.geA hg; have GE432 := S.geA hg; replace HB := S.sA hb; clear hb hbox hg; obtain ⟨Z23a, Z23b, Y23a, Y23b⟩ := S.c2 BK432.out; have p433 : 0 ≤ (0 : Int) := (by omega); have q433 : 0 < (l2.length : Int) := S.oD; obtain ⟨ad433, A433_0, c433_0, e433, hx433_0, hx433_1, hl433_0, hi433_0⟩ := at_T85 HR2.out 0 p433 q433; cases e433; have qi433 : (0 < l2.length) = True := eq_true (by omega); (try rw [show ((0 : Int)).toNat = 0 from rfl] at hx433_0); (try rw [show 0 * 2 = 0 from rfl] at hx433_0); (try rw [Addr.add_zero'] at hx433_0); (try rw [show ((0 : Int)).toNat = 0 from rfl] at hx433_1); (try rw [show 0 * 2 = 0 from rfl] at hx433_1); (try rw [Addr.add_zero'] at hx433_1); have hn433_0 : ad433.block ≠ gb432 := Nat.ne_of_lt (Nat.lt_of_lt_of_le (by have := World.block_lt_of_cell? _ _ hx433_0; first | rwa [add_block] at this | exact this) GW432.out); have hn433_1 : ad433.block ≠ gb432 := Nat.ne_of_lt (Nat.lt_of_lt_of_le (by have := World.block_lt_of_cell? _ _ hx433_0; first | rwa [add_block] at this | exact this) GW432.out); replace hx433_0 := S.hb HB hx433_0; replace hx433_1 := S.hb HB hx433_1; have HR433_0 := Aside0.mk hi433_0; have HC433_0 := Aside0.mk hl433_0; clear hi433_0 hl433_0; replace hx433_0 := (cell_far (p := ⟨gb432, 0, none⟩) (by first | (rw [add_block]; exact hn433_0) | (show (Addr.add _ _).block ≠ _; rw [add_block]; exact hn433_0) | exact hn433_0) (.slice A431_0 ((rd_T85 l1 x24_2).f0).length c431_0)).trans hx433_0; replace hx433_1 := (cell_far (p := ⟨gb432, 0, none⟩) (by first | (rw [add_block]; exact hn433_0) | (show (Addr.add _ _).block ≠ _; rw [add_block]; exact hn433_0) | exact hn433_0) (.slice A431_0 ((rd_T85 l1 x24_2).f0).length c431_0)).trans hx433_1; replace hx433_0 := (cell_far (p := ⟨gb432, 1, none⟩) (by first | (rw [add_block]; exact hn433_1) | (show (Addr.add _ _).block ≠ _; rw [add_block]; exact hn433_1) | exact hn433_1) (.int .i64 ((rd_T85 l1 x24_2).f1))).trans hx433_0; replace hx433_1 := (cell_far (p := ⟨gb432, 1, none⟩) (by first | (rw [add_block]; exact hn433_1) | (show (Addr.add _ _).block ≠ _; rw [add_block]; exact hn433_1) | exact hn433_1) (.int .i64 ((rd_T85 l1 x24_2).f1))).trans hx433_1; (try have hy433_0 := fun (n_ : Nat) => (show ((((w22.drewN n_).setCell ⟨gb432, 0, none⟩ (.slice A431_0 ((rd_T85 l1 x24_2).f0).length c431_0)).setCell ⟨gb432, 1, none⟩ (.int .i64 ((rd_T85 l1 x24_2).f1)))).cell? _ = some _ from hx433_0)); (try have hy433_1 := fun (n_ : Nat) => (show ((((w22.drewN n_).setCell ⟨gb432, 0, none⟩ (.slice A431_0 ((rd_T85 l1 x24_2).f0).length c431_0)).setCell ⟨gb432, 1, none⟩ (.int .i64 ((rd_T85 l1 x24_2).f1)))).cell? _ = some _ from hx433_1)); clear hn433_0; clear hn433_1; replace p433 := eq_true p433; replace q433 := eq_true q433) | (go_at_call 69; (with_reducible refine (slices_Equal_int_int.calls k2 _ _ ((rd_T85 l1 x24_2).f0) _ _ ((rd_T85 l2 0).f0) true _ ?s1 HC431_0.out ?s3 HC433_0.out A18.out).mono ?_); (case s1 => exact Kd.C_below HR431_0.out S.bG); (case s3 => exact Kd.C_below HR433_0.out S.bG); rintro e w' ⟨rfl, ⟨nd, rfl⟩⟩; (try first | exact ⟨rfl, _, World.drewN_drewN _ _ _⟩ | exact ⟨rfl, _, Eq.trans (World.drewN_drewN _ _ _) (congrArg (World.drewN _) (Nat.add_assoc _ _ _))⟩)) | (go_at_call 70; (with_reducible refine (impl_StartOf.calls k2 _ _ l0 _ _ l1 x24_2 t435 _ ?s1 HC0.out ?s3 HC1.out A20.out).mono ?_); (case s1 => exact Kd.C_below HR0.out S.bG); (case s3 => exact Kd.C_below HR1.out S.bG); rintro e w24 ⟨rfl, hb⟩; replace HO_7 := Aside0.mk (Kd.R_below (S.G2 HO_7 BK432) hb); replace BK432 := S.kp2 BK432 hb; replace HB := S.sG hb; (try clear hb)) | ((with_reducible refine gate_builtin (b := .append) (xs := #[.tmp 36, .tmp 41]) rfl ?_); at_builtin; refine Kd.R_append (Kd.int .i64) (w0 := w) w.heap.size rfl (.tmp 36) (.tmp 41) 36 3 (.int .i64 0) 8 rfl Try.underlying36 info3 rfl (by decide) (by omega) u7 x7_2 t435 [.int .i64 t435] (fun _ => True) (fun _ => False) rfl rfl ?aP (fun _ hk => hk.elim) ?aF ?aO ?aB ?aS ?aL ?_; (case aP => exact rfl); (case aB => exact S.bG); (case aF => exact (fun _ _ => trivial)); (case aO => exact (S.uR HO_7.out)); (case aS => exact (below_size S.bG)); (case aL => have := LMc21.out; omega); intro v437 w25 ho hb hg hat; rw [← Ny436.out] at ho; have n0_ := Aside0.mk (blk_grown (g := gb432) (o := .cells #[.slice A431_0 ((rd_T85 l1 x24_2).f0).length c431_0, .int .i64 ((rd_T85 l1 x24_2).f1)] 85 (0, 0)) (S.uB BK432.out) hg (Kd.R_ne HO_7.out BK432.out (by decide))); have n1_ := Aside0.mk (hb); have n2_ := Aside0.mk (ho); clear BK432; clear HB; clear HO_7; have BK432 := n0_; have HB := n1_; have HO438 := n2_; clear n0_ n1_ n2_; clear ho hb hg hat)); try go_wp2_with (first | ((with_reducible refine gate_dst (N := 9) rfl ?_); refine box_event ?hg (N := 9) ?hd (cs := #[.slice none 0 0, .int .i64 0]) (t := 85) ?hr ?_; (case hd => rfl); (case hg => rfl); (case hr => first | (go_simp; done) | (go_simp; rfl)); intro gb432 hg w22 hbox hb; have n0_ := S.rb HO_7 hb; have n1_ := S.sA hb; have n2_ := Aside0.mk hbox; have n3_ := S.geA hg; have n4_ := S.geA hg; clear HO_7; clear HB; have HO_7 := n0_; have HB := n1_; have BK432 := n2_; have GW432 := n3_; have GE432 := n4_; clear n0_ n1_ n2_ n3_ n4_; clear hb hbox hg; have Z23a : w22.cell? ⟨gb432, 0, none⟩ = some (.slice none 0 0) := (blk_cell BK432.out 0).trans rfl; have Z23b : w22.cell? ⟨gb432, 1, none⟩ = some (.int .i64 0) := (blk_cell BK432.out 1).trans rfl; have Y23a := blk_frozen BK432.out 0; have Y23b := blk_frozen BK432.out 1; have p433 : 0 ≤ (0 : Int) := (by omega); have q433 : 0 < (l2.length : Int) := S.oD; obtain ⟨ad433, A433_0, c433_0, e433, hx433_0, hx433_1, hl433_0, hi433_0⟩ := at_T85 HR2.out 0 p433 q433; cases e433; have qi433 : (0 < l2.length) = True := eq_true (by omega); (try rw [show ((0 : Int)).toNat = 0 from rfl] at hx433_0); (try rw [show 0 * 2 = 0 from rfl] at hx433_0); (try rw [Addr.add_zero'] at hx433_0); (try rw [show ((0 : Int)).toNat = 0 from rfl] at hx433_1); (try rw [show 0 * 2 = 0 from rfl] at hx433_1); (try rw [Addr.add_zero'] at hx433_1); have hn433_0 : ad433.block ≠ gb432 := Nat.ne_of_lt (Nat.lt_of_lt_of_le (by have := World.block_lt_of_cell? _ _ hx433_0; first | rwa [add_block] at this | exact this) GW432.out); have hn433_1 : ad433.block ≠ gb432 := Nat.ne_of_lt (Nat.lt_of_lt_of_le (by have := World.block_lt_of_cell? _ _ hx433_0; first | rwa [add_block] at this | exact this) GW432.out); replace hx433_0 := S.hb HB hx433_0; replace hx433_1 := S.hb HB hx433_1; have HR433_0 := Aside0.mk hi433_0; have HC433_0 := Aside0.mk hl433_0; clear hi433_0 hl433_0; replace hx433_0 := (cell_far (p := ⟨gb432, 0, none⟩) (by first | (rw [add_block]; exact hn433_0) | (show (Addr.add _ _).block ≠ _; rw [add_block]; exact hn433_0) | exact hn433_0) (.slice A431_0 ((rd_T85 l1 x24_2).f0).length c431_0)).trans hx433_0; replace hx433_1 := (cell_far (p := ⟨gb432, 0, none⟩) (by first | (rw [add_block]; exact hn433_0) | (show (Addr.add _ _).block ≠ _; rw [add_block]; exact hn433_0) | exact hn433_0) (.slice A431_0 ((rd_T85 l1 x24_2).f0).length c431_0)).trans hx433_1; replace hx433_0 := (cell_far (p := ⟨gb432, 1, none⟩) (by first | (rw [add_block]; exact hn433_1) | (show (Addr.add _ _).block ≠ _; rw [add_block]; exact hn433_1) | exact hn433_1) (.int .i64 ((rd_T85 l1 x24_2).f1))).trans hx433_0; replace hx433_1 := (cell_far (p := ⟨gb432, 1, none⟩) (by first | (rw [add_block]; exact hn433_1) | (show (Addr.add _ _).block ≠ _; rw [add_block]; exact hn433_1) | exact hn433_1) (.int .i64 ((rd_T85 l1 x24_2).f1))).trans hx433_1; (try have hy433_0 := fun (n_ : Nat) => (show ((((w22.drewN n_).setCell ⟨gb432, 0, none⟩ (.slice A431_0 ((rd_T85 l1 x24_2).f0).length c431_0)).setCell ⟨gb432, 1, none⟩ (.int .i64 ((rd_T85 l1 x24_2).f1)))).cell? _ = some _ from hx433_0)); (try have hy433_1 := fun (n_ : Nat) => (show ((((w22.drewN n_).setCell ⟨gb432, 0, none⟩ (.slice A431_0 ((rd_T85 l1 x24_2).f0).length c431_0)).setCell ⟨gb432, 1, none⟩ (.int .i64 ((rd_T85 l1 x24_2).f1)))).cell? _ = some _ from hx433_1)); clear hn433_0; clear hn433_1; replace p433 := eq_true p433; replace q433 := eq_true q433) | (go_at_call 69; (with_reducible refine (slices_Equal_int_int.calls k2 _ _ ((rd_T85 l1 x24_2).f0) _ _ ((rd_T85 l2 0).f0) true _ ?s1 ?s2 ?s3 ?s4 A18.out).mono ?_); (case s1 => exact Kd.C_below HR431_0.out S.bG); (case s2 => exact HC431_0.out); (case s3 => exact Kd.C_below HR433_0.out S.bG); (case s4 => exact HC433_0.out); rintro e w' ⟨rfl, ⟨nd, rfl⟩⟩; (try first | exact ⟨rfl, _, World.drewN_drewN _ _ _⟩ | exact ⟨rfl, _, Eq.trans (World.drewN_drewN _ _ _) (congrArg (World.drewN _) (Nat.add_assoc _ _ _))⟩)) | (go_at_call 70; (with_reducible refine (impl_StartOf.calls k2 _ _ l0 _ _ l1 x24_2 t435 _ ?s1 ?s2 ?s3 ?s4 A20.out).mono ?_); (case s1 => exact Kd.C_below HR0.out S.bG); (case s2 => exact HC0.out); (case s3 => exact Kd.C_below HR1.out S.bG); (case s4 => exact HC1.out); rintro e w24 ⟨rfl, hb⟩; have n0_ := Aside0.mk (Kd.R_below (S.G2 HO_7 BK432) hb); have n1_ := S.kp2 BK432 hb; have n2_ := S.sG hb; clear HO_7; clear BK432; clear HB; have HO_7 := n0_; have BK432 := n1_; have HB := n2_; clear n0_ n1_ n2_; (try clear hb); (try clear hb2); (try clear hk); (try clear hi)) | ((with_reducible refine gate_builtin (b := .append) (xs := #[.tmp 36, .tmp 41]) rfl ?_); at_builtin; refine Kd.R_append (Kd.int .i64) (w0 := w) w.heap.size rfl (.tmp 36) (.tmp 41) 36 3 (.int .i64 0) 8 rfl Try.underlying36 info3 rfl (by decide) (by omega) u7 x7_2 t435 [.int .i64 t435] (fun _ => True) (fun _ => False) rfl rfl ?aP (fun _ hk => hk.elim) ?aF ?aO ?aB ?aS ?aL ?_; (case aP => exact rfl); (case aB => exact S.bG); (case aF => exact (fun _ _ => trivial)); (case aO => exact (S.uR HO_7.out)); (case aS => exact (below_size S.bG)); (case aL => have := LMc21.out; omega); intro v437 w25 ho hb hg hat; rw [← Ny436.out] at ho; have n0_ := Aside0.mk (blk_grown (g := gb432) (o := .cells #[.slice A431_0 ((rd_T85 l1 x24_2).f0).length c431_0, .int .i64 ((rd_T85 l1 x24_2).f1)] 85 (0, 0)) (S.uB BK432.out) hg (Kd.R_ne HO_7.out BK432.out (by decide))); have n1_ := Aside0.mk (hb); have n2_ := Aside0.mk (ho); clear BK432; clear HB; clear HO_7; have BK432 := n0_; have HB := n1_; have HO438 := n2_; clear n0_ n1_ n2_; clear ho hb hg hat)))
            go_roundg k2
            case measure => have := HJ3.out; have := HK2.out; omega
            case rel => exact ⟨(y436), (wrap64 (x24_2 + 1)), S.eA, H', ⟨by have := HJ3.out; have := HK2.out; omega⟩, ⟨S.uR HO438.out⟩, ⟨S.bG⟩⟩
           ·rw [if_neg c21] at H
            exact absurd H (by simp)
          ·have H' := Aside0.mk H
           clear H
           have p431 : 0 ≤ (x24_2 : Int) := S.oD
           have q431 : x24_2 < (l1.length : Int) := S.oD
           obtain ⟨ad431, A431_0, c431_0, e431, hx431_0, hx431_1, hl431_0, hi431_0⟩ := at_T85 HR1.out x24_2 p431 q431
           cases e431
           replace hx431_0 := S.hb HB hx431_0
           replace hx431_1 := S.hb HB hx431_1
           have HR431_0 := Aside0.mk hi431_0
           have HC431_0 := Aside0.mk hl431_0
           clear hi431_0 hl431_0
           replace p431 := eq_true p431
           replace q431 := eq_true q431
           go_wp2_with (first | ((with_reducible refine gate_dst (N := 9) rfl ?_); refine S.bx 9 (cs := #[.slice none 0 0, .int .i64 0]) (t := 85) ?_; intro gb432 hg w26 hbox hb; replace HO_7 := S.rb HO_7 hb; have BK432 := Aside0.mk hbox; have GW432 := S.geA hg; have GE432 := S.geA hg; replace HB := S.sA hb; clear hb hbox hg; obtain ⟨Z27a, Z27b, Y27a, Y27b⟩ := S.c2 BK432.out; have p433 : 0 ≤ (0 : Int) := (by omega); have q433 : 0 < (l2.length : Int) := S.oD; obtain ⟨ad433, A433_0, c433_0, e433, hx433_0, hx433_1, hl433_0, hi433_0⟩ := at_T85 HR2.out 0 p433 q433; cases e433; have qi433 : (0 < l2.length) = True := eq_true (by omega); (try rw [show ((0 : Int)).toNat = 0 from rfl] at hx433_0); (try rw [show 0 * 2 = 0 from rfl] at hx433_0); (try rw [Addr.add_zero'] at hx433_0); (try rw [show ((0 : Int)).toNat = 0 from rfl] at hx433_1); (try rw [show 0 * 2 = 0 from rfl] at hx433_1); (try rw [Addr.add_zero'] at hx433_1); have hn433_0 : ad433.block ≠ gb432 := Nat.ne_of_lt (Nat.lt_of_lt_of_le (by have := World.block_lt_of_cell? _ _ hx433_0; first | rwa [add_block] at this | exact this) GW432.out); have hn433_1 : ad433.block ≠ gb432 := Nat.ne_of_lt (Nat.lt_of_lt_of_le (by have := World.block_lt_of_cell? _ _ hx433_0; first | rwa [add_block] at this | exact this) GW432.out); replace hx433_0 := S.hb HB hx433_0; replace hx433_1 := S.hb HB hx433_1; have HR433_0 := Aside0.mk hi433_0; have HC433_0 := Aside0.mk hl433_0; clear hi433_0 hl433_0; replace hx433_0 := (cell_far (p := ⟨gb432, 0, none⟩) (by first | (rw [add_block]; exact hn433_0) | (show (Addr.add _ _).block ≠ _; rw [add_block]; exact hn433_0) | exact hn433_0) (.slice A431_0 ((rd_T85 l1 x24_2).f0).length c431_0)).trans hx433_0; replace hx433_1 := (cell_far (p := ⟨gb432, 0, none⟩) (by first | (rw [add_block]; exact hn433_0) | (show (Addr.add _ _).block ≠ _; rw [add_block]; exact hn433_0) | exact hn433_0) (.slice A431_0 ((rd_T85 l1 x24_2).f0).length c431_0)).trans hx433_1; replace hx433_0 := (cell_far (p := ⟨gb432, 1, none⟩) (by first | (rw [add_block]; exact hn433_1) | (show (Addr.add _ _).block ≠ _; rw [add_block]; exact hn433_1) | exact hn433_1) (.int .i64 ((rd_T85 l1 x24_2).f1))).trans hx433_0; replace hx433_1 := (cell_far (p := ⟨gb432, 1, none⟩) (by first | (rw [add_block]; exact hn433_1) | (show (Addr.add _ _).block ≠ _; rw [add_block]; exact hn433_1) | exact hn433_1) (.int .i64 ((rd_T85 l1 x24_2).f1))).trans hx433_1; (try have hy433_0 := fun (n_ : Nat) => (show ((((w26.drewN n_).setCell ⟨gb432, 0, none⟩ (.slice A431_0 ((rd_T85 l1 x24_2).f0).length c431_0)).setCell ⟨gb432, 1, none⟩ (.int .i64 ((rd_T85 l1 x24_2).f1)))).cell? _ = some _ from hx433_0)); (try have hy433_1 := fun (n_ : Nat) => (show ((((w26.drewN n_).setCell ⟨gb432, 0, none⟩ (.slice A431_0 ((rd_T85 l1 x24_2).f0).length c431_0)).setCell ⟨gb432, 1, none⟩ (.int .i64 ((rd_T85 l1 x24_2).f1)))).cell? _ = some _ from hx433_1)); clear hn433_0; clear hn433_1; replace p433 := eq_true p433; replace q433 := eq_true q433) | (go_at_call 69; (with_reducible refine (slices_Equal_int_int.calls k2 _ _ ((rd_T85 l1 x24_2).f0) _ _ ((rd_T85 l2 0).f0) false _ ?s1 HC431_0.out ?s3 HC433_0.out A18.out).mono ?_); (case s1 => exact Kd.C_below HR431_0.out S.bG); (case s3 => exact Kd.C_below HR433_0.out S.bG); rintro e w' ⟨rfl, ⟨nd, rfl⟩⟩; (try first | exact ⟨rfl, _, World.drewN_drewN _ _ _⟩ | exact ⟨rfl, _, Eq.trans (World.drewN_drewN _ _ _) (congrArg (World.drewN _) (Nat.add_assoc _ _ _))⟩)))
           repeat (go_quiet (first | ((with_reducible refine gate_dst (N := 9) rfl ?_); refine S.bx 9 (cs := #[.slice none 0 0, .int .i64 0]) (t := 85) ?_; intro gb432 hg w26 hbox hb; replace HO_7 := S.rb HO_7 hb; have BK432 := Aside0.mk hbox; have GW432 := S.geA hg; have GE432 := S.geA hg; replace HB := S.sA hb; clear hb hbox hg; obtain ⟨Z27a, Z27b, Y27a, Y27b⟩ := S.c2 BK432.out; have p433 : 0 ≤ (0 : Int) := (by omega); have q433 : 0 < (l2.length : Int) := S.oD; obtain ⟨ad433, A433_0, c433_0, e433, hx433_0, hx433_1, hl433_0, hi433_0⟩ := at_T85 HR2.out 0 p433 q433; cases e433; have qi433 : (0 < l2.length) = True := eq_true (by omega); (try rw [show ((0 : Int)).toNat = 0 from rfl] at hx433_0); (try rw [show 0 * 2 = 0 from rfl] at hx433_0); (try rw [Addr.add_zero'] at hx433_0); (try rw [show ((0 : Int)).toNat = 0 from rfl] at hx433_1); (try rw [show 0 * 2 = 0 from rfl] at hx433_1); (try rw [Addr.add_zero'] at hx433_1); have hn433_0 : ad433.block ≠ gb432 := Nat.ne_of_lt (Nat.lt_of_lt_of_le (by have := World.block_lt_of_cell? _ _ hx433_0; first | rwa [add_block] at this | exact this) GW432.out); have hn433_1 : ad433.block ≠ gb432 := Nat.ne_of_lt (Nat.lt_of_lt_of_le (by have := World.block_lt_of_cell? _ _ hx433_0; first | rwa [add_block] at this | exact this) GW432.out); replace hx433_0 := S.hb HB hx433_0; replace hx433_1 := S.hb HB hx433_1; have HR433_0 := Aside0.mk hi433_0; have HC433_0 := Aside0.mk hl433_0; clear hi433_0 hl433_0; replace hx433_0 := (cell_far (p := ⟨gb432, 0, none⟩) (by first | (rw [add_block]; exact hn433_0) | (show (Addr.add _ _).block ≠ _; rw [add_block]; exact hn433_0) | exact hn433_0) (.slice A431_0 ((rd_T85 l1 x24_2).f0).length c431_0)).trans hx433_0; replace hx433_1 := (cell_far (p := ⟨gb432, 0, none⟩) (by first | (rw [add_block]; exact hn433_0) | (show (Addr.add _ _).block ≠ _; rw [add_block]; exact hn433_0) | exact hn433_0) (.slice A431_0 ((rd_T85 l1 x24_2).f0).length c431_0)).trans hx433_1; replace hx433_0 := (cell_far (p := ⟨gb432, 1, none⟩) (by first | (rw [add_block]; exact hn433_1) | (show (Addr.add _ _).block ≠ _; rw [add_block]; exact hn433_1) | exact hn433_1) (.int .i64 ((rd_T85 l1 x24_2).f1))).trans hx433_0; replace hx433_1 := (cell_far (p := ⟨gb432, 1, none⟩) (by first | (rw [add_block]; exact hn433_1) | (show (Addr.add _ _).block ≠ _; rw [add_block]; exact hn433_1) | exact hn433_1) (.int .i64 ((rd_T85 l1 x24_2).f1))).trans hx433_1; (try have hy433_0 := fun (n_ : Nat) => (show ((((w26.drewN n_).setCell ⟨gb432, 0, none⟩ (.slice A431_0 ((rd_T85 l1 x24_2).f0).length c431_0)).setCell ⟨gb432, 1, none⟩ (.int .i64 ((rd_T85 l1 x24_2).f1)))).cell? _ = some _ from hx433_0)); (try have hy433_1 := fun (n_ : Nat) => (show ((((w26.drewN n_).setCell ⟨gb432, 0, none⟩ (.slice A431_0 ((rd_T85 l1 x24_2).f0).length c431_0)).setCell ⟨gb432, 1, none⟩ (.int .i64 ((rd_T85 l1 x24_2).f1)))).cell? _ = some _ from hx433_1)); clear hn433_0; clear hn433_1; replace p433 := eq_true p433; replace q433 := eq_true q433) | (go_at_call 69; (with_reducible refine (slices_Equal_int_int.calls k2 _ _ ((rd_T85 l1 x24_2).f0) _ _ ((rd_T85 l2 0).f0) false _ ?s1 HC431_0.out ?s3 HC433_0.out A18.out).mono ?_); (case s1 => exact Kd.C_below HR431_0.out S.bG); (case s3 => exact Kd.C_below HR433_0.out S.bG); rintro e w' ⟨rfl, ⟨nd, rfl⟩⟩; (try first | exact ⟨rfl, _, World.drewN_drewN _ _ _⟩ | exact ⟨rfl, _, Eq.trans (World.drewN_drewN _ _ _) (congrArg (World.drewN _) (Nat.add_assoc _ _ _))⟩))); try go_wp2_with (first | ((with_reducible refine gate_dst (N := 9) rfl ?_); refine box_event ?hg (N := 9) ?hd (cs := #[.slice none 0 0, .int .i64 0]) (t := 85) ?hr ?_; (case hd => rfl); (case hg => rfl); (case hr => first | (go_simp; done) | (go_simp; rfl)); intro gb432 hg w26 hbox hb; have n0_ := S.rb HO_7 hb; have n1_ := S.sA hb; have n2_ := Aside0.mk hbox; have n3_ := S.geA hg; have n4_ := S.geA hg; clear HO_7; clear HB; have HO_7 := n0_; have HB := n1_; have BK432 := n2_; have GW432 := n3_; have GE432 := n4_; clear n0_ n1_ n2_ n3_ n4_; clear hb hbox hg; have Z27a : w26.cell? ⟨gb432, 0, none⟩ = some (.slice none 0 0) := (blk_cell BK432.out 0).trans rfl; have Z27b : w26.cell? ⟨gb432, 1, none⟩ = some (.int .i64 0) := (blk_cell BK432.out 1).trans rfl; have Y27a := blk_frozen BK432.out 0; have Y27b := blk_frozen BK432.out 1; have p433 : 0 ≤ (0 : Int) := (by omega); have q433 : 0 < (l2.length : Int) := S.oD; obtain ⟨ad433, A433_0, c433_0, e433, hx433_0, hx433_1, hl433_0, hi433_0⟩ := at_T85 HR2.out 0 p433 q433; cases e433; have qi433 : (0 < l2.length) = True := eq_true (by omega); (try rw [show ((0 : Int)).toNat = 0 from rfl] at hx433_0); (try rw [show 0 * 2 = 0 from rfl] at hx433_0); (try rw [Addr.add_zero'] at hx433_0); (try rw [show ((0 : Int)).toNat = 0 from rfl] at hx433_1); (try rw [show 0 * 2 = 0 from rfl] at hx433_1); (try rw [Addr.add_zero'] at hx433_1); have hn433_0 : ad433.block ≠ gb432 := Nat.ne_of_lt (Nat.lt_of_lt_of_le (by have := World.block_lt_of_cell? _ _ hx433_0; first | rwa [add_block] at this | exact this) GW432.out); have hn433_1 : ad433.block ≠ gb432 := Nat.ne_of_lt (Nat.lt_of_lt_of_le (by have := World.block_lt_of_cell? _ _ hx433_0; first | rwa [add_block] at this | exact this) GW432.out); replace hx433_0 := S.hb HB hx433_0; replace hx433_1 := S.hb HB hx433_1; have HR433_0 := Aside0.mk hi433_0; have HC433_0 := Aside0.mk hl433_0; clear hi433_0 hl433_0; replace hx433_0 := (cell_far (p := ⟨gb432, 0, none⟩) (by first | (rw [add_block]; exact hn433_0) | (show (Addr.add _ _).block ≠ _; rw [add_block]; exact hn433_0) | exact hn433_0) (.slice A431_0 ((rd_T85 l1 x24_2).f0).length c431_0)).trans hx433_0; replace hx433_1 := (cell_far (p := ⟨gb432, 0, none⟩) (by first | (rw [add_block]; exact hn433_0) | (show (Addr.add _ _).block ≠ _; rw [add_block]; exact hn433_0) | exact hn433_0) (.slice A431_0 ((rd_T85 l1 x24_2).f0).length c431_0)).trans hx433_1; replace hx433_0 := (cell_far (p := ⟨gb432, 1, none⟩) (by first | (rw [add_block]; exact hn433_1) | (show (Addr.add _ _).block ≠ _; rw [add_block]; exact hn433_1) | exact hn433_1) (.int .i64 ((rd_T85 l1 x24_2).f1))).trans hx433_0; replace hx433_1 := (cell_far (p := ⟨gb432, 1, none⟩) (by first | (rw [add_block]; exact hn433_1) | (show (Addr.add _ _).block ≠ _; rw [add_block]; exact hn433_1) | exact hn433_1) (.int .i64 ((rd_T85 l1 x24_2).f1))).trans hx433_1; (try have hy433_0 := fun (n_ : Nat) => (show ((((w26.drewN n_).setCell ⟨gb432, 0, none⟩ (.slice A431_0 ((rd_T85 l1 x24_2).f0).length c431_0)).setCell ⟨gb432, 1, none⟩ (.int .i64 ((rd_T85 l1 x24_2).f1)))).cell? _ = some _ from hx433_0)); (try have hy433_1 := fun (n_ : Nat) => (show ((((w26.drewN n_).setCell ⟨gb432, 0, none⟩ (.slice A431_0 ((rd_T85 l1 x24_2).f0).length c431_0)).setCell ⟨gb432, 1, none⟩ (.int .i64 ((rd_T85 l1 x24_2).f1)))).cell? _ = some _ from hx433_1)); clear hn433_0; clear hn433_1; replace p433 := eq_true p433; replace q433 := eq_true q433) | (go_at_call 69; (with_reducible refine (slices_Equal_int_int.calls k2 _ _ ((rd_T85 l1 x24_2).f0) _ _ ((rd_T85 l2 0).f0) false _ ?s1 HC431_0.out ?s3 HC433_0.out A18.out).mono ?_); (case s1 => exact Kd.C_below HR431_0.out S.bG); (case s3 => exact Kd.C_below HR433_0.out S.bG); rintro e w' ⟨rfl, ⟨nd, rfl⟩⟩; (try first | exact ⟨rfl, _, World.drewN_drewN _ _ _⟩ | exact ⟨rfl, _, Eq.trans (World.drewN_drewN _ _ _) (congrArg (World.drewN _) (Nat.add_assoc _ _ _))⟩))))
           go_roundg k2
           case measure => have := HJ3.out; have := HK2.out; omega
           case rel => exact ⟨(x7_2), (wrap64 (x24_2 + 1)), S.eA, H', ⟨by have := HJ3.out; have := HK2.out; omega⟩, ⟨by (with_reducible repeat (first | apply Kd.R_alloc | apply Kd.R_drewN | apply Kd.R_drew)); exact Kd.R_mono (Kd.R_far (p := ⟨gb432, 1, none⟩) (Kd.R_far (p := ⟨gb432, 0, none⟩) (Kd.R_types HO_7.out BK432.out (by decide)) (fun _ hk => hk.2) (.slice A431_0 ((rd_T85 l1 x24_2).f0).length c431_0)) (fun _ hk => hk.2) (.int .i64 ((rd_T85 l1 x24_2).f1))) (fun _ hk => trivial)⟩, ⟨S.bG⟩⟩
         ·rw [if_neg c17] at H
          exact absurd H (by simp)
        ·rw [if_neg c16] at H
         exact absurd H (by simp)
       ·rw [if_neg c15] at H
        exact absurd H (by simp)
      ·obtain rfl := Option.some.inj H
       go_wp2
       repeat (go_quiet (fail); try go_wp2)
       go_ret
       exact ⟨_, S.eW, S.uR HO_7.out, S.bA⟩

/-! ### impl_CanSwitch: function 21 -/
def impl_CanSwitch.f (k : Nat) (l0 : List (S71)) (l1 : List (S85)) (l2 : List (S85)) : Option (Bool) := (impl_SwitchSeconds.f k l0 l1 l2).bind fun t439 => (some (decide ((t439.length : Int) > 0)))
set_option maxHeartbeats 8000000 in
set_option maxRecDepth 100000 in
theorem impl_CanSwitch.calls (k : Nat) (A0 : Option Addr) (c0 : Nat) (l0 : List (S71)) (A1 : Option Addr) (c1 : Nat) (l1 : List (S85)) (A2 : Option Addr) (c2 : Nat) (l2 : List (S85)) (r : Bool) (w : World) (hr0 : Kd.C k71 w A0 l0.length l0) (hc0 : l0.length ≤ c0) (hr1 : Kd.C k85 w A1 l1.length l1) (hc1 : l1.length ≤ c1) (hr2 : Kd.C k85 w A2 l2.length l2) (hc2 : l2.length ≤ c2) (h : impl_CanSwitch.f k l0 l1 l2 = some r) :
  Calls Try.prog 21 #[.slice A0 l0.length c0, .slice A1 l1.length c1, .slice A2 l2.length c2] w fun e w' => e = .returned (.bool r) ∧ Below w.heap.size w w' := by
 have HR0 := Aside0.mk hr0
 have HC0 := Aside0.mk hc0
 clear hr0 hc0
 have HR1 := Aside0.mk hr1
 have HC1 := Aside0.mk hc1
 clear hr1 hc1
 have HR2 := Aside0.mk hr2
 have HC2 := Aside0.mk hc2
 clear hr2 hc2
 have HB := Aside0.mk (Below.refl w.heap.size w)
 have H : ((impl_SwitchSeconds.f k l0 l1 l2).bind fun t439 => (some (decide ((t439.length : Int) > 0)))) = some r := h
 clear h
 replace H := S.bd H; obtain ⟨t439, A4, H⟩ := H
 (try dsimp only at H)
 obtain rfl := Option.some.inj H
 go_enter Try.func21, Try.ntmps21
 go_wp2_with (first | ((with_reducible refine gate_callee (f := 23) rfl ?_); refine S.gL (some 10) Try.func23 #[.slice A0 l0.length c0, .slice A1 l1.length c1, .slice A2 l2.length c2] ?_; (with_reducible refine (impl_SwitchSeconds.calls k _ _ l0 _ _ l1 _ _ l2 t439 _ ?s1 HC0.out ?s3 HC1.out ?s5 HC2.out A4.out).mono ?_); (case s1 => repeat (first | exact HR0.out | (with_reducible refine Kd.C_alloc ?_ _) | (with_reducible refine Kd.C_drewN ?_ _) | (with_reducible refine Kd.C_drew ?_))); (case s3 => repeat (first | exact HR1.out | (with_reducible refine Kd.C_alloc ?_ _) | (with_reducible refine Kd.C_drewN ?_ _) | (with_reducible refine Kd.C_drew ?_))); (case s5 => repeat (first | exact HR2.out | (with_reducible refine Kd.C_alloc ?_ _) | (with_reducible refine Kd.C_drewN ?_ _) | (with_reducible refine Kd.C_drew ?_))); rintro e w5 ⟨v440, rfl, ho0, hb⟩; refine ⟨_, rfl, ?_⟩; have HO441 := S.lwA ho0; replace HB := S.sA hb; (try clear hb); (try clear ho0); obtain ⟨Ao6, co6, eo6⟩ := Kd.R_slice HO441.out; subst eo6))
 go_ret
 exact ⟨S.eW, S.bA⟩

/-! ### slices_Clone_int_int: function 115 -/
def slices_Clone_int_int.f (l0 : List (Int)) : Option (List (Int)) := if l0.length < 17592186044416 then some l0 else none
set_option maxHeartbeats 8000000 in
set_option maxRecDepth 100000 in
theorem slices_Clone_int_int.calls (A0 : Option Addr) (c0 : Nat) (l0 : List (Int)) (r : List (Int)) (w : World) (hr0 : Kd.C (Kd.int .i64) w A0 l0.length l0) (hc0 : l0.length ≤ c0) (h : slices_Clone_int_int.f l0 = some r) :
  Calls Try.prog 115 #[.slice A0 l0.length c0] w fun e w' => ∃ v0_ : Value, e = .returned (v0_) ∧ Kd.R (Kd.int .i64) 3 w' w.heap.size (fun _ => True) v0_ r ∧ Below w.heap.size w w' := by
 unfold slices_Clone_int_int.f at h
 by_cases hl : l0.length < 17592186044416
 ·rw [if_pos hl] at h
  obtain rfl := Option.some.inj h
  clear h
  have HB := Aside0.mk (Below.refl w.heap.size w)
  cases A0 with
  | none =>
   obtain rfl : l0 = [] := Go.Proofs.Ytjgigmghcfdomaa.Hnd.nil_of hr0
   clear hr0 hc0 hl
   have hE : ∀ W, (binOp .eql 36 (.slice none 0 c0) (.slice none 0 0)).run Try.prog W = .ok (.bool true) W := fun W => run_eql_slice_nil W 36 3 none 0 c0 Try.underlying36
   go_enter Try.func115, Try.ntmps115
   go_wp2
   go_ret
   exact ⟨_, rfl, Kd.R_nil _ _ _ _ _, HB.out⟩
  | some ad =>
   have HR0 := Aside0.mk hr0
   have HL := Aside0.mk hl
   clear hr0 hc0 hl
   obtain ⟨y, hy⟩ : ∃ y : List (Int), y = [] := ⟨_, rfl⟩
   have Ny := Aside0.mk hy
   obtain ⟨z, hz⟩ : ∃ z : List (Int), z = y ++ l0 := ⟨_, rfl⟩
   have Nz := Aside0.mk hz
   have Nz2 : Aside0 (z = l0) := ⟨by rw [hz, hy]; rfl⟩
   clear hy hz
   have hE : ∀ W, (binOp .eql 36 (.slice (some ad) l0.length c0) (.slice none 0 0)).run Try.prog W = .ok (.bool false) W := fun W => run_eql_slice_nil W 36 3 (some ad) _ c0 Try.underlying36
   go_enter Try.func115, Try.ntmps115
   go_wp2_with (first | ((with_reducible refine gate_dst (N := 5) rfl ?_); refine Kd.R_lit (Kd.int .i64) _ 3 ?hg (N := 5) ?hd (xs := ([] : List (Int))) (inner := []) (ok := fun _ => True) (okp := fun _ => True) ?hr ?hp (fun _ hk => hk) trivial (Below.refl _ _) (Nat.le_refl _) (by simp) ?_; (case hd => rfl); (case hg => rfl); (case hr => first | (go_simp; done) | (go_simp; rfl)); (case hp => exact (Reps.none _ _)); intro v110 w6 ho7 hb hg_ hnew_; clear hg_ hnew_; rw [← Ny.out] at ho7; have HO111 := Aside0.mk (Kd.R_lower ho7 (below_size (by exact HB.out))); replace HB := Aside0.mk (below_step (by exact HB.out) hb); clear hb ho7) | ((with_reducible refine gate_builtin (b := .append) (xs := #[.tmp 5, .tmp 6]) rfl ?_); at_builtin; refine Kd.R_append_rows (Kd.int .i64) (w0 := w) w.heap.size rfl (.tmp 5) (.tmp 6) 36 3 (.int .i64 0) 8 rfl Try.underlying36 info3 rfl (by decide) (by omega) v110 y l0 _ _ _ (fun _ => True) (fun _ => False) rfl rfl ?aO ?aR (fun _ _ h => h) (fun _ h => h.elim) ?aF ?aB ?aS ?aL ?_; (case aR => exact (Kd.C_below HR0.out HB.out)); (case aB => exact HB.out); (case aF => exact (fun _ _ => trivial)); (case aO => exact HO111.out); (case aS => exact (below_size HB.out)); (case aL => have := HL.out; have hy := Ny.out; subst hy; simp; omega); intro v113 w8 ho hb hg hat; rw [← Nz.out] at ho; have n0_ := Aside0.mk (hb); have n1_ := Aside0.mk (ho); clear HB; clear HO111; have HB := n0_; have HO114 := n1_; clear n0_ n1_; clear ho hb hg hat))
   go_ret
   exact ⟨_, rfl, by rw [← Nz2.out]; exact HO114.out, HB.out⟩
 ·rw [if_neg hl] at h
  exact absurd h (by simp)

end Go.Proofs.Ytjgigmghcfdomaa.PFnExactMakeSwitch
