/- Printed by a program: what the Go functions compute, as plain Lean functions (.f), and the proofs that the machine's calls come to just that (.calls). -/
import Derived.Test.YtjgigmghcfdomaaPFnExactWindowOfx0
import Derived.Test.YtjgigmghcfdomaaPFnExactWindowOfx14
import Derived.Test.YtjgigmghcfdomaaPFnExactWindowOfx20
import Derived.Test.YtjgigmghcfdomaaPFnExactWindowOfx22
namespace Go.Proofs.Ytjgigmghcfdomaa.PFnExactWindowOf
open Go.RowKit Go.Proofs.YtjgigmghcfdomaaW.PrintWords Go.Proofs.YtjgigmghcfdomaaW.PrintLast Go.Proofs.YtjgigmghcfdomaaW.PrintMore
attribute [local go_sem] max2_int min2_int max_two min_two max_three min_three max_four min_four   -- for this text's walks alone
set_option linter.unusedVariables false
set_option linter.unusedSimpArgs false

/-! ### impl_longOf: function 81 -/
def impl_longOf.f (k : Nat) (l0 : List (S71)) (l1 : List (S85)) (a2 : Int) : Option (Int) := if 0 ≤ a2 then (if a2 < (l1.length : Int) then ((impl_nextStage.f l1 a2).bind fun t377 => ((impl_ClearBetween.f k l0 ((rd_T85 l1 a2).f0) t377).bind fun t380 => (some (wrap64 (((rd_T85 l1 a2).f1) + t380))))) else (none)) else (none)
def impl_longOf.T1 : Bool × List (List Nat × List Nat) := (true, [([], []), ([], []), ([0, 1], [0, 1]), ([2], [2]), ([3], [3]), ([], []), ([], []), ([], []), ([6, 7], [6, 7]), ([8], [8]), ([9], [9]), ([], []), ([], []), ([11, 12], [11, 12]), ([5, 10, 13, 13], [5, 10, 13]), ([4, 14], [4, 14]), ([15, 14, 0, 1, 2, 3, 4, 5, 6, 7, 8, 9, 10, 11, 12, 13, 14, 15], [15])])
def impl_longOf.B1 : List Nat := [0, 0, 3, 7, 15, 0, 0, 0, 192, 448, 960, 0, 0, 6144, 16352, 32767, 65535]
theorem impl_longOf.tab1 : rtab .any (opsOf Try.f81 1) = impl_longOf.T1 := by kernel_rfl
theorem impl_longOf.bits1 : waitsOk impl_longOf.T1.2 impl_longOf.B1 = true := by kernel_rfl
set_option maxHeartbeats 8000000 in
set_option maxRecDepth 100000 in
theorem impl_longOf.calls (k : Nat) (A0 : Option Addr) (c0 : Nat) (l0 : List (S71)) (A1 : Option Addr) (c1 : Nat) (l1 : List (S85)) (a2 : Int) (r : Int) (w : World) (hr0 : Kd.C k71 w A0 l0.length l0) (hc0 : l0.length ≤ c0) (hr1 : Kd.C k85 w A1 l1.length l1) (hc1 : l1.length ≤ c1) (h : impl_longOf.f k l0 l1 a2 = some r) :
  Calls Try.prog 81 #[.slice A0 l0.length c0, .slice A1 l1.length c1, .int .i64 a2] w fun e w' => e = .returned (.int .i64 r) ∧ Below w.heap.size w w' := by
 have HR0 := Aside0.mk hr0
 have HC0 := Aside0.mk hc0
 clear hr0 hc0
 have HR1 := Aside0.mk hr1
 have HC1 := Aside0.mk hc1
 clear hr1 hc1
 have HB := Aside0.mk (Below.refl w.heap.size w)
 have H : (if 0 ≤ a2 then (if a2 < (l1.length : Int) then ((impl_nextStage.f l1 a2).bind fun t377 => ((impl_ClearBetween.f k l0 ((rd_T85 l1 a2).f0) t377).bind fun t380 => (some (wrap64 (((rd_T85 l1 a2).f1) + t380))))) else (none)) else (none)) = some r := h
 clear h
 by_cases c4 : 0 ≤ a2
 ·rw [if_pos c4] at H
  have c4b0 : decide (0 ≤ a2) = true := decide_eq_true c4
  clear c4
  by_cases c5 : a2 < (l1.length : Int)
  ·rw [if_pos c5] at H
   have c5b0 : decide (a2 < (l1.length : Int)) = true := decide_eq_true c5
   clear c5
   replace H := S.bd H; obtain ⟨t377, A6, H⟩ := H
   (try dsimp only at H)
   replace H := S.bd H; obtain ⟨t380, A7, H⟩ := H
   (try dsimp only at H)
   obtain rfl := Option.some.inj H
   go_enter Try.func81, Try.ntmps81
   try go_wp2
   replace HB := Aside0.mk (below_drew1 HB.out)
   have p375 : 0 ≤ (a2 : Int) := S.oD
   have q375 : a2 < (l1.length : Int) := S.oD
   obtain ⟨ad375, A375_0, c375_0, e375, hx375_0, hx375_1, hl375_0, hi375_0⟩ := at_T85 HR1.out a2 p375 q375
   have hw375_1 := hx375_1
   have hw375_0 := hx375_0
   cases e375
   replace hx375_0 := S.hb HB hx375_0
   replace hx375_1 := S.hb HB hx375_1
   have HR375_0 := Aside0.mk hi375_0
   have HC375_0 := Aside0.mk hl375_0
   clear hi375_0 hl375_0
   replace p375 := eq_true p375
   replace q375 := eq_true q375
   have p376 : 0 ≤ (a2 : Int) := S.oD
   have q376 : a2 < (l1.length : Int) := S.oD
   obtain ⟨ad376, A376_0, c376_0, e376, hx376_0, hx376_1, hl376_0, hi376_0⟩ := at_T85 HR1.out a2 p376 q376
   have hw376_1 := hx376_1
   have hw376_0 := hx376_0
   obtain rfl : ad375 = ad376 := (by injection e376)
   replace hx376_0 := S.hb HB hx376_0
   replace hx376_1 := S.hb HB hx376_1
   have HR376_0 := Aside0.mk hi376_0
   have HC376_0 := Aside0.mk hl376_0
   clear hi376_0 hl376_0
   replace p376 := eq_true p376
   replace q376 := eq_true q376
   have ea_ := Option.some.inj (hx375_0.symm.trans hx376_0)
   injection ea_ with ea_ en_ ec_
   subst ea_
   subst ec_
   clear en_
   refine S.st (n := 17) (ds := []) #[false, false, false, false, false, false, false, false, false, false, false, false, false, false, false, false, false] (fun w_ h_ => have x_ := And.intro (S.q h_ (S.hb HB hw375_0)) (And.intro (S.q h_ (S.hb HB hw375_1)) (And.intro (S.q h_ (S.hb HB hw376_0)) (S.q h_ (S.hb HB hw376_1)))); x_) (fun hHeld => ?_); refine with_tabW impl_longOf.tab1 impl_longOf.bits1 (fun HT_ HW_ => ?_)
   generalize w.drew = w8 at HB HR375_0 HR376_0 hx375_0 hx375_1 hx376_0 hx376_1 hHeld ⊢
   refine S.pS 0 7 ?_
   refine S.pS 1 8 ?_
   refine S.pS 2 9 ?_
   refine S.pS 3 10 ?_
   refine S.pS 5 12 ?_
   refine S.pS 6 13 ?_
   refine S.pS 7 14 ?_
   refine S.pS 8 15 ?_
   refine S.pS 9 16 ?_
   refine S.pS 11 18 ?_
   refine S.pS 12 19 ?_
   refine S.tK 4 11 #[true, true, true, true, true, true, true, true, true, true, false, true, true, false, false, false, false] ?_
   refine S.tK 10 17 #[true, true, true, true, true, true, true, true, true, true, true, true, true, false, false, false, false] ?_
   refine S.oN 13 20 #[true, true, true, true, true, true, true, true, true, true, true, true, true, true, false, false, false] (fun K hK => ?_)
   refine S.go Try.func110 #[.slice (some ad375) l1.length c1, .int .i64 a2] ?_
   with_reducible refine (impl_nextStage.calls (fun k_ => k_ < w.heap.size) _ _ l1 a2 t377 _ ?s1 A6.out).mono ?_
   (case s1 => exact Kd.V_mk HC1.out (Kd.F_below (Kd.C_F k85_heap HR1.out) S.bA))
   rintro e w9 ⟨v378, rfl, ho0, hb⟩
   refine ⟨_, rfl, ?_⟩
   have HO379 := Aside0.mk (Kd.V_lower (Kd.V_mono (ok' := fun k_ => True) ho0 (fun k_ hk_ => trivial)) (below_size S.bA))
   replace HB := S.sA hb
   (try clear hb)
   (try clear hb2)
   (try clear hk)
   (try clear hi)
   (try clear ho0)
   obtain ⟨Ao10, co10, eo10⟩ := Kd.V_slice HO379.out
   (first | subst eo10 | (injection eo10 with f1_ f2_ f3_; have f4_ := f1_.symm; have f5_ := f3_.symm; clear f1_ f2_ f3_; subst f4_; subst f5_))
   refine hK.out _ _ ⟨(S.hb HB hw375_0 :), (S.hb HB hw375_1 :), (S.hb HB hw376_0 :), (S.hb HB hw376_1 :)⟩ (fun hHeld => ?_)
   clear hK K
   refine S.nm 20 ?_
   refine S.oN 14 21 #[true, true, true, true, true, true, true, true, true, true, true, true, true, true, true, false, false] (fun K hK => ?_)
   refine S.go Try.func109 #[.slice A0 l0.length c0, .slice A375_0 ((rd_T85 l1 a2).f0).length c375_0, .slice Ao10 t377.length co10] ?_
   with_reducible refine (impl_ClearBetween.calls k _ _ l0 _ _ ((rd_T85 l1 a2).f0) _ _ t377 t380 _ ?s1 ?s2 ?s3 ?s4 ?s5 ?s6 A7.out).mono ?_
   (case s1 => exact S.cA HR0.out)
   (case s2 => exact HC0.out)
   (case s3 => exact S.cA HR376_0.out)
   (case s4 => exact HC376_0.out)
   (case s5 => repeat (first | exact (Kd.V_reads' HO379.out).2.2 | (with_reducible refine Kd.C_alloc ?_ _) | (with_reducible refine Kd.C_drewN ?_ _) | (with_reducible refine Kd.C_drew ?_)))
   (case s6 => exact (Kd.V_reads' HO379.out).2.1)
   rintro e w11 ⟨rfl, hb⟩
   refine ⟨_, rfl, ?_⟩
   replace HO379 := Aside0.mk (Kd.V_below (S.uV HO379.out) hb)
   replace HB := S.sA hb
   (try clear hb)
   (try clear hb2)
   (try clear hk)
   (try clear hi)
   refine hK.out _ _ ⟨(S.hb HB hw375_0 :), (S.hb HB hw375_1 :), (S.hb HB hw376_0 :), (S.hb HB hw376_1 :)⟩ (fun hHeld => ?_)
   clear hK K
   refine S.nm 21 ?_
   refine S.pS 15 22 ?_
   refine S.pS 16 6 ?_
   refine done_ (done_of HT_.out (by kernel_rfl)) ?_
   try go_wp2
   go_ret
   exact ⟨S.eW, S.bA⟩
  ·rw [if_neg c5] at H
   exact absurd H (by simp)
 ·rw [if_neg c4] at H
  exact absurd H (by simp)

/-! ### impl_Cycle: function 41 -/
def impl_Cycle.l0 : Nat → List (S71) → List (S85) → Int → Int → Int → Option (Int)
 | 0, _, _, _, _, _ => none
 | k + 1, x0, x1, x5, x12, x13 => if x13 < x12 then ((impl_longOf.f k x0 x1 x13).bind fun t382 => (impl_Cycle.l0 k x0 x1 (wrap64 (x5 + t382)) x12 (wrap64 (x13 + 1)))) else (some x5)
def impl_Cycle.f (k : Nat) (l0 : List (S71)) (l1 : List (S85)) : Option (Int) := (impl_IsPlan.f k l0 l1).bind fun t381 => (if t381 = true then (impl_Cycle.l0 k l0 l1 0 (l1.length : Int) 0) else (some 0))
set_option maxHeartbeats 8000000 in
set_option maxRecDepth 100000 in
theorem impl_Cycle.calls (k : Nat) (A0 : Option Addr) (c0 : Nat) (l0 : List (S71)) (A1 : Option Addr) (c1 : Nat) (l1 : List (S85)) (r : Int) (w : World) (hr0 : Kd.C k71 w A0 l0.length l0) (hc0 : l0.length ≤ c0) (hr1 : Kd.C k85 w A1 l1.length l1) (hc1 : l1.length ≤ c1) (h : impl_Cycle.f k l0 l1 = some r) :
  Calls Try.prog 41 #[.slice A0 l0.length c0, .slice A1 l1.length c1] w fun e w' => e = .returned (.int .i64 r) ∧ Below w.heap.size w w' := by
 have HR0 := Aside0.mk hr0
 have HC0 := Aside0.mk hc0
 clear hr0 hc0
 have HR1 := Aside0.mk hr1
 have HC1 := Aside0.mk hc1
 clear hr1 hc1
 have HB := Aside0.mk (Below.refl w.heap.size w)
 have H : ((impl_IsPlan.f k l0 l1).bind fun t381 => (if t381 = true then (impl_Cycle.l0 k l0 l1 0 (l1.length : Int) 0) else (some 0))) = some r := h
 clear h
 replace H := S.bd H; obtain ⟨t381, A3, H⟩ := H
 (try dsimp only at H)
 replace H := S.db H; rcases H with ⟨rfl, H⟩ | ⟨rfl, H⟩
 ·have H' := Aside0.mk H
  clear H
  go_enter Try.func41, Try.ntmps41
  go_wp2_with (first | ((with_reducible refine gate_callee (f := 68) rfl ?_); refine S.gL (some 9) Try.func68 #[.slice A0 l0.length c0, .slice A1 l1.length c1] ?_; (with_reducible refine (impl_IsPlan.calls k _ _ l0 (fun k_ => k_ < w.heap.size) _ _ l1 true _ ?s1 HC0.out ?s3 A3.out).mono ?_); (case s1 => repeat (first | exact HR0.out | (with_reducible refine Kd.C_alloc ?_ _) | (with_reducible refine Kd.C_drewN ?_ _) | (with_reducible refine Kd.C_drew ?_))); (case s3 => exact Kd.V_mk HC1.out (Kd.F_below (Kd.C_F k85_heap HR1.out) S.bA)); rintro e w5 ⟨rfl, hb⟩; refine ⟨_, rfl, ?_⟩; replace HB := S.sA hb; (try clear hb)))
  go_loopg [5, 13] k (fun kq v5 v13 w' => ∃ (x5_1 : Int) (x13_1 : Int), v5 = .int .i64 x5_1 ∧ v13 = .int .i64 x13_1 ∧ Aside0 (impl_Cycle.l0 kq l0 l1 x5_1 (l1.length : Int) x13_1 = some r) ∧ Aside0 (kq ≤ k) ∧ Aside0 (Below w.heap.size w w'))
  case atStart => exact ⟨(0), (0), S.eA, S.eA, H', ⟨Nat.le_refl _⟩, ⟨S.bA⟩⟩
  case round =>
   clear H'
   try clear c1
   try clear c4
   obtain ⟨x5_1, x13_1, rfl, rfl, HA, HK1, HB⟩ := hrel
   cases gk with
   | zero => exact absurd HA.out (by simp [impl_Cycle.l0])
   | succ k1 =>
    have H := HA.out
    clear HA
    simp only [impl_Cycle.l0] at H
    replace H := S.dc H; rcases H with ⟨H, c6b0⟩ | ⟨H, c6b0⟩
    ·replace H := Option.bind_eq_some_iff.mp H
     obtain ⟨t382, A70, H⟩ := H
     replace H : (impl_Cycle.l0 k1 l0 l1 (wrap64 (x5_1 + t382)) (l1.length : Int) (wrap64 (x13_1 + 1))) = some r := H
     have A7 := Aside0.mk A70
     clear A70
     have H' := Aside0.mk H
     clear H
     go_wp2_with (first | ((with_reducible refine gate_callee (f := 81) rfl ?_); refine S.gL (some 20) Try.func81 #[.slice A0 l0.length c0, .slice A1 l1.length c1, .int .i64 x13_1] ?_; (with_reducible refine (impl_longOf.calls k1 _ _ l0 _ _ l1 x13_1 t382 _ ?s1 HC0.out ?s3 HC1.out A7.out).mono ?_); (case s1 => exact S.cA HR0.out); (case s3 => exact S.cA HR1.out); rintro e w8 ⟨rfl, hb⟩; refine ⟨_, rfl, ?_⟩; replace HB := S.sA hb; (try clear hb)))
     go_roundg k1
     case measure => have := HK1.out; omega
     case rel => exact ⟨(wrap64 (x5_1 + t382)), (wrap64 (x13_1 + 1)), S.eA, S.eA, H', ⟨by have := HK1.out; omega⟩, ⟨S.bA⟩⟩
    ·obtain rfl := Option.some.inj H
     go_wp2
     go_ret
     exact ⟨S.eW, S.bA⟩
 ·obtain rfl := Option.some.inj H
  go_enter Try.func41, Try.ntmps41
  go_wp2_with (first | ((with_reducible refine gate_callee (f := 68) rfl ?_); refine S.gL (some 9) Try.func68 #[.slice A0 l0.length c0, .slice A1 l1.length c1] ?_; (with_reducible refine (impl_IsPlan.calls k _ _ l0 (fun k_ => k_ < w.heap.size) _ _ l1 false _ ?s1 HC0.out ?s3 A3.out).mono ?_); (case s1 => repeat (first | exact HR0.out | (with_reducible refine Kd.C_alloc ?_ _) | (with_reducible refine Kd.C_drewN ?_ _) | (with_reducible refine Kd.C_drew ?_))); (case s3 => exact Kd.V_mk HC1.out (Kd.F_below (Kd.C_F k85_heap HR1.out) S.bA)); rintro e w9 ⟨rfl, hb⟩; refine ⟨_, rfl, ?_⟩; replace HB := S.sA hb; (try clear hb)))
  go_ret
  exact ⟨S.eW, S.bA⟩

/-! ### impl_PartAt: function 113 -/
mutual
def impl_PartAt.j0 : Nat → List (S71) → List (S85) → Int → Int → Bool → Option (Int × Int)
 | 0, _, _, _, _, _ => none
 | k + 1, x0, x1, x2, x8, x20 => if x20 = true then (some ((-1), 0)) else (if x8 = 0 then (none) else (impl_PartAt.l0 k x0 x1 (Int.tmod x2 x8) 0))
def impl_PartAt.l0 : Nat → List (S71) → List (S85) → Int → Int → Option (Int × Int)
 | 0, _, _, _, _ => none
 | k + 1, x0, x1, x9, x10 => (impl_longOf.f k x0 x1 x10).bind fun t385 => (if x9 ≥ t385 then ((impl_longOf.f k x0 x1 x10).bind fun t386 => (impl_PartAt.l0 k x0 x1 (wrap64 (x9 - t386)) (wrap64 (x10 + 1)))) else (some (x10, x9)))
end
def impl_PartAt.f (k : Nat) (l0 : List (S71)) (l1 : List (S85)) (a2 : Int) : Option (Int × Int) := (impl_Cycle.f k l0 l1).bind fun t383 => (if t383 = 0 then (impl_PartAt.j0 k l0 l1 a2 t383 true) else ((impl_InRange.f a2 0 1000000).bind fun t384 => (impl_PartAt.j0 k l0 l1 a2 t383 (!t384))))
set_option maxHeartbeats 8000000 in
set_option maxRecDepth 100000 in
theorem impl_PartAt.calls (k : Nat) (A0 : Option Addr) (c0 : Nat) (l0 : List (S71)) (A1 : Option Addr) (c1 : Nat) (l1 : List (S85)) (a2 : Int) (r1 : Int) (r2 : Int) (w : World) (hr0 : Kd.C k71 w A0 l0.length l0) (hc0 : l0.length ≤ c0) (hr1 : Kd.C k85 w A1 l1.length l1) (hc1 : l1.length ≤ c1) (h : impl_PartAt.f k l0 l1 a2 = some (r1, r2)) :
  Calls Try.prog 113 #[.slice A0 l0.length c0, .slice A1 l1.length c1, .int .i64 a2] w fun e w' => e = .returned (.tuple #[.int .i64 r1, .int .i64 r2]) ∧ Below w.heap.size w w' := by
 have HR0 := Aside0.mk hr0
 have HC0 := Aside0.mk hc0
 clear hr0 hc0
 have HR1 := Aside0.mk hr1
 have HC1 := Aside0.mk hc1
 clear hr1 hc1
 have HB := Aside0.mk (Below.refl w.heap.size w)
 have H : ((impl_Cycle.f k l0 l1).bind fun t383 => (if t383 = 0 then (impl_PartAt.j0 k l0 l1 a2 t383 true) else ((impl_InRange.f a2 0 1000000).bind fun t384 => (impl_PartAt.j0 k l0 l1 a2 t383 (!t384))))) = some (r1, r2) := h
 clear h
 replace H := S.bd H; obtain ⟨t383, A4, H⟩ := H
 (try dsimp only at H)
 have HC5 := Aside0.mk H
 clear H
 go_enter Try.func113, Try.ntmps113
 go_upto_region 2 with (first | ((with_reducible refine gate_callee (f := 41) rfl ?_); refine S.gL (some 13) Try.func41 #[.slice A0 l0.length c0, .slice A1 l1.length c1] ?_; (with_reducible refine (impl_Cycle.calls k _ _ l0 _ _ l1 t383 _ ?s1 HC0.out ?s3 HC1.out A4.out).mono ?_); (case s1 => repeat (first | exact HR0.out | (with_reducible refine Kd.C_alloc ?_ _) | (with_reducible refine Kd.C_drewN ?_ _) | (with_reducible refine Kd.C_drew ?_))); (case s3 => repeat (first | exact HR1.out | (with_reducible refine Kd.C_alloc ?_ _) | (with_reducible refine Kd.C_drewN ?_ _) | (with_reducible refine Kd.C_drew ?_))); rintro e w6 ⟨rfl, hb⟩; refine ⟨_, rfl, ?_⟩; replace HB := S.sA hb; (try clear hb)))
 (try simp only [Act.put, List.setIfInBounds_toArray, List.set_cons_zero, List.set_cons_succ])
 go_cut [20] (fun v20 wc => ∃ (kq : Nat) (x20_4 : Bool), v20 = .bool x20_4 ∧ Aside0 (impl_PartAt.j0 kq l0 l1 a2 t383 x20_4 = some (r1, r2)) ∧ Aside0 (kq ≤ k) ∧ Aside0 (Below w.heap.size w wc))
 case first =>
  have H := HC5.out
  clear HC5
  by_cases c7 : t383 = 0
  ·rw [if_pos c7] at H
   have c7b0 : (t383 == 0) = true := beq_iff_eq.mpr c7
   have c7b1 : (t383 != 0) = false := bne_eq_false_iff_eq.mpr c7
   clear c7
   (first | rw [c7b0] | (simp only [i64_w, i32_w]; rw [c7b0]) | skip)
   have H' := Aside0.mk H
   clear H
   go_wp2
   go_meet
   case rel => exact ⟨_, (true), S.eA, H', S.le, ⟨S.bA⟩⟩
  ·rw [if_neg c7] at H
   have c7b0 : (t383 == 0) = false := beq_eq_false_iff_ne.mpr c7
   have c7b1 : (t383 != 0) = true := bne_iff_ne.mpr c7
   (first | rw [c7b0] | (simp only [i64_w, i32_w]; rw [c7b0]) | skip)
   replace H := S.bd H; obtain ⟨t384, A8, H⟩ := H
   (try dsimp only at H)
   have H' := Aside0.mk H
   clear H
   go_wp2_with (first | (go_at_call 62; (with_reducible refine (impl_InRange.calls a2 0 1000000 t384 _ A8.out).mono ?_); rintro e w' ⟨rfl, ⟨nd, rfl⟩⟩))
   go_meet
   case rel => exact ⟨_, (!t384), S.eA, H', S.le, ⟨S.bA⟩⟩
 case rest =>
  clear HC5
  try clear c1
  obtain ⟨kq, x20_4, rfl, HA, HJ4, HB⟩ := hcut
  cases kq with
  | zero => exact absurd HA.out (by simp [impl_PartAt.j0])
  | succ kj4 =>
   have H := HA.out
   clear HA
   simp only [impl_PartAt.j0] at H
   replace H := S.db H; rcases H with ⟨rfl, H⟩ | ⟨rfl, H⟩
   ·simp only [Option.some.injEq, Prod.mk.injEq] at H
    obtain ⟨rfl, rfl⟩ := H
    go_wp2
    go_ret2
    exact ⟨S.eW, S.bA⟩
   ·by_cases c10 : t383 = 0
    ·rw [if_pos c10] at H
     exact absurd H (by simp)
    ·rw [if_neg c10] at H
     have c10b0 : (t383 == 0) = false := beq_eq_false_iff_ne.mpr c10
     have c10b1 : (t383 != 0) = true := bne_iff_ne.mpr c10
     have H' := Aside0.mk H
     clear H
     go_wp2
     go_loopg [9, 10] kj4 (fun kq v9 v10 w' => ∃ (x9_2 : Int) (x10_2 : Int), v9 = .int .i64 x9_2 ∧ v10 = .int .i64 x10_2 ∧ Aside0 (impl_PartAt.l0 kq l0 l1 x9_2 x10_2 = some (r1, r2)) ∧ Aside0 (kq ≤ kj4) ∧ Aside0 (Below w.heap.size w w'))
     case atStart => exact ⟨(Int.tmod a2 t383), (0), S.eA, S.eA, H', ⟨Nat.le_refl _⟩, ⟨S.bA⟩⟩
     case round =>
      clear H'
      try clear c1
      try clear c9
      try clear c10
      try clear c10b0
      try clear c10b1
      obtain ⟨x9_2, x10_2, rfl, rfl, HA, HK2, HB⟩ := hrel
      cases gk with
      | zero => exact absurd HA.out (by simp [impl_PartAt.l0])
      | succ k2 =>
       have H := HA.out
       clear HA
       simp only [impl_PartAt.l0] at H
       replace H := S.bd H; obtain ⟨t385, A11, H⟩ := H
       (try dsimp only at H)
       by_cases c12 : x9_2 ≥ t385
       ·rw [if_pos c12] at H
        have c12b0 : decide (t385 ≤ x9_2) = true := decide_eq_true c12
        clear c12
        replace H := S.bd H; obtain ⟨t386, A13, H⟩ := H
        (try dsimp only at H)
        have H' := Aside0.mk H
        clear H
        go_wp2_with (first | ((with_reducible refine gate_callee (f := 81) rfl ?_); refine S.gL (some 28) Try.func81 #[.slice A0 l0.length c0, .slice A1 l1.length c1, .int .i64 x10_2] ?_; (with_reducible refine (impl_longOf.calls k2 _ _ l0 _ _ l1 x10_2 t385 _ ?s1 HC0.out ?s3 HC1.out A11.out).mono ?_); (case s1 => exact S.cA HR0.out); (case s3 => exact S.cA HR1.out); rintro e w14 ⟨rfl, hb⟩; refine ⟨_, rfl, ?_⟩; replace HB := S.sA hb; (try clear hb)) | ((with_reducible refine gate_callee (f := 81) rfl ?_); refine S.gL (some 34) Try.func81 #[.slice A0 l0.length c0, .slice A1 l1.length c1, .int .i64 x10_2] ?_; (with_reducible refine (impl_longOf.calls k2 _ _ l0 _ _ l1 x10_2 t386 _ ?s1 HC0.out ?s3 HC1.out A13.out).mono ?_); (case s1 => exact S.cA HR0.out); (case s3 => exact S.cA HR1.out); rintro e w15 ⟨rfl, hb⟩; refine ⟨_, rfl, ?_⟩; replace HB := S.sA hb; (try clear hb)))
        go_roundg k2
        case measure => have := HJ4.out; have := HK2.out; omega
        case rel => exact ⟨(wrap64 (x9_2 - t386)), (wrap64 (x10_2 + 1)), S.eA, S.eA, H', ⟨by have := HJ4.out; have := HK2.out; omega⟩, ⟨S.bA⟩⟩
       ·rw [if_neg c12] at H
        have c12b0 : decide (t385 ≤ x9_2) = false := decide_eq_false c12
        clear c12
        simp only [Option.some.injEq, Prod.mk.injEq] at H
        obtain ⟨rfl, rfl⟩ := H
        go_wp2_with (first | ((with_reducible refine gate_callee (f := 81) rfl ?_); refine S.gL (some 28) Try.func81 #[.slice A0 l0.length c0, .slice A1 l1.length c1, .int .i64 x10_2] ?_; (with_reducible refine (impl_longOf.calls k2 _ _ l0 _ _ l1 x10_2 t385 _ ?s1 HC0.out ?s3 HC1.out A11.out).mono ?_); (case s1 => exact S.cA HR0.out); (case s3 => exact S.cA HR1.out); rintro e w16 ⟨rfl, hb⟩; refine ⟨_, rfl, ?_⟩; replace HB := S.sA hb; (try clear hb)))
        go_ret2
        exact ⟨S.eW, S.bA⟩

end Go.Proofs.Ytjgigmghcfdomaa.PFnExactWindowOf
