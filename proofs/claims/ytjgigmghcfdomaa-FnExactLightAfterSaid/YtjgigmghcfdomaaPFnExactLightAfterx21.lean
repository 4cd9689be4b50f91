/- Printed by a program: what the Go functions compute, as plain Lean functions (.f), and the proofs that the machine's calls come to just that (.calls). -/
import Derived.Test.YtjgigmghcfdomaaPFnExactLightAfterx0
import Derived.Test.YtjgigmghcfdomaaPFnExactLightAfterx12
import Derived.Test.YtjgigmghcfdomaaPFnExactLightAfterx18
import Derived.Test.YtjgigmghcfdomaaPFnExactLightAfterx20
namespace Go.Proofs.Ytjgigmghcfdomaa.PFnExactLightAfter
open Go.RowKit Go.Proofs.YtjgigmghcfdomaaW.PrintWords Go.Proofs.YtjgigmghcfdomaaW.PrintLast Go.Proofs.YtjgigmghcfdomaaW.PrintMore
attribute [local go_sem] max2_int min2_int max_two min_two max_three min_three max_four min_four   -- for this text's walks alone
set_option linter.unusedVariables false
set_option linter.unusedSimpArgs false

/-! ### impl_longOf: function 81 -/
def impl_longOf.f (k : Nat) (l0 : List (S71)) (l1 : List (S85)) (a2 : Int) : Option (Int) := if 0 ≤ a2 then (if a2 < (l1.length : Int) then ((impl_nextStage.f l1 a2).bind fun t361 => ((impl_ClearBetween.f k l0 ((rd_T85 l1 a2).f0) t361).bind fun t364 => (some (wrap64 (((rd_T85 l1 a2).f1) + t364))))) else (none)) else (none)
def impl_longOf.T1 : Bool × List (List Nat × List Nat) := (true, [([], []), ([], []), ([0, 1], [0, 1]), ([2], [2]), ([3], [3]), ([], []), ([], []), ([], []), ([6, 7], [6, 7]), ([8], [8]), ([9], [9]), ([], []), ([], []), ([11, 12], [11, 12]), ([5, 10, 13, 13], [5, 10, 13]), ([4, 14], [4, 14]), ([15, 14, 0, 1, 2, 3, 4, 5, 6, 7, 8, 9, 10, 11, 12, 13, 14, 15], [15])])
def impl_longOf.B1 : List Nat := [0, 0, 3, 7, 15, 0, 0, 0, 192, 448, 960, 0, 0, 6144, 16352, 32767, 65535]
theorem impl_longOf.tab1 : rtab .any (opsOf Try.f81 1) = impl_longOf.T1 := by kernel_rfl
theorem impl_longOf.bits1 : waitsOk impl_longOf.T1.2 impl_longOf.B1 = true := by kernel_rfl
set_option maxHeartbeats 8000000 in
set_option maxRecDepth 100000 in
theorem impl_longOf.calls (k : Nat) (A0 : Option Addr) (c0 : Nat) (l0 : List (S71)) (A1 : Option Addr) (c1 : Nat) (l1 : List (S85)) (a2 : Int) (r : Int) (w : World) (hr0 : Kd.C k71 w A0 l0.length l0) (hc0 : l0.length ≤ c0) (hr1 : Kd.C k85 w A1 l1.length l1) (hc1 : l1.length ≤ c1) (h : impl_longOf.f k l0 l1 a2 = some r) :
  Calls Try.prog 81 #[.slice A0 l0.length c0, .slice A1 l1.length c1, .int .i64 a2] w fun e w' => e = .returned (.int .i64 r) ∧ Below w.heap.size w w' := by
 have HR0 := Aside0.mk hr0
 have HC0 := Aside0.mk hc0
 clear hr0 hc0
 have HR1 := Aside0.mk hr1
 have HC1 := Aside0.mk hc1
 clear hr1 hc1
 have HB := Aside0.mk (Below.refl w.heap.size w)
 have H : (if 0 ≤ a2 then (if a2 < (l1.length : Int) then ((impl_nextStage.f l1 a2).bind fun t361 => ((impl_ClearBetween.f k l0 ((rd_T85 l1 a2).f0) t361).bind fun t364 => (some (wrap64 (((rd_T85 l1 a2).f1) + t364))))) else (none)) else (none)) = some r := h
 clear h
 by_cases c4 : 0 ≤ a2
 ·rw [if_pos c4] at H
  have c4b0 : decide (0 ≤ a2) = true := decide_eq_true c4
  clear c4
  by_cases c5 : a2 < (l1.length : Int)
  ·rw [if_pos c5] at H
   have c5b0 : decide (a2 < (l1.length : Int)) = true := decide_eq_true c5
   clear c5
   replace H := S.bd H; obtain ⟨t361, A6, H⟩ := H
   (try dsimp only at H)
   replace H := S.bd H; obtain ⟨t364, A7, H⟩ := H
   (try dsimp only at H)
   obtain rfl := Option.some.inj H
   go_enter Try.func81, Try.ntmps81
   try go_wp2
   replace HB := Aside0.mk (below_drew1 HB.out)
   have p359 : 0 ≤ (a2 : Int) := S.oD
   have q359 : a2 < (l1.length : Int) := S.oD
   obtain ⟨ad359, A359_0, c359_0, e359, hx359_0, hx359_1, hl359_0, hi359_0⟩ := at_T85 HR1.out a2 p359 q359
   have hw359_1 := hx359_1
   have hw359_0 := hx359_0
   cases e359
   replace hx359_0 := S.hb HB hx359_0
   replace hx359_1 := S.hb HB hx359_1
   have HR359_0 := Aside0.mk hi359_0
   have HC359_0 := Aside0.mk hl359_0
   clear hi359_0 hl359_0
   replace p359 := eq_true p359
   replace q359 := eq_true q359
   have p360 : 0 ≤ (a2 : Int) := S.oD
   have q360 : a2 < (l1.length : Int) := S.oD
   obtain ⟨ad360, A360_0, c360_0, e360, hx360_0, hx360_1, hl360_0, hi360_0⟩ := at_T85 HR1.out a2 p360 q360
   have hw360_1 := hx360_1
   have hw360_0 := hx360_0
   obtain rfl : ad359 = ad360 := (by injection e360)
   replace hx360_0 := S.hb HB hx360_0
   replace hx360_1 := S.hb HB hx360_1
   have HR360_0 := Aside0.mk hi360_0
   have HC360_0 := Aside0.mk hl360_0
   clear hi360_0 hl360_0
   replace p360 := eq_true p360
   replace q360 := eq_true q360
   have ea_ := Option.some.inj (hx359_0.symm.trans hx360_0)
   injection ea_ with ea_ en_ ec_
   subst ea_
   subst ec_
   clear en_
   refine S.st (n := 17) (ds := []) #[false, false, false, false, false, false, false, false, false, false, false, false, false, false, false, false, false] (fun w_ h_ => have x_ := And.intro (S.q h_ (S.hb HB hw359_0)) (And.intro (S.q h_ (S.hb HB hw359_1)) (And.intro (S.q h_ (S.hb HB hw360_0)) (S.q h_ (S.hb HB hw360_1)))); x_) (fun hHeld => ?_); refine with_tabW impl_longOf.tab1 impl_longOf.bits1 (fun HT_ HW_ => ?_)
   generalize w.drew = w8 at HB HR359_0 HR360_0 hx359_0 hx359_1 hx360_0 hx360_1 hHeld ⊢
   refine S.pS 0 7 ?_
   refine S.pS 1 8 ?_
   refine S.pS 2 9 ?_
   refine S.pS 3 10 ?_
   refine S.pS 5 12 ?_
   refine S.pS 6 13 ?_
   refine S.pS 7 14 ?_
   refine S.pS 8 15 ?_
   refine S.pS 9 16 ?_
   refine S.pS 11 18 ?_
   refine S.pS 12 19 ?_
   refine S.tK 4 11 #[true, true, true, true, true, true, true, true, true, true, false, true, true, false, false, false, false] ?_
   refine S.tK 10 17 #[true, true, true, true, true, true, true, true, true, true, true, true, true, false, false, false, false] ?_
   refine S.oN 13 20 #[true, true, true, true, true, true, true, true, true, true, true, true, true, true, false, false, false] (fun K hK => ?_)
   refine S.go Try.func110 #[.slice (some ad359) l1.length c1, .int .i64 a2] ?_
   with_reducible refine (impl_nextStage.calls (fun k_ => k_ < w.heap.size) _ _ l1 a2 t361 _ ?s1 A6.out).mono ?_
   (case s1 => exact Kd.V_mk HC1.out (Kd.F_below (Kd.C_F k85_heap HR1.out) S.bA))
   rintro e w9 ⟨v362, rfl, ho0, hb⟩
   refine ⟨_, rfl, ?_⟩
   have HO363 := Aside0.mk (Kd.V_lower (Kd.V_mono (ok' := fun k_ => True) ho0 (fun k_ hk_ => trivial)) (below_size S.bA))
   replace HB := S.sA hb
   (try clear hb)
   (try clear hb2)
   (try clear hk)
   (try clear hi)
   (try clear ho0)
   obtain ⟨Ao10, co10, eo10⟩ := Kd.V_slice HO363.out
   (first | subst eo10 | (injection eo10 with f1_ f2_ f3_; have f4_ := f1_.symm; have f5_ := f3_.symm; clear f1_ f2_ f3_; subst f4_; subst f5_))
   refine hK.out _ _ ⟨(S.hb HB hw359_0 :), (S.hb HB hw359_1 :), (S.hb HB hw360_0 :), (S.hb HB hw360_1 :)⟩ (fun hHeld => ?_)
   clear hK K
   refine S.nm 20 ?_
   refine S.oN 14 21 #[true, true, true, true, true, true, true, true, true, true, true, true, true, true, true, false, false] (fun K hK => ?_)
   refine S.go Try.func109 #[.slice A0 l0.length c0, .slice A359_0 ((rd_T85 l1 a2).f0).length c359_0, .slice Ao10 t361.length co10] ?_
   with_reducible refine (impl_ClearBetween.calls k _ _ l0 _ _ ((rd_T85 l1 a2).f0) _ _ t361 t364 _ ?s1 ?s2 ?s3 ?s4 ?s5 ?s6 A7.out).mono ?_
   (case s1 => exact S.cA HR0.out)
   (case s2 => exact HC0.out)
   (case s3 => exact S.cA HR360_0.out)
   (case s4 => exact HC360_0.out)
   (case s5 => repeat (first | exact (Kd.V_reads' HO363.out).2.2 | (with_reducible refine Kd.C_alloc ?_ _) | (with_reducible refine Kd.C_drewN ?_ _) | (with_reducible refine Kd.C_drew ?_)))
   (case s6 => exact (Kd.V_reads' HO363.out).2.1)
   rintro e w11 ⟨rfl, hb⟩
   refine ⟨_, rfl, ?_⟩
   replace HO363 := Aside0.mk (Kd.V_below (S.uV HO363.out) hb)
   replace HB := S.sA hb
   (try clear hb)
   (try clear hb2)
   (try clear hk)
   (try clear hi)
   refine hK.out _ _ ⟨(S.hb HB hw359_0 :), (S.hb HB hw359_1 :), (S.hb HB hw360_0 :), (S.hb HB hw360_1 :)⟩ (fun hHeld => ?_)
   clear hK K
   refine S.nm 21 ?_
   refine S.pS 15 22 ?_
   refine S.pS 16 6 ?_
   refine done_ (done_of HT_.out (by kernel_rfl)) ?_
   try go_wp2
   go_ret
   exact ⟨S.eW, S.bA⟩
  ·rw [if_neg c5] at H
   exact absurd H (by simp)
 ·rw [if_neg c4] at H
  exact absurd H (by simp)

/-! ### impl_Cycle: function 41 -/
def impl_Cycle.l0 : Nat → List (S71) → List (S85) → Int → Int → Int → Option (Int)
 | 0, _, _, _, _, _ => none
 | k + 1, x0, x1, x5, x12, x13 => if x13 < x12 then ((impl_longOf.f k x0 x1 x13).bind fun t366 => (impl_Cycle.l0 k x0 x1 (wrap64 (x5 + t366)) x12 (wrap64 (x13 + 1)))) else (some x5)
def impl_Cycle.f (k : Nat) (l0 : List (S71)) (l1 : List (S85)) : Option (Int) := (impl_IsPlan.f k l0 l1).bind fun t365 => (if t365 = true then (impl_Cycle.l0 k l0 l1 0 (l1.length : Int) 0) else (some 0))
set_option maxHeartbeats 8000000 in
set_option maxRecDepth 100000 in
theorem impl_Cycle.calls (k : Nat) (A0 : Option Addr) (c0 : Nat) (l0 : List (S71)) (A1 : Option Addr) (c1 : Nat) (l1 : List (S85)) (r : Int) (w : World) (hr0 : Kd.C k71 w A0 l0.length l0) (hc0 : l0.length ≤ c0) (hr1 : Kd.C k85 w A1 l1.length l1) (hc1 : l1.length ≤ c1) (h : impl_Cycle.f k l0 l1 = some r) :
  Calls Try.prog 41 #[.slice A0 l0.length c0, .slice A1 l1.length c1] w fun e w' => e = .returned (.int .i64 r) ∧ Below w.heap.size w w' := by
 have HR0 := Aside0.mk hr0
 have HC0 := Aside0.mk hc0
 clear hr0 hc0
 have HR1 := Aside0.mk hr1
 have HC1 := Aside0.mk hc1
 clear hr1 hc1
 have HB := Aside0.mk (Below.refl w.heap.size w)
 have H : ((impl_IsPlan.f k l0 l1).bind fun t365 => (if t365 = true then (impl_Cycle.l0 k l0 l1 0 (l1.length : Int) 0) else (some 0))) = some r := h
 clear h
 replace H := S.bd H; obtain ⟨t365, A3, H⟩ := H
 (try dsimp only at H)
 replace H := S.db H; rcases H with ⟨rfl, H⟩ | ⟨rfl, H⟩
 ·have H' := Aside0.mk H
  clear H
  go_enter Try.func41, Try.ntmps41
  go_wp2_with (first | ((with_reducible refine gate_callee (f := 68) rfl ?_); refine S.gL (some 9) Try.func68 #[.slice A0 l0.length c0, .slice A1 l1.length c1] ?_; (with_reducible refine (impl_IsPlan.calls k _ _ l0 (fun k_ => k_ < w.heap.size) _ _ l1 true _ ?s1 HC0.out ?s3 A3.out).mono ?_); (case s1 => repeat (first | exact HR0.out | (with_reducible refine Kd.C_alloc ?_ _) | (with_reducible refine Kd.C_drewN ?_ _) | (with_reducible refine Kd.C_drew ?_))); (case s3 => exact Kd.V_mk HC1.out (Kd.F_below (Kd.C_F k85_heap HR1.out) S.bA)); rintro e w5 ⟨rfl, hb⟩; refine ⟨_, rfl, ?_⟩; replace HB := S.sA hb; (try clear hb)))
  go_loopg [5, 13] k (fun kq v5 v13 w' => ∃ (x5_1 : Int) (x13_1 : Int), v5 = .int .i64 x5_1 ∧ v13 = .int .i64 x13_1 ∧ Aside0 (impl_Cycle.l0 kq l0 l1 x5_1 (l1.length : Int) x13_1 = some r) ∧ Aside0 (kq ≤ k) ∧ Aside0 (Below w.heap.size w w'))
  case atStart => exact ⟨(0), (0), S.eA, S.eA, H', ⟨Nat.le_refl _⟩, ⟨S.bA⟩⟩
  case round =>
   clear H'
   try clear c1
   try clear c4
   obtain ⟨x5_1, x13_1, rfl, rfl, HA, HK1, HB⟩ := hrel
   cases gk with
   | zero => exact absurd HA.out (by simp [impl_Cycle.l0])
   | succ k1 =>
    have H := HA.out
    clear HA
    simp only [impl_Cycle.l0] at H
    replace H := S.dc H; rcases H with ⟨H, c6b0⟩ | ⟨H, c6b0⟩
    ·replace H := Option.bind_eq_some_iff.mp H
     obtain ⟨t366, A70, H⟩ := H
     replace H : (impl_Cycle.l0 k1 l0 l1 (wrap64 (x5_1 + t366)) (l1.length : Int) (wrap64 (x13_1 + 1))) = some r := H
     have A7 := Aside0.mk A70
     clear A70
     have H' := Aside0.mk H
     clear H
     go_wp2_with (first | ((with_reducible refine gate_callee (f := 81) rfl ?_); refine S.gL (some 20) Try.func81 #[.slice A0 l0.length c0, .slice A1 l1.length c1, .int .i64 x13_1] ?_; (with_reducible refine (impl_longOf.calls k1 _ _ l0 _ _ l1 x13_1 t366 _ ?s1 HC0.out ?s3 HC1.out A7.out).mono ?_); (case s1 => exact S.cA HR0.out); (case s3 => exact S.cA HR1.out); rintro e w8 ⟨rfl, hb⟩; refine ⟨_, rfl, ?_⟩; replace HB := S.sA hb; (try clear hb)))
     go_roundg k1
     case measure => have := HK1.out; omega
     case rel => exact ⟨(wrap64 (x5_1 + t366)), (wrap64 (x13_1 + 1)), S.eA, S.eA, H', ⟨by have := HK1.out; omega⟩, ⟨S.bA⟩⟩
    ·obtain rfl := Option.some.inj H
     go_wp2
     go_ret
     exact ⟨S.eW, S.bA⟩
 ·obtain rfl := Option.some.inj H
  go_enter Try.func41, Try.ntmps41
  go_wp2_with (first | ((with_reducible refine gate_callee (f := 68) rfl ?_); refine S.gL (some 9) Try.func68 #[.slice A0 l0.length c0, .slice A1 l1.length c1] ?_; (with_reducible refine (impl_IsPlan.calls k _ _ l0 (fun k_ => k_ < w.heap.size) _ _ l1 false _ ?s1 HC0.out ?s3 A3.out).mono ?_); (case s1 => repeat (first | exact HR0.out | (with_reducible refine Kd.C_alloc ?_ _) | (with_reducible refine Kd.C_drewN ?_ _) | (with_reducible refine Kd.C_drew ?_))); (case s3 => exact Kd.V_mk HC1.out (Kd.F_below (Kd.C_F k85_heap HR1.out) S.bA)); rintro e w9 ⟨rfl, hb⟩; refine ⟨_, rfl, ?_⟩; replace HB := S.sA hb; (try clear hb)))
  go_ret
  exact ⟨S.eW, S.bA⟩

/-! ### impl_PartAt: function 113 -/
mutual
def impl_PartAt.j0 : Nat → List (S71) → List (S85) → Int → Int → Bool → Option (Int × Int)
 | 0, _, _, _, _, _ => none
 | k + 1, x0, x1, x2, x8, x20 => if x20 = true then (some ((-1), 0)) else (if x8 = 0 then (none) else (impl_PartAt.l0 k x0 x1 (Int.tmod x2 x8) 0))
def impl_PartAt.l0 : Nat → List (S71) → List (S85) → Int → Int → Option (Int × Int)
 | 0, _, _, _, _ => none
 | k + 1, x0, x1, x9, x10 => (impl_longOf.f k x0 x1 x10).bind fun t369 => (if x9 ≥ t369 then ((impl_longOf.f k x0 x1 x10).bind fun t370 => (impl_PartAt.l0 k x0 x1 (wrap64 (x9 - t370)) (wrap64 (x10 + 1)))) else (some (x10, x9)))
end
def impl_PartAt.f (k : Nat) (l0 : List (S71)) (l1 : List (S85)) (a2 : Int) : Option (Int × Int) := (impl_Cycle.f k l0 l1).bind fun t367 => (if t367 = 0 then (impl_PartAt.j0 k l0 l1 a2 t367 true) else ((impl_InRange.f a2 0 1000000).bind fun t368 => (impl_PartAt.j0 k l0 l1 a2 t367 (!t368))))
set_option maxHeartbeats 8000000 in
set_option maxRecDepth 100000 in
theorem impl_PartAt.calls (k : Nat) (A0 : Option Addr) (c0 : Nat) (l0 : List (S71)) (A1 : Option Addr) (c1 : Nat) (l1 : List (S85)) (a2 : Int) (r1 : Int) (r2 : Int) (w : World) (hr0 : Kd.C k71 w A0 l0.length l0) (hc0 : l0.length ≤ c0) (hr1 : Kd.C k85 w A1 l1.length l1) (hc1 : l1.length ≤ c1) (h : impl_PartAt.f k l0 l1 a2 = some (r1, r2)) :
  Calls Try.prog 113 #[.slice A0 l0.length c0, .slice A1 l1.length c1, .int .i64 a2] w fun e w' => e = .returned (.tuple #[.int .i64 r1, .int .i64 r2]) ∧ Below w.heap.size w w' := by
 have HR0 := Aside0.mk hr0
 have HC0 := Aside0.mk hc0
 clear hr0 hc0
 have HR1 := Aside0.mk hr1
 have HC1 := Aside0.mk hc1
 clear hr1 hc1
 have HB := Aside0.mk (Below.refl w.heap.size w)
 have H : ((impl_Cycle.f k l0 l1).bind fun t367 => (if t367 = 0 then (impl_PartAt.j0 k l0 l1 a2 t367 true) else ((impl_InRange.f a2 0 1000000).bind fun t368 => (impl_PartAt.j0 k l0 l1 a2 t367 (!t368))))) = some (r1, r2) := h
 clear h
 replace H := S.bd H; obtain ⟨t367, A4, H⟩ := H
 (try dsimp only at H)
 have HC5 := Aside0.mk H
 clear H
 go_enter Try.func113, Try.ntmps113
 go_upto_region 2 with (first | ((with_reducible refine gate_callee (f := 41) rfl ?_); refine S.gL (some 13) Try.func41 #[.slice A0 l0.length c0, .slice A1 l1.length c1] ?_; (with_reducible refine (impl_Cycle.calls k _ _ l0 _ _ l1 t367 _ ?s1 HC0.out ?s3 HC1.out A4.out).mono ?_); (case s1 => repeat (first | exact HR0.out | (with_reducible refine Kd.C_alloc ?_ _) | (with_reducible refine Kd.C_drewN ?_ _) | (with_reducible refine Kd.C_drew ?_))); (case s3 => repeat (first | exact HR1.out | (with_reducible refine Kd.C_alloc ?_ _) | (with_reducible refine Kd.C_drewN ?_ _) | (with_reducible refine Kd.C_drew ?_))); rintro e w6 ⟨rfl, hb⟩; refine ⟨_, rfl, ?_⟩; replace HB := S.sA hb; (try clear hb)))
 (try simp only [Act.put, List.setIfInBounds_toArray, List.set_cons_zero, List.set_cons_succ])
 go_cut [20] (fun v20 wc => ∃ (kq : Nat) (x20_4 : Bool), v20 = .bool x20_4 ∧ Aside0 (impl_PartAt.j0 kq l0 l1 a2 t367 x20_4 = some (r1, r2)) ∧ Aside0 (kq ≤ k) ∧ Aside0 (Below w.heap.size w wc))
 case first =>
  have H := HC5.out
  clear HC5
  by_cases c7 : t367 = 0
  ·rw [if_pos c7] at H
   have c7b0 : (t367 == 0) = true := beq_iff_eq.mpr c7
   have c7b1 : (t367 != 0) = false := bne_eq_false_iff_eq.mpr c7
   clear c7
   (first | rw [c7b0] | (simp only [i64_w, i32_w]; rw [c7b0]) | skip)
   have H' := Aside0.mk H
   clear H
   go_wp2
   go_meet
   case rel => exact ⟨_, (true), S.eA, H', S.le, ⟨S.bA⟩⟩
  ·rw [if_neg c7] at H
   have c7b0 : (t367 == 0) = false := beq_eq_false_iff_ne.mpr c7
   have c7b1 : (t367 != 0) = true := bne_iff_ne.mpr c7
   (first | rw [c7b0] | (simp only [i64_w, i32_w]; rw [c7b0]) | skip)
   replace H := S.bd H; obtain ⟨t368, A8, H⟩ := H
   (try dsimp only at H)
   have H' := Aside0.mk H
   clear H
   go_wp2_with (first | (go_at_call 62; (with_reducible refine (impl_InRange.calls a2 0 1000000 t368 _ A8.out).mono ?_); rintro e w' ⟨rfl, ⟨nd, rfl⟩⟩))
   go_meet
   case rel => exact ⟨_, (!t368), S.eA, H', S.le, ⟨S.bA⟩⟩
 case rest =>
  clear HC5
  try clear c1
  obtain ⟨kq, x20_4, rfl, HA, HJ4, HB⟩ := hcut
  cases kq with
  | zero => exact absurd HA.out (by simp [impl_PartAt.j0])
  | succ kj4 =>
   have H := HA.out
   clear HA
   simp only [impl_PartAt.j0] at H
   replace H := S.db H; rcases H with ⟨rfl, H⟩ | ⟨rfl, H⟩
   ·simp only [Option.some.injEq, Prod.mk.injEq] at H
    obtain ⟨rfl, rfl⟩ := H
    go_wp2
    go_ret2
    exact ⟨S.eW, S.bA⟩
   ·by_cases c10 : t367 = 0
    ·rw [if_pos c10] at H
     exact absurd H (by simp)
    ·rw [if_neg c10] at H
     have c10b0 : (t367 == 0) = false := beq_eq_false_iff_ne.mpr c10
     have c10b1 : (t367 != 0) = true := bne_iff_ne.mpr c10
     have H' := Aside0.mk H
     clear H
     go_wp2
     go_loopg [9, 10] kj4 (fun kq v9 v10 w' => ∃ (x9_2 : Int) (x10_2 : Int), v9 = .int .i64 x9_2 ∧ v10 = .int .i64 x10_2 ∧ Aside0 (impl_PartAt.l0 kq l0 l1 x9_2 x10_2 = some (r1, r2)) ∧ Aside0 (kq ≤ kj4) ∧ Aside0 (Below w.heap.size w w'))
     case atStart => exact ⟨(Int.tmod a2 t367), (0), S.eA, S.eA, H', ⟨Nat.le_refl _⟩, ⟨S.bA⟩⟩
     case round =>
      clear H'
      try clear c1
      try clear c9
      try clear c10
      try clear c10b0
      try clear c10b1
      obtain ⟨x9_2, x10_2, rfl, rfl, HA, HK2, HB⟩ := hrel
      cases gk with
      | zero => exact absurd HA.out (by simp [impl_PartAt.l0])
      | succ k2 =>
       have H := HA.out
       clear HA
       simp only [impl_PartAt.l0] at H
       replace H := S.bd H; obtain ⟨t369, A11, H⟩ := H
       (try dsimp only at H)
       by_cases c12 : x9_2 ≥ t369
       ·rw [if_pos c12] at H
        have c12b0 : decide (t369 ≤ x9_2) = true := decide_eq_true c12
        clear c12
        replace H := S.bd H; obtain ⟨t370, A13, H⟩ := H
        (try dsimp only at H)
        have H' := Aside0.mk H
        clear H
        go_wp2_with (first | ((with_reducible refine gate_callee (f := 81) rfl ?_); refine S.gL (some 28) Try.func81 #[.slice A0 l0.length c0, .slice A1 l1.length c1, .int .i64 x10_2] ?_; (with_reducible refine (impl_longOf.calls k2 _ _ l0 _ _ l1 x10_2 t369 _ ?s1 HC0.out ?s3 HC1.out A11.out).mono ?_); (case s1 => exact S.cA HR0.out); (case s3 => exact S.cA HR1.out); rintro e w14 ⟨rfl, hb⟩; refine ⟨_, rfl, ?_⟩; replace HB := S.sA hb; (try clear hb)) | ((with_reducible refine gate_callee (f := 81) rfl ?_); refine S.gL (some 34) Try.func81 #[.slice A0 l0.length c0, .slice A1 l1.length c1, .int .i64 x10_2] ?_; (with_reducible refine (impl_longOf.calls k2 _ _ l0 _ _ l1 x10_2 t370 _ ?s1 HC0.out ?s3 HC1.out A13.out).mono ?_); (case s1 => exact S.cA HR0.out); (case s3 => exact S.cA HR1.out); rintro e w15 ⟨rfl, hb⟩; refine ⟨_, rfl, ?_⟩; replace HB := S.sA hb; (try clear hb)))
        go_roundg k2
        case measure => have := HJ4.out; have := HK2.out; omega
        case rel => exact ⟨(wrap64 (x9_2 - t370)), (wrap64 (x10_2 + 1)), S.eA, S.eA, H', ⟨by have := HJ4.out; have := HK2.out; omega⟩, ⟨S.bA⟩⟩
       ·rw [if_neg c12] at H
        have c12b0 : decide (t369 ≤ x9_2) = false := decide_eq_false c12
        clear c12
        simp only [Option.some.injEq, Prod.mk.injEq] at H
        obtain ⟨rfl, rfl⟩ := H
        go_wp2_with (first | ((with_reducible refine gate_callee (f := 81) rfl ?_); refine S.gL (some 28) Try.func81 #[.slice A0 l0.length c0, .slice A1 l1.length c1, .int .i64 x10_2] ?_; (with_reducible refine (impl_longOf.calls k2 _ _ l0 _ _ l1 x10_2 t369 _ ?s1 HC0.out ?s3 HC1.out A11.out).mono ?_); (case s1 => exact S.cA HR0.out); (case s3 => exact S.cA HR1.out); rintro e w16 ⟨rfl, hb⟩; refine ⟨_, rfl, ?_⟩; replace HB := S.sA hb; (try clear hb)))
        go_ret2
        exact ⟨S.eW, S.bA⟩

end Go.Proofs.Ytjgigmghcfdomaa.PFnExactLightAfter
