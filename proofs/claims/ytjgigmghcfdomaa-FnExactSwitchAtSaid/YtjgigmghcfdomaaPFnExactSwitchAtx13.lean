/- Printed by a program: what the Go functions compute, as plain Lean functions (.f), and the proofs that the machine's calls come to just that (.calls). -/
import Derived.Test.YtjgigmghcfdomaaPFnExactSwitchAtx0
import Derived.Test.YtjgigmghcfdomaaPFnExactSwitchAtx3
import Derived.Test.YtjgigmghcfdomaaPFnExactSwitchAtx8
import Derived.Test.YtjgigmghcfdomaaPFnExactSwitchAtx9
import Derived.Test.YtjgigmghcfdomaaPFnExactSwitchAtx12
namespace Go.Proofs.Ytjgigmghcfdomaa.PFnExactSwitchAt
open Go.RowKit Go.Proofs.YtjgigmghcfdomaaW.PrintWords Go.Proofs.YtjgigmghcfdomaaW.PrintLast Go.Proofs.YtjgigmghcfdomaaW.PrintMore
attribute [local go_sem] max2_int min2_int max_two min_two max_three min_three max_four min_four   -- for this text's walks alone
set_option linter.unusedVariables false
set_option linter.unusedSimpArgs false

/-! ### spec_Cycle: function 71 -/
def spec_Cycle.l0 : Nat → List (S71) → List (S85) → Int → Int → Option (Int)
 | 0, _, _, _, _ => none
 | k + 1, x0, x1, x5, x6 => if x6 < (x1.length : Int) then ((spec_IsPlan.f k x0 x1).bind fun t273 => (if t273 = true then ((spec_l8Long.f k x0 x1 x6).bind fun t274 => (spec_Cycle.l0 k x0 x1 (wrap64 (x5 + t274)) (wrap64 (x6 + 1)))) else (some x5))) else (some x5)
def spec_Cycle.f (k : Nat) (l0 : List (S71)) (l1 : List (S85)) : Option (Int) := spec_Cycle.l0 k l0 l1 0 0
set_option maxHeartbeats 8000000 in
set_option maxRecDepth 100000 in
theorem spec_Cycle.calls (k : Nat) (A0 : Option Addr) (c0 : Nat) (l0 : List (S71)) (A1 : Option Addr) (c1 : Nat) (l1 : List (S85)) (r : Int) (w : World) (hr0 : Kd.C k71 w A0 l0.length l0) (hc0 : l0.length ≤ c0) (hr1 : Kd.C k85 w A1 l1.length l1) (hc1 : l1.length ≤ c1) (h : spec_Cycle.f k l0 l1 = some r) :
  Calls Try.prog 71 #[.slice A0 l0.length c0, .slice A1 l1.length c1] w fun e w' => e = .returned (.int .i64 r) ∧ Below w.heap.size w w' := by
 have HR0 := Aside0.mk hr0
 have HC0 := Aside0.mk hc0
 clear hr0 hc0
 have HR1 := Aside0.mk hr1
 have HC1 := Aside0.mk hc1
 clear hr1 hc1
 have HB := Aside0.mk (Below.refl w.heap.size w)
 have H : (spec_Cycle.l0 k l0 l1 0 0) = some r := h
 clear h
 have H' := Aside0.mk H
 clear H
 go_enter Try.func71, Try.ntmps71
 go_wp2
 go_loopg [5, 6] k (fun kq v5 v6 w' => ∃ (x5_1 : Int) (x6_1 : Int), v5 = .int .i64 x5_1 ∧ v6 = .int .i64 x6_1 ∧ Aside0 (spec_Cycle.l0 kq l0 l1 x5_1 x6_1 = some r) ∧ Aside0 (kq ≤ k) ∧ Aside0 (Below w.heap.size w w'))
 case atStart => exact ⟨(0), (0), S.eA, S.eA, H', ⟨Nat.le_refl _⟩, ⟨S.bA⟩⟩
 case round =>
  clear H'
  try clear c1
  obtain ⟨x5_1, x6_1, rfl, rfl, HA, HK1, HB⟩ := hrel
  cases gk with
  | zero => exact absurd HA.out (by simp [spec_Cycle.l0])
  | succ k1 =>
   have H := HA.out
   clear HA
   simp only [spec_Cycle.l0] at H
   replace H := S.dc H; rcases H with ⟨H, c3b0⟩ | ⟨H, c3b0⟩
   ·replace H := Option.bind_eq_some_iff.mp H
    obtain ⟨t273, A40, H⟩ := H
    replace H : (if t273 = true then ((spec_l8Long.f k1 l0 l1 x6_1).bind fun t274 => (spec_Cycle.l0 k1 l0 l1 (wrap64 (x5_1 + t274)) (wrap64 (x6_1 + 1)))) else (some x5_1)) = some r := H
    have A4 := Aside0.mk A40
    clear A40
    replace H := S.db H; rcases H with ⟨rfl, H⟩ | ⟨rfl, H⟩
    ·replace H := S.bd H; obtain ⟨t274, A6, H⟩ := H
     (try dsimp only at H)
     have H' := Aside0.mk H
     clear H
     go_wp2_with (first | (go_at_call 65; (with_reducible refine (spec_IsPlan.calls k1 _ _ l0 _ _ l1 true _ ?s1 HC0.out ?s3 HC1.out A4.out).mono ?_); (case s1 => exact S.cA HR0.out); (case s3 => exact S.cA HR1.out); rintro e w7 ⟨rfl, hb⟩; replace HB := S.sA hb; (try clear hb)) | ((with_reducible refine gate_callee (f := 103) rfl ?_); refine S.gL (some 22) Try.func103 #[.slice A0 l0.length c0, .slice A1 l1.length c1, .int .i64 x6_1] ?_; (with_reducible refine (spec_l8Long.calls k1 _ _ l0 _ _ l1 x6_1 t274 _ ?s1 HC0.out ?s3 HC1.out A6.out).mono ?_); (case s1 => exact S.cA HR0.out); (case s3 => exact S.cA HR1.out); rintro e w8 ⟨rfl, hb⟩; refine ⟨_, rfl, ?_⟩; replace HB := S.sA hb; (try clear hb)))
     go_roundg k1
     case measure => have := HK1.out; omega
     case rel => exact ⟨(wrap64 (x5_1 + t274)), (wrap64 (x6_1 + 1)), S.eA, S.eA, H', ⟨by have := HK1.out; omega⟩, ⟨S.bA⟩⟩
    ·obtain rfl := Option.some.inj H
     go_wp2_with (first | (go_at_call 65; (with_reducible refine (spec_IsPlan.calls k1 _ _ l0 _ _ l1 false _ ?s1 HC0.out ?s3 HC1.out A4.out).mono ?_); (case s1 => exact S.cA HR0.out); (case s3 => exact S.cA HR1.out); rintro e w9 ⟨rfl, hb⟩; replace HB := S.sA hb; (try clear hb)))
     go_ret
     exact ⟨S.eW, S.bA⟩
   ·obtain rfl := Option.some.inj H
    go_wp2
    go_ret
    exact ⟨S.eW, S.bA⟩

/-! ### spec_SwitchAt: function 29 -/
mutual
def spec_SwitchAt.j0 : Nat → List (S71) → List (S85) → Int → List Int → Bool → Option (Int)
 | 0, _, _, _, _, _ => none
 | k + 1, x0, x1, x3, x9, x23 => if x23 = true then (some (-1)) else ((spec_Cycle.f k x0 x1).bind fun t279 => (spec_SwitchAt.l0 k x9 t279 x3))
def spec_SwitchAt.l0 : Nat → List Int → Int → Int → Option (Int)
 | 0, _, _, _ => none
 | k + 1, x9, x10, x11 => if x10 = 0 then (none) else ((spec_l6Has.f k x9 (Int.tmod x11 x10)).bind fun t280 => (if t280 = true then (some x11) else (spec_SwitchAt.l0 k x9 x10 (wrap64 (x11 + 1)))))
end
def spec_SwitchAt.f (k : Nat) (l0 : List (S71)) (l1 : List (S85)) (l2 : List (S85)) (a3 : Int) : Option (Int) := (spec_SwitchSeconds.f k l0 l1 l2).bind fun t275 => (if (t275.length : Int) = 0 then (spec_SwitchAt.j0 k l0 l1 a3 t275 true) else ((spec_l1In.f a3 0 100000).bind fun t278 => (spec_SwitchAt.j0 k l0 l1 a3 t275 (!t278))))
set_option maxHeartbeats 8000000 in
set_option maxRecDepth 100000 in
theorem spec_SwitchAt.calls (k : Nat) (A0 : Option Addr) (c0 : Nat) (l0 : List (S71)) (A1 : Option Addr) (c1 : Nat) (l1 : List (S85)) (A2 : Option Addr) (c2 : Nat) (l2 : List (S85)) (a3 : Int) (r : Int) (w : World) (hr0 : Kd.C k71 w A0 l0.length l0) (hc0 : l0.length ≤ c0) (hr1 : Kd.C k85 w A1 l1.length l1) (hc1 : l1.length ≤ c1) (hr2 : Kd.C k85 w A2 l2.length l2) (hc2 : l2.length ≤ c2) (h : spec_SwitchAt.f k l0 l1 l2 a3 = some r) :
  Calls Try.prog 29 #[.slice A0 l0.length c0, .slice A1 l1.length c1, .slice A2 l2.length c2, .int .i64 a3] w fun e w' => e = .returned (.int .i64 r) ∧ Below w.heap.size w w' := by
 have HR0 := Aside0.mk hr0
 have HC0 := Aside0.mk hc0
 clear hr0 hc0
 have HR1 := Aside0.mk hr1
 have HC1 := Aside0.mk hc1
 clear hr1 hc1
 have HR2 := Aside0.mk hr2
 have HC2 := Aside0.mk hc2
 clear hr2 hc2
 have HB := Aside0.mk (Below.refl w.heap.size w)
 have H : ((spec_SwitchSeconds.f k l0 l1 l2).bind fun t275 => (if (t275.length : Int) = 0 then (spec_SwitchAt.j0 k l0 l1 a3 t275 true) else ((spec_l1In.f a3 0 100000).bind fun t278 => (spec_SwitchAt.j0 k l0 l1 a3 t275 (!t278))))) = some r := h
 clear h
 replace H := S.bd H; obtain ⟨t275, A5, H⟩ := H
 (try dsimp only at H)
 have HC6 := Aside0.mk H
 clear H
 go_enter Try.func29, Try.ntmps29
 go_upto_region 2 with (first | ((with_reducible refine gate_callee (f := 22) rfl ?_); refine S.gL (some 15) Try.func22 #[.slice A0 l0.length c0, .slice A1 l1.length c1, .slice A2 l2.length c2] ?_; (with_reducible refine (spec_SwitchSeconds.calls k _ _ l0 _ _ l1 _ _ l2 t275 _ ?s1 HC0.out ?s3 HC1.out ?s5 HC2.out A5.out).mono ?_); (case s1 => repeat (first | exact HR0.out | (with_reducible refine Kd.C_alloc ?_ _) | (with_reducible refine Kd.C_drewN ?_ _) | (with_reducible refine Kd.C_drew ?_))); (case s3 => repeat (first | exact HR1.out | (with_reducible refine Kd.C_alloc ?_ _) | (with_reducible refine Kd.C_drewN ?_ _) | (with_reducible refine Kd.C_drew ?_))); (case s5 => repeat (first | exact HR2.out | (with_reducible refine Kd.C_alloc ?_ _) | (with_reducible refine Kd.C_drewN ?_ _) | (with_reducible refine Kd.C_drew ?_))); rintro e w7 ⟨v276, rfl, ho0, hb⟩; refine ⟨_, rfl, ?_⟩; have HO277 := S.lwA ho0; replace HB := S.sA hb; (try clear hb); (try clear ho0)))
 (try simp only [Act.put, List.setIfInBounds_toArray, List.set_cons_zero, List.set_cons_succ])
 go_cut [23] (fun v23 wc => ∃ (kq : Nat) (x23_5 : Bool), v23 = .bool x23_5 ∧ Aside0 (spec_SwitchAt.j0 kq l0 l1 a3 t275 x23_5 = some r) ∧ Aside0 (kq ≤ k) ∧ Aside0 (Kd.R (Kd.int .i64) 3 wc w.heap.size (fun _ => True) v276 t275) ∧ Aside0 (Below w.heap.size w wc))
 case first =>
  have H := HC6.out
  clear HC6
  by_cases c8 : (t275.length : Int) = 0
  ·rw [if_pos c8] at H
   have c8b0 : ((t275.length : Int) == 0) = true := beq_iff_eq.mpr c8
   have c8b1 : ((t275.length : Int) != 0) = false := bne_eq_false_iff_eq.mpr c8
   clear c8
   (first | rw [c8b0] | (simp only [i64_w, i32_w]; rw [c8b0]) | skip)
   have H' := Aside0.mk H
   clear H
   obtain ⟨Ao9, co9, eo9⟩ := Kd.R_slice HO277.out
   subst eo9
   go_wp2
   go_meet
   case rel => exact ⟨_, (true), S.eA, H', S.le, ⟨S.uR HO277.out⟩, ⟨S.bA⟩⟩
  ·rw [if_neg c8] at H
   have c8b0 : ((t275.length : Int) == 0) = false := beq_eq_false_iff_ne.mpr c8
   have c8b1 : ((t275.length : Int) != 0) = true := bne_iff_ne.mpr c8
   have c8b2 : ¬ (t275 = []) := fun h_ => c8 (by rw [h_]; rfl)
   (first | rw [c8b0] | (simp only [i64_w, i32_w]; rw [c8b0]) | skip)
   replace H := S.bd H; obtain ⟨t278, A10, H⟩ := H
   (try dsimp only at H)
   have H' := Aside0.mk H
   clear H
   obtain ⟨Ao11, co11, eo11⟩ := Kd.R_slice HO277.out
   subst eo11
   go_wp2_with (first | (go_at_call 58; (with_reducible refine (spec_l1In.calls a3 0 100000 t278 _ A10.out).mono ?_); rintro e w' ⟨rfl, ⟨nd, rfl⟩⟩))
   go_meet
   case rel => exact ⟨_, (!t278), S.eA, H', S.le, ⟨S.uR HO277.out⟩, ⟨S.bA⟩⟩
 case rest =>
  clear HC6
  try clear c1
  try clear c2
  obtain ⟨kq, x23_5, rfl, HA, HJ5, HO_9, HB⟩ := hcut
  cases kq with
  | zero => exact absurd HA.out (by simp [spec_SwitchAt.j0])
  | succ kj5 =>
   have H := HA.out
   clear HA
   simp only [spec_SwitchAt.j0] at H
   replace H := S.db H; rcases H with ⟨rfl, H⟩ | ⟨rfl, H⟩
   ·obtain rfl := Option.some.inj H
    go_wp2
    go_ret
    exact ⟨S.eW, S.bA⟩
   ·replace H := S.bd H; obtain ⟨t279, A13, H⟩ := H
    (try dsimp only at H)
    have H' := Aside0.mk H
    clear H
    go_wp2_with (first | ((with_reducible refine gate_callee (f := 71) rfl ?_); refine S.gL (some 26) Try.func71 #[.slice A0 l0.length c0, .slice A1 l1.length c1] ?_; (with_reducible refine (spec_Cycle.calls kj5 _ _ l0 _ _ l1 t279 _ ?s1 HC0.out ?s3 HC1.out A13.out).mono ?_); (case s1 => exact S.cA HR0.out); (case s3 => exact S.cA HR1.out); rintro e w14 ⟨rfl, hb⟩; refine ⟨_, rfl, ?_⟩; replace HO_9 := S.rb HO_9 hb; replace HB := S.sA hb; (try clear hb)))
    go_loopg [11] kj5 (fun kq v11 w' => ∃ (x11_2 : Int), v11 = .int .i64 x11_2 ∧ Aside0 (spec_SwitchAt.l0 kq t275 t279 x11_2 = some r) ∧ Aside0 (kq ≤ kj5) ∧ Aside0 (Kd.R (Kd.int .i64) 3 w' w.heap.size (fun _ => True) v276 t275) ∧ Aside0 (Below w.heap.size w w'))
    case atStart => exact ⟨(a3), S.eA, H', ⟨Nat.le_refl _⟩, ⟨S.uR HO_9.out⟩, ⟨S.bA⟩⟩
    case round =>
     clear H'
     try clear c1
     try clear c2
     try clear c12
     obtain ⟨x11_2, rfl, HA, HK2, HO_9, HB⟩ := hrel
     cases gk with
     | zero => exact absurd HA.out (by simp [spec_SwitchAt.l0])
     | succ k2 =>
      have H := HA.out
      clear HA
      simp only [spec_SwitchAt.l0] at H
      by_cases c15 : t279 = 0
      ·rw [if_pos c15] at H
       exact absurd H (by simp)
      ·rw [if_neg c15] at H
       have c15b0 : (t279 == 0) = false := beq_eq_false_iff_ne.mpr c15
       have c15b1 : (t279 != 0) = true := bne_iff_ne.mpr c15
       replace H := S.bd H; obtain ⟨t280, A16, H⟩ := H
       (try dsimp only at H)
       replace H := S.db H; rcases H with ⟨rfl, H⟩ | ⟨rfl, H⟩
       ·obtain rfl := Option.some.inj H
        obtain ⟨Ao18, co18, eo18⟩ := Kd.R_slice HO_9.out
        subst eo18
        go_wp2_with (first | ((with_reducible refine gate_callee (f := 72) rfl ?_); refine S.gL (some 34) Try.func72 #[.slice Ao18 t275.length co18, .int .i64 (Int.tmod x11_2 t279)] ?_; (with_reducible refine (spec_l6Has.calls k2 _ _ t275 (Int.tmod x11_2 t279) true _ ?s1 (S.rl HO_9) A16.out).mono ?_); (case s1 => exact S.rd HO_9); rintro e w' ⟨rfl, ⟨nd, rfl⟩⟩; refine ⟨_, rfl, ?_⟩))
        go_ret
        exact ⟨S.eW, S.bA⟩
       ·have H' := Aside0.mk H
        clear H
        obtain ⟨Ao19, co19, eo19⟩ := Kd.R_slice HO_9.out
        subst eo19
        go_wp2_with (first | ((with_reducible refine gate_callee (f := 72) rfl ?_); refine S.gL (some 34) Try.func72 #[.slice Ao19 t275.length co19, .int .i64 (Int.tmod x11_2 t279)] ?_; (with_reducible refine (spec_l6Has.calls k2 _ _ t275 (Int.tmod x11_2 t279) false _ ?s1 (S.rl HO_9) A16.out).mono ?_); (case s1 => exact S.rd HO_9); rintro e w' ⟨rfl, ⟨nd, rfl⟩⟩; refine ⟨_, rfl, ?_⟩))
        go_roundg k2
        case measure => have := HJ5.out; have := HK2.out; omega
        case rel => exact ⟨(wrap64 (x11_2 + 1)), S.eA, H', ⟨by have := HJ5.out; have := HK2.out; omega⟩, ⟨S.uR HO_9.out⟩, ⟨S.bA⟩⟩

/-! ### impl_InRange: function 62 -/
def impl_InRange.f (a0 : Int) (a1 : Int) (a2 : Int) : Option (Bool) := if a1 ≤ a0 then (some (decide (a0 ≤ a2))) else (some false)
set_option maxHeartbeats 8000000 in
set_option maxRecDepth 100000 in
theorem impl_InRange.calls (a0 : Int) (a1 : Int) (a2 : Int) (r : Bool) (w : World) (h : impl_InRange.f a0 a1 a2 = some r) :
  Calls Try.prog 62 #[.int .i64 a0, .int .i64 a1, .int .i64 a2] w fun e w' => e = .returned (.bool r) ∧ Drawn0 w w' := by
 have H : (if a1 ≤ a0 then (some (decide (a0 ≤ a2))) else (some false)) = some r := h
 clear h
 replace H := S.dc H; rcases H with ⟨H, c4b0⟩ | ⟨H, c4b0⟩
 ·obtain rfl := Option.some.inj H
  go_enter Try.func62, Try.ntmps62
  go_wp2
  go_ret
  exact ⟨S.eA, by repeat (first | exact Drawn0.refl _ | apply Drawn0.step)⟩
 ·obtain rfl := Option.some.inj H
  go_enter Try.func62, Try.ntmps62
  go_wp2
  go_ret
  exact ⟨S.eA, by repeat (first | exact Drawn0.refl _ | apply Drawn0.step)⟩

-- NOT PRINTED: function 111 (impl_Path)

/-! ### impl_FindPath: function 83 -/
set_option maxHeartbeats 8000000 in
set_option maxRecDepth 100000 in
theorem impl_FindPath.idx (p : S71 → Bool) (g : Nat) (lb : Array Value) (eg : ∀ args w, (callFunc g args).run Try.prog w = .ok (.enter g args) w) (A0 : Option Addr) (c0 : Nat) (l0 : List S71) (w : World)
  (hp : ∀ (W : World) (x : S71), Below w.heap.size w W → Calls Try.prog g (#[.agg #[.int .i64 x.f0, .int .i64 x.f1, .int .i64 x.f2, .int .i64 x.f3]] ++ lb) W fun e w' => e = .returned (.bool (p x)) ∧ Below w.heap.size w w')
  (hr0 : Kd.C k71 w A0 l0.length l0) (hc0 : l0.length ≤ c0) :
  Calls Try.prog 111 #[.slice A0 l0.length c0, .func (.func g) #[] lb] w fun e w' => e = .returned (.int .i64 (Go.Proofs.Ytjgigmghcfdomaa.Hnd.fidx p l0 0)) ∧ Below w.heap.size w w' := by
 have hbig : l0.length ≤ 9223372036854775807 := hr0.2.1
 have HR0 := Aside0.mk hr0
 have HP := Aside0.mk hp
 clear hr0 hp
 go_enter Try.func111, Try.ntmps111
 go_wp2
 go_loopg [5, 8] l0.length (fun gg _ s8 wr => ∃ kk : Nat, kk ≤ l0.length ∧ l0.length - kk ≤ gg ∧ s8 = .int .i64 kk ∧ Aside0 (Below w.heap.size w wr) ∧ Aside0 (Go.Proofs.Ytjgigmghcfdomaa.Hnd.fidx p l0 0 = Go.Proofs.Ytjgigmghcfdomaa.Hnd.fidx p (l0.drop kk) kk))
 case atStart => exact ⟨0, Nat.zero_le _, by omega, rfl, ⟨Below.refl _ w⟩, ⟨by simp⟩⟩
 case round =>
  obtain ⟨kk, hkk, hg, rfl, BW, A⟩ := hrel
  by_cases hlt : kk < l0.length
  ·have hltz : (kk : Int) < (l0.length : Int) := by omega
   obtain ⟨ad116, e116, hx0, hx1, hx2, hx3⟩ := at_T71 HR0.out (kk : Int) (by omega) hltz
   cases e116
   simp only [Int.toNat_natCast] at hx0 hx1 hx2 hx3
   replace hx0 := (BW.out.cell (World.block_lt_of_cell? w _ hx0)).trans hx0
   replace hx1 := (BW.out.cell (World.block_lt_of_cell? w _ hx1)).trans hx1
   replace hx2 := (BW.out.cell (World.block_lt_of_cell? w _ hx2)).trans hx2
   replace hx3 := (BW.out.cell (World.block_lt_of_cell? w _ hx3)).trans hx3
   have hcall := HP.out wr (rd_T71 l0 (kk : Int)) BW.out
   have hq0 : rd_T71 l0 (kk : Int) = l0[kk] := by simp [rd_T71, hlt]
   have E : Aside0 (Go.Proofs.Ytjgigmghcfdomaa.Hnd.fidx p l0 0 = if p (rd_T71 l0 (kk : Int)) = true then (kk : Int) else Go.Proofs.Ytjgigmghcfdomaa.Hnd.fidx p (l0.drop (kk + 1)) (kk + 1)) := ⟨by rw [A.out, List.drop_eq_getElem_cons hlt, hq0]; rfl⟩
   clear A hq0
   generalize rd_T71 l0 (kk : Int) = y at hx0 hx1 hx2 hx3 hcall E
   cases hq : p y with
   | true =>
    rw [hq] at hcall
    go_wp2_with (fail)
    refine hcall.mono ?_
    rintro e w' ⟨rfl, hb'⟩
    clear hcall
    dsimp only
    go_wp2_with (fail)
    go_ret
    exact ⟨by rw [E.out, if_pos hq]; rfl, hb'⟩
   | false =>
    rw [hq] at hcall
    go_wp2_with (fail)
    refine hcall.mono ?_
    rintro e w' ⟨rfl, hb'⟩
    clear hcall
    dsimp only
    go_wp2_with (fail)
    go_roundg (l0.length - (kk + 1))
    case measure => omega
    case rel => exact ⟨kk + 1, by omega, by omega, by go_num, ⟨hb'⟩, ⟨by rw [E.out, hq]; rfl⟩⟩
  ·have hltz : ¬ (kk : Int) < (l0.length : Int) := by omega
   have hkn : kk = l0.length := by omega
   have E : Aside0 (Go.Proofs.Ytjgigmghcfdomaa.Hnd.fidx p l0 0 = -1) := ⟨by rw [A.out, hkn, List.drop_length]; rfl⟩
   clear A
   subst hkn
   go_wp2
   go_ret
   exact ⟨by rw [E.out]; rfl, BW.out⟩

theorem impl_FindPath.pred (a1 : Int) (B0 : Nat) (w : World) (hB0 : B0 < w.heap.size) (hcB0 : w.cell? ⟨B0, 0, none⟩ = some (.int .i64 a1)) :
  ∀ (W : World) (x : S71), Below w.heap.size w W → Calls Try.prog 112 (#[.agg #[.int .i64 x.f0, .int .i64 x.f1, .int .i64 x.f2, .int .i64 x.f3]] ++ #[.pointer (some ⟨B0, 0, none⟩)]) W fun e w' => e = .returned (.bool (x.f0 == a1)) ∧ Below w.heap.size w w' := fun W x hb => by
 have cB0 : W.cell? ⟨B0, 0, none⟩ = some (.int .i64 a1) := (hb.cell (p := ⟨B0, 0, none⟩) hB0).trans hcB0
 have lB0 : B0 < W.heap.size := Nat.lt_of_lt_of_le hB0 hb.size
 have nB0 : B0 ≠ W.heap.size := by omega
 have hB2 := Aside0.mk hb
 clear hb hcB0
 show Calls Try.prog 112 #[.agg #[.int .i64 x.f0, .int .i64 x.f1, .int .i64 x.f2, .int .i64 x.f3], .pointer (some ⟨B0, 0, none⟩)] W _
 go_enter Try.func112, Try.ntmps112
 go_wp2
 go_ret
 exact ⟨by first | rfl | simp, hB2.out.alloc hB2.out.size _⟩
def impl_FindPath.f (l0 : List (S71)) (a1 : Int) : Option (Int) := some (Go.Proofs.Ytjgigmghcfdomaa.Hnd.fidx (fun x : S71 => x.f0 == a1) l0 0)
set_option maxHeartbeats 8000000 in
theorem impl_FindPath.calls (A0 : Option Addr) (c0 : Nat) (l0 : List (S71)) (a1 : Int) (r : Int) (w : World) (hr0 : Kd.C k71 w A0 l0.length l0) (hc0 : l0.length ≤ c0) (h : impl_FindPath.f l0 a1 = some r) :
  Calls Try.prog 83 #[.slice A0 l0.length c0, .int .i64 a1] w fun e w' => e = .returned (.int .i64 r) ∧ Below w.heap.size w w' := by
 obtain rfl := Option.some.inj h
 clear h
 have eg : ∀ args w, (callFunc 112 args).run Try.prog w = .ok (.enter 112 args) w := Go.Proofs.Ytjgigmghcfdomaa.Hnd.enters_fn Try.func112 (by kernel_rfl) rfl
 have hB1 : Below w.heap.size w (w.alloc (.cells #[.int .i64 a1] 3)) := ((Below.refl _ w).alloc (Nat.le_refl _) _)
 have hcon := impl_FindPath.idx (fun x : S71 => x.f0 == a1) 112 #[.pointer (some ⟨w.heap.size, 0, none⟩)] eg A0 c0 l0 (w.alloc (.cells #[.int .i64 a1] 3)) (impl_FindPath.pred a1 w.heap.size _ (by simp) (by simp)) (Kd.C_below hr0 hB1) hc0
 generalize Go.Proofs.Ytjgigmghcfdomaa.Hnd.fidx (fun x : S71 => x.f0 == a1) l0 0 = r at hcon ⊢
 clear hr0 eg
 have HB1 := Aside0.mk hB1
 clear hB1
 go_enter Try.func83, Try.ntmps83
 go_wp2_with (fail)
 refine hcon.mono ?_
 rintro e w' ⟨rfl, hb'⟩
 clear hcon
 dsimp only
 go_wp2_with (fail)
 go_ret
 exact ⟨rfl, HB1.out.trans (hb'.mono (by simp))⟩

/-! ### impl_IsPath: function 117 -/
def impl_IsPath.f (a0_0 : Int) (a0_1 : Int) (a0_2 : Int) (a0_3 : Int) : Option (Bool) := (impl_InRange.f a0_0 1 20).bind fun t282 => (if t282 = true then ((impl_InRange.f a0_1 1 3).bind fun t283 => (if t283 = true then ((impl_InRange.f a0_2 0 3).bind fun t284 => (if t284 = true then ((impl_InRange.f a0_3 0 3).bind fun t285 => (if t285 = true then (some ((a0_2 == a0_3) == (a0_1 == 2))) else (some false))) else (some false))) else (some false))) else (some false))
set_option maxHeartbeats 8000000 in
set_option maxRecDepth 100000 in
theorem impl_IsPath.calls (a0_0 : Int) (a0_1 : Int) (a0_2 : Int) (a0_3 : Int) (r : Bool) (w : World) (h : impl_IsPath.f a0_0 a0_1 a0_2 a0_3 = some r) :
  Calls Try.prog 117 #[.agg #[.int .i64 a0_0, .int .i64 a0_1, .int .i64 a0_2, .int .i64 a0_3]] w fun e w' => e = .returned (.bool r) ∧ Below w.heap.size w w' := by
 have hu71 := Try.underlying71
 have HB := Aside0.mk (Below.refl w.heap.size w)
 have H : ((impl_InRange.f a0_0 1 20).bind fun t282 => (if t282 = true then ((impl_InRange.f a0_1 1 3).bind fun t283 => (if t283 = true then ((impl_InRange.f a0_2 0 3).bind fun t284 => (if t284 = true then ((impl_InRange.f a0_3 0 3).bind fun t285 => (if t285 = true then (some ((a0_2 == a0_3) == (a0_1 == 2))) else (some false))) else (some false))) else (some false))) else (some false))) = some r := h
 clear h
 replace H := S.bd H; obtain ⟨t282, A2, H⟩ := H
 (try dsimp only at H)
 replace H := S.db H; rcases H with ⟨rfl, H⟩ | ⟨rfl, H⟩
 ·replace H := S.bd H; obtain ⟨t283, A4, H⟩ := H
  (try dsimp only at H)
  replace H := S.db H; rcases H with ⟨rfl, H⟩ | ⟨rfl, H⟩
  ·replace H := S.bd H; obtain ⟨t284, A6, H⟩ := H
   (try dsimp only at H)
   replace H := S.db H; rcases H with ⟨rfl, H⟩ | ⟨rfl, H⟩
   ·replace H := S.bd H; obtain ⟨t285, A8, H⟩ := H
    (try dsimp only at H)
    replace H := S.db H; rcases H with ⟨rfl, H⟩ | ⟨rfl, H⟩
    ·obtain rfl := Option.some.inj H
     go_enter Try.func117, Try.ntmps117
     go_wp2_with (first | ((with_reducible refine gate_dst (N := 1) rfl ?_); refine S.bx 1 (cs := #[.int .i64 a0_0, .int .i64 a0_1, .int .i64 a0_2, .int .i64 a0_3]) (t := 71) ?_; intro gb281 hg w10 hbox hb; have BK281 := Aside0.mk hbox; have GW281 := S.geA hg; have GE281 := S.geA hg; replace HB := S.sA hb; clear hb hbox hg; obtain ⟨Z11a, Z11b, Z11c, Z11d, Y11a, Y11b, Y11c, Y11d⟩ := S.c4 BK281.out) | ((with_reducible refine gate_callee (f := 62) rfl ?_); refine S.gL (some 5) Try.func62 #[.int .i64 a0_0, .int .i64 1, .int .i64 20] ?_; (with_reducible refine (impl_InRange.calls a0_0 1 20 true _ A2.out).mono ?_); rintro e w' ⟨rfl, ⟨nd, rfl⟩⟩; refine ⟨_, rfl, ?_⟩) | (go_at_call 62; (with_reducible refine (impl_InRange.calls a0_1 1 3 true _ A4.out).mono ?_); rintro e w' ⟨rfl, ⟨nd, rfl⟩⟩) | (go_at_call 62; (with_reducible refine (impl_InRange.calls a0_2 0 3 true _ A6.out).mono ?_); rintro e w' ⟨rfl, ⟨nd, rfl⟩⟩) | (go_at_call 62; (with_reducible refine (impl_InRange.calls a0_3 0 3 true _ A8.out).mono ?_); rintro e w' ⟨rfl, ⟨nd, rfl⟩⟩))
     go_ret
     exact ⟨S.eW, S.bG⟩
    ·obtain rfl := Option.some.inj H
     go_enter Try.func117, Try.ntmps117
     go_wp2_with (first | ((with_reducible refine gate_dst (N := 1) rfl ?_); refine S.bx 1 (cs := #[.int .i64 a0_0, .int .i64 a0_1, .int .i64 a0_2, .int .i64 a0_3]) (t := 71) ?_; intro gb281 hg w12 hbox hb; have BK281 := Aside0.mk hbox; have GW281 := S.geA hg; have GE281 := S.geA hg; replace HB := S.sA hb; clear hb hbox hg; obtain ⟨Z13a, Z13b, Z13c, Z13d, Y13a, Y13b, Y13c, Y13d⟩ := S.c4 BK281.out) | ((with_reducible refine gate_callee (f := 62) rfl ?_); refine S.gL (some 5) Try.func62 #[.int .i64 a0_0, .int .i64 1, .int .i64 20] ?_; (with_reducible refine (impl_InRange.calls a0_0 1 20 true _ A2.out).mono ?_); rintro e w' ⟨rfl, ⟨nd, rfl⟩⟩; refine ⟨_, rfl, ?_⟩) | (go_at_call 62; (with_reducible refine (impl_InRange.calls a0_1 1 3 true _ A4.out).mono ?_); rintro e w' ⟨rfl, ⟨nd, rfl⟩⟩) | (go_at_call 62; (with_reducible refine (impl_InRange.calls a0_2 0 3 true _ A6.out).mono ?_); rintro e w' ⟨rfl, ⟨nd, rfl⟩⟩) | (go_at_call 62; (with_reducible refine (impl_InRange.calls a0_3 0 3 false _ A8.out).mono ?_); rintro e w' ⟨rfl, ⟨nd, rfl⟩⟩))
     go_ret
     exact ⟨S.eW, S.bG⟩
   ·obtain rfl := Option.some.inj H
    go_enter Try.func117, Try.ntmps117
    go_wp2_with (first | ((with_reducible refine gate_dst (N := 1) rfl ?_); refine S.bx 1 (cs := #[.int .i64 a0_0, .int .i64 a0_1, .int .i64 a0_2, .int .i64 a0_3]) (t := 71) ?_; intro gb281 hg w14 hbox hb; have BK281 := Aside0.mk hbox; have GW281 := S.geA hg; have GE281 := S.geA hg; replace HB := S.sA hb; clear hb hbox hg; obtain ⟨Z15a, Z15b, Z15c, Z15d, Y15a, Y15b, Y15c, Y15d⟩ := S.c4 BK281.out) | ((with_reducible refine gate_callee (f := 62) rfl ?_); refine S.gL (some 5) Try.func62 #[.int .i64 a0_0, .int .i64 1, .int .i64 20] ?_; (with_reducible refine (impl_InRange.calls a0_0 1 20 true _ A2.out).mono ?_); rintro e w' ⟨rfl, ⟨nd, rfl⟩⟩; refine ⟨_, rfl, ?_⟩) | (go_at_call 62; (with_reducible refine (impl_InRange.calls a0_1 1 3 true _ A4.out).mono ?_); rintro e w' ⟨rfl, ⟨nd, rfl⟩⟩) | (go_at_call 62; (with_reducible refine (impl_InRange.calls a0_2 0 3 false _ A6.out).mono ?_); rintro e w' ⟨rfl, ⟨nd, rfl⟩⟩))
    go_ret
    exact ⟨S.eW, S.bG⟩
  ·obtain rfl := Option.some.inj H
   go_enter Try.func117, Try.ntmps117
   go_wp2_with (first | ((with_reducible refine gate_dst (N := 1) rfl ?_); refine S.bx 1 (cs := #[.int .i64 a0_0, .int .i64 a0_1, .int .i64 a0_2, .int .i64 a0_3]) (t := 71) ?_; intro gb281 hg w16 hbox hb; have BK281 := Aside0.mk hbox; have GW281 := S.geA hg; have GE281 := S.geA hg; replace HB := S.sA hb; clear hb hbox hg; obtain ⟨Z17a, Z17b, Z17c, Z17d, Y17a, Y17b, Y17c, Y17d⟩ := S.c4 BK281.out) | ((with_reducible refine gate_callee (f := 62) rfl ?_); refine S.gL (some 5) Try.func62 #[.int .i64 a0_0, .int .i64 1, .int .i64 20] ?_; (with_reducible refine (impl_InRange.calls a0_0 1 20 true _ A2.out).mono ?_); rintro e w' ⟨rfl, ⟨nd, rfl⟩⟩; refine ⟨_, rfl, ?_⟩) | (go_at_call 62; (with_reducible refine (impl_InRange.calls a0_1 1 3 false _ A4.out).mono ?_); rintro e w' ⟨rfl, ⟨nd, rfl⟩⟩))
   go_ret
   exact ⟨S.eW, S.bG⟩
 ·obtain rfl := Option.some.inj H
  go_enter Try.func117, Try.ntmps117
  go_wp2_with (first | ((with_reducible refine gate_dst (N := 1) rfl ?_); refine S.bx 1 (cs := #[.int .i64 a0_0, .int .i64 a0_1, .int .i64 a0_2, .int .i64 a0_3]) (t := 71) ?_; intro gb281 hg w18 hbox hb; have BK281 := Aside0.mk hbox; have GW281 := S.geA hg; have GE281 := S.geA hg; replace HB := S.sA hb; clear hb hbox hg; obtain ⟨Z19a, Z19b, Z19c, Z19d, Y19a, Y19b, Y19c, Y19d⟩ := S.c4 BK281.out) | ((with_reducible refine gate_callee (f := 62) rfl ?_); refine S.gL (some 5) Try.func62 #[.int .i64 a0_0, .int .i64 1, .int .i64 20] ?_; (with_reducible refine (impl_InRange.calls a0_0 1 20 false _ A2.out).mono ?_); rintro e w' ⟨rfl, ⟨nd, rfl⟩⟩; refine ⟨_, rfl, ?_⟩))
  go_ret
  exact ⟨S.eW, S.bG⟩

end Go.Proofs.Ytjgigmghcfdomaa.PFnExactSwitchAt
