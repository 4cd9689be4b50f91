/- Printed by a program: what the Go functions compute, as plain Lean functions (.f), and the proofs that the machine's calls come to just that (.calls). -/
import Derived.Test.YtopchlafmfgpnaaProg
import Derived.Below
import Derived.Deep.Draws
import Derived.Deep.AppendLies
import Derived.Maps.AppendAt
import Derived.OwnWalk
import Derived.Laws.BytesArg
import Derived.Laws.MakeOwn
import Derived.Laws.OwnMore
import Derived.Deep.OwnRows
import Derived.Tactics
import Derived.Lib.ConvBytes
import Derived.Laws.Slices
import Derived.WalkKit
import Derived.KernelRfl
import Derived.RowKit3
import Derived.Deep.LoopGhost
import Derived.Deep.QuietTactic
import Derived.BigQuiet
import Derived.WideLaws
import Derived.Deep.DeepCutAuto
import Derived.Deep.CutBlock
import Derived.Deep.RegionHeld3
import Derived.Laws.Rows
import Derived.Lib.AppendStr
import Derived.ArgAppend
import Derived.Laws.IdiomCopy
import Derived.OrdersHeld
import Derived.Laws.BitsLemmas
import Derived.RowKit
import Derived.Lib.LazyBuf
import Derived.Test.YtopchlafmfgpnaaHand
import Derived.Test.YtopchlafmfgpnaaShort
import Derived.Test.YtopchlafmfgpnaaWWords
import Derived.Test.YtopchlafmfgpnaaWLast
import Derived.Test.YtopchlafmfgpnaaWTab
import Derived.Test.YtopchlafmfgpnaaWFour
import Derived.Test.YtopchlafmfgpnaaWQPut
import Derived.Test.YtopchlafmfgpnaaWApart
import Derived.Test.YtopchlafmfgpnaaWArr
import Derived.Test.YtopchlafmfgpnaaWZeros
import Derived.Test.YtopchlafmfgpnaaWFoot
import Derived.Test.YtopchlafmfgpnaaWKept
import Derived.Test.YtopchlafmfgpnaaWShare
import Derived.Test.YtopchlafmfgpnaaWN
import Derived.Test.YtopchlafmfgpnaaWFootNe
import Derived.Test.YtopchlafmfgpnaaWAt
import Derived.Test.YtopchlafmfgpnaaWEqStruct
import Derived.Test.YtopchlafmfgpnaaWRepsOne
import Derived.Test.YtopchlafmfgpnaaWInv
import Derived.Test.YtopchlafmfgpnaaWInvWords
import Derived.Test.YtopchlafmfgpnaaWGuard
import Derived.Test.YtopchlafmfgpnaaWNEv
import Derived.Test.YtopchlafmfgpnaaWMore
namespace Go.Proofs.Ytopchlafmfgpnaa.PFnSirens
open Go.RowKit Go.Proofs.YtopchlafmfgpnaaW.PrintWords Go.Proofs.YtopchlafmfgpnaaW.PrintLast Go.Proofs.YtopchlafmfgpnaaW.PrintMore
attribute [local go_sem] max2_int min2_int max_two min_two max_three min_three max_four min_four   -- for this text's walks alone
set_option linter.unusedVariables false
set_option linter.unusedSimpArgs false
set_option maxHeartbeats 8000000
set_option maxRecDepth 100000
def errW : Option Int → Value
 | none => .nilIface
 | some c => .iface 0 (.int .i64 c)
theorem errW_none : errW none = .nilIface := rfl
theorem errW_some (c : Int) : errW (some c) = .iface 0 (.int .i64 c) := rfl

theorem info3 : (Try.prog.info? 3).map (fun i => (i.zero, i.size, i.bytes)) = some (some (.int .i64 0), 1, 8) := by kernel_rfl
theorem info24 : (Try.prog.info? 24).map (fun i => (i.zero, i.size, i.bytes)) = some (some (.slice none 0 0), 1, 24) := by kernel_rfl
theorem info52 : (Try.prog.info? 52).map (fun i => (i.zero, i.size, i.bytes)) = some (some (.agg #[(.int .i64 0), (.int .i64 0), (.int .i64 0), (.int .i64 0)]), 4, 32) := by kernel_rfl
-- the values' own types
/-! #### struct type 52 -/
structure S52 where
 f0 : Int
 f1 : Int
 f2 : Int
 f3 : Int
def z52 : S52 := ⟨(0 : Int), (0 : Int), (0 : Int), (0 : Int)⟩
def k52 : Kd S52 := Kd.iso (Kd.pair (Kd.int .i64) (Kd.pair (Kd.int .i64) (Kd.pair (Kd.int .i64) (Kd.int .i64)))) (fun x : S52 => (x.f0, x.f1, x.f2, x.f3))
theorem k52_open {w : World} {x : S52} {cs : List Value} (h : k52.K w x cs) : cs = [.int .i64 x.f0, .int .i64 x.f1, .int .i64 x.f2, .int .i64 x.f3] := by
 obtain ⟨_, _, rfl, rfl, ⟨_, _, rfl, rfl, ⟨_, _, rfl, rfl, rfl⟩⟩⟩ := h; exact rfl
theorem k52_openM {w : World} {base : Nat} {ok : Nat → Prop} {x : S52} {cs : List Value} (h : k52.M w base ok x cs) : cs = [.int .i64 x.f0, .int .i64 x.f1, .int .i64 x.f2, .int .i64 x.f3] := by
 obtain ⟨_, _, rfl, rfl, ⟨_, _, rfl, rfl, ⟨_, _, rfl, rfl, rfl⟩⟩⟩ := h; exact rfl
theorem k52_mkM (w : World) (base : Nat) (ok : Nat → Prop) (x : S52)  : k52.M w base ok x [.int .i64 x.f0, .int .i64 x.f1, .int .i64 x.f2, .int .i64 x.f3] := ⟨[.int .i64 x.f0], [.int .i64 x.f1, .int .i64 x.f2, .int .i64 x.f3], rfl, rfl, ⟨[.int .i64 x.f1], [.int .i64 x.f2, .int .i64 x.f3], rfl, rfl, ⟨[.int .i64 x.f2], [.int .i64 x.f3], rfl, rfl, rfl⟩⟩⟩
def rd_T52 (xs : List S52) (i : Int) : S52 := xs.getD i.toNat z52
theorem at_T52 {w : World} {A : Option Addr} {n : Nat} {xs : List S52} (h : Kd.C k52 w A n xs) (i : Int) (h0 : 0 ≤ i) (h1 : i < n) : ∃ ad , A = some ad ∧ w.cell? (ad.add (i.toNat * 4)) = some (.int .i64 (rd_T52 xs i).f0) ∧ w.cell? ⟨(ad.add (i.toNat * 4)).block, (ad.add (i.toNat * 4)).off + 1, none⟩ = some (.int .i64 (rd_T52 xs i).f1) ∧ w.cell? ⟨(ad.add (i.toNat * 4)).block, (ad.add (i.toNat * 4)).off + 2, none⟩ = some (.int .i64 (rd_T52 xs i).f2) ∧ w.cell? ⟨(ad.add (i.toNat * 4)).block, (ad.add (i.toNat * 4)).off + 3, none⟩ = some (.int .i64 (rd_T52 xs i).f3) := by
 obtain ⟨ad, c, e, _, hK, hc0⟩ := Kd.C_get h z52 i h0 h1; have hc : ∀ j u, c[j]? = some u → w.cell? (ad.add (i.toNat * 4 + j)) = some u := hc0; obtain rfl := k52_open hK; exact ⟨ad, e, hc 0 _ rfl, by rw [← add_field _ _ 1 (by omega)]; exact hc 1 _ rfl, by rw [← add_field _ _ 2 (by omega)]; exact hc 2 _ rfl, by rw [← add_field _ _ 3 (by omega)]; exact hc 3 _ rfl⟩

def rd_L3 (xs : List (List Int)) (i : Int) : (List Int) := xs.getD i.toNat ([] : List Int)
theorem at_L3 {w : World} {A : Option Addr} {n : Nat} {xs : List (List Int)} (h : Kd.C (Kd.slice 3 (Kd.int .i64)) w A n xs) (i : Int) (h0 : 0 ≤ i) (h1 : i < n) : ∃ ad A0 c0, A = some ad ∧ w.cell? (ad.add i.toNat) = some (.slice A0 (rd_L3 xs i).length c0) ∧ (rd_L3 xs i).length ≤ c0 ∧ (Kd.int .i64).C w A0 (rd_L3 xs i).length (rd_L3 xs i) := by
 obtain ⟨ad, c, e, _, hK, hc0⟩ := Kd.C_get h ([] : List Int) i h0 h1; have hc : ∀ j u, c[j]? = some u → w.cell? (ad.add (i.toNat * 1 + j)) = some u := hc0; obtain ⟨A0, c0, rfl, l0, g0⟩ := hK; exact ⟨ad, A0, c0, e, by have hq := hc 0 _ rfl; rwa [Nat.mul_one, Nat.add_zero] at hq, l0, g0⟩
/-! ### slices_Index_int_int: function 111 -/
def slices_Index_int_int.l0 : Nat → List Int → Int → Int → Int → Option (Int)
 | 0, _, _, _, _ => none
 | k + 1, x0, x1, x7, x8 => if x8 < x7 then (if 0 ≤ x8 then (if x8 < (x0.length : Int) then (if x1 = (rd x0 x8) then (some x8) else (slices_Index_int_int.l0 k x0 x1 x7 (wrap64 (x8 + 1)))) else (none)) else (none)) else (some (-1))
def slices_Index_int_int.f (k : Nat) (l0 : List Int) (a1 : Int) : Option (Int) := slices_Index_int_int.l0 k l0 a1 (l0.length : Int) 0
theorem slices_Index_int_int.calls (k : Nat) (A0 : Option Addr) (c0 : Nat) (l0 : List Int) (a1 : Int) (r : Int) (w : World) (hr0 : Kd.C (Kd.int .i64) w A0 l0.length l0) (hc0 : l0.length ≤ c0) (h : slices_Index_int_int.f k l0 a1 = some r) :
  Calls Try.prog 111 #[.slice A0 l0.length c0, .int .i64 a1] w fun e w' => e = .returned (.int .i64 r) ∧ Drawn0 w w' := by
 have HR0 := Aside0.mk hr0; have HC0 := Aside0.mk hc0; clear hr0 hc0; have H : (slices_Index_int_int.l0 k l0 a1 (l0.length : Int) 0) = some r := h; clear h; have H' := Aside0.mk H; clear H; go_enter Try.func111, Try.ntmps111; go_wp2; go_loopg [8] k (fun kq v8 w' => ∃ (x8_1 : Int), v8 = .int .i64 x8_1 ∧ Aside0 (slices_Index_int_int.l0 kq l0 a1 (l0.length : Int) x8_1 = some r) ∧ Aside0 (kq ≤ k) ∧ Drawn0 w w')
 case atStart => exact ⟨(0), S.eA, H', ⟨Nat.le_refl _⟩, by repeat (first | exact Drawn0.refl _ | apply Drawn0.step)⟩
 case round =>
  clear H'; obtain ⟨x8_1, rfl, HA, HK1, ⟨m1, rfl⟩⟩ := hrel
  cases gk with
  | zero => exact absurd HA.out (by simp [slices_Index_int_int.l0])
  | succ k1 =>
   have H := HA.out; clear HA; simp only [slices_Index_int_int.l0] at H; replace H := S.dc H; rcases H with ⟨H, c3b0⟩ | ⟨H, c3b0⟩
   ·by_cases c4 : 0 ≤ x8_1
    ·rw [if_pos c4] at H; have c4b0 : decide (0 ≤ x8_1) = true := decide_eq_true c4; clear c4
     by_cases c5 : x8_1 < (l0.length : Int)
     ·rw [if_pos c5] at H; have c5b0 : decide (x8_1 < (l0.length : Int)) = true := decide_eq_true c5; clear c5
      by_cases c6 : a1 = (rd l0 x8_1)
      ·rw [if_pos c6] at H; have c6b0 : (a1 == (rd l0 x8_1)) = true := beq_iff_eq.mpr c6; have c6b1 : (a1 != (rd l0 x8_1)) = false := bne_eq_false_iff_eq.mpr c6; clear c6; obtain rfl := Option.some.inj H; have p101 : 0 ≤ (x8_1 : Int) := S.oD; have q101 : x8_1 < (l0.length : Int) := S.oD; obtain ⟨ad101, e101, hx101_0⟩ := Kd.at_int HR0.out x8_1 p101 q101; cases e101; replace p101 := eq_true p101; replace q101 := eq_true q101; go_wp2; go_ret; exact ⟨S.eA, by repeat (first | exact Drawn0.refl _ | apply Drawn0.step)⟩
      ·rw [if_neg c6] at H; have c6b0 : (a1 == (rd l0 x8_1)) = false := beq_eq_false_iff_ne.mpr c6; have c6b1 : (a1 != (rd l0 x8_1)) = true := bne_iff_ne.mpr c6; have H' := Aside0.mk H; clear H; have p101 : 0 ≤ (x8_1 : Int) := S.oD; have q101 : x8_1 < (l0.length : Int) := S.oD; obtain ⟨ad101, e101, hx101_0⟩ := Kd.at_int HR0.out x8_1 p101 q101; cases e101; replace p101 := eq_true p101; replace q101 := eq_true q101; go_wp2; go_roundg k1
       case measure => have := HK1.out; omega
       case rel => exact ⟨(wrap64 (x8_1 + 1)), S.eA, H', ⟨by have := HK1.out; omega⟩, by repeat (first | exact Drawn0.refl _ | apply Drawn0.step)⟩
     ·rw [if_neg c5] at H; exact absurd H (by simp)
    ·rw [if_neg c4] at H; exact absurd H (by simp)
   ·obtain rfl := Option.some.inj H; go_wp2; go_ret; exact ⟨S.eA, by repeat (first | exact Drawn0.refl _ | apply Drawn0.step)⟩

/-! ### slices_Contains_int_int: function 82 -/
def slices_Contains_int_int.f (k : Nat) (l0 : List Int) (a1 : Int) : Option (Bool) := (slices_Index_int_int.f k l0 a1).bind fun t102 => (some (decide (t102 ≥ 0)))
theorem slices_Contains_int_int.calls (k : Nat) (A0 : Option Addr) (c0 : Nat) (l0 : List Int) (a1 : Int) (r : Bool) (w : World) (hr0 : Kd.C (Kd.int .i64) w A0 l0.length l0) (hc0 : l0.length ≤ c0) (h : slices_Contains_int_int.f k l0 a1 = some r) :
  Calls Try.prog 82 #[.slice A0 l0.length c0, .int .i64 a1] w fun e w' => e = .returned (.bool r) ∧ Drawn0 w w' := by
 have HR0 := Aside0.mk hr0; have HC0 := Aside0.mk hc0; clear hr0 hc0; have H : ((slices_Index_int_int.f k l0 a1).bind fun t102 => (some (decide (t102 ≥ 0)))) = some r := h; clear h; replace H := S.bd H; obtain ⟨t102, A3, H⟩ := H; (try dsimp only at H); obtain rfl := Option.some.inj H; go_enter Try.func82, Try.ntmps82; go_wp2_with (first | ((with_reducible refine gate_callee (f := 111) rfl ?_); refine S.gL (some 7) Try.func111 #[.slice A0 l0.length c0, .int .i64 a1] ?_; (with_reducible refine (slices_Index_int_int.calls k _ _ l0 a1 t102 _ ?s1 HC0.out A3.out).mono ?_); (case s1 => exact S.cD HR0.out); rintro e w' ⟨rfl, ⟨nd, rfl⟩⟩; refine ⟨_, rfl, ?_⟩)); go_ret; exact ⟨S.eA, by repeat (first | exact Drawn0.refl _ | apply Drawn0.step)⟩

/-! ### slices_Equal_int_int: function 100 -/
def slices_Equal_int_int.l0 : Nat → List Int → List Int → Int → Int → Option (Bool)
 | 0, _, _, _, _ => none
 | k + 1, x0, x1, x12, x13 => if x13 < x12 then (if 0 ≤ x13 then (if x13 < (x0.length : Int) then (if x13 < (x1.length : Int) then (if (rd x0 x13) = (rd x1 x13) then (slices_Equal_int_int.l0 k x0 x1 x12 (wrap64 (x13 + 1))) else (some false)) else (none)) else (none)) else (none)) else (some true)
def slices_Equal_int_int.f (k : Nat) (l0 : List Int) (l1 : List Int) : Option (Bool) := if (l0.length : Int) = (l1.length : Int) then (slices_Equal_int_int.l0 k l0 l1 (l0.length : Int) 0) else (some false)
theorem slices_Equal_int_int.calls (k : Nat) (A0 : Option Addr) (c0 : Nat) (l0 : List Int) (A1 : Option Addr) (c1 : Nat) (l1 : List Int) (r : Bool) (w : World) (hr0 : Kd.C (Kd.int .i64) w A0 l0.length l0) (hc0 : l0.length ≤ c0) (hr1 : Kd.C (Kd.int .i64) w A1 l1.length l1) (hc1 : l1.length ≤ c1) (h : slices_Equal_int_int.f k l0 l1 = some r) :
  Calls Try.prog 100 #[.slice A0 l0.length c0, .slice A1 l1.length c1] w fun e w' => e = .returned (.bool r) ∧ Drawn0 w w' := by
 have HR0 := Aside0.mk hr0; have HC0 := Aside0.mk hc0; clear hr0 hc0; have HR1 := Aside0.mk hr1; have HC1 := Aside0.mk hc1; clear hr1 hc1; have H : (if (l0.length : Int) = (l1.length : Int) then (slices_Equal_int_int.l0 k l0 l1 (l0.length : Int) 0) else (some false)) = some r := h; clear h
 by_cases c3 : (l0.length : Int) = (l1.length : Int)
 ·rw [if_pos c3] at H; have c3b0 : ((l0.length : Int) == (l1.length : Int)) = true := beq_iff_eq.mpr c3; have c3b1 : ((l0.length : Int) != (l1.length : Int)) = false := bne_eq_false_iff_eq.mpr c3; have c3b2 : (l0.length == l1.length) = true := by first | simpa using c3 | (simp at c3 ⊢; omega)
  clear c3; have H' := Aside0.mk H; clear H; go_enter Try.func100, Try.ntmps100; go_wp2
  repeat (go_quiet (fail); try go_wp2)
  go_loopg [13] k (fun kq v13 w' => ∃ (x13_1 : Int), v13 = .int .i64 x13_1 ∧ Aside0 (slices_Equal_int_int.l0 kq l0 l1 (l0.length : Int) x13_1 = some r) ∧ Aside0 (kq ≤ k) ∧ Drawn0 w w')
  case atStart => exact ⟨(0), S.eA, H', ⟨Nat.le_refl _⟩, by repeat (first | exact Drawn0.refl _ | apply Drawn0.step)⟩
  case round =>
   clear H'; try clear c1
   try clear c3
   try clear c3b0
   try clear c3b1
   try clear c3b2
   obtain ⟨x13_1, rfl, HA, HK1, ⟨m1, rfl⟩⟩ := hrel
   cases gk with
   | zero => exact absurd HA.out (by simp [slices_Equal_int_int.l0])
   | succ k1 =>
    have H := HA.out; clear HA; simp only [slices_Equal_int_int.l0] at H; replace H := S.dc H; rcases H with ⟨H, c4b0⟩ | ⟨H, c4b0⟩
    ·by_cases c5 : 0 ≤ x13_1
     ·rw [if_pos c5] at H; have c5b0 : decide (0 ≤ x13_1) = true := decide_eq_true c5; clear c5
      by_cases c6 : x13_1 < (l0.length : Int)
      ·rw [if_pos c6] at H; have c6b0 : decide (x13_1 < (l0.length : Int)) = true := decide_eq_true c6; clear c6
       by_cases c7 : x13_1 < (l1.length : Int)
       ·rw [if_pos c7] at H; have c7b0 : decide (x13_1 < (l1.length : Int)) = true := decide_eq_true c7; clear c7
        by_cases c8 : (rd l0 x13_1) = (rd l1 x13_1)
        ·rw [if_pos c8] at H; have c8b0 : ((rd l0 x13_1) == (rd l1 x13_1)) = true := beq_iff_eq.mpr c8; have c8b1 : ((rd l0 x13_1) != (rd l1 x13_1)) = false := bne_eq_false_iff_eq.mpr c8; clear c8; have H' := Aside0.mk H; clear H; have p103 : 0 ≤ (x13_1 : Int) := S.oD; have q103 : x13_1 < (l0.length : Int) := S.oD; obtain ⟨ad103, e103, hx103_0⟩ := Kd.at_int HR0.out x13_1 p103 q103; cases e103; replace p103 := eq_true p103; replace q103 := eq_true q103; have p104 : 0 ≤ (x13_1 : Int) := S.oD; have q104 : x13_1 < (l1.length : Int) := S.oD; obtain ⟨ad104, e104, hx104_0⟩ := Kd.at_int HR1.out x13_1 p104 q104; cases e104; replace p104 := eq_true p104; replace q104 := eq_true q104; go_wp2
         repeat (go_quiet (fail); try go_wp2)
         go_roundg k1
         case measure => have := HK1.out; omega
         case rel => exact ⟨(wrap64 (x13_1 + 1)), S.eA, H', ⟨by have := HK1.out; omega⟩, by repeat (first | exact Drawn0.refl _ | apply Drawn0.step)⟩
        ·rw [if_neg c8] at H; have c8b0 : ((rd l0 x13_1) == (rd l1 x13_1)) = false := beq_eq_false_iff_ne.mpr c8; have c8b1 : ((rd l0 x13_1) != (rd l1 x13_1)) = true := bne_iff_ne.mpr c8; obtain rfl := Option.some.inj H; have p103 : 0 ≤ (x13_1 : Int) := S.oD; have q103 : x13_1 < (l0.length : Int) := S.oD; obtain ⟨ad103, e103, hx103_0⟩ := Kd.at_int HR0.out x13_1 p103 q103; cases e103; replace p103 := eq_true p103; replace q103 := eq_true q103; have p104 : 0 ≤ (x13_1 : Int) := S.oD; have q104 : x13_1 < (l1.length : Int) := S.oD; obtain ⟨ad104, e104, hx104_0⟩ := Kd.at_int HR1.out x13_1 p104 q104; cases e104; replace p104 := eq_true p104; replace q104 := eq_true q104; go_wp2
         repeat (go_quiet (fail); try go_wp2)
         go_ret; exact ⟨S.eA, by repeat (first | exact Drawn0.refl _ | apply Drawn0.step)⟩
       ·rw [if_neg c7] at H; exact absurd H (by simp)
      ·rw [if_neg c6] at H; exact absurd H (by simp)
     ·rw [if_neg c5] at H; exact absurd H (by simp)
    ·obtain rfl := Option.some.inj H; go_wp2
     repeat (go_quiet (fail); try go_wp2)
     go_ret; exact ⟨S.eA, by repeat (first | exact Drawn0.refl _ | apply Drawn0.step)⟩
 ·rw [if_neg c3] at H; have c3b0 : ((l0.length : Int) == (l1.length : Int)) = false := beq_eq_false_iff_ne.mpr c3; have c3b1 : ((l0.length : Int) != (l1.length : Int)) = true := bne_iff_ne.mpr c3; have c3b2 : (l0.length == l1.length) = false := by first | simpa using c3 | (simp at c3 ⊢; omega)
  obtain rfl := Option.some.inj H; go_enter Try.func100, Try.ntmps100; go_wp2
  repeat (go_quiet (fail); try go_wp2)
  go_ret; exact ⟨S.eA, by repeat (first | exact Drawn0.refl _ | apply Drawn0.step)⟩

/-! ### laws_big: function 25 -/
def laws_big.f (l0 : List Int) : Option (Bool) := some (decide ((l0.length : Int) > 1048576))
theorem laws_big.calls (A0 : Option Addr) (c0 : Nat) (l0 : List Int) (r : Bool) (w : World) (hr0 : Kd.C (Kd.int .u8) w A0 l0.length l0) (hc0 : l0.length ≤ c0) (h : laws_big.f l0 = some r) :
  Calls Try.prog 25 #[.slice A0 l0.length c0] w fun e w' => e = .returned (.bool r) ∧ Drawn0 w w' := by
 have HR0 := Aside0.mk hr0; have HC0 := Aside0.mk hc0; clear hr0 hc0; have H : (some (decide ((l0.length : Int) > 1048576))) = some r := h; clear h; obtain rfl := Option.some.inj H; go_enter Try.func25, Try.ntmps25; go_wp2; go_ret; exact ⟨S.eA, by repeat (first | exact Drawn0.refl _ | apply Drawn0.step)⟩

-- NOT PRINTED: function 119 (impl_Path)

/-! ### impl_FindPath: function 91 -/
theorem impl_FindPath.idx (p : S52 → Bool) (g : Nat) (lb : Array Value) (eg : ∀ args w, (callFunc g args).run Try.prog w = .ok (.enter g args) w) (A0 : Option Addr) (c0 : Nat) (l0 : List S52) (w : World)
  (hp : ∀ (W : World) (x : S52), Below w.heap.size w W → Calls Try.prog g (#[.agg #[.int .i64 x.f0, .int .i64 x.f1, .int .i64 x.f2, .int .i64 x.f3]] ++ lb) W fun e w' => e = .returned (.bool (p x)) ∧ Below w.heap.size w w')
  (hr0 : Kd.C k52 w A0 l0.length l0) (hc0 : l0.length ≤ c0) :
  Calls Try.prog 119 #[.slice A0 l0.length c0, .func (.func g) #[] lb] w fun e w' => e = .returned (.int .i64 (Go.Proofs.Ytopchlafmfgpnaa.Hnd.fidx p l0 0)) ∧ Below w.heap.size w w' := by
 have hbig : l0.length ≤ 9223372036854775807 := hr0.2.1; have HR0 := Aside0.mk hr0; have HP := Aside0.mk hp; clear hr0 hp; go_enter Try.func119, Try.ntmps119; go_wp2; go_loopg [5, 8] l0.length (fun gg _ s8 wr => ∃ kk : Nat, kk ≤ l0.length ∧ l0.length - kk ≤ gg ∧ s8 = .int .i64 kk ∧ Aside0 (Below w.heap.size w wr) ∧ Aside0 (Go.Proofs.Ytopchlafmfgpnaa.Hnd.fidx p l0 0 = Go.Proofs.Ytopchlafmfgpnaa.Hnd.fidx p (l0.drop kk) kk))
 case atStart => exact ⟨0, Nat.zero_le _, by omega, rfl, ⟨Below.refl _ w⟩, ⟨by simp⟩⟩
 case round =>
  obtain ⟨kk, hkk, hg, rfl, BW, A⟩ := hrel
  by_cases hlt : kk < l0.length
  ·have hltz : (kk : Int) < (l0.length : Int) := by omega
   obtain ⟨ad116, e116, hx0, hx1, hx2, hx3⟩ := at_T52 HR0.out (kk : Int) (by omega) hltz; cases e116; simp only [Int.toNat_natCast] at hx0 hx1 hx2 hx3; replace hx0 := (BW.out.cell (World.block_lt_of_cell? w _ hx0)).trans hx0; replace hx1 := (BW.out.cell (World.block_lt_of_cell? w _ hx1)).trans hx1; replace hx2 := (BW.out.cell (World.block_lt_of_cell? w _ hx2)).trans hx2; replace hx3 := (BW.out.cell (World.block_lt_of_cell? w _ hx3)).trans hx3; have hcall := HP.out wr (rd_T52 l0 (kk : Int)) BW.out; have hq0 : rd_T52 l0 (kk : Int) = l0[kk] := by simp [rd_T52, hlt]
   have E : Aside0 (Go.Proofs.Ytopchlafmfgpnaa.Hnd.fidx p l0 0 = if p (rd_T52 l0 (kk : Int)) = true then (kk : Int) else Go.Proofs.Ytopchlafmfgpnaa.Hnd.fidx p (l0.drop (kk + 1)) (kk + 1)) := ⟨by rw [A.out, List.drop_eq_getElem_cons hlt, hq0]; rfl⟩; clear A hq0; generalize rd_T52 l0 (kk : Int) = y at hx0 hx1 hx2 hx3 hcall E
   cases hq : p y with
   | true =>
    rw [hq] at hcall; go_wp2_with (fail); refine hcall.mono ?_; rintro e w' ⟨rfl, hb'⟩; clear hcall
    dsimp only
    go_wp2_with (fail); go_ret; exact ⟨by rw [E.out, if_pos hq]; rfl, hb'⟩
   | false =>
    rw [hq] at hcall; go_wp2_with (fail); refine hcall.mono ?_; rintro e w' ⟨rfl, hb'⟩; clear hcall
    dsimp only
    go_wp2_with (fail); go_roundg (l0.length - (kk + 1))
    case measure => omega
    case rel => exact ⟨kk + 1, by omega, by omega, by go_num, ⟨hb'⟩, ⟨by rw [E.out, hq]; rfl⟩⟩
  ·have hltz : ¬ (kk : Int) < (l0.length : Int) := by omega
   have hkn : kk = l0.length := by omega
   have E : Aside0 (Go.Proofs.Ytopchlafmfgpnaa.Hnd.fidx p l0 0 = -1) := ⟨by rw [A.out, hkn, List.drop_length]; rfl⟩; clear A; subst hkn; go_wp2; go_ret; exact ⟨by rw [E.out]; rfl, BW.out⟩

theorem impl_FindPath.pred (a1 : Int) (B0 : Nat) (w : World) (hB0 : B0 < w.heap.size) (hcB0 : w.cell? ⟨B0, 0, none⟩ = some (.int .i64 a1)) :
  ∀ (W : World) (x : S52), Below w.heap.size w W → Calls Try.prog 120 (#[.agg #[.int .i64 x.f0, .int .i64 x.f1, .int .i64 x.f2, .int .i64 x.f3]] ++ #[.pointer (some ⟨B0, 0, none⟩)]) W fun e w' => e = .returned (.bool (x.f0 == a1)) ∧ Below w.heap.size w w' := fun W x hb => by
 have cB0 : W.cell? ⟨B0, 0, none⟩ = some (.int .i64 a1) := (hb.cell (p := ⟨B0, 0, none⟩) hB0).trans hcB0; have lB0 : B0 < W.heap.size := Nat.lt_of_lt_of_le hB0 hb.size; have nB0 : B0 ≠ W.heap.size := by omega
 have hB2 := Aside0.mk hb; clear hb hcB0
 show Calls Try.prog 120 #[.agg #[.int .i64 x.f0, .int .i64 x.f1, .int .i64 x.f2, .int .i64 x.f3], .pointer (some ⟨B0, 0, none⟩)] W _
 go_enter Try.func120, Try.ntmps120; go_wp2; go_ret; exact ⟨by first | rfl | simp, hB2.out.alloc hB2.out.size _⟩
def impl_FindPath.f (l0 : List (S52)) (a1 : Int) : Option (Int) := some (Go.Proofs.Ytopchlafmfgpnaa.Hnd.fidx (fun x : S52 => x.f0 == a1) l0 0)
set_option maxHeartbeats 8000000 in
theorem impl_FindPath.calls (A0 : Option Addr) (c0 : Nat) (l0 : List (S52)) (a1 : Int) (r : Int) (w : World) (hr0 : Kd.C k52 w A0 l0.length l0) (hc0 : l0.length ≤ c0) (h : impl_FindPath.f l0 a1 = some r) :
  Calls Try.prog 91 #[.slice A0 l0.length c0, .int .i64 a1] w fun e w' => e = .returned (.int .i64 r) ∧ Below w.heap.size w w' := by
 obtain rfl := Option.some.inj h; clear h; have eg : ∀ args w, (callFunc 120 args).run Try.prog w = .ok (.enter 120 args) w := Go.Proofs.Ytopchlafmfgpnaa.Hnd.enters_fn Try.func120 (by kernel_rfl) rfl; have hB1 : Below w.heap.size w (w.alloc (.cells #[.int .i64 a1] 3)) := ((Below.refl _ w).alloc (Nat.le_refl _) _); have hcon := impl_FindPath.idx (fun x : S52 => x.f0 == a1) 120 #[.pointer (some ⟨w.heap.size, 0, none⟩)] eg A0 c0 l0 (w.alloc (.cells #[.int .i64 a1] 3)) (impl_FindPath.pred a1 w.heap.size _ (by simp) (by simp)) (Kd.C_below hr0 hB1) hc0; generalize Go.Proofs.Ytopchlafmfgpnaa.Hnd.fidx (fun x : S52 => x.f0 == a1) l0 0 = r at hcon ⊢; clear hr0 eg; have HB1 := Aside0.mk hB1; clear hB1; go_enter Try.func91, Try.ntmps91; go_wp2_with (fail); refine hcon.mono ?_; rintro e w' ⟨rfl, hb'⟩; clear hcon
 dsimp only
 go_wp2_with (fail); go_ret; exact ⟨rfl, HB1.out.trans (hb'.mono (by simp))⟩

/-! ### impl_InRange: function 96 -/
def impl_InRange.f (a0 : Int) (a1 : Int) (a2 : Int) : Option (Bool) := if a1 ≤ a0 then (some (decide (a0 ≤ a2))) else (some false)
theorem impl_InRange.calls (a0 : Int) (a1 : Int) (a2 : Int) (r : Bool) (w : World) (h : impl_InRange.f a0 a1 a2 = some r) :
  Calls Try.prog 96 #[.int .i64 a0, .int .i64 a1, .int .i64 a2] w fun e w' => e = .returned (.bool r) ∧ Drawn0 w w' := by
 have H : (if a1 ≤ a0 then (some (decide (a0 ≤ a2))) else (some false)) = some r := h; clear h; replace H := S.dc H; rcases H with ⟨H, c4b0⟩ | ⟨H, c4b0⟩
 ·obtain rfl := Option.some.inj H; go_enter Try.func96, Try.ntmps96; go_wp2; go_ret; exact ⟨S.eA, by repeat (first | exact Drawn0.refl _ | apply Drawn0.step)⟩
 ·obtain rfl := Option.some.inj H; go_enter Try.func96, Try.ntmps96; go_wp2; go_ret; exact ⟨S.eA, by repeat (first | exact Drawn0.refl _ | apply Drawn0.step)⟩

/-! ### impl_IsPath: function 122 -/
def impl_IsPath.f (a0_0 : Int) (a0_1 : Int) (a0_2 : Int) (a0_3 : Int) : Option (Bool) := (impl_InRange.f a0_0 1 20).bind fun t106 => (if t106 = true then ((impl_InRange.f a0_1 1 3).bind fun t107 => (if t107 = true then ((impl_InRange.f a0_2 0 3).bind fun t108 => (if t108 = true then ((impl_InRange.f a0_3 0 3).bind fun t109 => (if t109 = true then (some ((a0_2 == a0_3) == (a0_1 == 2))) else (some false))) else (some false))) else (some false))) else (some false))
theorem impl_IsPath.calls (a0_0 : Int) (a0_1 : Int) (a0_2 : Int) (a0_3 : Int) (r : Bool) (w : World) (h : impl_IsPath.f a0_0 a0_1 a0_2 a0_3 = some r) :
  Calls Try.prog 122 #[.agg #[.int .i64 a0_0, .int .i64 a0_1, .int .i64 a0_2, .int .i64 a0_3]] w fun e w' => e = .returned (.bool r) ∧ Below w.heap.size w w' := by
 have hu52 := Try.underlying52; have HB := Aside0.mk (Below.refl w.heap.size w); have H : ((impl_InRange.f a0_0 1 20).bind fun t106 => (if t106 = true then ((impl_InRange.f a0_1 1 3).bind fun t107 => (if t107 = true then ((impl_InRange.f a0_2 0 3).bind fun t108 => (if t108 = true then ((impl_InRange.f a0_3 0 3).bind fun t109 => (if t109 = true then (some ((a0_2 == a0_3) == (a0_1 == 2))) else (some false))) else (some false))) else (some false))) else (some false))) = some r := h; clear h; replace H := S.bd H; obtain ⟨t106, A2, H⟩ := H; (try dsimp only at H); replace H := S.db H; rcases H with ⟨rfl, H⟩ | ⟨rfl, H⟩
 ·replace H := S.bd H; obtain ⟨t107, A4, H⟩ := H; (try dsimp only at H); replace H := S.db H; rcases H with ⟨rfl, H⟩ | ⟨rfl, H⟩
  ·replace H := S.bd H; obtain ⟨t108, A6, H⟩ := H; (try dsimp only at H); replace H := S.db H; rcases H with ⟨rfl, H⟩ | ⟨rfl, H⟩
   ·replace H := S.bd H; obtain ⟨t109, A8, H⟩ := H; (try dsimp only at H); replace H := S.db H; rcases H with ⟨rfl, H⟩ | ⟨rfl, H⟩
    ·obtain rfl := Option.some.inj H; go_enter Try.func122, Try.ntmps122; go_wp2_with (first | ((with_reducible refine gate_dst (N := 1) rfl ?_); refine S.bx 1 (cs := #[.int .i64 a0_0, .int .i64 a0_1, .int .i64 a0_2, .int .i64 a0_3]) (t := 52) ?_; intro gb105 hg w10 hbox hb; have BK105 := Aside0.mk hbox; have GW105 := S.geA hg; have GE105 := S.geA hg; replace HB := S.sA hb; clear hb hbox hg; obtain ⟨Z11a, Z11b, Z11c, Z11d, Y11a, Y11b, Y11c, Y11d⟩ := S.c4 BK105.out) | ((with_reducible refine gate_callee (f := 96) rfl ?_); refine S.gL (some 5) Try.func96 #[.int .i64 a0_0, .int .i64 1, .int .i64 20] ?_; (with_reducible refine (impl_InRange.calls a0_0 1 20 true _ A2.out).mono ?_); rintro e w' ⟨rfl, ⟨nd, rfl⟩⟩; refine ⟨_, rfl, ?_⟩) | (go_at_call 96; (with_reducible refine (impl_InRange.calls a0_1 1 3 true _ A4.out).mono ?_); rintro e w' ⟨rfl, ⟨nd, rfl⟩⟩) | (go_at_call 96; (with_reducible refine (impl_InRange.calls a0_2 0 3 true _ A6.out).mono ?_); rintro e w' ⟨rfl, ⟨nd, rfl⟩⟩) | (go_at_call 96; (with_reducible refine (impl_InRange.calls a0_3 0 3 true _ A8.out).mono ?_); rintro e w' ⟨rfl, ⟨nd, rfl⟩⟩)); go_ret; exact ⟨S.eW, S.bG⟩
    ·obtain rfl := Option.some.inj H; go_enter Try.func122, Try.ntmps122; go_wp2_with (first | ((with_reducible refine gate_dst (N := 1) rfl ?_); refine S.bx 1 (cs := #[.int .i64 a0_0, .int .i64 a0_1, .int .i64 a0_2, .int .i64 a0_3]) (t := 52) ?_; intro gb105 hg w12 hbox hb; have BK105 := Aside0.mk hbox; have GW105 := S.geA hg; have GE105 := S.geA hg; replace HB := S.sA hb; clear hb hbox hg; obtain ⟨Z13a, Z13b, Z13c, Z13d, Y13a, Y13b, Y13c, Y13d⟩ := S.c4 BK105.out) | ((with_reducible refine gate_callee (f := 96) rfl ?_); refine S.gL (some 5) Try.func96 #[.int .i64 a0_0, .int .i64 1, .int .i64 20] ?_; (with_reducible refine (impl_InRange.calls a0_0 1 20 true _ A2.out).mono ?_); rintro e w' ⟨rfl, ⟨nd, rfl⟩⟩; refine ⟨_, rfl, ?_⟩) | (go_at_call 96; (with_reducible refine (impl_InRange.calls a0_1 1 3 true _ A4.out).mono ?_); rintro e w' ⟨rfl, ⟨nd, rfl⟩⟩) | (go_at_call 96; (with_reducible refine (impl_InRange.calls a0_2 0 3 true _ A6.out).mono ?_); rintro e w' ⟨rfl, ⟨nd, rfl⟩⟩) | (go_at_call 96; (with_reducible refine (impl_InRange.calls a0_3 0 3 false _ A8.out).mono ?_); rintro e w' ⟨rfl, ⟨nd, rfl⟩⟩)); go_ret; exact ⟨S.eW, S.bG⟩
   ·obtain rfl := Option.some.inj H; go_enter Try.func122, Try.ntmps122; go_wp2_with (first | ((with_reducible refine gate_dst (N := 1) rfl ?_); refine S.bx 1 (cs := #[.int .i64 a0_0, .int .i64 a0_1, .int .i64 a0_2, .int .i64 a0_3]) (t := 52) ?_; intro gb105 hg w14 hbox hb; have BK105 := Aside0.mk hbox; have GW105 := S.geA hg; have GE105 := S.geA hg; replace HB := S.sA hb; clear hb hbox hg; obtain ⟨Z15a, Z15b, Z15c, Z15d, Y15a, Y15b, Y15c, Y15d⟩ := S.c4 BK105.out) | ((with_reducible refine gate_callee (f := 96) rfl ?_); refine S.gL (some 5) Try.func96 #[.int .i64 a0_0, .int .i64 1, .int .i64 20] ?_; (with_reducible refine (impl_InRange.calls a0_0 1 20 true _ A2.out).mono ?_); rintro e w' ⟨rfl, ⟨nd, rfl⟩⟩; refine ⟨_, rfl, ?_⟩) | (go_at_call 96; (with_reducible refine (impl_InRange.calls a0_1 1 3 true _ A4.out).mono ?_); rintro e w' ⟨rfl, ⟨nd, rfl⟩⟩) | (go_at_call 96; (with_reducible refine (impl_InRange.calls a0_2 0 3 false _ A6.out).mono ?_); rintro e w' ⟨rfl, ⟨nd, rfl⟩⟩)); go_ret; exact ⟨S.eW, S.bG⟩
  ·obtain rfl := Option.some.inj H; go_enter Try.func122, Try.ntmps122; go_wp2_with (first | ((with_reducible refine gate_dst (N := 1) rfl ?_); refine S.bx 1 (cs := #[.int .i64 a0_0, .int .i64 a0_1, .int .i64 a0_2, .int .i64 a0_3]) (t := 52) ?_; intro gb105 hg w16 hbox hb; have BK105 := Aside0.mk hbox; have GW105 := S.geA hg; have GE105 := S.geA hg; replace HB := S.sA hb; clear hb hbox hg; obtain ⟨Z17a, Z17b, Z17c, Z17d, Y17a, Y17b, Y17c, Y17d⟩ := S.c4 BK105.out) | ((with_reducible refine gate_callee (f := 96) rfl ?_); refine S.gL (some 5) Try.func96 #[.int .i64 a0_0, .int .i64 1, .int .i64 20] ?_; (with_reducible refine (impl_InRange.calls a0_0 1 20 true _ A2.out).mono ?_); rintro e w' ⟨rfl, ⟨nd, rfl⟩⟩; refine ⟨_, rfl, ?_⟩) | (go_at_call 96; (with_reducible refine (impl_InRange.calls a0_1 1 3 false _ A4.out).mono ?_); rintro e w' ⟨rfl, ⟨nd, rfl⟩⟩)); go_ret; exact ⟨S.eW, S.bG⟩
 ·obtain rfl := Option.some.inj H; go_enter Try.func122, Try.ntmps122; go_wp2_with (first | ((with_reducible refine gate_dst (N := 1) rfl ?_); refine S.bx 1 (cs := #[.int .i64 a0_0, .int .i64 a0_1, .int .i64 a0_2, .int .i64 a0_3]) (t := 52) ?_; intro gb105 hg w18 hbox hb; have BK105 := Aside0.mk hbox; have GW105 := S.geA hg; have GE105 := S.geA hg; replace HB := S.sA hb; clear hb hbox hg; obtain ⟨Z19a, Z19b, Z19c, Z19d, Y19a, Y19b, Y19c, Y19d⟩ := S.c4 BK105.out) | ((with_reducible refine gate_callee (f := 96) rfl ?_); refine S.gL (some 5) Try.func96 #[.int .i64 a0_0, .int .i64 1, .int .i64 20] ?_; (with_reducible refine (impl_InRange.calls a0_0 1 20 false _ A2.out).mono ?_); rintro e w' ⟨rfl, ⟨nd, rfl⟩⟩; refine ⟨_, rfl, ?_⟩)); go_ret; exact ⟨S.eW, S.bG⟩
/-! ### impl_ArePaths: function 97 -/
def impl_ArePaths.l0 : Nat → List (S52) → List (S52) → Int → Int → Option (Bool)
 | 0, _, _, _, _ => none
 | k + 1, x0, x8, x9, x10 => if x10 < x9 then (if 0 ≤ x10 then (if x10 < (x8.length : Int) then ((impl_IsPath.f ((rd_T52 x8 x10).f0) ((rd_T52 x8 x10).f1) ((rd_T52 x8 x10).f2) ((rd_T52 x8 x10).f3)).bind fun t112 => (if t112 = true then (if x10 > 0 then (if 0 ≤ (wrap64 (x10 - 1)) then (if (wrap64 (x10 - 1)) < (x0.length : Int) then (if ((rd_T52 x8 x10).f0) ≤ ((rd_T52 x0 (wrap64 (x10 - 1))).f0) then (some false) else (impl_ArePaths.l0 k x0 x8 x9 (wrap64 (x10 + 1)))) else (none)) else (none)) else (impl_ArePaths.l0 k x0 x8 x9 (wrap64 (x10 + 1)))) else (some false))) else (none)) else (none)) else (some true)
def impl_ArePaths.f (k : Nat) (l0 : List (S52)) : Option (Bool) := if (l0.length : Int) > 12 then (some false) else (impl_ArePaths.l0 k l0 l0 (l0.length : Int) 0)
def impl_ArePaths.T6 : Bool × List (List Nat × List Nat) := (true, [([], []), ([0], [0]), ([1], [1]), ([2, 1], [2]), ([3], [3]), ([4, 3], [3, 4]), ([5, 3, 3], [3, 5]), ([6], [6]), ([7, 6], [6, 7]), ([6], [6]), ([6], [6]), ([10, 6], [6, 10]), ([9, 11, 6], [6, 9, 11]), ([12, 6], [6, 12]), ([13, 6], [6, 13]), ([8, 14, 6], [6, 8, 14]), ([6, 15, 3], [3, 6, 15]), ([3, 16], [3, 16])])
def impl_ArePaths.B6 : List Nat := [0, 1, 3, 7, 15, 31, 63, 127, 255, 127, 127, 1151, 3711, 7807, 15999, 32767, 65535, 131071]
theorem impl_ArePaths.tab6 : rtab .any (opsOf Try.f97 6) = impl_ArePaths.T6 := by kernel_rfl
theorem impl_ArePaths.bits6 : waitsOk impl_ArePaths.T6.2 impl_ArePaths.B6 = true := by kernel_rfl
theorem impl_ArePaths.calls (k : Nat) (A0 : Option Addr) (c0 : Nat) (l0 : List (S52)) (r : Bool) (w : World) (hr0 : Kd.C k52 w A0 l0.length l0) (hc0 : l0.length ≤ c0) (h : impl_ArePaths.f k l0 = some r) :
  Calls Try.prog 97 #[.slice A0 l0.length c0] w fun e w' => e = .returned (.bool r) ∧ Below w.heap.size w w' := by
 have hu52 := Try.underlying52; have HR0 := Aside0.mk hr0; have HC0 := Aside0.mk hc0; clear hr0 hc0; have HB := Aside0.mk (Below.refl w.heap.size w); have H : (if (l0.length : Int) > 12 then (some false) else (impl_ArePaths.l0 k l0 l0 (l0.length : Int) 0)) = some r := h; clear h
 by_cases c2 : (l0.length : Int) > 12
 ·rw [if_pos c2] at H; have c2b0 : decide (12 < (l0.length : Int)) = true := decide_eq_true c2; have c2b1 : decide (12 < l0.length) = true := decide_eq_true (by omega); clear c2; obtain rfl := Option.some.inj H; go_enter Try.func97, Try.ntmps97; go_wp2; go_ret; exact ⟨S.eW, S.bA⟩
 ·rw [if_neg c2] at H; have c2b0 : decide (12 < (l0.length : Int)) = false := decide_eq_false c2; have c2b1 : decide (12 < l0.length) = false := decide_eq_false (by omega); clear c2; have H' := Aside0.mk H; clear H; go_enter Try.func97, Try.ntmps97; go_wp2; go_loopg [10] k (fun kq v10 w' => ∃ (x10_1 : Int), v10 = .int .i64 x10_1 ∧ Aside0 (impl_ArePaths.l0 kq l0 l0 (l0.length : Int) x10_1 = some r) ∧ Aside0 (kq ≤ k) ∧ Aside0 (Below w.heap.size w w'))
  case atStart => exact ⟨(0), S.eA, H', ⟨Nat.le_refl _⟩, ⟨S.bA⟩⟩
  case round =>
   clear H'; try clear c2
   try clear c2b0
   try clear c2b1
   obtain ⟨x10_1, rfl, HA, HK1, HB⟩ := hrel
   cases gk with
   | zero => exact absurd HA.out (by simp [impl_ArePaths.l0])
   | succ k1 =>
    have H := HA.out; clear HA; simp only [impl_ArePaths.l0] at H; replace H := S.dc H; rcases H with ⟨H, c3b0⟩ | ⟨H, c3b0⟩
    ·by_cases c4 : 0 ≤ x10_1
     ·rw [if_pos c4] at H; have c4b0 : decide (0 ≤ x10_1) = true := decide_eq_true c4; clear c4
      by_cases c5 : x10_1 < (l0.length : Int)
      ·rw [if_pos c5] at H; have c5b0 : decide (x10_1 < (l0.length : Int)) = true := decide_eq_true c5; clear c5; replace H := S.bd H; obtain ⟨t112, A6, H⟩ := H; (try dsimp only at H); replace H := S.db H; rcases H with ⟨rfl, H⟩ | ⟨rfl, H⟩
       ·by_cases c8 : x10_1 > 0
        ·rw [if_pos c8] at H; have c8b0 : decide (0 < x10_1) = true := decide_eq_true c8; clear c8; obtain ⟨ji9, hji9⟩ : ∃ j_ : Int, (wrap64 (x10_1 - 1)) = j_ := ⟨_, rfl⟩; replace H : (if 0 ≤ (ji9) then (if (ji9) < (l0.length : Int) then (if ((rd_T52 l0 x10_1).f0) ≤ ((rd_T52 l0 (ji9)).f0) then (some false) else (impl_ArePaths.l0 k1 l0 l0 (l0.length : Int) (wrap64 (x10_1 + 1)))) else (none)) else (none)) = some r := by first | (rw [hji9] at H; exact H) | (simp only [hji9] at H ⊢; exact H)
         (try rw [hji9] at A6); have hji9w : (IntKind.i64.wrap (x10_1 - 1)) = ji9 := (i64_w _).trans hji9
         by_cases c10 : 0 ≤ (ji9)
         ·rw [if_pos c10] at H; have c10b0 : decide (0 ≤ (ji9)) = true := decide_eq_true c10; clear c10
          by_cases c11 : (ji9) < (l0.length : Int)
          ·rw [if_pos c11] at H; have c11b0 : decide ((ji9) < (l0.length : Int)) = true := decide_eq_true c11; clear c11; replace H := S.dc H; rcases H with ⟨H, c12b0⟩ | ⟨H, c12b0⟩
           ·obtain rfl := Option.some.inj H; have p110 : 0 ≤ (x10_1 : Int) := S.oD; have q110 : x10_1 < (l0.length : Int) := S.oD; obtain ⟨ad110, e110, hx110_0, hx110_1, hx110_2, hx110_3⟩ := at_T52 HR0.out x10_1 p110 q110; cases e110; replace hx110_0 := S.hb HB hx110_0; replace hx110_1 := S.hb HB hx110_1; replace hx110_2 := S.hb HB hx110_2; replace hx110_3 := S.hb HB hx110_3; replace p110 := eq_true p110; replace q110 := eq_true q110
            try go_wp2_with (first | ((with_reducible refine gate_dst (N := 4) rfl ?_); refine S.bx 4 (cs := #[.int .i64 0, .int .i64 0, .int .i64 0, .int .i64 0]) (t := 52) ?_; intro gb111 hg w13 hbox hb; have BK111 := Aside0.mk hbox; have GW111 := S.geA hg; have GE111 := S.geA hg; replace HB := S.sA hb; clear hb hbox hg; obtain ⟨Z14a, Z14b, Z14c, Z14d, Y14a, Y14b, Y14c, Y14d⟩ := S.c4 BK111.out))
            generalize hq_ : ((((w13.setCell ⟨gb111, 0, none⟩ (.int .i64 ((rd_T52 l0 x10_1).f0))).setCell ⟨gb111, 1, none⟩ (.int .i64 ((rd_T52 l0 x10_1).f1))).setCell ⟨gb111, 2, none⟩ (.int .i64 ((rd_T52 l0 x10_1).f2))).setCell ⟨gb111, 3, none⟩ (.int .i64 ((rd_T52 l0 x10_1).f3))) = w15; replace BK111 := S.p4 hq_ BK111; replace HB := S.bQ hq_; clear hq_; replace BK111 := Aside0.mk (blk_drew BK111.out); replace HB := Aside0.mk (below_drew1 HB.out); have p113 : 0 ≤ ((ji9) : Int) := S.oD; have q113 : (ji9) < (l0.length : Int) := S.oD; obtain ⟨ad113, e113, hx113_0, hx113_1, hx113_2, hx113_3⟩ := at_T52 HR0.out (ji9) p113 q113; have hw113_3 := hx113_3; have hw113_2 := hx113_2; have hw113_1 := hx113_1; have hw113_0 := hx113_0; obtain rfl : ad110 = ad113 := (by injection e113); replace hx113_0 := S.hb HB hx113_0; replace hx113_1 := S.hb HB hx113_1; replace hx113_2 := S.hb HB hx113_2; replace hx113_3 := S.hb HB hx113_3; replace p113 := eq_true p113; replace q113 := eq_true q113; refine S.st (n := 18) (ds := []) #[false, false, false, false, false, false, false, false, false, false, false, false, false, false, false, false, false, false] (fun w_ h_ => have x_ := S.d4 (S.Q h_ BK111.out) (And.intro (S.q h_ (S.hb HB hw113_0)) (And.intro (S.q h_ (S.hb HB hw113_1)) (And.intro (S.q h_ (S.hb HB hw113_2)) (S.q h_ (S.hb HB hw113_3))))); x_) (fun hHeld => ?_); refine with_tabW impl_ArePaths.tab6 impl_ArePaths.bits6 (fun HT_ HW_ => ?_); generalize w15.drew = w16 at BK111 HB hx113_0 hx113_1 hx113_2 hx113_3 hHeld ⊢; refine S.tK 0 15 #[true, false, false, false, false, false, false, false, false, false, false, false, false, false, false, false, false, false] ?_; refine S.oN 1 16 #[true, true, false, false, false, false, false, false, false, false, false, false, false, false, false, false, false, false] (fun K hK => ?_); refine S.go Try.func122 #[.agg #[.int .i64 ((rd_T52 l0 x10_1).f0), .int .i64 ((rd_T52 l0 x10_1).f1), .int .i64 ((rd_T52 l0 x10_1).f2), .int .i64 ((rd_T52 l0 x10_1).f3)]] ?_
            with_reducible refine (impl_IsPath.calls ((rd_T52 l0 x10_1).f0) ((rd_T52 l0 x10_1).f1) ((rd_T52 l0 x10_1).f2) ((rd_T52 l0 x10_1).f3) true _ A6.out).mono ?_
            rintro e w17 ⟨rfl, hb⟩; refine ⟨_, rfl, ?_⟩; replace BK111 := S.kb BK111 hb; replace HB := S.sG hb; (try clear hb); (try clear hb2); (try clear hk); (try clear hi); refine hK.out _ _ (S.d4 BK111.out (And.intro ((S.hb HB hw113_0 :)) (And.intro ((S.hb HB hw113_1 :)) (And.intro ((S.hb HB hw113_2 :)) ((S.hb HB hw113_3 :)))))) (fun hHeld => ?_); clear hK K; refine S.nm 16 ?_; refine S.pS 2 17 ?_; refine S.pS 3 18 ?_; refine S.pS 4 19 ?_; refine S.pS 5 20 ?_; refine S.pS 6 21 ?_; refine S.pS 7 22 ?_; refine S.pS 9 24 ?_; refine S.pS 10 25 ?_; refine S.pS 11 26 ?_; refine S.pS 12 27 ?_; refine S.pS 13 28 ?_; refine S.tK 8 23 #[true, true, true, true, true, true, true, true, true, true, true, true, true, true, false, false, false, false] ?_; refine S.tK 14 29 #[true, true, true, true, true, true, true, true, true, true, true, true, true, true, true, false, false, false] ?_; refine S.pS 15 30 ?_; refine S.pS 16 31 ?_; refine S.pS 17 32 ?_; refine done_ (done_of HT_.out (by kernel_rfl)) ?_; try go_wp2
            go_ret; exact ⟨by first | rfl | (simp [errW_none, errW_some] <;> rfl) | (simp only [← hji9]; first | rfl | (simp [errW_none, errW_some] <;> rfl)) | (simp [*, errW_none, errW_some] <;> rfl), S.bG⟩
           ·have H' := Aside0.mk H; clear H; have p110 : 0 ≤ (x10_1 : Int) := S.oD; have q110 : x10_1 < (l0.length : Int) := S.oD; obtain ⟨ad110, e110, hx110_0, hx110_1, hx110_2, hx110_3⟩ := at_T52 HR0.out x10_1 p110 q110; cases e110; replace hx110_0 := S.hb HB hx110_0; replace hx110_1 := S.hb HB hx110_1; replace hx110_2 := S.hb HB hx110_2; replace hx110_3 := S.hb HB hx110_3; replace p110 := eq_true p110; replace q110 := eq_true q110
            try go_wp2_with (first | ((with_reducible refine gate_dst (N := 4) rfl ?_); refine S.bx 4 (cs := #[.int .i64 0, .int .i64 0, .int .i64 0, .int .i64 0]) (t := 52) ?_; intro gb111 hg w18 hbox hb; have BK111 := Aside0.mk hbox; have GW111 := S.geA hg; have GE111 := S.geA hg; replace HB := S.sA hb; clear hb hbox hg; obtain ⟨Z19a, Z19b, Z19c, Z19d, Y19a, Y19b, Y19c, Y19d⟩ := S.c4 BK111.out))
            generalize hq_ : ((((w18.setCell ⟨gb111, 0, none⟩ (.int .i64 ((rd_T52 l0 x10_1).f0))).setCell ⟨gb111, 1, none⟩ (.int .i64 ((rd_T52 l0 x10_1).f1))).setCell ⟨gb111, 2, none⟩ (.int .i64 ((rd_T52 l0 x10_1).f2))).setCell ⟨gb111, 3, none⟩ (.int .i64 ((rd_T52 l0 x10_1).f3))) = w20; replace BK111 := S.p4 hq_ BK111; replace HB := S.bQ hq_; clear hq_; replace BK111 := Aside0.mk (blk_drew BK111.out); replace HB := Aside0.mk (below_drew1 HB.out); have p113 : 0 ≤ ((ji9) : Int) := S.oD; have q113 : (ji9) < (l0.length : Int) := S.oD; obtain ⟨ad113, e113, hx113_0, hx113_1, hx113_2, hx113_3⟩ := at_T52 HR0.out (ji9) p113 q113; have hw113_3 := hx113_3; have hw113_2 := hx113_2; have hw113_1 := hx113_1; have hw113_0 := hx113_0; obtain rfl : ad110 = ad113 := (by injection e113); replace hx113_0 := S.hb HB hx113_0; replace hx113_1 := S.hb HB hx113_1; replace hx113_2 := S.hb HB hx113_2; replace hx113_3 := S.hb HB hx113_3; replace p113 := eq_true p113; replace q113 := eq_true q113; refine S.st (n := 18) (ds := []) #[false, false, false, false, false, false, false, false, false, false, false, false, false, false, false, false, false, false] (fun w_ h_ => have x_ := S.d4 (S.Q h_ BK111.out) (And.intro (S.q h_ (S.hb HB hw113_0)) (And.intro (S.q h_ (S.hb HB hw113_1)) (And.intro (S.q h_ (S.hb HB hw113_2)) (S.q h_ (S.hb HB hw113_3))))); x_) (fun hHeld => ?_); refine with_tabW impl_ArePaths.tab6 impl_ArePaths.bits6 (fun HT_ HW_ => ?_); generalize w20.drew = w21 at BK111 HB hx113_0 hx113_1 hx113_2 hx113_3 hHeld ⊢; refine S.tK 0 15 #[true, false, false, false, false, false, false, false, false, false, false, false, false, false, false, false, false, false] ?_; refine S.oN 1 16 #[true, true, false, false, false, false, false, false, false, false, false, false, false, false, false, false, false, false] (fun K hK => ?_); refine S.go Try.func122 #[.agg #[.int .i64 ((rd_T52 l0 x10_1).f0), .int .i64 ((rd_T52 l0 x10_1).f1), .int .i64 ((rd_T52 l0 x10_1).f2), .int .i64 ((rd_T52 l0 x10_1).f3)]] ?_
            with_reducible refine (impl_IsPath.calls ((rd_T52 l0 x10_1).f0) ((rd_T52 l0 x10_1).f1) ((rd_T52 l0 x10_1).f2) ((rd_T52 l0 x10_1).f3) true _ A6.out).mono ?_
            rintro e w22 ⟨rfl, hb⟩; refine ⟨_, rfl, ?_⟩; replace BK111 := S.kb BK111 hb; replace HB := S.sG hb; (try clear hb); (try clear hb2); (try clear hk); (try clear hi); refine hK.out _ _ (S.d4 BK111.out (And.intro ((S.hb HB hw113_0 :)) (And.intro ((S.hb HB hw113_1 :)) (And.intro ((S.hb HB hw113_2 :)) ((S.hb HB hw113_3 :)))))) (fun hHeld => ?_); clear hK K; refine S.nm 16 ?_; refine S.pS 2 17 ?_; refine S.pS 3 18 ?_; refine S.pS 4 19 ?_; refine S.pS 5 20 ?_; refine S.pS 6 21 ?_; refine S.pS 7 22 ?_; refine S.pS 9 24 ?_; refine S.pS 10 25 ?_; refine S.pS 11 26 ?_; refine S.pS 12 27 ?_; refine S.pS 13 28 ?_; refine S.tK 8 23 #[true, true, true, true, true, true, true, true, true, true, true, true, true, true, false, false, false, false] ?_; refine S.tK 14 29 #[true, true, true, true, true, true, true, true, true, true, true, true, true, true, true, false, false, false] ?_; refine S.pS 15 30 ?_; refine S.pS 16 31 ?_; refine S.pS 17 32 ?_; refine done_ (done_of HT_.out (by kernel_rfl)) ?_; try go_wp2
            go_roundg k1
            case measure => have := HK1.out; omega
            case rel => exact ⟨(wrap64 (x10_1 + 1)), S.eA, H', ⟨by have := HK1.out; omega⟩, ⟨S.bG⟩⟩
          ·rw [if_neg c11] at H; exact absurd H (by simp)
         ·rw [if_neg c10] at H; exact absurd H (by simp)
        ·rw [if_neg c8] at H; have c8b0 : decide (0 < x10_1) = false := decide_eq_false c8; clear c8; have H' := Aside0.mk H; clear H; have p110 : 0 ≤ (x10_1 : Int) := S.oD; have q110 : x10_1 < (l0.length : Int) := S.oD; obtain ⟨ad110, e110, hx110_0, hx110_1, hx110_2, hx110_3⟩ := at_T52 HR0.out x10_1 p110 q110; cases e110; replace hx110_0 := S.hb HB hx110_0; replace hx110_1 := S.hb HB hx110_1; replace hx110_2 := S.hb HB hx110_2; replace hx110_3 := S.hb HB hx110_3; replace p110 := eq_true p110; replace q110 := eq_true q110
         try go_wp2_with (first | ((with_reducible refine gate_dst (N := 4) rfl ?_); refine S.bx 4 (cs := #[.int .i64 0, .int .i64 0, .int .i64 0, .int .i64 0]) (t := 52) ?_; intro gb111 hg w23 hbox hb; have BK111 := Aside0.mk hbox; have GW111 := S.geA hg; have GE111 := S.geA hg; replace HB := S.sA hb; clear hb hbox hg; obtain ⟨Z24a, Z24b, Z24c, Z24d, Y24a, Y24b, Y24c, Y24d⟩ := S.c4 BK111.out))
         generalize hq_ : ((((w23.setCell ⟨gb111, 0, none⟩ (.int .i64 ((rd_T52 l0 x10_1).f0))).setCell ⟨gb111, 1, none⟩ (.int .i64 ((rd_T52 l0 x10_1).f1))).setCell ⟨gb111, 2, none⟩ (.int .i64 ((rd_T52 l0 x10_1).f2))).setCell ⟨gb111, 3, none⟩ (.int .i64 ((rd_T52 l0 x10_1).f3))) = w25; replace BK111 := S.p4 hq_ BK111; replace HB := S.bQ hq_; clear hq_; replace BK111 := Aside0.mk (blk_drew BK111.out); replace HB := Aside0.mk (below_drew1 HB.out); refine S.st (n := 18) (ds := []) #[false, false, false, false, false, false, false, false, false, false, false, false, false, false, false, false, false, false] (fun w_ h_ => have x_ := S.e4 (S.Q h_ BK111.out); x_) (fun hHeld => ?_); refine with_tabW impl_ArePaths.tab6 impl_ArePaths.bits6 (fun HT_ HW_ => ?_); generalize w25.drew = w26 at BK111 HB hHeld ⊢; refine S.tK 0 15 #[true, false, false, false, false, false, false, false, false, false, false, false, false, false, false, false, false, false] ?_; refine S.oN 1 16 #[true, true, false, false, false, false, false, false, false, false, false, false, false, false, false, false, false, false] (fun K hK => ?_); refine S.go Try.func122 #[.agg #[.int .i64 ((rd_T52 l0 x10_1).f0), .int .i64 ((rd_T52 l0 x10_1).f1), .int .i64 ((rd_T52 l0 x10_1).f2), .int .i64 ((rd_T52 l0 x10_1).f3)]] ?_
         with_reducible refine (impl_IsPath.calls ((rd_T52 l0 x10_1).f0) ((rd_T52 l0 x10_1).f1) ((rd_T52 l0 x10_1).f2) ((rd_T52 l0 x10_1).f3) true _ A6.out).mono ?_
         rintro e w27 ⟨rfl, hb⟩; refine ⟨_, rfl, ?_⟩; replace BK111 := S.kb BK111 hb; replace HB := S.sG hb; (try clear hb); (try clear hb2); (try clear hk); (try clear hi); refine hK.out _ _ (S.e4 BK111.out) (fun hHeld => ?_); clear hK K; refine S.nm 16 ?_; refine S.pS 2 17 ?_; refine S.pS 3 18 ?_; refine S.pS 4 19 ?_; refine S.pS 5 20 ?_; refine S.pS 6 21 ?_; refine S.pU 7 22 ?_; refine S.pU 8 23 ?_; refine S.pU 9 24 ?_; refine S.pU 10 25 ?_; refine S.pU 11 26 ?_; refine S.pU 12 27 ?_; refine S.pU 13 28 ?_; refine S.pU 14 29 ?_; refine S.pU 15 30 ?_; refine S.pS 16 31 ?_; refine S.pS 17 32 ?_; refine done_ (done_of HT_.out (by kernel_rfl)) ?_; try go_wp2
         go_roundg k1
         case measure => have := HK1.out; omega
         case rel => exact ⟨(wrap64 (x10_1 + 1)), S.eA, H', ⟨by have := HK1.out; omega⟩, ⟨S.bG⟩⟩
       ·obtain rfl := Option.some.inj H; have p110 : 0 ≤ (x10_1 : Int) := S.oD; have q110 : x10_1 < (l0.length : Int) := S.oD; obtain ⟨ad110, e110, hx110_0, hx110_1, hx110_2, hx110_3⟩ := at_T52 HR0.out x10_1 p110 q110; cases e110; replace hx110_0 := S.hb HB hx110_0; replace hx110_1 := S.hb HB hx110_1; replace hx110_2 := S.hb HB hx110_2; replace hx110_3 := S.hb HB hx110_3; replace p110 := eq_true p110; replace q110 := eq_true q110
        try go_wp2_with (first | ((with_reducible refine gate_dst (N := 4) rfl ?_); refine S.bx 4 (cs := #[.int .i64 0, .int .i64 0, .int .i64 0, .int .i64 0]) (t := 52) ?_; intro gb111 hg w28 hbox hb; have BK111 := Aside0.mk hbox; have GW111 := S.geA hg; have GE111 := S.geA hg; replace HB := S.sA hb; clear hb hbox hg; obtain ⟨Z29a, Z29b, Z29c, Z29d, Y29a, Y29b, Y29c, Y29d⟩ := S.c4 BK111.out))
        generalize hq_ : ((((w28.setCell ⟨gb111, 0, none⟩ (.int .i64 ((rd_T52 l0 x10_1).f0))).setCell ⟨gb111, 1, none⟩ (.int .i64 ((rd_T52 l0 x10_1).f1))).setCell ⟨gb111, 2, none⟩ (.int .i64 ((rd_T52 l0 x10_1).f2))).setCell ⟨gb111, 3, none⟩ (.int .i64 ((rd_T52 l0 x10_1).f3))) = w30; replace BK111 := S.p4 hq_ BK111; replace HB := S.bQ hq_; clear hq_; replace BK111 := Aside0.mk (blk_drew BK111.out); replace HB := Aside0.mk (below_drew1 HB.out); refine S.st (n := 18) (ds := []) #[false, false, false, false, false, false, false, false, false, false, false, false, false, false, false, false, false, false] (fun w_ h_ => have x_ := S.e4 (S.Q h_ BK111.out); x_) (fun hHeld => ?_); refine with_tabW impl_ArePaths.tab6 impl_ArePaths.bits6 (fun HT_ HW_ => ?_); generalize w30.drew = w31 at BK111 HB hHeld ⊢; refine S.tK 0 15 #[true, false, false, false, false, false, false, false, false, false, false, false, false, false, false, false, false, false] ?_; refine S.oN 1 16 #[true, true, false, false, false, false, false, false, false, false, false, false, false, false, false, false, false, false] (fun K hK => ?_); refine S.go Try.func122 #[.agg #[.int .i64 ((rd_T52 l0 x10_1).f0), .int .i64 ((rd_T52 l0 x10_1).f1), .int .i64 ((rd_T52 l0 x10_1).f2), .int .i64 ((rd_T52 l0 x10_1).f3)]] ?_
        with_reducible refine (impl_IsPath.calls ((rd_T52 l0 x10_1).f0) ((rd_T52 l0 x10_1).f1) ((rd_T52 l0 x10_1).f2) ((rd_T52 l0 x10_1).f3) false _ A6.out).mono ?_
        rintro e w32 ⟨rfl, hb⟩; refine ⟨_, rfl, ?_⟩; replace BK111 := S.kb BK111 hb; replace HB := S.sG hb; (try clear hb); (try clear hb2); (try clear hk); (try clear hi); refine hK.out _ _ (S.e4 BK111.out) (fun hHeld => ?_); clear hK K; refine S.nm 16 ?_; refine S.pS 2 17 ?_; refine S.pS 3 18 ?_; refine S.pU 4 19 ?_; refine S.pU 5 20 ?_; refine S.pU 6 21 ?_; refine S.pU 7 22 ?_; refine S.pU 8 23 ?_; refine S.pU 9 24 ?_; refine S.pU 10 25 ?_; refine S.pU 11 26 ?_; refine S.pU 12 27 ?_; refine S.pU 13 28 ?_; refine S.pU 14 29 ?_; refine S.pU 15 30 ?_; refine S.pU 16 31 ?_; refine S.pS 17 32 ?_; refine done_ (done_of HT_.out (by kernel_rfl)) ?_; try go_wp2
        go_ret; exact ⟨S.eW, S.bG⟩
      ·rw [if_neg c5] at H; exact absurd H (by simp)
     ·rw [if_neg c4] at H; exact absurd H (by simp)
    ·obtain rfl := Option.some.inj H; go_wp2; go_ret; exact ⟨S.eW, S.bA⟩
/-! ### impl_Interleave: function 123 -/
def impl_Interleave.l0 : Nat → Int → Int → Int → Int → List Int → Int → Int → Option (Bool)
 | 0, _, _, _, _, _, _, _ => none
 | k + 1, x0, x1, x2, x3, x16, x17, x18 => if x18 < x17 then (if 0 ≤ x18 then (if x18 < (x16.length : Int) then ((impl_InRange.f (rd x16 x18) 0 7).bind fun t118 => (if t118 = true then (impl_Interleave.l0 k x0 x1 x2 x3 x16 x17 (wrap64 (x18 + 1))) else (some false))) else (none)) else (none)) else (if x0 = x1 then (some false) else (if x0 = x2 then (some false) else (if x0 = x3 then (some false) else (if x1 = x2 then (some false) else (if x1 = x3 then (some false) else (if x2 = x3 then (some false) else (some ((decide ((Int.tmod (wrap64 ((wrap64 (x2 - x0)) + 8)) 8) < (Int.tmod (wrap64 ((wrap64 (x1 - x0)) + 8)) 8))) != (decide ((Int.tmod (wrap64 ((wrap64 (x3 - x0)) + 8)) 8) < (Int.tmod (wrap64 ((wrap64 (x1 - x0)) + 8)) 8)))))))))))
def impl_Interleave.f (k : Nat) (a0 : Int) (a1 : Int) (a2 : Int) (a3 : Int) : Option (Bool) := (some (([a0, a1, a2, a3] : List Int) : List Int)).bind fun y114 => (impl_Interleave.l0 k a0 a1 a2 a3 y114 (y114.length : Int) 0)
theorem impl_Interleave.mono_l : ∀ k, (∀ y0 y1 y2 y3 y4 y5 y6, LeO (impl_Interleave.l0 k y0 y1 y2 y3 y4 y5 y6) (impl_Interleave.l0 (k + 1) y0 y1 y2 y3 y4 y5 y6))
 | 0 => fun _ _ _ _ _ _ _ r h => by simp [impl_Interleave.l0] at h
 | k + 1 => by
  have ih0 := impl_Interleave.mono_l k
  ·intro y0 y1 y2 y3 y4 y5 y6
   unfold impl_Interleave.l0
   repeat' first
   | (with_reducible exact ih0 _ _ _ _ _ _ _)
   | (with_reducible exact LeO.refl _)
   | (with_reducible exact LeO.none _)
   | (with_reducible refine LeO.ite ?_ ?_)
   | (with_reducible refine LeO.bind ?_ (fun _ => ?_))
   | exact ih0 _ _ _ _ _ _ _
   | exact LeO.none _
   | refine LeO.ite ?_ ?_
   | refine LeO.bind ?_ (fun _ => ?_)
theorem impl_Interleave.mono : ∀ a0 a1 a2 a3 k, LeO (impl_Interleave.f k a0 a1 a2 a3) (impl_Interleave.f (k + 1) a0 a1 a2 a3) := by
 intro a0 a1 a2 a3 k; have ih0 := impl_Interleave.mono_l k
 unfold impl_Interleave.f
 repeat' first
   | (with_reducible exact ih0 _ _ _ _ _ _ _)
   | (with_reducible exact LeO.refl _)
   | (with_reducible exact LeO.none _)
   | (with_reducible refine LeO.ite ?_ ?_)
   | (with_reducible refine LeO.bind ?_ (fun _ => ?_))
   | exact ih0 _ _ _ _ _ _ _
   | exact LeO.none _
   | refine LeO.ite ?_ ?_
   | refine LeO.bind ?_ (fun _ => ?_)
theorem impl_Interleave.calls (k : Nat) (a0 : Int) (a1 : Int) (a2 : Int) (a3 : Int) (r : Bool) (w : World) (h : impl_Interleave.f k a0 a1 a2 a3 = some r) :
  Calls Try.prog 123 #[.int .i64 a0, .int .i64 a1, .int .i64 a2, .int .i64 a3] w fun e w' => e = .returned (.bool r) ∧ Below w.heap.size w w' := by
 have HB := Aside0.mk (Below.refl w.heap.size w); have H : ((some (([a0, a1, a2, a3] : List Int) : List Int)).bind fun y114 => (impl_Interleave.l0 k a0 a1 a2 a3 y114 (y114.length : Int) 0)) = some r := h; clear h; obtain ⟨y114, hy114⟩ : ∃ y_ : List Int, y_ = (([a0, a1, a2, a3] : List Int)) := ⟨_, rfl⟩; have hY_ := hy114; replace H : (impl_Interleave.l0 k a0 a1 a2 a3 y114 (y114.length : Int) 0) = some r := S.rh; clear hY_; have Ny114 := Aside0.mk hy114; clear hy114; have H' := Aside0.mk H; clear H; go_enter Try.func123, Try.ntmps123; go_wp2_with (first | ((with_reducible refine gate_dst (N := 16) rfl ?_); refine Kd.R_lit (Kd.int .i64) _ 3 ?hg (N := 16) ?hd (xs := ([a0, a1, a2, a3] : List Int)) (inner := [.int .i64 a0, .int .i64 a1, .int .i64 a2, .int .i64 a3]) (ok := fun _ => True) (okp := fun _ => True) ?hr ?hp (fun _ hk => hk) trivial (Below.refl _ _) (Nat.le_refl _) (by simp) ?_; (case hd => rfl); (case hg => rfl); (case hr => first | (go_simp; done) | (go_simp; rfl)); (case hp => exact (Reps.one (show Kd.M (Kd.int .i64) _ _ _ a0 [.int .i64 a0] from rfl) (Reps.one (show Kd.M (Kd.int .i64) _ _ _ a1 [.int .i64 a1] from rfl) (Reps.one (show Kd.M (Kd.int .i64) _ _ _ a2 [.int .i64 a2] from rfl) (Reps.one (show Kd.M (Kd.int .i64) _ _ _ a3 [.int .i64 a3] from rfl) (Reps.none _ _)))))); intro v115 w5 ho6 hb hg_ hnew_; clear hg_ hnew_; (first | rw [← Ny114.out] at ho6 | (simp only [Int.reduceToNat] at ho6; rw [← Ny114.out] at ho6)); have HO116 := S.lwA ho6; replace HB := S.sA hb; clear hb ho6; obtain ⟨Ao7, co7, eo7⟩ := Kd.R_slice HO116.out; subst eo7)); go_loopg [18] k (fun kq v18 w' => ∃ (x18_1 : Int), v18 = .int .i64 x18_1 ∧ Aside0 (impl_Interleave.l0 kq a0 a1 a2 a3 y114 (y114.length : Int) x18_1 = some r) ∧ Aside0 (kq ≤ k) ∧ Aside0 (Kd.R (Kd.int .i64) 3 w' w.heap.size (fun _ => True) (.slice Ao7 y114.length co7) y114) ∧ Aside0 (Below w.heap.size w w'))
 case atStart => exact ⟨(0), S.eA, H', ⟨Nat.le_refl _⟩, ⟨S.uR HO116.out⟩, ⟨S.bA⟩⟩
 case round =>
  clear H'; obtain ⟨x18_1, rfl, HA, HK1, HO_16, HB⟩ := hrel
  cases gk with
  | zero => exact absurd HA.out (by simp [impl_Interleave.l0])
  | succ k1 =>
   have H := HA.out; clear HA; simp only [impl_Interleave.l0] at H; replace H := S.dc H; rcases H with ⟨H, c8b0⟩ | ⟨H, c8b0⟩
   ·by_cases c9 : 0 ≤ x18_1
    ·rw [if_pos c9] at H; have c9b0 : decide (0 ≤ x18_1) = true := decide_eq_true c9; clear c9
     by_cases c10 : x18_1 < (y114.length : Int)
     ·rw [if_pos c10] at H; have c10b0 : decide (x18_1 < (y114.length : Int)) = true := decide_eq_true c10; clear c10; replace H := S.bd H; obtain ⟨t118, A11, H⟩ := H; (try dsimp only at H); replace H := S.db H; rcases H with ⟨rfl, H⟩ | ⟨rfl, H⟩
      ·have H' := Aside0.mk H; clear H; have p117 : 0 ≤ (x18_1 : Int) := S.oD; have q117 : x18_1 < (y114.length : Int) := S.oD; obtain ⟨ad117, e117, hx117_0⟩ := Kd.at_int (Kd.R_reads' HO_16.out).2.2 x18_1 p117 q117; cases e117; replace p117 := eq_true p117; replace q117 := eq_true q117; go_wp2_with (first | ((with_reducible refine gate_callee (f := 96) rfl ?_); refine S.gL (some 23) Try.func96 #[.int .i64 (rd y114 x18_1), .int .i64 0, .int .i64 7] ?_; (with_reducible refine (impl_InRange.calls (rd y114 x18_1) 0 7 true _ A11.out).mono ?_); rintro e w' ⟨rfl, ⟨nd, rfl⟩⟩; refine ⟨_, rfl, ?_⟩)); go_roundg k1
       case measure => have := HK1.out; omega
       case rel => exact ⟨(wrap64 (x18_1 + 1)), S.eA, H', ⟨by have := HK1.out; omega⟩, ⟨S.uR HO_16.out⟩, ⟨S.bA⟩⟩
      ·obtain rfl := Option.some.inj H; have p117 : 0 ≤ (x18_1 : Int) := S.oD; have q117 : x18_1 < (y114.length : Int) := S.oD; obtain ⟨ad117, e117, hx117_0⟩ := Kd.at_int (Kd.R_reads' HO_16.out).2.2 x18_1 p117 q117; cases e117; replace p117 := eq_true p117; replace q117 := eq_true q117; go_wp2_with (first | ((with_reducible refine gate_callee (f := 96) rfl ?_); refine S.gL (some 23) Try.func96 #[.int .i64 (rd y114 x18_1), .int .i64 0, .int .i64 7] ?_; (with_reducible refine (impl_InRange.calls (rd y114 x18_1) 0 7 false _ A11.out).mono ?_); rintro e w' ⟨rfl, ⟨nd, rfl⟩⟩; refine ⟨_, rfl, ?_⟩)); go_ret; exact ⟨S.eW, S.bA⟩
     ·rw [if_neg c10] at H; exact absurd H (by simp)
    ·rw [if_neg c9] at H; exact absurd H (by simp)
   ·by_cases c13 : a0 = a1
    ·rw [if_pos c13] at H; have c13b0 : (a0 == a1) = true := beq_iff_eq.mpr c13; have c13b1 : (a0 != a1) = false := bne_eq_false_iff_eq.mpr c13; clear c13; obtain rfl := Option.some.inj H; go_wp2; go_ret; exact ⟨S.eW, S.bA⟩
    ·rw [if_neg c13] at H; have c13b0 : (a0 == a1) = false := beq_eq_false_iff_ne.mpr c13; have c13b1 : (a0 != a1) = true := bne_iff_ne.mpr c13
     by_cases c14 : a0 = a2
     ·rw [if_pos c14] at H; have c14b0 : (a0 == a2) = true := beq_iff_eq.mpr c14; have c14b1 : (a0 != a2) = false := bne_eq_false_iff_eq.mpr c14; clear c14; obtain rfl := Option.some.inj H; go_wp2; go_ret; exact ⟨S.eW, S.bA⟩
     ·rw [if_neg c14] at H; have c14b0 : (a0 == a2) = false := beq_eq_false_iff_ne.mpr c14; have c14b1 : (a0 != a2) = true := bne_iff_ne.mpr c14
      by_cases c15 : a0 = a3
      ·rw [if_pos c15] at H; have c15b0 : (a0 == a3) = true := beq_iff_eq.mpr c15; have c15b1 : (a0 != a3) = false := bne_eq_false_iff_eq.mpr c15; clear c15; obtain rfl := Option.some.inj H; go_wp2; go_ret; exact ⟨S.eW, S.bA⟩
      ·rw [if_neg c15] at H; have c15b0 : (a0 == a3) = false := beq_eq_false_iff_ne.mpr c15; have c15b1 : (a0 != a3) = true := bne_iff_ne.mpr c15
       by_cases c16 : a1 = a2
       ·rw [if_pos c16] at H; have c16b0 : (a1 == a2) = true := beq_iff_eq.mpr c16; have c16b1 : (a1 != a2) = false := bne_eq_false_iff_eq.mpr c16; clear c16; obtain rfl := Option.some.inj H; go_wp2; go_ret; exact ⟨S.eW, S.bA⟩
       ·rw [if_neg c16] at H; have c16b0 : (a1 == a2) = false := beq_eq_false_iff_ne.mpr c16; have c16b1 : (a1 != a2) = true := bne_iff_ne.mpr c16
        by_cases c17 : a1 = a3
        ·rw [if_pos c17] at H; have c17b0 : (a1 == a3) = true := beq_iff_eq.mpr c17; have c17b1 : (a1 != a3) = false := bne_eq_false_iff_eq.mpr c17; clear c17; obtain rfl := Option.some.inj H; go_wp2; go_ret; exact ⟨S.eW, S.bA⟩
        ·rw [if_neg c17] at H; have c17b0 : (a1 == a3) = false := beq_eq_false_iff_ne.mpr c17; have c17b1 : (a1 != a3) = true := bne_iff_ne.mpr c17
         by_cases c18 : a2 = a3
         ·rw [if_pos c18] at H; have c18b0 : (a2 == a3) = true := beq_iff_eq.mpr c18; have c18b1 : (a2 != a3) = false := bne_eq_false_iff_eq.mpr c18; clear c18; obtain rfl := Option.some.inj H; go_wp2; go_ret; exact ⟨S.eW, S.bA⟩
         ·rw [if_neg c18] at H; have c18b0 : (a2 == a3) = false := beq_eq_false_iff_ne.mpr c18; have c18b1 : (a2 != a3) = true := bne_iff_ne.mpr c18; obtain rfl := Option.some.inj H; go_wp2; go_ret; exact ⟨S.eW, S.bA⟩

/-! ### impl_InPlace: function 124 -/
def impl_InPlace.f (a0 : Int) : Option (Int) := (impl_InRange.f a0 0 3).bind fun t119 => (if t119 = true then (some (wrap64 (2 * a0))) else (some (-1)))
theorem impl_InPlace.calls (a0 : Int) (r : Int) (w : World) (h : impl_InPlace.f a0 = some r) :
  Calls Try.prog 124 #[.int .i64 a0] w fun e w' => e = .returned (.int .i64 r) ∧ Drawn0 w w' := by
 have H : ((impl_InRange.f a0 0 3).bind fun t119 => (if t119 = true then (some (wrap64 (2 * a0))) else (some (-1)))) = some r := h; clear h; replace H := S.bd H; obtain ⟨t119, A2, H⟩ := H; (try dsimp only at H); replace H := S.db H; rcases H with ⟨rfl, H⟩ | ⟨rfl, H⟩
 ·obtain rfl := Option.some.inj H; go_enter Try.func124, Try.ntmps124; go_wp2_with (first | ((with_reducible refine gate_callee (f := 96) rfl ?_); refine S.gL (some 4) Try.func96 #[.int .i64 a0, .int .i64 0, .int .i64 3] ?_; (with_reducible refine (impl_InRange.calls a0 0 3 true _ A2.out).mono ?_); rintro e w' ⟨rfl, ⟨nd, rfl⟩⟩; refine ⟨_, rfl, ?_⟩)); go_ret; exact ⟨S.eA, by repeat (first | exact Drawn0.refl _ | apply Drawn0.step)⟩
 ·obtain rfl := Option.some.inj H; go_enter Try.func124, Try.ntmps124; go_wp2_with (first | ((with_reducible refine gate_callee (f := 96) rfl ?_); refine S.gL (some 4) Try.func96 #[.int .i64 a0, .int .i64 0, .int .i64 3] ?_; (with_reducible refine (impl_InRange.calls a0 0 3 false _ A2.out).mono ?_); rintro e w' ⟨rfl, ⟨nd, rfl⟩⟩; refine ⟨_, rfl, ?_⟩)); go_ret; exact ⟨S.eA, by repeat (first | exact Drawn0.refl _ | apply Drawn0.step)⟩

/-! ### impl_OutPlace: function 125 -/
def impl_OutPlace.f (a0 : Int) : Option (Int) := (impl_InRange.f a0 0 3).bind fun t120 => (if t120 = true then (some (wrap64 ((wrap64 (2 * a0)) + 1))) else (some (-1)))
theorem impl_OutPlace.calls (a0 : Int) (r : Int) (w : World) (h : impl_OutPlace.f a0 = some r) :
  Calls Try.prog 125 #[.int .i64 a0] w fun e w' => e = .returned (.int .i64 r) ∧ Drawn0 w w' := by
 have H : ((impl_InRange.f a0 0 3).bind fun t120 => (if t120 = true then (some (wrap64 ((wrap64 (2 * a0)) + 1))) else (some (-1)))) = some r := h; clear h; replace H := S.bd H; obtain ⟨t120, A2, H⟩ := H; (try dsimp only at H); replace H := S.db H; rcases H with ⟨rfl, H⟩ | ⟨rfl, H⟩
 ·obtain rfl := Option.some.inj H; go_enter Try.func125, Try.ntmps125; go_wp2_with (first | ((with_reducible refine gate_callee (f := 96) rfl ?_); refine S.gL (some 4) Try.func96 #[.int .i64 a0, .int .i64 0, .int .i64 3] ?_; (with_reducible refine (impl_InRange.calls a0 0 3 true _ A2.out).mono ?_); rintro e w' ⟨rfl, ⟨nd, rfl⟩⟩; refine ⟨_, rfl, ?_⟩)); go_ret; exact ⟨S.eA, by repeat (first | exact Drawn0.refl _ | apply Drawn0.step)⟩
 ·obtain rfl := Option.some.inj H; go_enter Try.func125, Try.ntmps125; go_wp2_with (first | ((with_reducible refine gate_callee (f := 96) rfl ?_); refine S.gL (some 4) Try.func96 #[.int .i64 a0, .int .i64 0, .int .i64 3] ?_; (with_reducible refine (impl_InRange.calls a0 0 3 false _ A2.out).mono ?_); rintro e w' ⟨rfl, ⟨nd, rfl⟩⟩; refine ⟨_, rfl, ?_⟩)); go_ret; exact ⟨S.eA, by repeat (first | exact Drawn0.refl _ | apply Drawn0.step)⟩
end Go.Proofs.Ytopchlafmfgpnaa.PFnSirens
