/- Printed by a program: what the Go functions compute, as plain Lean functions (.f), and the proofs that the machine's calls come to just that (.calls). -/
import Derived.Test.YtdaofiiedclmpaaPFnStreetsx0
namespace Go.Proofs.Ytdaofiiedclmpaa.PFnStreets
open Go.RowKit Go.Proofs.YtdaofiiedclmpaaW.PrintWords Go.Proofs.YtdaofiiedclmpaaW.PrintLast Go.Proofs.YtdaofiiedclmpaaW.PrintMore
attribute [local go_sem] max2_int min2_int max_two min_two max_three min_three max_four min_four   -- for this text's walks alone
set_option linter.unusedVariables false
set_option linter.unusedSimpArgs false

/-! ### slices_Index_int_int: function 89 -/
def slices_Index_int_int.l0 : Nat → List Int → Int → Int → Int → Option (Int)
 | 0, _, _, _, _ => none
 | k + 1, x0, x1, x7, x8 => if x8 < x7 then (if 0 ≤ x8 then (if x8 < (x0.length : Int) then (if x1 = (rd x0 x8) then (some x8) else (slices_Index_int_int.l0 k x0 x1 x7 (wrap64 (x8 + 1)))) else (none)) else (none)) else (some (-1))
def slices_Index_int_int.f (k : Nat) (l0 : List Int) (a1 : Int) : Option (Int) := slices_Index_int_int.l0 k l0 a1 (l0.length : Int) 0
set_option maxHeartbeats 8000000 in
set_option maxRecDepth 100000 in
theorem slices_Index_int_int.calls (k : Nat) (A0 : Option Addr) (c0 : Nat) (l0 : List Int) (a1 : Int) (r : Int) (w : World) (hr0 : Kd.C (Kd.int .i64) w A0 l0.length l0) (hc0 : l0.length ≤ c0) (h : slices_Index_int_int.f k l0 a1 = some r) :
  Calls Try.prog 89 #[.slice A0 l0.length c0, .int .i64 a1] w fun e w' => e = .returned (.int .i64 r) ∧ Drawn0 w w' := by
 have HR0 := Aside0.mk hr0
 have HC0 := Aside0.mk hc0
 clear hr0 hc0
 have H : (slices_Index_int_int.l0 k l0 a1 (l0.length : Int) 0) = some r := h
 clear h
 have H' := Aside0.mk H
 clear H
 go_enter Try.func89, Try.ntmps89
 go_wp2
 go_loopg [8] k (fun kq v8 w' => ∃ (x8_1 : Int), v8 = .int .i64 x8_1 ∧ Aside0 (slices_Index_int_int.l0 kq l0 a1 (l0.length : Int) x8_1 = some r) ∧ Aside0 (kq ≤ k) ∧ Drawn0 w w')
 case atStart => exact ⟨(0), S.eA, H', ⟨Nat.le_refl _⟩, by repeat (first | exact Drawn0.refl _ | apply Drawn0.step)⟩
 case round =>
  clear H'
  obtain ⟨x8_1, rfl, HA, HK1, ⟨m1, rfl⟩⟩ := hrel
  cases gk with
  | zero => exact absurd HA.out (by simp [slices_Index_int_int.l0])
  | succ k1 =>
   have H := HA.out
   clear HA
   simp only [slices_Index_int_int.l0] at H
   replace H := S.dc H; rcases H with ⟨H, c3b0⟩ | ⟨H, c3b0⟩
   ·by_cases c4 : 0 ≤ x8_1
    ·rw [if_pos c4] at H
     have c4b0 : decide (0 ≤ x8_1) = true := decide_eq_true c4
     clear c4
     by_cases c5 : x8_1 < (l0.length : Int)
     ·rw [if_pos c5] at H
      have c5b0 : decide (x8_1 < (l0.length : Int)) = true := decide_eq_true c5
      clear c5
      by_cases c6 : a1 = (rd l0 x8_1)
      ·rw [if_pos c6] at H
       have c6b0 : (a1 == (rd l0 x8_1)) = true := beq_iff_eq.mpr c6
       have c6b1 : (a1 != (rd l0 x8_1)) = false := bne_eq_false_iff_eq.mpr c6
       clear c6
       obtain rfl := Option.some.inj H
       have p101 : 0 ≤ (x8_1 : Int) := S.oD
       have q101 : x8_1 < (l0.length : Int) := S.oD
       obtain ⟨ad101, e101, hx101_0⟩ := Kd.at_int HR0.out x8_1 p101 q101
       cases e101
       replace p101 := eq_true p101
       replace q101 := eq_true q101
       go_wp2
       go_ret
       exact ⟨S.eA, by repeat (first | exact Drawn0.refl _ | apply Drawn0.step)⟩
      ·rw [if_neg c6] at H
       have c6b0 : (a1 == (rd l0 x8_1)) = false := beq_eq_false_iff_ne.mpr c6
       have c6b1 : (a1 != (rd l0 x8_1)) = true := bne_iff_ne.mpr c6
       have H' := Aside0.mk H
       clear H
       have p101 : 0 ≤ (x8_1 : Int) := S.oD
       have q101 : x8_1 < (l0.length : Int) := S.oD
       obtain ⟨ad101, e101, hx101_0⟩ := Kd.at_int HR0.out x8_1 p101 q101
       cases e101
       replace p101 := eq_true p101
       replace q101 := eq_true q101
       go_wp2
       go_roundg k1
       case measure => have := HK1.out; omega
       case rel => exact ⟨(wrap64 (x8_1 + 1)), S.eA, H', ⟨by have := HK1.out; omega⟩, by repeat (first | exact Drawn0.refl _ | apply Drawn0.step)⟩
     ·rw [if_neg c5] at H
      exact absurd H (by simp)
    ·rw [if_neg c4] at H
     exact absurd H (by simp)
   ·obtain rfl := Option.some.inj H
    go_wp2
    go_ret
    exact ⟨S.eA, by repeat (first | exact Drawn0.refl _ | apply Drawn0.step)⟩

/-! ### slices_Contains_int_int: function 66 -/
def slices_Contains_int_int.f (k : Nat) (l0 : List Int) (a1 : Int) : Option (Bool) := (slices_Index_int_int.f k l0 a1).bind fun t102 => (some (decide (t102 ≥ 0)))
set_option maxHeartbeats 8000000 in
set_option maxRecDepth 100000 in
theorem slices_Contains_int_int.calls (k : Nat) (A0 : Option Addr) (c0 : Nat) (l0 : List Int) (a1 : Int) (r : Bool) (w : World) (hr0 : Kd.C (Kd.int .i64) w A0 l0.length l0) (hc0 : l0.length ≤ c0) (h : slices_Contains_int_int.f k l0 a1 = some r) :
  Calls Try.prog 66 #[.slice A0 l0.length c0, .int .i64 a1] w fun e w' => e = .returned (.bool r) ∧ Drawn0 w w' := by
 have HR0 := Aside0.mk hr0
 have HC0 := Aside0.mk hc0
 clear hr0 hc0
 have H : ((slices_Index_int_int.f k l0 a1).bind fun t102 => (some (decide (t102 ≥ 0)))) = some r := h
 clear h
 replace H := S.bd H; obtain ⟨t102, A3, H⟩ := H
 (try dsimp only at H)
 obtain rfl := Option.some.inj H
 go_enter Try.func66, Try.ntmps66
 go_wp2_with (first | ((with_reducible refine gate_callee (f := 89) rfl ?_); refine S.gL (some 7) Try.func89 #[.slice A0 l0.length c0, .int .i64 a1] ?_; (with_reducible refine (slices_Index_int_int.calls k _ _ l0 a1 t102 _ ?s1 HC0.out A3.out).mono ?_); (case s1 => repeat (first | exact HR0.out | (with_reducible refine Kd.C_alloc ?_ _) | (with_reducible refine Kd.C_drewN ?_ _) | (with_reducible refine Kd.C_drew ?_))); rintro e w' ⟨rfl, ⟨nd, rfl⟩⟩; refine ⟨_, rfl, ?_⟩))
 go_ret
 exact ⟨S.eA, by repeat (first | exact Drawn0.refl _ | apply Drawn0.step)⟩

/-! ### impl_InRange: function 60 -/
def impl_InRange.f (a0 : Int) (a1 : Int) (a2 : Int) : Option (Bool) := if a1 ≤ a0 then (some (decide (a0 ≤ a2))) else (some false)
set_option maxHeartbeats 8000000 in
set_option maxRecDepth 100000 in
theorem impl_InRange.calls (a0 : Int) (a1 : Int) (a2 : Int) (r : Bool) (w : World) (h : impl_InRange.f a0 a1 a2 = some r) :
  Calls Try.prog 60 #[.int .i64 a0, .int .i64 a1, .int .i64 a2] w fun e w' => e = .returned (.bool r) ∧ Drawn0 w w' := by
 have H : (if a1 ≤ a0 then (some (decide (a0 ≤ a2))) else (some false)) = some r := h
 clear h
 replace H := S.dc H; rcases H with ⟨H, c4b0⟩ | ⟨H, c4b0⟩
 ·obtain rfl := Option.some.inj H
  go_enter Try.func60, Try.ntmps60
  go_wp2
  go_ret
  exact ⟨S.eA, by repeat (first | exact Drawn0.refl _ | apply Drawn0.step)⟩
 ·obtain rfl := Option.some.inj H
  go_enter Try.func60, Try.ntmps60
  go_wp2
  go_ret
  exact ⟨S.eA, by repeat (first | exact Drawn0.refl _ | apply Drawn0.step)⟩

/-! ### impl_isCrossing: function 59 -/
def impl_isCrossing.f (a0 : Int) : Option (Bool) := (impl_InRange.f a0 1 8).bind fun t103 => (some t103)
set_option maxHeartbeats 8000000 in
set_option maxRecDepth 100000 in
theorem impl_isCrossing.calls (a0 : Int) (r : Bool) (w : World) (h : impl_isCrossing.f a0 = some r) :
  Calls Try.prog 59 #[.int .i64 a0] w fun e w' => e = .returned (.bool r) ∧ Drawn0 w w' := by
 have H : ((impl_InRange.f a0 1 8).bind fun t103 => (some t103)) = some r := h
 clear h
 replace H := S.bd H; obtain ⟨t103, A2, H⟩ := H
 (try dsimp only at H)
 obtain rfl := Option.some.inj H
 go_enter Try.func59, Try.ntmps59
 go_wp2_with (first | ((with_reducible refine gate_callee (f := 60) rfl ?_); refine S.gL (some 4) Try.func60 #[.int .i64 a0, .int .i64 1, .int .i64 8] ?_; (with_reducible refine (impl_InRange.calls a0 1 8 t103 _ A2.out).mono ?_); rintro e w' ⟨rfl, ⟨nd, rfl⟩⟩; refine ⟨_, rfl, ?_⟩))
 go_ret
 exact ⟨S.eA, by repeat (first | exact Drawn0.refl _ | apply Drawn0.step)⟩

-- NOT PRINTED: function 87 (impl_Street)

/-! ### impl_streetOf: function 61 -/
set_option maxHeartbeats 8000000 in
set_option maxRecDepth 100000 in
theorem impl_streetOf.idx (p : S47 → Bool) (g : Nat) (lb : Array Value) (eg : ∀ args w, (callFunc g args).run Try.prog w = .ok (.enter g args) w) (A0 : Option Addr) (c0 : Nat) (l0 : List S47) (w : World)
  (hp : ∀ (W : World) (x : S47), Below w.heap.size w W → Calls Try.prog g (#[.agg #[.int .i64 x.f0, .int .i64 x.f1, .int .i64 x.f2]] ++ lb) W fun e w' => e = .returned (.bool (p x)) ∧ Below w.heap.size w w')
  (hr0 : Kd.C k47 w A0 l0.length l0) (hc0 : l0.length ≤ c0) :
  Calls Try.prog 87 #[.slice A0 l0.length c0, .func (.func g) #[] lb] w fun e w' => e = .returned (.int .i64 (Go.Proofs.Ytdaofiiedclmpaa.Hnd.fidx p l0 0)) ∧ Below w.heap.size w w' := by
 have hbig : l0.length ≤ 9223372036854775807 := hr0.2.1
 have HR0 := Aside0.mk hr0
 have HP := Aside0.mk hp
 clear hr0 hp
 go_enter Try.func87, Try.ntmps87
 go_wp2
 go_loopg [5, 8] l0.length (fun gg _ s8 wr => ∃ kk : Nat, kk ≤ l0.length ∧ l0.length - kk ≤ gg ∧ s8 = .int .i64 kk ∧ Aside0 (Below w.heap.size w wr) ∧ Aside0 (Go.Proofs.Ytdaofiiedclmpaa.Hnd.fidx p l0 0 = Go.Proofs.Ytdaofiiedclmpaa.Hnd.fidx p (l0.drop kk) kk))
 case atStart => exact ⟨0, Nat.zero_le _, by omega, rfl, ⟨Below.refl _ w⟩, ⟨by simp⟩⟩
 case round =>
  obtain ⟨kk, hkk, hg, rfl, BW, A⟩ := hrel
  by_cases hlt : kk < l0.length
  ·have hltz : (kk : Int) < (l0.length : Int) := by omega
   obtain ⟨ad116, e116, hx0, hx1, hx2⟩ := at_T47 HR0.out (kk : Int) (by omega) hltz
   cases e116
   simp only [Int.toNat_natCast] at hx0 hx1 hx2
   replace hx0 := (BW.out.cell (World.block_lt_of_cell? w _ hx0)).trans hx0
   replace hx1 := (BW.out.cell (World.block_lt_of_cell? w _ hx1)).trans hx1
   replace hx2 := (BW.out.cell (World.block_lt_of_cell? w _ hx2)).trans hx2
   have hcall := HP.out wr (rd_T47 l0 (kk : Int)) BW.out
   have hq0 : rd_T47 l0 (kk : Int) = l0[kk] := by simp [rd_T47, hlt]
   have E : Aside0 (Go.Proofs.Ytdaofiiedclmpaa.Hnd.fidx p l0 0 = if p (rd_T47 l0 (kk : Int)) = true then (kk : Int) else Go.Proofs.Ytdaofiiedclmpaa.Hnd.fidx p (l0.drop (kk + 1)) (kk + 1)) := ⟨by rw [A.out, List.drop_eq_getElem_cons hlt, hq0]; rfl⟩
   clear A hq0
   generalize rd_T47 l0 (kk : Int) = y at hx0 hx1 hx2 hcall E
   cases hq : p y with
   | true =>
    rw [hq] at hcall
    go_wp2_with (fail)
    refine hcall.mono ?_
    rintro e w' ⟨rfl, hb'⟩
    clear hcall
    dsimp only
    go_wp2_with (fail)
    go_ret
    exact ⟨by rw [E.out, if_pos hq]; rfl, hb'⟩
   | false =>
    rw [hq] at hcall
    go_wp2_with (fail)
    refine hcall.mono ?_
    rintro e w' ⟨rfl, hb'⟩
    clear hcall
    dsimp only
    go_wp2_with (fail)
    go_roundg (l0.length - (kk + 1))
    case measure => omega
    case rel => exact ⟨kk + 1, by omega, by omega, by go_num, ⟨hb'⟩, ⟨by rw [E.out, hq]; rfl⟩⟩
  ·have hltz : ¬ (kk : Int) < (l0.length : Int) := by omega
   have hkn : kk = l0.length := by omega
   have E : Aside0 (Go.Proofs.Ytdaofiiedclmpaa.Hnd.fidx p l0 0 = -1) := ⟨by rw [A.out, hkn, List.drop_length]; rfl⟩
   clear A
   subst hkn
   go_wp2
   go_ret
   exact ⟨by rw [E.out]; rfl, BW.out⟩

theorem impl_streetOf.pred (a1 : Int) (a2 : Int) (B0 : Nat) (B1 : Nat) (w : World) (hB0 : B0 < w.heap.size) (hcB0 : w.cell? ⟨B0, 0, none⟩ = some (.int .i64 a1)) (hB1 : B1 < w.heap.size) (hcB1 : w.cell? ⟨B1, 0, none⟩ = some (.int .i64 a2)) :
  ∀ (W : World) (x : S47), Below w.heap.size w W → Calls Try.prog 88 (#[.agg #[.int .i64 x.f0, .int .i64 x.f1, .int .i64 x.f2]] ++ #[.pointer (some ⟨B0, 0, none⟩), .pointer (some ⟨B1, 0, none⟩)]) W fun e w' => e = .returned (.bool (x.f0 == a1 && x.f1 == a2)) ∧ Below w.heap.size w w' := fun W x hb => by
 have cB0 : W.cell? ⟨B0, 0, none⟩ = some (.int .i64 a1) := (hb.cell (p := ⟨B0, 0, none⟩) hB0).trans hcB0
 have lB0 : B0 < W.heap.size := Nat.lt_of_lt_of_le hB0 hb.size
 have nB0 : B0 ≠ W.heap.size := by omega
 have cB1 : W.cell? ⟨B1, 0, none⟩ = some (.int .i64 a2) := (hb.cell (p := ⟨B1, 0, none⟩) hB1).trans hcB1
 have lB1 : B1 < W.heap.size := Nat.lt_of_lt_of_le hB1 hb.size
 have nB1 : B1 ≠ W.heap.size := by omega
 have hB2 := Aside0.mk hb
 clear hb hcB0 hcB1
 show Calls Try.prog 88 #[.agg #[.int .i64 x.f0, .int .i64 x.f1, .int .i64 x.f2], .pointer (some ⟨B0, 0, none⟩), .pointer (some ⟨B1, 0, none⟩)] W _
 go_enter Try.func88, Try.ntmps88
 by_cases e1 : x.f0 = a1
 ·have d1 : (x.f0 == a1) = true := by simp [e1]
  have E1 := Aside0.mk e1
  clear e1
  go_wp2
  repeat (go_quiet (fail); try go_wp2)
  go_ret
  exact ⟨by first | rfl | (simp [E1.out]; done), by first | exact hB2.out.alloc hB2.out.size _ | (refine (hB2.out.alloc hB2.out.size _).trans ?_; first | exact Below.refl _ _ | simp)⟩
 ·have d1 : (x.f0 == a1) = false := by simp [e1]
  have E1 := Aside0.mk e1
  clear e1
  go_wp2
  repeat (go_quiet (fail); try go_wp2)
  go_ret
  exact ⟨by first | rfl | (simp [E1.out]; done), by first | exact hB2.out.alloc hB2.out.size _ | (refine (hB2.out.alloc hB2.out.size _).trans ?_; first | exact Below.refl _ _ | simp)⟩
def impl_streetOf.f (l0 : List (S47)) (a1 : Int) (a2 : Int) : Option (Int) := some (Go.Proofs.Ytdaofiiedclmpaa.Hnd.fidx (fun x : S47 => x.f0 == a1 && x.f1 == a2) l0 0)
set_option maxHeartbeats 8000000 in
theorem impl_streetOf.calls (A0 : Option Addr) (c0 : Nat) (l0 : List (S47)) (a1 : Int) (a2 : Int) (r : Int) (w : World) (hr0 : Kd.C k47 w A0 l0.length l0) (hc0 : l0.length ≤ c0) (h : impl_streetOf.f l0 a1 a2 = some r) :
  Calls Try.prog 61 #[.slice A0 l0.length c0, .int .i64 a1, .int .i64 a2] w fun e w' => e = .returned (.int .i64 r) ∧ Below w.heap.size w w' := by
 obtain rfl := Option.some.inj h
 clear h
 have eg : ∀ args w, (callFunc 88 args).run Try.prog w = .ok (.enter 88 args) w := Go.Proofs.Ytdaofiiedclmpaa.Hnd.enters_fn Try.func88 (by kernel_rfl) rfl
 have hB1 : Below w.heap.size w ((w.alloc (.cells #[.int .i64 a1] 3)).alloc (.cells #[.int .i64 a2] 3)) := (((Below.refl _ w).alloc (Nat.le_refl _) _).alloc (by simp) _)
 have hcon := impl_streetOf.idx (fun x : S47 => x.f0 == a1 && x.f1 == a2) 88 #[.pointer (some ⟨w.heap.size, 0, none⟩), .pointer (some ⟨(w.heap.size + 1), 0, none⟩)] eg A0 c0 l0 ((w.alloc (.cells #[.int .i64 a1] 3)).alloc (.cells #[.int .i64 a2] 3)) (impl_streetOf.pred a1 a2 w.heap.size (w.heap.size + 1) _ (by simp <;> omega) (by simp) (by simp <;> omega) (by simp)) (Kd.C_below hr0 hB1) hc0
 generalize Go.Proofs.Ytdaofiiedclmpaa.Hnd.fidx (fun x : S47 => x.f0 == a1 && x.f1 == a2) l0 0 = r at hcon ⊢
 clear hr0 eg
 have HB1 := Aside0.mk hB1
 clear hB1
 go_enter Try.func61, Try.ntmps61
 go_wp2_with (fail)
 refine hcon.mono ?_
 rintro e w' ⟨rfl, hb'⟩
 clear hcon
 dsimp only
 go_wp2_with (fail)
 go_ret
 exact ⟨rfl, HB1.out.trans (hb'.mono (by simp; omega))⟩

/-! ### impl_AreStreets: function 18 -/
mutual
def impl_AreStreets.l0 : Nat → List (S47) → List (S47) → Int → Int → Option (Bool)
 | 0, _, _, _, _ => none
 | k + 1, x0, x8, x9, x10 => if x10 < x9 then (if 0 ≤ x10 then (if x10 < (x8.length : Int) then ((impl_isCrossing.f ((rd_T47 x8 x10).f0)).bind fun t106 => (if t106 = true then ((impl_isCrossing.f ((rd_T47 x8 x10).f1)).bind fun t107 => (if t107 = true then (if ((rd_T47 x8 x10).f0) = ((rd_T47 x8 x10).f1) then (impl_AreStreets.j1 k x0 x10 x8 x9 x10 true ((rd_T47 x8 x10).f0) ((rd_T47 x8 x10).f1) ((rd_T47 x8 x10).f2)) else ((impl_InRange.f ((rd_T47 x8 x10).f2) 1 300).bind fun t108 => (impl_AreStreets.j1 k x0 x10 x8 x9 x10 (!t108) ((rd_T47 x8 x10).f0) ((rd_T47 x8 x10).f1) ((rd_T47 x8 x10).f2)))) else (impl_AreStreets.j1 k x0 x10 x8 x9 x10 true ((rd_T47 x8 x10).f0) ((rd_T47 x8 x10).f1) ((rd_T47 x8 x10).f2)))) else (impl_AreStreets.j1 k x0 x10 x8 x9 x10 true ((rd_T47 x8 x10).f0) ((rd_T47 x8 x10).f1) ((rd_T47 x8 x10).f2)))) else (none)) else (none)) else (some true)
def impl_AreStreets.j1 : Nat → List (S47) → Int → List (S47) → Int → Int → Bool → Int → Int → Int → Option (Bool)
 | 0, _, _, _, _, _, _, _, _, _ => none
 | k + 1, x0, x3, x8, x9, x10, x37, x106000, x106001, x106002 => if x37 = true then (some false) else (if 0 ≤ x3 then (if x3 ≤ (x0.length : Int) then ((impl_streetOf.f (x0.take (x3 : Int).toNat) x106000 x106001).bind fun t113 => (if t113 ≥ 0 then (some false) else (impl_AreStreets.l0 k x0 x8 x9 (wrap64 (x10 + 1))))) else (none)) else (none))
end
def impl_AreStreets.f (k : Nat) (l0 : List (S47)) : Option (Bool) := if (l0.length : Int) > 16 then (some false) else (impl_AreStreets.l0 k l0 l0 (l0.length : Int) 0)
def impl_AreStreets.T8 : Bool × List (List Nat × List Nat) := (true, [([], []), ([], []), ([0, 1], [0, 1]), ([], []), ([3], [3]), ([], []), ([5], [5]), ([2, 4, 6], [2, 4, 6]), ([7], [7])])
def impl_AreStreets.B8 : List Nat := [0, 0, 3, 0, 8, 0, 32, 127, 255]
theorem impl_AreStreets.tab8 : rtab .any (opsOf Try.f18 8) = impl_AreStreets.T8 := by kernel_rfl
theorem impl_AreStreets.bits8 : waitsOk impl_AreStreets.T8.2 impl_AreStreets.B8 = true := by kernel_rfl
set_option maxHeartbeats 8000000 in
set_option maxRecDepth 100000 in
theorem impl_AreStreets.calls (k : Nat) (A0 : Option Addr) (c0 : Nat) (l0 : List (S47)) (r : Bool) (w : World) (hr0 : Kd.C k47 w A0 l0.length l0) (hc0 : l0.length ≤ c0) (h : impl_AreStreets.f k l0 = some r) :
  Calls Try.prog 18 #[.slice A0 l0.length c0] w fun e w' => e = .returned (.bool r) ∧ Below w.heap.size w w' := by
 have hu47 := Try.underlying47
 have HR0 := Aside0.mk hr0
 have HC0 := Aside0.mk hc0
 clear hr0 hc0
 have HB := Aside0.mk (Below.refl w.heap.size w)
 have H : (if (l0.length : Int) > 16 then (some false) else (impl_AreStreets.l0 k l0 l0 (l0.length : Int) 0)) = some r := h
 clear h
 by_cases c2 : (l0.length : Int) > 16
 ·rw [if_pos c2] at H
  have c2b0 : decide (16 < (l0.length : Int)) = true := decide_eq_true c2
  have c2b1 : decide (16 < l0.length) = true := decide_eq_true (by omega)
  clear c2
  obtain rfl := Option.some.inj H
  go_enter Try.func18, Try.ntmps18
  go_wp2
  go_ret
  exact ⟨S.eW, S.bA⟩
 ·rw [if_neg c2] at H
  have c2b0 : decide (16 < (l0.length : Int)) = false := decide_eq_false c2
  have c2b1 : decide (16 < l0.length) = false := decide_eq_false (by omega)
  clear c2
  have H' := Aside0.mk H
  clear H
  go_enter Try.func18, Try.ntmps18
  go_wp2
  go_loopg [10] k (fun kq v10 w' => ∃ (x10_1 : Int), v10 = .int .i64 x10_1 ∧ Aside0 (impl_AreStreets.l0 kq l0 l0 (l0.length : Int) x10_1 = some r) ∧ Aside0 (kq ≤ k) ∧ Aside0 (Below w.heap.size w w'))
  case atStart => exact ⟨(0), S.eA, H', ⟨Nat.le_refl _⟩, ⟨S.bA⟩⟩
  case round =>
   clear H'
   try clear c2
   try clear c2b0
   try clear c2b1
   obtain ⟨x10_1, rfl, HA, HK1, HB⟩ := hrel
   cases gk with
   | zero => exact absurd HA.out (by simp [impl_AreStreets.l0])
   | succ k1 =>
    have H := HA.out
    clear HA
    simp only [impl_AreStreets.l0] at H
    replace H := S.dc H; rcases H with ⟨H, c3b0⟩ | ⟨H, c3b0⟩
    ·by_cases c4 : 0 ≤ x10_1
     ·rw [if_pos c4] at H
      have c4b0 : decide (0 ≤ x10_1) = true := decide_eq_true c4
      clear c4
      by_cases c5 : x10_1 < (l0.length : Int)
      ·rw [if_pos c5] at H
       have c5b0 : decide (x10_1 < (l0.length : Int)) = true := decide_eq_true c5
       clear c5
       have HC6 := Aside0.mk H
       clear H
       have p104 : 0 ≤ (x10_1 : Int) := S.oD
       have q104 : x10_1 < (l0.length : Int) := S.oD
       obtain ⟨ad104, e104, hx104_0, hx104_1, hx104_2⟩ := at_T47 HR0.out x10_1 p104 q104
       cases e104
       replace hx104_0 := S.hb HB hx104_0
       replace hx104_1 := S.hb HB hx104_1
       replace hx104_2 := S.hb HB hx104_2
       replace p104 := eq_true p104
       replace q104 := eq_true q104
       go_upto_region 6 with (first | ((with_reducible refine gate_dst (N := 4) rfl ?_); refine S.bx 4 (cs := #[.int .i64 0, .int .i64 0, .int .i64 0]) (t := 47) ?_; intro gb105 hg w7 hbox hb; have BK105 := Aside0.mk hbox; have GW105 := S.geA hg; have GE105 := S.geA hg; replace HB := S.sA hb; clear hb hbox hg; obtain ⟨Z8a, Z8b, Z8c, Y8a, Y8b, Y8c⟩ := S.c3 BK105.out))
       (try simp only [Act.put, List.setIfInBounds_toArray, List.set_cons_zero, List.set_cons_succ])
       go_cut [37] (fun v37 wc => ∃ (kq : Nat) (x37_5 : Bool), v37 = .bool x37_5 ∧ Aside0 (impl_AreStreets.j1 kq l0 x10_1 l0 (l0.length : Int) x10_1 x37_5 ((rd_T47 l0 x10_1).f0) ((rd_T47 l0 x10_1).f1) ((rd_T47 l0 x10_1).f2) = some r) ∧ Aside0 (kq ≤ k1) ∧ Aside0 (wc.heap[gb105]? = some (.cells #[.int .i64 ((rd_T47 l0 x10_1).f0), .int .i64 ((rd_T47 l0 x10_1).f1), .int .i64 ((rd_T47 l0 x10_1).f2)] 47 (0, 0))) ∧ Aside0 (Below w.heap.size w wc))
       case first =>
        have H := HC6.out
        clear HC6
        replace H := S.bd H; obtain ⟨t106, A9, H⟩ := H
        (try dsimp only at H)
        replace H := S.db H; rcases H with ⟨rfl, H⟩ | ⟨rfl, H⟩
        ·replace H := S.bd H; obtain ⟨t107, A11, H⟩ := H
         (try dsimp only at H)
         replace H := S.db H; rcases H with ⟨rfl, H⟩ | ⟨rfl, H⟩
         ·by_cases c13 : ((rd_T47 l0 x10_1).f0) = ((rd_T47 l0 x10_1).f1)
          ·rw [if_pos c13] at H
           have c13b0 : (((rd_T47 l0 x10_1).f0) == ((rd_T47 l0 x10_1).f1)) = true := beq_iff_eq.mpr c13
           have c13b1 : (((rd_T47 l0 x10_1).f0) != ((rd_T47 l0 x10_1).f1)) = false := bne_eq_false_iff_eq.mpr c13
           clear c13
           (first | rw [c13b0] | (simp only [i64_w, i32_w]; rw [c13b0]) | skip)
           have H' := Aside0.mk H
           clear H
           obtain ⟨Z14a, Z14b, Z14c, Y14a, Y14b, Y14c⟩ := S.c3 BK105.out
           go_wp2_with (first | ((with_reducible refine gate_callee (f := 59) rfl ?_); refine S.gL (some 17) Try.func59 #[.int .i64 ((rd_T47 l0 x10_1).f0)] ?_; (with_reducible refine (impl_isCrossing.calls ((rd_T47 l0 x10_1).f0) true _ A9.out).mono ?_); rintro e w' ⟨rfl, ⟨nd, rfl⟩⟩; refine ⟨_, rfl, ?_⟩) | (go_at_call 59; (with_reducible refine (impl_isCrossing.calls ((rd_T47 l0 x10_1).f1) true _ A11.out).mono ?_); rintro e w' ⟨rfl, ⟨nd, rfl⟩⟩))
           go_meet
           case rel => exact ⟨_, (true), S.eA, H', ⟨by have := HK1.out; first | omega | exact Nat.le_refl _⟩, ⟨S.up3 BK105⟩, ⟨S.bG⟩⟩
          ·rw [if_neg c13] at H
           have c13b0 : (((rd_T47 l0 x10_1).f0) == ((rd_T47 l0 x10_1).f1)) = false := beq_eq_false_iff_ne.mpr c13
           have c13b1 : (((rd_T47 l0 x10_1).f0) != ((rd_T47 l0 x10_1).f1)) = true := bne_iff_ne.mpr c13
           (first | rw [c13b0] | (simp only [i64_w, i32_w]; rw [c13b0]) | skip)
           replace H := S.bd H; obtain ⟨t108, A15, H⟩ := H
           (try dsimp only at H)
           have H' := Aside0.mk H
           clear H
           obtain ⟨Z16a, Z16b, Z16c, Y16a, Y16b, Y16c⟩ := S.c3 BK105.out
           go_wp2_with (first | ((with_reducible refine gate_callee (f := 59) rfl ?_); refine S.gL (some 17) Try.func59 #[.int .i64 ((rd_T47 l0 x10_1).f0)] ?_; (with_reducible refine (impl_isCrossing.calls ((rd_T47 l0 x10_1).f0) true _ A9.out).mono ?_); rintro e w' ⟨rfl, ⟨nd, rfl⟩⟩; refine ⟨_, rfl, ?_⟩) | (go_at_call 59; (with_reducible refine (impl_isCrossing.calls ((rd_T47 l0 x10_1).f1) true _ A11.out).mono ?_); rintro e w' ⟨rfl, ⟨nd, rfl⟩⟩) | (go_at_call 60; (with_reducible refine (impl_InRange.calls ((rd_T47 l0 x10_1).f2) 1 300 t108 _ A15.out).mono ?_); rintro e w' ⟨rfl, ⟨nd, rfl⟩⟩))
           go_meet
           case rel => exact ⟨_, (!t108), S.eA, H', ⟨by have := HK1.out; first | omega | exact Nat.le_refl _⟩, ⟨S.up3 BK105⟩, ⟨S.bG⟩⟩
         ·have H' := Aside0.mk H
          clear H
          obtain ⟨Z17a, Z17b, Z17c, Y17a, Y17b, Y17c⟩ := S.c3 BK105.out
          go_wp2_with (first | ((with_reducible refine gate_callee (f := 59) rfl ?_); refine S.gL (some 17) Try.func59 #[.int .i64 ((rd_T47 l0 x10_1).f0)] ?_; (with_reducible refine (impl_isCrossing.calls ((rd_T47 l0 x10_1).f0) true _ A9.out).mono ?_); rintro e w' ⟨rfl, ⟨nd, rfl⟩⟩; refine ⟨_, rfl, ?_⟩) | (go_at_call 59; (with_reducible refine (impl_isCrossing.calls ((rd_T47 l0 x10_1).f1) false _ A11.out).mono ?_); rintro e w' ⟨rfl, ⟨nd, rfl⟩⟩))
          go_meet
          case rel => exact ⟨_, (true), S.eA, H', ⟨by have := HK1.out; first | omega | exact Nat.le_refl _⟩, ⟨S.up3 BK105⟩, ⟨S.bG⟩⟩
        ·have H' := Aside0.mk H
         clear H
         obtain ⟨Z18a, Z18b, Z18c, Y18a, Y18b, Y18c⟩ := S.c3 BK105.out
         go_wp2_with (first | ((with_reducible refine gate_callee (f := 59) rfl ?_); refine S.gL (some 17) Try.func59 #[.int .i64 ((rd_T47 l0 x10_1).f0)] ?_; (with_reducible refine (impl_isCrossing.calls ((rd_T47 l0 x10_1).f0) false _ A9.out).mono ?_); rintro e w' ⟨rfl, ⟨nd, rfl⟩⟩; refine ⟨_, rfl, ?_⟩))
         go_meet
         case rel => exact ⟨_, (true), S.eA, H', ⟨by have := HK1.out; first | omega | exact Nat.le_refl _⟩, ⟨S.up3 BK105⟩, ⟨S.bG⟩⟩
       case rest =>
        clear HC6
        try clear c2
        try clear c2b0
        try clear c2b1
        try clear c3
        try clear c3b0
        try clear c4
        try clear c4b0
        try clear c5
        try clear c5b0
        try clear Z8a
        try clear Z8b
        try clear Z8c
        try clear Y8a
        try clear Y8b
        try clear Y8c
        try clear hx104_0
        try clear hx104_1
        try clear hx104_2
        try clear p104
        try clear q104
        obtain ⟨kq, x37_5, rfl, HA, HJ5, BK105, HB⟩ := hcut
        cases kq with
        | zero => exact absurd HA.out (by simp [impl_AreStreets.j1])
        | succ kj5 =>
         have H := HA.out
         clear HA
         simp only [impl_AreStreets.j1] at H
         replace H := S.db H; rcases H with ⟨rfl, H⟩ | ⟨rfl, H⟩
         ·obtain rfl := Option.some.inj H
          go_wp2
          go_ret
          exact ⟨S.eW, S.bG⟩
         ·by_cases c20 : 0 ≤ x10_1
          ·rw [if_pos c20] at H
           have c20b0 := eq_true c20
           have c20b1 : decide (0 ≤ x10_1) = true := decide_eq_true c20
           clear c20
           by_cases c21 : x10_1 ≤ (l0.length : Int)
           ·rw [if_pos c21] at H
            have c21b0 := eq_true c21
            have c21b1 : decide (x10_1 ≤ (l0.length : Int)) = true := decide_eq_true c21
            clear c21
            obtain ⟨y109, hy109⟩ : ∃ y_ : List (S47), y_ = (l0.take (x10_1 : Int).toNat) := ⟨_, rfl⟩
            replace H : ((impl_streetOf.f y109 ((rd_T47 l0 x10_1).f0) ((rd_T47 l0 x10_1).f1)).bind fun t113 => (if t113 ≥ 0 then (some false) else (impl_AreStreets.l0 kj5 l0 l0 (l0.length : Int) (wrap64 (x10_1 + 1))))) = some r := by first | (rw [hy109]; with_reducible exact H) | (have H2_ := (Option.bind_some _ _).symm.trans H; rw [hy109]; with_reducible exact H2_) | (have H2_ := (Option.bind_some _ _).symm.trans H; with_reducible exact H2_) | with_reducible exact H | (rw [hy109]; exact H) | exact H
            have Ny109 := Aside0.mk hy109
            clear hy109
            replace H := S.bd H; obtain ⟨t113, A22, H⟩ := H
            (try dsimp only at H)
            by_cases c23 : t113 ≥ 0
            ·rw [if_pos c23] at H
             have c23b0 : decide (0 ≤ t113) = true := decide_eq_true c23
             clear c23
             obtain rfl := Option.some.inj H
             try go_wp2
             replace BK105 := Aside0.mk (blk_drew BK105.out)
             replace HB := Aside0.mk (below_drew1 HB.out)
             have q25 : (x10_1 : Int) ≤ ((l0.length : Int) : Int) := S.oD
             obtain ⟨i025, hi025, _, hsz25, _⟩ := info_parts info47
             have hroom25 : l0.length ≤ c0 := HC0.out
             have hC25 : Kd.C k47 _ (some ad104) l0.length l0 := HR0.out
             have hcut25 := cut_to (P := Try.prog) 25 47 .i64 Try.underlying25 hi025 (some ad104) l0.length c0 x10_1 (S.oD) q25 hroom25
             have hr25 := Kd.C_take (m := (x10_1 : Int).toNat) hC25 (by omega)
             have hy25 : y109.length = (x10_1 : Int).toNat := (by rw [Ny109.out, List.length_take]; omega)
             rw [← Ny109.out] at hr25
             rw [← hy25] at hcut25
             have HR112 := Aside0.mk hr25
             have HC112 := Aside0.mk (show y109.length ≤ c0 from by omega)
             clear hr25 hC25 hroom25 hi025 hsz25
             have KY25 := Aside0.mk hy25
             clear hy25
             replace q25 := eq_true q25
             refine S.st (n := 9) (ds := []) #[false, false, false, false, false, false, false, false, false] (fun w_ h_ => have x_ := S.e3 (S.Q h_ BK105.out); x_) (fun hHeld => ?_); refine with_tabW impl_AreStreets.tab8 impl_AreStreets.bits8 (fun HT_ HW_ => ?_)
             generalize wc.drew = w24 at BK105 HB HR112 hHeld ⊢
             refine S.pS 0 38 ?_
             refine S.pS 1 39 ?_
             refine S.pS 2 40 ?_
             refine S.pS 3 41 ?_
             refine S.pS 5 43 ?_
             refine S.tK 4 42 #[true, true, true, true, true, true, false, false, false] ?_
             refine S.tK 6 44 #[true, true, true, true, true, true, true, false, false] ?_
             refine S.oN 7 45 #[true, true, true, true, true, true, true, true, false] (fun K hK => ?_)
             refine S.go Try.func61 #[.slice (some ad104) y109.length c0, .int .i64 ((rd_T47 l0 x10_1).f0), .int .i64 ((rd_T47 l0 x10_1).f1)] ?_
             with_reducible refine (impl_streetOf.calls _ _ y109 ((rd_T47 l0 x10_1).f0) ((rd_T47 l0 x10_1).f1) t113 _ ?s1 ?s2 A22.out).mono ?_
             (case s1 => exact S.cA HR112.out)
             (case s2 => exact HC112.out)
             rintro e w26 ⟨rfl, hb⟩
             refine ⟨_, rfl, ?_⟩
             replace BK105 := S.kb BK105 hb
             replace HB := S.sG hb
             (try clear hb)
             (try clear hb2)
             (try clear hk)
             (try clear hi)
             refine hK.out _ _ (S.e3 BK105.out) (fun hHeld => ?_)
             clear hK K
             refine S.nm 45 ?_
             refine S.pS 8 46 ?_
             refine done_ (done_of HT_.out (by kernel_rfl)) ?_
             try go_wp2
             go_ret
             exact ⟨S.eW, S.bG⟩
            ·rw [if_neg c23] at H
             have c23b0 : decide (0 ≤ t113) = false := decide_eq_false c23
             clear c23
             have H' := Aside0.mk H
             clear H
             try go_wp2
             replace BK105 := Aside0.mk (blk_drew BK105.out)
             replace HB := Aside0.mk (below_drew1 HB.out)
             have q28 : (x10_1 : Int) ≤ ((l0.length : Int) : Int) := S.oD
             obtain ⟨i028, hi028, _, hsz28, _⟩ := info_parts info47
             have hroom28 : l0.length ≤ c0 := HC0.out
             have hC28 : Kd.C k47 _ (some ad104) l0.length l0 := HR0.out
             have hcut28 := cut_to (P := Try.prog) 25 47 .i64 Try.underlying25 hi028 (some ad104) l0.length c0 x10_1 (S.oD) q28 hroom28
             have hr28 := Kd.C_take (m := (x10_1 : Int).toNat) hC28 (by omega)
             have hy28 : y109.length = (x10_1 : Int).toNat := (by rw [Ny109.out, List.length_take]; omega)
             rw [← Ny109.out] at hr28
             rw [← hy28] at hcut28
             have HR112 := Aside0.mk hr28
             have HC112 := Aside0.mk (show y109.length ≤ c0 from by omega)
             clear hr28 hC28 hroom28 hi028 hsz28
             have KY28 := Aside0.mk hy28
             clear hy28
             replace q28 := eq_true q28
             refine S.st (n := 9) (ds := []) #[false, false, false, false, false, false, false, false, false] (fun w_ h_ => have x_ := S.e3 (S.Q h_ BK105.out); x_) (fun hHeld => ?_); refine with_tabW impl_AreStreets.tab8 impl_AreStreets.bits8 (fun HT_ HW_ => ?_)
             generalize wc.drew = w27 at BK105 HB HR112 hHeld ⊢
             refine S.pS 0 38 ?_
             refine S.pS 1 39 ?_
             refine S.pS 2 40 ?_
             refine S.pS 3 41 ?_
             refine S.pS 5 43 ?_
             refine S.tK 4 42 #[true, true, true, true, true, true, false, false, false] ?_
             refine S.tK 6 44 #[true, true, true, true, true, true, true, false, false] ?_
             refine S.oN 7 45 #[true, true, true, true, true, true, true, true, false] (fun K hK => ?_)
             refine S.go Try.func61 #[.slice (some ad104) y109.length c0, .int .i64 ((rd_T47 l0 x10_1).f0), .int .i64 ((rd_T47 l0 x10_1).f1)] ?_
             with_reducible refine (impl_streetOf.calls _ _ y109 ((rd_T47 l0 x10_1).f0) ((rd_T47 l0 x10_1).f1) t113 _ ?s1 ?s2 A22.out).mono ?_
             (case s1 => exact S.cA HR112.out)
             (case s2 => exact HC112.out)
             rintro e w29 ⟨rfl, hb⟩
             refine ⟨_, rfl, ?_⟩
             replace BK105 := S.kb BK105 hb
             replace HB := S.sG hb
             (try clear hb)
             (try clear hb2)
             (try clear hk)
             (try clear hi)
             refine hK.out _ _ (S.e3 BK105.out) (fun hHeld => ?_)
             clear hK K
             refine S.nm 45 ?_
             refine S.pS 8 46 ?_
             refine done_ (done_of HT_.out (by kernel_rfl)) ?_
             try go_wp2
             go_roundg kj5
             case measure => have := HK1.out; have := HJ5.out; omega
             case rel => exact ⟨(wrap64 (x10_1 + 1)), S.eA, H', ⟨by have := HK1.out; have := HJ5.out; omega⟩, ⟨S.bG⟩⟩
           ·rw [if_neg c21] at H
            exact absurd H (by simp)
          ·rw [if_neg c20] at H
           exact absurd H (by simp)
      ·rw [if_neg c5] at H
       exact absurd H (by simp)
     ·rw [if_neg c4] at H
      exact absurd H (by simp)
    ·obtain rfl := Option.some.inj H
     go_wp2
     go_ret
     exact ⟨S.eW, S.bA⟩

end Go.Proofs.Ytdaofiiedclmpaa.PFnStreets
