/- Printed by a program: what the Go functions compute, as plain Lean functions (.f), and the proofs that the machine's calls come to just that (.calls). -/
import Derived.Test.YtjgigmghcfdomaaPFnSwitchedx0
import Derived.Test.YtjgigmghcfdomaaPFnSwitchedx1
import Derived.Test.YtjgigmghcfdomaaPFnSwitchedx5
import Derived.Test.YtjgigmghcfdomaaPFnSwitchedx11
namespace Go.Proofs.Ytjgigmghcfdomaa.PFnSwitched
open Go.RowKit Go.Proofs.YtjgigmghcfdomaaW.PrintWords Go.Proofs.YtjgigmghcfdomaaW.PrintLast Go.Proofs.YtjgigmghcfdomaaW.PrintMore
attribute [local go_sem] max2_int min2_int max_two min_two max_three min_three max_four min_four   -- for this text's walks alone
set_option linter.unusedVariables false
set_option linter.unusedSimpArgs false
set_option maxHeartbeats 8000000
set_option maxRecDepth 100000
/-! ### laws_contains: function 50 -/
def laws_contains.l0 : Nat → List Int → Int → Int → Option (Bool)
 | 0, _, _, _ => none
 | k + 1, x0, x1, x5 => if x5 < (x0.length : Int) then (if 0 ≤ x5 then (if (rd x0 x5) = x1 then (some true) else (laws_contains.l0 k x0 x1 (wrap64 (x5 + 1)))) else (none)) else (some false)
def laws_contains.f (k : Nat) (l0 : List Int) (a1 : Int) : Option (Bool) := laws_contains.l0 k l0 a1 0
theorem laws_contains.calls (k : Nat) (A0 : Option Addr) (c0 : Nat) (l0 : List Int) (a1 : Int) (r : Bool) (w : World) (hr0 : Kd.C (Kd.int .i64) w A0 l0.length l0) (hc0 : l0.length ≤ c0) (h : laws_contains.f k l0 a1 = some r) :
  Calls Try.prog 50 #[.slice A0 l0.length c0, .int .i64 a1] w fun e w' => e = .returned (.bool r) ∧ Drawn0 w w' := by
 have HR0 := Aside0.mk hr0
 have HC0 := Aside0.mk hc0
 clear hr0 hc0
 have H : (laws_contains.l0 k l0 a1 0) = some r := h
 clear h
 have H' := Aside0.mk H
 clear H
 go_enter Try.func50, Try.ntmps50
 go_wp2
 go_loopg [5] k (fun kq v5 w' => ∃ (x5_1 : Int), v5 = .int .i64 x5_1 ∧ Aside0 (laws_contains.l0 kq l0 a1 x5_1 = some r) ∧ Aside0 (kq ≤ k) ∧ Drawn0 w w')
 case atStart => exact ⟨(0), S.eA, H', ⟨Nat.le_refl _⟩, by repeat (first | exact Drawn0.refl _ | apply Drawn0.step)⟩
 case round =>
  clear H'
  obtain ⟨x5_1, rfl, HA, HK1, ⟨m1, rfl⟩⟩ := hrel
  cases gk with
  | zero => exact absurd HA.out (by simp [laws_contains.l0])
  | succ k1 =>
   have H := HA.out
   clear HA
   simp only [laws_contains.l0] at H
   replace H := S.dc H; rcases H with ⟨H, c3b0⟩ | ⟨H, c3b0⟩
   ·by_cases c4 : 0 ≤ x5_1
    ·rw [if_pos c4] at H
     have c4b0 : decide (0 ≤ x5_1) = true := decide_eq_true c4
     clear c4
     by_cases c5 : (rd l0 x5_1) = a1
     ·rw [if_pos c5] at H
      have c5b0 : ((rd l0 x5_1) == a1) = true := beq_iff_eq.mpr c5
      have c5b1 : ((rd l0 x5_1) != a1) = false := bne_eq_false_iff_eq.mpr c5
      clear c5
      obtain rfl := Option.some.inj H
      have p682 : 0 ≤ (x5_1 : Int) := S.oD
      have q682 : x5_1 < (l0.length : Int) := S.oD
      obtain ⟨ad682, e682, hx682_0⟩ := Kd.at_int HR0.out x5_1 p682 q682
      cases e682
      replace p682 := eq_true p682
      replace q682 := eq_true q682
      go_wp2
      go_ret
      exact ⟨S.eA, by repeat (first | exact Drawn0.refl _ | apply Drawn0.step)⟩
     ·rw [if_neg c5] at H
      have c5b0 : ((rd l0 x5_1) == a1) = false := beq_eq_false_iff_ne.mpr c5
      have c5b1 : ((rd l0 x5_1) != a1) = true := bne_iff_ne.mpr c5
      have H' := Aside0.mk H
      clear H
      have p682 : 0 ≤ (x5_1 : Int) := S.oD
      have q682 : x5_1 < (l0.length : Int) := S.oD
      obtain ⟨ad682, e682, hx682_0⟩ := Kd.at_int HR0.out x5_1 p682 q682
      cases e682
      replace p682 := eq_true p682
      replace q682 := eq_true q682
      go_wp2
      go_roundg k1
      case measure => have := HK1.out; omega
      case rel => exact ⟨(wrap64 (x5_1 + 1)), S.eA, H', ⟨by have := HK1.out; omega⟩, by repeat (first | exact Drawn0.refl _ | apply Drawn0.step)⟩
    ·rw [if_neg c4] at H
     exact absurd H (by simp)
   ·obtain rfl := Option.some.inj H
    go_wp2
    go_ret
    exact ⟨S.eA, by repeat (first | exact Drawn0.refl _ | apply Drawn0.step)⟩

/-! ### impl_IsSafeLights: function 51 -/
mutual
def impl_IsSafeLights.j0 : Nat → List (S71) → List Int → Bool → Option (Bool)
 | 0, _, _, _ => none
 | k + 1, x0, x1, x18 => if x18 = true then (some false) else (impl_IsSafeLights.l0 k x0 x1 x0 (x0.length : Int) 0)
def impl_IsSafeLights.l0 : Nat → List (S71) → List Int → List (S71) → Int → Int → Option (Bool)
 | 0, _, _, _, _, _ => none
 | k + 1, x0, x1, x19, x20, x21 => if x21 < x20 then (if 0 ≤ x21 then (if x21 < (x19.length : Int) then (if x21 < (x1.length : Int) then ((impl_InRange.f (rd x1 x21) 0 2).bind fun t687 => (if t687 = true then (if x21 ≤ (x0.length : Int) then ((some (x0.take (x21 : Int).toNat : List (S71))).bind fun y688 => (impl_IsSafeLights.l1 k x0 x1 x21 x19 x20 x21 y688 (y688.length : Int) 0 ((rd_T71 x19 x21).f0) ((rd_T71 x19 x21).f1) ((rd_T71 x19 x21).f2) ((rd_T71 x19 x21).f3))) else (none)) else (some false))) else (none)) else (none)) else (none)) else (some true)
def impl_IsSafeLights.l1 : Nat → List (S71) → List Int → Int → List (S71) → Int → Int → List (S71) → Int → Int → Int → Int → Int → Int → Option (Bool)
 | 0, _, _, _, _, _, _, _, _, _, _, _, _, _ => none
 | k + 1, x0, x1, x5, x19, x20, x21, x34, x35, x36, x686000, x686001, x686002, x686003 => if x36 < x35 then (if 0 ≤ x36 then (if x36 < (x34.length : Int) then ((impl_Conflict.f k x686000 x686001 x686002 x686003 ((rd_T71 x34 x36).f0) ((rd_T71 x34 x36).f1) ((rd_T71 x34 x36).f2) ((rd_T71 x34 x36).f3)).bind fun t694 => (if t694 = true then (if 0 ≤ x5 then (if x5 < (x1.length : Int) then (if (rd x1 x5) = 0 then (impl_IsSafeLights.l1 k x0 x1 x5 x19 x20 x21 x34 x35 (wrap64 (x36 + 1)) x686000 x686001 x686002 x686003) else (if x36 < (x1.length : Int) then (if (rd x1 x36) = 0 then (impl_IsSafeLights.l1 k x0 x1 x5 x19 x20 x21 x34 x35 (wrap64 (x36 + 1)) x686000 x686001 x686002 x686003) else (some false)) else (none))) else (none)) else (none)) else (impl_IsSafeLights.l1 k x0 x1 x5 x19 x20 x21 x34 x35 (wrap64 (x36 + 1)) x686000 x686001 x686002 x686003))) else (none)) else (none)) else (impl_IsSafeLights.l0 k x0 x1 x19 x20 (wrap64 (x21 + 1)))
end
def impl_IsSafeLights.f (k : Nat) (l0 : List (S71)) (l1 : List Int) : Option (Bool) := (impl_ArePaths.f k l0).bind fun t683 => (if t683 = true then (impl_IsSafeLights.j0 k l0 l1 ((l1.length : Int) != (l0.length : Int))) else (impl_IsSafeLights.j0 k l0 l1 true))
theorem impl_IsSafeLights.calls (k : Nat) (A0 : Option Addr) (c0 : Nat) (l0 : List (S71)) (A1 : Option Addr) (c1 : Nat) (l1 : List Int) (r : Bool) (w : World) (hr0 : Kd.C k71 w A0 l0.length l0) (hc0 : l0.length ≤ c0) (hr1 : Kd.C (Kd.int .i64) w A1 l1.length l1) (hc1 : l1.length ≤ c1) (h : impl_IsSafeLights.f k l0 l1 = some r) :
  Calls Try.prog 51 #[.slice A0 l0.length c0, .slice A1 l1.length c1] w fun e w' => e = .returned (.bool r) ∧ Below w.heap.size w w' := by
 have hu71 := Try.underlying71
 have HR0 := Aside0.mk hr0
 have HC0 := Aside0.mk hc0
 clear hr0 hc0
 have HR1 := Aside0.mk hr1
 have HC1 := Aside0.mk hc1
 clear hr1 hc1
 have HB := Aside0.mk (Below.refl w.heap.size w)
 have H : ((impl_ArePaths.f k l0).bind fun t683 => (if t683 = true then (impl_IsSafeLights.j0 k l0 l1 ((l1.length : Int) != (l0.length : Int))) else (impl_IsSafeLights.j0 k l0 l1 true))) = some r := h
 clear h
 have HC3 := Aside0.mk H
 clear H
 go_enter Try.func51, Try.ntmps51
 go_upto_region 1 with (fail)
 go_cut [18] (fun v18 wc => ∃ (kq : Nat) (x18_2 : Bool), v18 = .bool x18_2 ∧ Aside0 (impl_IsSafeLights.j0 kq l0 l1 x18_2 = some r) ∧ Aside0 (kq ≤ k) ∧ Aside0 (Below w.heap.size w wc))
 case first =>
  have H := HC3.out
  clear HC3
  replace H := S.bd H; obtain ⟨t683, A4, H⟩ := H
  (try dsimp only at H)
  replace H := S.db H; rcases H with ⟨rfl, H⟩ | ⟨rfl, H⟩
  ·have H' := Aside0.mk H
   clear H
   go_wp2_with (first | ((with_reducible refine gate_callee (f := 88) rfl ?_); refine S.gL (some 10) Try.func88 #[.slice A0 l0.length c0] ?_; (with_reducible refine (impl_ArePaths.calls k _ _ l0 true _ ?s1 HC0.out A4.out).mono ?_); (case s1 => exact S.cA HR0.out); rintro e w6 ⟨rfl, hb⟩; refine ⟨_, rfl, ?_⟩; replace HB := S.sA hb; (try clear hb)))
   go_meet
   case rel => exact ⟨_, (((l1.length : Int) != (l0.length : Int))), S.eA, H', S.le, ⟨S.bA⟩⟩
  ·have H' := Aside0.mk H
   clear H
   go_wp2_with (first | ((with_reducible refine gate_callee (f := 88) rfl ?_); refine S.gL (some 10) Try.func88 #[.slice A0 l0.length c0] ?_; (with_reducible refine (impl_ArePaths.calls k _ _ l0 false _ ?s1 HC0.out A4.out).mono ?_); (case s1 => exact S.cA HR0.out); rintro e w7 ⟨rfl, hb⟩; refine ⟨_, rfl, ?_⟩; replace HB := S.sA hb; (try clear hb)))
   go_meet
   case rel => exact ⟨_, (true), S.eA, H', S.le, ⟨S.bA⟩⟩
 case rest =>
  clear HC3
  try clear c1
  obtain ⟨kq, x18_2, rfl, HA, HJ2, HB⟩ := hcut
  cases kq with
  | zero => exact absurd HA.out (by simp [impl_IsSafeLights.j0])
  | succ kj2 =>
   have H := HA.out
   clear HA
   simp only [impl_IsSafeLights.j0] at H
   replace H := S.db H; rcases H with ⟨rfl, H⟩ | ⟨rfl, H⟩
   ·obtain rfl := Option.some.inj H
    go_wp2
    go_ret
    exact ⟨S.eW, S.bA⟩
   ·have H' := Aside0.mk H
    clear H
    go_wp2
    go_loopg [21] kj2 (fun kq v21 w' => ∃ (x21_2 : Int), v21 = .int .i64 x21_2 ∧ Aside0 (impl_IsSafeLights.l0 kq l0 l1 l0 (l0.length : Int) x21_2 = some r) ∧ Aside0 (kq ≤ kj2) ∧ Aside0 (Below w.heap.size w w'))
    case atStart => exact ⟨(0), S.eA, H', ⟨Nat.le_refl _⟩, ⟨S.bA⟩⟩
    case round =>
     clear H'
     try clear c1
     try clear c8
     obtain ⟨x21_2, rfl, HA, HK2, HB⟩ := hrel
     cases gk with
     | zero => exact absurd HA.out (by simp [impl_IsSafeLights.l0])
     | succ k2 =>
      have H := HA.out
      clear HA
      simp only [impl_IsSafeLights.l0] at H
      replace H := S.dc H; rcases H with ⟨H, c9b0⟩ | ⟨H, c9b0⟩
      ·by_cases c10 : 0 ≤ x21_2
       ·rw [if_pos c10] at H
        have c10b0 : decide (0 ≤ x21_2) = true := decide_eq_true c10
        clear c10
        by_cases c11 : x21_2 < (l0.length : Int)
        ·rw [if_pos c11] at H
         have c11b0 : decide (x21_2 < (l0.length : Int)) = true := decide_eq_true c11
         clear c11
         by_cases c12 : x21_2 < (l1.length : Int)
         ·rw [if_pos c12] at H
          have c12b0 : decide (x21_2 < (l1.length : Int)) = true := decide_eq_true c12
          clear c12
          replace H := S.bd H; obtain ⟨t687, A13, H⟩ := H
          (try dsimp only at H)
          replace H := S.db H; rcases H with ⟨rfl, H⟩ | ⟨rfl, H⟩
          ·have c15b0 := eq_true (S.oD : 0 ≤ x21_2)
           by_cases c16 : x21_2 ≤ (l0.length : Int)
           ·rw [if_pos c16] at H
            have c16b0 := eq_true c16
            have c16b1 : decide (x21_2 ≤ (l0.length : Int)) = true := decide_eq_true c16
            clear c16
            obtain ⟨y688, hy688⟩ : ∃ y_ : List (S71), y_ = (l0.take (x21_2 : Int).toNat) := ⟨_, rfl⟩
            have hY_ := hy688; replace H : (impl_IsSafeLights.l1 k2 l0 l1 x21_2 l0 (l0.length : Int) x21_2 y688 (y688.length : Int) 0 ((rd_T71 l0 x21_2).f0) ((rd_T71 l0 x21_2).f1) ((rd_T71 l0 x21_2).f2) ((rd_T71 l0 x21_2).f3)) = some r := S.rh; clear hY_
            have Ny688 := Aside0.mk hy688
            clear hy688
            have H' := Aside0.mk H
            clear H
            have p684 : 0 ≤ (x21_2 : Int) := S.oD
            have q684 : x21_2 < (l0.length : Int) := S.oD
            obtain ⟨ad684, e684, hx684_0, hx684_1, hx684_2, hx684_3⟩ := at_T71 HR0.out x21_2 p684 q684
            cases e684
            replace hx684_0 := S.hb HB hx684_0
            replace hx684_1 := S.hb HB hx684_1
            replace hx684_2 := S.hb HB hx684_2
            replace hx684_3 := S.hb HB hx684_3
            replace p684 := eq_true p684
            replace q684 := eq_true q684
            go_wp2_with (first | ((with_reducible refine gate_dst (N := 6) rfl ?_); (try (refine gate_guard (by rfl) ?_; dsimp only)); refine S.bx 6 (cs := #[.int .i64 0, .int .i64 0, .int .i64 0, .int .i64 0]) (t := 71) ?_; intro gb685 hg w17 hbox hb; have BK685 := Aside0.mk hbox; have GW685 := S.geA hg; have GE685 := S.geA hg; replace HB := S.sA hb; clear hb hbox hg; obtain ⟨Z18a, Z18b, Z18c, Z18d, Y18a, Y18b, Y18c, Y18d⟩ := S.c4 BK685.out) | ((with_reducible refine gate_store (t := 71) (p := 6) rfl ?_); refine store_event (t := 71) (p := 6) (v := ?vo_w19) (w1 := ((((w17.setCell ⟨gb685, 0, none⟩ (.int .i64 ((rd_T71 l0 x21_2).f0))).setCell ⟨gb685, 1, none⟩ (.int .i64 ((rd_T71 l0 x21_2).f1))).setCell ⟨gb685, 2, none⟩ (.int .i64 ((rd_T71 l0 x21_2).f2))).setCell ⟨gb685, 3, none⟩ (.int .i64 ((rd_T71 l0 x21_2).f3)))) ?hg ?ho ?hn ?hr ?_; (case ho => rfl); (case hg => rfl); (case hn => rfl); (case hr => first | (go_simp; done) | (go_simp; rfl)); intro w19 hw; have n0_ : Aside0 (w19.heap[gb685]? = some (.cells #[.int .i64 ((rd_T71 l0 x21_2).f0), .int .i64 ((rd_T71 l0 x21_2).f1), .int .i64 ((rd_T71 l0 x21_2).f2), .int .i64 ((rd_T71 l0 x21_2).f3)] 71 (0, 0))) := ⟨(by rw [hw]; exact (by (with_reducible repeat (first | refine blk_drewN ?_ _ | refine blk_drew ?_ | refine blk_alloc ?_ _)); refine blk_put (cs := #[.int .i64 ((rd_T71 l0 x21_2).f0), .int .i64 ((rd_T71 l0 x21_2).f1), .int .i64 ((rd_T71 l0 x21_2).f2), .int .i64 0]) ?_ 3 _ rfl; (with_reducible repeat (first | refine blk_drewN ?_ _ | refine blk_drew ?_ | refine blk_alloc ?_ _)); refine blk_put (cs := #[.int .i64 ((rd_T71 l0 x21_2).f0), .int .i64 ((rd_T71 l0 x21_2).f1), .int .i64 0, .int .i64 0]) ?_ 2 _ rfl; (with_reducible repeat (first | refine blk_drewN ?_ _ | refine blk_drew ?_ | refine blk_alloc ?_ _)); refine blk_put (cs := #[.int .i64 ((rd_T71 l0 x21_2).f0), .int .i64 0, .int .i64 0, .int .i64 0]) ?_ 1 _ rfl; (with_reducible repeat (first | refine blk_drewN ?_ _ | refine blk_drew ?_ | refine blk_alloc ?_ _)); refine blk_put (cs := #[.int .i64 0, .int .i64 0, .int .i64 0, .int .i64 0]) ?_ 0 _ rfl; (with_reducible repeat (first | refine blk_drewN ?_ _ | refine blk_drew ?_ | refine blk_alloc ?_ _)); exact BK685.out))⟩; have n1_ : Aside0 (Below w.heap.size w w19) := ⟨(by rw [hw]; exact S.bG)⟩; clear hw; clear BK685; clear HB; have BK685 := n0_; have HB := n1_; clear n0_ n1_; have p686 : 0 ≤ (x21_2 : Int) := S.oD; have q686 : x21_2 < (l1.length : Int) := S.oD; obtain ⟨ad686, e686, hx686_0⟩ := Kd.at_int HR1.out x21_2 p686 q686; cases e686; replace hx686_0 := S.hb HB hx686_0; replace p686 := eq_true p686; replace q686 := eq_true q686) | ((with_reducible refine gate_callee (f := 62) rfl ?_); refine S.gL (some 30) Try.func62 #[.int .i64 (rd l1 x21_2), .int .i64 0, .int .i64 2] ?_; (with_reducible refine (impl_InRange.calls (rd l1 x21_2) 0 2 true _ A13.out).mono ?_); rintro e w' ⟨rfl, ⟨nd, rfl⟩⟩; refine ⟨_, rfl, ?_⟩; have q20 : (x21_2 : Int) ≤ ((l0.length : Int) : Int) := S.oD; obtain ⟨i020, hi020, _, hsz20, _⟩ := info_parts info71; have hroom20 : l0.length ≤ c0 := HC0.out; have hC20 : Kd.C k71 _ (some ad684) l0.length l0 := HR0.out; have hcut20 := cut_to (P := Try.prog) 27 71 .i64 Try.underlying27 hi020 (some ad684) l0.length c0 x21_2 (S.oD) q20 hroom20; have hr20 := Kd.C_take (m := (x21_2 : Int).toNat) hC20 (by omega); have hy20 : y688.length = (x21_2 : Int).toNat := (by rw [Ny688.out, List.length_take]; omega); rw [← Ny688.out] at hr20; rw [← hy20] at hcut20; have HR691 := Aside0.mk hr20; have HC691 := Aside0.mk (show y688.length ≤ c0 from by omega); clear hr20 hC20 hroom20 hi020 hsz20; have KY20 := Aside0.mk hy20; clear hy20; replace q20 := eq_true q20))
            go_loopg [36] k2 (fun kq v36 w' => ∃ (x36_3 : Int), v36 = .int .i64 x36_3 ∧ Aside0 (impl_IsSafeLights.l1 kq l0 l1 x21_2 l0 (l0.length : Int) x21_2 y688 (y688.length : Int) x36_3 ((rd_T71 l0 x21_2).f0) ((rd_T71 l0 x21_2).f1) ((rd_T71 l0 x21_2).f2) ((rd_T71 l0 x21_2).f3) = some r) ∧ Aside0 (kq ≤ k2) ∧ Aside0 (w'.heap[gb685]? = some (.cells #[.int .i64 ((rd_T71 l0 x21_2).f0), .int .i64 ((rd_T71 l0 x21_2).f1), .int .i64 ((rd_T71 l0 x21_2).f2), .int .i64 ((rd_T71 l0 x21_2).f3)] 71 (0, 0))) ∧ Aside0 (Below w.heap.size w w'))
            case atStart => exact ⟨(0), S.eA, H', ⟨Nat.le_refl _⟩, ⟨S.uB BK685.out⟩, ⟨S.bG⟩⟩
            case round =>
             clear H'
             try clear c1
             try clear c8
             try clear c9
             try clear c9b0
             try clear c10
             try clear c10b0
             try clear c11
             try clear c11b0
             try clear c12
             try clear c12b0
             try clear c14
             try clear c15b0
             try clear c16
             try clear c16b0
             try clear c16b1
             try clear q20
             try clear Z18a
             try clear Z18b
             try clear Z18c
             try clear Z18d
             try clear Y18a
             try clear Y18b
             try clear Y18c
             try clear Y18d
             try clear hx684_0
             try clear hx684_1
             try clear hx684_2
             try clear hx684_3
             try clear hx686_0
             try clear p684
             try clear p686
             try clear q20
             try clear q684
             try clear q686
             obtain ⟨x36_3, rfl, HA, HK3, BK685, HB⟩ := hrel
             cases gk with
             | zero => exact absurd HA.out (by simp [impl_IsSafeLights.l1])
             | succ k3 =>
              have H := HA.out
              clear HA
              simp only [impl_IsSafeLights.l1] at H
              replace H := S.dc H; rcases H with ⟨H, c21b0⟩ | ⟨H, c21b0⟩
              ·by_cases c22 : 0 ≤ x36_3
               ·rw [if_pos c22] at H
                have c22b0 : decide (0 ≤ x36_3) = true := decide_eq_true c22
                clear c22
                by_cases c23 : x36_3 < (y688.length : Int)
                ·rw [if_pos c23] at H
                 have c23b0 : decide (x36_3 < (y688.length : Int)) = true := decide_eq_true c23
                 clear c23
                 replace H := S.bd H; obtain ⟨t694, A24, H⟩ := H
                 (try dsimp only at H)
                 replace H := S.db H; rcases H with ⟨rfl, H⟩ | ⟨rfl, H⟩
                 ·by_cases c26 : 0 ≤ x21_2
                  ·rw [if_pos c26] at H
                   have c26b0 : decide (0 ≤ x21_2) = true := decide_eq_true c26
                   clear c26
                   by_cases c27 : x21_2 < (l1.length : Int)
                   ·rw [if_pos c27] at H
                    have c27b0 : decide (x21_2 < (l1.length : Int)) = true := decide_eq_true c27
                    clear c27
                    by_cases c28 : (rd l1 x21_2) = 0
                    ·rw [if_pos c28] at H
                     have c28b0 : ((rd l1 x21_2) == 0) = true := beq_iff_eq.mpr c28
                     have c28b1 : ((rd l1 x21_2) != 0) = false := bne_eq_false_iff_eq.mpr c28
                     clear c28
                     have H' := Aside0.mk H
                     clear H
                     have p692 : 0 ≤ (x36_3 : Int) := S.oD
                     have q692 : x36_3 < (y688.length : Int) := S.oD
                     obtain ⟨ad692, e692, hx692_0, hx692_1, hx692_2, hx692_3⟩ := at_T71 HR691.out x36_3 p692 q692
                     obtain rfl : ad684 = ad692 := (by injection e692)
                     replace hx692_0 := S.hb HB hx692_0
                     replace hx692_1 := S.hb HB hx692_1
                     replace hx692_2 := S.hb HB hx692_2
                     replace hx692_3 := S.hb HB hx692_3
                     replace p692 := eq_true p692
                     replace q692 := eq_true q692
                     go_wp2_with (first | ((with_reducible refine gate_dst (N := 8) rfl ?_); (try (refine gate_guard (by rfl) ?_; dsimp only)); refine S.bx 8 (cs := #[.int .i64 0, .int .i64 0, .int .i64 0, .int .i64 0]) (t := 71) ?_; intro gb693 hg w29 hbox hb; have BK693 := Aside0.mk hbox; have GW693 := S.geG hg; have GE693 := S.geG hg; replace HB := S.sG hb; have NB685_693 := S.nl hg BK685; have NB693_685 := S.ng hg BK685; replace BK685 := S.kb BK685 hb; clear hb hbox hg; have hnb30 := NB693_685.out; have hnc30 := NB685_693.out; obtain ⟨Z31a, Z31b, Z31c, Z31d, Y31a, Y31b, Y31c, Y31d⟩ := S.c4 BK693.out; obtain ⟨Z32a, Z32b, Z32c, Z32d, Y32a, Y32b, Y32c, Y32d⟩ := S.c4 BK685.out) | ((with_reducible refine gate_callee (f := 89) rfl ?_); refine S.gL (some 43) Try.func89 #[.agg #[.int .i64 ((rd_T71 l0 x21_2).f0), .int .i64 ((rd_T71 l0 x21_2).f1), .int .i64 ((rd_T71 l0 x21_2).f2), .int .i64 ((rd_T71 l0 x21_2).f3)], .agg #[.int .i64 ((rd_T71 y688 x36_3).f0), .int .i64 ((rd_T71 y688 x36_3).f1), .int .i64 ((rd_T71 y688 x36_3).f2), .int .i64 ((rd_T71 y688 x36_3).f3)]] ?_; (with_reducible refine (impl_Conflict.calls k3 ((rd_T71 l0 x21_2).f0) ((rd_T71 l0 x21_2).f1) ((rd_T71 l0 x21_2).f2) ((rd_T71 l0 x21_2).f3) ((rd_T71 y688 x36_3).f0) ((rd_T71 y688 x36_3).f1) ((rd_T71 y688 x36_3).f2) ((rd_T71 y688 x36_3).f3) true _ A24.out).mono ?_); rintro e w33 ⟨rfl, hb⟩; refine ⟨_, rfl, ?_⟩; replace BK685 := S.kf BK685 NB685_693 hb; replace BK693 := S.kp4 BK693 hb; replace HB := S.sG hb; (try clear hb); have p695 : 0 ≤ (x21_2 : Int) := S.oD; have q695 : x21_2 < (l1.length : Int) := S.oD; obtain ⟨ad695, e695, hx695_0⟩ := Kd.at_int HR1.out x21_2 p695 q695; obtain rfl : ad686 = ad695 := (by injection e695); replace hx695_0 := S.hb HB hx695_0; replace p695 := eq_true p695; replace q695 := eq_true q695))
                     go_roundg k3
                     case measure => have := HJ2.out; have := HK2.out; have := HK3.out; omega
                     case rel => exact ⟨(wrap64 (x36_3 + 1)), S.eA, H', ⟨by have := HJ2.out; have := HK2.out; have := HK3.out; omega⟩, ⟨S.uB BK685.out⟩, ⟨S.bG⟩⟩
                    ·rw [if_neg c28] at H
                     have c28b0 : ((rd l1 x21_2) == 0) = false := beq_eq_false_iff_ne.mpr c28
                     have c28b1 : ((rd l1 x21_2) != 0) = true := bne_iff_ne.mpr c28
                     by_cases c34 : x36_3 < (l1.length : Int)
                     ·rw [if_pos c34] at H
                      have c34b0 : decide (x36_3 < (l1.length : Int)) = true := decide_eq_true c34
                      clear c34
                      by_cases c35 : (rd l1 x36_3) = 0
                      ·rw [if_pos c35] at H
                       have c35b0 : ((rd l1 x36_3) == 0) = true := beq_iff_eq.mpr c35
                       have c35b1 : ((rd l1 x36_3) != 0) = false := bne_eq_false_iff_eq.mpr c35
                       clear c35
                       have H' := Aside0.mk H
                       clear H
                       have p692 : 0 ≤ (x36_3 : Int) := S.oD
                       have q692 : x36_3 < (y688.length : Int) := S.oD
                       obtain ⟨ad692, e692, hx692_0, hx692_1, hx692_2, hx692_3⟩ := at_T71 HR691.out x36_3 p692 q692
                       obtain rfl : ad684 = ad692 := (by injection e692)
                       replace hx692_0 := S.hb HB hx692_0
                       replace hx692_1 := S.hb HB hx692_1
                       replace hx692_2 := S.hb HB hx692_2
                       replace hx692_3 := S.hb HB hx692_3
                       replace p692 := eq_true p692
                       replace q692 := eq_true q692
                       go_wp2_with (first | ((with_reducible refine gate_dst (N := 8) rfl ?_); (try (refine gate_guard (by rfl) ?_; dsimp only)); refine S.bx 8 (cs := #[.int .i64 0, .int .i64 0, .int .i64 0, .int .i64 0]) (t := 71) ?_; intro gb693 hg w36 hbox hb; have BK693 := Aside0.mk hbox; have GW693 := S.geG hg; have GE693 := S.geG hg; replace HB := S.sG hb; have NB685_693 := S.nl hg BK685; have NB693_685 := S.ng hg BK685; replace BK685 := S.kb BK685 hb; clear hb hbox hg; have hnb37 := NB693_685.out; have hnc37 := NB685_693.out; obtain ⟨Z38a, Z38b, Z38c, Z38d, Y38a, Y38b, Y38c, Y38d⟩ := S.c4 BK693.out; obtain ⟨Z39a, Z39b, Z39c, Z39d, Y39a, Y39b, Y39c, Y39d⟩ := S.c4 BK685.out) | ((with_reducible refine gate_callee (f := 89) rfl ?_); refine S.gL (some 43) Try.func89 #[.agg #[.int .i64 ((rd_T71 l0 x21_2).f0), .int .i64 ((rd_T71 l0 x21_2).f1), .int .i64 ((rd_T71 l0 x21_2).f2), .int .i64 ((rd_T71 l0 x21_2).f3)], .agg #[.int .i64 ((rd_T71 y688 x36_3).f0), .int .i64 ((rd_T71 y688 x36_3).f1), .int .i64 ((rd_T71 y688 x36_3).f2), .int .i64 ((rd_T71 y688 x36_3).f3)]] ?_; (with_reducible refine (impl_Conflict.calls k3 ((rd_T71 l0 x21_2).f0) ((rd_T71 l0 x21_2).f1) ((rd_T71 l0 x21_2).f2) ((rd_T71 l0 x21_2).f3) ((rd_T71 y688 x36_3).f0) ((rd_T71 y688 x36_3).f1) ((rd_T71 y688 x36_3).f2) ((rd_T71 y688 x36_3).f3) true _ A24.out).mono ?_); rintro e w40 ⟨rfl, hb⟩; refine ⟨_, rfl, ?_⟩; replace BK685 := S.kf BK685 NB685_693 hb; replace BK693 := S.kp4 BK693 hb; replace HB := S.sG hb; (try clear hb); have p695 : 0 ≤ (x21_2 : Int) := S.oD; have q695 : x21_2 < (l1.length : Int) := S.oD; obtain ⟨ad695, e695, hx695_0⟩ := Kd.at_int HR1.out x21_2 p695 q695; obtain rfl : ad686 = ad695 := (by injection e695); replace hx695_0 := S.hb HB hx695_0; replace p695 := eq_true p695; replace q695 := eq_true q695; have p696 : 0 ≤ (x36_3 : Int) := S.oD; have q696 : x36_3 < (l1.length : Int) := S.oD; obtain ⟨ad696, e696, hx696_0⟩ := Kd.at_int HR1.out x36_3 p696 q696; obtain rfl : ad686 = ad696 := (by injection e696); replace hx696_0 := S.hb HB hx696_0; replace p696 := eq_true p696; replace q696 := eq_true q696))
                       go_roundg k3
                       case measure => have := HJ2.out; have := HK2.out; have := HK3.out; omega
                       case rel => exact ⟨(wrap64 (x36_3 + 1)), S.eA, H', ⟨by have := HJ2.out; have := HK2.out; have := HK3.out; omega⟩, ⟨S.uB BK685.out⟩, ⟨S.bG⟩⟩
                      ·rw [if_neg c35] at H
                       have c35b0 : ((rd l1 x36_3) == 0) = false := beq_eq_false_iff_ne.mpr c35
                       have c35b1 : ((rd l1 x36_3) != 0) = true := bne_iff_ne.mpr c35
                       obtain rfl := Option.some.inj H
                       have p692 : 0 ≤ (x36_3 : Int) := S.oD
                       have q692 : x36_3 < (y688.length : Int) := S.oD
                       obtain ⟨ad692, e692, hx692_0, hx692_1, hx692_2, hx692_3⟩ := at_T71 HR691.out x36_3 p692 q692
                       obtain rfl : ad684 = ad692 := (by injection e692)
                       replace hx692_0 := S.hb HB hx692_0
                       replace hx692_1 := S.hb HB hx692_1
                       replace hx692_2 := S.hb HB hx692_2
                       replace hx692_3 := S.hb HB hx692_3
                       replace p692 := eq_true p692
                       replace q692 := eq_true q692
                       go_wp2_with (first | ((with_reducible refine gate_dst (N := 8) rfl ?_); (try (refine gate_guard (by rfl) ?_; dsimp only)); refine S.bx 8 (cs := #[.int .i64 0, .int .i64 0, .int .i64 0, .int .i64 0]) (t := 71) ?_; intro gb693 hg w41 hbox hb; have BK693 := Aside0.mk hbox; have GW693 := S.geG hg; have GE693 := S.geG hg; replace HB := S.sG hb; have NB685_693 := S.nl hg BK685; have NB693_685 := S.ng hg BK685; replace BK685 := S.kb BK685 hb; clear hb hbox hg; have hnb42 := NB693_685.out; have hnc42 := NB685_693.out; obtain ⟨Z43a, Z43b, Z43c, Z43d, Y43a, Y43b, Y43c, Y43d⟩ := S.c4 BK693.out; obtain ⟨Z44a, Z44b, Z44c, Z44d, Y44a, Y44b, Y44c, Y44d⟩ := S.c4 BK685.out) | ((with_reducible refine gate_callee (f := 89) rfl ?_); refine S.gL (some 43) Try.func89 #[.agg #[.int .i64 ((rd_T71 l0 x21_2).f0), .int .i64 ((rd_T71 l0 x21_2).f1), .int .i64 ((rd_T71 l0 x21_2).f2), .int .i64 ((rd_T71 l0 x21_2).f3)], .agg #[.int .i64 ((rd_T71 y688 x36_3).f0), .int .i64 ((rd_T71 y688 x36_3).f1), .int .i64 ((rd_T71 y688 x36_3).f2), .int .i64 ((rd_T71 y688 x36_3).f3)]] ?_; (with_reducible refine (impl_Conflict.calls k3 ((rd_T71 l0 x21_2).f0) ((rd_T71 l0 x21_2).f1) ((rd_T71 l0 x21_2).f2) ((rd_T71 l0 x21_2).f3) ((rd_T71 y688 x36_3).f0) ((rd_T71 y688 x36_3).f1) ((rd_T71 y688 x36_3).f2) ((rd_T71 y688 x36_3).f3) true _ A24.out).mono ?_); rintro e w45 ⟨rfl, hb⟩; refine ⟨_, rfl, ?_⟩; replace BK685 := S.kf BK685 NB685_693 hb; replace BK693 := S.kp4 BK693 hb; replace HB := S.sG hb; (try clear hb); have p695 : 0 ≤ (x21_2 : Int) := S.oD; have q695 : x21_2 < (l1.length : Int) := S.oD; obtain ⟨ad695, e695, hx695_0⟩ := Kd.at_int HR1.out x21_2 p695 q695; obtain rfl : ad686 = ad695 := (by injection e695); replace hx695_0 := S.hb HB hx695_0; replace p695 := eq_true p695; replace q695 := eq_true q695; have p696 : 0 ≤ (x36_3 : Int) := S.oD; have q696 : x36_3 < (l1.length : Int) := S.oD; obtain ⟨ad696, e696, hx696_0⟩ := Kd.at_int HR1.out x36_3 p696 q696; obtain rfl : ad686 = ad696 := (by injection e696); replace hx696_0 := S.hb HB hx696_0; replace p696 := eq_true p696; replace q696 := eq_true q696))
                       go_ret
                       exact ⟨S.eW, S.bG⟩
                     ·rw [if_neg c34] at H
                      exact absurd H (by simp)
                   ·rw [if_neg c27] at H
                    exact absurd H (by simp)
                  ·rw [if_neg c26] at H
                   exact absurd H (by simp)
                 ·have H' := Aside0.mk H
                  clear H
                  have p692 : 0 ≤ (x36_3 : Int) := S.oD
                  have q692 : x36_3 < (y688.length : Int) := S.oD
                  obtain ⟨ad692, e692, hx692_0, hx692_1, hx692_2, hx692_3⟩ := at_T71 HR691.out x36_3 p692 q692
                  obtain rfl : ad684 = ad692 := (by injection e692)
                  replace hx692_0 := S.hb HB hx692_0
                  replace hx692_1 := S.hb HB hx692_1
                  replace hx692_2 := S.hb HB hx692_2
                  replace hx692_3 := S.hb HB hx692_3
                  replace p692 := eq_true p692
                  replace q692 := eq_true q692
                  go_wp2_with (first | ((with_reducible refine gate_dst (N := 8) rfl ?_); (try (refine gate_guard (by rfl) ?_; dsimp only)); refine S.bx 8 (cs := #[.int .i64 0, .int .i64 0, .int .i64 0, .int .i64 0]) (t := 71) ?_; intro gb693 hg w46 hbox hb; have BK693 := Aside0.mk hbox; have GW693 := S.geG hg; have GE693 := S.geG hg; replace HB := S.sG hb; have NB685_693 := S.nl hg BK685; have NB693_685 := S.ng hg BK685; replace BK685 := S.kb BK685 hb; clear hb hbox hg; have hnb47 := NB693_685.out; have hnc47 := NB685_693.out; obtain ⟨Z48a, Z48b, Z48c, Z48d, Y48a, Y48b, Y48c, Y48d⟩ := S.c4 BK693.out; obtain ⟨Z49a, Z49b, Z49c, Z49d, Y49a, Y49b, Y49c, Y49d⟩ := S.c4 BK685.out) | ((with_reducible refine gate_callee (f := 89) rfl ?_); refine S.gL (some 43) Try.func89 #[.agg #[.int .i64 ((rd_T71 l0 x21_2).f0), .int .i64 ((rd_T71 l0 x21_2).f1), .int .i64 ((rd_T71 l0 x21_2).f2), .int .i64 ((rd_T71 l0 x21_2).f3)], .agg #[.int .i64 ((rd_T71 y688 x36_3).f0), .int .i64 ((rd_T71 y688 x36_3).f1), .int .i64 ((rd_T71 y688 x36_3).f2), .int .i64 ((rd_T71 y688 x36_3).f3)]] ?_; (with_reducible refine (impl_Conflict.calls k3 ((rd_T71 l0 x21_2).f0) ((rd_T71 l0 x21_2).f1) ((rd_T71 l0 x21_2).f2) ((rd_T71 l0 x21_2).f3) ((rd_T71 y688 x36_3).f0) ((rd_T71 y688 x36_3).f1) ((rd_T71 y688 x36_3).f2) ((rd_T71 y688 x36_3).f3) false _ A24.out).mono ?_); rintro e w50 ⟨rfl, hb⟩; refine ⟨_, rfl, ?_⟩; replace BK685 := S.kf BK685 NB685_693 hb; replace BK693 := S.kp4 BK693 hb; replace HB := S.sG hb; (try clear hb)))
                  go_roundg k3
                  case measure => have := HJ2.out; have := HK2.out; have := HK3.out; omega
                  case rel => exact ⟨(wrap64 (x36_3 + 1)), S.eA, H', ⟨by have := HJ2.out; have := HK2.out; have := HK3.out; omega⟩, ⟨S.uB BK685.out⟩, ⟨S.bG⟩⟩
                ·rw [if_neg c23] at H
                 exact absurd H (by simp)
               ·rw [if_neg c22] at H
                exact absurd H (by simp)
              ·have H' := Aside0.mk H
               clear H
               go_wp2
               go_roundg k3
               case measure => have := HJ2.out; have := HK2.out; have := HK3.out; omega
               case rel => exact ⟨(wrap64 (x21_2 + 1)), S.eA, H', ⟨by have := HJ2.out; have := HK2.out; have := HK3.out; omega⟩, ⟨S.bG⟩⟩
           ·rw [if_neg c16] at H
            exact absurd H (by simp)
          ·obtain rfl := Option.some.inj H
           have p684 : 0 ≤ (x21_2 : Int) := S.oD
           have q684 : x21_2 < (l0.length : Int) := S.oD
           obtain ⟨ad684, e684, hx684_0, hx684_1, hx684_2, hx684_3⟩ := at_T71 HR0.out x21_2 p684 q684
           cases e684
           replace hx684_0 := S.hb HB hx684_0
           replace hx684_1 := S.hb HB hx684_1
           replace hx684_2 := S.hb HB hx684_2
           replace hx684_3 := S.hb HB hx684_3
           replace p684 := eq_true p684
           replace q684 := eq_true q684
           go_wp2_with (first | ((with_reducible refine gate_dst (N := 6) rfl ?_); (try (refine gate_guard (by rfl) ?_; dsimp only)); refine S.bx 6 (cs := #[.int .i64 0, .int .i64 0, .int .i64 0, .int .i64 0]) (t := 71) ?_; intro gb685 hg w51 hbox hb; have BK685 := Aside0.mk hbox; have GW685 := S.geA hg; have GE685 := S.geA hg; replace HB := S.sA hb; clear hb hbox hg; obtain ⟨Z52a, Z52b, Z52c, Z52d, Y52a, Y52b, Y52c, Y52d⟩ := S.c4 BK685.out; have p686 : 0 ≤ (x21_2 : Int) := S.oD; have q686 : x21_2 < (l1.length : Int) := S.oD; obtain ⟨ad686, e686, hx686_0⟩ := Kd.at_int HR1.out x21_2 p686 q686; cases e686; have hn686_0 : ad686.block ≠ gb685 := Nat.ne_of_lt (Nat.lt_of_lt_of_le (by have := World.block_lt_of_cell? _ _ hx686_0; first | rwa [add_block] at this | exact this) GW685.out); have hn686_1 : ad686.block ≠ gb685 := Nat.ne_of_lt (Nat.lt_of_lt_of_le (by have := World.block_lt_of_cell? _ _ hx686_0; first | rwa [add_block] at this | exact this) GW685.out); have hn686_2 : ad686.block ≠ gb685 := Nat.ne_of_lt (Nat.lt_of_lt_of_le (by have := World.block_lt_of_cell? _ _ hx686_0; first | rwa [add_block] at this | exact this) GW685.out); have hn686_3 : ad686.block ≠ gb685 := Nat.ne_of_lt (Nat.lt_of_lt_of_le (by have := World.block_lt_of_cell? _ _ hx686_0; first | rwa [add_block] at this | exact this) GW685.out); replace hx686_0 := S.hb HB hx686_0; replace hx686_0 := (cell_far (p := ⟨gb685, 0, none⟩) (by first | (rw [add_block]; exact hn686_0) | (show (Addr.add _ _).block ≠ _; rw [add_block]; exact hn686_0) | exact hn686_0) (.int .i64 ((rd_T71 l0 x21_2).f0))).trans hx686_0; replace hx686_0 := (cell_far (p := ⟨gb685, 1, none⟩) (by first | (rw [add_block]; exact hn686_1) | (show (Addr.add _ _).block ≠ _; rw [add_block]; exact hn686_1) | exact hn686_1) (.int .i64 ((rd_T71 l0 x21_2).f1))).trans hx686_0; replace hx686_0 := (cell_far (p := ⟨gb685, 2, none⟩) (by first | (rw [add_block]; exact hn686_2) | (show (Addr.add _ _).block ≠ _; rw [add_block]; exact hn686_2) | exact hn686_2) (.int .i64 ((rd_T71 l0 x21_2).f2))).trans hx686_0; replace hx686_0 := (cell_far (p := ⟨gb685, 3, none⟩) (by first | (rw [add_block]; exact hn686_3) | (show (Addr.add _ _).block ≠ _; rw [add_block]; exact hn686_3) | exact hn686_3) (.int .i64 ((rd_T71 l0 x21_2).f3))).trans hx686_0; clear hn686_0; clear hn686_1; clear hn686_2; clear hn686_3; replace p686 := eq_true p686; replace q686 := eq_true q686) | ((with_reducible refine gate_callee (f := 62) rfl ?_); refine S.gL (some 30) Try.func62 #[.int .i64 (rd l1 x21_2), .int .i64 0, .int .i64 2] ?_; (with_reducible refine (impl_InRange.calls (rd l1 x21_2) 0 2 false _ A13.out).mono ?_); rintro e w' ⟨rfl, ⟨nd, rfl⟩⟩; refine ⟨_, rfl, ?_⟩))
           go_ret
           exact ⟨S.eW, S.bG⟩
         ·rw [if_neg c12] at H
          exact absurd H (by simp)
        ·rw [if_neg c11] at H
         exact absurd H (by simp)
       ·rw [if_neg c10] at H
        exact absurd H (by simp)
      ·obtain rfl := Option.some.inj H
       go_wp2
       go_ret
       exact ⟨S.eW, S.bA⟩

/-! ### spec_DrawRotatePlan: function 52 -/
def spec_DrawRotatePlan.f (k : Nat) (l0 : List Int) : Option ((List (S85)) × Int) := (spec_DrawSwitchSeconds.f k l0).bind fun b => (spec_l1New.f k l0).bind fun c => (spec_l1Below.f c.1 c.2.1 c.2.2 6).bind fun t => some (b.2.1, wrap64 (t.1 - 1))
theorem spec_DrawRotatePlan.calls (k : Nat) (A0 : Option Addr) (c0 : Nat) (l0 : List Int) (r1 : List (S85)) (r2 : Int) (w : World) (hr0 : Kd.C (Kd.int .u8) w A0 l0.length l0) (hc0 : l0.length ≤ c0) (h : spec_DrawRotatePlan.f k l0 = some (r1, r2)) :
 Calls Try.prog 52 #[.slice A0 l0.length c0] w fun e w' => ∃ v0_ : Value, e = .returned (.tuple #[v0_, .int .i64 r2]) ∧ Kd.V k85 85 w' w.heap.size (fun k_ => (w.heap.size ≤ k_)) v0_ r1 ∧ Below w.heap.size w w' := by
 have HR0 := Aside0.mk hr0
 have HC0 := Aside0.mk hc0
 clear hr0 hc0
 have HB := Aside0.mk (Below.refl w.heap.size w)
 unfold spec_DrawRotatePlan.f at h
 replace h := S.bd h; obtain ⟨⟨b1, b2, b3⟩, A1, h⟩ := h
 replace h := S.bd h; obtain ⟨⟨s0, s1, s2⟩, A2, h⟩ := h
 replace h := S.bd h; obtain ⟨⟨t0, t1, t2⟩, A3, h⟩ := h
 dsimp only at A2 A3 h
 injection h with h
 obtain ⟨rfl, rfl⟩ : b2 = r1 ∧ wrap64 (t0 - 1) = r2 := by simpa using h
 go_enter Try.func52, Try.ntmps52
 go_wp2_with (first | ((with_reducible refine gate_callee (f := 87) rfl ?_); refine S.gL (some 10) Try.func87 #[.slice A0 l0.length c0] ?_; (with_reducible refine (spec_DrawSwitchSeconds.calls k _ _ l0 b1 b2 b3 _ ?s1 HC0.out A1.out).mono ?_); (case s1 => exact S.cA HR0.out); rintro e w1 ⟨v0, v1, v2, rfl, hv0, hv1, hv2, hb⟩; refine ⟨_, rfl, ?_⟩; have HV0 := Aside0.mk hv0; have HV1 := Aside0.mk hv1; have HV2 := Aside0.mk hv2; replace HB := Aside0.mk hb; clear hv0 hv1 hv2 hb) | ((with_reducible refine gate_callee (f := 76) rfl ?_); refine S.gL (some 15) Try.func76 #[.slice A0 l0.length c0] ?_; (with_reducible refine (spec_l1New.calls k _ _ l0 s0 s1 s2 w1 _ ?s2 ?s1 HC0.out A2.out).mono ?_); (case s2 => first | exact Below.refl _ _ | exact below_drew (Below.refl _ _)); (case s1 => exact Kd.C_below HR0.out HB.out); rintro e w2 ⟨g, rfl, hi, hb, hb2⟩; refine ⟨_, rfl, ?_⟩; have HI := Aside0.mk hi; have HB1 := Aside0.mk hb; clear hi hb hb2) | ((with_reducible refine gate_callee (f := 90) rfl ?_); refine S.gL (some 18) Try.func90 #[.pointer (some ⟨g, 0, none⟩), .int .i64 6] ?_; (with_reducible refine (spec_l1Below.calls g s0 s1 s2 6 t0 t1 t2 w1 _ ?s1 ?s2 A3.out).mono ?_); (case s1 => repeat (first | (with_reducible first | exact HI.out | apply IsS114.alloc | apply IsS114.drewN | apply IsS114.drew) | exact HI.out)); (case s2 => repeat (first | (with_reducible first | exact HB1.out | apply below_alloc | apply pw_below_drewN | apply below_drew1) | exact HB1.out)); rintro e w3 ⟨rfl, hi, hb, hk⟩; refine ⟨_, rfl, ?_⟩; replace HI := Aside0.mk hi; replace HB1 := Aside0.mk hb; clear hi hb hk))
 refine bodyPost_ret (results_list (rs := [.tmp 2, .tmp 3]) rfl (by simp) (.tmp (.tmp .nil))) rfl ?_
 have HV0' := Kd.R_below HV0.out HB1.out
 have HV1' := Kd.V_step HV1.out (fun k _ hk => HB1.out.block k hk)
 have HV2' := Kd.N_below HV2.out HB1.out
 have HBB := below_step HB.out HB1.out
 exact ⟨v1, S.eW, by (with_reducible repeat (first | apply Kd.V_alloc | apply Kd.V_drewN | apply Kd.V_drew)); exact Kd.V_mono HV1' (fun _ hk => hk.1), by repeat (first | (with_reducible first | exact HBB | apply below_alloc | apply pw_below_drewN | apply below_drew1) | exact HBB)⟩

-- NOT PRINTED: function 92 (impl_Part_92)

/-! ## impl.EqualPlans: its closure and slices.EqualFunc -/
theorem Eqp.clo (k : Nat) (A1 A2 : Option Addr) (c1 c2 : Nat) (xs ys : List Int) (g1 g2 : Int) (r : Bool) (w : World) (h1 : Kd.C (Kd.int .i64) w A1 xs.length xs) (hc1 : xs.length ≤ c1) (h2 : Kd.C (Kd.int .i64) w A2 ys.length ys) (hc2 : ys.length ≤ c2)
  (h : (if g1 = g2 then slices_Equal_int_int.f k xs ys else some false) = some r) : Calls Try.prog 93 #[.agg #[.slice A1 xs.length c1, .int .i64 g1], .agg #[.slice A2 ys.length c2, .int .i64 g2]] w fun e w' => e = .returned (.bool r) ∧ Below w.heap.size w w' := by
 have H1 := Aside0.mk h1
 have H2 := Aside0.mk h2
 have C1 := Aside0.mk hc1
 have C2 := Aside0.mk hc2
 clear h1 h2 hc1 hc2
 by_cases e1 : g1 = g2
 ·rw [if_pos e1] at h
  have H := Aside0.mk h
  have d1 : (g1 == g2) = true := by simp [e1]
  have E1 := Aside0.mk e1
  clear h e1
  go_enter Try.func93, Try.ntmps93
  go_wp2_with (fail)
  (with_reducible refine (slices_Equal_int_int.calls k _ _ xs _ _ ys r _ ?s1 C1.out ?s2 C2.out H.out).mono ?_)
  (case s1 => repeat (first | exact H1.out | (with_reducible refine Kd.C_alloc ?_ _) | (with_reducible refine Kd.C_drewN ?_ _) | (with_reducible refine Kd.C_drew ?_)))
  (case s2 => repeat (first | exact H2.out | (with_reducible refine Kd.C_alloc ?_ _) | (with_reducible refine Kd.C_drewN ?_ _) | (with_reducible refine Kd.C_drew ?_)))
  rintro e w' ⟨rfl, ⟨nd, rfl⟩⟩
  dsimp only
  go_wp2_with (fail)
  go_ret
  exact ⟨rfl, by repeat (first | (with_reducible first | exact Below.refl _ _ | apply below_alloc | apply pw_below_drewN | apply below_drew1) | exact Below.refl _ _)⟩
 ·rw [if_neg e1] at h
  obtain rfl := Option.some.inj h
  have d1 : (g1 == g2) = false := by simp [e1]
  have E1 := Aside0.mk e1
  clear h e1
  go_enter Try.func93, Try.ntmps93
  go_wp2
  repeat (go_quiet (fail); try go_wp2)
  go_ret
  exact ⟨rfl, by repeat (first | (with_reducible first | exact Below.refl _ _ | apply below_alloc | apply pw_below_drewN | apply below_drew1) | exact Below.refl _ _)⟩
def impl_EqualPlans.l0 : Nat → List (S85) → List (S85) → Int → Option (Bool)
 | 0, _, _, _ => none
 | k + 1, x0, x1, x17 => if x17 < (x0.length : Int) then (if 0 ≤ x17 then (if x17 < (x1.length : Int) then ((if (rd_T85 x0 x17).f1 = (rd_T85 x1 x17).f1 then slices_Equal_int_int.f k (rd_T85 x0 x17).f0 (rd_T85 x1 x17).f0 else some false).bind fun t => (if t = true then (impl_EqualPlans.l0 k x0 x1 (wrap64 (x17 + 1))) else (some false))) else (none)) else (none)) else (some true)
def impl_EqualPlans.f (k : Nat) (l0 : List (S85)) (l1 : List (S85)) : Option (Bool) := if (l0.length : Int) = (l1.length : Int) then (impl_EqualPlans.l0 k l0 l1 0) else (some false)
theorem Eqp.fn (k : Nat) (A0 : Option Addr) (c0 : Nat) (l0 : List (S85)) (A1 : Option Addr) (c1 : Nat) (l1 : List (S85)) (r : Bool) (w : World) (eg : ∀ args w, (callFunc 93 args).run Try.prog w = .ok (.enter 93 args) w) (hr0 : Kd.C k85 w A0 l0.length l0) (hr1 : Kd.C k85 w A1 l1.length l1) (h : impl_EqualPlans.f k l0 l1 = some r) :
  Calls Try.prog 92 #[.slice A0 l0.length c0, .slice A1 l1.length c1, .func (.func 93) #[] #[]] w fun e w' => e = .returned (.bool r) ∧ Below w.heap.size w w' := by
 have hbig : l0.length ≤ 9223372036854775807 := hr0.2.1
 have HR0 := Aside0.mk hr0
 have HR1 := Aside0.mk hr1
 clear hr0 hr1
 unfold impl_EqualPlans.f at h
 by_cases e0 : (l0.length : Int) = (l1.length : Int)
 ·rw [if_pos e0] at h
  have H := Aside0.mk h
  have e1 : l0.length = l1.length := by omega
  have d1 : ((l0.length : Int) == (l1.length : Int)) = true := beq_iff_eq.2 e0
  have d2 : ((l0.length : Int) != (l1.length : Int)) = false := bne_eq_false_iff_eq.2 e0
  have d3 : (l0.length == l1.length) = true := beq_iff_eq.2 e1
  have d4 : (l0.length != l1.length) = false := bne_eq_false_iff_eq.2 e1
  have E := Aside0.mk e1
  clear h e0 e1
  go_enter Try.func92, Try.ntmps92
  go_wp2
  go_loopg [7, 8, 9, 17] k (fun gg _ _ _ v17 wr => ∃ x17 : Int, v17 = .int .i64 x17 ∧ Aside0 (impl_EqualPlans.l0 gg l0 l1 x17 = some r) ∧ Aside0 (gg ≤ k) ∧ Aside0 (Below w.heap.size w wr))
  case atStart => exact ⟨0, rfl, H, ⟨Nat.le_refl _⟩, ⟨Below.refl _ w⟩⟩
  case round =>
   clear H
   obtain ⟨x17, rfl, HA, HK1, HB⟩ := hrel
   cases gk with
   | zero => exact absurd HA.out (by simp [impl_EqualPlans.l0])
   | succ k1 =>
    have H := HA.out
    clear HA
    simp only [impl_EqualPlans.l0] at H
    replace H := S.dc H; rcases H with ⟨H, c3⟩ | ⟨H, c3⟩
    ·by_cases c4 : 0 ≤ x17
     ·rw [if_pos c4] at H
      by_cases c5 : x17 < (l1.length : Int)
      ·rw [if_pos c5] at H
       have c4b : decide (0 ≤ x17) = true := decide_eq_true c4
       have c5b : decide (x17 < (l1.length : Int)) = true := decide_eq_true c5
       replace H := S.bd H; obtain ⟨t, AT, H⟩ := H
       have p0 : x17 < (l0.length : Int) := of_decide_eq_true c3
       obtain ⟨ad0, B0, q0, e0, hx0, hx1, hl0, hi0⟩ := at_T85 HR0.out x17 c4 p0
       cases e0
       obtain ⟨ad1, B1, q1, e1, hy0, hy1, hl1, hi1⟩ := at_T85 HR1.out x17 c4 c5
       cases e1
       replace hx0 := S.hb HB hx0
       replace hx1 := S.hb HB hx1
       replace hy0 := S.hb HB hy0
       replace hy1 := S.hb HB hy1
       have HI0 := Aside0.mk hi0
       have HI1 := Aside0.mk hi1
       have HL0 := Aside0.mk hl0
       have HL1 := Aside0.mk hl1
       clear hi0 hi1 hl0 hl1
       replace c4 := eq_true c4
       replace c5 := eq_true c5
       replace p0 := eq_true p0
       generalize hX : rd_T85 l0 x17 = X at hx0 hx1 AT HI0 HL0
       generalize hY : rd_T85 l1 x17 = Y at hy0 hy1 AT HI1 HL1
       clear hX hY
       obtain ⟨X0, X1⟩ := X
       obtain ⟨Y0, Y1⟩ := Y
       have H' := Aside0.mk H
       clear H
       have hz0 := S.hb (W := wr.alloc (.cells #[.slice B0 X0.length q0, .int .i64 X1] 85)) ⟨below_alloc (Below.refl _ wr) _⟩ hy0
       have hz1 := S.hb (W := wr.alloc (.cells #[.slice B0 X0.length q0, .int .i64 X1] 85)) ⟨below_alloc (Below.refl _ wr) _⟩ hy1
       go_wp2_with (fail)
       (with_reducible refine (Eqp.clo k1 _ _ _ _ X0 Y0 X1 Y1 t _ ?s1 HL0.out ?s2 HL1.out AT.out).mono ?_)
       (case s1 => exact S.cA HI0.out)
       (case s2 => exact S.cA HI1.out)
       rintro e w8 ⟨rfl, hb⟩
       replace HB := S.sA hb
       clear hb
       dsimp only
       have H := H'.out
       clear H'
       replace H := S.db H; rcases H with ⟨rfl, H⟩ | ⟨rfl, H⟩
       ·have H' := Aside0.mk H
        clear H
        go_wp2_with (fail)
        go_roundg k1
        case measure => have := HK1.out; omega
        case rel => exact ⟨_, rfl, H', ⟨by have := HK1.out; omega⟩, HB⟩
       ·obtain rfl := Option.some.inj H
        clear H
        go_wp2_with (fail)
        go_ret
        exact ⟨rfl, HB.out⟩
      ·rw [if_neg c5] at H
       exact absurd H (by simp)
     ·rw [if_neg c4] at H
      exact absurd H (by simp)
    ·obtain rfl := Option.some.inj H
     go_wp2
     go_ret
     exact ⟨rfl, HB.out⟩
 ·rw [if_neg e0] at h
  obtain rfl := Option.some.inj h
  have e1 : ¬ l0.length = l1.length := by omega
  have d1 : ((l0.length : Int) == (l1.length : Int)) = false := beq_eq_false_iff_ne.2 e0
  have d2 : ((l0.length : Int) != (l1.length : Int)) = true := bne_iff_ne.2 e0
  have d3 : (l0.length == l1.length) = false := beq_eq_false_iff_ne.2 e1
  have d4 : (l0.length != l1.length) = true := bne_iff_ne.2 e1
  have E := Aside0.mk e1
  clear h e0 e1
  go_enter Try.func92, Try.ntmps92
  go_wp2
  go_ret
  exact ⟨rfl, Below.refl _ w⟩
/-! ### impl_EqualPlans: function 54 -/
set_option maxHeartbeats 8000000 in
theorem impl_EqualPlans.calls (k : Nat) (A0 : Option Addr) (c0 : Nat) (l0 : List (S85)) (A1 : Option Addr) (c1 : Nat) (l1 : List (S85)) (r : Bool) (w : World) (hr0 : Kd.C k85 w A0 l0.length l0) (hc0 : l0.length ≤ c0) (hr1 : Kd.C k85 w A1 l1.length l1) (hc1 : l1.length ≤ c1) (h : impl_EqualPlans.f k l0 l1 = some r) :
 Calls Try.prog 54 #[.slice A0 l0.length c0, .slice A1 l1.length c1] w fun e w' => e = .returned (.bool r) ∧ Below w.heap.size w w' := by
 have eg : ∀ args w, (callFunc 93 args).run Try.prog w = .ok (.enter 93 args) w := Go.Proofs.Ytjgigmghcfdomaa.Hnd.enters_fn Try.func93 (by kernel_rfl) rfl
 have hcon := Eqp.fn k A0 c0 l0 A1 c1 l1 r w eg hr0 hr1 h
 clear hr0 hc0 hr1 hc1 eg h
 go_enter Try.func54, Try.ntmps54
 go_wp2_with (fail)
 refine hcon.mono ?_
 rintro e w' ⟨rfl, hb'⟩
 have HB' := Aside0.mk hb'
 clear hcon hb'
 dsimp only
 go_wp2_with (fail)
 go_ret
 exact ⟨rfl, HB'.out⟩

/-! ### spec_DrawMakeSwitch: function 55 -/
def spec_DrawMakeSwitch.f (k : Nat) (l0 : List Int) : Option ((List (S71)) × (List (S85)) × (List (S85))) := (spec_DrawSwitchSeconds.f k l0).bind fun bt697 => (some (bt697.1, bt697.2.1, bt697.2.2))
theorem spec_DrawMakeSwitch.calls (k : Nat) (A0 : Option Addr) (c0 : Nat) (l0 : List Int) (r1 : List (S71)) (r2 : List (S85)) (r3 : List (S85)) (w : World) (hr0 : Kd.C (Kd.int .u8) w A0 l0.length l0) (hc0 : l0.length ≤ c0) (h : spec_DrawMakeSwitch.f k l0 = some (r1, r2, r3)) :
  Calls Try.prog 55 #[.slice A0 l0.length c0] w fun e w' => ∃ v0_ v1_ v2_ : Value, e = .returned (.tuple #[v0_, v1_, v2_]) ∧ Kd.R k71 71 w' w.heap.size (fun k_ => (w.heap.size ≤ k_)) v0_ r1 ∧ Kd.V k85 85 w' w.heap.size (fun k_ => (w.heap.size ≤ k_) ∧ some k_ ≠ (v0_ : Value).ownBlock ∧ some k_ ≠ (v2_ : Value).ownBlock) v1_ r2 ∧ Kd.N k85 85 w' w.heap.size (fun k_ => (w.heap.size ≤ k_) ∧ some k_ ≠ (v0_ : Value).ownBlock) v2_ r3 ∧ Below w.heap.size w w' := by
 have HR0 := Aside0.mk hr0
 have HC0 := Aside0.mk hc0
 clear hr0 hc0
 have HB := Aside0.mk (Below.refl w.heap.size w)
 have H : ((spec_DrawSwitchSeconds.f k l0).bind fun bt697 => (some (bt697.1, bt697.2.1, bt697.2.2))) = some (r1, r2, r3) := h
 clear h
 replace H := S.bd H; obtain ⟨⟨t697, t700, t703⟩, A2, H⟩ := H
 (try dsimp only at H)
 simp only [Option.some.injEq, Prod.mk.injEq] at H
 obtain ⟨rfl, rfl, rfl⟩ := H
 go_enter Try.func55, Try.ntmps55
 go_wp2_with (first | ((with_reducible refine gate_callee (f := 87) rfl ?_); refine S.gL (some 6) Try.func87 #[.slice A0 l0.length c0] ?_; (with_reducible refine (spec_DrawSwitchSeconds.calls k _ _ l0 t697 t700 t703 _ ?s1 HC0.out A2.out).mono ?_); (case s1 => exact S.cD HR0.out); rintro e w3 ⟨v698, v701, v704, rfl, ho0, ho1, ho2, hb⟩; refine ⟨_, rfl, ?_⟩; have HO699 := Aside0.mk (Kd.R_lower (Kd.R_newM (M := fun k_ => (w.heap.size ≤ k_)) (Kd.R_mono (ok' := fun k_ => True) ho0 (fun _ hk_ => trivial)) (below_size S.bA) (fun k_ h_ => h_)) (below_size S.bA)); have HO702 := Aside0.mk (Kd.V_lower (Kd.V_mono (ok' := fun k_ => (w.heap.size ≤ k_) ∧ S.N k_ v698 ∧ S.N k_ v704) ho1 (fun k_ hk_ => ⟨(Nat.le_trans (below_size S.bA) hk_.1), hk_.2.1, hk_.2.2⟩)) (below_size S.bA)); have HO705 := Aside0.mk (Kd.N_lower (Kd.N_mono (ok' := fun k_ => (w.heap.size ≤ k_) ∧ S.N k_ v698) ho2 (fun k_ hk_ => ⟨(Nat.le_trans (below_size S.bA) hk_.1), hk_.2⟩)) (below_size S.bA)); replace HB := S.sA hb; (try clear hb); (try clear ho0); (try clear ho1); (try clear ho2)))
 go_ret3
 exact ⟨_, _, _, S.eW, by (with_reducible repeat (first | apply Kd.R_alloc | apply Kd.R_drewN | apply Kd.R_drew)); exact Kd.R_mono HO699.out (fun _ hk => hk.1), S.uV HO702.out, by (with_reducible repeat (first | apply Kd.N_alloc | apply Kd.N_drewN | apply Kd.N_drew)); exact HO705.out, S.bA⟩
end Go.Proofs.Ytjgigmghcfdomaa.PFnSwitched
