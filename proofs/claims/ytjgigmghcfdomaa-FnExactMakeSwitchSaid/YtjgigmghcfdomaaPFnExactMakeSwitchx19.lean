/- Printed by a program: what the Go functions compute, as plain Lean functions (.f), and the proofs that the machine's calls come to just that (.calls). -/
import Derived.Test.YtjgigmghcfdomaaPFnExactMakeSwitchx0
import Derived.Test.YtjgigmghcfdomaaPFnExactMakeSwitchx1
import Derived.Test.YtjgigmghcfdomaaPFnExactMakeSwitchx13
import Derived.Test.YtjgigmghcfdomaaPFnExactMakeSwitchx15
import Derived.Test.YtjgigmghcfdomaaPFnExactMakeSwitchx18
namespace Go.Proofs.Ytjgigmghcfdomaa.PFnExactMakeSwitch
open Go.RowKit Go.Proofs.YtjgigmghcfdomaaW.PrintWords Go.Proofs.YtjgigmghcfdomaaW.PrintLast Go.Proofs.YtjgigmghcfdomaaW.PrintMore
attribute [local go_sem] max2_int min2_int max_two min_two max_three min_three max_four min_four   -- for this text's walks alone
set_option linter.unusedVariables false
set_option linter.unusedSimpArgs false

/-! ### impl_LeastGreen: function 105 -/
def impl_LeastGreen.l0 : Nat → List (S71) → List Int → Int → Int → Option (Int)
 | 0, _, _, _, _ => none
 | k + 1, x0, x8, x9, x10 => if x10 < x9 then (if 0 ≤ x10 then (if x10 < (x8.length : Int) then ((impl_FindPath.f x0 (rd x8 x10)).bind fun t364 => (if t364 ≥ 0 then (if 0 ≤ t364 then (if t364 < (x0.length : Int) then (if ((rd_T71 x0 t364).f1) = 2 then (some 7) else (impl_LeastGreen.l0 k x0 x8 x9 (wrap64 (x10 + 1)))) else (none)) else (none)) else (impl_LeastGreen.l0 k x0 x8 x9 (wrap64 (x10 + 1))))) else (none)) else (none)) else (some 5)
def impl_LeastGreen.f (k : Nat) (l0 : List (S71)) (l1 : List Int) : Option (Int) := impl_LeastGreen.l0 k l0 l1 (l1.length : Int) 0
set_option maxHeartbeats 8000000 in
set_option maxRecDepth 100000 in
theorem impl_LeastGreen.calls (k : Nat) (A0 : Option Addr) (c0 : Nat) (l0 : List (S71)) (A1 : Option Addr) (c1 : Nat) (l1 : List Int) (r : Int) (w : World) (hr0 : Kd.C k71 w A0 l0.length l0) (hc0 : l0.length ≤ c0) (hr1 : Kd.C (Kd.int .i64) w A1 l1.length l1) (hc1 : l1.length ≤ c1) (h : impl_LeastGreen.f k l0 l1 = some r) :
  Calls Try.prog 105 #[.slice A0 l0.length c0, .slice A1 l1.length c1] w fun e w' => e = .returned (.int .i64 r) ∧ Below w.heap.size w w' := by
 have HR0 := Aside0.mk hr0
 have HC0 := Aside0.mk hc0
 clear hr0 hc0
 have HR1 := Aside0.mk hr1
 have HC1 := Aside0.mk hc1
 clear hr1 hc1
 have HB := Aside0.mk (Below.refl w.heap.size w)
 have H : (impl_LeastGreen.l0 k l0 l1 (l1.length : Int) 0) = some r := h
 clear h
 have H' := Aside0.mk H
 clear H
 go_enter Try.func105, Try.ntmps105
 go_wp2
 go_loopg [10] k (fun kq v10 w' => ∃ (x10_1 : Int), v10 = .int .i64 x10_1 ∧ Aside0 (impl_LeastGreen.l0 kq l0 l1 (l1.length : Int) x10_1 = some r) ∧ Aside0 (kq ≤ k) ∧ Aside0 (Below w.heap.size w w'))
 case atStart => exact ⟨(0), S.eA, H', ⟨Nat.le_refl _⟩, ⟨S.bA⟩⟩
 case round =>
  clear H'
  try clear c1
  obtain ⟨x10_1, rfl, HA, HK1, HB⟩ := hrel
  cases gk with
  | zero => exact absurd HA.out (by simp [impl_LeastGreen.l0])
  | succ k1 =>
   have H := HA.out
   clear HA
   simp only [impl_LeastGreen.l0] at H
   replace H := S.dc H; rcases H with ⟨H, c3b0⟩ | ⟨H, c3b0⟩
   ·by_cases c4 : 0 ≤ x10_1
    ·rw [if_pos c4] at H
     have c4b0 : decide (0 ≤ x10_1) = true := decide_eq_true c4
     clear c4
     by_cases c5 : x10_1 < (l1.length : Int)
     ·rw [if_pos c5] at H
      have c5b0 : decide (x10_1 < (l1.length : Int)) = true := decide_eq_true c5
      clear c5
      replace H := S.bd H; obtain ⟨t364, A6, H⟩ := H
      (try dsimp only at H)
      by_cases c7 : t364 ≥ 0
      ·rw [if_pos c7] at H
       have c7b0 : decide (0 ≤ t364) = true := decide_eq_true c7
       clear c7
       by_cases c8 : 0 ≤ t364
       ·rw [if_pos c8] at H
        have c8b0 : decide (0 ≤ t364) = true := decide_eq_true c8
        clear c8
        by_cases c9 : t364 < (l0.length : Int)
        ·rw [if_pos c9] at H
         have c9b0 : decide (t364 < (l0.length : Int)) = true := decide_eq_true c9
         clear c9
         by_cases c10 : ((rd_T71 l0 t364).f1) = 2
         ·rw [if_pos c10] at H
          have c10b0 : (((rd_T71 l0 t364).f1) == 2) = true := beq_iff_eq.mpr c10
          have c10b1 : (((rd_T71 l0 t364).f1) != 2) = false := bne_eq_false_iff_eq.mpr c10
          clear c10
          obtain rfl := Option.some.inj H
          have p363 : 0 ≤ (x10_1 : Int) := S.oD
          have q363 : x10_1 < (l1.length : Int) := S.oD
          obtain ⟨ad363, e363, hx363_0⟩ := Kd.at_int HR1.out x10_1 p363 q363
          cases e363
          replace hx363_0 := S.hb HB hx363_0
          replace p363 := eq_true p363
          replace q363 := eq_true q363
          go_wp2_with (first | ((with_reducible refine gate_callee (f := 83) rfl ?_); refine S.gL (some 16) Try.func83 #[.slice A0 l0.length c0, .int .i64 (rd l1 x10_1)] ?_; (with_reducible refine (impl_FindPath.calls _ _ l0 (rd l1 x10_1) t364 _ ?s1 HC0.out A6.out).mono ?_); (case s1 => exact S.cA HR0.out); rintro e w11 ⟨rfl, hb⟩; refine ⟨_, rfl, ?_⟩; replace HB := S.sA hb; (try clear hb); have p365 : 0 ≤ (t364 : Int) := S.oD; have q365 : t364 < (l0.length : Int) := S.oD; obtain ⟨ad365, e365, hx365_0, hx365_1, hx365_2, hx365_3⟩ := at_T71 HR0.out t364 p365 q365; cases e365; replace hx365_0 := S.hb HB hx365_0; replace hx365_1 := S.hb HB hx365_1; replace hx365_2 := S.hb HB hx365_2; replace hx365_3 := S.hb HB hx365_3; replace p365 := eq_true p365; replace q365 := eq_true q365))
          go_ret
          exact ⟨S.eW, S.bA⟩
         ·rw [if_neg c10] at H
          have c10b0 : (((rd_T71 l0 t364).f1) == 2) = false := beq_eq_false_iff_ne.mpr c10
          have c10b1 : (((rd_T71 l0 t364).f1) != 2) = true := bne_iff_ne.mpr c10
          have H' := Aside0.mk H
          clear H
          have p363 : 0 ≤ (x10_1 : Int) := S.oD
          have q363 : x10_1 < (l1.length : Int) := S.oD
          obtain ⟨ad363, e363, hx363_0⟩ := Kd.at_int HR1.out x10_1 p363 q363
          cases e363
          replace hx363_0 := S.hb HB hx363_0
          replace p363 := eq_true p363
          replace q363 := eq_true q363
          go_wp2_with (first | ((with_reducible refine gate_callee (f := 83) rfl ?_); refine S.gL (some 16) Try.func83 #[.slice A0 l0.length c0, .int .i64 (rd l1 x10_1)] ?_; (with_reducible refine (impl_FindPath.calls _ _ l0 (rd l1 x10_1) t364 _ ?s1 HC0.out A6.out).mono ?_); (case s1 => exact S.cA HR0.out); rintro e w12 ⟨rfl, hb⟩; refine ⟨_, rfl, ?_⟩; replace HB := S.sA hb; (try clear hb); have p365 : 0 ≤ (t364 : Int) := S.oD; have q365 : t364 < (l0.length : Int) := S.oD; obtain ⟨ad365, e365, hx365_0, hx365_1, hx365_2, hx365_3⟩ := at_T71 HR0.out t364 p365 q365; cases e365; replace hx365_0 := S.hb HB hx365_0; replace hx365_1 := S.hb HB hx365_1; replace hx365_2 := S.hb HB hx365_2; replace hx365_3 := S.hb HB hx365_3; replace p365 := eq_true p365; replace q365 := eq_true q365))
          go_roundg k1
          case measure => have := HK1.out; omega
          case rel => exact ⟨(wrap64 (x10_1 + 1)), S.eA, H', ⟨by have := HK1.out; omega⟩, ⟨S.bA⟩⟩
        ·rw [if_neg c9] at H
         exact absurd H (by simp)
       ·rw [if_neg c8] at H
        exact absurd H (by simp)
      ·rw [if_neg c7] at H
       have c7b0 : decide (0 ≤ t364) = false := decide_eq_false c7
       clear c7
       have H' := Aside0.mk H
       clear H
       have p363 : 0 ≤ (x10_1 : Int) := S.oD
       have q363 : x10_1 < (l1.length : Int) := S.oD
       obtain ⟨ad363, e363, hx363_0⟩ := Kd.at_int HR1.out x10_1 p363 q363
       cases e363
       replace hx363_0 := S.hb HB hx363_0
       replace p363 := eq_true p363
       replace q363 := eq_true q363
       go_wp2_with (first | ((with_reducible refine gate_callee (f := 83) rfl ?_); refine S.gL (some 16) Try.func83 #[.slice A0 l0.length c0, .int .i64 (rd l1 x10_1)] ?_; (with_reducible refine (impl_FindPath.calls _ _ l0 (rd l1 x10_1) t364 _ ?s1 HC0.out A6.out).mono ?_); (case s1 => exact S.cA HR0.out); rintro e w13 ⟨rfl, hb⟩; refine ⟨_, rfl, ?_⟩; replace HB := S.sA hb; (try clear hb)))
       go_roundg k1
       case measure => have := HK1.out; omega
       case rel => exact ⟨(wrap64 (x10_1 + 1)), S.eA, H', ⟨by have := HK1.out; omega⟩, ⟨S.bA⟩⟩
     ·rw [if_neg c5] at H
      exact absurd H (by simp)
    ·rw [if_neg c4] at H
     exact absurd H (by simp)
   ·obtain rfl := Option.some.inj H
    go_wp2
    go_ret
    exact ⟨S.eW, S.bA⟩

-- NOT PRINTED: function 146 (slices_IndexFunc_int_int)

-- NOT PRINTED: function 140 (slices_ContainsFunc_int_int)

/-! ### impl_isCovered: function 127 -/
theorem impl_isCovered.has (x : List Int) (id : Int) (hl : x.length ≤ 9223372036854775807) : ∃ k, slices_Contains_int_int.f k x id = some (decide (id ∈ x)) := by
 have key : ∀ (d i : Nat), i + d = x.length → ∃ (k : Nat) (m : Int), slices_Index_int_int.l0 k x id (x.length : Int) (i : Int) = some m ∧ decide (m ≥ 0) = decide (id ∈ x.drop i) := by
  intro d
  induction d with
  | zero =>
   intro i hi
   refine ⟨1, -1, ?_, by simp [List.drop_eq_nil_of_le (show x.length ≤ i by omega)]⟩
   simp only [slices_Index_int_int.l0, show ¬ (i : Int) < (x.length : Int) by omega, if_false]
  | succ d ih =>
   intro i hi
   obtain ⟨k, m, hk, he⟩ := ih (i + 1) (by omega)
   rw [show ((i + 1 : Nat) : Int) = (i : Int) + 1 by omega] at hk
   have hi2 : i < x.length := by omega
   have hr : rd x (i : Int) = x[i] := by simp [rd, hi2]
   have hw : wrap64 ((i : Int) + 1) = (i : Int) + 1 := by unfold wrap64; omega
   by_cases h1 : id = x[i]
   ·refine ⟨k + 1, (i : Int), ?_, by rw [List.drop_eq_getElem_cons hi2]; exact (decide_eq_true (show (i : Int) ≥ 0 by omega)).trans (decide_eq_true (h1 ▸ List.mem_cons_self)).symm⟩
    simp only [slices_Index_int_int.l0, show (i : Int) < (x.length : Int) by omega, show (0 : Int) ≤ (i : Int) by omega, if_true, hr, if_pos h1]
   ·refine ⟨k + 1, m, ?_, by rw [he, List.drop_eq_getElem_cons hi2]; exact decide_eq_decide.2 ⟨List.mem_cons_of_mem _, fun h => (List.mem_cons.1 h).resolve_left h1⟩⟩
    simp only [slices_Index_int_int.l0, show (i : Int) < (x.length : Int) by omega, show (0 : Int) ≤ (i : Int) by omega, if_true, hr, if_neg h1, hw]
    exact hk
 obtain ⟨k, m, hk, he⟩ := key x.length 0 (by omega)
 rw [List.drop_zero] at he
 refine ⟨k, ?_⟩
 unfold slices_Contains_int_int.f slices_Index_int_int.f
 rw [show slices_Index_int_int.l0 k x id (x.length : Int) 0 = some m from hk, Option.bind_some, he]
theorem impl_isCovered.pred (a1 : Int) (B1 : Nat) (w : World) (hB1 : B1 < w.heap.size) (hcB1 : w.cell? ⟨B1, 0, none⟩ = some (.int .i64 a1)) :
  ∀ (W : World) (A : Option Addr) (c : Nat) (x : List Int), Below w.heap.size w W → Kd.C (Kd.int .i64) W A x.length x → x.length ≤ c → Calls Try.prog 141 (#[.slice A x.length c] ++ #[.pointer (some ⟨B1, 0, none⟩)]) W fun e w' => e = .returned (.bool (decide (a1 ∈ x))) ∧ Below w.heap.size w w' := fun W A c x hb hC hc => by
 have cB1 : W.cell? ⟨B1, 0, none⟩ = some (.int .i64 a1) := (hb.cell (p := ⟨B1, 0, none⟩) hB1).trans hcB1
 obtain ⟨k, hk⟩ := impl_isCovered.has x a1 hC.2.1
 have HK := Aside0.mk hk
 have HC := Aside0.mk hC
 have Hc := Aside0.mk hc
 have hB2 := Aside0.mk hb
 clear hb hcB1 hk hC hc
 generalize decide (a1 ∈ x) = r at HK ⊢
 show Calls Try.prog 141 #[.slice A x.length c, .pointer (some ⟨B1, 0, none⟩)] W _
 go_enter Try.func141, Try.ntmps141
 go_wp2_with (first | (go_at_call 73; refine (slices_Contains_int_int.calls k A c x a1 r _ ?s1 Hc.out HK.out).mono ?_; (case s1 => repeat (first | exact HC.out | (with_reducible refine Kd.C_alloc ?_ _) | (with_reducible refine Kd.C_drewN ?_ _) | (with_reducible refine Kd.C_drew ?_))); rintro e w' ⟨rfl, ⟨nd, rfl⟩⟩))
 go_ret
 exact ⟨rfl, by repeat (first | (with_reducible first | exact hB2.out | apply below_alloc | apply pw_below_drewN | apply below_drew1) | exact hB2.out)⟩
set_option maxHeartbeats 8000000 in
set_option maxRecDepth 100000 in
theorem impl_isCovered.idx (p : List Int → Bool) (g : Nat) (lb : Array Value) (eg : ∀ args w, (callFunc g args).run Try.prog w = .ok (.enter g args) w) (A0 : Option Addr) (c0 : Nat) (l0 : List (List Int)) (w : World)
  (hp : ∀ (W : World) (A : Option Addr) (c : Nat) (x : List Int), Below w.heap.size w W → Kd.C (Kd.int .i64) W A x.length x → x.length ≤ c → Calls Try.prog g (#[.slice A x.length c] ++ lb) W fun e w' => e = .returned (.bool (p x)) ∧ Below w.heap.size w w')
  (hr0 : Kd.C (Kd.slice 3 (Kd.int .i64)) w A0 l0.length l0) (hc0 : l0.length ≤ c0) :
  Calls Try.prog 146 #[.slice A0 l0.length c0, .func (.func g) #[] lb] w fun e w' => e = .returned (.int .i64 (Go.Proofs.Ytjgigmghcfdomaa.Hnd.fidx p l0 0)) ∧ Below w.heap.size w w' := by
 have hbig : l0.length ≤ 9223372036854775807 := hr0.2.1
 have HR0 := Aside0.mk hr0
 have HP := Aside0.mk hp
 clear hr0 hp
 go_enter Try.func146, Try.ntmps146
 go_wp2
 go_loopg [5, 8] l0.length (fun gg _ s8 wr => ∃ kk : Nat, kk ≤ l0.length ∧ l0.length - kk ≤ gg ∧ s8 = .int .i64 kk ∧ Aside0 (Below w.heap.size w wr) ∧ Aside0 (Go.Proofs.Ytjgigmghcfdomaa.Hnd.fidx p l0 0 = Go.Proofs.Ytjgigmghcfdomaa.Hnd.fidx p (l0.drop kk) kk))
 case atStart => exact ⟨0, Nat.zero_le _, by omega, rfl, ⟨Below.refl _ w⟩, ⟨by simp⟩⟩
 case round =>
  obtain ⟨kk, hkk, hg, rfl, BW, A⟩ := hrel
  by_cases hlt : kk < l0.length
  ·have hltz : (kk : Int) < (l0.length : Int) := by omega
   obtain ⟨ad116, A1, c1, e116, hx0, hl1, hC1⟩ := at_L2 HR0.out (kk : Int) (by omega) hltz
   cases e116
   simp only [Int.toNat_natCast] at hx0
   replace hx0 := (BW.out.cell (World.block_lt_of_cell? w _ hx0)).trans hx0
   have hcall := HP.out wr A1 c1 (rd_L2 l0 (kk : Int)) BW.out (Kd.C_below hC1 BW.out) hl1
   have hq0 : rd_L2 l0 (kk : Int) = l0[kk] := by simp [rd_L2, hlt]
   have E : Aside0 (Go.Proofs.Ytjgigmghcfdomaa.Hnd.fidx p l0 0 = if p (rd_L2 l0 (kk : Int)) = true then (kk : Int) else Go.Proofs.Ytjgigmghcfdomaa.Hnd.fidx p (l0.drop (kk + 1)) (kk + 1)) := ⟨by rw [A.out, List.drop_eq_getElem_cons hlt, hq0]; rfl⟩
   clear A hq0 hl1 hC1
   generalize rd_L2 l0 (kk : Int) = y at hx0 hcall E
   cases hq : p y with
   | true =>
    rw [hq] at hcall
    go_wp2_with (fail)
    refine hcall.mono ?_
    rintro e w' ⟨rfl, hb'⟩
    clear hcall
    dsimp only
    go_wp2_with (fail)
    go_ret
    exact ⟨by rw [E.out, if_pos hq]; rfl, hb'⟩
   | false =>
    rw [hq] at hcall
    go_wp2_with (fail)
    refine hcall.mono ?_
    rintro e w' ⟨rfl, hb'⟩
    clear hcall
    dsimp only
    go_wp2_with (fail)
    go_roundg (l0.length - (kk + 1))
    case measure => omega
    case rel => exact ⟨kk + 1, by omega, by omega, by go_num, ⟨hb'⟩, ⟨by rw [E.out, hq]; rfl⟩⟩
  ·have hltz : ¬ (kk : Int) < (l0.length : Int) := by omega
   have hkn : kk = l0.length := by omega
   have E : Aside0 (Go.Proofs.Ytjgigmghcfdomaa.Hnd.fidx p l0 0 = -1) := ⟨by rw [A.out, hkn, List.drop_length]; rfl⟩
   clear A
   subst hkn
   go_wp2
   go_ret
   exact ⟨by rw [E.out]; rfl, BW.out⟩
theorem impl_isCovered.cont (p : List Int → Bool) (g : Nat) (lb : Array Value) (eg : ∀ args w, (callFunc g args).run Try.prog w = .ok (.enter g args) w) (A0 : Option Addr) (c0 : Nat) (l0 : List (List Int)) (w : World)
  (hp : ∀ (W : World) (A : Option Addr) (c : Nat) (x : List Int), Below w.heap.size w W → Kd.C (Kd.int .i64) W A x.length x → x.length ≤ c → Calls Try.prog g (#[.slice A x.length c] ++ lb) W fun e w' => e = .returned (.bool (p x)) ∧ Below w.heap.size w w')
  (hr0 : Kd.C (Kd.slice 3 (Kd.int .i64)) w A0 l0.length l0) (hc0 : l0.length ≤ c0) :
  Calls Try.prog 140 #[.slice A0 l0.length c0, .func (.func g) #[] lb] w fun e w' => e = .returned (.bool (decide (0 ≤ Go.Proofs.Ytjgigmghcfdomaa.Hnd.fidx p l0 0))) ∧ Below w.heap.size w w' := by
 have hcon := impl_isCovered.idx p g lb eg A0 c0 l0 w hp hr0 hc0
 generalize Go.Proofs.Ytjgigmghcfdomaa.Hnd.fidx p l0 0 = q at hcon ⊢
 clear hr0 eg hp
 go_enter Try.func140, Try.ntmps140
 go_wp2_with (fail)
 refine hcon.mono ?_
 rintro e w' ⟨rfl, hb'⟩
 have HB' := Aside0.mk hb'
 clear hcon hb'
 dsimp only
 go_wp2_with (fail)
 go_ret
 exact ⟨by first | rfl | simp, HB'.out⟩
def impl_isCovered.f (l0 : List (List Int)) (a1 : Int) : Option (Bool) := some (decide (0 ≤ Go.Proofs.Ytjgigmghcfdomaa.Hnd.fidx (fun x => decide (a1 ∈ x)) l0 0))
set_option maxHeartbeats 8000000 in
theorem impl_isCovered.calls (A0 : Option Addr) (c0 : Nat) (l0 : List (List Int)) (a1 : Int) (r : Bool) (w : World) (hr0 : Kd.C (Kd.slice 3 (Kd.int .i64)) w A0 l0.length l0) (hc0 : l0.length ≤ c0) (h : impl_isCovered.f l0 a1 = some r) :
  Calls Try.prog 127 #[.slice A0 l0.length c0, .int .i64 a1] w fun e w' => e = .returned (.bool r) ∧ Below w.heap.size w w' := by
 obtain rfl := Option.some.inj h
 clear h
 have eg : ∀ args w, (callFunc 141 args).run Try.prog w = .ok (.enter 141 args) w := Go.Proofs.Ytjgigmghcfdomaa.Hnd.enters_fn Try.func141 (by kernel_rfl) rfl
 have hB1 : Below w.heap.size w (w.alloc (.cells #[.int .i64 a1] 3)) := (Below.refl _ w).alloc (Nat.le_refl _) _
 have hcon := impl_isCovered.cont (fun x => decide (a1 ∈ x)) 141 #[.pointer (some ⟨w.heap.size, 0, none⟩)] eg A0 c0 l0 (w.alloc (.cells #[.int .i64 a1] 3)) (impl_isCovered.pred a1 w.heap.size _ (by simp) (by simp)) (Kd.C_below hr0 hB1) hc0
 generalize decide (0 ≤ Go.Proofs.Ytjgigmghcfdomaa.Hnd.fidx (fun x => decide (a1 ∈ x)) l0 0) = r at hcon ⊢
 clear hr0 eg
 have HB1 := Aside0.mk hB1
 clear hB1
 go_enter Try.func127, Try.ntmps127
 go_wp2_with (fail)
 refine hcon.mono ?_
 rintro e w' ⟨rfl, hb'⟩
 clear hcon
 dsimp only
 go_wp2_with (fail)
 go_ret
 exact ⟨rfl, HB1.out.trans (hb'.mono (by simp))⟩

/-! ### impl_Covers: function 106 -/
mutual
def impl_Covers.l0 : Nat → List (S71) → List (List Int) → List (List Int) → Int → Int → Option (Bool)
 | 0, _, _, _, _, _ => none
 | k + 1, x0, x1, x12, x13, x14 => if x14 < x13 then (if 0 ≤ x14 then (if x14 < (x12.length : Int) then ((impl_IsTogether.f k x0 (rd_L2 x12 x14)).bind fun t368 => (if t368 = true then (impl_Covers.l0 k x0 x1 x12 x13 (wrap64 (x14 + 1))) else (some false))) else (none)) else (none)) else (impl_Covers.l1 k x1 x0 (x0.length : Int) 0)
def impl_Covers.l1 : Nat → List (List Int) → List (S71) → Int → Int → Option (Bool)
 | 0, _, _, _, _ => none
 | k + 1, x1, x23, x24, x25 => if x25 < x24 then (if 0 ≤ x25 then (if x25 < (x23.length : Int) then ((impl_isCovered.f x1 ((rd_T71 x23 x25).f0)).bind fun t371 => (if t371 = true then (impl_Covers.l1 k x1 x23 x24 (wrap64 (x25 + 1))) else (some false))) else (none)) else (none)) else (some true)
end
def impl_Covers.f (k : Nat) (l0 : List (S71)) (l1 : List (List Int)) : Option (Bool) := (impl_ArePaths.f k l0).bind fun t366 => (if t366 = true then (impl_Covers.l0 k l0 l1 l1 (l1.length : Int) 0) else (some false))
set_option maxHeartbeats 8000000 in
set_option maxRecDepth 100000 in
theorem impl_Covers.calls (k : Nat) (A0 : Option Addr) (c0 : Nat) (l0 : List (S71)) (A1 : Option Addr) (c1 : Nat) (l1 : List (List Int)) (r : Bool) (w : World) (hr0 : Kd.C k71 w A0 l0.length l0) (hc0 : l0.length ≤ c0) (hr1 : Kd.C (Kd.slice 3 (Kd.int .i64)) w A1 l1.length l1) (hc1 : l1.length ≤ c1) (h : impl_Covers.f k l0 l1 = some r) :
  Calls Try.prog 106 #[.slice A0 l0.length c0, .slice A1 l1.length c1] w fun e w' => e = .returned (.bool r) ∧ Below w.heap.size w w' := by
 have hu71 := Try.underlying71
 have HR0 := Aside0.mk hr0
 have HC0 := Aside0.mk hc0
 clear hr0 hc0
 have HR1 := Aside0.mk hr1
 have HC1 := Aside0.mk hc1
 clear hr1 hc1
 have HB := Aside0.mk (Below.refl w.heap.size w)
 have H : ((impl_ArePaths.f k l0).bind fun t366 => (if t366 = true then (impl_Covers.l0 k l0 l1 l1 (l1.length : Int) 0) else (some false))) = some r := h
 clear h
 replace H := S.bd H; obtain ⟨t366, A3, H⟩ := H
 (try dsimp only at H)
 replace H := S.db H; rcases H with ⟨rfl, H⟩ | ⟨rfl, H⟩
 ·have H' := Aside0.mk H
  clear H
  go_enter Try.func106, Try.ntmps106
  go_wp2_with (first | ((with_reducible refine gate_callee (f := 88) rfl ?_); refine S.gL (some 10) Try.func88 #[.slice A0 l0.length c0] ?_; (with_reducible refine (impl_ArePaths.calls k _ _ l0 true _ ?s1 HC0.out A3.out).mono ?_); (case s1 => repeat (first | exact HR0.out | (with_reducible refine Kd.C_alloc ?_ _) | (with_reducible refine Kd.C_drewN ?_ _) | (with_reducible refine Kd.C_drew ?_))); rintro e w5 ⟨rfl, hb⟩; refine ⟨_, rfl, ?_⟩; replace HB := S.sA hb; (try clear hb)))
  go_loopg [14] k (fun kq v14 w' => ∃ (x14_1 : Int), v14 = .int .i64 x14_1 ∧ Aside0 (impl_Covers.l0 kq l0 l1 l1 (l1.length : Int) x14_1 = some r) ∧ Aside0 (kq ≤ k) ∧ Aside0 (Below w.heap.size w w'))
  case atStart => exact ⟨(0), S.eA, H', ⟨Nat.le_refl _⟩, ⟨S.bA⟩⟩
  case round =>
   clear H'
   try clear c1
   try clear c4
   obtain ⟨x14_1, rfl, HA, HK1, HB⟩ := hrel
   cases gk with
   | zero => exact absurd HA.out (by simp [impl_Covers.l0])
   | succ k1 =>
    have H := HA.out
    clear HA
    simp only [impl_Covers.l0] at H
    replace H := S.dc H; rcases H with ⟨H, c6b0⟩ | ⟨H, c6b0⟩
    ·by_cases c7 : 0 ≤ x14_1
     ·rw [if_pos c7] at H
      have c7b0 : decide (0 ≤ x14_1) = true := decide_eq_true c7
      clear c7
      by_cases c8 : x14_1 < (l1.length : Int)
      ·rw [if_pos c8] at H
       have c8b0 : decide (x14_1 < (l1.length : Int)) = true := decide_eq_true c8
       clear c8
       replace H := S.bd H; obtain ⟨t368, A9, H⟩ := H
       (try dsimp only at H)
       replace H := S.db H; rcases H with ⟨rfl, H⟩ | ⟨rfl, H⟩
       ·have H' := Aside0.mk H
        clear H
        have p367 : 0 ≤ (x14_1 : Int) := S.oD
        have q367 : x14_1 < (l1.length : Int) := S.oD
        obtain ⟨ad367, A367_0, c367_0, e367, hx367_0, hl367_0, hi367_0⟩ := at_L2 HR1.out x14_1 p367 q367
        cases e367
        replace hx367_0 := S.hb HB hx367_0
        have HR367_0 := Aside0.mk hi367_0
        have HC367_0 := Aside0.mk hl367_0
        clear hi367_0 hl367_0
        replace p367 := eq_true p367
        replace q367 := eq_true q367
        go_wp2_with (first | ((with_reducible refine gate_callee (f := 104) rfl ?_); refine S.gL (some 20) Try.func104 #[.slice A0 l0.length c0, .slice A367_0 (rd_L2 l1 x14_1).length c367_0] ?_; (with_reducible refine (impl_IsTogether.calls k1 _ _ l0 _ _ (rd_L2 l1 x14_1) true _ ?s1 HC0.out ?s3 HC367_0.out A9.out).mono ?_); (case s1 => exact S.cA HR0.out); (case s3 => exact S.cA HR367_0.out); rintro e w11 ⟨rfl, hb⟩; refine ⟨_, rfl, ?_⟩; replace HB := S.sA hb; (try clear hb)))
        go_roundg k1
        case measure => have := HK1.out; omega
        case rel => exact ⟨(wrap64 (x14_1 + 1)), S.eA, H', ⟨by have := HK1.out; omega⟩, ⟨S.bA⟩⟩
       ·obtain rfl := Option.some.inj H
        have p367 : 0 ≤ (x14_1 : Int) := S.oD
        have q367 : x14_1 < (l1.length : Int) := S.oD
        obtain ⟨ad367, A367_0, c367_0, e367, hx367_0, hl367_0, hi367_0⟩ := at_L2 HR1.out x14_1 p367 q367
        cases e367
        replace hx367_0 := S.hb HB hx367_0
        have HR367_0 := Aside0.mk hi367_0
        have HC367_0 := Aside0.mk hl367_0
        clear hi367_0 hl367_0
        replace p367 := eq_true p367
        replace q367 := eq_true q367
        go_wp2_with (first | ((with_reducible refine gate_callee (f := 104) rfl ?_); refine S.gL (some 20) Try.func104 #[.slice A0 l0.length c0, .slice A367_0 (rd_L2 l1 x14_1).length c367_0] ?_; (with_reducible refine (impl_IsTogether.calls k1 _ _ l0 _ _ (rd_L2 l1 x14_1) false _ ?s1 HC0.out ?s3 HC367_0.out A9.out).mono ?_); (case s1 => exact S.cA HR0.out); (case s3 => exact S.cA HR367_0.out); rintro e w12 ⟨rfl, hb⟩; refine ⟨_, rfl, ?_⟩; replace HB := S.sA hb; (try clear hb)))
        go_ret
        exact ⟨S.eW, S.bA⟩
      ·rw [if_neg c8] at H
       exact absurd H (by simp)
     ·rw [if_neg c7] at H
      exact absurd H (by simp)
    ·have H' := Aside0.mk H
     clear H
     go_wp2
     go_loopg [25] k1 (fun kq v25 w' => ∃ (x25_2 : Int), v25 = .int .i64 x25_2 ∧ Aside0 (impl_Covers.l1 kq l1 l0 (l0.length : Int) x25_2 = some r) ∧ Aside0 (kq ≤ k1) ∧ Aside0 (Below w.heap.size w w'))
     case atStart => exact ⟨(0), S.eA, H', ⟨Nat.le_refl _⟩, ⟨S.bA⟩⟩
     case round =>
      clear H'
      try clear c1
      try clear c4
      try clear c6
      try clear c6b0
      obtain ⟨x25_2, rfl, HA, HK2, HB⟩ := hrel
      cases gk with
      | zero => exact absurd HA.out (by simp [impl_Covers.l1])
      | succ k2 =>
       have H := HA.out
       clear HA
       simp only [impl_Covers.l1] at H
       replace H := S.dc H; rcases H with ⟨H, c13b0⟩ | ⟨H, c13b0⟩
       ·by_cases c14 : 0 ≤ x25_2
        ·rw [if_pos c14] at H
         have c14b0 : decide (0 ≤ x25_2) = true := decide_eq_true c14
         clear c14
         by_cases c15 : x25_2 < (l0.length : Int)
         ·rw [if_pos c15] at H
          have c15b0 : decide (x25_2 < (l0.length : Int)) = true := decide_eq_true c15
          clear c15
          replace H := S.bd H; obtain ⟨t371, A16, H⟩ := H
          (try dsimp only at H)
          replace H := S.db H; rcases H with ⟨rfl, H⟩ | ⟨rfl, H⟩
          ·have H' := Aside0.mk H
           clear H
           have p369 : 0 ≤ (x25_2 : Int) := S.oD
           have q369 : x25_2 < (l0.length : Int) := S.oD
           obtain ⟨ad369, e369, hx369_0, hx369_1, hx369_2, hx369_3⟩ := at_T71 HR0.out x25_2 p369 q369
           cases e369
           replace hx369_0 := S.hb HB hx369_0
           replace hx369_1 := S.hb HB hx369_1
           replace hx369_2 := S.hb HB hx369_2
           replace hx369_3 := S.hb HB hx369_3
           replace p369 := eq_true p369
           replace q369 := eq_true q369
           go_wp2_with (first | ((with_reducible refine gate_dst (N := 8) rfl ?_); refine S.bx 8 (cs := #[.int .i64 0, .int .i64 0, .int .i64 0, .int .i64 0]) (t := 71) ?_; intro gb370 hg w18 hbox hb; have BK370 := Aside0.mk hbox; have GW370 := S.geA hg; have GE370 := S.geA hg; replace HB := S.sA hb; clear hb hbox hg; obtain ⟨Z19a, Z19b, Z19c, Z19d, Y19a, Y19b, Y19c, Y19d⟩ := S.c4 BK370.out) | ((with_reducible refine gate_callee (f := 127) rfl ?_); refine S.gL (some 32) Try.func127 #[.slice A1 l1.length c1, .int .i64 ((rd_T71 l0 x25_2).f0)] ?_; (with_reducible refine (impl_isCovered.calls _ _ l1 ((rd_T71 l0 x25_2).f0) true _ ?s1 HC1.out A16.out).mono ?_); (case s1 => exact Kd.C_below HR1.out S.bG); rintro e w20 ⟨rfl, hb⟩; refine ⟨_, rfl, ?_⟩; replace BK370 := S.kp4 BK370 hb; replace HB := S.sG hb; (try clear hb)))
           go_roundg k2
           case measure => have := HK1.out; have := HK2.out; omega
           case rel => exact ⟨(wrap64 (x25_2 + 1)), S.eA, H', ⟨by have := HK1.out; have := HK2.out; omega⟩, ⟨S.bG⟩⟩
          ·obtain rfl := Option.some.inj H
           have p369 : 0 ≤ (x25_2 : Int) := S.oD
           have q369 : x25_2 < (l0.length : Int) := S.oD
           obtain ⟨ad369, e369, hx369_0, hx369_1, hx369_2, hx369_3⟩ := at_T71 HR0.out x25_2 p369 q369
           cases e369
           replace hx369_0 := S.hb HB hx369_0
           replace hx369_1 := S.hb HB hx369_1
           replace hx369_2 := S.hb HB hx369_2
           replace hx369_3 := S.hb HB hx369_3
           replace p369 := eq_true p369
           replace q369 := eq_true q369
           go_wp2_with (first | ((with_reducible refine gate_dst (N := 8) rfl ?_); refine S.bx 8 (cs := #[.int .i64 0, .int .i64 0, .int .i64 0, .int .i64 0]) (t := 71) ?_; intro gb370 hg w21 hbox hb; have BK370 := Aside0.mk hbox; have GW370 := S.geA hg; have GE370 := S.geA hg; replace HB := S.sA hb; clear hb hbox hg; obtain ⟨Z22a, Z22b, Z22c, Z22d, Y22a, Y22b, Y22c, Y22d⟩ := S.c4 BK370.out) | ((with_reducible refine gate_callee (f := 127) rfl ?_); refine S.gL (some 32) Try.func127 #[.slice A1 l1.length c1, .int .i64 ((rd_T71 l0 x25_2).f0)] ?_; (with_reducible refine (impl_isCovered.calls _ _ l1 ((rd_T71 l0 x25_2).f0) false _ ?s1 HC1.out A16.out).mono ?_); (case s1 => exact Kd.C_below HR1.out S.bG); rintro e w23 ⟨rfl, hb⟩; refine ⟨_, rfl, ?_⟩; replace BK370 := S.kp4 BK370 hb; replace HB := S.sG hb; (try clear hb)))
           go_ret
           exact ⟨S.eW, S.bG⟩
         ·rw [if_neg c15] at H
          exact absurd H (by simp)
        ·rw [if_neg c14] at H
         exact absurd H (by simp)
       ·obtain rfl := Option.some.inj H
        go_wp2
        go_ret
        exact ⟨S.eW, S.bA⟩
 ·obtain rfl := Option.some.inj H
  go_enter Try.func106, Try.ntmps106
  go_wp2_with (first | ((with_reducible refine gate_callee (f := 88) rfl ?_); refine S.gL (some 10) Try.func88 #[.slice A0 l0.length c0] ?_; (with_reducible refine (impl_ArePaths.calls k _ _ l0 false _ ?s1 HC0.out A3.out).mono ?_); (case s1 => repeat (first | exact HR0.out | (with_reducible refine Kd.C_alloc ?_ _) | (with_reducible refine Kd.C_drewN ?_ _) | (with_reducible refine Kd.C_drew ?_))); rintro e w24 ⟨rfl, hb⟩; refine ⟨_, rfl, ?_⟩; replace HB := S.sA hb; (try clear hb)))
  go_ret
  exact ⟨S.eW, S.bA⟩

end Go.Proofs.Ytjgigmghcfdomaa.PFnExactMakeSwitch
