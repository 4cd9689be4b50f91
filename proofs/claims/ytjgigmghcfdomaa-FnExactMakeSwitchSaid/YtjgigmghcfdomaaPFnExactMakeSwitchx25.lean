/- Printed by a program: what the Go functions compute, as plain Lean functions (.f), and the proofs that the machine's calls come to just that (.calls). -/
import Derived.Test.YtjgigmghcfdomaaPFnExactMakeSwitchx0
import Derived.Test.YtjgigmghcfdomaaPFnExactMakeSwitchx24
namespace Go.Proofs.Ytjgigmghcfdomaa.PFnExactMakeSwitch
open Go.RowKit Go.Proofs.YtjgigmghcfdomaaW.PrintWords Go.Proofs.YtjgigmghcfdomaaW.PrintLast Go.Proofs.YtjgigmghcfdomaaW.PrintMore
attribute [local go_sem] max2_int min2_int max_two min_two max_three min_three max_four min_four   -- for this text's walks alone
set_option linter.unusedVariables false
set_option linter.unusedSimpArgs false

/-! ### laws_heldPartS: function 47 -/
def laws_heldPartS.l0 : Nat → List (S85) → Int → Int → Option (Int)
 | 0, _, _, _ => none
 | k + 1, x0, x1, x5 => if x5 < (x0.length : Int) then (if 0 ≤ x5 then ((laws_heldIntS.f k ((rd_T85 x0 x5).f0) x1).bind fun t463 => (if t463 < 0 then (some (-1)) else (if ((rd_T85 x0 x5).f1) = t463 then (laws_heldPartS.l0 k x0 (wrap64 (t463 + 1)) (wrap64 (x5 + 1))) else (some (-1))))) else (none)) else (some x1)
def laws_heldPartS.f (k : Nat) (l0 : List (S85)) (a1 : Int) : Option (Int) := laws_heldPartS.l0 k l0 a1 0
set_option maxHeartbeats 8000000 in
set_option maxRecDepth 100000 in
theorem laws_heldPartS.calls (k : Nat) (A0 : Option Addr) (c0 : Nat) (l0 : List (S85)) (a1 : Int) (r : Int) (w : World) (hr0 : Kd.C k85 w A0 l0.length l0) (hc0 : l0.length ≤ c0) (h : laws_heldPartS.f k l0 a1 = some r) :
  Calls Try.prog 47 #[.slice A0 l0.length c0, .int .i64 a1] w fun e w' => e = .returned (.int .i64 r) ∧ Drawn0 w w' := by
 have HR0 := Aside0.mk hr0
 have HC0 := Aside0.mk hc0
 clear hr0 hc0
 have H : (laws_heldPartS.l0 k l0 a1 0) = some r := h
 clear h
 have H' := Aside0.mk H
 clear H
 go_enter Try.func47, Try.ntmps47
 go_wp2
 go_loopg [1, 5] k (fun kq v1 v5 w' => ∃ (x1_1 : Int) (x5_1 : Int), v1 = .int .i64 x1_1 ∧ v5 = .int .i64 x5_1 ∧ Aside0 (laws_heldPartS.l0 kq l0 x1_1 x5_1 = some r) ∧ Aside0 (kq ≤ k) ∧ Drawn0 w w')
 case atStart => exact ⟨(a1), (0), S.eA, S.eA, H', ⟨Nat.le_refl _⟩, by repeat (first | exact Drawn0.refl _ | apply Drawn0.step)⟩
 case round =>
  clear H'
  obtain ⟨x1_1, x5_1, rfl, rfl, HA, HK1, ⟨m1, rfl⟩⟩ := hrel
  cases gk with
  | zero => exact absurd HA.out (by simp [laws_heldPartS.l0])
  | succ k1 =>
   have H := HA.out
   clear HA
   simp only [laws_heldPartS.l0] at H
   replace H := S.dc H; rcases H with ⟨H, c3b0⟩ | ⟨H, c3b0⟩
   ·by_cases c4 : 0 ≤ x5_1
    ·rw [if_pos c4] at H
     have c4b0 : decide (0 ≤ x5_1) = true := decide_eq_true c4
     clear c4
     replace H := S.bd H; obtain ⟨t463, A5, H⟩ := H
     (try dsimp only at H)
     replace H := S.dc H; rcases H with ⟨H, c6b0⟩ | ⟨H, c6b0⟩
     ·obtain rfl := Option.some.inj H
      have p462 : 0 ≤ (x5_1 : Int) := S.oD
      have q462 : x5_1 < (l0.length : Int) := S.oD
      obtain ⟨ad462, A462_0, c462_0, e462, hx462_0, hx462_1, hl462_0, hi462_0⟩ := at_T85 HR0.out x5_1 p462 q462
      cases e462
      have HR462_0 := Aside0.mk hi462_0
      have HC462_0 := Aside0.mk hl462_0
      clear hi462_0 hl462_0
      replace p462 := eq_true p462
      replace q462 := eq_true q462
      go_wp2_with (first | ((with_reducible refine gate_callee (f := 28) rfl ?_); refine S.gL (some 18) Try.func28 #[.slice A462_0 ((rd_T85 l0 x5_1).f0).length c462_0, .int .i64 x1_1] ?_; (with_reducible refine (laws_heldIntS.calls k1 _ _ ((rd_T85 l0 x5_1).f0) x1_1 t463 _ ?s1 HC462_0.out A5.out).mono ?_); (case s1 => repeat (first | exact HR462_0.out | (with_reducible refine Kd.C_alloc ?_ _) | (with_reducible refine Kd.C_drewN ?_ _) | (with_reducible refine Kd.C_drew ?_))); rintro e w' ⟨rfl, ⟨nd, rfl⟩⟩; refine ⟨_, rfl, ?_⟩))
      go_ret
      exact ⟨S.eA, by repeat (first | exact Drawn0.refl _ | apply Drawn0.step)⟩
     ·by_cases c7 : ((rd_T85 l0 x5_1).f1) = t463
      ·rw [if_pos c7] at H
       have c7b0 : (((rd_T85 l0 x5_1).f1) == t463) = true := beq_iff_eq.mpr c7
       have c7b1 : (((rd_T85 l0 x5_1).f1) != t463) = false := bne_eq_false_iff_eq.mpr c7
       clear c7
       have H' := Aside0.mk H
       clear H
       have p462 : 0 ≤ (x5_1 : Int) := S.oD
       have q462 : x5_1 < (l0.length : Int) := S.oD
       obtain ⟨ad462, A462_0, c462_0, e462, hx462_0, hx462_1, hl462_0, hi462_0⟩ := at_T85 HR0.out x5_1 p462 q462
       cases e462
       have HR462_0 := Aside0.mk hi462_0
       have HC462_0 := Aside0.mk hl462_0
       clear hi462_0 hl462_0
       replace p462 := eq_true p462
       replace q462 := eq_true q462
       go_wp2_with (first | ((with_reducible refine gate_callee (f := 28) rfl ?_); refine S.gL (some 18) Try.func28 #[.slice A462_0 ((rd_T85 l0 x5_1).f0).length c462_0, .int .i64 x1_1] ?_; (with_reducible refine (laws_heldIntS.calls k1 _ _ ((rd_T85 l0 x5_1).f0) x1_1 t463 _ ?s1 HC462_0.out A5.out).mono ?_); (case s1 => repeat (first | exact HR462_0.out | (with_reducible refine Kd.C_alloc ?_ _) | (with_reducible refine Kd.C_drewN ?_ _) | (with_reducible refine Kd.C_drew ?_))); rintro e w' ⟨rfl, ⟨nd, rfl⟩⟩; refine ⟨_, rfl, ?_⟩; have p464 : 0 ≤ (x5_1 : Int) := S.oD; have q464 : x5_1 < (l0.length : Int) := S.oD; obtain ⟨ad464, A464_0, c464_0, e464, hx464_0, hx464_1, hl464_0, hi464_0⟩ := at_T85 HR0.out x5_1 p464 q464; obtain rfl : ad462 = ad464 := (by injection e464); have HR464_0 := Aside0.mk hi464_0; have HC464_0 := Aside0.mk hl464_0; clear hi464_0 hl464_0; replace p464 := eq_true p464; replace q464 := eq_true q464; have ea_ := Option.some.inj (hx462_0.symm.trans hx464_0); injection ea_ with ea_ en_ ec_; subst ea_; subst ec_; clear en_))
       go_roundg k1
       case measure => have := HK1.out; omega
       case rel => exact ⟨(wrap64 (t463 + 1)), (wrap64 (x5_1 + 1)), S.eA, S.eA, H', ⟨by have := HK1.out; omega⟩, by repeat (first | exact Drawn0.refl _ | apply Drawn0.step)⟩
      ·rw [if_neg c7] at H
       have c7b0 : (((rd_T85 l0 x5_1).f1) == t463) = false := beq_eq_false_iff_ne.mpr c7
       have c7b1 : (((rd_T85 l0 x5_1).f1) != t463) = true := bne_iff_ne.mpr c7
       obtain rfl := Option.some.inj H
       have p462 : 0 ≤ (x5_1 : Int) := S.oD
       have q462 : x5_1 < (l0.length : Int) := S.oD
       obtain ⟨ad462, A462_0, c462_0, e462, hx462_0, hx462_1, hl462_0, hi462_0⟩ := at_T85 HR0.out x5_1 p462 q462
       cases e462
       have HR462_0 := Aside0.mk hi462_0
       have HC462_0 := Aside0.mk hl462_0
       clear hi462_0 hl462_0
       replace p462 := eq_true p462
       replace q462 := eq_true q462
       go_wp2_with (first | ((with_reducible refine gate_callee (f := 28) rfl ?_); refine S.gL (some 18) Try.func28 #[.slice A462_0 ((rd_T85 l0 x5_1).f0).length c462_0, .int .i64 x1_1] ?_; (with_reducible refine (laws_heldIntS.calls k1 _ _ ((rd_T85 l0 x5_1).f0) x1_1 t463 _ ?s1 HC462_0.out A5.out).mono ?_); (case s1 => repeat (first | exact HR462_0.out | (with_reducible refine Kd.C_alloc ?_ _) | (with_reducible refine Kd.C_drewN ?_ _) | (with_reducible refine Kd.C_drew ?_))); rintro e w' ⟨rfl, ⟨nd, rfl⟩⟩; refine ⟨_, rfl, ?_⟩; have p464 : 0 ≤ (x5_1 : Int) := S.oD; have q464 : x5_1 < (l0.length : Int) := S.oD; obtain ⟨ad464, A464_0, c464_0, e464, hx464_0, hx464_1, hl464_0, hi464_0⟩ := at_T85 HR0.out x5_1 p464 q464; obtain rfl : ad462 = ad464 := (by injection e464); have HR464_0 := Aside0.mk hi464_0; have HC464_0 := Aside0.mk hl464_0; clear hi464_0 hl464_0; replace p464 := eq_true p464; replace q464 := eq_true q464; have ea_ := Option.some.inj (hx462_0.symm.trans hx464_0); injection ea_ with ea_ en_ ec_; subst ea_; subst ec_; clear en_))
       go_ret
       exact ⟨S.eA, by repeat (first | exact Drawn0.refl _ | apply Drawn0.step)⟩
    ·rw [if_neg c4] at H
     exact absurd H (by simp)
   ·obtain rfl := Option.some.inj H
    go_wp2
    go_ret
    exact ⟨S.eA, by repeat (first | exact Drawn0.refl _ | apply Drawn0.step)⟩

-- NOT PRINTED: function 9 (laws_FnExactMakeSwitch)

end Go.Proofs.Ytjgigmghcfdomaa.PFnExactMakeSwitch
