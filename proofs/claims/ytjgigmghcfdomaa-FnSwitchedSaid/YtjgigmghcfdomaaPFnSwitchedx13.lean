/- Printed by a program: what the Go functions compute, as plain Lean functions (.f), and the proofs that the machine's calls come to just that (.calls). -/
import Derived.Test.YtjgigmghcfdomaaPFnSwitchedx0
import Derived.Test.YtjgigmghcfdomaaPFnSwitchedx3
import Derived.Test.YtjgigmghcfdomaaPFnSwitchedx4
import Derived.Test.YtjgigmghcfdomaaPFnSwitchedx5
import Derived.Test.YtjgigmghcfdomaaPFnSwitchedx11
import Derived.Test.YtjgigmghcfdomaaPFnSwitchedx12
namespace Go.Proofs.Ytjgigmghcfdomaa.PFnSwitched
open Go.RowKit Go.Proofs.YtjgigmghcfdomaaW.PrintWords Go.Proofs.YtjgigmghcfdomaaW.PrintLast Go.Proofs.YtjgigmghcfdomaaW.PrintMore
attribute [local go_sem] max2_int min2_int max_two min_two max_three min_three max_four min_four   -- for this text's walks alone
set_option linter.unusedVariables false
set_option linter.unusedSimpArgs false
set_option maxHeartbeats 8000000
set_option maxRecDepth 100000
/-! ### laws_FnSwitched: function 10 -/
mutual
def laws_FnSwitched.j0 : Nat → List Int → List (S71) → List (S85) → List (S85) → Int → Int → List Int → Bool → Option (Bool)
 | 0, _, _, _, _, _, _, _, _ => none
 | k + 1, x0, x3, x4, x5, x6, x7, x8, x66 => if x66 = true then (some false) else (if x7 ≥ 0 then (if x7 < x6 then (laws_FnSwitched.j1 k x0 x3 x4 x5 x7 true) else ((impl_Cycle.f k x3 x4).bind fun t727 => (if (wrap64 (x7 - x6)) ≥ t727 then (laws_FnSwitched.j1 k x0 x3 x4 x5 x7 true) else ((impl_Cycle.f k x3 x4).bind fun t728 => (if t728 = 0 then (none) else ((laws_contains.f k x8 (Int.tmod x7 t728)).bind fun t729 => (laws_FnSwitched.j1 k x0 x3 x4 x5 x7 (!t729)))))))) else (laws_FnSwitched.j4 k x0))
def laws_FnSwitched.j4 : Nat → List Int → Option (Bool)
 | 0, _ => none
 | k + 1, x0 => (spec_DrawRotatePlan.f k x0).bind fun bt739 => ((impl_RotatePlan.f k bt739.1 bt739.2).bind fun t743 => (if (t743.length : Int) = (bt739.1.length : Int) then (if bt739.2 ≥ 0 then (if bt739.2 < (bt739.1.length : Int) then (if (bt739.1.length : Int) = 0 then (none) else ((impl_RotatePlan.f k t743 (Int.tmod (wrap64 ((bt739.1.length : Int) - bt739.2)) (bt739.1.length : Int))).bind fun t746 => ((impl_EqualPlans.f k t746 bt739.1).bind fun t749 => (laws_FnSwitched.j5 k x0 (!t749))))) else (laws_FnSwitched.j5 k x0 false)) else (laws_FnSwitched.j5 k x0 false)) else (laws_FnSwitched.j5 k x0 true)))
def laws_FnSwitched.j5 : Nat → List Int → Bool → Option (Bool)
 | 0, _, _ => none
 | k + 1, x0, x168 => if x168 = true then (some false) else ((spec_DrawMakeSwitch.f k x0).bind fun bt750 => ((impl_MakeSwitch.f k bt750.1 bt750.2.1 bt750.2.2).bind fun bt759 => ((impl_CanSwitch.f k bt750.1 bt750.2.1 bt759.1).bind fun t763 => (if (bt759.2 == t763) = true then (some ((bt759.1.length : Int) == (bt750.2.2.length : Int))) else (some false)))))
def laws_FnSwitched.j1 : Nat → List Int → List (S71) → List (S85) → List (S85) → Int → Bool → Option (Bool)
 | 0, _, _, _, _, _, _ => none
 | k + 1, x0, x3, x4, x5, x7, x90 => if x90 = true then (some false) else (laws_FnSwitched.l0 k x0 x3 x4 x5 x7 (wrap64 (x7 - 8)))
def laws_FnSwitched.l0 : Nat → List Int → List (S71) → List (S85) → List (S85) → Int → Int → Option (Bool)
 | 0, _, _, _, _, _, _ => none
 | k + 1, x0, x3, x4, x5, x7, x9 => if x9 < (wrap64 (x7 + 12)) then (laws_FnSwitched.l1 k x0 x3 x4 x5 x7 x9 (([] : List Int)) 0) else (laws_FnSwitched.j4 k x0)
def laws_FnSwitched.l1 : Nat → List Int → List (S71) → List (S85) → List (S85) → Int → Int → List Int → Int → Option (Bool)
 | 0, _, _, _, _, _, _, _, _ => none
 | k + 1, x0, x3, x4, x5, x7, x9, x10, x11 => if x11 < (x3.length : Int) then (if x9 ≥ 0 then (if 0 ≤ x11 then ((impl_LightAfter.f k x3 x4 x5 x7 x9 ((rd_T71 x3 x11).f0)).bind fun t734 => (if x10.length < 17592186044416 then (laws_FnSwitched.l1 k x0 x3 x4 x5 x7 x9 (x10 ++ [t734]) (wrap64 (x11 + 1))) else (none))) else (none)) else (laws_FnSwitched.l0 k x0 x3 x4 x5 x7 (wrap64 (x9 + 1)))) else (if x9 ≥ 0 then ((impl_IsSafeLights.f k x3 x10).bind fun t738 => (if t738 = true then (laws_FnSwitched.l0 k x0 x3 x4 x5 x7 (wrap64 (x9 + 1))) else (some false))) else (laws_FnSwitched.l0 k x0 x3 x4 x5 x7 (wrap64 (x9 + 1))))
end
def laws_FnSwitched.f (k : Nat) (l0 : List Int) : Option (Bool) := (laws_big.f l0).bind fun t706 => (if t706 = true then (some true) else ((spec_DrawSwitchAt.f k l0).bind fun bt707 => ((impl_SwitchAt.f k bt707.1 bt707.2.1 bt707.2.2.1 bt707.2.2.2).bind fun t717 => ((impl_SwitchSeconds.f k bt707.1 bt707.2.1 bt707.2.2.1).bind fun t718 => (if (t718.length : Int) > 0 then (if bt707.2.2.2 ≥ 0 then (if ((decide (t717 ≥ 0)) != (decide (bt707.2.2.2 ≤ 100000))) = true then (laws_FnSwitched.j0 k l0 bt707.1 bt707.2.1 bt707.2.2.1 bt707.2.2.2 t717 t718 true) else ((laws_ascends.f k t718).bind fun t721 => (if t721 = true then ((impl_CanSwitch.f k bt707.1 bt707.2.1 bt707.2.2.1).bind fun t722 => (laws_FnSwitched.j0 k l0 bt707.1 bt707.2.1 bt707.2.2.1 bt707.2.2.2 t717 t718 (t722 != (decide ((t718.length : Int) > 0))))) else (laws_FnSwitched.j0 k l0 bt707.1 bt707.2.1 bt707.2.2.1 bt707.2.2.2 t717 t718 true)))) else (if ((decide (t717 ≥ 0)) != false) = true then (laws_FnSwitched.j0 k l0 bt707.1 bt707.2.1 bt707.2.2.1 bt707.2.2.2 t717 t718 true) else ((laws_ascends.f k t718).bind fun t723 => (if t723 = true then ((impl_CanSwitch.f k bt707.1 bt707.2.1 bt707.2.2.1).bind fun t724 => (laws_FnSwitched.j0 k l0 bt707.1 bt707.2.1 bt707.2.2.1 bt707.2.2.2 t717 t718 (t724 != (decide ((t718.length : Int) > 0))))) else (laws_FnSwitched.j0 k l0 bt707.1 bt707.2.1 bt707.2.2.1 bt707.2.2.2 t717 t718 true))))) else (if ((decide (t717 ≥ 0)) != false) = true then (laws_FnSwitched.j0 k l0 bt707.1 bt707.2.1 bt707.2.2.1 bt707.2.2.2 t717 t718 true) else ((laws_ascends.f k t718).bind fun t725 => (if t725 = true then ((impl_CanSwitch.f k bt707.1 bt707.2.1 bt707.2.2.1).bind fun t726 => (laws_FnSwitched.j0 k l0 bt707.1 bt707.2.1 bt707.2.2.1 bt707.2.2.2 t717 t718 (t726 != (decide ((t718.length : Int) > 0))))) else (laws_FnSwitched.j0 k l0 bt707.1 bt707.2.1 bt707.2.2.1 bt707.2.2.2 t717 t718 true)))))))))
theorem laws_FnSwitched.calls (k : Nat) (A0 : Option Addr) (c0 : Nat) (l0 : List Int) (r : Bool) (w : World) (hr0 : Kd.C (Kd.int .u8) w A0 l0.length l0) (hc0 : l0.length ≤ c0) (h : laws_FnSwitched.f k l0 = some r) :
  Calls Try.prog 10 #[.slice A0 l0.length c0] w fun e w' => e = .returned (.bool r) ∧ Below w.heap.size w w' := by
 have HR0 := Aside0.mk hr0
 have HC0 := Aside0.mk hc0
 clear hr0 hc0
 have HB := Aside0.mk (Below.refl w.heap.size w)
 have H : ((laws_big.f l0).bind fun t706 => (if t706 = true then (some true) else ((spec_DrawSwitchAt.f k l0).bind fun bt707 => ((impl_SwitchAt.f k bt707.1 bt707.2.1 bt707.2.2.1 bt707.2.2.2).bind fun t717 => ((impl_SwitchSeconds.f k bt707.1 bt707.2.1 bt707.2.2.1).bind fun t718 => (if (t718.length : Int) > 0 then (if bt707.2.2.2 ≥ 0 then (if ((decide (t717 ≥ 0)) != (decide (bt707.2.2.2 ≤ 100000))) = true then (laws_FnSwitched.j0 k l0 bt707.1 bt707.2.1 bt707.2.2.1 bt707.2.2.2 t717 t718 true) else ((laws_ascends.f k t718).bind fun t721 => (if t721 = true then ((impl_CanSwitch.f k bt707.1 bt707.2.1 bt707.2.2.1).bind fun t722 => (laws_FnSwitched.j0 k l0 bt707.1 bt707.2.1 bt707.2.2.1 bt707.2.2.2 t717 t718 (t722 != (decide ((t718.length : Int) > 0))))) else (laws_FnSwitched.j0 k l0 bt707.1 bt707.2.1 bt707.2.2.1 bt707.2.2.2 t717 t718 true)))) else (if ((decide (t717 ≥ 0)) != false) = true then (laws_FnSwitched.j0 k l0 bt707.1 bt707.2.1 bt707.2.2.1 bt707.2.2.2 t717 t718 true) else ((laws_ascends.f k t718).bind fun t723 => (if t723 = true then ((impl_CanSwitch.f k bt707.1 bt707.2.1 bt707.2.2.1).bind fun t724 => (laws_FnSwitched.j0 k l0 bt707.1 bt707.2.1 bt707.2.2.1 bt707.2.2.2 t717 t718 (t724 != (decide ((t718.length : Int) > 0))))) else (laws_FnSwitched.j0 k l0 bt707.1 bt707.2.1 bt707.2.2.1 bt707.2.2.2 t717 t718 true))))) else (if ((decide (t717 ≥ 0)) != false) = true then (laws_FnSwitched.j0 k l0 bt707.1 bt707.2.1 bt707.2.2.1 bt707.2.2.2 t717 t718 true) else ((laws_ascends.f k t718).bind fun t725 => (if t725 = true then ((impl_CanSwitch.f k bt707.1 bt707.2.1 bt707.2.2.1).bind fun t726 => (laws_FnSwitched.j0 k l0 bt707.1 bt707.2.1 bt707.2.2.1 bt707.2.2.2 t717 t718 (t726 != (decide ((t718.length : Int) > 0))))) else (laws_FnSwitched.j0 k l0 bt707.1 bt707.2.1 bt707.2.2.1 bt707.2.2.2 t717 t718 true)))))))))) = some r := h
 clear h
 replace H := S.bd H; obtain ⟨t706, A2, H⟩ := H
 (try dsimp only at H)
 replace H := S.db H; rcases H with ⟨rfl, H⟩ | ⟨rfl, H⟩
 ·obtain rfl := Option.some.inj H
  go_enter Try.func10, Try.ntmps10
  go_wp2_with (first | ((with_reducible refine gate_callee (f := 34) rfl ?_); refine S.gL (some 21) Try.func34 #[.slice A0 l0.length c0] ?_; (with_reducible refine (laws_big.calls _ _ l0 true _ ?s1 HC0.out A2.out).mono ?_); (case s1 => exact S.cD HR0.out); rintro e w' ⟨rfl, ⟨nd, rfl⟩⟩; refine ⟨_, rfl, ?_⟩))
  go_ret
  exact ⟨S.eW, S.bA⟩
 ·replace H := S.bd H; obtain ⟨⟨t707, t710, t713, t716⟩, A4, H⟩ := H
  (try dsimp only at H)
  replace H := S.bd H; obtain ⟨t717, A5, H⟩ := H
  (try dsimp only at H)
  replace H := S.bd H; obtain ⟨t718, A6, H⟩ := H
  (try dsimp only at H)
  have HC7 := Aside0.mk H
  clear H
  go_enter Try.func10, Try.ntmps10
  go_upto_region 6 with (first | ((with_reducible refine gate_callee (f := 34) rfl ?_); refine S.gL (some 21) Try.func34 #[.slice A0 l0.length c0] ?_; (with_reducible refine (laws_big.calls _ _ l0 false _ ?s1 HC0.out A2.out).mono ?_); (case s1 => exact S.cD HR0.out); rintro e w' ⟨rfl, ⟨nd, rfl⟩⟩; refine ⟨_, rfl, ?_⟩) | ((with_reducible refine gate_callee (f := 48) rfl ?_); refine S.gL (some 24) Try.func48 #[.slice A0 l0.length c0] ?_; (with_reducible refine (spec_DrawSwitchAt.calls k _ _ l0 t707 t710 t713 t716 _ ?s1 HC0.out A4.out).mono ?_); (case s1 => exact S.cD HR0.out); rintro e w8 ⟨v708, v711, v714, rfl, ho0, ho1, ho2, hb⟩; refine ⟨_, rfl, ?_⟩; have HO709 := Aside0.mk (Kd.R_lower (Kd.R_mono (ok' := fun k_ => True) ho0 (fun _ hk_ => trivial)) (below_size S.bA)); have HO712 := Aside0.mk (Kd.V_lower (Kd.V_mono (ok' := fun k_ => S.N k_ v708 ∧ S.N k_ v714) ho1 (fun k_ hk_ => ⟨hk_.2.1, hk_.2.2⟩)) (below_size S.bA)); have HO715 := Aside0.mk (Kd.N_lower (Kd.N_mono (ok' := fun k_ => S.N k_ v708) ho2 (fun k_ hk_ => hk_.2)) (below_size S.bA)); replace HB := S.sA hb; (try clear hb); (try clear ho0); (try clear ho1); (try clear ho2); obtain ⟨Ao9, co9, eo9⟩ := Kd.R_slice HO709.out; subst eo9; obtain ⟨Ao10, co10, eo10⟩ := Kd.V_slice HO712.out; subst eo10; obtain ⟨Ao11, co11, eo11⟩ := Kd.N_slice HO715.out; subst eo11) | ((with_reducible refine gate_callee (f := 30) rfl ?_); refine S.gL (some 33) Try.func30 #[.slice Ao9 t707.length co9, .slice Ao10 t710.length co10, .slice Ao11 t713.length co11, .int .i64 t716] ?_; (with_reducible refine (impl_SwitchAt.calls k _ _ t707 _ _ t710 _ _ t713 t716 t717 _ ?s1 (S.rl HO709) ?s3 ?s4 ?s5 ?s6 A5.out).mono ?_); (case s1 => exact S.rd HO709); (case s3 => exact S.cD (Kd.V_reads' HO712.out).2.2); (case s4 => exact (Kd.V_reads' HO712.out).2.1); (case s5 => exact S.cD (Kd.N_reads' HO715.out).2.2); (case s6 => exact (Kd.N_reads' HO715.out).2.1); rintro e w12 ⟨rfl, hb⟩; refine ⟨_, rfl, ?_⟩; replace HO709 := S.rb HO709 hb; replace HO712 := Aside0.mk (Kd.V_below (S.uV HO712.out) hb); replace HO715 := Aside0.mk (Kd.N_below (by (with_reducible repeat (first | apply Kd.N_alloc | apply Kd.N_drewN | apply Kd.N_drew)); exact HO715.out) hb); replace HB := S.sA hb; (try clear hb)) | ((with_reducible refine gate_callee (f := 23) rfl ?_); refine S.gL (some 37) Try.func23 #[.slice Ao9 t707.length co9, .slice Ao10 t710.length co10, .slice Ao11 t713.length co11] ?_; (with_reducible refine (impl_SwitchSeconds.calls k _ _ t707 _ _ t710 _ _ t713 t718 _ ?s1 (S.rl HO709) ?s3 ?s4 ?s5 ?s6 A6.out).mono ?_); (case s1 => exact S.rd HO709); (case s3 => exact S.cD (Kd.V_reads' HO712.out).2.2); (case s4 => exact (Kd.V_reads' HO712.out).2.1); (case s5 => exact S.cD (Kd.N_reads' HO715.out).2.2); (case s6 => exact (Kd.N_reads' HO715.out).2.1); rintro e w13 ⟨v719, rfl, ho0, hb⟩; refine ⟨_, rfl, ?_⟩; replace HO709 := S.rb HO709 hb; replace HO712 := Aside0.mk (Kd.V_elder' (S.uV HO712.out) (Kd.R_base ho0) hb); replace HO715 := Aside0.mk (Kd.N_elder' (by (with_reducible repeat (first | apply Kd.N_alloc | apply Kd.N_drewN | apply Kd.N_drew)); exact HO715.out) (Kd.R_base ho0) hb); have HO720 := S.lwA ho0; replace HB := S.sA hb; (try clear hb); (try clear ho0)))
  (try simp only [Act.put, List.setIfInBounds_toArray, List.set_cons_zero, List.set_cons_succ])
  go_cut [66] (fun v66 wc => ∃ (kq : Nat) (x66_6 : Bool), v66 = .bool x66_6 ∧ Aside0 (laws_FnSwitched.j0 kq l0 t707 t710 t713 t716 t717 t718 x66_6 = some r) ∧ Aside0 (kq ≤ k) ∧ Aside0 (Kd.R k71 71 wc w.heap.size (fun _ => True) (.slice Ao9 t707.length co9) t707) ∧ Aside0 (Kd.V k85 85 wc w.heap.size (fun k_ => some k_ ≠ ((.slice Ao9 t707.length co9) : Value).ownBlock ∧ some k_ ≠ ((.slice Ao11 t713.length co11) : Value).ownBlock ∧ S.N k_ v719) (.slice Ao10 t710.length co10) t710) ∧ Aside0 (Kd.N k85 85 wc w.heap.size (fun k_ => some k_ ≠ ((.slice Ao9 t707.length co9) : Value).ownBlock ∧ S.N k_ v719) (.slice Ao11 t713.length co11) t713) ∧ Aside0 (Kd.R (Kd.int .i64) 3 wc w.heap.size (fun _ => True) v719 t718) ∧ Aside0 (Below w.heap.size w wc))
  case first =>
   as_aux_lemma =>
   have H := HC7.out
   clear HC7
   by_cases c14 : (t718.length : Int) > 0
   ·rw [if_pos c14] at H
    have c14b0 : decide (0 < (t718.length : Int)) = true := decide_eq_true c14
    have c14b1 : decide (0 < t718.length) = true := decide_eq_true (by omega)
    clear c14
    (first | rw [c14b0] | (simp only [i64_w, i32_w]; rw [c14b0]) | skip)
    by_cases c15 : t716 ≥ 0
    ·rw [if_pos c15] at H
     have c15b0 : decide (0 ≤ t716) = true := decide_eq_true c15
     clear c15
     by_cases c16 : ((decide (t717 ≥ 0)) != (decide (t716 ≤ 100000))) = true
     ·rw [if_pos c16] at H
      have c16b0 : ((decide (t717 ≥ 0)) != (decide (t716 ≤ 100000))) = true := c16
      (try (have c16b1 : decide ((decide (t717 ≥ 0)) = (decide (t716 ≤ 100000))) = false := by simpa using c16))
      (try (have c16b2 : ((decide (t717 ≥ 0)) == (decide (t716 ≤ 100000))) = false := by simpa using c16))
      (try (have c16b3 : ¬ ((decide (t717 ≥ 0)) = (decide (t716 ≤ 100000))) := by simpa using c16))
      clear c16
      have H' := Aside0.mk H
      clear H
      obtain ⟨Ao17, co17, eo17⟩ := Kd.R_slice HO720.out
      subst eo17
      go_wp2
      go_meet
      case rel => exact ⟨_, (true), S.eA, H', S.le, ⟨S.uR HO709.out⟩, ⟨by (with_reducible repeat (first | apply Kd.V_alloc | apply Kd.V_drewN | apply Kd.V_drew)); exact Kd.V_mono HO712.out (fun _ hk => ⟨hk.1.1, ⟨hk.1.2, hk.2⟩⟩)⟩, ⟨by (with_reducible repeat (first | apply Kd.N_alloc | apply Kd.N_drewN | apply Kd.N_drew)); exact HO715.out⟩, ⟨S.uR HO720.out⟩, ⟨S.bA⟩⟩
     ·rw [if_neg c16] at H
      have c16b0 : ((decide (t717 ≥ 0)) != (decide (t716 ≤ 100000))) = false := by simpa using c16
      (try (have c16b1 : decide ((decide (t717 ≥ 0)) = (decide (t716 ≤ 100000))) = true := by simpa using c16))
      (try (have c16b2 : ((decide (t717 ≥ 0)) == (decide (t716 ≤ 100000))) = true := by simpa using c16))
      clear c16
      replace H := S.bd H; obtain ⟨t721, A18, H⟩ := H
      (try dsimp only at H)
      replace H := S.db H; rcases H with ⟨rfl, H⟩ | ⟨rfl, H⟩
      ·replace H := S.bd H; obtain ⟨t722, A20, H⟩ := H
       (try dsimp only at H)
       have H' := Aside0.mk H
       clear H
       obtain ⟨Ao21, co21, eo21⟩ := Kd.R_slice HO720.out
       subst eo21
       go_wp2_with (first | (go_at_call 49; (with_reducible refine (laws_ascends.calls k _ _ t718 true _ ?s1 (S.rl HO720) A18.out).mono ?_); (case s1 => exact S.rd HO720); rintro e w' ⟨rfl, ⟨nd, rfl⟩⟩) | (go_at_call 21; (with_reducible refine (impl_CanSwitch.calls k _ _ t707 _ _ t710 _ _ t713 t722 _ ?s1 (S.rl HO709) ?s3 ?s4 ?s5 ?s6 A20.out).mono ?_); (case s1 => exact S.rd HO709); (case s3 => exact S.cD (Kd.V_reads' HO712.out).2.2); (case s4 => exact (Kd.V_reads' HO712.out).2.1); (case s5 => exact S.cD (Kd.N_reads' HO715.out).2.2); (case s6 => exact (Kd.N_reads' HO715.out).2.1); rintro e w22 ⟨rfl, hb⟩; replace HO709 := S.rb HO709 hb; replace HO712 := Aside0.mk (Kd.V_below (S.uV HO712.out) hb); replace HO715 := Aside0.mk (Kd.N_below (by (with_reducible repeat (first | apply Kd.N_alloc | apply Kd.N_drewN | apply Kd.N_drew)); exact HO715.out) hb); replace HO720 := S.rb HO720 hb; replace HB := S.sA hb; (try clear hb)))
       go_meet
       case rel => exact ⟨_, ((t722 != (decide ((t718.length : Int) > 0)))), S.eA, H', S.le, ⟨S.uR HO709.out⟩, ⟨by (with_reducible repeat (first | apply Kd.V_alloc | apply Kd.V_drewN | apply Kd.V_drew)); exact Kd.V_mono HO712.out (fun _ hk => ⟨hk.1.1, ⟨hk.1.2, hk.2⟩⟩)⟩, ⟨by (with_reducible repeat (first | apply Kd.N_alloc | apply Kd.N_drewN | apply Kd.N_drew)); exact HO715.out⟩, ⟨S.uR HO720.out⟩, ⟨S.bA⟩⟩
      ·have H' := Aside0.mk H
       clear H
       obtain ⟨Ao23, co23, eo23⟩ := Kd.R_slice HO720.out
       subst eo23
       go_wp2_with (first | (go_at_call 49; (with_reducible refine (laws_ascends.calls k _ _ t718 false _ ?s1 (S.rl HO720) A18.out).mono ?_); (case s1 => exact S.rd HO720); rintro e w' ⟨rfl, ⟨nd, rfl⟩⟩))
       go_meet
       case rel => exact ⟨_, (true), S.eA, H', S.le, ⟨S.uR HO709.out⟩, ⟨by (with_reducible repeat (first | apply Kd.V_alloc | apply Kd.V_drewN | apply Kd.V_drew)); exact Kd.V_mono HO712.out (fun _ hk => ⟨hk.1.1, ⟨hk.1.2, hk.2⟩⟩)⟩, ⟨by (with_reducible repeat (first | apply Kd.N_alloc | apply Kd.N_drewN | apply Kd.N_drew)); exact HO715.out⟩, ⟨S.uR HO720.out⟩, ⟨S.bA⟩⟩
    ·rw [if_neg c15] at H
     have c15b0 : decide (0 ≤ t716) = false := decide_eq_false c15
     clear c15
     by_cases c24 : ((decide (t717 ≥ 0)) != false) = true
     ·rw [if_pos c24] at H
      have c24b0 : ((decide (t717 ≥ 0)) != false) = true := c24
      (try (have c24b1 : decide ((decide (t717 ≥ 0)) = false) = false := by simpa using c24))
      (try (have c24b2 : ((decide (t717 ≥ 0)) == false) = false := by simpa using c24))
      (try (have c24b3 : ¬ ((decide (t717 ≥ 0)) = false) := by simpa using c24))
      clear c24
      have H' := Aside0.mk H
      clear H
      obtain ⟨Ao25, co25, eo25⟩ := Kd.R_slice HO720.out
      subst eo25
      go_wp2
      go_meet
      case rel => exact ⟨_, (true), S.eA, H', S.le, ⟨S.uR HO709.out⟩, ⟨by (with_reducible repeat (first | apply Kd.V_alloc | apply Kd.V_drewN | apply Kd.V_drew)); exact Kd.V_mono HO712.out (fun _ hk => ⟨hk.1.1, ⟨hk.1.2, hk.2⟩⟩)⟩, ⟨by (with_reducible repeat (first | apply Kd.N_alloc | apply Kd.N_drewN | apply Kd.N_drew)); exact HO715.out⟩, ⟨S.uR HO720.out⟩, ⟨S.bA⟩⟩
     ·rw [if_neg c24] at H
      have c24b0 : ((decide (t717 ≥ 0)) != false) = false := by simpa using c24
      (try (have c24b1 : decide ((decide (t717 ≥ 0)) = false) = true := by simpa using c24))
      (try (have c24b2 : ((decide (t717 ≥ 0)) == false) = true := by simpa using c24))
      clear c24
      replace H := S.bd H; obtain ⟨t723, A26, H⟩ := H
      (try dsimp only at H)
      replace H := S.db H; rcases H with ⟨rfl, H⟩ | ⟨rfl, H⟩
      ·replace H := S.bd H; obtain ⟨t724, A28, H⟩ := H
       (try dsimp only at H)
       have H' := Aside0.mk H
       clear H
       obtain ⟨Ao29, co29, eo29⟩ := Kd.R_slice HO720.out
       subst eo29
       go_wp2_with (first | (go_at_call 49; (with_reducible refine (laws_ascends.calls k _ _ t718 true _ ?s1 (S.rl HO720) A26.out).mono ?_); (case s1 => exact S.rd HO720); rintro e w' ⟨rfl, ⟨nd, rfl⟩⟩) | (go_at_call 21; (with_reducible refine (impl_CanSwitch.calls k _ _ t707 _ _ t710 _ _ t713 t724 _ ?s1 (S.rl HO709) ?s3 ?s4 ?s5 ?s6 A28.out).mono ?_); (case s1 => exact S.rd HO709); (case s3 => exact S.cD (Kd.V_reads' HO712.out).2.2); (case s4 => exact (Kd.V_reads' HO712.out).2.1); (case s5 => exact S.cD (Kd.N_reads' HO715.out).2.2); (case s6 => exact (Kd.N_reads' HO715.out).2.1); rintro e w30 ⟨rfl, hb⟩; replace HO709 := S.rb HO709 hb; replace HO712 := Aside0.mk (Kd.V_below (S.uV HO712.out) hb); replace HO715 := Aside0.mk (Kd.N_below (by (with_reducible repeat (first | apply Kd.N_alloc | apply Kd.N_drewN | apply Kd.N_drew)); exact HO715.out) hb); replace HO720 := S.rb HO720 hb; replace HB := S.sA hb; (try clear hb)))
       go_meet
       case rel => exact ⟨_, ((t724 != (decide ((t718.length : Int) > 0)))), S.eA, H', S.le, ⟨S.uR HO709.out⟩, ⟨by (with_reducible repeat (first | apply Kd.V_alloc | apply Kd.V_drewN | apply Kd.V_drew)); exact Kd.V_mono HO712.out (fun _ hk => ⟨hk.1.1, ⟨hk.1.2, hk.2⟩⟩)⟩, ⟨by (with_reducible repeat (first | apply Kd.N_alloc | apply Kd.N_drewN | apply Kd.N_drew)); exact HO715.out⟩, ⟨S.uR HO720.out⟩, ⟨S.bA⟩⟩
      ·have H' := Aside0.mk H
       clear H
       obtain ⟨Ao31, co31, eo31⟩ := Kd.R_slice HO720.out
       subst eo31
       go_wp2_with (first | (go_at_call 49; (with_reducible refine (laws_ascends.calls k _ _ t718 false _ ?s1 (S.rl HO720) A26.out).mono ?_); (case s1 => exact S.rd HO720); rintro e w' ⟨rfl, ⟨nd, rfl⟩⟩))
       go_meet
       case rel => exact ⟨_, (true), S.eA, H', S.le, ⟨S.uR HO709.out⟩, ⟨by (with_reducible repeat (first | apply Kd.V_alloc | apply Kd.V_drewN | apply Kd.V_drew)); exact Kd.V_mono HO712.out (fun _ hk => ⟨hk.1.1, ⟨hk.1.2, hk.2⟩⟩)⟩, ⟨by (with_reducible repeat (first | apply Kd.N_alloc | apply Kd.N_drewN | apply Kd.N_drew)); exact HO715.out⟩, ⟨S.uR HO720.out⟩, ⟨S.bA⟩⟩
   ·rw [if_neg c14] at H
    have c14b0 : decide (0 < (t718.length : Int)) = false := decide_eq_false c14
    have c14b1 : decide (0 < t718.length) = false := decide_eq_false (by omega)
    clear c14
    (first | rw [c14b0] | (simp only [i64_w, i32_w]; rw [c14b0]) | skip)
    by_cases c32 : ((decide (t717 ≥ 0)) != false) = true
    ·rw [if_pos c32] at H
     have c32b0 : ((decide (t717 ≥ 0)) != false) = true := c32
     (try (have c32b1 : decide ((decide (t717 ≥ 0)) = false) = false := by simpa using c32))
     (try (have c32b2 : ((decide (t717 ≥ 0)) == false) = false := by simpa using c32))
     (try (have c32b3 : ¬ ((decide (t717 ≥ 0)) = false) := by simpa using c32))
     clear c32
     have H' := Aside0.mk H
     clear H
     obtain ⟨Ao33, co33, eo33⟩ := Kd.R_slice HO720.out
     subst eo33
     go_wp2
     go_meet
     case rel => exact ⟨_, (true), S.eA, H', S.le, ⟨S.uR HO709.out⟩, ⟨by (with_reducible repeat (first | apply Kd.V_alloc | apply Kd.V_drewN | apply Kd.V_drew)); exact Kd.V_mono HO712.out (fun _ hk => ⟨hk.1.1, ⟨hk.1.2, hk.2⟩⟩)⟩, ⟨by (with_reducible repeat (first | apply Kd.N_alloc | apply Kd.N_drewN | apply Kd.N_drew)); exact HO715.out⟩, ⟨S.uR HO720.out⟩, ⟨S.bA⟩⟩
    ·rw [if_neg c32] at H
     have c32b0 : ((decide (t717 ≥ 0)) != false) = false := by simpa using c32
     (try (have c32b1 : decide ((decide (t717 ≥ 0)) = false) = true := by simpa using c32))
     (try (have c32b2 : ((decide (t717 ≥ 0)) == false) = true := by simpa using c32))
     clear c32
     replace H := S.bd H; obtain ⟨t725, A34, H⟩ := H
     (try dsimp only at H)
     replace H := S.db H; rcases H with ⟨rfl, H⟩ | ⟨rfl, H⟩
     ·replace H := S.bd H; obtain ⟨t726, A36, H⟩ := H
      (try dsimp only at H)
      have H' := Aside0.mk H
      clear H
      obtain ⟨Ao37, co37, eo37⟩ := Kd.R_slice HO720.out
      subst eo37
      go_wp2_with (first | (go_at_call 49; (with_reducible refine (laws_ascends.calls k _ _ t718 true _ ?s1 (S.rl HO720) A34.out).mono ?_); (case s1 => exact S.rd HO720); rintro e w' ⟨rfl, ⟨nd, rfl⟩⟩) | (go_at_call 21; (with_reducible refine (impl_CanSwitch.calls k _ _ t707 _ _ t710 _ _ t713 t726 _ ?s1 (S.rl HO709) ?s3 ?s4 ?s5 ?s6 A36.out).mono ?_); (case s1 => exact S.rd HO709); (case s3 => exact S.cD (Kd.V_reads' HO712.out).2.2); (case s4 => exact (Kd.V_reads' HO712.out).2.1); (case s5 => exact S.cD (Kd.N_reads' HO715.out).2.2); (case s6 => exact (Kd.N_reads' HO715.out).2.1); rintro e w38 ⟨rfl, hb⟩; replace HO709 := S.rb HO709 hb; replace HO712 := Aside0.mk (Kd.V_below (S.uV HO712.out) hb); replace HO715 := Aside0.mk (Kd.N_below (by (with_reducible repeat (first | apply Kd.N_alloc | apply Kd.N_drewN | apply Kd.N_drew)); exact HO715.out) hb); replace HO720 := S.rb HO720 hb; replace HB := S.sA hb; (try clear hb)))
      go_meet
      case rel => exact ⟨_, ((t726 != (decide ((t718.length : Int) > 0)))), S.eA, H', S.le, ⟨S.uR HO709.out⟩, ⟨by (with_reducible repeat (first | apply Kd.V_alloc | apply Kd.V_drewN | apply Kd.V_drew)); exact Kd.V_mono HO712.out (fun _ hk => ⟨hk.1.1, ⟨hk.1.2, hk.2⟩⟩)⟩, ⟨by (with_reducible repeat (first | apply Kd.N_alloc | apply Kd.N_drewN | apply Kd.N_drew)); exact HO715.out⟩, ⟨S.uR HO720.out⟩, ⟨S.bA⟩⟩
     ·have H' := Aside0.mk H
      clear H
      obtain ⟨Ao39, co39, eo39⟩ := Kd.R_slice HO720.out
      subst eo39
      go_wp2_with (first | (go_at_call 49; (with_reducible refine (laws_ascends.calls k _ _ t718 false _ ?s1 (S.rl HO720) A34.out).mono ?_); (case s1 => exact S.rd HO720); rintro e w' ⟨rfl, ⟨nd, rfl⟩⟩))
      go_meet
      case rel => exact ⟨_, (true), S.eA, H', S.le, ⟨S.uR HO709.out⟩, ⟨by (with_reducible repeat (first | apply Kd.V_alloc | apply Kd.V_drewN | apply Kd.V_drew)); exact Kd.V_mono HO712.out (fun _ hk => ⟨hk.1.1, ⟨hk.1.2, hk.2⟩⟩)⟩, ⟨by (with_reducible repeat (first | apply Kd.N_alloc | apply Kd.N_drewN | apply Kd.N_drew)); exact HO715.out⟩, ⟨S.uR HO720.out⟩, ⟨S.bA⟩⟩
  case rest =>
   as_aux_lemma =>
   clear HC7
   try clear c3
   obtain ⟨kq, x66_6, rfl, HA, HJ6, HO_3, HO_4, HO_5, HO_8, HB⟩ := hcut
   cases kq with
   | zero => exact absurd HA.out (by simp [laws_FnSwitched.j0])
   | succ kj6 =>
    have H := HA.out
    clear HA
    simp only [laws_FnSwitched.j0] at H
    replace H := S.db H; rcases H with ⟨rfl, H⟩ | ⟨rfl, H⟩
    ·obtain rfl := Option.some.inj H
     go_wp2
     go_ret
     exact ⟨S.eW, S.bA⟩
    ·have HC41 := Aside0.mk H
     clear H
     go_upto_if 68 with (fail)
     go_cut [] (fun wc => ∃ (kq : Nat), Aside0 (laws_FnSwitched.j4 kq l0 = some r) ∧ Aside0 (kq ≤ kj6) ∧ Aside0 (Below w.heap.size w wc))
     case first =>
      as_aux_lemma =>
      have H := HC41.out
      clear HC41
      by_cases c42 : t717 ≥ 0
      ·rw [if_pos c42] at H
       have c42b0 : decide (0 ≤ t717) = true := decide_eq_true c42
       clear c42
       (first | rw [c42b0] | (simp only [i64_w, i32_w]; rw [c42b0]) | skip)
       have HC43 := Aside0.mk H
       clear H
       go_upto_region 9 with (fail)
       go_cut [90] (fun v90 wc => ∃ (kq : Nat) (x90_42 : Bool), v90 = .bool x90_42 ∧ Aside0 (laws_FnSwitched.j1 kq l0 t707 t710 t713 t717 x90_42 = some r) ∧ Aside0 (kq ≤ kj6) ∧ Aside0 (Kd.R k71 71 wc w.heap.size (fun _ => True) (.slice Ao9 t707.length co9) t707) ∧ Aside0 (Kd.V k85 85 wc w.heap.size (fun k_ => some k_ ≠ ((.slice Ao9 t707.length co9) : Value).ownBlock ∧ some k_ ≠ ((.slice Ao11 t713.length co11) : Value).ownBlock) (.slice Ao10 t710.length co10) t710) ∧ Aside0 (Kd.N k85 85 wc w.heap.size (fun k_ => some k_ ≠ ((.slice Ao9 t707.length co9) : Value).ownBlock) (.slice Ao11 t713.length co11) t713) ∧ Aside0 (Below w.heap.size w wc))
       case first =>
        as_aux_lemma =>
        have H := HC43.out
        clear HC43
        replace H := S.dc H; rcases H with ⟨H, c44b0⟩ | ⟨H, c44b0⟩
        ·(first | rw [c44b0] | (simp only [i64_w, i32_w]; rw [c44b0]) | skip)
         have H' := Aside0.mk H
         clear H
         go_wp2
         go_meet
         case rel => exact ⟨_, (true), S.eA, H', ⟨by have := HJ6.out; first | omega | exact Nat.le_refl _⟩, ⟨S.uR HO_3.out⟩, ⟨by (with_reducible repeat (first | apply Kd.V_alloc | apply Kd.V_drewN | apply Kd.V_drew)); exact Kd.V_mono HO_4.out (fun _ hk => ⟨hk.1, hk.2.1⟩)⟩, ⟨by (with_reducible repeat (first | apply Kd.N_alloc | apply Kd.N_drewN | apply Kd.N_drew)); exact Kd.N_mono HO_5.out (fun _ hk => hk.1)⟩, ⟨S.bA⟩⟩
        ·(first | rw [c44b0] | (simp only [i64_w, i32_w]; rw [c44b0]) | skip)
         replace H := S.bd H; obtain ⟨t727, A45, H⟩ := H
         (try dsimp only at H)
         by_cases c46 : (wrap64 (t717 - t716)) ≥ t727
         ·rw [if_pos c46] at H
          have c46b0 : decide (t727 ≤ (wrap64 (t717 - t716))) = true := decide_eq_true c46
          clear c46
          have H' := Aside0.mk H
          clear H
          go_wp2_with (first | (go_at_call 41; (with_reducible refine (impl_Cycle.calls kj6 _ _ t707 _ _ t710 t727 _ ?s1 (S.rl HO_3) ?s3 ?s4 A45.out).mono ?_); (case s1 => exact S.rd HO_3); (case s3 => exact S.cD (Kd.V_reads' HO_4.out).2.2); (case s4 => exact (Kd.V_reads' HO_4.out).2.1); rintro e w47 ⟨rfl, hb⟩; replace HO_3 := S.rb HO_3 hb; replace HO_4 := Aside0.mk (Kd.V_below (S.uV HO_4.out) hb); replace HO_5 := Aside0.mk (Kd.N_below (by (with_reducible repeat (first | apply Kd.N_alloc | apply Kd.N_drewN | apply Kd.N_drew)); exact HO_5.out) hb); replace HO_8 := S.rb HO_8 hb; replace HB := S.sA hb; (try clear hb)))
          go_meet
          case rel => exact ⟨_, (true), S.eA, H', ⟨by have := HJ6.out; first | omega | exact Nat.le_refl _⟩, ⟨S.uR HO_3.out⟩, ⟨by (with_reducible repeat (first | apply Kd.V_alloc | apply Kd.V_drewN | apply Kd.V_drew)); exact Kd.V_mono HO_4.out (fun _ hk => ⟨hk.1, hk.2.1⟩)⟩, ⟨by (with_reducible repeat (first | apply Kd.N_alloc | apply Kd.N_drewN | apply Kd.N_drew)); exact Kd.N_mono HO_5.out (fun _ hk => hk.1)⟩, ⟨S.bA⟩⟩
         ·rw [if_neg c46] at H
          have c46b0 : decide (t727 ≤ (wrap64 (t717 - t716))) = false := decide_eq_false c46
          clear c46
          replace H := S.bd H; obtain ⟨t728, A48, H⟩ := H
          (try dsimp only at H)
          by_cases c49 : t728 = 0
          ·rw [if_pos c49] at H
           exact absurd H (by simp)
          ·rw [if_neg c49] at H
           have c49b0 : (t728 == 0) = false := beq_eq_false_iff_ne.mpr c49
           have c49b1 : (t728 != 0) = true := bne_iff_ne.mpr c49
           replace H := S.bd H; obtain ⟨t729, A50, H⟩ := H
           (try dsimp only at H)
           have H' := Aside0.mk H
           clear H
           obtain rfl := Option.some.inj (A45.out.symm.trans A48.out)
           obtain ⟨Ao53, co53, eo53⟩ := Kd.R_slice HO_8.out
           subst eo53
           go_wp2_with (first | (go_at_call 41; (with_reducible refine (impl_Cycle.calls kj6 _ _ t707 _ _ t710 t727 _ ?s1 (S.rl HO_3) ?s3 ?s4 A45.out).mono ?_); (case s1 => exact S.rd HO_3); (case s3 => exact S.cD (Kd.V_reads' HO_4.out).2.2); (case s4 => exact (Kd.V_reads' HO_4.out).2.1); rintro e w51 ⟨rfl, hb⟩; replace HO_3 := S.rb HO_3 hb; replace HO_4 := Aside0.mk (Kd.V_below (S.uV HO_4.out) hb); replace HO_5 := Aside0.mk (Kd.N_below (by (with_reducible repeat (first | apply Kd.N_alloc | apply Kd.N_drewN | apply Kd.N_drew)); exact HO_5.out) hb); replace HO_8 := S.rb HO_8 hb; replace HB := S.sA hb; (try clear hb)) | (go_at_call 41; (with_reducible refine (impl_Cycle.calls kj6 _ _ t707 _ _ t710 t727 _ ?s1 (S.rl HO_3) ?s3 ?s4 A45.out).mono ?_); (case s1 => exact S.rd HO_3); (case s3 => exact S.cD (Kd.V_reads' HO_4.out).2.2); (case s4 => exact (Kd.V_reads' HO_4.out).2.1); rintro e w52 ⟨rfl, hb⟩; replace HO_3 := S.rb HO_3 hb; replace HO_4 := Aside0.mk (Kd.V_below (S.uV HO_4.out) hb); replace HO_5 := Aside0.mk (Kd.N_below (by (with_reducible repeat (first | apply Kd.N_alloc | apply Kd.N_drewN | apply Kd.N_drew)); exact HO_5.out) hb); replace HO_8 := S.rb HO_8 hb; replace HB := S.sA hb; (try clear hb); obtain ⟨Ao53, co53, eo53⟩ := Kd.R_slice HO_8.out; subst eo53) | (go_at_call 50; (with_reducible refine (laws_contains.calls kj6 _ _ t718 (Int.tmod t717 t727) t729 _ ?s1 (S.rl HO_8) A50.out).mono ?_); (case s1 => exact S.rd HO_8); rintro e w' ⟨rfl, ⟨nd, rfl⟩⟩))
           go_meet
           case rel => exact ⟨_, (!t729), S.eA, H', ⟨by have := HJ6.out; first | omega | exact Nat.le_refl _⟩, ⟨S.uR HO_3.out⟩, ⟨by (with_reducible repeat (first | apply Kd.V_alloc | apply Kd.V_drewN | apply Kd.V_drew)); exact Kd.V_mono HO_4.out (fun _ hk => ⟨hk.1, hk.2.1⟩)⟩, ⟨by (with_reducible repeat (first | apply Kd.N_alloc | apply Kd.N_drewN | apply Kd.N_drew)); exact Kd.N_mono HO_5.out (fun _ hk => hk.1)⟩, ⟨S.bA⟩⟩
       case rest =>
        as_aux_lemma =>
        clear HC43
        try clear c3
        try clear c40
        try clear c42
        try clear c42b0
        obtain ⟨kq, x90_42, rfl, HA, HJ42, HO_3, HO_4, HO_5, HB⟩ := hcut
        cases kq with
        | zero => exact absurd HA.out (by simp [laws_FnSwitched.j1])
        | succ kj42 =>
         have H := HA.out
         clear HA
         simp only [laws_FnSwitched.j1] at H
         replace H := S.db H; rcases H with ⟨rfl, H⟩ | ⟨rfl, H⟩
         ·obtain rfl := Option.some.inj H
          go_wp2
          go_ret
          exact ⟨S.eW, S.bA⟩
         ·have H' := Aside0.mk H
          clear H
          go_wp2
          go_loopg [9] kj42 (fun kq v9 w' => ∃ (x9_3 : Int), v9 = .int .i64 x9_3 ∧ Aside0 (laws_FnSwitched.l0 kq l0 t707 t710 t713 t717 x9_3 = some r) ∧ Aside0 (kq ≤ kj42) ∧ Aside0 (Kd.R k71 71 w' w.heap.size (fun _ => True) (.slice Ao9 t707.length co9) t707) ∧ Aside0 (Kd.V k85 85 w' w.heap.size (fun k_ => some k_ ≠ ((.slice Ao9 t707.length co9) : Value).ownBlock ∧ some k_ ≠ ((.slice Ao11 t713.length co11) : Value).ownBlock) (.slice Ao10 t710.length co10) t710) ∧ Aside0 (Kd.N k85 85 w' w.heap.size (fun k_ => some k_ ≠ ((.slice Ao9 t707.length co9) : Value).ownBlock) (.slice Ao11 t713.length co11) t713) ∧ Aside0 (Below w.heap.size w w'))
          case atStart => exact ⟨(wrap64 (t717 - 8)), S.eA, H', ⟨Nat.le_refl _⟩, ⟨S.uR HO_3.out⟩, ⟨S.uV HO_4.out⟩, ⟨by (with_reducible repeat (first | apply Kd.N_alloc | apply Kd.N_drewN | apply Kd.N_drew)); exact HO_5.out⟩, ⟨S.bA⟩⟩
          case round =>
           clear H'
           try clear c3
           try clear c40
           try clear c42
           try clear c42b0
           try clear c54
           obtain ⟨x9_3, rfl, HA, HK3, HO_3, HO_4, HO_5, HB⟩ := hrel
           cases gk with
           | zero => exact absurd HA.out (by simp [laws_FnSwitched.l0])
           | succ k3 =>
            have H := HA.out
            clear HA
            simp only [laws_FnSwitched.l0] at H
            replace H := S.dc H; rcases H with ⟨H, c55b0⟩ | ⟨H, c55b0⟩
            ·obtain ⟨y730, hy730⟩ : ∃ y_ : List Int, y_ = (([] : List Int)) := ⟨_, rfl⟩
             have hY_ := hy730; replace H : (laws_FnSwitched.l1 k3 l0 t707 t710 t713 t717 x9_3 y730 0) = some r := S.rh; clear hY_
             have Ny730 := Aside0.mk hy730
             clear hy730
             have H' := Aside0.mk H
             clear H
             go_wp2_with (first | ((with_reducible refine gate_dst (N := 99) rfl ?_); (try (refine gate_guard (by rfl) ?_; dsimp only)); refine Kd.R_lit (Kd.int .i64) _ 3 ?hg (N := 99) ?hd (xs := ([] : List Int)) (inner := []) (ok := fun _ => True) (okp := fun _ => True) ?hr ?hp (fun _ hk => hk) trivial (Below.refl _ _) (Nat.le_refl _) (by simp) ?_; (case hd => rfl); (case hg => rfl); (case hr => first | (go_simp; done) | (go_simp; rfl)); (case hp => exact (Reps.none _ _)); intro v731 w56 ho57 hb hg_ hnew_; clear hg_ hnew_; (first | rw [← Ny730.out] at ho57 | (simp only [Int.reduceToNat] at ho57; rw [← Ny730.out] at ho57)); replace HO_3 := S.rb HO_3 hb; replace HO_4 := Aside0.mk (Kd.V_elder' (S.uV HO_4.out) (Kd.R_base ho57) hb); replace HO_5 := Aside0.mk (Kd.N_elder' (by (with_reducible repeat (first | apply Kd.N_alloc | apply Kd.N_drewN | apply Kd.N_drew)); exact HO_5.out) (Kd.R_base ho57) hb); have HO732 := S.lwA ho57; replace HB := S.sA hb; clear hb ho57))
             go_loopg [10, 11] k3 (fun kq v10 v11 w' => ∃ (x10_4 : List Int) (x11_4 : Int), v11 = .int .i64 x11_4 ∧ Aside0 (laws_FnSwitched.l1 kq l0 t707 t710 t713 t717 x9_3 x10_4 x11_4 = some r) ∧ Aside0 (kq ≤ k3) ∧ Aside0 (Kd.R k71 71 w' w.heap.size (fun _ => True) (.slice Ao9 t707.length co9) t707) ∧ Aside0 (Kd.V k85 85 w' w.heap.size (fun k_ => some k_ ≠ ((.slice Ao9 t707.length co9) : Value).ownBlock ∧ some k_ ≠ ((.slice Ao11 t713.length co11) : Value).ownBlock ∧ S.N k_ v10) (.slice Ao10 t710.length co10) t710) ∧ Aside0 (Kd.N k85 85 w' w.heap.size (fun k_ => some k_ ≠ ((.slice Ao9 t707.length co9) : Value).ownBlock ∧ S.N k_ v10) (.slice Ao11 t713.length co11) t713) ∧ Aside0 (Kd.R (Kd.int .i64) 3 w' w.heap.size (fun _ => True) v10 x10_4) ∧ Aside0 (Below w.heap.size w w'))
             case atStart => exact ⟨(y730), (0), S.eA, H', ⟨Nat.le_refl _⟩, ⟨S.uR HO_3.out⟩, ⟨by (with_reducible repeat (first | apply Kd.V_alloc | apply Kd.V_drewN | apply Kd.V_drew)); exact Kd.V_mono HO_4.out (fun _ hk => ⟨hk.1.1, ⟨hk.1.2, hk.2⟩⟩)⟩, ⟨by (with_reducible repeat (first | apply Kd.N_alloc | apply Kd.N_drewN | apply Kd.N_drew)); exact HO_5.out⟩, ⟨S.uR HO732.out⟩, ⟨S.bA⟩⟩
             case round =>
              clear H'
              try clear c3
              try clear c40
              try clear c42
              try clear c42b0
              try clear c54
              try clear c55
              try clear c55b0
              obtain ⟨x10_4, x11_4, rfl, HA, HK4, HO_3, HO_4, HO_5, HO_10, HB⟩ := hrel
              cases gk with
              | zero => exact absurd HA.out (by simp [laws_FnSwitched.l1])
              | succ k4 =>
               have H := HA.out
               clear HA
               simp only [laws_FnSwitched.l1] at H
               replace H := S.dc H; rcases H with ⟨H, c58b0⟩ | ⟨H, c58b0⟩
               ·by_cases c59 : x9_3 ≥ 0
                ·rw [if_pos c59] at H
                 have c59b0 : decide (0 ≤ x9_3) = true := decide_eq_true c59
                 clear c59
                 by_cases c60 : 0 ≤ x11_4
                 ·rw [if_pos c60] at H
                  have c60b0 : decide (0 ≤ x11_4) = true := decide_eq_true c60
                  clear c60
                  replace H := S.bd H; obtain ⟨t734, A61, H⟩ := H
                  (try dsimp only at H)
                  by_cases c62 : x10_4.length < 17592186044416
                  ·rw [if_pos c62] at H
                   have LMc62 := Aside0.mk c62
                   clear c62
                   obtain ⟨y735, hy735⟩ : ∃ y_ : List Int, y_ = (x10_4 ++ [t734]) := ⟨_, rfl⟩
                   have hY_ := hy735; replace H : (laws_FnSwitched.l1 k4 l0 t707 t710 t713 t717 x9_3 y735 (wrap64 (x11_4 + 1))) = some r := S.rh; clear hY_
                   have Ny735 := Aside0.mk hy735
                   clear hy735
                   have H' := Aside0.mk H
                   clear H
                   have p733 : 0 ≤ (x11_4 : Int) := S.oD
                   have q733 : x11_4 < (t707.length : Int) := S.oD
                   obtain ⟨ad733, e733, hx733_0, hx733_1, hx733_2, hx733_3⟩ := at_T71 (Kd.R_reads' HO_3.out).2.2 x11_4 p733 q733
                   cases e733
                   replace p733 := eq_true p733
                   replace q733 := eq_true q733
                   go_wp2_with (first | ((with_reducible refine gate_callee (f := 17) rfl ?_); refine S.gL (some 121) Try.func17 #[.slice (some ad733) t707.length co9, .slice Ao10 t710.length co10, .slice Ao11 t713.length co11, .int .i64 t717, .int .i64 x9_3, .int .i64 ((rd_T71 t707 x11_4).f0)] ?_; (with_reducible refine (impl_LightAfter.calls k4 _ _ t707 _ _ t710 _ _ t713 t717 x9_3 ((rd_T71 t707 x11_4).f0) t734 _ ?s1 (S.rl HO_3) ?s3 ?s4 ?s5 ?s6 A61.out).mono ?_); (case s1 => exact S.rd HO_3); (case s3 => exact S.cD (Kd.V_reads' HO_4.out).2.2); (case s4 => exact (Kd.V_reads' HO_4.out).2.1); (case s5 => exact S.cD (Kd.N_reads' HO_5.out).2.2); (case s6 => exact (Kd.N_reads' HO_5.out).2.1); rintro e w63 ⟨rfl, hb⟩; refine ⟨_, rfl, ?_⟩; replace HO_3 := S.rb HO_3 hb; replace HO_4 := Aside0.mk (Kd.V_below (S.uV HO_4.out) hb); replace HO_5 := Aside0.mk (Kd.N_below (by (with_reducible repeat (first | apply Kd.N_alloc | apply Kd.N_drewN | apply Kd.N_drew)); exact HO_5.out) hb); replace HO_10 := S.rb HO_10 hb; replace HB := S.sA hb; (try clear hb)) | ((with_reducible refine gate_builtin (b := .append) (xs := #[.tmp 110, .tmp 122]) rfl ?_); (try (refine gate_guard (by rfl) ?_; dsimp only)); at_builtin; refine Kd.R_append (Kd.int .i64) (w0 := w) w.heap.size rfl (.tmp 110) (.tmp 122) 36 3 (.int .i64 0) 8 rfl Try.underlying36 info3 rfl (by decide) (by omega) u10 x10_4 t734 [.int .i64 t734] (fun _ => True) (fun _ => False) rfl rfl ?aP (fun _ hk => hk.elim) ?aF ?aO ?aB ?aS ?aL ?_; (case aP => exact rfl); (case aB => exact S.bA); (case aF => exact (fun _ _ => trivial)); (case aO => exact (S.uR HO_10.out)); (case aS => exact (below_size S.bA)); (case aL => have := LMc62.out; omega); intro v736 w64 ho hb hg hat; rw [← Ny735.out] at ho; have n0_ := Aside0.mk (Kd.R_over' (S.uR HO_3.out) (Kd.R_typed (S.uR HO_10.out)) (by decide) hg); have n1_ := Aside0.mk (Kd.V_afterv (ok := (fun k_ => some k_ ≠ (.slice (some ad733) t707.length co9 : Value).ownBlock ∧ S.N k_ (.slice Ao11 t713.length co11))) (by (with_reducible repeat (first | apply Kd.V_alloc | apply Kd.V_drewN | apply Kd.V_drew)); exact Kd.V_mono HO_4.out (fun _ hk => ⟨⟨hk.1, hk.2.1⟩, hk.2.2⟩)) hg hat); have n2_ := Aside0.mk (Kd.N_afterv (ok := (fun k_ => some k_ ≠ (.slice (some ad733) t707.length co9 : Value).ownBlock)) (by (with_reducible repeat (first | apply Kd.N_alloc | apply Kd.N_drewN | apply Kd.N_drew)); exact HO_5.out) hg hat); have n3_ := Aside0.mk (hb); have n4_ := Aside0.mk (ho); clear HO_3; clear HO_4; clear HO_5; clear HB; clear HO_10; have HO_3 := n0_; have HO_4 := n1_; have HO_5 := n2_; have HB := n3_; have HO737 := n4_; clear n0_ n1_ n2_ n3_ n4_; clear ho hb hg hat))
                   go_roundg k4
                   case measure => have := HJ6.out; have := HJ42.out; have := HK3.out; have := HK4.out; omega
                   case rel => exact ⟨(y735), (wrap64 (x11_4 + 1)), S.eA, H', ⟨by have := HJ6.out; have := HJ42.out; have := HK3.out; have := HK4.out; omega⟩, ⟨S.uR HO_3.out⟩, ⟨by (with_reducible repeat (first | apply Kd.V_alloc | apply Kd.V_drewN | apply Kd.V_drew)); exact Kd.V_mono HO_4.out (fun _ hk => ⟨hk.1.1, ⟨hk.1.2, hk.2⟩⟩)⟩, ⟨by (with_reducible repeat (first | apply Kd.N_alloc | apply Kd.N_drewN | apply Kd.N_drew)); exact HO_5.out⟩, ⟨S.uR HO737.out⟩, ⟨S.bA⟩⟩
                  ·rw [if_neg c62] at H
                   exact absurd H (by simp)
                 ·rw [if_neg c60] at H
                  exact absurd H (by simp)
                ·rw [if_neg c59] at H
                 have c59b0 : decide (0 ≤ x9_3) = false := decide_eq_false c59
                 clear c59
                 have H' := Aside0.mk H
                 clear H
                 go_wp2
                 go_roundg k4
                 case measure => have := HJ6.out; have := HJ42.out; have := HK3.out; have := HK4.out; omega
                 case rel => exact ⟨(wrap64 (x9_3 + 1)), S.eA, H', ⟨by have := HJ6.out; have := HJ42.out; have := HK3.out; have := HK4.out; omega⟩, ⟨S.uR HO_3.out⟩, ⟨by (with_reducible repeat (first | apply Kd.V_alloc | apply Kd.V_drewN | apply Kd.V_drew)); exact Kd.V_mono HO_4.out (fun _ hk => ⟨hk.1, hk.2.1⟩)⟩, ⟨by (with_reducible repeat (first | apply Kd.N_alloc | apply Kd.N_drewN | apply Kd.N_drew)); exact Kd.N_mono HO_5.out (fun _ hk => hk.1)⟩, ⟨S.bA⟩⟩
               ·by_cases c65 : x9_3 ≥ 0
                ·rw [if_pos c65] at H
                 have c65b0 : decide (0 ≤ x9_3) = true := decide_eq_true c65
                 clear c65
                 replace H := S.bd H; obtain ⟨t738, A66, H⟩ := H
                 (try dsimp only at H)
                 replace H := S.db H; rcases H with ⟨rfl, H⟩ | ⟨rfl, H⟩
                 ·have H' := Aside0.mk H
                  clear H
                  obtain ⟨Ao68, co68, eo68⟩ := Kd.R_slice HO_10.out
                  subst eo68
                  go_wp2_with (first | (go_at_call 51; (with_reducible refine (impl_IsSafeLights.calls k4 _ _ t707 _ _ x10_4 true _ ?s1 (S.rl HO_3) ?s3 (S.rl HO_10) A66.out).mono ?_); (case s1 => exact S.rd HO_3); (case s3 => exact S.rd HO_10); rintro e w69 ⟨rfl, hb⟩; replace HO_3 := S.rb HO_3 hb; replace HO_4 := Aside0.mk (Kd.V_below (S.uV HO_4.out) hb); replace HO_5 := Aside0.mk (Kd.N_below (by (with_reducible repeat (first | apply Kd.N_alloc | apply Kd.N_drewN | apply Kd.N_drew)); exact HO_5.out) hb); replace HO_10 := S.rb HO_10 hb; replace HB := S.sA hb; (try clear hb)))
                  go_roundg k4
                  case measure => have := HJ6.out; have := HJ42.out; have := HK3.out; have := HK4.out; omega
                  case rel => exact ⟨(wrap64 (x9_3 + 1)), S.eA, H', ⟨by have := HJ6.out; have := HJ42.out; have := HK3.out; have := HK4.out; omega⟩, ⟨S.uR HO_3.out⟩, ⟨by (with_reducible repeat (first | apply Kd.V_alloc | apply Kd.V_drewN | apply Kd.V_drew)); exact Kd.V_mono HO_4.out (fun _ hk => ⟨hk.1, hk.2.1⟩)⟩, ⟨by (with_reducible repeat (first | apply Kd.N_alloc | apply Kd.N_drewN | apply Kd.N_drew)); exact Kd.N_mono HO_5.out (fun _ hk => hk.1)⟩, ⟨S.bA⟩⟩
                 ·obtain rfl := Option.some.inj H
                  obtain ⟨Ao70, co70, eo70⟩ := Kd.R_slice HO_10.out
                  subst eo70
                  go_wp2_with (first | (go_at_call 51; (with_reducible refine (impl_IsSafeLights.calls k4 _ _ t707 _ _ x10_4 false _ ?s1 (S.rl HO_3) ?s3 (S.rl HO_10) A66.out).mono ?_); (case s1 => exact S.rd HO_3); (case s3 => exact S.rd HO_10); rintro e w71 ⟨rfl, hb⟩; replace HO_3 := S.rb HO_3 hb; replace HO_4 := Aside0.mk (Kd.V_below (S.uV HO_4.out) hb); replace HO_5 := Aside0.mk (Kd.N_below (by (with_reducible repeat (first | apply Kd.N_alloc | apply Kd.N_drewN | apply Kd.N_drew)); exact HO_5.out) hb); replace HO_10 := S.rb HO_10 hb; replace HB := S.sA hb; (try clear hb)))
                  go_ret
                  exact ⟨S.eW, S.bA⟩
                ·rw [if_neg c65] at H
                 have c65b0 : decide (0 ≤ x9_3) = false := decide_eq_false c65
                 clear c65
                 have H' := Aside0.mk H
                 clear H
                 go_wp2
                 go_roundg k4
                 case measure => have := HJ6.out; have := HJ42.out; have := HK3.out; have := HK4.out; omega
                 case rel => exact ⟨(wrap64 (x9_3 + 1)), S.eA, H', ⟨by have := HJ6.out; have := HJ42.out; have := HK3.out; have := HK4.out; omega⟩, ⟨S.uR HO_3.out⟩, ⟨by (with_reducible repeat (first | apply Kd.V_alloc | apply Kd.V_drewN | apply Kd.V_drew)); exact Kd.V_mono HO_4.out (fun _ hk => ⟨hk.1, hk.2.1⟩)⟩, ⟨by (with_reducible repeat (first | apply Kd.N_alloc | apply Kd.N_drewN | apply Kd.N_drew)); exact Kd.N_mono HO_5.out (fun _ hk => hk.1)⟩, ⟨S.bA⟩⟩
            ·have H' := Aside0.mk H
             clear H
             go_wp2
             go_meet
             case rel => exact ⟨_, H', ⟨by have := HJ6.out; have := HJ42.out; have := HK3.out; first | omega | exact Nat.le_refl _⟩, ⟨S.bA⟩⟩
      ·rw [if_neg c42] at H
       have c42b0 : decide (0 ≤ t717) = false := decide_eq_false c42
       clear c42
       (first | rw [c42b0] | (simp only [i64_w, i32_w]; rw [c42b0]) | skip)
       have H' := Aside0.mk H
       clear H
       go_wp2
       go_meet
       case rel => exact ⟨_, H', ⟨by have := HJ6.out; first | omega | exact Nat.le_refl _⟩, ⟨S.bA⟩⟩
     case rest =>
      as_aux_lemma =>
      clear HC41
      try clear c3
      try clear c40
      obtain ⟨kq, HA, HJ40, HB⟩ := hcut
      cases kq with
      | zero => exact absurd HA.out (by simp [laws_FnSwitched.j4])
      | succ kj40 =>
       have H := HA.out
       clear HA
       simp only [laws_FnSwitched.j4] at H
       replace H := S.bd H; obtain ⟨⟨t739, t742⟩, A72, H⟩ := H
       (try dsimp only at H)
       replace H := S.bd H; obtain ⟨t743, A73, H⟩ := H
       (try dsimp only at H)
       have HC74 := Aside0.mk H
       clear H
       go_upto_region 23 with (first | ((with_reducible refine gate_callee (f := 52) rfl ?_); refine S.gL (some 134) Try.func52 #[.slice A0 l0.length c0] ?_; (with_reducible refine (spec_DrawRotatePlan.calls kj40 _ _ l0 t739 t742 _ ?s1 HC0.out A72.out).mono ?_); (case s1 => exact S.cA HR0.out); rintro e w75 ⟨v740, rfl, ho0, hb⟩; refine ⟨_, rfl, ?_⟩; have HO741 := Aside0.mk (Kd.V_lower (Kd.V_mono (ok' := fun k_ => True) ho0 (fun k_ hk_ => trivial)) (below_size S.bA)); replace HB := S.sA hb; (try clear hb); (try clear ho0); obtain ⟨Ao76, co76, eo76⟩ := Kd.V_slice HO741.out; subst eo76) | ((with_reducible refine gate_callee (f := 53) rfl ?_); refine S.gL (some 139) Try.func53 #[.slice Ao76 t739.length co76, .int .i64 t742] ?_; (with_reducible refine (impl_RotatePlan.calls kj40 _ _ t739 t742 t743 _ ?s1 ?s2 A73.out).mono ?_); (case s1 => exact S.cD (Kd.V_reads' HO741.out).2.2); (case s2 => exact (Kd.V_reads' HO741.out).2.1); rintro e w77 ⟨v744, rfl, ho0, hb⟩; refine ⟨_, rfl, ?_⟩; replace HO741 := Aside0.mk (Kd.V_elder' (S.uV HO741.out) (Kd.R_base ho0) hb); have HO745 := Aside0.mk (Kd.N_lower (Kd.N_mono (ok' := fun k_ => True) (Kd.R_N (Kd.R_bound ho0)) (fun k_ hk_ => trivial)) (below_size S.bA)); replace HB := S.sA hb; (try clear hb); (try clear ho0)))
       (try simp only [Act.put, List.setIfInBounds_toArray, List.set_cons_zero, List.set_cons_succ])
       go_cut [168] (fun v168 wc => ∃ (kq : Nat) (x168_73 : Bool), v168 = .bool x168_73 ∧ Aside0 (laws_FnSwitched.j5 kq l0 x168_73 = some r) ∧ Aside0 (kq ≤ kj40) ∧ Aside0 (Below w.heap.size w wc))
       case first =>
        as_aux_lemma =>
        have H := HC74.out
        clear HC74
        by_cases c78 : (t743.length : Int) = (t739.length : Int)
        ·rw [if_pos c78] at H
         have c78b0 : ((t743.length : Int) == (t739.length : Int)) = true := beq_iff_eq.mpr c78
         have c78b1 : ((t743.length : Int) != (t739.length : Int)) = false := bne_eq_false_iff_eq.mpr c78
         have c78b2 : (t743.length == t739.length) = true := by first | simpa using c78 | (simp at c78 ⊢; omega)
         clear c78
         (first | rw [c78b0] | (simp only [i64_w, i32_w]; rw [c78b0]) | skip)
         by_cases c79 : t742 ≥ 0
         ·rw [if_pos c79] at H
          have c79b0 : decide (0 ≤ t742) = true := decide_eq_true c79
          clear c79
          replace H := S.dc H; rcases H with ⟨H, c80b0⟩ | ⟨H, c80b0⟩
          ·by_cases c81 : (t739.length : Int) = 0
           ·rw [if_pos c81] at H
            exact absurd H (by simp)
           ·rw [if_neg c81] at H
            have c81b0 : ((t739.length : Int) == 0) = false := beq_eq_false_iff_ne.mpr c81
            have c81b1 : ((t739.length : Int) != 0) = true := bne_iff_ne.mpr c81
            have c81b2 : ¬ (t739 = []) := fun h_ => c81 (by rw [h_]; rfl)
            replace H := S.bd H; obtain ⟨t746, A82, H⟩ := H
            (try dsimp only at H)
            replace H := S.bd H; obtain ⟨t749, A83, H⟩ := H
            (try dsimp only at H)
            have H' := Aside0.mk H
            clear H
            obtain ⟨Ao84, co84, eo84⟩ := Kd.N_slice HO745.out
            subst eo84
            go_wp2_with (first | (go_at_call 53; (with_reducible refine (impl_RotatePlan.calls kj40 _ _ t743 (Int.tmod (wrap64 ((t739.length : Int) - t742)) (t739.length : Int)) t746 _ ?s1 ?s2 A82.out).mono ?_); (case s1 => exact S.cD (Kd.N_reads' HO745.out).2.2); (case s2 => exact (Kd.N_reads' HO745.out).2.1); rintro e w85 ⟨v747, rfl, ho0, hb⟩; replace HO741 := Aside0.mk (Kd.V_elder' (S.uV HO741.out) (Kd.N_base (Kd.R_N ho0)) hb); have HO748 := Aside0.mk (Kd.N_lower (Kd.N_mono (ok' := fun k_ => S.N k_ (.slice Ao84 t743.length co84)) (Kd.R_N (Kd.R_bound ho0)) (fun k_ hk_ => (Kd.fresh' (Kd.N_lt (by (with_reducible repeat (first | apply Kd.N_alloc | apply Kd.N_drewN | apply Kd.N_drew)); exact HO745.out)) k_ hk_.2.1))) (below_size S.bA)); replace HO745 := Aside0.mk (Kd.N_elder' (by (with_reducible repeat (first | apply Kd.N_alloc | apply Kd.N_drewN | apply Kd.N_drew)); exact HO745.out) (Kd.N_base (Kd.R_N ho0)) hb); replace HB := S.sA hb; (try clear hb); (try clear ho0); obtain ⟨Ao86, co86, eo86⟩ := Kd.N_slice HO748.out; subst eo86) | (go_at_call 54; (with_reducible refine (impl_EqualPlans.calls kj40 _ _ t746 _ _ t739 t749 _ ?s1 ?s2 ?s3 ?s4 A83.out).mono ?_); (case s1 => exact S.cD (Kd.N_reads' HO748.out).2.2); (case s2 => exact (Kd.N_reads' HO748.out).2.1); (case s3 => exact S.cD (Kd.V_reads' HO741.out).2.2); (case s4 => exact (Kd.V_reads' HO741.out).2.1); rintro e w87 ⟨rfl, hb⟩; replace HO741 := Aside0.mk (Kd.V_below (S.uV HO741.out) hb); replace HO745 := Aside0.mk (Kd.N_below (by (with_reducible repeat (first | apply Kd.N_alloc | apply Kd.N_drewN | apply Kd.N_drew)); exact HO745.out) hb); replace HO748 := Aside0.mk (Kd.N_below (by (with_reducible repeat (first | apply Kd.N_alloc | apply Kd.N_drewN | apply Kd.N_drew)); exact HO748.out) hb); replace HB := S.sA hb; (try clear hb)))
            go_meet
            case rel => exact ⟨_, (!t749), S.eA, H', ⟨by have := HJ6.out; have := HJ40.out; first | omega | exact Nat.le_refl _⟩, ⟨S.bA⟩⟩
          ·have H' := Aside0.mk H
           clear H
           obtain ⟨Ao88, co88, eo88⟩ := Kd.N_slice HO745.out
           subst eo88
           go_wp2
           go_meet
           case rel => exact ⟨_, (false), S.eA, H', ⟨by have := HJ6.out; have := HJ40.out; first | omega | exact Nat.le_refl _⟩, ⟨S.bA⟩⟩
         ·rw [if_neg c79] at H
          have c79b0 : decide (0 ≤ t742) = false := decide_eq_false c79
          clear c79
          have H' := Aside0.mk H
          clear H
          obtain ⟨Ao89, co89, eo89⟩ := Kd.N_slice HO745.out
          subst eo89
          go_wp2
          go_meet
          case rel => exact ⟨_, (false), S.eA, H', ⟨by have := HJ6.out; have := HJ40.out; first | omega | exact Nat.le_refl _⟩, ⟨S.bA⟩⟩
        ·rw [if_neg c78] at H
         have c78b0 : ((t743.length : Int) == (t739.length : Int)) = false := beq_eq_false_iff_ne.mpr c78
         have c78b1 : ((t743.length : Int) != (t739.length : Int)) = true := bne_iff_ne.mpr c78
         have c78b2 : (t743.length == t739.length) = false := by first | simpa using c78 | (simp at c78 ⊢; omega)
         (first | rw [c78b0] | (simp only [i64_w, i32_w]; rw [c78b0]) | skip)
         have H' := Aside0.mk H
         clear H
         obtain ⟨Ao90, co90, eo90⟩ := Kd.N_slice HO745.out
         subst eo90
         go_wp2
         go_meet
         case rel => exact ⟨_, (true), S.eA, H', ⟨by have := HJ6.out; have := HJ40.out; first | omega | exact Nat.le_refl _⟩, ⟨S.bA⟩⟩
       case rest =>
        as_aux_lemma =>
        clear HC74
        try clear c3
        try clear c40
        obtain ⟨kq, x168_73, rfl, HA, HJ73, HB⟩ := hcut
        cases kq with
        | zero => exact absurd HA.out (by simp [laws_FnSwitched.j5])
        | succ kj73 =>
         have H := HA.out
         clear HA
         simp only [laws_FnSwitched.j5] at H
         replace H := S.db H; rcases H with ⟨rfl, H⟩ | ⟨rfl, H⟩
         ·obtain rfl := Option.some.inj H
          go_wp2
          go_ret
          exact ⟨S.eW, S.bA⟩
         ·replace H := S.bd H; obtain ⟨⟨t750, t753, t756⟩, A92, H⟩ := H
          (try dsimp only at H)
          replace H := S.bd H; obtain ⟨⟨t759, t760⟩, A93, H⟩ := H
          (try dsimp only at H)
          replace H := S.bd H; obtain ⟨t763, A94, H⟩ := H
          (try dsimp only at H)
          by_cases c95 : (t760 == t763) = true
          ·rw [if_pos c95] at H
           have c95b0 : (t760 == t763) = true := c95
           (try (have c95b1 : decide (t760 = t763) = true := by simpa using c95))
           (try (have c95b2 : (t760 == t763) = true := by simpa using c95))
           clear c95
           obtain rfl := Option.some.inj H
           go_wp2_with (first | ((with_reducible refine gate_callee (f := 55) rfl ?_); refine S.gL (some 171) Try.func55 #[.slice A0 l0.length c0] ?_; (with_reducible refine (spec_DrawMakeSwitch.calls kj73 _ _ l0 t750 t753 t756 _ ?s1 HC0.out A92.out).mono ?_); (case s1 => exact S.cA HR0.out); rintro e w96 ⟨v751, v754, v757, rfl, ho0, ho1, ho2, hb⟩; refine ⟨_, rfl, ?_⟩; have HO752 := Aside0.mk (Kd.R_lower (Kd.R_mono (ok' := fun k_ => True) ho0 (fun _ hk_ => trivial)) (below_size S.bA)); have HO755 := Aside0.mk (Kd.V_lower (Kd.V_mono (ok' := fun k_ => S.N k_ v751 ∧ S.N k_ v757) ho1 (fun k_ hk_ => ⟨hk_.2.1, hk_.2.2⟩)) (below_size S.bA)); have HO758 := Aside0.mk (Kd.N_lower (Kd.N_mono (ok' := fun k_ => S.N k_ v751) ho2 (fun k_ hk_ => hk_.2)) (below_size S.bA)); replace HB := S.sA hb; (try clear hb); (try clear ho0); (try clear ho1); (try clear ho2); obtain ⟨Ao97, co97, eo97⟩ := Kd.R_slice HO752.out; subst eo97; obtain ⟨Ao98, co98, eo98⟩ := Kd.V_slice HO755.out; subst eo98; obtain ⟨Ao99, co99, eo99⟩ := Kd.N_slice HO758.out; subst eo99) | ((with_reducible refine gate_callee (f := 46) rfl ?_); refine S.gL (some 179) Try.func46 #[.slice Ao97 t750.length co97, .slice Ao98 t753.length co98, .slice Ao99 t756.length co99] ?_; (with_reducible refine (impl_MakeSwitch.calls kj73 _ _ t750 _ _ t753 _ _ t756 t759 t760 _ ?s1 (S.rl HO752) ?s3 ?s4 ?s5 ?s6 A93.out).mono ?_); (case s1 => exact S.rd HO752); (case s3 => exact S.cD (Kd.V_reads' HO755.out).2.2); (case s4 => exact (Kd.V_reads' HO755.out).2.1); (case s5 => exact S.cD (Kd.N_reads' HO758.out).2.2); (case s6 => exact (Kd.N_reads' HO758.out).2.1); rintro e w100 ⟨v761, rfl, ho0, hb⟩; refine ⟨_, rfl, ?_⟩; replace HO755 := Aside0.mk (Kd.V_elder' (S.uV HO755.out) (Kd.R_base ho0) hb); have HO762 := Aside0.mk (Kd.N_lower (Kd.N_mono (ok' := fun k_ => S.N k_ (.slice Ao97 t750.length co97) ∧ S.N k_ (.slice Ao99 t756.length co99)) (Kd.R_N (Kd.R_bound ho0)) (fun k_ hk_ => ⟨(Kd.fresh' (Kd.R_lt (S.uR HO752.out)) k_ hk_.2.1), (Kd.fresh' (Kd.N_lt (by (with_reducible repeat (first | apply Kd.N_alloc | apply Kd.N_drewN | apply Kd.N_drew)); exact HO758.out)) k_ hk_.2.1)⟩)) (below_size S.bA)); replace HO752 := S.rb HO752 hb; replace HO758 := Aside0.mk (Kd.N_elder' (by (with_reducible repeat (first | apply Kd.N_alloc | apply Kd.N_drewN | apply Kd.N_drew)); exact HO758.out) (Kd.N_base (Kd.R_N ho0)) hb); replace HB := S.sA hb; (try clear hb); (try clear ho0); obtain ⟨Ao101, co101, eo101⟩ := Kd.N_slice HO762.out; subst eo101) | ((with_reducible refine gate_callee (f := 21) rfl ?_); refine S.gL (some 186) Try.func21 #[.slice Ao97 t750.length co97, .slice Ao98 t753.length co98, .slice Ao101 t759.length co101] ?_; (with_reducible refine (impl_CanSwitch.calls kj73 _ _ t750 _ _ t753 _ _ t759 t763 _ ?s1 (S.rl HO752) ?s3 ?s4 ?s5 ?s6 A94.out).mono ?_); (case s1 => exact S.rd HO752); (case s3 => exact S.cD (Kd.V_reads' HO755.out).2.2); (case s4 => exact (Kd.V_reads' HO755.out).2.1); (case s5 => exact S.cD (Kd.N_reads' HO762.out).2.2); (case s6 => exact (Kd.N_reads' HO762.out).2.1); rintro e w102 ⟨rfl, hb⟩; refine ⟨_, rfl, ?_⟩; replace HO752 := S.rb HO752 hb; replace HO755 := Aside0.mk (Kd.V_below (S.uV HO755.out) hb); replace HO758 := Aside0.mk (Kd.N_below (by (with_reducible repeat (first | apply Kd.N_alloc | apply Kd.N_drewN | apply Kd.N_drew)); exact HO758.out) hb); replace HO762 := Aside0.mk (Kd.N_below (by (with_reducible repeat (first | apply Kd.N_alloc | apply Kd.N_drewN | apply Kd.N_drew)); exact HO762.out) hb); replace HB := S.sA hb; (try clear hb)))
           go_ret
           exact ⟨S.eW, S.bA⟩
          ·rw [if_neg c95] at H
           have c95b0 : (t760 == t763) = false := by simpa using c95
           (try (have c95b1 : decide (t760 = t763) = false := by simpa using c95))
           (try (have c95b2 : (t760 == t763) = false := by simpa using c95))
           (try (have c95b3 : ¬ (t760 = t763) := by simpa using c95))
           clear c95
           obtain rfl := Option.some.inj H
           go_wp2_with (first | ((with_reducible refine gate_callee (f := 55) rfl ?_); refine S.gL (some 171) Try.func55 #[.slice A0 l0.length c0] ?_; (with_reducible refine (spec_DrawMakeSwitch.calls kj73 _ _ l0 t750 t753 t756 _ ?s1 HC0.out A92.out).mono ?_); (case s1 => exact S.cA HR0.out); rintro e w103 ⟨v751, v754, v757, rfl, ho0, ho1, ho2, hb⟩; refine ⟨_, rfl, ?_⟩; have HO752 := Aside0.mk (Kd.R_lower (Kd.R_mono (ok' := fun k_ => True) ho0 (fun _ hk_ => trivial)) (below_size S.bA)); have HO755 := Aside0.mk (Kd.V_lower (Kd.V_mono (ok' := fun k_ => S.N k_ v751 ∧ S.N k_ v757) ho1 (fun k_ hk_ => ⟨hk_.2.1, hk_.2.2⟩)) (below_size S.bA)); have HO758 := Aside0.mk (Kd.N_lower (Kd.N_mono (ok' := fun k_ => S.N k_ v751) ho2 (fun k_ hk_ => hk_.2)) (below_size S.bA)); replace HB := S.sA hb; (try clear hb); (try clear ho0); (try clear ho1); (try clear ho2); obtain ⟨Ao104, co104, eo104⟩ := Kd.R_slice HO752.out; subst eo104; obtain ⟨Ao105, co105, eo105⟩ := Kd.V_slice HO755.out; subst eo105; obtain ⟨Ao106, co106, eo106⟩ := Kd.N_slice HO758.out; subst eo106) | ((with_reducible refine gate_callee (f := 46) rfl ?_); refine S.gL (some 179) Try.func46 #[.slice Ao104 t750.length co104, .slice Ao105 t753.length co105, .slice Ao106 t756.length co106] ?_; (with_reducible refine (impl_MakeSwitch.calls kj73 _ _ t750 _ _ t753 _ _ t756 t759 t760 _ ?s1 (S.rl HO752) ?s3 ?s4 ?s5 ?s6 A93.out).mono ?_); (case s1 => exact S.rd HO752); (case s3 => exact S.cD (Kd.V_reads' HO755.out).2.2); (case s4 => exact (Kd.V_reads' HO755.out).2.1); (case s5 => exact S.cD (Kd.N_reads' HO758.out).2.2); (case s6 => exact (Kd.N_reads' HO758.out).2.1); rintro e w107 ⟨v761, rfl, ho0, hb⟩; refine ⟨_, rfl, ?_⟩; replace HO755 := Aside0.mk (Kd.V_elder' (S.uV HO755.out) (Kd.R_base ho0) hb); have HO762 := Aside0.mk (Kd.N_lower (Kd.N_mono (ok' := fun k_ => S.N k_ (.slice Ao104 t750.length co104) ∧ S.N k_ (.slice Ao106 t756.length co106)) (Kd.R_N (Kd.R_bound ho0)) (fun k_ hk_ => ⟨(Kd.fresh' (Kd.R_lt (S.uR HO752.out)) k_ hk_.2.1), (Kd.fresh' (Kd.N_lt (by (with_reducible repeat (first | apply Kd.N_alloc | apply Kd.N_drewN | apply Kd.N_drew)); exact HO758.out)) k_ hk_.2.1)⟩)) (below_size S.bA)); replace HO752 := S.rb HO752 hb; replace HO758 := Aside0.mk (Kd.N_elder' (by (with_reducible repeat (first | apply Kd.N_alloc | apply Kd.N_drewN | apply Kd.N_drew)); exact HO758.out) (Kd.N_base (Kd.R_N ho0)) hb); replace HB := S.sA hb; (try clear hb); (try clear ho0); obtain ⟨Ao108, co108, eo108⟩ := Kd.N_slice HO762.out; subst eo108) | ((with_reducible refine gate_callee (f := 21) rfl ?_); refine S.gL (some 186) Try.func21 #[.slice Ao104 t750.length co104, .slice Ao105 t753.length co105, .slice Ao108 t759.length co108] ?_; (with_reducible refine (impl_CanSwitch.calls kj73 _ _ t750 _ _ t753 _ _ t759 t763 _ ?s1 (S.rl HO752) ?s3 ?s4 ?s5 ?s6 A94.out).mono ?_); (case s1 => exact S.rd HO752); (case s3 => exact S.cD (Kd.V_reads' HO755.out).2.2); (case s4 => exact (Kd.V_reads' HO755.out).2.1); (case s5 => exact S.cD (Kd.N_reads' HO762.out).2.2); (case s6 => exact (Kd.N_reads' HO762.out).2.1); rintro e w109 ⟨rfl, hb⟩; refine ⟨_, rfl, ?_⟩; replace HO752 := S.rb HO752 hb; replace HO755 := Aside0.mk (Kd.V_below (S.uV HO755.out) hb); replace HO758 := Aside0.mk (Kd.N_below (by (with_reducible repeat (first | apply Kd.N_alloc | apply Kd.N_drewN | apply Kd.N_drew)); exact HO758.out) hb); replace HO762 := Aside0.mk (Kd.N_below (by (with_reducible repeat (first | apply Kd.N_alloc | apply Kd.N_drewN | apply Kd.N_drew)); exact HO762.out) hb); replace HB := S.sA hb; (try clear hb)))
           go_ret
           exact ⟨S.eW, S.bA⟩

/-- THE ONE PURE STATEMENT of laws_FnSwitched: yours. -/
def laws_FnSwitched.Pure : Prop := ∀ (l0 : List Int), l0.length ≤ maxLen → l0.length * 1 ≤ 140737488351232 → (∀ x ∈ l0, (Lit.int .u8 x).wf = true) → ∃ k, laws_FnSwitched.f k l0 = some true
end Go.Proofs.Ytjgigmghcfdomaa.PFnSwitched
