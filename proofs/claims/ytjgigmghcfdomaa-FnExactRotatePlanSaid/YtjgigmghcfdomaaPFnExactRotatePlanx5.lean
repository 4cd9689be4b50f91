/- The law's own function, walked along the ways that end with true. -/
import Derived.Test.YtjgigmghcfdomaaPFnExactRotatePlanx0
import Derived.Test.YtjgigmghcfdomaaPFnExactRotatePlanx1
import Derived.Test.YtjgigmghcfdomaaPFnExactRotatePlanx2
import Derived.Test.YtjgigmghcfdomaaPFnExactRotatePlanx3
import Derived.Test.YtjgigmghcfdomaaPFnExactRotatePlanx4
namespace Go.Proofs.Ytjgigmghcfdomaa.PFnExactRotatePlan
open Go.RowKit Go.Proofs.YtjgigmghcfdomaaW.PrintWords Go.Proofs.YtjgigmghcfdomaaW.PrintLast Go.Proofs.YtjgigmghcfdomaaW.PrintMore
attribute [local go_sem] max2_int min2_int max_two min_two max_three min_three max_four min_four   -- for this text's walks alone
set_option linter.unusedVariables false
set_option linter.unusedSimpArgs false
/-! ### rows at intervals of blocks -/
namespace LW
variable {α : Type} {d : Kd α} {e base : Nat} {w0 W w1 w2 w : World} {v : Value} {xs : List α} {ok : Nat → Prop}
theorem newS (p : Nat) (ho : Kd.S d e w1 W.heap.size (fun _ => True) v xs) (hB : Below w0.heap.size w0 W) (hb : Below W.heap.size W w1) (hp : p ≤ W.heap.size) : ∃ q, p ≤ q ∧ q ≤ w1.heap.size ∧ Kd.S d e w1 w0.heap.size (fun k => p ≤ k ∧ k < q) v xs :=
 ⟨w1.heap.size, Nat.le_trans hp hb.size, Nat.le_refl _, Kd.S_lower (Kd.S_mono (Kd.S_bound ho) (fun k hk => ⟨Nat.le_trans hp hk.2.1, hk.2.2.1⟩)) (below_size hB)⟩
theorem newR (p : Nat) (ho : Kd.R d e w1 W.heap.size (fun _ => True) v xs) (hB : Below w0.heap.size w0 W) (hb : Below W.heap.size W w1) (hp : p ≤ W.heap.size) : ∃ q, p ≤ q ∧ q ≤ w1.heap.size ∧ Kd.R d e w1 w0.heap.size (fun k => p ≤ k ∧ k < q) v xs :=
 ⟨w1.heap.size, Nat.le_trans hp hb.size, Nat.le_refl _, Kd.R_lower (Kd.R_mono (Kd.R_bound ho) (fun k hk => ⟨Nat.le_trans hp hk.2.1, hk.2.2.1⟩)) (below_size hB)⟩
theorem newN (p : Nat) (ho : Kd.N d e w1 W.heap.size (fun k_ => (W.heap.size ≤ k_)) v xs) (hB : Below w0.heap.size w0 W) (hb : Below W.heap.size W w1) (hp : p ≤ W.heap.size) : ∃ q, p ≤ q ∧ q ≤ w1.heap.size ∧ Kd.N d e w1 w0.heap.size (fun k => p ≤ k ∧ k < q) v xs :=
 ⟨w1.heap.size, Nat.le_trans hp hb.size, Nat.le_refl _, Kd.N_lower (Kd.N_mono (Kd.N_bound ho) (fun k hk => ⟨Nat.le_trans hp hk.1, hk.2⟩)) (below_size hB)⟩
theorem lbN (h : Aside0 (Kd.N d e w base ok v xs)) (hb : Below w1.heap.size w1 w2) (k : Kd.N d e w base ok v xs → Kd.N d e w1 base ok v xs := by (intro hZ_; (with_reducible repeat (first | apply Kd.N_alloc | apply Kd.N_drewN | apply Kd.N_drew)); exact hZ_)) : Aside0 (Kd.N d e w2 base ok v xs) := ⟨Kd.N_below (k h.out) hb⟩
theorem lkN {a b p q : Nat} (h : Aside0 (Kd.N d e w base (fun k => a ≤ k ∧ k < b) v xs)) (hk : Kept w1 w2 (fun k => p ≤ k ∧ k < q)) (hd : b ≤ p ∨ q ≤ a) (k : Kd.N d e w base (fun k => a ≤ k ∧ k < b) v xs → Kd.N d e w1 base (fun k => a ≤ k ∧ k < b) v xs := by (intro hZ_; (with_reducible repeat (first | apply Kd.N_alloc | apply Kd.N_drewN | apply Kd.N_drew)); exact hZ_)) : Aside0 (Kd.N d e w2 base (fun k => a ≤ k ∧ k < b) v xs) := ⟨Kd.N_kept (k h.out) hk (fun _ h1 h2 => by have := h1.1; have := h1.2; have := h2.1; have := h2.2; omega)⟩
theorem lbS (h : Aside0 (Kd.S d e w base ok v xs)) (hb : Below w1.heap.size w1 w2) (k : Kd.S d e w base ok v xs → Kd.S d e w1 base ok v xs := by (intro hZ_; (with_reducible repeat (first | apply Kd.S_alloc | apply Kd.S_drewN | apply Kd.S_drew)); exact hZ_)) : Aside0 (Kd.S d e w2 base ok v xs) := ⟨Kd.S_below (k h.out) hb⟩
theorem lbR (h : Aside0 (Kd.R d e w base ok v xs)) (hb : Below w1.heap.size w1 w2) (k : Kd.R d e w base ok v xs → Kd.R d e w1 base ok v xs := by (intro hZ_; (with_reducible repeat (first | apply Kd.R_alloc | apply Kd.R_drewN | apply Kd.R_drew)); exact hZ_)) : Aside0 (Kd.R d e w2 base ok v xs) := ⟨Kd.R_below (k h.out) hb⟩
theorem lkS {a b p q : Nat} (h : Aside0 (Kd.S d e w base (fun k => a ≤ k ∧ k < b) v xs)) (hk : Kept w1 w2 (fun k => p ≤ k ∧ k < q)) (hd : b ≤ p ∨ q ≤ a) (k : Kd.S d e w base (fun k => a ≤ k ∧ k < b) v xs → Kd.S d e w1 base (fun k => a ≤ k ∧ k < b) v xs := by (intro hZ_; (with_reducible repeat (first | apply Kd.S_alloc | apply Kd.S_drewN | apply Kd.S_drew)); exact hZ_)) : Aside0 (Kd.S d e w2 base (fun k => a ≤ k ∧ k < b) v xs) := ⟨Kd.S_kept (k h.out) hk (fun _ h1 h2 => by have := h1.1; have := h1.2; have := h2.1; have := h2.2; omega)⟩
theorem lkR {a b p q : Nat} (h : Aside0 (Kd.R d e w base (fun k => a ≤ k ∧ k < b) v xs)) (hk : Kept w1 w2 (fun k => p ≤ k ∧ k < q)) (hd : b ≤ p ∨ q ≤ a) (k : Kd.R d e w base (fun k => a ≤ k ∧ k < b) v xs → Kd.R d e w1 base (fun k => a ≤ k ∧ k < b) v xs := by (intro hZ_; (with_reducible repeat (first | apply Kd.R_alloc | apply Kd.R_drewN | apply Kd.R_drew)); exact hZ_)) : Aside0 (Kd.R d e w2 base (fun k => a ≤ k ∧ k < b) v xs) := ⟨Kd.R_kept (k h.out) hk (fun _ h1 h2 => by have := h1.1; have := h1.2; have := h2.1; have := h2.2; omega)⟩
end LW
/-! ### laws_FnExactRotatePlan: function 11 -/
def laws_FnExactRotatePlan.f (k : Nat) (l0 : List (S81)) (a1 : Int) : Option (Bool) := ((laws_szPartS.f k l0 1048576).bind fun t0 => (if t0 < 0 then (some true) else ((laws_toPartS.f k l0).bind fun b0 => ((spec_RotatePlan.f k b0 a1).bind fun wr0 => ((laws_toPartS.f k l0).bind fun x0 => ((impl_RotatePlan.f k x0 a1).bind fun g0 => ((laws_eqPartS.f k g0 wr0).bind fun e1 => (if e1 = true then ((laws_toPartS.f k l0).bind fun y0 => ((laws_eqPartS.f k x0 y0).bind fun e2 => (if e2 = true then ((laws_markPartS.f k x0 1).bind fun bt9 => (if bt9.1 < 0 then (none) else ((laws_eqPartS.f k g0 wr0).bind fun e5 => (if e5 = true then ((laws_markPartS.f k g0 1).bind fun bt11 => ((laws_heldPartS.f k bt11.2 1).bind fun q_1 => (if q_1 < 0 then (none) else (if q_1 = bt11.1 then ((laws_toPartS.f k l0).bind fun d0 => ((impl_RotatePlan.f k d0 a1).bind fun h0 => ((laws_eqPartS.f k h0 wr0).bind fun e6 => (if e6 = true then ((laws_heldPartS.f k bt11.2 1).bind fun q_2 => (if q_2 < 0 then (none) else (if q_2 = bt11.1 then (some true) else (none)))) else (none))))) else (none))))) else (none))))) else (none)))) else (none)))))))))
set_option maxHeartbeats 8000000 in
set_option maxRecDepth 100000 in
theorem laws_FnExactRotatePlan.calls (k : Nat) (A0 : Option Addr) (c0 : Nat) (l0 : List (S81)) (a1 : Int) (r : Bool) (w : World) (hr0 : Kd.C k81 w A0 l0.length l0) (hc0 : l0.length ≤ c0) (h : laws_FnExactRotatePlan.f k l0 a1 = some r) :
  Calls Try.prog 11 #[.slice A0 l0.length c0, .int .i64 a1] w fun e w' => e = .returned (.bool r) ∧ Below w.heap.size w w' := by
 have HR0 := Aside0.mk hr0
 have HC0 := Aside0.mk hc0
 clear hr0 hc0
 have HB := Aside0.mk (Below.refl w.heap.size w)
 have HP := Aside0.mk (Nat.zero_le w.heap.size)
 have H : ((laws_szPartS.f k l0 1048576).bind fun t0 => (if t0 < 0 then (some true) else ((laws_toPartS.f k l0).bind fun b0 => ((spec_RotatePlan.f k b0 a1).bind fun wr0 => ((laws_toPartS.f k l0).bind fun x0 => ((impl_RotatePlan.f k x0 a1).bind fun g0 => ((laws_eqPartS.f k g0 wr0).bind fun e1 => (if e1 = true then ((laws_toPartS.f k l0).bind fun y0 => ((laws_eqPartS.f k x0 y0).bind fun e2 => (if e2 = true then ((laws_markPartS.f k x0 1).bind fun bt9 => (if bt9.1 < 0 then (none) else ((laws_eqPartS.f k g0 wr0).bind fun e5 => (if e5 = true then ((laws_markPartS.f k g0 1).bind fun bt11 => ((laws_heldPartS.f k bt11.2 1).bind fun q_1 => (if q_1 < 0 then (none) else (if q_1 = bt11.1 then ((laws_toPartS.f k l0).bind fun d0 => ((impl_RotatePlan.f k d0 a1).bind fun h0 => ((laws_eqPartS.f k h0 wr0).bind fun e6 => (if e6 = true then ((laws_heldPartS.f k bt11.2 1).bind fun q_2 => (if q_2 < 0 then (none) else (if q_2 = bt11.1 then (some true) else (none)))) else (none))))) else (none))))) else (none))))) else (none)))) else (none))))))))) = some r := h
 clear h
 replace H := S.bd H; obtain ⟨t0, AH1, H⟩ := H
 (try dsimp only at H)
 replace H := S.dc H; rcases H with ⟨H, c_t0⟩ | ⟨H, c_t0⟩
 ·skip
  obtain rfl := Option.some.inj H
  go_enter Try.func11, Try.ntmps11
  go_wp2_with (first | ((with_reducible refine gate_callee (f := 13) rfl ?_); refine S.gL (some 15) Try.func13 #[.slice A0 l0.length c0, .int .i64 1048576] ?_; (with_reducible refine (laws_szPartS.calls k _ _ l0 1048576 t0 _ ?s1 HC0.out AH1.out).mono ?_); (case s1 => exact S.cA HR0.out); rintro e w1 ⟨rfl, hb⟩; refine ⟨_, rfl, ?_⟩; replace HP := Aside0.mk (Nat.le_trans HP.out hb.size); replace HB := S.sA hb; clear hb))
  go_ret
  exact ⟨S.eW, S.bA⟩
 replace H := S.bd H; obtain ⟨b0, AH2, H⟩ := H
 (try dsimp only at H)
 replace H := S.bd H; obtain ⟨wr0, AH3, H⟩ := H
 (try dsimp only at H)
 replace H := S.bd H; obtain ⟨x0, AH4, H⟩ := H
 (try dsimp only at H)
 replace H := S.bd H; obtain ⟨g0, AH5, H⟩ := H
 (try dsimp only at H)
 replace H := S.bd H; obtain ⟨e1, AH6, H⟩ := H
 (try dsimp only at H)
 replace H := S.db H; rcases H with ⟨rfl, H⟩ | ⟨rfl, H⟩
 rotate_left
 ·exact absurd H (by simp)
 replace H := S.bd H; obtain ⟨y0, AH7, H⟩ := H
 (try dsimp only at H)
 replace H := S.bd H; obtain ⟨e2, AH8, H⟩ := H
 (try dsimp only at H)
 replace H := S.db H; rcases H with ⟨rfl, H⟩ | ⟨rfl, H⟩
 rotate_left
 ·exact absurd H (by simp)
 replace H := S.bd H; obtain ⟨⟨m0, z0⟩, AH9, H⟩ := H
 (try dsimp only at H)
 replace H := S.dc H; rcases H with ⟨H, c_m0⟩ | ⟨H, c_m0⟩
 ·exact absurd H (by simp)
 replace H := S.bd H; obtain ⟨e5, AH10, H⟩ := H
 (try dsimp only at H)
 replace H := S.db H; rcases H with ⟨rfl, H⟩ | ⟨rfl, H⟩
 rotate_left
 ·exact absurd H (by simp)
 replace H := S.bd H; obtain ⟨⟨m3, g1⟩, AH11, H⟩ := H
 (try dsimp only at H)
 replace H := S.bd H; obtain ⟨q_1, AH12, H⟩ := H
 (try dsimp only at H)
 replace H := S.dc H; rcases H with ⟨H, c_q_1⟩ | ⟨H, c_q_1⟩
 ·exact absurd H (by simp)
 by_cases c_q_1_m3 : q_1 = m3
 rotate_left
 ·rw [if_neg c_q_1_m3] at H; exact absurd H (by simp)
 rw [if_pos c_q_1_m3] at H
 have c_q_1_m3b0 : (q_1 == m3) = true := beq_iff_eq.mpr c_q_1_m3
 have c_q_1_m3b1 : (q_1 != m3) = false := bne_eq_false_iff_eq.mpr c_q_1_m3
 clear c_q_1_m3
 replace H := S.bd H; obtain ⟨d0, AH13, H⟩ := H
 (try dsimp only at H)
 replace H := S.bd H; obtain ⟨h0, AH14, H⟩ := H
 (try dsimp only at H)
 replace H := S.bd H; obtain ⟨e6, AH15, H⟩ := H
 (try dsimp only at H)
 replace H := S.db H; rcases H with ⟨rfl, H⟩ | ⟨rfl, H⟩
 rotate_left
 ·exact absurd H (by simp)
 replace H := S.bd H; obtain ⟨q_2, AH16, H⟩ := H
 (try dsimp only at H)
 replace H := S.dc H; rcases H with ⟨H, c_q_2⟩ | ⟨H, c_q_2⟩
 ·exact absurd H (by simp)
 by_cases c_q_2_m3 : q_2 = m3
 rotate_left
 ·rw [if_neg c_q_2_m3] at H; exact absurd H (by simp)
 rw [if_pos c_q_2_m3] at H
 have c_q_2_m3b0 : (q_2 == m3) = true := beq_iff_eq.mpr c_q_2_m3
 have c_q_2_m3b1 : (q_2 != m3) = false := bne_eq_false_iff_eq.mpr c_q_2_m3
 clear c_q_2_m3
 obtain rfl := Option.some.inj H
 go_enter Try.func11, Try.ntmps11
 go_wp2_with (first | ((with_reducible refine gate_callee (f := 13) rfl ?_); refine S.gL (some 15) Try.func13 #[.slice A0 l0.length c0, .int .i64 1048576] ?_; (with_reducible refine (laws_szPartS.calls k _ _ l0 1048576 t0 _ ?s1 HC0.out AH1.out).mono ?_); (case s1 => exact S.cA HR0.out); rintro e w1 ⟨rfl, hb⟩; refine ⟨_, rfl, ?_⟩; replace HP := Aside0.mk (Nat.le_trans HP.out hb.size); replace HB := S.sA hb; clear hb) | ((with_reducible refine gate_callee (f := 16) rfl ?_); refine S.gL (some 19) Try.func16 #[.slice A0 l0.length c0] ?_; (with_reducible refine (laws_toPartS.calls k _ _ l0 b0 _ ?s1 HC0.out AH2.out).mono ?_); (case s1 => exact S.cA HR0.out); rintro e w2 ⟨v_, rfl, ho0, hb⟩; refine ⟨_, rfl, ?_⟩; obtain ⟨q1, hq_, hp_, ho_⟩ := LW.newS 0 ho0 S.bA hb HP.out; have HQ1 := Aside0.mk hq_; replace HP := Aside0.mk hp_; have HO2 := Aside0.mk ho_; replace HB := S.sA hb; clear hb; clear ho0; clear hq_; clear hp_; clear ho_; obtain ⟨Ao2, co2, eo_⟩ := Kd.S_slice HO2.out; subst eo_) | ((with_reducible refine gate_callee (f := 56) rfl ?_); refine S.gL (some 21) Try.func56 #[.slice Ao2 b0.length co2, .int .i64 a1] ?_; (with_reducible refine (spec_RotatePlan.calls k _ _ b0 a1 wr0 _ ?s1 ?s2 AH3.out).mono ?_); (case s1 => repeat (first | exact (Kd.S_reads' HO2.out).2.2 | (with_reducible refine Kd.C_alloc ?_ _) | (with_reducible refine Kd.C_drewN ?_ _) | (with_reducible refine Kd.C_drew ?_))); (case s2 => exact (Kd.S_reads' HO2.out).2.1); rintro e w3 ⟨v_, rfl, ho0, hb⟩; refine ⟨_, rfl, ?_⟩; replace HO2 := LW.lbS HO2 hb; obtain ⟨q2, hq_, hp_, ho_⟩ := LW.newN q1 ho0 S.bA hb HP.out; have HQ2 := Aside0.mk hq_; replace HP := Aside0.mk hp_; have HO3 := Aside0.mk ho_; replace HB := S.sA hb; clear hb; clear ho0; clear hq_; clear hp_; clear ho_; obtain ⟨Ao3, co3, eo_⟩ := Kd.N_slice HO3.out; subst eo_) | ((with_reducible refine gate_callee (f := 16) rfl ?_); refine S.gL (some 23) Try.func16 #[.slice A0 l0.length c0] ?_; (with_reducible refine (laws_toPartS.calls k _ _ l0 x0 _ ?s1 HC0.out AH4.out).mono ?_); (case s1 => exact S.cA HR0.out); rintro e w4 ⟨v_, rfl, ho0, hb⟩; refine ⟨_, rfl, ?_⟩; replace HO3 := LW.lbN HO3 hb; obtain ⟨q3, hq_, hp_, ho_⟩ := LW.newS q2 ho0 S.bA hb HP.out; have HQ3 := Aside0.mk hq_; replace HP := Aside0.mk hp_; have HO4 := Aside0.mk ho_; replace HB := S.sA hb; clear hb; clear ho0; clear hq_; clear hp_; clear ho_; obtain ⟨Ao4, co4, eo_⟩ := Kd.S_slice HO4.out; subst eo_) | ((with_reducible refine gate_callee (f := 53) rfl ?_); refine S.gL (some 26) Try.func53 #[.slice Ao4 x0.length co4, .int .i64 a1] ?_; (with_reducible refine (impl_RotatePlan.calls k _ _ x0 a1 g0 _ ?s1 ?s2 AH5.out).mono ?_); (case s1 => repeat (first | exact (Kd.S_reads' HO4.out).2.2 | (with_reducible refine Kd.C_alloc ?_ _) | (with_reducible refine Kd.C_drewN ?_ _) | (with_reducible refine Kd.C_drew ?_))); (case s2 => exact (Kd.S_reads' HO4.out).2.1); rintro e w5 ⟨v_, rfl, ho0, hb⟩; refine ⟨_, rfl, ?_⟩; replace HO3 := LW.lbN HO3 hb; replace HO4 := LW.lbS HO4 hb; obtain ⟨q4, hq_, hp_, ho_⟩ := LW.newS q3 ho0 S.bA hb HP.out; have HQ4 := Aside0.mk hq_; replace HP := Aside0.mk hp_; have HO5 := Aside0.mk ho_; replace HB := S.sA hb; clear hb; clear ho0; clear hq_; clear hp_; clear ho_; obtain ⟨Ao5, co5, eo_⟩ := Kd.S_slice HO5.out; subst eo_) | ((with_reducible refine gate_callee (f := 19) rfl ?_); refine S.gL (some 29) Try.func19 #[.slice Ao5 g0.length co5, .slice Ao3 wr0.length co3] ?_; (with_reducible refine (laws_eqPartS.calls k _ _ g0 _ _ wr0 true _ ?s1 ?s2 ?s3 ?s4 AH6.out).mono ?_); (case s1 => repeat (first | exact (Kd.S_reads' HO5.out).2.2 | (with_reducible refine Kd.C_alloc ?_ _) | (with_reducible refine Kd.C_drewN ?_ _) | (with_reducible refine Kd.C_drew ?_))); (case s2 => exact (Kd.S_reads' HO5.out).2.1); (case s3 => repeat (first | exact (Kd.N_reads' HO3.out).2.2 | (with_reducible refine Kd.C_alloc ?_ _) | (with_reducible refine Kd.C_drewN ?_ _) | (with_reducible refine Kd.C_drew ?_))); (case s4 => exact (Kd.N_reads' HO3.out).2.1); rintro e w6 ⟨rfl, hb⟩; refine ⟨_, rfl, ?_⟩; replace HO3 := LW.lbN HO3 hb; replace HO4 := LW.lbS HO4 hb; replace HO5 := LW.lbS HO5 hb; replace HP := Aside0.mk (Nat.le_trans HP.out hb.size); replace HB := S.sA hb; clear hb) | ((with_reducible refine gate_callee (f := 16) rfl ?_); refine S.gL (some 33) Try.func16 #[.slice A0 l0.length c0] ?_; (with_reducible refine (laws_toPartS.calls k _ _ l0 y0 _ ?s1 HC0.out AH7.out).mono ?_); (case s1 => exact S.cA HR0.out); rintro e w7 ⟨v_, rfl, ho0, hb⟩; refine ⟨_, rfl, ?_⟩; replace HO3 := LW.lbN HO3 hb; replace HO4 := LW.lbS HO4 hb; replace HO5 := LW.lbS HO5 hb; obtain ⟨q5, hq_, hp_, ho_⟩ := LW.newS q4 ho0 S.bA hb HP.out; have HQ5 := Aside0.mk hq_; replace HP := Aside0.mk hp_; have HO7 := Aside0.mk ho_; replace HB := S.sA hb; clear hb; clear ho0; clear hq_; clear hp_; clear ho_; obtain ⟨Ao7, co7, eo_⟩ := Kd.S_slice HO7.out; subst eo_) | ((with_reducible refine gate_callee (f := 19) rfl ?_); refine S.gL (some 34) Try.func19 #[.slice Ao4 x0.length co4, .slice Ao7 y0.length co7] ?_; (with_reducible refine (laws_eqPartS.calls k _ _ x0 _ _ y0 true _ ?s1 ?s2 ?s3 ?s4 AH8.out).mono ?_); (case s1 => repeat (first | exact (Kd.S_reads' HO4.out).2.2 | (with_reducible refine Kd.C_alloc ?_ _) | (with_reducible refine Kd.C_drewN ?_ _) | (with_reducible refine Kd.C_drew ?_))); (case s2 => exact (Kd.S_reads' HO4.out).2.1); (case s3 => repeat (first | exact (Kd.S_reads' HO7.out).2.2 | (with_reducible refine Kd.C_alloc ?_ _) | (with_reducible refine Kd.C_drewN ?_ _) | (with_reducible refine Kd.C_drew ?_))); (case s4 => exact (Kd.S_reads' HO7.out).2.1); rintro e w8 ⟨rfl, hb⟩; refine ⟨_, rfl, ?_⟩; replace HO3 := LW.lbN HO3 hb; replace HO4 := LW.lbS HO4 hb; replace HO5 := LW.lbS HO5 hb; replace HO7 := LW.lbS HO7 hb; replace HP := Aside0.mk (Nat.le_trans HP.out hb.size); replace HB := S.sA hb; clear hb) | ((with_reducible refine gate_callee (f := 26) rfl ?_); refine S.gL (some 38) Try.func26 #[.slice Ao4 x0.length co4, .int .i64 1] ?_; (with_reducible refine (laws_markPartS.calls k (fun k_ => q2 ≤ k_ ∧ k_ < q3) (.slice Ao4 x0.length co4) x0 1 m0 z0 w _ ?s1 ?s2 AH9.out).mono ?_); (case s1 => exact S.bA); (case s2 => exact (by (with_reducible repeat (first | apply Kd.S_alloc | apply Kd.S_drewN | apply Kd.S_drew)); exact HO4.out)); rintro e w9 ⟨rfl, hy, hb, hk⟩; refine ⟨_, rfl, ?_⟩; replace HO3 := LW.lkN (HO3) hk (by have := HQ1.out; have := HQ2.out; have := HQ3.out; have := HQ4.out; have := HQ5.out; omega); replace HO5 := LW.lkS (HO5) hk (by have := HQ1.out; have := HQ2.out; have := HQ3.out; have := HQ4.out; have := HQ5.out; omega); replace HP := Aside0.mk (Nat.le_trans HP.out hk.1); replace HO4 := Aside0.mk hy; replace HB := Aside0.mk hb; clear hb; clear hk; clear hy))
 (with_reducible refine (laws_eqPartS.calls k _ _ g0 _ _ wr0 true _ ?s1 ?s2 ?s3 ?s4 AH10.out).mono ?_)
 (case s1 => repeat (first | exact (Kd.S_reads' HO5.out).2.2 | (with_reducible refine Kd.C_alloc ?_ _) | (with_reducible refine Kd.C_drewN ?_ _) | (with_reducible refine Kd.C_drew ?_)))
 (case s2 => exact (Kd.S_reads' HO5.out).2.1)
 (case s3 => repeat (first | exact (Kd.N_reads' HO3.out).2.2 | (with_reducible refine Kd.C_alloc ?_ _) | (with_reducible refine Kd.C_drewN ?_ _) | (with_reducible refine Kd.C_drew ?_)))
 (case s4 => exact (Kd.N_reads' HO3.out).2.1)
 rintro e w10 ⟨rfl, hb⟩
 dsimp only
 replace HO3 := LW.lbN HO3 hb
 replace HO5 := LW.lbS HO5 hb
 replace HP := Aside0.mk (Nat.le_trans HP.out hb.size)
 replace HB := S.sA hb
 clear hb
 go_wp2_with (first | ((with_reducible refine gate_callee (f := 26) rfl ?_); refine S.gL (some 49) Try.func26 #[.slice Ao5 g0.length co5, .int .i64 1] ?_; (with_reducible refine (laws_markPartS.calls k (fun k_ => q3 ≤ k_ ∧ k_ < q4) (.slice Ao5 g0.length co5) g0 1 m3 g1 w _ ?s1 ?s2 AH11.out).mono ?_); (case s1 => exact S.bA); (case s2 => exact (by (with_reducible repeat (first | apply Kd.S_alloc | apply Kd.S_drewN | apply Kd.S_drew)); exact HO5.out)); rintro e w11 ⟨rfl, hy, hb, hk⟩; refine ⟨_, rfl, ?_⟩; replace HO3 := LW.lkN (HO3) hk (by have := HQ1.out; have := HQ2.out; have := HQ3.out; have := HQ4.out; have := HQ5.out; omega); replace HP := Aside0.mk (Nat.le_trans HP.out hk.1); replace HO5 := Aside0.mk hy; replace HB := Aside0.mk hb; clear hb; clear hk; clear hy) | ((with_reducible refine gate_callee (f := 47) rfl ?_); refine goesL_ (some 52) rfl rfl Try.func47 (by kernel_rfl) rfl #[.slice Ao5 g1.length co5, .int .i64 1] rfl (by (try simp only [List.map_toArray, List.map_cons, List.map_nil]); first | done | (rw [show g1.length = g0.length from (Kd.S_reads' HO5.out).1.symm] <;> rfl) | rfl | (simp only [List.length_drop, List.length_take]; rfl)) ?_; (with_reducible refine (laws_heldPartS.calls k _ _ g1 1 q_1 _ ?s1 ?s2 AH12.out).mono ?_); (case s1 => repeat (first | exact (Kd.S_reads' HO5.out).2.2 | (with_reducible refine Kd.C_alloc ?_ _) | (with_reducible refine Kd.C_drewN ?_ _) | (with_reducible refine Kd.C_drew ?_))); (case s2 => rw [show g1.length = g0.length from (Kd.S_reads' HO5.out).1.symm]; exact (Kd.S_reads' HO5.out).2.1); rintro e w12 ⟨rfl, hd⟩; refine ⟨_, rfl, ?_⟩; have hb := Drawn0.below hd; clear hd; replace HO3 := LW.lbN HO3 hb; replace HO5 := LW.lbS HO5 hb; replace HP := Aside0.mk (Nat.le_trans HP.out hb.size); replace HB := S.sA hb; clear hb) | ((with_reducible refine gate_callee (f := 16) rfl ?_); refine S.gL (some 59) Try.func16 #[.slice A0 l0.length c0] ?_; (with_reducible refine (laws_toPartS.calls k _ _ l0 d0 _ ?s1 HC0.out AH13.out).mono ?_); (case s1 => exact S.cA HR0.out); rintro e w13 ⟨v_, rfl, ho0, hb⟩; refine ⟨_, rfl, ?_⟩; replace HO3 := LW.lbN HO3 hb; replace HO5 := LW.lbS HO5 hb; obtain ⟨q6, hq_, hp_, ho_⟩ := LW.newS q5 ho0 S.bA hb HP.out; have HQ6 := Aside0.mk hq_; replace HP := Aside0.mk hp_; have HO13 := Aside0.mk ho_; replace HB := S.sA hb; clear hb; clear ho0; clear hq_; clear hp_; clear ho_; obtain ⟨Ao13, co13, eo_⟩ := Kd.S_slice HO13.out; subst eo_) | ((with_reducible refine gate_callee (f := 53) rfl ?_); refine S.gL (some 61) Try.func53 #[.slice Ao13 d0.length co13, .int .i64 a1] ?_; (with_reducible refine (impl_RotatePlan.calls k _ _ d0 a1 h0 _ ?s1 ?s2 AH14.out).mono ?_); (case s1 => repeat (first | exact (Kd.S_reads' HO13.out).2.2 | (with_reducible refine Kd.C_alloc ?_ _) | (with_reducible refine Kd.C_drewN ?_ _) | (with_reducible refine Kd.C_drew ?_))); (case s2 => exact (Kd.S_reads' HO13.out).2.1); rintro e w14 ⟨v_, rfl, ho0, hb⟩; refine ⟨_, rfl, ?_⟩; replace HO3 := LW.lbN HO3 hb; replace HO5 := LW.lbS HO5 hb; replace HO13 := LW.lbS HO13 hb; obtain ⟨q7, hq_, hp_, ho_⟩ := LW.newS q6 ho0 S.bA hb HP.out; have HQ7 := Aside0.mk hq_; replace HP := Aside0.mk hp_; have HO14 := Aside0.mk ho_; replace HB := S.sA hb; clear hb; clear ho0; clear hq_; clear hp_; clear ho_; obtain ⟨Ao14, co14, eo_⟩ := Kd.S_slice HO14.out; subst eo_) | ((with_reducible refine gate_callee (f := 19) rfl ?_); refine S.gL (some 64) Try.func19 #[.slice Ao14 h0.length co14, .slice Ao3 wr0.length co3] ?_; (with_reducible refine (laws_eqPartS.calls k _ _ h0 _ _ wr0 true _ ?s1 ?s2 ?s3 ?s4 AH15.out).mono ?_); (case s1 => repeat (first | exact (Kd.S_reads' HO14.out).2.2 | (with_reducible refine Kd.C_alloc ?_ _) | (with_reducible refine Kd.C_drewN ?_ _) | (with_reducible refine Kd.C_drew ?_))); (case s2 => exact (Kd.S_reads' HO14.out).2.1); (case s3 => repeat (first | exact (Kd.N_reads' HO3.out).2.2 | (with_reducible refine Kd.C_alloc ?_ _) | (with_reducible refine Kd.C_drewN ?_ _) | (with_reducible refine Kd.C_drew ?_))); (case s4 => exact (Kd.N_reads' HO3.out).2.1); rintro e w15 ⟨rfl, hb⟩; refine ⟨_, rfl, ?_⟩; replace HO3 := LW.lbN HO3 hb; replace HO5 := LW.lbS HO5 hb; replace HO14 := LW.lbS HO14 hb; replace HP := Aside0.mk (Nat.le_trans HP.out hb.size); replace HB := S.sA hb; clear hb) | ((with_reducible refine gate_callee (f := 47) rfl ?_); refine goesL_ (some 68) rfl rfl Try.func47 (by kernel_rfl) rfl #[.slice Ao5 g1.length co5, .int .i64 1] rfl (by (try simp only [List.map_toArray, List.map_cons, List.map_nil]); first | done | (rw [show g1.length = g0.length from (Kd.S_reads' HO5.out).1.symm] <;> rfl) | rfl | (simp only [List.length_drop, List.length_take]; rfl)) ?_; (with_reducible refine (laws_heldPartS.calls k _ _ g1 1 q_2 _ ?s1 ?s2 AH16.out).mono ?_); (case s1 => repeat (first | exact (Kd.S_reads' HO5.out).2.2 | (with_reducible refine Kd.C_alloc ?_ _) | (with_reducible refine Kd.C_drewN ?_ _) | (with_reducible refine Kd.C_drew ?_))); (case s2 => rw [show g1.length = g0.length from (Kd.S_reads' HO5.out).1.symm]; exact (Kd.S_reads' HO5.out).2.1); rintro e w16 ⟨rfl, hd⟩; refine ⟨_, rfl, ?_⟩; have hb := Drawn0.below hd; clear hd; replace HO3 := LW.lbN HO3 hb; replace HO5 := LW.lbS HO5 hb; replace HO14 := LW.lbS HO14 hb; replace HP := Aside0.mk (Nat.le_trans HP.out hb.size); replace HB := S.sA hb; clear hb))
 go_ret
 exact ⟨S.eW, S.bA⟩

end Go.Proofs.Ytjgigmghcfdomaa.PFnExactRotatePlan
