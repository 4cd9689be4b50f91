/- Printed by a program: what the Go functions compute, as plain Lean functions (.f), and the proofs that the machine's calls come to just that (.calls). -/
import Derived.Test.YtopchlafmfgpnaaPFnExactStepSirenx0
namespace Go.Proofs.Ytopchlafmfgpnaa.PFnExactStepSiren
open Go.RowKit Go.Proofs.YtopchlafmfgpnaaW.PrintWords Go.Proofs.YtopchlafmfgpnaaW.PrintLast Go.Proofs.YtopchlafmfgpnaaW.PrintMore
attribute [local go_sem] max2_int min2_int max_two min_two max_three min_three max_four min_four   -- for this text's walks alone
set_option linter.unusedVariables false
set_option linter.unusedSimpArgs false

/-! ### laws_markIntS: function 23 -/
def laws_markIntS.l0 : Nat → List Int → Int → Int → Option (Int × List Int)
 | 0, _, _, _ => none
 | k + 1, x0, x1, x5 => if x5 < (x0.length : Int) then (if 0 ≤ x5 then (laws_markIntS.l0 k (x0.set (x5 : Int).toNat x1) (wrap64 (x1 + 1)) (wrap64 (x5 + 1))) else (none)) else (some (x1, x0))
def laws_markIntS.f (k : Nat) (l0 : List Int) (a1 : Int) : Option (Int × List Int) := laws_markIntS.l0 k l0 a1 0
set_option maxHeartbeats 8000000 in
set_option maxRecDepth 100000 in
theorem laws_markIntS.calls (k : Nat) (P0_ : Nat → Prop) (u9000_ : Value) (l0 : List Int) (a1 : Int) (r1 : Int) (r2 : List Int) (w0 w : World) (hB : Below w0.heap.size w0 w) (ho0 : Kd.R (Kd.int .i64) 3 w w0.heap.size P0_ u9000_ l0) (h : laws_markIntS.f k l0 a1 = some (r1, r2)) :
  Calls Try.prog 23 #[u9000_, .int .i64 a1] w fun e w' => e = .returned (.int .i64 r1) ∧ Kd.R (Kd.int .i64) 3 w' w0.heap.size (fun k_ => (P0_ k_ ∨ w.heap.size ≤ k_)) u9000_ r2 ∧ Below w0.heap.size w0 w' ∧ Kept w w' (fun k_ => P0_ k_) := by
 have HO0 := Aside0.mk (show Kd.R (Kd.int .i64) 3 w w0.heap.size (fun k_ => (P0_ k_ ∨ w.heap.size ≤ k_)) u9000_ l0 from Kd.R_mono ho0 (fun k_ hk => (.inl hk)))
 have HK := Aside0.mk (Kept.refl w (fun k_ => P0_ k_))
 have HW0 := Aside0.mk hB.size
 have HB := Aside0.mk hB
 clear hB
 have H : (laws_markIntS.l0 k l0 a1 0) = some (r1, r2) := h
 clear h
 have H' := Aside0.mk H
 clear H
 go_enter Try.func23, Try.ntmps23
 go_wp2
 go_loopg [1, 5] k (fun kq v1 v5 w' => ∃ (x0_1 : List Int) (x1_1 : Int) (x5_1 : Int), v1 = .int .i64 x1_1 ∧ v5 = .int .i64 x5_1 ∧ Aside0 (laws_markIntS.l0 kq x0_1 x1_1 x5_1 = some (r1, r2)) ∧ Aside0 (kq ≤ k) ∧ Aside0 (Kd.R (Kd.int .i64) 3 w' w0.heap.size (fun k_ => (P0_ k_ ∨ w.heap.size ≤ k_)) u9000_ x0_1) ∧ Aside0 (Kept w w' (fun k_ => P0_ k_)) ∧ Aside0 (Below w0.heap.size w0 w'))
 case atStart => exact ⟨(l0), (a1), (0), S.eA, S.eA, H', ⟨Nat.le_refl _⟩, ⟨S.uR HO0.out⟩, ⟨by repeat (first | (with_reducible first | exact HK.out | apply Kept.alloc | apply Kept.drewN | apply Kept.drew) | exact HK.out)⟩, ⟨S.bA⟩⟩
 case round =>
  clear H'
  obtain ⟨x0_1, x1_1, x5_1, rfl, rfl, HA, HK1, HO_0, HK, HB⟩ := hrel
  cases gk with
  | zero => exact absurd HA.out (by simp [laws_markIntS.l0])
  | succ k1 =>
   have H := HA.out
   clear HA
   simp only [laws_markIntS.l0] at H
   replace H := S.dc H; rcases H with ⟨H, c3b0⟩ | ⟨H, c3b0⟩
   ·by_cases c4 : 0 ≤ x5_1
    ·rw [if_pos c4] at H
     have c4b0 : decide (0 ≤ x5_1) = true := decide_eq_true c4
     clear c4
     obtain ⟨y147, hy147⟩ : ∃ y_ : List Int, y_ = (x0_1.set (x5_1 : Int).toNat x1_1) := ⟨_, rfl⟩
     replace H : (laws_markIntS.l0 k1 y147 (wrap64 (x1_1 + 1)) (wrap64 (x5_1 + 1))) = some (r1, r2) := by first | (rw [hy147]; with_reducible exact H) | (have H2_ := (Option.bind_some _ _).symm.trans H; rw [hy147]; with_reducible exact H2_) | (have H2_ := (Option.bind_some _ _).symm.trans H; with_reducible exact H2_) | with_reducible exact H | (rw [hy147]; exact H) | exact H
     have Ny147 := Aside0.mk hy147
     clear hy147
     have H' := Aside0.mk H
     clear H
     obtain ⟨Ao6, co6, eo6⟩ := Kd.R_slice HO_0.out
     subst eo6
     have p5 : 0 ≤ (x5_1 : Int) := S.oD
     have q5 : (x5_1 : Int) < ((x0_1.length : Int) : Int) := S.oD
     obtain ⟨go5, co5, eo5, gb5, gl5, cl5, HG5⟩ := Kd.R_form HO_0.out (by omega)
     (first | cases eo5 | (injection eo5 with ea_ en_ ec_; (first | subst ea_ | (injection ea_ with ea_; subst ea_)); subst ec_; clear en_))
     have GB5 := Aside0.mk gb5
     have GG5 := Aside0.mk HG5
     clear gb5 gl5 HG5
     have HMgo5 := Aside0.mk (show (P0_ go5 ∨ w.heap.size ≤ go5) from (HO_0.out.1 _ rfl))
     obtain ⟨hx5_0, hf5_0⟩ := Kd.R_celln 0 HO_0.out (x5_1 : Int) p5 q5
     replace p5 := eq_true p5
     replace q5 := eq_true q5
     have HP7 := Kd.R_putg HO_0.out (x5_1 : Int) x1_1
     go_wp2_with (first | ((with_reducible refine gate_store (t := 3) (p := 15) rfl ?_); refine store_event (t := 3) (p := 15) (v := ?vo_w8) (w1 := (wr.setCell ⟨go5, (x5_1 : Int).toNat, none⟩ (.int .i64 x1_1))) ?hg ?ho ?hn ?hr ?_; (case ho => rfl); (case hg => rfl); (case hn => rfl); (case hr => first | (go_simp; done) | (go_simp; rfl)); intro w8 hw; have hg : wr.grownBy w8 (some go5) := (by rw [hw]; exact HP7.2); have hp_ : Kd.R (Kd.int .i64) 3 w8 w0.heap.size (fun k_ => (P0_ k_ ∨ w.heap.size ≤ k_)) (.slice (some ⟨go5, 0, none⟩) x0_1.length co6) y147 := (by rw [hw, Ny147.out]; exact HP7.1); clear HP7; replace HB := Aside0.mk ((by rw [hw]; exact below_set (HB.out) GB5.out : Below w0.heap.size w0 w8)); replace HK := Aside0.mk (Kept.of_grown (S := (fun k_ => P0_ k_)) hg (by repeat (first | (with_reducible first | exact HK.out | apply Kept.alloc | apply Kept.drewN | apply Kept.drew) | exact HK.out)) (fun k_ e_ => (HO_0.out.1 k_ e_))); replace HO_0 := Aside0.mk (hp_); clear hg hw hp_))
     go_roundg k1
     case measure => have := HK1.out; omega
     case rel => exact ⟨(y147), (wrap64 (x1_1 + 1)), (wrap64 (x5_1 + 1)), S.eA, S.eA, H', ⟨by have := HK1.out; omega⟩, ⟨S.uR HO_0.out⟩, ⟨by repeat (first | (with_reducible first | exact HK.out | apply Kept.alloc | apply Kept.drewN | apply Kept.drew) | exact HK.out)⟩, ⟨S.bA⟩⟩
    ·rw [if_neg c4] at H
     exact absurd H (by simp)
   ·simp only [Option.some.injEq, Prod.mk.injEq] at H
    obtain ⟨rfl, rfl⟩ := H
    obtain ⟨Ao9, co9, eo9⟩ := Kd.R_slice HO_0.out
    subst eo9
    go_wp2
    go_ret
    exact ⟨S.eW, S.uR HO_0.out, S.bA, by repeat (first | (with_reducible first | exact HK.out | apply Kept.alloc | apply Kept.drewN | apply Kept.drew) | exact HK.out)⟩

/-! ### laws_markControl: function 43 -/
def laws_markControl.f (k : Nat) (l0_0 : List Int) (a0_1 : Int) (l0_2 : List Int) (a0_3 : Int) (a1 : Int) : Option (Int × List Int × List Int) := (laws_markIntS.f k l0_0 a1).bind fun bt149 => ((laws_markIntS.f k l0_2 bt149.1).bind fun bt151 => (some (bt151.1, bt149.2, bt151.2)))
set_option maxHeartbeats 8000000 in
set_option maxRecDepth 100000 in
theorem laws_markControl.calls (k : Nat) (P0_0_ : Nat → Prop) (u9000_ : Value) (l0_0 : List Int) (a0_1 : Int) (P0_2_ : Nat → Prop) (u9001_ : Value) (l0_2 : List Int) (a0_3 : Int) (a1 : Int) (r1 : Int) (r2 : List Int) (r3 : List Int) (w0 w : World) (hB : Below w0.heap.size w0 w) (ho0_0 : Kd.R (Kd.int .i64) 3 w w0.heap.size P0_0_ u9000_ l0_0) (hp0_0_0_2 : ∀ k_, P0_0_ k_ → ¬ P0_2_ k_) (ho0_2 : Kd.R (Kd.int .i64) 3 w w0.heap.size P0_2_ u9001_ l0_2) (hp0_2_0_0 : ∀ k_, P0_2_ k_ → ¬ P0_0_ k_) (h : laws_markControl.f k l0_0 a0_1 l0_2 a0_3 a1 = some (r1, r2, r3)) :
  Calls Try.prog 43 #[.agg #[u9000_, .int .i64 a0_1, u9001_, .int .i64 a0_3], .int .i64 a1] w fun e w' => e = .returned (.int .i64 r1) ∧ Kd.R (Kd.int .i64) 3 w' w0.heap.size (fun k_ => ((P0_0_ k_ ∨ P0_2_ k_) ∨ w.heap.size ≤ k_)) u9000_ r2 ∧ Kd.R (Kd.int .i64) 3 w' w0.heap.size (fun k_ => ((P0_0_ k_ ∨ P0_2_ k_) ∨ w.heap.size ≤ k_)) u9001_ r3 ∧ Below w0.heap.size w0 w' ∧ Kept w w' (fun k_ => P0_0_ k_ ∨ P0_2_ k_) := by
 have hu60 := Try.underlying60
 have HO0_0 := Aside0.mk (show Kd.R (Kd.int .i64) 3 w w0.heap.size (fun k_ => ((P0_0_ k_ ∨ P0_2_ k_) ∨ w.heap.size ≤ k_) ∧ some k_ ≠ (u9001_ : Value).ownBlock) u9000_ l0_0 from Kd.R_mono ho0_0 (fun k_ hk => ⟨(.inl (.inl hk)), fun e_ => hp0_0_0_2 k_ hk (ho0_2.1 k_ e_.symm)⟩))
 have HO0_2 := Aside0.mk (show Kd.R (Kd.int .i64) 3 w w0.heap.size (fun k_ => ((P0_0_ k_ ∨ P0_2_ k_) ∨ w.heap.size ≤ k_) ∧ some k_ ≠ (u9000_ : Value).ownBlock) u9001_ l0_2 from Kd.R_mono ho0_2 (fun k_ hk => ⟨(.inl (.inr hk)), fun e_ => hp0_2_0_0 k_ hk (ho0_0.1 k_ e_.symm)⟩))
 have HK := Aside0.mk (Kept.refl w (fun k_ => P0_0_ k_ ∨ P0_2_ k_))
 have HW0 := Aside0.mk hB.size
 have HB := Aside0.mk hB
 clear hB
 have H : ((laws_markIntS.f k l0_0 a1).bind fun bt149 => ((laws_markIntS.f k l0_2 bt149.1).bind fun bt151 => (some (bt151.1, bt149.2, bt151.2)))) = some (r1, r2, r3) := h
 clear h
 replace H := S.bd H; obtain ⟨⟨t149, t150⟩, A3, H⟩ := H
 (try dsimp only at H)
 replace H := S.bd H; obtain ⟨⟨t151, t152⟩, A4, H⟩ := H
 (try dsimp only at H)
 simp only [Option.some.injEq, Prod.mk.injEq] at H
 obtain ⟨rfl, rfl, rfl⟩ := H
 obtain ⟨Ao5, co5, eo5⟩ := Kd.R_slice HO0_0.out
 subst eo5
 obtain ⟨Ao6, co6, eo6⟩ := Kd.R_slice HO0_2.out
 subst eo6
 go_enter Try.func43, Try.ntmps43
 go_wp2_with (first | ((with_reducible refine gate_dst (N := 2) rfl ?_); refine S.bx 2 (cs := #[.slice Ao5 l0_0.length co5, .int .i64 a0_1, .slice Ao6 l0_2.length co6, .int .i64 a0_3]) (t := 60) ?_; intro gb148 hg w7 hbox hb; replace HO0_0 := S.rb HO0_0 hb; replace HO0_2 := S.rb HO0_2 hb; have BK148 := Aside0.mk hbox; have GW148 := Aside0.mk ((by rw [hg]; exact (by first | exact HK.out.1 | exact (show Kept w _ (fun k_ => P0_0_ k_ ∨ P0_2_ k_) from by repeat (first | (with_reducible first | exact HK.out | apply Kept.alloc | apply Kept.drewN | apply Kept.drew) | exact HK.out)).1) : w.heap.size ≤ gb148)); replace HK := Aside0.mk (Kept.below (S := (fun k_ => P0_0_ k_ ∨ P0_2_ k_)) (by repeat (first | (with_reducible first | exact HK.out | apply Kept.alloc | apply Kept.drewN | apply Kept.drew) | exact HK.out)) hb); have GE148 := S.geA hg; replace HB := S.sA hb; clear hb hbox hg; obtain ⟨Z8a, Z8b, Z8c, Z8d, Y8a, Y8b, Y8c, Y8d⟩ := S.c4 BK148.out) | ((with_reducible refine gate_callee (f := 23) rfl ?_); refine S.gL (some 8) Try.func23 #[.slice Ao5 l0_0.length co5, .int .i64 a1] ?_; (with_reducible refine (laws_markIntS.calls k (fun k_ => some k_ = (.slice Ao5 l0_0.length co5 : Value).ownBlock) (.slice Ao5 l0_0.length co5) l0_0 a1 t149 t150 w0 _ ?s1 ?s2 A3.out).mono ?_); (case s1 => exact S.bG); (case s2 => exact Kd.R_tight rfl HO0_0.out); rintro e w9 ⟨rfl, hy0, hb, hkp⟩; refine ⟨_, rfl, ?_⟩; replace HO0_2 := Aside0.mk (Kd.R_mono (ok' := fun k_ => ((P0_0_ k_ ∨ P0_2_ k_) ∨ w.heap.size ≤ k_) ∧ S.N k_ (.slice Ao5 l0_0.length co5)) (Kd.R_keptB (HO0_2.out) hkp (fun k_ hk_ hs_ => (hk_.2) hs_)) (fun k_ hk_ => ⟨hk_.1.1, hk_.1.2⟩)); replace BK148 := Aside0.mk (blk_kept (S.uB BK148.out) hkp (fun hs_ => (fun e_ => (Kd.R_ne HO0_0.out BK148.out (by decide)) e_) hs_)); replace HK := Aside0.mk (Kept.then_ (S := (fun k_ => P0_0_ k_ ∨ P0_2_ k_)) (by repeat (first | (with_reducible first | exact HK.out | apply Kept.alloc | apply Kept.drewN | apply Kept.drew | refine Kept.setCell ?_ (.inr GW148.out) _) | exact HK.out)) hkp (fun k_ hs_ => (fun e_ => (HO0_0.out.1 k_ e_.symm).1) hs_)); replace HO0_0 := Aside0.mk (Kd.R_reok rfl hy0 (fun k_ e_ => HO0_0.out.1 k_ e_)); replace HB := Aside0.mk (hb); (try clear hb); (try clear hkp); (try clear hy0); obtain ⟨Z10a, Z10b, Z10c, Z10d, Y10a, Y10b, Y10c, Y10d⟩ := S.c4 BK148.out) | ((with_reducible refine gate_callee (f := 23) rfl ?_); refine S.gL (some 12) Try.func23 #[.slice Ao6 l0_2.length co6, .int .i64 t149] ?_; (with_reducible refine (laws_markIntS.calls k (fun k_ => some k_ = (.slice Ao6 l0_2.length co6 : Value).ownBlock) (.slice Ao6 l0_2.length co6) l0_2 t149 t151 t152 w0 _ ?s1 ?s2 A4.out).mono ?_); (case s1 => exact S.bG); (case s2 => exact Kd.R_tight rfl HO0_2.out); rintro e w11 ⟨rfl, hy0, hb, hkp⟩; refine ⟨_, rfl, ?_⟩; replace HO0_0 := Aside0.mk (Kd.R_mono (ok' := fun k_ => ((P0_0_ k_ ∨ P0_2_ k_) ∨ w.heap.size ≤ k_) ∧ S.N k_ (.slice Ao6 l0_2.length co6)) (Kd.R_keptB (HO0_0.out) hkp (fun k_ hk_ hs_ => (hk_.2) hs_)) (fun k_ hk_ => ⟨hk_.1.1, hk_.1.2⟩)); replace BK148 := Aside0.mk (blk_kept (S.uB BK148.out) hkp (fun hs_ => (fun e_ => (Kd.R_ne HO0_2.out BK148.out (by decide)) e_) hs_)); replace HK := Aside0.mk (Kept.then_ (S := (fun k_ => P0_0_ k_ ∨ P0_2_ k_)) (by repeat (first | (with_reducible first | exact HK.out | apply Kept.alloc | apply Kept.drewN | apply Kept.drew | refine Kept.setCell ?_ (.inr GW148.out) _) | exact HK.out)) hkp (fun k_ hs_ => (fun e_ => (HO0_2.out.1 k_ e_.symm).1) hs_)); replace HO0_2 := Aside0.mk (Kd.R_reok rfl hy0 (fun k_ e_ => HO0_2.out.1 k_ e_)); replace HB := Aside0.mk (hb); (try clear hb); (try clear hkp); (try clear hy0)))
 go_ret
 exact ⟨S.eW, by (with_reducible repeat (first | apply Kd.R_alloc | apply Kd.R_drewN | apply Kd.R_drew)); exact Kd.R_mono HO0_0.out (fun _ hk => hk.1), by (with_reducible repeat (first | apply Kd.R_alloc | apply Kd.R_drewN | apply Kd.R_drew)); exact Kd.R_mono HO0_2.out (fun _ hk => hk.1), S.bG, by repeat (first | (with_reducible first | exact HK.out | apply Kept.alloc | apply Kept.drewN | apply Kept.drew | refine Kept.setCell ?_ (.inr GW148.out) _) | exact HK.out)⟩

/-! ### laws_heldIntS: function 24 -/
def laws_heldIntS.l0 : Nat → List Int → Int → Int → Option (Int)
 | 0, _, _, _ => none
 | k + 1, x0, x1, x5 => if x5 < (x0.length : Int) then (if 0 ≤ x5 then (if (rd x0 x5) = x1 then (laws_heldIntS.l0 k x0 (wrap64 (x1 + 1)) (wrap64 (x5 + 1))) else (some (-1))) else (none)) else (some x1)
def laws_heldIntS.f (k : Nat) (l0 : List Int) (a1 : Int) : Option (Int) := laws_heldIntS.l0 k l0 a1 0
set_option maxHeartbeats 8000000 in
set_option maxRecDepth 100000 in
theorem laws_heldIntS.calls (k : Nat) (A0 : Option Addr) (c0 : Nat) (l0 : List Int) (a1 : Int) (r : Int) (w : World) (hr0 : Kd.C (Kd.int .i64) w A0 l0.length l0) (hc0 : l0.length ≤ c0) (h : laws_heldIntS.f k l0 a1 = some r) :
  Calls Try.prog 24 #[.slice A0 l0.length c0, .int .i64 a1] w fun e w' => e = .returned (.int .i64 r) ∧ Drawn0 w w' := by
 have HR0 := Aside0.mk hr0
 have HC0 := Aside0.mk hc0
 clear hr0 hc0
 have H : (laws_heldIntS.l0 k l0 a1 0) = some r := h
 clear h
 have H' := Aside0.mk H
 clear H
 go_enter Try.func24, Try.ntmps24
 go_wp2
 go_loopg [1, 5] k (fun kq v1 v5 w' => ∃ (x1_1 : Int) (x5_1 : Int), v1 = .int .i64 x1_1 ∧ v5 = .int .i64 x5_1 ∧ Aside0 (laws_heldIntS.l0 kq l0 x1_1 x5_1 = some r) ∧ Aside0 (kq ≤ k) ∧ Drawn0 w w')
 case atStart => exact ⟨(a1), (0), S.eA, S.eA, H', ⟨Nat.le_refl _⟩, by repeat (first | exact Drawn0.refl _ | apply Drawn0.step)⟩
 case round =>
  clear H'
  obtain ⟨x1_1, x5_1, rfl, rfl, HA, HK1, ⟨m1, rfl⟩⟩ := hrel
  cases gk with
  | zero => exact absurd HA.out (by simp [laws_heldIntS.l0])
  | succ k1 =>
   have H := HA.out
   clear HA
   simp only [laws_heldIntS.l0] at H
   replace H := S.dc H; rcases H with ⟨H, c3b0⟩ | ⟨H, c3b0⟩
   ·by_cases c4 : 0 ≤ x5_1
    ·rw [if_pos c4] at H
     have c4b0 : decide (0 ≤ x5_1) = true := decide_eq_true c4
     clear c4
     by_cases c5 : (rd l0 x5_1) = x1_1
     ·rw [if_pos c5] at H
      have c5b0 : ((rd l0 x5_1) == x1_1) = true := beq_iff_eq.mpr c5
      have c5b1 : ((rd l0 x5_1) != x1_1) = false := bne_eq_false_iff_eq.mpr c5
      clear c5
      have H' := Aside0.mk H
      clear H
      have p153 : 0 ≤ (x5_1 : Int) := S.oD
      have q153 : x5_1 < (l0.length : Int) := S.oD
      obtain ⟨ad153, e153, hx153_0⟩ := Kd.at_int HR0.out x5_1 p153 q153
      cases e153
      replace p153 := eq_true p153
      replace q153 := eq_true q153
      go_wp2
      go_roundg k1
      case measure => have := HK1.out; omega
      case rel => exact ⟨(wrap64 (x1_1 + 1)), (wrap64 (x5_1 + 1)), S.eA, S.eA, H', ⟨by have := HK1.out; omega⟩, by repeat (first | exact Drawn0.refl _ | apply Drawn0.step)⟩
     ·rw [if_neg c5] at H
      have c5b0 : ((rd l0 x5_1) == x1_1) = false := beq_eq_false_iff_ne.mpr c5
      have c5b1 : ((rd l0 x5_1) != x1_1) = true := bne_iff_ne.mpr c5
      obtain rfl := Option.some.inj H
      have p153 : 0 ≤ (x5_1 : Int) := S.oD
      have q153 : x5_1 < (l0.length : Int) := S.oD
      obtain ⟨ad153, e153, hx153_0⟩ := Kd.at_int HR0.out x5_1 p153 q153
      cases e153
      replace p153 := eq_true p153
      replace q153 := eq_true q153
      go_wp2
      go_ret
      exact ⟨S.eA, by repeat (first | exact Drawn0.refl _ | apply Drawn0.step)⟩
    ·rw [if_neg c4] at H
     exact absurd H (by simp)
   ·obtain rfl := Option.some.inj H
    go_wp2
    go_ret
    exact ⟨S.eA, by repeat (first | exact Drawn0.refl _ | apply Drawn0.step)⟩

/-! ### laws_heldControl: function 44 -/
def laws_heldControl.f (k : Nat) (l0_0 : List Int) (a0_1 : Int) (l0_2 : List Int) (a0_3 : Int) (a1 : Int) : Option (Int) := (laws_heldIntS.f k l0_0 a1).bind fun t155 => (if t155 < 0 then (some (-1)) else ((laws_heldIntS.f k l0_2 t155).bind fun t156 => (if t156 < 0 then (some (-1)) else (some t156))))
set_option maxHeartbeats 8000000 in
set_option maxRecDepth 100000 in
theorem laws_heldControl.calls (k : Nat) (A0_0 : Option Addr) (c0_0 : Nat) (l0_0 : List Int) (a0_1 : Int) (A0_2 : Option Addr) (c0_2 : Nat) (l0_2 : List Int) (a0_3 : Int) (a1 : Int) (r : Int) (w : World) (hr0_0 : Kd.C (Kd.int .i64) w A0_0 l0_0.length l0_0) (hc0_0 : l0_0.length ≤ c0_0) (hr0_2 : Kd.C (Kd.int .i64) w A0_2 l0_2.length l0_2) (hc0_2 : l0_2.length ≤ c0_2) (h : laws_heldControl.f k l0_0 a0_1 l0_2 a0_3 a1 = some r) :
  Calls Try.prog 44 #[.agg #[.slice A0_0 l0_0.length c0_0, .int .i64 a0_1, .slice A0_2 l0_2.length c0_2, .int .i64 a0_3], .int .i64 a1] w fun e w' => e = .returned (.int .i64 r) ∧ Below w.heap.size w w' := by
 have hu60 := Try.underlying60
 have HR0_0 := Aside0.mk hr0_0
 have HC0_0 := Aside0.mk hc0_0
 clear hr0_0 hc0_0
 have HR0_2 := Aside0.mk hr0_2
 have HC0_2 := Aside0.mk hc0_2
 clear hr0_2 hc0_2
 have HB := Aside0.mk (Below.refl w.heap.size w)
 have H : ((laws_heldIntS.f k l0_0 a1).bind fun t155 => (if t155 < 0 then (some (-1)) else ((laws_heldIntS.f k l0_2 t155).bind fun t156 => (if t156 < 0 then (some (-1)) else (some t156))))) = some r := h
 clear h
 replace H := S.bd H; obtain ⟨t155, A3, H⟩ := H
 (try dsimp only at H)
 replace H := S.dc H; rcases H with ⟨H, c4b0⟩ | ⟨H, c4b0⟩
 ·obtain rfl := Option.some.inj H
  go_enter Try.func44, Try.ntmps44
  go_wp2_with (first | ((with_reducible refine gate_dst (N := 2) rfl ?_); refine S.bx 2 (cs := #[.slice A0_0 l0_0.length c0_0, .int .i64 a0_1, .slice A0_2 l0_2.length c0_2, .int .i64 a0_3]) (t := 60) ?_; intro gb154 hg w5 hbox hb; have BK154 := Aside0.mk hbox; have GW154 := S.geA hg; have GE154 := S.geA hg; replace HB := S.sA hb; clear hb hbox hg; obtain ⟨Z6a, Z6b, Z6c, Z6d, Y6a, Y6b, Y6c, Y6d⟩ := S.c4 BK154.out) | ((with_reducible refine gate_callee (f := 24) rfl ?_); refine S.gL (some 8) Try.func24 #[.slice A0_0 l0_0.length c0_0, .int .i64 a1] ?_; (with_reducible refine (laws_heldIntS.calls k _ _ l0_0 a1 t155 _ ?s1 HC0_0.out A3.out).mono ?_); (case s1 => exact S.cA HR0_0.out); rintro e w' ⟨rfl, ⟨nd, rfl⟩⟩; refine ⟨_, rfl, ?_⟩))
  go_ret
  exact ⟨S.eW, S.bG⟩
 ·replace H := Option.bind_eq_some_iff.mp H
  obtain ⟨t156, A70, H⟩ := H
  replace H : (if t156 < 0 then (some (-1)) else (some t156)) = some r := H
  have A7 := Aside0.mk A70
  clear A70
  replace H := S.dc H; rcases H with ⟨H, c8b0⟩ | ⟨H, c8b0⟩
  ·obtain rfl := Option.some.inj H
   go_enter Try.func44, Try.ntmps44
   go_wp2_with (first | ((with_reducible refine gate_dst (N := 2) rfl ?_); refine S.bx 2 (cs := #[.slice A0_0 l0_0.length c0_0, .int .i64 a0_1, .slice A0_2 l0_2.length c0_2, .int .i64 a0_3]) (t := 60) ?_; intro gb154 hg w9 hbox hb; have BK154 := Aside0.mk hbox; have GW154 := S.geA hg; have GE154 := S.geA hg; replace HB := S.sA hb; clear hb hbox hg; obtain ⟨Z10a, Z10b, Z10c, Z10d, Y10a, Y10b, Y10c, Y10d⟩ := S.c4 BK154.out) | ((with_reducible refine gate_callee (f := 24) rfl ?_); refine S.gL (some 8) Try.func24 #[.slice A0_0 l0_0.length c0_0, .int .i64 a1] ?_; (with_reducible refine (laws_heldIntS.calls k _ _ l0_0 a1 t155 _ ?s1 HC0_0.out A3.out).mono ?_); (case s1 => exact S.cA HR0_0.out); rintro e w' ⟨rfl, ⟨nd, rfl⟩⟩; refine ⟨_, rfl, ?_⟩) | ((with_reducible refine gate_callee (f := 24) rfl ?_); refine S.gL (some 14) Try.func24 #[.slice A0_2 l0_2.length c0_2, .int .i64 t155] ?_; (with_reducible refine (laws_heldIntS.calls k _ _ l0_2 t155 t156 _ ?s1 HC0_2.out A7.out).mono ?_); (case s1 => repeat (first | exact (Kd.C_below HR0_2.out S.bG) | (with_reducible refine Kd.C_alloc ?_ _) | (with_reducible refine Kd.C_drewN ?_ _) | (with_reducible refine Kd.C_drew ?_))); rintro e w' ⟨rfl, ⟨nd, rfl⟩⟩; refine ⟨_, rfl, ?_⟩))
   go_ret
   exact ⟨S.eW, S.bG⟩
  ·obtain rfl := Option.some.inj H
   go_enter Try.func44, Try.ntmps44
   go_wp2_with (first | ((with_reducible refine gate_dst (N := 2) rfl ?_); refine S.bx 2 (cs := #[.slice A0_0 l0_0.length c0_0, .int .i64 a0_1, .slice A0_2 l0_2.length c0_2, .int .i64 a0_3]) (t := 60) ?_; intro gb154 hg w11 hbox hb; have BK154 := Aside0.mk hbox; have GW154 := S.geA hg; have GE154 := S.geA hg; replace HB := S.sA hb; clear hb hbox hg; obtain ⟨Z12a, Z12b, Z12c, Z12d, Y12a, Y12b, Y12c, Y12d⟩ := S.c4 BK154.out) | ((with_reducible refine gate_callee (f := 24) rfl ?_); refine S.gL (some 8) Try.func24 #[.slice A0_0 l0_0.length c0_0, .int .i64 a1] ?_; (with_reducible refine (laws_heldIntS.calls k _ _ l0_0 a1 t155 _ ?s1 HC0_0.out A3.out).mono ?_); (case s1 => exact S.cA HR0_0.out); rintro e w' ⟨rfl, ⟨nd, rfl⟩⟩; refine ⟨_, rfl, ?_⟩) | ((with_reducible refine gate_callee (f := 24) rfl ?_); refine S.gL (some 14) Try.func24 #[.slice A0_2 l0_2.length c0_2, .int .i64 t155] ?_; (with_reducible refine (laws_heldIntS.calls k _ _ l0_2 t155 t156 _ ?s1 HC0_2.out A7.out).mono ?_); (case s1 => repeat (first | exact (Kd.C_below HR0_2.out S.bG) | (with_reducible refine Kd.C_alloc ?_ _) | (with_reducible refine Kd.C_drewN ?_ _) | (with_reducible refine Kd.C_drew ?_))); rintro e w' ⟨rfl, ⟨nd, rfl⟩⟩; refine ⟨_, rfl, ?_⟩))
   go_ret
   exact ⟨S.eW, S.bG⟩

/-! ### spec_FindPath: function 85 -/
def spec_FindPath.l0 : Nat → List (S52) → Int → Int → Option (Int)
 | 0, _, _, _ => none
 | k + 1, x0, x1, x5 => if x5 < (x0.length : Int) then (if 0 ≤ x5 then (if ((rd_T52 x0 x5).f0) = x1 then (some x5) else (spec_FindPath.l0 k x0 x1 (wrap64 (x5 + 1)))) else (none)) else (some (-1))
def spec_FindPath.f (k : Nat) (l0 : List (S52)) (a1 : Int) : Option (Int) := spec_FindPath.l0 k l0 a1 0
set_option maxHeartbeats 8000000 in
set_option maxRecDepth 100000 in
theorem spec_FindPath.calls (k : Nat) (A0 : Option Addr) (c0 : Nat) (l0 : List (S52)) (a1 : Int) (r : Int) (w : World) (hr0 : Kd.C k52 w A0 l0.length l0) (hc0 : l0.length ≤ c0) (h : spec_FindPath.f k l0 a1 = some r) :
  Calls Try.prog 85 #[.slice A0 l0.length c0, .int .i64 a1] w fun e w' => e = .returned (.int .i64 r) ∧ Drawn0 w w' := by
 have HR0 := Aside0.mk hr0
 have HC0 := Aside0.mk hc0
 clear hr0 hc0
 have H : (spec_FindPath.l0 k l0 a1 0) = some r := h
 clear h
 have H' := Aside0.mk H
 clear H
 go_enter Try.func85, Try.ntmps85
 go_wp2
 go_loopg [5] k (fun kq v5 w' => ∃ (x5_1 : Int), v5 = .int .i64 x5_1 ∧ Aside0 (spec_FindPath.l0 kq l0 a1 x5_1 = some r) ∧ Aside0 (kq ≤ k) ∧ Drawn0 w w')
 case atStart => exact ⟨(0), S.eA, H', ⟨Nat.le_refl _⟩, by repeat (first | exact Drawn0.refl _ | apply Drawn0.step)⟩
 case round =>
  clear H'
  obtain ⟨x5_1, rfl, HA, HK1, ⟨m1, rfl⟩⟩ := hrel
  cases gk with
  | zero => exact absurd HA.out (by simp [spec_FindPath.l0])
  | succ k1 =>
   have H := HA.out
   clear HA
   simp only [spec_FindPath.l0] at H
   replace H := S.dc H; rcases H with ⟨H, c3b0⟩ | ⟨H, c3b0⟩
   ·by_cases c4 : 0 ≤ x5_1
    ·rw [if_pos c4] at H
     have c4b0 : decide (0 ≤ x5_1) = true := decide_eq_true c4
     clear c4
     by_cases c5 : ((rd_T52 l0 x5_1).f0) = a1
     ·rw [if_pos c5] at H
      have c5b0 : (((rd_T52 l0 x5_1).f0) == a1) = true := beq_iff_eq.mpr c5
      have c5b1 : (((rd_T52 l0 x5_1).f0) != a1) = false := bne_eq_false_iff_eq.mpr c5
      clear c5
      obtain rfl := Option.some.inj H
      have p157 : 0 ≤ (x5_1 : Int) := S.oD
      have q157 : x5_1 < (l0.length : Int) := S.oD
      obtain ⟨ad157, e157, hx157_0, hx157_1, hx157_2, hx157_3⟩ := at_T52 HR0.out x5_1 p157 q157
      cases e157
      replace p157 := eq_true p157
      replace q157 := eq_true q157
      go_wp2
      go_ret
      exact ⟨S.eA, by repeat (first | exact Drawn0.refl _ | apply Drawn0.step)⟩
     ·rw [if_neg c5] at H
      have c5b0 : (((rd_T52 l0 x5_1).f0) == a1) = false := beq_eq_false_iff_ne.mpr c5
      have c5b1 : (((rd_T52 l0 x5_1).f0) != a1) = true := bne_iff_ne.mpr c5
      have H' := Aside0.mk H
      clear H
      have p157 : 0 ≤ (x5_1 : Int) := S.oD
      have q157 : x5_1 < (l0.length : Int) := S.oD
      obtain ⟨ad157, e157, hx157_0, hx157_1, hx157_2, hx157_3⟩ := at_T52 HR0.out x5_1 p157 q157
      cases e157
      replace p157 := eq_true p157
      replace q157 := eq_true q157
      go_wp2
      go_roundg k1
      case measure => have := HK1.out; omega
      case rel => exact ⟨(wrap64 (x5_1 + 1)), S.eA, H', ⟨by have := HK1.out; omega⟩, by repeat (first | exact Drawn0.refl _ | apply Drawn0.step)⟩
    ·rw [if_neg c4] at H
     exact absurd H (by simp)
   ·obtain rfl := Option.some.inj H
    go_wp2
    go_ret
    exact ⟨S.eA, by repeat (first | exact Drawn0.refl _ | apply Drawn0.step)⟩

/-! ### spec_LeastGreen: function 75 -/
def spec_LeastGreen.l0 : Nat → List (S52) → List Int → Int → Option (Int)
 | 0, _, _, _ => none
 | k + 1, x0, x1, x5 => if x5 < (x1.length : Int) then (if 0 ≤ x5 then ((spec_FindPath.f k x0 (rd x1 x5)).bind fun t159 => (if t159 ≥ 0 then (if 0 ≤ t159 then (if t159 < (x0.length : Int) then (if ((rd_T52 x0 t159).f1) = 2 then (some 7) else (spec_LeastGreen.l0 k x0 x1 (wrap64 (x5 + 1)))) else (none)) else (none)) else (spec_LeastGreen.l0 k x0 x1 (wrap64 (x5 + 1))))) else (none)) else (some 5)
def spec_LeastGreen.f (k : Nat) (l0 : List (S52)) (l1 : List Int) : Option (Int) := spec_LeastGreen.l0 k l0 l1 0
set_option maxHeartbeats 8000000 in
set_option maxRecDepth 100000 in
theorem spec_LeastGreen.calls (k : Nat) (A0 : Option Addr) (c0 : Nat) (l0 : List (S52)) (A1 : Option Addr) (c1 : Nat) (l1 : List Int) (r : Int) (w : World) (hr0 : Kd.C k52 w A0 l0.length l0) (hc0 : l0.length ≤ c0) (hr1 : Kd.C (Kd.int .i64) w A1 l1.length l1) (hc1 : l1.length ≤ c1) (h : spec_LeastGreen.f k l0 l1 = some r) :
  Calls Try.prog 75 #[.slice A0 l0.length c0, .slice A1 l1.length c1] w fun e w' => e = .returned (.int .i64 r) ∧ Drawn0 w w' := by
 have HR0 := Aside0.mk hr0
 have HC0 := Aside0.mk hc0
 clear hr0 hc0
 have HR1 := Aside0.mk hr1
 have HC1 := Aside0.mk hc1
 clear hr1 hc1
 have H : (spec_LeastGreen.l0 k l0 l1 0) = some r := h
 clear h
 have H' := Aside0.mk H
 clear H
 go_enter Try.func75, Try.ntmps75
 go_wp2
 go_loopg [5] k (fun kq v5 w' => ∃ (x5_1 : Int), v5 = .int .i64 x5_1 ∧ Aside0 (spec_LeastGreen.l0 kq l0 l1 x5_1 = some r) ∧ Aside0 (kq ≤ k) ∧ Drawn0 w w')
 case atStart => exact ⟨(0), S.eA, H', ⟨Nat.le_refl _⟩, by repeat (first | exact Drawn0.refl _ | apply Drawn0.step)⟩
 case round =>
  clear H'
  try clear c1
  obtain ⟨x5_1, rfl, HA, HK1, ⟨m1, rfl⟩⟩ := hrel
  cases gk with
  | zero => exact absurd HA.out (by simp [spec_LeastGreen.l0])
  | succ k1 =>
   have H := HA.out
   clear HA
   simp only [spec_LeastGreen.l0] at H
   replace H := S.dc H; rcases H with ⟨H, c3b0⟩ | ⟨H, c3b0⟩
   ·by_cases c4 : 0 ≤ x5_1
    ·rw [if_pos c4] at H
     have c4b0 : decide (0 ≤ x5_1) = true := decide_eq_true c4
     clear c4
     replace H := S.bd H; obtain ⟨t159, A5, H⟩ := H
     (try dsimp only at H)
     by_cases c6 : t159 ≥ 0
     ·rw [if_pos c6] at H
      have c6b0 : decide (0 ≤ t159) = true := decide_eq_true c6
      clear c6
      by_cases c7 : 0 ≤ t159
      ·rw [if_pos c7] at H
       have c7b0 : decide (0 ≤ t159) = true := decide_eq_true c7
       clear c7
       by_cases c8 : t159 < (l0.length : Int)
       ·rw [if_pos c8] at H
        have c8b0 : decide (t159 < (l0.length : Int)) = true := decide_eq_true c8
        clear c8
        by_cases c9 : ((rd_T52 l0 t159).f1) = 2
        ·rw [if_pos c9] at H
         have c9b0 : (((rd_T52 l0 t159).f1) == 2) = true := beq_iff_eq.mpr c9
         have c9b1 : (((rd_T52 l0 t159).f1) != 2) = false := bne_eq_false_iff_eq.mpr c9
         clear c9
         obtain rfl := Option.some.inj H
         have p158 : 0 ≤ (x5_1 : Int) := S.oD
         have q158 : x5_1 < (l1.length : Int) := S.oD
         obtain ⟨ad158, e158, hx158_0⟩ := Kd.at_int HR1.out x5_1 p158 q158
         cases e158
         replace p158 := eq_true p158
         replace q158 := eq_true q158
         go_wp2_with (first | ((with_reducible refine gate_callee (f := 85) rfl ?_); refine S.gL (some 18) Try.func85 #[.slice A0 l0.length c0, .int .i64 (rd l1 x5_1)] ?_; (with_reducible refine (spec_FindPath.calls k1 _ _ l0 (rd l1 x5_1) t159 _ ?s1 HC0.out A5.out).mono ?_); (case s1 => repeat (first | exact HR0.out | (with_reducible refine Kd.C_alloc ?_ _) | (with_reducible refine Kd.C_drewN ?_ _) | (with_reducible refine Kd.C_drew ?_))); rintro e w' ⟨rfl, ⟨nd, rfl⟩⟩; refine ⟨_, rfl, ?_⟩; have p160 : 0 ≤ (t159 : Int) := S.oD; have q160 : t159 < (l0.length : Int) := S.oD; obtain ⟨ad160, e160, hx160_0, hx160_1, hx160_2, hx160_3⟩ := at_T52 HR0.out t159 p160 q160; cases e160; replace p160 := eq_true p160; replace q160 := eq_true q160))
         go_ret
         exact ⟨S.eA, by repeat (first | exact Drawn0.refl _ | apply Drawn0.step)⟩
        ·rw [if_neg c9] at H
         have c9b0 : (((rd_T52 l0 t159).f1) == 2) = false := beq_eq_false_iff_ne.mpr c9
         have c9b1 : (((rd_T52 l0 t159).f1) != 2) = true := bne_iff_ne.mpr c9
         have H' := Aside0.mk H
         clear H
         have p158 : 0 ≤ (x5_1 : Int) := S.oD
         have q158 : x5_1 < (l1.length : Int) := S.oD
         obtain ⟨ad158, e158, hx158_0⟩ := Kd.at_int HR1.out x5_1 p158 q158
         cases e158
         replace p158 := eq_true p158
         replace q158 := eq_true q158
         go_wp2_with (first | ((with_reducible refine gate_callee (f := 85) rfl ?_); refine S.gL (some 18) Try.func85 #[.slice A0 l0.length c0, .int .i64 (rd l1 x5_1)] ?_; (with_reducible refine (spec_FindPath.calls k1 _ _ l0 (rd l1 x5_1) t159 _ ?s1 HC0.out A5.out).mono ?_); (case s1 => repeat (first | exact HR0.out | (with_reducible refine Kd.C_alloc ?_ _) | (with_reducible refine Kd.C_drewN ?_ _) | (with_reducible refine Kd.C_drew ?_))); rintro e w' ⟨rfl, ⟨nd, rfl⟩⟩; refine ⟨_, rfl, ?_⟩; have p160 : 0 ≤ (t159 : Int) := S.oD; have q160 : t159 < (l0.length : Int) := S.oD; obtain ⟨ad160, e160, hx160_0, hx160_1, hx160_2, hx160_3⟩ := at_T52 HR0.out t159 p160 q160; cases e160; replace p160 := eq_true p160; replace q160 := eq_true q160))
         go_roundg k1
         case measure => have := HK1.out; omega
         case rel => exact ⟨(wrap64 (x5_1 + 1)), S.eA, H', ⟨by have := HK1.out; omega⟩, by repeat (first | exact Drawn0.refl _ | apply Drawn0.step)⟩
       ·rw [if_neg c8] at H
        exact absurd H (by simp)
      ·rw [if_neg c7] at H
       exact absurd H (by simp)
     ·rw [if_neg c6] at H
      have c6b0 : decide (0 ≤ t159) = false := decide_eq_false c6
      clear c6
      have H' := Aside0.mk H
      clear H
      have p158 : 0 ≤ (x5_1 : Int) := S.oD
      have q158 : x5_1 < (l1.length : Int) := S.oD
      obtain ⟨ad158, e158, hx158_0⟩ := Kd.at_int HR1.out x5_1 p158 q158
      cases e158
      replace p158 := eq_true p158
      replace q158 := eq_true q158
      go_wp2_with (first | ((with_reducible refine gate_callee (f := 85) rfl ?_); refine S.gL (some 18) Try.func85 #[.slice A0 l0.length c0, .int .i64 (rd l1 x5_1)] ?_; (with_reducible refine (spec_FindPath.calls k1 _ _ l0 (rd l1 x5_1) t159 _ ?s1 HC0.out A5.out).mono ?_); (case s1 => repeat (first | exact HR0.out | (with_reducible refine Kd.C_alloc ?_ _) | (with_reducible refine Kd.C_drewN ?_ _) | (with_reducible refine Kd.C_drew ?_))); rintro e w' ⟨rfl, ⟨nd, rfl⟩⟩; refine ⟨_, rfl, ?_⟩))
      go_roundg k1
      case measure => have := HK1.out; omega
      case rel => exact ⟨(wrap64 (x5_1 + 1)), S.eA, H', ⟨by have := HK1.out; omega⟩, by repeat (first | exact Drawn0.refl _ | apply Drawn0.step)⟩
    ·rw [if_neg c4] at H
     exact absurd H (by simp)
   ·obtain rfl := Option.some.inj H
    go_wp2
    go_ret
    exact ⟨S.eA, by repeat (first | exact Drawn0.refl _ | apply Drawn0.step)⟩

/-! ### spec_l1In: function 108 -/
def spec_l1In.f (a0 : Int) (a1 : Int) (a2 : Int) : Option (Bool) := if a0 ≥ a1 then (some (decide (a0 ≤ a2))) else (some false)
set_option maxHeartbeats 8000000 in
set_option maxRecDepth 100000 in
theorem spec_l1In.calls (a0 : Int) (a1 : Int) (a2 : Int) (r : Bool) (w : World) (h : spec_l1In.f a0 a1 a2 = some r) :
  Calls Try.prog 108 #[.int .i64 a0, .int .i64 a1, .int .i64 a2] w fun e w' => e = .returned (.bool r) ∧ Drawn0 w w' := by
 have H : (if a0 ≥ a1 then (some (decide (a0 ≤ a2))) else (some false)) = some r := h
 clear h
 by_cases c4 : a0 ≥ a1
 ·rw [if_pos c4] at H
  have c4b0 : decide (a1 ≤ a0) = true := decide_eq_true c4
  clear c4
  obtain rfl := Option.some.inj H
  go_enter Try.func108, Try.ntmps108
  go_wp2
  go_ret
  exact ⟨S.eA, by repeat (first | exact Drawn0.refl _ | apply Drawn0.step)⟩
 ·rw [if_neg c4] at H
  have c4b0 : decide (a1 ≤ a0) = false := decide_eq_false c4
  clear c4
  obtain rfl := Option.some.inj H
  go_enter Try.func108, Try.ntmps108
  go_wp2
  go_ret
  exact ⟨S.eA, by repeat (first | exact Drawn0.refl _ | apply Drawn0.step)⟩

/-! ### spec_IsPath: function 129 -/
def spec_IsPath.f (a0_0 : Int) (a0_1 : Int) (a0_2 : Int) (a0_3 : Int) : Option (Bool) := (spec_l1In.f a0_0 1 20).bind fun t162 => (if t162 = true then ((spec_l1In.f a0_1 1 3).bind fun t163 => (if t163 = true then ((spec_l1In.f a0_2 0 3).bind fun t164 => (if t164 = true then ((spec_l1In.f a0_3 0 3).bind fun t165 => (if t165 = true then (some ((a0_2 == a0_3) == (a0_1 == 2))) else (some false))) else (some false))) else (some false))) else (some false))
set_option maxHeartbeats 8000000 in
set_option maxRecDepth 100000 in
theorem spec_IsPath.calls (a0_0 : Int) (a0_1 : Int) (a0_2 : Int) (a0_3 : Int) (r : Bool) (w : World) (h : spec_IsPath.f a0_0 a0_1 a0_2 a0_3 = some r) :
  Calls Try.prog 129 #[.agg #[.int .i64 a0_0, .int .i64 a0_1, .int .i64 a0_2, .int .i64 a0_3]] w fun e w' => e = .returned (.bool r) ∧ Below w.heap.size w w' := by
 have hu52 := Try.underlying52
 have HB := Aside0.mk (Below.refl w.heap.size w)
 have H : ((spec_l1In.f a0_0 1 20).bind fun t162 => (if t162 = true then ((spec_l1In.f a0_1 1 3).bind fun t163 => (if t163 = true then ((spec_l1In.f a0_2 0 3).bind fun t164 => (if t164 = true then ((spec_l1In.f a0_3 0 3).bind fun t165 => (if t165 = true then (some ((a0_2 == a0_3) == (a0_1 == 2))) else (some false))) else (some false))) else (some false))) else (some false))) = some r := h
 clear h
 replace H := S.bd H; obtain ⟨t162, A2, H⟩ := H
 (try dsimp only at H)
 replace H := S.db H; rcases H with ⟨rfl, H⟩ | ⟨rfl, H⟩
 ·replace H := S.bd H; obtain ⟨t163, A4, H⟩ := H
  (try dsimp only at H)
  replace H := S.db H; rcases H with ⟨rfl, H⟩ | ⟨rfl, H⟩
  ·replace H := S.bd H; obtain ⟨t164, A6, H⟩ := H
   (try dsimp only at H)
   replace H := S.db H; rcases H with ⟨rfl, H⟩ | ⟨rfl, H⟩
   ·replace H := S.bd H; obtain ⟨t165, A8, H⟩ := H
    (try dsimp only at H)
    replace H := S.db H; rcases H with ⟨rfl, H⟩ | ⟨rfl, H⟩
    ·obtain rfl := Option.some.inj H
     go_enter Try.func129, Try.ntmps129
     go_wp2_with (first | ((with_reducible refine gate_dst (N := 1) rfl ?_); refine S.bx 1 (cs := #[.int .i64 a0_0, .int .i64 a0_1, .int .i64 a0_2, .int .i64 a0_3]) (t := 52) ?_; intro gb161 hg w10 hbox hb; have BK161 := Aside0.mk hbox; have GW161 := S.geA hg; have GE161 := S.geA hg; replace HB := S.sA hb; clear hb hbox hg; obtain ⟨Z11a, Z11b, Z11c, Z11d, Y11a, Y11b, Y11c, Y11d⟩ := S.c4 BK161.out) | ((with_reducible refine gate_callee (f := 108) rfl ?_); refine S.gL (some 5) Try.func108 #[.int .i64 a0_0, .int .i64 1, .int .i64 20] ?_; (with_reducible refine (spec_l1In.calls a0_0 1 20 true _ A2.out).mono ?_); rintro e w' ⟨rfl, ⟨nd, rfl⟩⟩; refine ⟨_, rfl, ?_⟩) | (go_at_call 108; (with_reducible refine (spec_l1In.calls a0_1 1 3 true _ A4.out).mono ?_); rintro e w' ⟨rfl, ⟨nd, rfl⟩⟩) | (go_at_call 108; (with_reducible refine (spec_l1In.calls a0_2 0 3 true _ A6.out).mono ?_); rintro e w' ⟨rfl, ⟨nd, rfl⟩⟩) | (go_at_call 108; (with_reducible refine (spec_l1In.calls a0_3 0 3 true _ A8.out).mono ?_); rintro e w' ⟨rfl, ⟨nd, rfl⟩⟩))
     go_ret
     exact ⟨S.eW, S.bG⟩
    ·obtain rfl := Option.some.inj H
     go_enter Try.func129, Try.ntmps129
     go_wp2_with (first | ((with_reducible refine gate_dst (N := 1) rfl ?_); refine S.bx 1 (cs := #[.int .i64 a0_0, .int .i64 a0_1, .int .i64 a0_2, .int .i64 a0_3]) (t := 52) ?_; intro gb161 hg w12 hbox hb; have BK161 := Aside0.mk hbox; have GW161 := S.geA hg; have GE161 := S.geA hg; replace HB := S.sA hb; clear hb hbox hg; obtain ⟨Z13a, Z13b, Z13c, Z13d, Y13a, Y13b, Y13c, Y13d⟩ := S.c4 BK161.out) | ((with_reducible refine gate_callee (f := 108) rfl ?_); refine S.gL (some 5) Try.func108 #[.int .i64 a0_0, .int .i64 1, .int .i64 20] ?_; (with_reducible refine (spec_l1In.calls a0_0 1 20 true _ A2.out).mono ?_); rintro e w' ⟨rfl, ⟨nd, rfl⟩⟩; refine ⟨_, rfl, ?_⟩) | (go_at_call 108; (with_reducible refine (spec_l1In.calls a0_1 1 3 true _ A4.out).mono ?_); rintro e w' ⟨rfl, ⟨nd, rfl⟩⟩) | (go_at_call 108; (with_reducible refine (spec_l1In.calls a0_2 0 3 true _ A6.out).mono ?_); rintro e w' ⟨rfl, ⟨nd, rfl⟩⟩) | (go_at_call 108; (with_reducible refine (spec_l1In.calls a0_3 0 3 false _ A8.out).mono ?_); rintro e w' ⟨rfl, ⟨nd, rfl⟩⟩))
     go_ret
     exact ⟨S.eW, S.bG⟩
   ·obtain rfl := Option.some.inj H
    go_enter Try.func129, Try.ntmps129
    go_wp2_with (first | ((with_reducible refine gate_dst (N := 1) rfl ?_); refine S.bx 1 (cs := #[.int .i64 a0_0, .int .i64 a0_1, .int .i64 a0_2, .int .i64 a0_3]) (t := 52) ?_; intro gb161 hg w14 hbox hb; have BK161 := Aside0.mk hbox; have GW161 := S.geA hg; have GE161 := S.geA hg; replace HB := S.sA hb; clear hb hbox hg; obtain ⟨Z15a, Z15b, Z15c, Z15d, Y15a, Y15b, Y15c, Y15d⟩ := S.c4 BK161.out) | ((with_reducible refine gate_callee (f := 108) rfl ?_); refine S.gL (some 5) Try.func108 #[.int .i64 a0_0, .int .i64 1, .int .i64 20] ?_; (with_reducible refine (spec_l1In.calls a0_0 1 20 true _ A2.out).mono ?_); rintro e w' ⟨rfl, ⟨nd, rfl⟩⟩; refine ⟨_, rfl, ?_⟩) | (go_at_call 108; (with_reducible refine (spec_l1In.calls a0_1 1 3 true _ A4.out).mono ?_); rintro e w' ⟨rfl, ⟨nd, rfl⟩⟩) | (go_at_call 108; (with_reducible refine (spec_l1In.calls a0_2 0 3 false _ A6.out).mono ?_); rintro e w' ⟨rfl, ⟨nd, rfl⟩⟩))
    go_ret
    exact ⟨S.eW, S.bG⟩
  ·obtain rfl := Option.some.inj H
   go_enter Try.func129, Try.ntmps129
   go_wp2_with (first | ((with_reducible refine gate_dst (N := 1) rfl ?_); refine S.bx 1 (cs := #[.int .i64 a0_0, .int .i64 a0_1, .int .i64 a0_2, .int .i64 a0_3]) (t := 52) ?_; intro gb161 hg w16 hbox hb; have BK161 := Aside0.mk hbox; have GW161 := S.geA hg; have GE161 := S.geA hg; replace HB := S.sA hb; clear hb hbox hg; obtain ⟨Z17a, Z17b, Z17c, Z17d, Y17a, Y17b, Y17c, Y17d⟩ := S.c4 BK161.out) | ((with_reducible refine gate_callee (f := 108) rfl ?_); refine S.gL (some 5) Try.func108 #[.int .i64 a0_0, .int .i64 1, .int .i64 20] ?_; (with_reducible refine (spec_l1In.calls a0_0 1 20 true _ A2.out).mono ?_); rintro e w' ⟨rfl, ⟨nd, rfl⟩⟩; refine ⟨_, rfl, ?_⟩) | (go_at_call 108; (with_reducible refine (spec_l1In.calls a0_1 1 3 false _ A4.out).mono ?_); rintro e w' ⟨rfl, ⟨nd, rfl⟩⟩))
   go_ret
   exact ⟨S.eW, S.bG⟩
 ·obtain rfl := Option.some.inj H
  go_enter Try.func129, Try.ntmps129
  go_wp2_with (first | ((with_reducible refine gate_dst (N := 1) rfl ?_); refine S.bx 1 (cs := #[.int .i64 a0_0, .int .i64 a0_1, .int .i64 a0_2, .int .i64 a0_3]) (t := 52) ?_; intro gb161 hg w18 hbox hb; have BK161 := Aside0.mk hbox; have GW161 := S.geA hg; have GE161 := S.geA hg; replace HB := S.sA hb; clear hb hbox hg; obtain ⟨Z19a, Z19b, Z19c, Z19d, Y19a, Y19b, Y19c, Y19d⟩ := S.c4 BK161.out) | ((with_reducible refine gate_callee (f := 108) rfl ?_); refine S.gL (some 5) Try.func108 #[.int .i64 a0_0, .int .i64 1, .int .i64 20] ?_; (with_reducible refine (spec_l1In.calls a0_0 1 20 false _ A2.out).mono ?_); rintro e w' ⟨rfl, ⟨nd, rfl⟩⟩; refine ⟨_, rfl, ?_⟩))
  go_ret
  exact ⟨S.eW, S.bG⟩

end Go.Proofs.Ytopchlafmfgpnaa.PFnExactStepSiren
