/- Printed by a program: what the Go functions compute, as plain Lean functions (.f), and the proofs that the machine's calls come to just that (.calls). -/
import Derived.Test.YtjgigmghcfdomaaPFnWavesx0
import Derived.Test.YtjgigmghcfdomaaPFnWavesx5
import Derived.Test.YtjgigmghcfdomaaPFnWavesx8
import Derived.Test.YtjgigmghcfdomaaPFnWavesx9
namespace Go.Proofs.Ytjgigmghcfdomaa.PFnWaves
open Go.RowKit Go.Proofs.YtjgigmghcfdomaaW.PrintWords Go.Proofs.YtjgigmghcfdomaaW.PrintLast Go.Proofs.YtjgigmghcfdomaaW.PrintMore
attribute [local go_sem] max2_int min2_int max_two min_two max_three min_three max_four min_four   -- for this text's walks alone
set_option linter.unusedVariables false
set_option linter.unusedSimpArgs false
/-! ### spec_PlanFor: function 134 -/
def spec_PlanFor.l0 : Nat → List (S71) → List (S85) → List (List Int) → Int → Option ((List (S85)))
 | 0, _, _, _, _ => none
 | k + 1, x0, x3, x4, x5 => if x5 < (x4.length : Int) then (if 0 ≤ x5 then ((spec_LeastGreen.f k x0 (rd_L2 x4 x5)).bind fun t497 => (if x3.length < 4398046511104 then (spec_PlanFor.l0 k x0 (x3 ++ [(⟨rd_L2 x4 x5, t497⟩ : S85)]) x4 (wrap64 (x5 + 1))) else (none))) else (none)) else ((spec_IsPlan.f k x0 x3).bind fun t501 => (if t501 = true then (some x3) else (some (([] : List (S85))))))
def spec_PlanFor.f (k : Nat) (l0 : List (S71)) : Option ((List (S85))) := (spec_CoverOf.f k l0).bind fun t492 => (spec_PlanFor.l0 k l0 (([] : List (S85))) t492 0)
def spec_PlanFor.T6 : Bool × List (List Nat × List Nat) := (true, [([], []), ([], []), ([], []), ([1, 2], [1, 2]), ([3], [3]), ([], []), ([], []), ([], []), ([6, 7], [6, 7]), ([8], [8]), ([5, 9], [5, 9]), ([4, 10], [4, 10]), ([11], [11]), ([0, 12, 10], [0, 12]), ([13, 13, 0, 1, 2, 3, 4, 5, 6, 7, 8, 9, 10, 11, 12, 13], [0, 13])])
def spec_PlanFor.B6 : List Nat := [0, 0, 0, 6, 14, 0, 0, 0, 192, 448, 992, 2046, 4094, 8191, 16383]
theorem spec_PlanFor.tab6 : rtab .any (opsOf Try.f134 6) = spec_PlanFor.T6 := by kernel_rfl
theorem spec_PlanFor.bits6 : waitsOk spec_PlanFor.T6.2 spec_PlanFor.B6 = true := by kernel_rfl
set_option maxHeartbeats 8000000 in
set_option maxRecDepth 100000 in
theorem spec_PlanFor.calls (k : Nat) (A0 : Option Addr) (c0 : Nat) (l0 : List (S71)) (r : List (S85)) (w : World) (hr0 : Kd.C k71 w A0 l0.length l0) (hc0 : l0.length ≤ c0) (h : spec_PlanFor.f k l0 = some r) :
  Calls Try.prog 134 #[.slice A0 l0.length c0] w fun e w' => ∃ v0_ : Value, e = .returned (v0_) ∧ Kd.N k85 85 w' w.heap.size (fun k_ => (w.heap.size ≤ k_)) v0_ r ∧ Below w.heap.size w w' := by
 have hu85 := Try.underlying85
 have HR0 := Aside0.mk hr0
 have HC0 := Aside0.mk hc0
 clear hr0 hc0
 have HB := Aside0.mk (Below.refl w.heap.size w)
 have H : ((spec_CoverOf.f k l0).bind fun t492 => (spec_PlanFor.l0 k l0 (([] : List (S85))) t492 0)) = some r := h
 clear h
 obtain ⟨y489, hy489⟩ : ∃ y_ : List (S85), y_ = (([] : List (S85))) := ⟨_, rfl⟩
 replace H : ((spec_CoverOf.f k l0).bind fun t492 => (spec_PlanFor.l0 k l0 y489 t492 0)) = some r := by first | (rw [hy489]; with_reducible exact H) | (have H2_ := (Option.bind_some _ _).symm.trans H; rw [hy489]; with_reducible exact H2_) | (have H2_ := (Option.bind_some _ _).symm.trans H; with_reducible exact H2_) | with_reducible exact H | (rw [hy489]; exact H) | exact H
 have Ny489 := Aside0.mk hy489
 clear hy489
 replace H := S.bd H; obtain ⟨t492, A2, H⟩ := H
 (try dsimp only at H)
 have H' := Aside0.mk H
 clear H
 go_enter Try.func134, Try.ntmps134
 go_wp2_with (first | ((with_reducible refine gate_dst (N := 6) rfl ?_); refine Kd.N_lit k85 _ 85 ?hg (N' := 6) ?hd (xs := ([] : List (S85))) (inner := []) (ok := (fun k_ => (w.heap.size ≤ k_))) (okp := (fun k_ => (w.heap.size ≤ k_))) ?hr ?hp (fun _ hk => hk) ((show ∀ k_, w.heap.size ≤ k_ → (fun k_ => (w.heap.size ≤ k_)) k_ from fun k_ hk => (Nat.le_trans (below_size S.bA) hk)) _ (Nat.le_refl _)) (Below.refl _ _) (Nat.le_refl _) (by simp) ?_; (case hd => rfl); (case hg => rfl); (case hr => first | (go_simp; done) | (go_simp; rfl)); (case hp => exact (Reps.none _ _)); intro v490 w3 ho4 hb hg_ hnew_; clear hg_ hnew_; (first | rw [← Ny489.out] at ho4 | (simp only [Int.reduceToNat] at ho4; rw [← Ny489.out] at ho4)); have HO491 := Aside0.mk (Kd.N_lower ho4 (below_size S.bA)); replace HB := S.sA hb; clear hb ho4) | ((with_reducible refine gate_callee (f := 145) rfl ?_); refine S.gL (some 8) Try.func145 #[.slice A0 l0.length c0] ?_; (with_reducible refine (spec_CoverOf.calls k _ _ l0 t492 _ ?s1 HC0.out A2.out).mono ?_); (case s1 => exact S.cA HR0.out); rintro e w5 ⟨v493, rfl, ho0, hb⟩; refine ⟨_, rfl, ?_⟩; have HO494 := Aside0.mk (Kd.N_lower (Kd.N_mono (ok' := fun k_ => (w.heap.size ≤ k_) ∧ S.N k_ v490) (Kd.R_N (Kd.R_bound ho0)) (fun k_ hk_ => ⟨(Nat.le_trans (below_size S.bA) hk_.2.1), (Kd.fresh' (Kd.N_lt (by (with_reducible repeat (first | apply Kd.N_alloc | apply Kd.N_drewN | apply Kd.N_drew)); exact HO491.out)) k_ hk_.2.1)⟩)) (below_size S.bA)); replace HO491 := Aside0.mk (Kd.N_elder' (by (with_reducible repeat (first | apply Kd.N_alloc | apply Kd.N_drewN | apply Kd.N_drew)); exact HO491.out) (Kd.N_base (Kd.R_N ho0)) hb); replace HB := S.sA hb; (try clear hb); (try clear ho0)))
 go_loopg [3, 5] k (fun kq v3 v5 w' => ∃ (x3_1 : List (S85)) (x5_1 : Int), v5 = .int .i64 x5_1 ∧ Aside0 (spec_PlanFor.l0 kq l0 x3_1 t492 x5_1 = some r) ∧ Aside0 (kq ≤ k) ∧ Aside0 (Kd.N k85 85 w' w.heap.size (fun k_ => (w.heap.size ≤ k_) ∧ S.N k_ v493) v3 x3_1) ∧ Aside0 (Kd.N (Kd.slice 3 (Kd.int .i64)) 36 w' w.heap.size (fun k_ => (w.heap.size ≤ k_) ∧ S.N k_ v3) v493 t492) ∧ Aside0 (Below w.heap.size w w'))
 case atStart => exact ⟨(y489), (0), S.eA, H', ⟨Nat.le_refl _⟩, ⟨by (with_reducible repeat (first | apply Kd.N_alloc | apply Kd.N_drewN | apply Kd.N_drew)); exact HO491.out⟩, ⟨by (with_reducible repeat (first | apply Kd.N_alloc | apply Kd.N_drewN | apply Kd.N_drew)); exact HO494.out⟩, ⟨S.bA⟩⟩
 case round =>
  clear H'
  obtain ⟨x3_1, x5_1, rfl, HA, HK1, HO_3, HO_4, HB⟩ := hrel
  cases gk with
  | zero => exact absurd HA.out (by simp [spec_PlanFor.l0])
  | succ k1 =>
   have H := HA.out
   clear HA
   simp only [spec_PlanFor.l0] at H
   replace H := S.dc H; rcases H with ⟨H, c6b0⟩ | ⟨H, c6b0⟩
   ·by_cases c7 : 0 ≤ x5_1
    ·rw [if_pos c7] at H
     have c7b0 : decide (0 ≤ x5_1) = true := decide_eq_true c7
     clear c7
     replace H := S.bd H; obtain ⟨t497, A8, H⟩ := H
     (try dsimp only at H)
     by_cases c9 : x3_1.length < 4398046511104
     ·rw [if_pos c9] at H
      have LMc9 := Aside0.mk c9
      clear c9
      obtain ⟨y498, hy498⟩ : ∃ y_ : List (S85), y_ = (x3_1 ++ [(⟨rd_L2 t492 x5_1, t497⟩ : S85)]) := ⟨_, rfl⟩
      replace H : (spec_PlanFor.l0 k1 l0 y498 t492 (wrap64 (x5_1 + 1))) = some r := by first | (rw [hy498]; with_reducible exact H) | (have H2_ := (Option.bind_some _ _).symm.trans H; rw [hy498]; with_reducible exact H2_) | (have H2_ := (Option.bind_some _ _).symm.trans H; with_reducible exact H2_) | with_reducible exact H | (rw [hy498]; exact H) | exact H
      have Ny498 := Aside0.mk hy498
      clear hy498
      have H' := Aside0.mk H
      clear H
      obtain ⟨Ao10, co10, eo10⟩ := Kd.N_slice HO_4.out
      subst eo10
      try go_wp2
      replace HO_3 := Aside0.mk (Kd.N_drew HO_3.out)
      replace HO_4 := Aside0.mk (Kd.N_drew HO_4.out)
      replace HB := Aside0.mk (below_drew1 HB.out)
      have p495 : 0 ≤ (x5_1 : Int) := S.oD
      have q495 : x5_1 < (t492.length : Int) := S.oD
      obtain ⟨ad495, A495_0, c495_0, e495, hx495_0, hl495_0, hi495_0⟩ := at_L2 (Kd.N_reads' HO_4.out).2.2 x5_1 p495 q495
      cases e495
      obtain ⟨ce495, hce495, hMe495, hcc495⟩ := Kd.N_get HO_4.out [] x5_1 p495 (by first | exact q495 | exact S.oD | (have e_ := (Kd.N_reads' HO_4.out).1; omega))
      obtain ⟨ua495_0, uc495_0, rfl, ul495_0, ge495_0⟩ := Kd.FK_slice_open hMe495
      have hv495_0 := hcc495 0 _ rfl
      rw [Nat.add_zero, show ((Kd.slice 3 (Kd.int .i64))).sz = 1 from rfl, Nat.mul_one] at hv495_0
      replace hv495_0 := Option.some.inj (hv495_0.symm.trans hx495_0)
      injection hv495_0 with hva_ hvn_ hvc_
      rw [hva_] at ge495_0
      rw [hvc_] at ul495_0
      have HL495_0 := Aside0.mk (show Kd.V (Kd.int .i64) 3 _ w.heap.size _ _ (rd_L2 t492 x5_1) from Kd.V_mk ul495_0 ge495_0)
      clear hva_ hvn_ hvc_ ge495_0 ul495_0
      clear hcc495 hce495
      have HR495_0 := Aside0.mk hi495_0
      have HC495_0 := Aside0.mk hl495_0
      clear hi495_0 hl495_0
      replace p495 := eq_true p495
      replace q495 := eq_true q495
      have p496 : 0 ≤ (x5_1 : Int) := S.oD
      have q496 : x5_1 < (t492.length : Int) := S.oD
      obtain ⟨ad496, A496_0, c496_0, e496, hx496_0, hl496_0, hi496_0⟩ := at_L2 (Kd.N_reads' HO_4.out).2.2 x5_1 p496 q496
      obtain rfl : ad495 = ad496 := (by injection e496)
      obtain ⟨ce496, hce496, hMe496, hcc496⟩ := Kd.N_get HO_4.out [] x5_1 p496 (by first | exact q496 | exact S.oD | (have e_ := (Kd.N_reads' HO_4.out).1; omega))
      obtain ⟨ua496_0, uc496_0, rfl, ul496_0, ge496_0⟩ := Kd.FK_slice_open hMe496
      have hv496_0 := hcc496 0 _ rfl
      rw [Nat.add_zero, show ((Kd.slice 3 (Kd.int .i64))).sz = 1 from rfl, Nat.mul_one] at hv496_0
      replace hv496_0 := Option.some.inj (hv496_0.symm.trans hx496_0)
      injection hv496_0 with hva_ hvn_ hvc_
      rw [hva_] at ge496_0
      rw [hvc_] at ul496_0
      have HL496_0 := Aside0.mk (show Kd.V (Kd.int .i64) 3 _ w.heap.size _ _ (rd_L2 t492 x5_1) from Kd.V_mk ul496_0 ge496_0)
      clear hva_ hvn_ hvc_ ge496_0 ul496_0
      clear hcc496 hce496
      have HR496_0 := Aside0.mk hi496_0
      have HC496_0 := Aside0.mk hl496_0
      clear hi496_0 hl496_0
      replace p496 := eq_true p496
      replace q496 := eq_true q496
      have ea_ := Option.some.inj (hx495_0.symm.trans hx496_0)
      injection ea_ with ea_ en_ ec_
      subst ea_
      subst ec_
      clear en_
      refine S.st (n := 15) (ds := [12, 13]) #[false, false, false, false, false, false, false, false, false, false, false, false, false, false, false] (fun w_ h_ => have x_ := And.intro (S.q h_ hx495_0) (S.q h_ hx496_0); x_) (fun hHeld => ?_); refine with_tabW spec_PlanFor.tab6 spec_PlanFor.bits6 (fun HT_ HW_ => ?_)
      generalize wr.drew = w11 at HO_3 HO_4 HB HL495_0 HL496_0 HR495_0 HR496_0 hx495_0 hx496_0 hHeld ⊢
      refine S.pS 0 15 ?_
      refine S.pS 1 16 ?_
      refine S.pS 2 17 ?_
      refine S.pS 3 18 ?_
      refine S.pS 5 20 ?_
      refine S.pS 6 21 ?_
      refine S.pS 7 22 ?_
      refine S.pS 8 23 ?_
      refine S.tK 4 19 #[true, true, true, true, true, true, true, true, true, false, false, false, false, false, false] ?_
      refine S.tK 9 24 #[true, true, true, true, true, true, true, true, true, true, false, false, false, false, false] ?_
      refine S.oN 10 25 #[true, true, true, true, true, true, true, true, true, true, true, false, false, false, false] (fun K hK => ?_)
      refine S.go Try.func100 #[.slice A0 l0.length c0, .slice A495_0 (rd_L2 t492 x5_1).length c495_0] ?_
      with_reducible refine (spec_LeastGreen.calls k1 _ _ l0 _ _ (rd_L2 t492 x5_1) t497 _ ?s1 ?s2 ?s3 ?s4 A8.out).mono ?_
      (case s1 => exact S.cA HR0.out)
      (case s2 => exact HC0.out)
      (case s3 => repeat (first | exact (by repeat (first | (with_reducible exact HR496_0.out) | (with_reducible refine Kd.C_alloc ?_ _) | (with_reducible refine Kd.C_drewN ?_ _) | (with_reducible refine Kd.C_drew ?_) | exact HR496_0.out)) | (with_reducible refine Kd.C_alloc ?_ _) | (with_reducible refine Kd.C_drewN ?_ _) | (with_reducible refine Kd.C_drew ?_)))
      (case s4 => exact HC496_0.out)
      rintro e w' ⟨rfl, ⟨nd, rfl⟩⟩
      refine ⟨_, rfl, ?_⟩
      refine hK.out _ _ ⟨hHeld.1, hHeld.2⟩ (fun hHeld => ?_)
      clear hK K
      refine S.nm 25 ?_
      refine S.pS 11 26 ?_
      refine last_ (i := 12) (N := some 27) #[true, true, true, true, true, true, true, true, true, true, true, true, true, false, false] rfl rfl (one_of HT_.out (by kernel_rfl)) (by decide) (fun K hK => ?_)
      refine value_ (w1 := ?_) (v := ?_) (by rfl) rfl ?_ ?_
      rotate_left 2
      ·go_simp
       constructor
       ·rfl
       ·rfl
      refine hK.out _ _ ?_
      clear hK K
      refine S.nm 27 ?_
      refine last_ (i := 13) (N := some 28) #[true, true, true, true, true, true, true, true, true, true, true, true, true, true, false] rfl rfl (one_of HT_.out (by kernel_rfl)) (by decide) (fun K hK => ?_)
      refine Kd.N_append_step k85 (w0 := w) w.heap.size (by rfl) (.tmp 15) (.tmp 27) 29 85 (.agg #[(.slice none 0 0), (.int .i64 0)]) 32 rfl Try.underlying29 info85 rfl (by decide) (by omega) u3 x3_1 (⟨rd_L2 t492 x5_1, t497⟩ : S85) [.slice A495_0 (rd_L2 t492 x5_1).length c495_0, .int .i64 t497] (fun k_ => (w.heap.size ≤ k_) ∧ some k_ ≠ (.slice (some ad495) t492.length co10 : Value).ownBlock) (fun k_ => ((fun k_ => (w.heap.size ≤ k_) ∧ some k_ ≠ (.slice (some ad495) t492.length co10 : Value).ownBlock)) k_ ∧ some k_ ≠ (u3 : Value).ownBlock) rfl rfl ?aP (fun _ hk => hk) ?aF ?aO ?aB ?aS ?aL ?_
      (case aP => exact (k85_mkF _ _ (⟨rd_L2 t492 x5_1, t497⟩ : S85) (Kd.V_reads' (e := 3) (base := w.heap.size) (Kd.V_mono (e := 3) (base := w.heap.size) (ok' := (fun k_ => ((fun k_ => (w.heap.size ≤ k_) ∧ some k_ ≠ (.slice (some ad495) t492.length co10 : Value).ownBlock)) k_ ∧ some k_ ≠ (u3 : Value).ownBlock)) (HL495_0.out) (fun k_ hk => ⟨⟨hk.1.1, hk.2⟩, hk.1.2⟩))).2.1 (Kd.V_F (e := 3) (base := w.heap.size) (Kd.V_mono (e := 3) (base := w.heap.size) (ok' := (fun k_ => ((fun k_ => (w.heap.size ≤ k_) ∧ some k_ ≠ (.slice (some ad495) t492.length co10 : Value).ownBlock)) k_ ∧ some k_ ≠ (u3 : Value).ownBlock)) (HL495_0.out) (fun k_ hk => ⟨⟨hk.1.1, hk.2⟩, hk.1.2⟩)))))
      (case aB => exact S.bA)
      (case aF => exact (fun k_ hk => ⟨(Nat.le_trans (below_size S.bA) hk), Kd.fresh' (Kd.N_lt (by (with_reducible repeat (first | apply Kd.N_alloc | apply Kd.N_drewN | apply Kd.N_drew)); exact HO_4.out)) k_ hk⟩))
      (case aO => exact (by (with_reducible repeat (first | apply Kd.N_alloc | apply Kd.N_drewN | apply Kd.N_drew)); exact HO_3.out))
      (case aS => exact (below_size S.bA))
      (case aL => have := LMc9.out; omega)
      intro v499 w12 ho hb hg hat
      rw [← Ny498.out] at ho
      have n0_ := Aside0.mk (Kd.N_afterv (ok := (fun k_ => (w.heap.size ≤ k_))) (by (with_reducible repeat (first | apply Kd.N_alloc | apply Kd.N_drewN | apply Kd.N_drew)); exact HO_4.out) hg hat)
      have n1_ := Aside0.mk (Kd.V_afterv (ok := (fun k_ => (w.heap.size ≤ k_) ∧ some k_ ≠ (.slice (some ad495) t492.length co10 : Value).ownBlock)) (by (with_reducible repeat (first | apply Kd.V_alloc | apply Kd.V_drewN | apply Kd.V_drew)); exact Kd.V_mono HL495_0.out (fun _ hk => ⟨⟨hk.1.1, hk.2⟩, hk.1.2⟩)) hg hat)
      have n2_ := Aside0.mk (Kd.V_afterv (ok := (fun k_ => (w.heap.size ≤ k_) ∧ some k_ ≠ (.slice (some ad495) t492.length co10 : Value).ownBlock)) (by (with_reducible repeat (first | apply Kd.V_alloc | apply Kd.V_drewN | apply Kd.V_drew)); exact Kd.V_mono HL496_0.out (fun _ hk => ⟨⟨hk.1.1, hk.2⟩, hk.1.2⟩)) hg hat)
      have n3_ := Aside0.mk (hb)
      have n4_ := Aside0.mk (ho)
      clear HO_4
      clear HL495_0
      clear HL496_0
      clear HB
      clear HO_3
      have HO_4 := n0_
      have HL495_0 := n1_
      have HL496_0 := n2_
      have HB := n3_
      have HO500 := n4_
      clear n0_ n1_ n2_ n3_ n4_
      clear ho hb hg hat
      refine hK.out _ _ ?_
      clear hK K
      refine S.nm 28 ?_
      refine S.pS 14 3 ?_
      refine done_ (done_of HT_.out (by kernel_rfl)) ?_
      try go_wp2
      go_roundg k1
      case measure => have := HK1.out; omega
      case rel => exact ⟨(y498), (wrap64 (x5_1 + 1)), S.eA, H', ⟨by have := HK1.out; omega⟩, ⟨by (with_reducible repeat (first | apply Kd.N_alloc | apply Kd.N_drewN | apply Kd.N_drew)); exact HO500.out⟩, ⟨by (with_reducible repeat (first | apply Kd.N_alloc | apply Kd.N_drewN | apply Kd.N_drew)); exact HO_4.out⟩, ⟨S.bA⟩⟩
     ·rw [if_neg c9] at H
      exact absurd H (by simp)
    ·rw [if_neg c7] at H
     exact absurd H (by simp)
   ·replace H := Option.bind_eq_some_iff.mp H
    obtain ⟨t501, A130, H⟩ := H
    replace H : (if t501 = true then (some x3_1) else (some (([] : List (S85))))) = some r := H
    have A13 := Aside0.mk A130
    clear A130
    replace H := S.db H; rcases H with ⟨rfl, H⟩ | ⟨rfl, H⟩
    ·obtain rfl := Option.some.inj H
     obtain ⟨Ao15, co15, eo15⟩ := Kd.N_slice HO_4.out
     subst eo15
     obtain ⟨Ao16, co16, eo16⟩ := Kd.N_slice HO_3.out
     subst eo16
     go_wp2_with (first | ((with_reducible refine gate_callee (f := 65) rfl ?_); refine S.gL (some 31) Try.func65 #[.slice A0 l0.length c0, .slice Ao16 x3_1.length co16] ?_; (with_reducible refine (spec_IsPlan.calls k1 _ _ l0 _ _ x3_1 true _ ?s1 HC0.out ?s3 ?s4 A13.out).mono ?_); (case s1 => exact S.cA HR0.out); (case s3 => repeat (first | exact (Kd.N_reads' HO_3.out).2.2 | (with_reducible refine Kd.C_alloc ?_ _) | (with_reducible refine Kd.C_drewN ?_ _) | (with_reducible refine Kd.C_drew ?_))); (case s4 => exact (Kd.N_reads' HO_3.out).2.1); rintro e w17 ⟨rfl, hb⟩; refine ⟨_, rfl, ?_⟩; replace HO_3 := Aside0.mk (Kd.N_below (by (with_reducible repeat (first | apply Kd.N_alloc | apply Kd.N_drewN | apply Kd.N_drew)); exact HO_3.out) hb); replace HO_4 := Aside0.mk (Kd.N_below (by (with_reducible repeat (first | apply Kd.N_alloc | apply Kd.N_drewN | apply Kd.N_drew)); exact HO_4.out) hb); replace HB := S.sA hb; (try clear hb)))
     go_ret
     exact ⟨_, S.eW, by (with_reducible repeat (first | apply Kd.N_alloc | apply Kd.N_drewN | apply Kd.N_drew)); exact Kd.N_mono HO_3.out (fun _ hk => hk.1), S.bA⟩
    ·obtain ⟨y502, hy502⟩ : ∃ y_ : List (S85), y_ = (([] : List (S85))) := ⟨_, rfl⟩
     replace H : (some y502) = some r := by first | (rw [hy502]; with_reducible exact H) | (have H2_ := (Option.bind_some _ _).symm.trans H; rw [hy502]; with_reducible exact H2_) | (have H2_ := (Option.bind_some _ _).symm.trans H; with_reducible exact H2_) | with_reducible exact H | (rw [hy502]; exact H) | exact H
     have Ny502 := Aside0.mk hy502
     clear hy502
     obtain rfl := Option.some.inj H
     obtain ⟨Ao18, co18, eo18⟩ := Kd.N_slice HO_4.out
     subst eo18
     obtain ⟨Ao19, co19, eo19⟩ := Kd.N_slice HO_3.out
     subst eo19
     go_wp2_with (first | ((with_reducible refine gate_callee (f := 65) rfl ?_); refine S.gL (some 31) Try.func65 #[.slice A0 l0.length c0, .slice Ao19 x3_1.length co19] ?_; (with_reducible refine (spec_IsPlan.calls k1 _ _ l0 _ _ x3_1 false _ ?s1 HC0.out ?s3 ?s4 A13.out).mono ?_); (case s1 => exact S.cA HR0.out); (case s3 => repeat (first | exact (Kd.N_reads' HO_3.out).2.2 | (with_reducible refine Kd.C_alloc ?_ _) | (with_reducible refine Kd.C_drewN ?_ _) | (with_reducible refine Kd.C_drew ?_))); (case s4 => exact (Kd.N_reads' HO_3.out).2.1); rintro e w20 ⟨rfl, hb⟩; refine ⟨_, rfl, ?_⟩; replace HO_3 := Aside0.mk (Kd.N_below (by (with_reducible repeat (first | apply Kd.N_alloc | apply Kd.N_drewN | apply Kd.N_drew)); exact HO_3.out) hb); replace HO_4 := Aside0.mk (Kd.N_below (by (with_reducible repeat (first | apply Kd.N_alloc | apply Kd.N_drewN | apply Kd.N_drew)); exact HO_4.out) hb); replace HB := S.sA hb; (try clear hb)) | ((with_reducible refine gate_dst (N := 33) rfl ?_); refine Kd.N_lit k85 _ 85 ?hg (N' := 33) ?hd (xs := ([] : List (S85))) (inner := []) (ok := (fun k_ => (w.heap.size ≤ k_) ∧ S.N k_ (.slice Ao19 x3_1.length co19) ∧ S.N k_ (.slice Ao18 t492.length co18))) (okp := (fun k_ => (w.heap.size ≤ k_) ∧ S.N k_ (.slice Ao19 x3_1.length co19) ∧ S.N k_ (.slice Ao18 t492.length co18))) ?hr ?hp (fun _ hk => hk) ((show ∀ k_, w20.heap.size ≤ k_ → (fun k_ => (w.heap.size ≤ k_) ∧ S.N k_ (.slice Ao19 x3_1.length co19) ∧ S.N k_ (.slice Ao18 t492.length co18)) k_ from fun k_ hk => ⟨(Nat.le_trans (below_size S.bA) hk), Kd.fresh' (Kd.N_lt (by (with_reducible repeat (first | apply Kd.N_alloc | apply Kd.N_drewN | apply Kd.N_drew)); exact HO_3.out)) k_ hk, Kd.fresh' (Kd.N_lt (by (with_reducible repeat (first | apply Kd.N_alloc | apply Kd.N_drewN | apply Kd.N_drew)); exact HO_4.out)) k_ hk⟩) _ (Nat.le_refl _)) (Below.refl _ _) (Nat.le_refl _) (by simp) ?_; (case hd => rfl); (case hg => rfl); (case hr => first | (go_simp; done) | (go_simp; rfl)); (case hp => exact (Reps.none _ _)); intro v503 w21 ho22 hb hg_ hnew_; clear hg_ hnew_; (first | rw [← Ny502.out] at ho22 | (simp only [Int.reduceToNat] at ho22; rw [← Ny502.out] at ho22)); replace HO_3 := Aside0.mk (Kd.N_elder' (by (with_reducible repeat (first | apply Kd.N_alloc | apply Kd.N_drewN | apply Kd.N_drew)); exact HO_3.out) (Kd.N_base ho22) hb); replace HO_4 := Aside0.mk (Kd.N_elder' (by (with_reducible repeat (first | apply Kd.N_alloc | apply Kd.N_drewN | apply Kd.N_drew)); exact HO_4.out) (Kd.N_base ho22) hb); have HO504 := Aside0.mk (Kd.N_lower ho22 (below_size S.bA)); replace HB := S.sA hb; clear hb ho22))
     go_ret
     exact ⟨_, S.eW, by (with_reducible repeat (first | apply Kd.N_alloc | apply Kd.N_drewN | apply Kd.N_drew)); exact Kd.N_mono HO504.out (fun _ hk => hk.1), S.bA⟩

/-! ### spec_l4Draw: function 151 -/
def spec_l4Draw.f (s0_0 : List Int) (s0_1 : Int) (s0_2 : Int) (a1 : Int) : Option (Int × Int × Int × Int × Int × Int) := (spec_l1Below.f s0_0 s0_1 s0_2 3).bind fun bt506 => ((spec_l1Below.f s0_0 bt506.2.1 bt506.2.2 4).bind fun bt509 => (if (wrap64 (1 + bt506.1)) = 2 then (some (a1, wrap64 (1 + bt506.1), bt509.1, bt509.1, bt509.2.1, bt509.2.2)) else ((spec_l1Below.f s0_0 bt509.2.1 bt509.2.2 3).bind fun bt513 => (some (a1, wrap64 (1 + bt506.1), bt509.1, Int.tmod (wrap64 ((wrap64 (bt509.1 + 1)) + bt513.1)) 4, bt513.2.1, bt513.2.2)))))
def spec_l4Draw.T4 : Bool × List (List Nat × List Nat) := (true, [([], []), ([0], [0]), ([1], [1]), ([], []), ([3], [3]), ([2, 4], [2, 4]), ([5], [5]), ([0, 1, 2, 3, 4, 5, 6], []), ([7, 6, 4, 0, 1, 2, 3, 4, 5, 6], [6, 7])])
def spec_l4Draw.B4 : List Nat := [0, 1, 3, 0, 8, 31, 63, 127, 255]
theorem spec_l4Draw.tab4 : rtab .any (opsOf Try.f151 4) = spec_l4Draw.T4 := by kernel_rfl
theorem spec_l4Draw.bits4 : waitsOk spec_l4Draw.T4.2 spec_l4Draw.B4 = true := by kernel_rfl
set_option maxHeartbeats 8000000 in
set_option maxRecDepth 100000 in
theorem spec_l4Draw.calls (g : Nat) (s0_0 : List Int) (s0_1 : Int) (s0_2 : Int) (a1 : Int) (r1 : Int) (r2 : Int) (r3 : Int) (r4 : Int) (r5 : Int) (r6 : Int) (w0 w : World) (hI : IsS114 w0 w g s0_0 s0_1 s0_2) (hB : Below w0.heap.size w0 w) (h : spec_l4Draw.f s0_0 s0_1 s0_2 a1 = some (r1, r2, r3, r4, r5, r6)) :
  Calls Try.prog 151 #[.pointer (some ⟨g, 0, none⟩), .int .i64 a1] w fun e w' => e = .returned (.agg #[.int .i64 r1, .int .i64 r2, .int .i64 r3, .int .i64 r4]) ∧ IsS114 w0 w' g s0_0 r5 r6 ∧ Below w0.heap.size w0 w' ∧ KeepBut w w' g none := by
 have hu71 := Try.underlying71
 have HI0 := Aside0.mk hI
 have HK := Aside0.mk (KeepBut.refl w g none)
 have HL := Aside0.mk hB.size
 clear hI
 have HW0 := Aside0.mk hB.size
 have HB := Aside0.mk hB
 clear hB
 have H : ((spec_l1Below.f s0_0 s0_1 s0_2 3).bind fun bt506 => ((spec_l1Below.f s0_0 bt506.2.1 bt506.2.2 4).bind fun bt509 => (if (wrap64 (1 + bt506.1)) = 2 then (some (a1, wrap64 (1 + bt506.1), bt509.1, bt509.1, bt509.2.1, bt509.2.2)) else ((spec_l1Below.f s0_0 bt509.2.1 bt509.2.2 3).bind fun bt513 => (some (a1, wrap64 (1 + bt506.1), bt509.1, Int.tmod (wrap64 ((wrap64 (bt509.1 + 1)) + bt513.1)) 4, bt513.2.1, bt513.2.2)))))) = some (r1, r2, r3, r4, r5, r6) := h
 clear h
 replace H := S.bd H; obtain ⟨⟨t506, t507, t508⟩, A3, H⟩ := H
 (try dsimp only at H)
 replace H := S.bd H; obtain ⟨⟨t509, t510, t511⟩, A4, H⟩ := H
 (try dsimp only at H)
 by_cases c5 : (wrap64 (1 + t506)) = 2
 ·rw [if_pos c5] at H
  have c5b0 : ((wrap64 (1 + t506)) == 2) = true := beq_iff_eq.mpr c5
  have c5b1 : ((wrap64 (1 + t506)) != 2) = false := bne_eq_false_iff_eq.mpr c5
  clear c5
  simp only [Option.some.injEq, Prod.mk.injEq] at H
  obtain ⟨rfl, rfl, rfl, rfl, rfl, rfl⟩ := H
  go_enter Try.func151, Try.ntmps151
  go_wp2_with (first | ((with_reducible refine gate_dst (N := 4) rfl ?_); refine S.bx 4 (cs := #[.int .i64 0, .int .i64 0, .int .i64 0, .int .i64 0]) (t := 71) ?_; intro gb505 hg w6 hbox hb; replace HB := Aside0.mk (below_step (S.bI) hb); have BK505 := Aside0.mk hbox; have GW505 := Aside0.mk ((by rw [hg]; exact (keep_size (w := w) (g := g) (row := none) S.kA) : w.heap.size ≤ gb505)); have GE505 := Aside0.mk ((Nat.le_trans HW0.out (by rw [hg]; exact (keep_size (w := w) (g := g) (row := none) S.kA) : w.heap.size ≤ gb505) : w0.heap.size ≤ gb505)); replace HK := Aside0.mk (KeepBut.trans S.kA (KeepBut.of_below hb g none) (.inl rfl)); have NB0_505 := Aside0.mk ((by rw [hg]; exact Nat.ne_of_lt (IsS114.lt (show IsS114 w0 _ g s0_0 s0_1 s0_2 from S.iI)) : g ≠ gb505)); have NB505_0 := Aside0.mk ((by rw [hg]; exact Nat.ne_of_gt (IsS114.lt (show IsS114 w0 _ g s0_0 s0_1 s0_2 from S.iI)) : gb505 ≠ g)); replace HI0 := Aside0.mk (IsS114.below (S.iI) hb); clear hb hbox hg) | ((with_reducible refine gate_callee (f := 90) rfl ?_); refine S.gL (some 8) Try.func90 #[.pointer (some ⟨g, 0, none⟩), .int .i64 3] ?_; (with_reducible refine (spec_l1Below.calls g s0_0 s0_1 s0_2 3 t506 t507 t508 w0 _ ?s1 ?s2 A3.out).mono ?_); (case s1 => exact S.iI); (case s2 => exact S.bI); rintro e w7 ⟨rfl, hi, hb, hk⟩; refine ⟨_, rfl, ?_⟩; replace BK505 := Aside0.mk (KeepBut.blk hk (g' := gb505) (o := .cells #[.int .i64 0, .int .i64 0, .int .i64 0, .int .i64 0] 71 (0, 0)) (S.uB BK505.out) NB505_0.out (by simp)); replace HK := Aside0.mk (KeepBut.trans (by repeat (first | (with_reducible first | exact HK.out | apply KeepBut.set_ | apply keep_drewN | apply keep_drew | apply keep_alloc | refine keep_far ?_ GW505.out _) | exact HK.out)) hk (.inl rfl)); replace HB := Aside0.mk (hb); replace HI0 := Aside0.mk (hi); (try clear hb); (try clear hk); (try clear hi)) | ((with_reducible refine gate_callee (f := 90) rfl ?_); refine S.gL (some 11) Try.func90 #[.pointer (some ⟨g, 0, none⟩), .int .i64 4] ?_; (with_reducible refine (spec_l1Below.calls g s0_0 t507 t508 4 t509 t510 t511 w0 _ ?s1 ?s2 A4.out).mono ?_); (case s1 => exact S.iI); (case s2 => exact S.bI); rintro e w8 ⟨rfl, hi, hb, hk⟩; refine ⟨_, rfl, ?_⟩; replace BK505 := Aside0.mk (KeepBut.blk hk (g' := gb505) (o := .cells #[.int .i64 0, .int .i64 0, .int .i64 0, .int .i64 0] 71 (0, 0)) (S.uB BK505.out) NB505_0.out (by simp)); replace HK := Aside0.mk (KeepBut.trans (by repeat (first | (with_reducible first | exact HK.out | apply KeepBut.set_ | apply keep_drewN | apply keep_drew | apply keep_alloc | refine keep_far ?_ GW505.out _) | exact HK.out)) hk (.inl rfl)); replace HB := Aside0.mk (hb); replace HI0 := Aside0.mk (hi); (try clear hb); (try clear hk); (try clear hi)) | ((with_reducible refine gate_dst (N := 5) rfl ?_); refine S.bx 5 (cs := #[.int .i64 0, .int .i64 0, .int .i64 0, .int .i64 0]) (t := 71) ?_; intro gb512 hg w9 hbox hb; replace HB := Aside0.mk (below_step (S.bI) hb); have BK512 := Aside0.mk hbox; have GW512 := Aside0.mk ((by rw [hg]; exact (keep_size (w := w) (g := g) (row := none) (by repeat (first | (with_reducible first | exact HK.out | apply KeepBut.set_ | apply keep_drewN | apply keep_drew | apply keep_alloc | refine keep_far ?_ GW505.out _) | exact HK.out))) : w.heap.size ≤ gb512)); have GE512 := Aside0.mk ((Nat.le_trans HW0.out (by rw [hg]; exact (keep_size (w := w) (g := g) (row := none) (by repeat (first | (with_reducible first | exact HK.out | apply KeepBut.set_ | apply keep_drewN | apply keep_drew | apply keep_alloc | refine keep_far ?_ GW505.out _) | exact HK.out))) : w.heap.size ≤ gb512) : w0.heap.size ≤ gb512)); replace HK := Aside0.mk (KeepBut.trans (by repeat (first | (with_reducible first | exact HK.out | apply KeepBut.set_ | apply keep_drewN | apply keep_drew | apply keep_alloc | refine keep_far ?_ GW505.out _) | exact HK.out)) (KeepBut.of_below hb g none) (.inl rfl)); have NB505_512 := S.nl hg BK505; have NB512_505 := S.ng hg BK505; replace BK505 := S.kb BK505 hb; have NB0_512 := Aside0.mk ((by rw [hg]; exact Nat.ne_of_lt (IsS114.lt (show IsS114 w0 _ g s0_0 t510 t511 from S.iI)) : g ≠ gb512)); have NB512_0 := Aside0.mk ((by rw [hg]; exact Nat.ne_of_gt (IsS114.lt (show IsS114 w0 _ g s0_0 t510 t511 from S.iI)) : gb512 ≠ g)); replace HI0 := Aside0.mk (IsS114.below (S.iI) hb); clear hb hbox hg; have hnb10 := NB512_505.out; have hnc10 := NB505_512.out; have hnb11 := NB512_0.out; have hnc11 := NB0_512.out; obtain ⟨Z12a, Z12b, Z12c, Z12d, Y12a, Y12b, Y12c, Y12d⟩ := S.c4 BK512.out; have hnb13 := NB505_0.out; have hnc13 := NB0_505.out; obtain ⟨Z14a, Z14b, Z14c, Z14d, Y14a, Y14b, Y14c, Y14d⟩ := S.c4 BK505.out) | ((with_reducible refine gate_dst (N := 27) rfl ?_); refine wpList_load_row rfl 71 (.tmp 5) rfl gb512 rfl 71 #[.int .i64 a1, .int .i64 (wrap64 (1 + t506)), .int .i64 t509, .int .i64 t509] (0, 0) _ (by (with_reducible repeat (first | refine blk_drewN ?_ _ | refine blk_drew ?_ | refine blk_alloc ?_ _)); refine blk_put (cs := #[.int .i64 a1, .int .i64 (wrap64 (1 + t506)), .int .i64 t509, .int .i64 0]) ?_ 3 _ rfl; (with_reducible repeat (first | refine blk_drewN ?_ _ | refine blk_drew ?_ | refine blk_alloc ?_ _)); refine blk_put (cs := #[.int .i64 a1, .int .i64 (wrap64 (1 + t506)), .int .i64 t509, .int .i64 0]) ?_ 3 _ rfl; (with_reducible repeat (first | refine blk_drewN ?_ _ | refine blk_drew ?_ | refine blk_alloc ?_ _)); refine blk_put (cs := #[.int .i64 a1, .int .i64 (wrap64 (1 + t506)), .int .i64 0, .int .i64 0]) ?_ 2 _ rfl; (with_reducible repeat (first | refine blk_drewN ?_ _ | refine blk_drew ?_ | refine blk_alloc ?_ _)); refine blk_put (cs := #[.int .i64 a1, .int .i64 0, .int .i64 0, .int .i64 0]) ?_ 1 _ rfl; (with_reducible repeat (first | refine blk_drewN ?_ _ | refine blk_drew ?_ | refine blk_alloc ?_ _)); refine blk_put (cs := #[.int .i64 0, .int .i64 0, .int .i64 0, .int .i64 0]) ?_ 0 _ rfl; (with_reducible repeat (first | refine blk_drewN ?_ _ | refine blk_drew ?_ | refine blk_alloc ?_ _)); exact BK512.out) Try.underlying71 rfl (by kernel_rfl) ?_))
  refine bodyPost_ret (results_cell_row rfl _ _ gb505 71 #[.int .i64 a1, .int .i64 (wrap64 (1 + t506)), .int .i64 t509, .int .i64 t509] (0, 0) _ rfl (by (with_reducible repeat (first | refine blk_drewN ?_ _ | refine blk_drew ?_ | refine blk_alloc ?_ _)); refine blk_put (cs := #[.int .i64 a1, .int .i64 (wrap64 (1 + t506)), .int .i64 t509, .int .i64 0]) ?_ 3 _ rfl; (with_reducible repeat (first | refine blk_drewN ?_ _ | refine blk_drew ?_ | refine blk_alloc ?_ _)); refine blk_put (cs := #[.int .i64 a1, .int .i64 (wrap64 (1 + t506)), .int .i64 0, .int .i64 0]) ?_ 2 _ rfl; (with_reducible repeat (first | refine blk_drewN ?_ _ | refine blk_drew ?_ | refine blk_alloc ?_ _)); refine blk_put (cs := #[.int .i64 a1, .int .i64 0, .int .i64 0, .int .i64 0]) ?_ 1 _ rfl; (with_reducible repeat (first | refine blk_drewN ?_ _ | refine blk_drew ?_ | refine blk_alloc ?_ _)); refine blk_put (cs := #[.int .i64 0, .int .i64 0, .int .i64 0, .int .i64 0]) ?_ 0 _ rfl; (with_reducible repeat (first | refine blk_drewN ?_ _ | refine blk_drew ?_ | refine blk_alloc ?_ _)); refine blk_far ?_ NB505_512.out _; (with_reducible repeat (first | refine blk_drewN ?_ _ | refine blk_drew ?_ | refine blk_alloc ?_ _)); refine blk_far ?_ NB505_512.out _; (with_reducible repeat (first | refine blk_drewN ?_ _ | refine blk_drew ?_ | refine blk_alloc ?_ _)); refine blk_far ?_ NB505_512.out _; (with_reducible repeat (first | refine blk_drewN ?_ _ | refine blk_drew ?_ | refine blk_alloc ?_ _)); refine blk_far ?_ NB505_512.out _; (with_reducible repeat (first | refine blk_drewN ?_ _ | refine blk_drew ?_ | refine blk_alloc ?_ _)); refine blk_far ?_ NB505_512.out _; (with_reducible repeat (first | refine blk_drewN ?_ _ | refine blk_drew ?_ | refine blk_alloc ?_ _)); exact BK505.out) Try.underlying71 rfl (by kernel_rfl)) rfl ?_
  exact ⟨S.eW, S.iI, S.bI, by repeat (first | (with_reducible first | exact HK.out | apply KeepBut.set_ | apply keep_drewN | apply keep_drew | apply keep_alloc | refine keep_far ?_ GW505.out _ | refine keep_far ?_ GW512.out _) | exact HK.out)⟩
 ·rw [if_neg c5] at H
  have c5b0 : ((wrap64 (1 + t506)) == 2) = false := beq_eq_false_iff_ne.mpr c5
  have c5b1 : ((wrap64 (1 + t506)) != 2) = true := bne_iff_ne.mpr c5
  replace H := S.bd H; obtain ⟨⟨t513, t514, t515⟩, A15, H⟩ := H
  (try dsimp only at H)
  simp only [Option.some.injEq, Prod.mk.injEq] at H
  obtain ⟨rfl, rfl, rfl, rfl, rfl, rfl⟩ := H
  go_enter Try.func151, Try.ntmps151
  try go_wp2_with (first | ((with_reducible refine gate_dst (N := 4) rfl ?_); refine S.bx 4 (cs := #[.int .i64 0, .int .i64 0, .int .i64 0, .int .i64 0]) (t := 71) ?_; intro gb505 hg w16 hbox hb; replace HB := Aside0.mk (below_step (S.bI) hb); have BK505 := Aside0.mk hbox; have GW505 := Aside0.mk ((by rw [hg]; exact (keep_size (w := w) (g := g) (row := none) S.kA) : w.heap.size ≤ gb505)); have GE505 := Aside0.mk ((Nat.le_trans HW0.out (by rw [hg]; exact (keep_size (w := w) (g := g) (row := none) S.kA) : w.heap.size ≤ gb505) : w0.heap.size ≤ gb505)); replace HK := Aside0.mk (KeepBut.trans S.kA (KeepBut.of_below hb g none) (.inl rfl)); have NB0_505 := Aside0.mk ((by rw [hg]; exact Nat.ne_of_lt (IsS114.lt (show IsS114 w0 _ g s0_0 s0_1 s0_2 from S.iI)) : g ≠ gb505)); have NB505_0 := Aside0.mk ((by rw [hg]; exact Nat.ne_of_gt (IsS114.lt (show IsS114 w0 _ g s0_0 s0_1 s0_2 from S.iI)) : gb505 ≠ g)); replace HI0 := Aside0.mk (IsS114.below (S.iI) hb); clear hb hbox hg) | ((with_reducible refine gate_callee (f := 90) rfl ?_); refine S.gL (some 8) Try.func90 #[.pointer (some ⟨g, 0, none⟩), .int .i64 3] ?_; (with_reducible refine (spec_l1Below.calls g s0_0 s0_1 s0_2 3 t506 t507 t508 w0 _ ?s1 ?s2 A3.out).mono ?_); (case s1 => exact S.iI); (case s2 => exact S.bI); rintro e w17 ⟨rfl, hi, hb, hk⟩; refine ⟨_, rfl, ?_⟩; replace BK505 := Aside0.mk (KeepBut.blk hk (g' := gb505) (o := .cells #[.int .i64 0, .int .i64 0, .int .i64 0, .int .i64 0] 71 (0, 0)) (S.uB BK505.out) NB505_0.out (by simp)); replace HK := Aside0.mk (KeepBut.trans (by repeat (first | (with_reducible first | exact HK.out | apply KeepBut.set_ | apply keep_drewN | apply keep_drew | apply keep_alloc | refine keep_far ?_ GW505.out _) | exact HK.out)) hk (.inl rfl)); replace HB := Aside0.mk (hb); replace HI0 := Aside0.mk (hi); (try clear hb); (try clear hk); (try clear hi)) | ((with_reducible refine gate_callee (f := 90) rfl ?_); refine S.gL (some 11) Try.func90 #[.pointer (some ⟨g, 0, none⟩), .int .i64 4] ?_; (with_reducible refine (spec_l1Below.calls g s0_0 t507 t508 4 t509 t510 t511 w0 _ ?s1 ?s2 A4.out).mono ?_); (case s1 => exact S.iI); (case s2 => exact S.bI); rintro e w18 ⟨rfl, hi, hb, hk⟩; refine ⟨_, rfl, ?_⟩; replace BK505 := Aside0.mk (KeepBut.blk hk (g' := gb505) (o := .cells #[.int .i64 0, .int .i64 0, .int .i64 0, .int .i64 0] 71 (0, 0)) (S.uB BK505.out) NB505_0.out (by simp)); replace HK := Aside0.mk (KeepBut.trans (by repeat (first | (with_reducible first | exact HK.out | apply KeepBut.set_ | apply keep_drewN | apply keep_drew | apply keep_alloc | refine keep_far ?_ GW505.out _) | exact HK.out)) hk (.inl rfl)); replace HB := Aside0.mk (hb); replace HI0 := Aside0.mk (hi); (try clear hb); (try clear hk); (try clear hi)) | ((with_reducible refine gate_dst (N := 5) rfl ?_); refine S.bx 5 (cs := #[.int .i64 0, .int .i64 0, .int .i64 0, .int .i64 0]) (t := 71) ?_; intro gb512 hg w19 hbox hb; replace HB := Aside0.mk (below_step (S.bI) hb); have BK512 := Aside0.mk hbox; have GW512 := Aside0.mk ((by rw [hg]; exact (keep_size (w := w) (g := g) (row := none) (by repeat (first | (with_reducible first | exact HK.out | apply KeepBut.set_ | apply keep_drewN | apply keep_drew | apply keep_alloc | refine keep_far ?_ GW505.out _) | exact HK.out))) : w.heap.size ≤ gb512)); have GE512 := Aside0.mk ((Nat.le_trans HW0.out (by rw [hg]; exact (keep_size (w := w) (g := g) (row := none) (by repeat (first | (with_reducible first | exact HK.out | apply KeepBut.set_ | apply keep_drewN | apply keep_drew | apply keep_alloc | refine keep_far ?_ GW505.out _) | exact HK.out))) : w.heap.size ≤ gb512) : w0.heap.size ≤ gb512)); replace HK := Aside0.mk (KeepBut.trans (by repeat (first | (with_reducible first | exact HK.out | apply KeepBut.set_ | apply keep_drewN | apply keep_drew | apply keep_alloc | refine keep_far ?_ GW505.out _) | exact HK.out)) (KeepBut.of_below hb g none) (.inl rfl)); have NB505_512 := S.nl hg BK505; have NB512_505 := S.ng hg BK505; replace BK505 := S.kb BK505 hb; have NB0_512 := Aside0.mk ((by rw [hg]; exact Nat.ne_of_lt (IsS114.lt (show IsS114 w0 _ g s0_0 t510 t511 from S.iI)) : g ≠ gb512)); have NB512_0 := Aside0.mk ((by rw [hg]; exact Nat.ne_of_gt (IsS114.lt (show IsS114 w0 _ g s0_0 t510 t511 from S.iI)) : gb512 ≠ g)); replace HI0 := Aside0.mk (IsS114.below (S.iI) hb); clear hb hbox hg; have hnb20 := NB512_505.out; have hnc20 := NB505_512.out; have hnb21 := NB512_0.out; have hnc21 := NB0_512.out; obtain ⟨Z22a, Z22b, Z22c, Z22d, Y22a, Y22b, Y22c, Y22d⟩ := S.c4 BK512.out))
  have n0_ : Aside0 ((((((w19.setCell ⟨gb512, 0, none⟩ (.int .i64 a1)).setCell ⟨gb512, 1, none⟩ (.int .i64 (wrap64 (1 + t506)))).setCell ⟨gb512, 2, none⟩ (.int .i64 t509)).setCell ⟨gb512, 3, none⟩ (.int .i64 0)).setCell ⟨gb512, 3, none⟩ (.int .i64 t509)).heap[gb505]? = some (.cells #[.int .i64 0, .int .i64 0, .int .i64 0, .int .i64 0] 71 (0, 0))) := ⟨S.uf BK505 NB505_512⟩
  have n1_ : Aside0 ((((((w19.setCell ⟨gb512, 0, none⟩ (.int .i64 a1)).setCell ⟨gb512, 1, none⟩ (.int .i64 (wrap64 (1 + t506)))).setCell ⟨gb512, 2, none⟩ (.int .i64 t509)).setCell ⟨gb512, 3, none⟩ (.int .i64 0)).setCell ⟨gb512, 3, none⟩ (.int .i64 t509)).heap[gb512]? = some (.cells #[.int .i64 a1, .int .i64 (wrap64 (1 + t506)), .int .i64 t509, .int .i64 t509] 71 (0, 0))) := ⟨by (with_reducible repeat (first | refine blk_drewN ?_ _ | refine blk_drew ?_ | refine blk_alloc ?_ _)); refine blk_put (cs := #[.int .i64 a1, .int .i64 (wrap64 (1 + t506)), .int .i64 t509, .int .i64 0]) ?_ 3 _ rfl; (with_reducible repeat (first | refine blk_drewN ?_ _ | refine blk_drew ?_ | refine blk_alloc ?_ _)); refine blk_put (cs := #[.int .i64 a1, .int .i64 (wrap64 (1 + t506)), .int .i64 t509, .int .i64 0]) ?_ 3 _ rfl; (with_reducible repeat (first | refine blk_drewN ?_ _ | refine blk_drew ?_ | refine blk_alloc ?_ _)); refine blk_put (cs := #[.int .i64 a1, .int .i64 (wrap64 (1 + t506)), .int .i64 0, .int .i64 0]) ?_ 2 _ rfl; (with_reducible repeat (first | refine blk_drewN ?_ _ | refine blk_drew ?_ | refine blk_alloc ?_ _)); refine blk_put (cs := #[.int .i64 a1, .int .i64 0, .int .i64 0, .int .i64 0]) ?_ 1 _ rfl; (with_reducible repeat (first | refine blk_drewN ?_ _ | refine blk_drew ?_ | refine blk_alloc ?_ _)); refine blk_put (cs := #[.int .i64 0, .int .i64 0, .int .i64 0, .int .i64 0]) ?_ 0 _ rfl; (with_reducible repeat (first | refine blk_drewN ?_ _ | refine blk_drew ?_ | refine blk_alloc ?_ _)); exact BK512.out⟩
  have n2_ : Aside0 (IsS114 w0 (((((w19.setCell ⟨gb512, 0, none⟩ (.int .i64 a1)).setCell ⟨gb512, 1, none⟩ (.int .i64 (wrap64 (1 + t506)))).setCell ⟨gb512, 2, none⟩ (.int .i64 t509)).setCell ⟨gb512, 3, none⟩ (.int .i64 0)).setCell ⟨gb512, 3, none⟩ (.int .i64 t509)) g s0_0 t510 t511) := ⟨S.iI⟩
  have n3_ : Aside0 (KeepBut w (((((w19.setCell ⟨gb512, 0, none⟩ (.int .i64 a1)).setCell ⟨gb512, 1, none⟩ (.int .i64 (wrap64 (1 + t506)))).setCell ⟨gb512, 2, none⟩ (.int .i64 t509)).setCell ⟨gb512, 3, none⟩ (.int .i64 0)).setCell ⟨gb512, 3, none⟩ (.int .i64 t509)) g none) := ⟨by repeat (first | (with_reducible first | exact HK.out | apply KeepBut.set_ | apply keep_drewN | apply keep_drew | apply keep_alloc | refine keep_far ?_ GW505.out _ | refine keep_far ?_ GW512.out _) | exact HK.out)⟩
  have n4_ : Aside0 (Below w0.heap.size w0 (((((w19.setCell ⟨gb512, 0, none⟩ (.int .i64 a1)).setCell ⟨gb512, 1, none⟩ (.int .i64 (wrap64 (1 + t506)))).setCell ⟨gb512, 2, none⟩ (.int .i64 t509)).setCell ⟨gb512, 3, none⟩ (.int .i64 0)).setCell ⟨gb512, 3, none⟩ (.int .i64 t509))) := ⟨S.bI⟩
  (try clear BK505)
  (try clear BK512)
  (try clear HI0)
  (try clear HK)
  (try clear HB)
  generalize (((((w19.setCell ⟨gb512, 0, none⟩ (.int .i64 a1)).setCell ⟨gb512, 1, none⟩ (.int .i64 (wrap64 (1 + t506)))).setCell ⟨gb512, 2, none⟩ (.int .i64 t509)).setCell ⟨gb512, 3, none⟩ (.int .i64 0)).setCell ⟨gb512, 3, none⟩ (.int .i64 t509)) = w23 at n0_ n1_ n2_ n3_ n4_ ⊢
  have BK505 := n0_
  have BK512 := n1_
  have HI0 := n2_
  have HK := n3_
  have HB := n4_
  clear n0_ n1_ n2_ n3_ n4_
  replace BK505 := Aside0.mk (blk_drew BK505.out)
  replace BK512 := Aside0.mk (blk_drew BK512.out)
  replace HI0 := Aside0.mk (IsS114.drew HI0.out)
  replace HK := Aside0.mk (keep_drew HK.out)
  replace HB := Aside0.mk (below_drew1 HB.out)
  refine S.st (n := 9) (ds := [8]) #[false, false, false, false, false, false, false, false, false] (fun w_ h_ => have x_ := S.e4 (S.Q h_ BK512.out); x_) (fun hHeld => ?_); refine with_tabW spec_l4Draw.tab4 spec_l4Draw.bits4 (fun HT_ HW_ => ?_)
  generalize w23.drew = w24 at BK505 BK512 HI0 HK HB hHeld ⊢
  refine S.pS 0 19 ?_
  refine S.pS 3 22 ?_
  refine S.tK 1 20 #[true, true, false, true, false, false, false, false, false] ?_
  refine S.pS 2 21 ?_
  refine S.oN 4 23 #[true, true, true, true, true, false, false, false, false] (fun K hK => ?_)
  refine S.go Try.func90 #[.pointer (some ⟨g, 0, none⟩), .int .i64 3] ?_
  with_reducible refine (spec_l1Below.calls g s0_0 t510 t511 3 t513 t514 t515 w0 _ ?s1 ?s2 A15.out).mono ?_
  (case s1 => exact S.iI)
  (case s2 => exact S.bI)
  rintro e w25 ⟨rfl, hi, hb, hk⟩
  refine ⟨_, rfl, ?_⟩
  replace BK505 := Aside0.mk (KeepBut.blk hk (g' := gb505) (o := .cells #[.int .i64 0, .int .i64 0, .int .i64 0, .int .i64 0] 71 (0, 0)) (S.uB BK505.out) NB505_0.out (by simp))
  replace BK512 := Aside0.mk (KeepBut.blk hk (g' := gb512) (o := .cells #[.int .i64 a1, .int .i64 (wrap64 (1 + t506)), .int .i64 t509, .int .i64 t509] 71 (0, 0)) (S.uB BK512.out) NB512_0.out (by simp))
  replace HK := Aside0.mk (KeepBut.trans (by repeat (first | (with_reducible first | exact HK.out | apply KeepBut.set_ | apply keep_drewN | apply keep_drew | apply keep_alloc | refine keep_far ?_ GW505.out _ | refine keep_far ?_ GW512.out _) | exact HK.out)) hk (.inl rfl))
  replace HB := Aside0.mk (hb)
  replace HI0 := Aside0.mk (hi)
  (try clear hb)
  (try clear hb2)
  (try clear hk)
  (try clear hi)
  refine hK.out _ _ (S.e4 BK512.out) (fun hHeld => ?_)
  clear hK K
  refine S.nm 23 ?_
  refine S.pS 5 24 ?_
  refine S.pS 6 25 ?_
  refine S.pS 7 26 ?_
  refine last_ (i := 8) (N := none) #[true, true, true, true, true, true, true, true, true] rfl rfl (one_of HT_.out (by kernel_rfl)) (by decide) (fun K hK => ?_)
  have hs26 : w25.cell? ⟨gb512, 3, none⟩ = some (.int .i64 t509) := (blk_cell BK512.out 3).trans rfl
  have hfs26 := blk_frozen BK512.out 3
  have hns26_0 := NB505_512.out
  have hms26_0 := NB512_505.out
  refine skip_ (w1 := ?_) (by rfl) rfl ?_ ?_
  rotate_left
  ·go_simp
   rfl
  refine hK.out _ _ ?_
  clear hK K
  refine done_ (done_of HT_.out (by kernel_rfl)) ?_
  obtain ⟨Z27a, Z27b, Z27c, Z27d, Y27a, Y27b, Y27c, Y27d⟩ := S.c4 BK512.out
  have hnb28 := NB505_0.out
  have hnc28 := NB0_505.out
  obtain ⟨Z29a, Z29b, Z29c, Z29d, Y29a, Y29b, Y29c, Y29d⟩ := S.c4 BK505.out
  try go_wp2
  refine bodyPost_ret (results_cell_row rfl _ _ gb505 71 #[.int .i64 a1, .int .i64 (wrap64 (1 + t506)), .int .i64 t509, .int .i64 (Int.tmod (wrap64 ((wrap64 (t509 + 1)) + t513)) 4)] (0, 0) _ rfl (by (with_reducible repeat (first | refine blk_drewN ?_ _ | refine blk_drew ?_ | refine blk_alloc ?_ _)); refine blk_put (cs := #[.int .i64 a1, .int .i64 (wrap64 (1 + t506)), .int .i64 t509, .int .i64 0]) ?_ 3 _ rfl; (with_reducible repeat (first | refine blk_drewN ?_ _ | refine blk_drew ?_ | refine blk_alloc ?_ _)); refine blk_put (cs := #[.int .i64 a1, .int .i64 (wrap64 (1 + t506)), .int .i64 0, .int .i64 0]) ?_ 2 _ rfl; (with_reducible repeat (first | refine blk_drewN ?_ _ | refine blk_drew ?_ | refine blk_alloc ?_ _)); refine blk_put (cs := #[.int .i64 a1, .int .i64 0, .int .i64 0, .int .i64 0]) ?_ 1 _ rfl; (with_reducible repeat (first | refine blk_drewN ?_ _ | refine blk_drew ?_ | refine blk_alloc ?_ _)); refine blk_put (cs := #[.int .i64 0, .int .i64 0, .int .i64 0, .int .i64 0]) ?_ 0 _ rfl; (with_reducible repeat (first | refine blk_drewN ?_ _ | refine blk_drew ?_ | refine blk_alloc ?_ _)); refine blk_far ?_ NB505_512.out _; (with_reducible repeat (first | refine blk_drewN ?_ _ | refine blk_drew ?_ | refine blk_alloc ?_ _)); exact BK505.out) Try.underlying71 rfl (by kernel_rfl)) rfl ?_
  exact ⟨S.eW, S.iI, S.bI, by repeat (first | (with_reducible first | exact HK.out | apply KeepBut.set_ | apply keep_drewN | apply keep_drew | apply keep_alloc | refine keep_far ?_ GW505.out _ | refine keep_far ?_ GW512.out _) | exact HK.out)⟩

/-! ### spec_l5Draw: function 147 -/
def spec_l5Draw.l0 : Nat → List (S71) → Int → List Int → Int → Int → Option ((List (S71)) × Int × Int)
 | 0, _, _, _, _, _ => none
 | k + 1, x3, x4, x1000, x1001, x1002 => (spec_l1Below.f x1000 x1001 x1002 6).bind fun bt519 => (if x4 ≤ (wrap64 (2 + bt519.1)) then ((spec_l4Draw.f x1000 bt519.2.1 bt519.2.2 x4).bind fun bt522 => (if x3.length < 4398046511104 then (spec_l5Draw.l0 k (x3 ++ [(⟨bt522.1, bt522.2.1, bt522.2.2.1, bt522.2.2.2.1⟩ : S71)]) (wrap64 (x4 + 1)) x1000 bt522.2.2.2.2.1 bt522.2.2.2.2.2) else (none))) else (some (x3, bt519.2.1, bt519.2.2)))
def spec_l5Draw.f (k : Nat) (s0_0 : List Int) (s0_1 : Int) (s0_2 : Int) : Option ((List (S71)) × Int × Int) := spec_l5Draw.l0 k (([] : List (S71))) 1 s0_0 s0_1 s0_2
set_option maxHeartbeats 8000000 in
set_option maxRecDepth 100000 in
theorem spec_l5Draw.calls (k : Nat) (g : Nat) (s0_0 : List Int) (s0_1 : Int) (s0_2 : Int) (r1 : List (S71)) (r2 : Int) (r3 : Int) (w0 w : World) (hI : IsS114 w0 w g s0_0 s0_1 s0_2) (hB : Below w0.heap.size w0 w) (h : spec_l5Draw.f k s0_0 s0_1 s0_2 = some (r1, r2, r3)) :
  Calls Try.prog 147 #[.pointer (some ⟨g, 0, none⟩)] w fun e w' => ∃ v0_ : Value, e = .returned (v0_) ∧ Kd.R k71 71 w' w.heap.size (fun _ => True) v0_ r1 ∧ IsS114 w0 w' g s0_0 r2 r3 ∧ Below w0.heap.size w0 w' ∧ KeepBut w w' g none := by
 have HI0 := Aside0.mk hI
 have HK := Aside0.mk (KeepBut.refl w g none)
 have HL := Aside0.mk hB.size
 clear hI
 have HW0 := Aside0.mk hB.size
 have HB := Aside0.mk hB
 clear hB
 have H : (spec_l5Draw.l0 k (([] : List (S71))) 1 s0_0 s0_1 s0_2) = some (r1, r2, r3) := h
 clear h
 obtain ⟨y516, hy516⟩ : ∃ y_ : List (S71), y_ = (([] : List (S71))) := ⟨_, rfl⟩
 replace H : (spec_l5Draw.l0 k y516 1 s0_0 s0_1 s0_2) = some (r1, r2, r3) := by first | (rw [hy516]; with_reducible exact H) | (have H2_ := (Option.bind_some _ _).symm.trans H; rw [hy516]; with_reducible exact H2_) | (have H2_ := (Option.bind_some _ _).symm.trans H; with_reducible exact H2_) | with_reducible exact H | (rw [hy516]; exact H) | exact H
 have Ny516 := Aside0.mk hy516
 clear hy516
 have H' := Aside0.mk H
 clear H
 go_enter Try.func147, Try.ntmps147
 go_wp2_with (first | ((with_reducible refine gate_dst (N := 5) rfl ?_); refine Kd.R_lit k71 _ 71 ?hg (N := 5) ?hd (xs := ([] : List (S71))) (inner := []) (ok := fun _ => True) (okp := fun _ => True) ?hr ?hp (fun _ hk => hk) trivial (Below.refl _ _) (Nat.le_refl _) (by simp) ?_; (case hd => rfl); (case hg => rfl); (case hr => first | (go_simp; done) | (go_simp; rfl)); (case hp => exact (Reps.none _ _)); intro v517 w2 ho3 hb hg_ hnew_; clear hg_ hnew_; (first | rw [← Ny516.out] at ho3 | (simp only [Int.reduceToNat] at ho3; rw [← Ny516.out] at ho3)); have HO518 := Aside0.mk (Kd.R_lower ho3 (keep_size (w := w) (g := g) (row := none) S.kA)); replace HK := Aside0.mk (KeepBut.trans S.kA (KeepBut.of_below hb g none) (.inl rfl)); replace HB := Aside0.mk (below_step (S.bI) hb); replace HI0 := Aside0.mk (IsS114.below (S.iI) hb); clear hb ho3))
 go_loopg [3, 4] k (fun kq v3 v4 w' => ∃ (x3_1 : List (S71)) (x4_1 : Int) (x1001_1 : Int) (x1002_1 : Int), v4 = .int .i64 x4_1 ∧ Aside0 (spec_l5Draw.l0 kq x3_1 x4_1 s0_0 x1001_1 x1002_1 = some (r1, r2, r3)) ∧ Aside0 (kq ≤ k) ∧ Aside0 (Kd.R k71 71 w' w.heap.size (fun _ => True) v3 x3_1) ∧ Aside0 (IsS114 w0 w' g s0_0 x1001_1 x1002_1) ∧ Aside0 (KeepBut w w' g none) ∧ Aside0 (Below w0.heap.size w0 w'))
 case atStart => exact ⟨(y516), (1), (s0_1), (s0_2), S.eA, H', ⟨Nat.le_refl _⟩, ⟨S.uR HO518.out⟩, ⟨S.iI⟩, ⟨S.kA⟩, ⟨S.bI⟩⟩
 case round =>
  clear H'
  obtain ⟨x3_1, x4_1, x1001_1, x1002_1, rfl, HA, HK1, HO_3, HI0, HK, HB⟩ := hrel
  cases gk with
  | zero => exact absurd HA.out (by simp [spec_l5Draw.l0])
  | succ k1 =>
   have H := HA.out
   clear HA
   simp only [spec_l5Draw.l0] at H
   replace H := S.bd H; obtain ⟨⟨t519, t520, t521⟩, A4, H⟩ := H
   (try dsimp only at H)
   replace H := S.dc H; rcases H with ⟨H, c5b0⟩ | ⟨H, c5b0⟩
   ·replace H := Option.bind_eq_some_iff.mp H
    obtain ⟨⟨t522, t523, t524, t525, t526, t527⟩, A60, H⟩ := H
    replace H : (if x3_1.length < 4398046511104 then (spec_l5Draw.l0 k1 (x3_1 ++ [(⟨t522, t523, t524, t525⟩ : S71)]) (wrap64 (x4_1 + 1)) s0_0 t526 t527) else (none)) = some (r1, r2, r3) := H
    have A6 := Aside0.mk A60
    clear A60
    by_cases c7 : x3_1.length < 4398046511104
    ·rw [if_pos c7] at H
     have LMc7 := Aside0.mk c7
     clear c7
     obtain ⟨y528, hy528⟩ : ∃ y_ : List (S71), y_ = (x3_1 ++ [(⟨t522, t523, t524, t525⟩ : S71)]) := ⟨_, rfl⟩
     replace H : (spec_l5Draw.l0 k1 y528 (wrap64 (x4_1 + 1)) s0_0 t526 t527) = some (r1, r2, r3) := by first | (rw [hy528]; with_reducible exact H) | (have H2_ := (Option.bind_some _ _).symm.trans H; rw [hy528]; with_reducible exact H2_) | (have H2_ := (Option.bind_some _ _).symm.trans H; with_reducible exact H2_) | with_reducible exact H | (rw [hy528]; exact H) | exact H
     have Ny528 := Aside0.mk hy528
     clear hy528
     have H' := Aside0.mk H
     clear H
     go_wp2_with (first | ((with_reducible refine gate_callee (f := 90) rfl ?_); refine S.gL (some 8) Try.func90 #[.pointer (some ⟨g, 0, none⟩), .int .i64 6] ?_; (with_reducible refine (spec_l1Below.calls g s0_0 x1001_1 x1002_1 6 t519 t520 t521 w0 _ ?s1 ?s2 A4.out).mono ?_); (case s1 => exact S.iI); (case s2 => exact S.bI); rintro e w8 ⟨rfl, hi, hb, hk⟩; refine ⟨_, rfl, ?_⟩; replace HO_3 := Aside0.mk (Kd.R_mono (Kd.R_keep (IsS114.apart (show IsS114 w0 _ g s0_0 x1001_1 x1002_1 from S.iI) (S.uR HO_3.out) (by decide)) hk (fun _ h => h.2)) (fun _ h => h.1)); replace HK := Aside0.mk (KeepBut.trans S.kA hk (.inl rfl)); replace HB := Aside0.mk (hb); replace HI0 := Aside0.mk (hi); (try clear hb); (try clear hk); (try clear hi)) | ((with_reducible refine gate_callee (f := 151) rfl ?_); refine S.gL (some 16) Try.func151 #[.pointer (some ⟨g, 0, none⟩), .int .i64 x4_1] ?_; (with_reducible refine (spec_l4Draw.calls g s0_0 t520 t521 x4_1 t522 t523 t524 t525 t526 t527 w0 _ ?s1 ?s2 A6.out).mono ?_); (case s1 => exact S.iI); (case s2 => exact S.bI); rintro e w9 ⟨rfl, hi, hb, hk⟩; refine ⟨_, rfl, ?_⟩; replace HO_3 := Aside0.mk (Kd.R_mono (Kd.R_keep (IsS114.apart (show IsS114 w0 _ g s0_0 t520 t521 from S.iI) (S.uR HO_3.out) (by decide)) hk (fun _ h => h.2)) (fun _ h => h.1)); replace HK := Aside0.mk (KeepBut.trans S.kA hk (.inl rfl)); replace HB := Aside0.mk (hb); replace HI0 := Aside0.mk (hi); (try clear hb); (try clear hk); (try clear hi)) | ((with_reducible refine gate_builtin (b := .append) (xs := #[.tmp 13, .tmp 17]) rfl ?_); at_builtin; refine Kd.R_append k71 w.heap.size rfl (.tmp 13) (.tmp 17) 27 71 (.agg #[(.int .i64 0), (.int .i64 0), (.int .i64 0), (.int .i64 0)]) 32 rfl Try.underlying27 info71 rfl (by decide) (by omega) u3 x3_1 (⟨t522, t523, t524, t525⟩ : S71) [.int .i64 t522, .int .i64 t523, .int .i64 t524, .int .i64 t525] (fun _ => True) (fun _ => False) rfl rfl ?aP (fun _ hk => hk.elim) ?aF ?aO (Below.refl _ _) ?aS ?aL ?_; (case aP => exact k71_mkM _ _ _ (⟨t522, t523, t524, t525⟩ : S71)); (case aF => exact (fun _ _ => trivial)); (case aO => exact (S.uR HO_3.out)); (case aS => exact (keep_size (w := w) (g := g) (row := none) S.kA)); (case aL => have := LMc7.out; omega); intro v529 w10 ho hb hg hat; rw [← Ny528.out] at ho; have n0_ := Aside0.mk (IsS114.grown (S.iI) hg (IsS114.own_ne HI0.out HO_3.out (by decide))); have n1_ := Aside0.mk (below_weaken (S.bI) HL.out hb); have n2_ := Aside0.mk (KeepBut.trans S.kA (KeepBut.of_grown hg g) (Kd.R_base2 HO_3.out)); have n3_ := Aside0.mk (ho); clear HI0; clear HB; clear HK; clear HO_3; have HI0 := n0_; have HB := n1_; have HK := n2_; have HO530 := n3_; clear n0_ n1_ n2_ n3_; clear ho hb hg hat))
     go_roundg k1
     case measure => have := HK1.out; omega
     case rel => exact ⟨(y528), (wrap64 (x4_1 + 1)), (t526), (t527), S.eA, H', ⟨by have := HK1.out; omega⟩, ⟨S.uR HO530.out⟩, ⟨S.iI⟩, ⟨S.kA⟩, ⟨S.bI⟩⟩
    ·rw [if_neg c7] at H
     exact absurd H (by simp)
   ·simp only [Option.some.injEq, Prod.mk.injEq] at H
    obtain ⟨rfl, rfl, rfl⟩ := H
    go_wp2_with (first | ((with_reducible refine gate_callee (f := 90) rfl ?_); refine S.gL (some 8) Try.func90 #[.pointer (some ⟨g, 0, none⟩), .int .i64 6] ?_; (with_reducible refine (spec_l1Below.calls g s0_0 x1001_1 x1002_1 6 t519 t520 t521 w0 _ ?s1 ?s2 A4.out).mono ?_); (case s1 => exact S.iI); (case s2 => exact S.bI); rintro e w11 ⟨rfl, hi, hb, hk⟩; refine ⟨_, rfl, ?_⟩; replace HO_3 := Aside0.mk (Kd.R_mono (Kd.R_keep (IsS114.apart (show IsS114 w0 _ g s0_0 x1001_1 x1002_1 from S.iI) (S.uR HO_3.out) (by decide)) hk (fun _ h => h.2)) (fun _ h => h.1)); replace HK := Aside0.mk (KeepBut.trans S.kA hk (.inl rfl)); replace HB := Aside0.mk (hb); replace HI0 := Aside0.mk (hi); (try clear hb); (try clear hk); (try clear hi)))
    go_ret
    exact ⟨_, S.eW, S.uR HO_3.out, S.iI, S.bI, S.kA⟩
end Go.Proofs.Ytjgigmghcfdomaa.PFnWaves
