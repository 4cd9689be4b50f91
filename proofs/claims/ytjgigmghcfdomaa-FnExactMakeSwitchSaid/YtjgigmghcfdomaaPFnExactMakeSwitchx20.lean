/- Printed by a program: what the Go functions compute, as plain Lean functions (.f), and the proofs that the machine's calls come to just that (.calls). -/
import Derived.Test.YtjgigmghcfdomaaPFnExactMakeSwitchx0
import Derived.Test.YtjgigmghcfdomaaPFnExactMakeSwitchx13
import Derived.Test.YtjgigmghcfdomaaPFnExactMakeSwitchx18
import Derived.Test.YtjgigmghcfdomaaPFnExactMakeSwitchx19
namespace Go.Proofs.Ytjgigmghcfdomaa.PFnExactMakeSwitch
open Go.RowKit Go.Proofs.YtjgigmghcfdomaaW.PrintWords Go.Proofs.YtjgigmghcfdomaaW.PrintLast Go.Proofs.YtjgigmghcfdomaaW.PrintMore
attribute [local go_sem] max2_int min2_int max_two min_two max_three min_three max_four min_four   -- for this text's walks alone
set_option linter.unusedVariables false
set_option linter.unusedSimpArgs false

/-! ### impl_IsPlan: function 68 -/
def impl_IsPlan.l0 : Nat → List (S71) → List (List Int) → List (S85) → Int → Int → Option (Bool)
 | 0, _, _, _, _, _ => none
 | k + 1, x0, x5, x13, x14, x15 => if x15 < x14 then (if 0 ≤ x15 then (if x15 < (x13.length : Int) then (if (((rd_T85 x13 x15).f0).length : Int) = 0 then (some false) else ((impl_IsTogether.f k x0 ((rd_T85 x13 x15).f0)).bind fun t379 => (if t379 = true then ((impl_LeastGreen.f k x0 ((rd_T85 x13 x15).f0)).bind fun t380 => ((impl_InRange.f ((rd_T85 x13 x15).f1) t380 60).bind fun t381 => (if t381 = true then (if x5.length < 5864062014805 then (impl_IsPlan.l0 k x0 (x5 ++ [(rd_T85 x13 x15).f0]) x13 x14 (wrap64 (x15 + 1))) else (none)) else (some false)))) else (some false)))) else (none)) else (none)) else ((impl_Covers.f k x0 x5).bind fun t376 => (some t376))
def impl_IsPlan.f (k : Nat) (l0 : List (S71)) (l1 : List (S85)) : Option (Bool) := (impl_InRange.f (l1.length : Int) 1 6).bind fun t372 => (if t372 = true then (impl_IsPlan.l0 k l0 (([] : List (List Int))) l1 (l1.length : Int) 0) else (some false))
def impl_IsPlan.T7 : Bool × List (List Nat × List Nat) := (true, [([], []), ([0], [0]), ([1], [1]), ([2], [2]), ([3], [3]), ([4], [4]), ([4], [4]), ([6, 4], [4, 6]), ([5, 7, 4, 4], [4, 5, 7]), ([8, 4], [4, 8]), ([4, 9], [4, 9]), ([10, 8], [10]), ([11], [11]), ([12, 11], [11, 12]), ([11], [11]), ([11], [11]), ([15, 11], [11, 15]), ([14, 16, 11, 11], [11, 14, 16]), ([13, 17, 17, 11], [11, 13, 17]), ([18, 11], [11, 18]), ([11, 19], [11, 19])])
def impl_IsPlan.B7 : List Nat := [0, 1, 3, 7, 15, 31, 31, 95, 255, 511, 1023, 2047, 4095, 8191, 4095, 4095, 36863, 118783, 262143, 524287, 1048575]
theorem impl_IsPlan.tab7 : rtab .any (opsOf Try.f68 7) = impl_IsPlan.T7 := by kernel_rfl
theorem impl_IsPlan.bits7 : waitsOk impl_IsPlan.T7.2 impl_IsPlan.B7 = true := by kernel_rfl
set_option maxHeartbeats 8000000 in
set_option maxRecDepth 100000 in
theorem impl_IsPlan.calls (k : Nat) (A0 : Option Addr) (c0 : Nat) (l0 : List (S71)) (P1_ : Nat → Prop) (A1 : Option Addr) (c1 : Nat) (l1 : List (S85)) (r : Bool) (w : World) (hr0 : Kd.C k71 w A0 l0.length l0) (hc0 : l0.length ≤ c0) (hs1 : Kd.V k85 85 w w.heap.size (fun k_ => P1_ k_) (.slice A1 l1.length c1) l1) (h : impl_IsPlan.f k l0 l1 = some r) :
  Calls Try.prog 68 #[.slice A0 l0.length c0, .slice A1 l1.length c1] w fun e w' => e = .returned (.bool r) ∧ Below w.heap.size w w' := by
 have hu85 := Try.underlying85
 have HR0 := Aside0.mk hr0
 have HC0 := Aside0.mk hc0
 clear hr0 hc0
 have HO1 := Aside0.mk (show Kd.V k85 85 w w.heap.size (fun k_ => (P1_ k_ ∨ w.heap.size ≤ k_)) (.slice A1 l1.length c1) l1 from Kd.V_mono hs1 (fun k_ hk => .inl hk))
 have HB := Aside0.mk (Below.refl w.heap.size w)
 have H : ((impl_InRange.f (l1.length : Int) 1 6).bind fun t372 => (if t372 = true then (impl_IsPlan.l0 k l0 (([] : List (List Int))) l1 (l1.length : Int) 0) else (some false))) = some r := h
 clear h
 replace H := S.bd H; obtain ⟨t372, A3, H⟩ := H
 (try dsimp only at H)
 replace H := S.db H; rcases H with ⟨rfl, H⟩ | ⟨rfl, H⟩
 ·obtain ⟨y373, hy373⟩ : ∃ y_ : List (List Int), y_ = (([] : List (List Int))) := ⟨_, rfl⟩
  replace H : (impl_IsPlan.l0 k l0 y373 l1 (l1.length : Int) 0) = some r := by first | (rw [hy373]; with_reducible exact H) | (have H2_ := (Option.bind_some _ _).symm.trans H; rw [hy373]; with_reducible exact H2_) | (have H2_ := (Option.bind_some _ _).symm.trans H; with_reducible exact H2_) | with_reducible exact H | (rw [hy373]; exact H) | exact H
  have Ny373 := Aside0.mk hy373
  clear hy373
  have H' := Aside0.mk H
  clear H
  go_enter Try.func68, Try.ntmps68
  go_wp2_with (first | ((with_reducible refine gate_callee (f := 62) rfl ?_); refine S.gL (some 10) Try.func62 #[.int .i64 (l1.length : Int), .int .i64 1, .int .i64 6] ?_; (with_reducible refine (impl_InRange.calls (l1.length : Int) 1 6 true _ A3.out).mono ?_); rintro e w' ⟨rfl, ⟨nd, rfl⟩⟩; refine ⟨_, rfl, ?_⟩) | ((with_reducible refine gate_dst (N := 12) rfl ?_); refine Kd.N_lit (Kd.slice 3 (Kd.int .i64)) _ 36 ?hg (N' := 12) ?hd (xs := ([] : List (List Int))) (inner := []) (ok := (fun k_ => (P1_ k_ ∨ w.heap.size ≤ k_))) (okp := (fun k_ => (P1_ k_ ∨ w.heap.size ≤ k_))) ?hr ?hp (fun _ hk => hk) ((show ∀ k_, w.heap.size ≤ k_ → (fun k_ => (P1_ k_ ∨ w.heap.size ≤ k_)) k_ from fun k_ hk => (.inr (Nat.le_trans (below_size S.bA) hk))) _ (Nat.le_refl _)) (Below.refl _ _) (Nat.le_refl _) (by simp) ?_; (case hd => rfl); (case hg => rfl); (case hr => first | (go_simp; done) | (go_simp; rfl)); (case hp => exact (Reps.none _ _)); intro v374 w5 ho6 hb hg_ hnew_; clear hg_ hnew_; (first | rw [← Ny373.out] at ho6 | (simp only [Int.reduceToNat] at ho6; rw [← Ny373.out] at ho6)); replace HO1 := Aside0.mk (Kd.V_elder' (S.uV HO1.out) (Kd.N_base ho6) hb); have HO375 := Aside0.mk (Kd.N_lower ho6 (below_size S.bA)); replace HB := S.sA hb; clear hb ho6))
  go_loopg [5, 15] k (fun kq v5 v15 w' => ∃ (x5_1 : List (List Int)) (x15_1 : Int), v15 = .int .i64 x15_1 ∧ Aside0 (impl_IsPlan.l0 kq l0 x5_1 l1 (l1.length : Int) x15_1 = some r) ∧ Aside0 (kq ≤ k) ∧ Aside0 (Kd.N (Kd.slice 3 (Kd.int .i64)) 36 w' w.heap.size (fun k_ => (P1_ k_ ∨ w.heap.size ≤ k_)) v5 x5_1) ∧ Aside0 (Kd.V k85 85 w' w.heap.size (fun k_ => (P1_ k_ ∨ w.heap.size ≤ k_) ∧ S.N k_ v5) (.slice A1 l1.length c1) l1) ∧ Aside0 (Below w.heap.size w w'))
  case atStart => exact ⟨(y373), (0), S.eA, H', ⟨Nat.le_refl _⟩, ⟨by (with_reducible repeat (first | apply Kd.N_alloc | apply Kd.N_drewN | apply Kd.N_drew)); exact HO375.out⟩, ⟨S.uV HO1.out⟩, ⟨S.bA⟩⟩
  case round =>
   clear H'
   try clear c1
   try clear c4
   obtain ⟨x5_1, x15_1, rfl, HA, HK1, HO_5, HO_13, HB⟩ := hrel
   cases gk with
   | zero => exact absurd HA.out (by simp [impl_IsPlan.l0])
   | succ k1 =>
    have H := HA.out
    clear HA
    simp only [impl_IsPlan.l0] at H
    replace H := S.dc H; rcases H with ⟨H, c7b0⟩ | ⟨H, c7b0⟩
    ·by_cases c8 : 0 ≤ x15_1
     ·rw [if_pos c8] at H
      have c8b0 : decide (0 ≤ x15_1) = true := decide_eq_true c8
      clear c8
      by_cases c9 : x15_1 < (l1.length : Int)
      ·rw [if_pos c9] at H
       have c9b0 : decide (x15_1 < (l1.length : Int)) = true := decide_eq_true c9
       clear c9
       by_cases c10 : (((rd_T85 l1 x15_1).f0).length : Int) = 0
       ·rw [if_pos c10] at H
        have c10b0 : ((((rd_T85 l1 x15_1).f0).length : Int) == 0) = true := beq_iff_eq.mpr c10
        have c10b1 : ((((rd_T85 l1 x15_1).f0).length : Int) != 0) = false := bne_eq_false_iff_eq.mpr c10
        clear c10
        obtain rfl := Option.some.inj H
        have p377 : 0 ≤ (x15_1 : Int) := S.oD
        have q377 : x15_1 < (l1.length : Int) := S.oD
        obtain ⟨ad377, A377_0, c377_0, e377, hx377_0, hx377_1, hl377_0, hi377_0⟩ := at_T85 (Kd.V_reads' HO_13.out).2.2 x15_1 p377 q377
        cases e377
        obtain ⟨ce377, hce377, hMe377, hcc377⟩ := Kd.V_get HO_13.out z85 x15_1 p377 (by first | exact q377 | exact S.oD | (have e_ := (Kd.V_reads' HO_13.out).1; omega))
        obtain ⟨ua377_0, uc377_0, rfl, ul377_0, ge377_0⟩ := k85_openF hMe377
        have hv377_0 := hcc377 0 _ rfl
        rw [Nat.add_zero] at hv377_0
        replace hv377_0 := Option.some.inj (hv377_0.symm.trans hx377_0)
        injection hv377_0 with hva_ hvn_ hvc_
        rw [hva_] at ge377_0
        rw [hvc_] at ul377_0
        have HL377_0 := Aside0.mk (show Kd.V (Kd.int .i64) 3 _ w.heap.size _ _ ((rd_T85 l1 x15_1).f0) from Kd.V_mk ul377_0 ge377_0)
        clear hva_ hvn_ hvc_ ge377_0 ul377_0
        clear hcc377 hce377
        have HR377_0 := Aside0.mk hi377_0
        have HC377_0 := Aside0.mk hl377_0
        clear hi377_0 hl377_0
        replace p377 := eq_true p377
        replace q377 := eq_true q377
        try go_wp2_with (first | ((with_reducible refine gate_dst (N := 7) rfl ?_); refine S.bx 7 (cs := #[.slice none 0 0, .int .i64 0]) (t := 85) ?_; intro gb378 hg w11 hbox hb; replace HO_5 := Aside0.mk (Kd.N_below (Kd.N_elderB (by (with_reducible repeat (first | apply Kd.N_alloc | apply Kd.N_drewN | apply Kd.N_drew)); exact HO_5.out) gb378 (Nat.le_of_eq hg.symm)) hb); replace HO_13 := Aside0.mk (Kd.V_below (Kd.V_elderB (S.uV HO_13.out) gb378 (Nat.le_of_eq hg.symm)) hb); replace HL377_0 := Aside0.mk (Kd.V_below (Kd.V_elderB (S.uV HL377_0.out) gb378 (Nat.le_of_eq hg.symm)) hb); replace HR377_0 := Aside0.mk (Kd.C_below (by repeat (first | (with_reducible exact HR377_0.out) | (with_reducible refine Kd.C_alloc ?_ _) | (with_reducible refine Kd.C_drewN ?_ _) | (with_reducible refine Kd.C_drew ?_) | exact HR377_0.out)) hb); have BK378 := Aside0.mk hbox; have GW378 := S.geA hg; have GE378 := S.geA hg; replace HB := S.sA hb; clear hb hbox hg; obtain ⟨Z12a, Z12b, Y12a, Y12b⟩ := S.c2 BK378.out))
        have n0_ : Aside0 (Kd.N (Kd.slice 3 (Kd.int .i64)) 36 ((w11.setCell ⟨gb378, 0, none⟩ (.slice A377_0 ((rd_T85 l1 x15_1).f0).length c377_0)).setCell ⟨gb378, 1, none⟩ (.int .i64 ((rd_T85 l1 x15_1).f1))) w.heap.size (fun k_ => (P1_ k_ ∨ w.heap.size ≤ k_) ∧ k_ ≠ gb378) u5 x5_1) := ⟨by (with_reducible repeat (first | apply Kd.N_alloc | apply Kd.N_drewN | apply Kd.N_drew)); exact Kd.N_mono (Kd.N_far (p := ⟨gb378, 1, none⟩) (Kd.N_far (p := ⟨gb378, 0, none⟩) (Kd.N_mono HO_5.out (fun k_ hk => (⟨hk, hk.2⟩ : _ ∧ k_ ≠ gb378))) (fun _ hk => hk.2) (.slice A377_0 ((rd_T85 l1 x15_1).f0).length c377_0)) (fun _ hk => hk.2) (.int .i64 ((rd_T85 l1 x15_1).f1))) (fun _ hk => ⟨hk.1.1, hk.1.2⟩)⟩
        have n1_ : Aside0 (Kd.V k85 85 ((w11.setCell ⟨gb378, 0, none⟩ (.slice A377_0 ((rd_T85 l1 x15_1).f0).length c377_0)).setCell ⟨gb378, 1, none⟩ (.int .i64 ((rd_T85 l1 x15_1).f1))) w.heap.size (fun k_ => (P1_ k_ ∨ w.heap.size ≤ k_) ∧ some k_ ≠ (u5 : Value).ownBlock ∧ k_ ≠ gb378) (.slice (some ad377) l1.length c1) l1) := ⟨by (with_reducible repeat (first | apply Kd.V_alloc | apply Kd.V_drewN | apply Kd.V_drew)); exact Kd.V_mono (Kd.V_far (p := ⟨gb378, 1, none⟩) (Kd.V_far (p := ⟨gb378, 0, none⟩) (Kd.V_mono HO_13.out (fun k_ hk => (⟨hk, hk.2⟩ : _ ∧ k_ ≠ gb378))) (fun _ hk => hk.2) (.slice A377_0 ((rd_T85 l1 x15_1).f0).length c377_0)) (fun _ hk => hk.2) (.int .i64 ((rd_T85 l1 x15_1).f1))) (fun _ hk => ⟨hk.1.1.1, ⟨hk.1.1.2, hk.1.2⟩⟩)⟩
        have n2_ : Aside0 (Kd.V (Kd.int .i64) 3 ((w11.setCell ⟨gb378, 0, none⟩ (.slice A377_0 ((rd_T85 l1 x15_1).f0).length c377_0)).setCell ⟨gb378, 1, none⟩ (.int .i64 ((rd_T85 l1 x15_1).f1))) w.heap.size (fun k_ => (P1_ k_ ∨ w.heap.size ≤ k_) ∧ some k_ ≠ (u5 : Value).ownBlock ∧ k_ ≠ gb378) (.slice A377_0 ((rd_T85 l1 x15_1).f0).length c377_0) ((rd_T85 l1 x15_1).f0)) := ⟨by (with_reducible repeat (first | apply Kd.V_alloc | apply Kd.V_drewN | apply Kd.V_drew)); exact Kd.V_mono (Kd.V_far (p := ⟨gb378, 1, none⟩) (Kd.V_far (p := ⟨gb378, 0, none⟩) (Kd.V_mono HL377_0.out (fun k_ hk => (⟨hk, hk.2⟩ : _ ∧ k_ ≠ gb378))) (fun _ hk => hk.2) (.slice A377_0 ((rd_T85 l1 x15_1).f0).length c377_0)) (fun _ hk => hk.2) (.int .i64 ((rd_T85 l1 x15_1).f1))) (fun _ hk => ⟨hk.1.1.1, ⟨hk.1.1.2, hk.1.2⟩⟩)⟩
        have n3_ : Aside0 (((w11.setCell ⟨gb378, 0, none⟩ (.slice A377_0 ((rd_T85 l1 x15_1).f0).length c377_0)).setCell ⟨gb378, 1, none⟩ (.int .i64 ((rd_T85 l1 x15_1).f1))).heap[gb378]? = some (.cells #[.slice A377_0 ((rd_T85 l1 x15_1).f0).length c377_0, .int .i64 ((rd_T85 l1 x15_1).f1)] 85 (0, 0))) := ⟨S.up2 BK378⟩
        have n4_ : Aside0 (Below w.heap.size w ((w11.setCell ⟨gb378, 0, none⟩ (.slice A377_0 ((rd_T85 l1 x15_1).f0).length c377_0)).setCell ⟨gb378, 1, none⟩ (.int .i64 ((rd_T85 l1 x15_1).f1)))) := ⟨S.bG⟩
        (try clear HO_5)
        (try clear HO_13)
        (try clear HL377_0)
        (try clear BK378)
        (try clear HB)
        generalize ((w11.setCell ⟨gb378, 0, none⟩ (.slice A377_0 ((rd_T85 l1 x15_1).f0).length c377_0)).setCell ⟨gb378, 1, none⟩ (.int .i64 ((rd_T85 l1 x15_1).f1))) = w13 at n0_ n1_ n2_ n3_ n4_ ⊢
        have HO_5 := n0_
        have HO_13 := n1_
        have HL377_0 := n2_
        have BK378 := n3_
        have HB := n4_
        clear n0_ n1_ n2_ n3_ n4_
        replace HO_5 := Aside0.mk (Kd.N_drew HO_5.out)
        replace HO_13 := Aside0.mk (Kd.V_drew HO_13.out)
        replace HL377_0 := Aside0.mk (Kd.V_drew HL377_0.out)
        replace BK378 := Aside0.mk (blk_drew BK378.out)
        replace HB := Aside0.mk (below_drew1 HB.out)
        refine S.st (n := 21) (ds := []) #[false, false, false, false, false, false, false, false, false, false, false, false, false, false, false, false, false, false, false, false, false] (fun w_ h_ => have x_ := S.e2 (S.Q h_ BK378.out); x_) (fun hHeld => ?_); refine with_tabW impl_IsPlan.tab7 impl_IsPlan.bits7 (fun HT_ HW_ => ?_)
        generalize w13.drew = w14 at HO_5 HO_13 HL377_0 BK378 HB hHeld ⊢
        refine S.pS 0 19 ?_
        refine S.tK 1 20 #[true, true, false, false, false, false, false, false, false, false, false, false, false, false, false, false, false, false, false, false, false] ?_
        refine S.pS 2 21 ?_
        refine S.pS 3 22 ?_
        refine S.pS 4 23 ?_
        refine S.pU 5 24 ?_
        refine S.pU 6 25 ?_
        refine S.pU 7 26 ?_
        refine S.pU 8 27 ?_
        refine S.pU 9 28 ?_
        refine S.pS 10 29 ?_
        refine S.pS 11 30 ?_
        refine S.pU 12 31 ?_
        refine S.pU 13 32 ?_
        refine S.pU 14 33 ?_
        refine S.pU 15 34 ?_
        refine S.pU 16 35 ?_
        refine S.pU 17 36 ?_
        refine S.pU 18 37 ?_
        refine S.pU 19 38 ?_
        refine S.pS 20 39 ?_
        refine done_ (done_of HT_.out (by kernel_rfl)) ?_
        try go_wp2
        go_ret
        exact ⟨S.eW, S.bG⟩
       ·rw [if_neg c10] at H
        have c10b0 : ((((rd_T85 l1 x15_1).f0).length : Int) == 0) = false := beq_eq_false_iff_ne.mpr c10
        have c10b1 : ((((rd_T85 l1 x15_1).f0).length : Int) != 0) = true := bne_iff_ne.mpr c10
        have c10b2 : ¬ (((rd_T85 l1 x15_1).f0) = []) := fun h_ => c10 (by rw [h_]; rfl)
        replace H := S.bd H; obtain ⟨t379, A15, H⟩ := H
        (try dsimp only at H)
        replace H := S.db H; rcases H with ⟨rfl, H⟩ | ⟨rfl, H⟩
        ·replace H := S.bd H; obtain ⟨t380, A17, H⟩ := H
         (try dsimp only at H)
         replace H := S.bd H; obtain ⟨t381, A18, H⟩ := H
         (try dsimp only at H)
         replace H := S.db H; rcases H with ⟨rfl, H⟩ | ⟨rfl, H⟩
         ·by_cases c20 : x5_1.length < 5864062014805
          ·rw [if_pos c20] at H
           have LMc20 := Aside0.mk c20
           clear c20
           obtain ⟨y382, hy382⟩ : ∃ y_ : List (List Int), y_ = (x5_1 ++ [(rd_T85 l1 x15_1).f0]) := ⟨_, rfl⟩
           replace H : (impl_IsPlan.l0 k1 l0 y382 l1 (l1.length : Int) (wrap64 (x15_1 + 1))) = some r := by first | (rw [hy382]; with_reducible exact H) | (have H2_ := (Option.bind_some _ _).symm.trans H; rw [hy382]; with_reducible exact H2_) | (have H2_ := (Option.bind_some _ _).symm.trans H; with_reducible exact H2_) | with_reducible exact H | (rw [hy382]; exact H) | exact H
           have Ny382 := Aside0.mk hy382
           clear hy382
           have H' := Aside0.mk H
           clear H
           have p377 : 0 ≤ (x15_1 : Int) := S.oD
           have q377 : x15_1 < (l1.length : Int) := S.oD
           obtain ⟨ad377, A377_0, c377_0, e377, hx377_0, hx377_1, hl377_0, hi377_0⟩ := at_T85 (Kd.V_reads' HO_13.out).2.2 x15_1 p377 q377
           cases e377
           obtain ⟨ce377, hce377, hMe377, hcc377⟩ := Kd.V_get HO_13.out z85 x15_1 p377 (by first | exact q377 | exact S.oD | (have e_ := (Kd.V_reads' HO_13.out).1; omega))
           obtain ⟨ua377_0, uc377_0, rfl, ul377_0, ge377_0⟩ := k85_openF hMe377
           have hv377_0 := hcc377 0 _ rfl
           rw [Nat.add_zero] at hv377_0
           replace hv377_0 := Option.some.inj (hv377_0.symm.trans hx377_0)
           injection hv377_0 with hva_ hvn_ hvc_
           rw [hva_] at ge377_0
           rw [hvc_] at ul377_0
           have HL377_0 := Aside0.mk (show Kd.V (Kd.int .i64) 3 _ w.heap.size _ _ ((rd_T85 l1 x15_1).f0) from Kd.V_mk ul377_0 ge377_0)
           clear hva_ hvn_ hvc_ ge377_0 ul377_0
           clear hcc377 hce377
           have HR377_0 := Aside0.mk hi377_0
           have HC377_0 := Aside0.mk hl377_0
           clear hi377_0 hl377_0
           replace p377 := eq_true p377
           replace q377 := eq_true q377
           try go_wp2_with (first | ((with_reducible refine gate_dst (N := 7) rfl ?_); refine S.bx 7 (cs := #[.slice none 0 0, .int .i64 0]) (t := 85) ?_; intro gb378 hg w21 hbox hb; replace HO_5 := Aside0.mk (Kd.N_below (Kd.N_elderB (by (with_reducible repeat (first | apply Kd.N_alloc | apply Kd.N_drewN | apply Kd.N_drew)); exact HO_5.out) gb378 (Nat.le_of_eq hg.symm)) hb); replace HO_13 := Aside0.mk (Kd.V_below (Kd.V_elderB (S.uV HO_13.out) gb378 (Nat.le_of_eq hg.symm)) hb); replace HL377_0 := Aside0.mk (Kd.V_below (Kd.V_elderB (S.uV HL377_0.out) gb378 (Nat.le_of_eq hg.symm)) hb); replace HR377_0 := Aside0.mk (Kd.C_below (by repeat (first | (with_reducible exact HR377_0.out) | (with_reducible refine Kd.C_alloc ?_ _) | (with_reducible refine Kd.C_drewN ?_ _) | (with_reducible refine Kd.C_drew ?_) | exact HR377_0.out)) hb); have BK378 := Aside0.mk hbox; have GW378 := S.geA hg; have GE378 := S.geA hg; replace HB := S.sA hb; clear hb hbox hg; obtain ⟨Z22a, Z22b, Y22a, Y22b⟩ := S.c2 BK378.out))
           have n0_ : Aside0 (Kd.N (Kd.slice 3 (Kd.int .i64)) 36 ((w21.setCell ⟨gb378, 0, none⟩ (.slice A377_0 ((rd_T85 l1 x15_1).f0).length c377_0)).setCell ⟨gb378, 1, none⟩ (.int .i64 ((rd_T85 l1 x15_1).f1))) w.heap.size (fun k_ => (P1_ k_ ∨ w.heap.size ≤ k_) ∧ k_ ≠ gb378) u5 x5_1) := ⟨by (with_reducible repeat (first | apply Kd.N_alloc | apply Kd.N_drewN | apply Kd.N_drew)); exact Kd.N_mono (Kd.N_far (p := ⟨gb378, 1, none⟩) (Kd.N_far (p := ⟨gb378, 0, none⟩) (Kd.N_mono HO_5.out (fun k_ hk => (⟨hk, hk.2⟩ : _ ∧ k_ ≠ gb378))) (fun _ hk => hk.2) (.slice A377_0 ((rd_T85 l1 x15_1).f0).length c377_0)) (fun _ hk => hk.2) (.int .i64 ((rd_T85 l1 x15_1).f1))) (fun _ hk => ⟨hk.1.1, hk.1.2⟩)⟩
           have n1_ : Aside0 (Kd.V k85 85 ((w21.setCell ⟨gb378, 0, none⟩ (.slice A377_0 ((rd_T85 l1 x15_1).f0).length c377_0)).setCell ⟨gb378, 1, none⟩ (.int .i64 ((rd_T85 l1 x15_1).f1))) w.heap.size (fun k_ => (P1_ k_ ∨ w.heap.size ≤ k_) ∧ some k_ ≠ (u5 : Value).ownBlock ∧ k_ ≠ gb378) (.slice (some ad377) l1.length c1) l1) := ⟨by (with_reducible repeat (first | apply Kd.V_alloc | apply Kd.V_drewN | apply Kd.V_drew)); exact Kd.V_mono (Kd.V_far (p := ⟨gb378, 1, none⟩) (Kd.V_far (p := ⟨gb378, 0, none⟩) (Kd.V_mono HO_13.out (fun k_ hk => (⟨hk, hk.2⟩ : _ ∧ k_ ≠ gb378))) (fun _ hk => hk.2) (.slice A377_0 ((rd_T85 l1 x15_1).f0).length c377_0)) (fun _ hk => hk.2) (.int .i64 ((rd_T85 l1 x15_1).f1))) (fun _ hk => ⟨hk.1.1.1, ⟨hk.1.1.2, hk.1.2⟩⟩)⟩
           have n2_ : Aside0 (Kd.V (Kd.int .i64) 3 ((w21.setCell ⟨gb378, 0, none⟩ (.slice A377_0 ((rd_T85 l1 x15_1).f0).length c377_0)).setCell ⟨gb378, 1, none⟩ (.int .i64 ((rd_T85 l1 x15_1).f1))) w.heap.size (fun k_ => (P1_ k_ ∨ w.heap.size ≤ k_) ∧ some k_ ≠ (u5 : Value).ownBlock ∧ k_ ≠ gb378) (.slice A377_0 ((rd_T85 l1 x15_1).f0).length c377_0) ((rd_T85 l1 x15_1).f0)) := ⟨by (with_reducible repeat (first | apply Kd.V_alloc | apply Kd.V_drewN | apply Kd.V_drew)); exact Kd.V_mono (Kd.V_far (p := ⟨gb378, 1, none⟩) (Kd.V_far (p := ⟨gb378, 0, none⟩) (Kd.V_mono HL377_0.out (fun k_ hk => (⟨hk, hk.2⟩ : _ ∧ k_ ≠ gb378))) (fun _ hk => hk.2) (.slice A377_0 ((rd_T85 l1 x15_1).f0).length c377_0)) (fun _ hk => hk.2) (.int .i64 ((rd_T85 l1 x15_1).f1))) (fun _ hk => ⟨hk.1.1.1, ⟨hk.1.1.2, hk.1.2⟩⟩)⟩
           have n3_ : Aside0 (((w21.setCell ⟨gb378, 0, none⟩ (.slice A377_0 ((rd_T85 l1 x15_1).f0).length c377_0)).setCell ⟨gb378, 1, none⟩ (.int .i64 ((rd_T85 l1 x15_1).f1))).heap[gb378]? = some (.cells #[.slice A377_0 ((rd_T85 l1 x15_1).f0).length c377_0, .int .i64 ((rd_T85 l1 x15_1).f1)] 85 (0, 0))) := ⟨S.up2 BK378⟩
           have n4_ : Aside0 (Below w.heap.size w ((w21.setCell ⟨gb378, 0, none⟩ (.slice A377_0 ((rd_T85 l1 x15_1).f0).length c377_0)).setCell ⟨gb378, 1, none⟩ (.int .i64 ((rd_T85 l1 x15_1).f1)))) := ⟨S.bG⟩
           (try clear HO_5)
           (try clear HO_13)
           (try clear HL377_0)
           (try clear BK378)
           (try clear HB)
           generalize ((w21.setCell ⟨gb378, 0, none⟩ (.slice A377_0 ((rd_T85 l1 x15_1).f0).length c377_0)).setCell ⟨gb378, 1, none⟩ (.int .i64 ((rd_T85 l1 x15_1).f1))) = w23 at n0_ n1_ n2_ n3_ n4_ ⊢
           have HO_5 := n0_
           have HO_13 := n1_
           have HL377_0 := n2_
           have BK378 := n3_
           have HB := n4_
           clear n0_ n1_ n2_ n3_ n4_
           replace HO_5 := Aside0.mk (Kd.N_drew HO_5.out)
           replace HO_13 := Aside0.mk (Kd.V_drew HO_13.out)
           replace HL377_0 := Aside0.mk (Kd.V_drew HL377_0.out)
           replace BK378 := Aside0.mk (blk_drew BK378.out)
           replace HB := Aside0.mk (below_drew1 HB.out)
           refine S.st (n := 21) (ds := []) #[false, false, false, false, false, false, false, false, false, false, false, false, false, false, false, false, false, false, false, false, false] (fun w_ h_ => have x_ := S.e2 (S.Q h_ BK378.out); x_) (fun hHeld => ?_); refine with_tabW impl_IsPlan.tab7 impl_IsPlan.bits7 (fun HT_ HW_ => ?_)
           generalize w23.drew = w24 at HO_5 HO_13 HL377_0 BK378 HB hHeld ⊢
           refine S.pS 0 19 ?_
           refine S.tK 1 20 #[true, true, false, false, false, false, false, false, false, false, false, false, false, false, false, false, false, false, false, false, false] ?_
           refine S.pS 2 21 ?_
           refine S.pS 3 22 ?_
           refine S.pS 4 23 ?_
           refine S.pS 5 24 ?_
           refine S.pS 6 25 ?_
           refine S.tK 7 26 #[true, true, true, true, true, true, true, true, false, false, false, false, false, false, false, false, false, false, false, false, false] ?_
           refine S.oN 8 27 #[true, true, true, true, true, true, true, true, true, false, false, false, false, false, false, false, false, false, false, false, false] (fun K hK => ?_)
           refine S.go Try.func104 #[.slice A0 l0.length c0, .slice A377_0 ((rd_T85 l1 x15_1).f0).length c377_0] ?_
           with_reducible refine (impl_IsTogether.calls k1 _ _ l0 _ _ ((rd_T85 l1 x15_1).f0) true _ ?s1 ?s2 ?s3 ?s4 A15.out).mono ?_
           (case s1 => exact S.cA HR0.out)
           (case s2 => exact HC0.out)
           (case s3 => repeat (first | exact ((Kd.V_reads' (S.uV HL377_0.out)).2.2) | (with_reducible refine Kd.C_alloc ?_ _) | (with_reducible refine Kd.C_drewN ?_ _) | (with_reducible refine Kd.C_drew ?_)))
           (case s4 => exact HC377_0.out)
           rintro e w25 ⟨rfl, hb⟩
           refine ⟨_, rfl, ?_⟩
           replace HO_5 := Aside0.mk (Kd.N_below (by (with_reducible repeat (first | apply Kd.N_alloc | apply Kd.N_drewN | apply Kd.N_drew)); exact HO_5.out) hb)
           replace HO_13 := Aside0.mk (Kd.V_below (S.uV HO_13.out) hb)
           replace HL377_0 := Aside0.mk (Kd.V_below (S.uV HL377_0.out) hb)
           replace BK378 := S.kb BK378 hb
           replace HB := S.sG hb
           (try clear hb)
           (try clear hb2)
           (try clear hk)
           (try clear hi)
           refine hK.out _ _ (S.e2 BK378.out) (fun hHeld => ?_)
           clear hK K
           refine S.nm 27 ?_
           refine S.pS 9 28 ?_
           refine S.pS 10 29 ?_
           refine S.pS 11 30 ?_
           refine S.pS 12 31 ?_
           refine S.pS 14 33 ?_
           refine S.pS 15 34 ?_
           refine S.tK 13 32 #[true, true, true, true, true, true, true, true, true, true, true, true, true, true, true, true, false, false, false, false, false] ?_
           refine S.tK 16 35 #[true, true, true, true, true, true, true, true, true, true, true, true, true, true, true, true, true, false, false, false, false] ?_
           refine S.oN 17 36 #[true, true, true, true, true, true, true, true, true, true, true, true, true, true, true, true, true, true, false, false, false] (fun K hK => ?_)
           refine S.go Try.func105 #[.slice A0 l0.length c0, .slice A377_0 ((rd_T85 l1 x15_1).f0).length c377_0] ?_
           with_reducible refine (impl_LeastGreen.calls k1 _ _ l0 _ _ ((rd_T85 l1 x15_1).f0) t380 _ ?s1 ?s2 ?s3 ?s4 A17.out).mono ?_
           (case s1 => exact S.cA HR0.out)
           (case s2 => exact HC0.out)
           (case s3 => repeat (first | exact ((Kd.V_reads' (S.uV HL377_0.out)).2.2) | (with_reducible refine Kd.C_alloc ?_ _) | (with_reducible refine Kd.C_drewN ?_ _) | (with_reducible refine Kd.C_drew ?_)))
           (case s4 => exact HC377_0.out)
           rintro e w26 ⟨rfl, hb⟩
           refine ⟨_, rfl, ?_⟩
           replace HO_5 := Aside0.mk (Kd.N_below (by (with_reducible repeat (first | apply Kd.N_alloc | apply Kd.N_drewN | apply Kd.N_drew)); exact HO_5.out) hb)
           replace HO_13 := Aside0.mk (Kd.V_below (S.uV HO_13.out) hb)
           replace HL377_0 := Aside0.mk (Kd.V_below (S.uV HL377_0.out) hb)
           replace BK378 := S.kb BK378 hb
           replace HB := S.sG hb
           (try clear hb)
           (try clear hb2)
           (try clear hk)
           (try clear hi)
           refine hK.out _ _ (S.e2 BK378.out) (fun hHeld => ?_)
           clear hK K
           refine S.nm 36 ?_
           refine S.oN 18 37 #[true, true, true, true, true, true, true, true, true, true, true, true, true, true, true, true, true, true, true, false, false] (fun K hK => ?_)
           refine S.go Try.func62 #[.int .i64 ((rd_T85 l1 x15_1).f1), .int .i64 t380, .int .i64 60] ?_
           with_reducible refine (impl_InRange.calls ((rd_T85 l1 x15_1).f1) t380 60 true _ A18.out).mono ?_
           rintro e w' ⟨rfl, ⟨nd, rfl⟩⟩
           refine ⟨_, rfl, ?_⟩
           refine hK.out _ _ (S.e2 BK378.out) (fun hHeld => ?_)
           clear hK K
           refine S.nm 37 ?_
           refine S.pS 19 38 ?_
           refine S.pS 20 39 ?_
           refine done_ (done_of HT_.out (by kernel_rfl)) ?_
           obtain ⟨Z27a, Z27b, Y27a, Y27b⟩ := S.c2 BK378.out
           try go_wp2_with (first | ((with_reducible refine gate_builtin (b := .append) (xs := #[.tmp 40, .tmp 43]) rfl ?_); at_builtin; refine Kd.N_append (Kd.slice 3 (Kd.int .i64)) (w0 := w) w.heap.size rfl (.tmp 40) (.tmp 43) 111 36 (.slice none 0 0) 24 rfl Try.underlying111 info36 rfl (by decide) (by omega) u5 x5_1 ((rd_T85 l1 x15_1).f0) [.slice A377_0 ((rd_T85 l1 x15_1).f0).length c377_0] (fun k_ => (P1_ k_ ∨ w.heap.size ≤ k_) ∧ k_ ≠ gb378) (fun k_ => ((fun k_ => (P1_ k_ ∨ w.heap.size ≤ k_) ∧ k_ ≠ gb378)) k_ ∧ some k_ ≠ (u5 : Value).ownBlock) rfl rfl ?aP (fun _ hk => hk) ?aF ?aO ?aB ?aS ?aL ?_; (case aP => exact (Kd.FK_slice_mk (Kd.V_reads' (Kd.V_mono (e := 3) (base := w.heap.size) (ok' := (fun k_ => ((fun k_ => (P1_ k_ ∨ w.heap.size ≤ k_) ∧ k_ ≠ gb378)) k_ ∧ some k_ ≠ (u5 : Value).ownBlock)) (HL377_0.out) (fun k_ hk => ⟨⟨hk.1, hk.2.2⟩, hk.2.1⟩))).2.1 (Kd.V_F (Kd.V_mono (e := 3) (base := w.heap.size) (ok' := (fun k_ => ((fun k_ => (P1_ k_ ∨ w.heap.size ≤ k_) ∧ k_ ≠ gb378)) k_ ∧ some k_ ≠ (u5 : Value).ownBlock)) (HL377_0.out) (fun k_ hk => ⟨⟨hk.1, hk.2.2⟩, hk.2.1⟩))))); (case aB => exact S.bG); (case aF => exact (fun k_ hk => ⟨(.inr (Nat.le_trans (below_size S.bG) hk)), Kd.freshB (g := gb378) (o := .cells #[.slice A377_0 ((rd_T85 l1 x15_1).f0).length c377_0, .int .i64 ((rd_T85 l1 x15_1).f1)] 85 (0, 0)) (S.uB BK378.out) k_ hk⟩)); (case aO => exact (by (with_reducible repeat (first | apply Kd.N_alloc | apply Kd.N_drewN | apply Kd.N_drew)); exact HO_5.out)); (case aS => exact (below_size S.bG)); (case aL => have := LMc20.out; omega); intro v383 w28 ho hb hg hat; rw [← Ny382.out] at ho; have n0_ := Aside0.mk (Kd.V_afterv (ok := (fun k_ => (P1_ k_ ∨ w.heap.size ≤ k_) ∧ k_ ≠ gb378)) (by (with_reducible repeat (first | apply Kd.V_alloc | apply Kd.V_drewN | apply Kd.V_drew)); exact Kd.V_mono HO_13.out (fun _ hk => ⟨⟨hk.1, hk.2.2⟩, hk.2.1⟩)) hg hat); have n1_ := Aside0.mk (Kd.V_afterv (ok := (fun k_ => (P1_ k_ ∨ w.heap.size ≤ k_) ∧ k_ ≠ gb378)) (by (with_reducible repeat (first | apply Kd.V_alloc | apply Kd.V_drewN | apply Kd.V_drew)); exact Kd.V_mono HL377_0.out (fun _ hk => ⟨⟨hk.1, hk.2.2⟩, hk.2.1⟩)) hg hat); have n2_ := Aside0.mk (blk_grown (g := gb378) (o := .cells #[.slice A377_0 ((rd_T85 l1 x15_1).f0).length c377_0, .int .i64 ((rd_T85 l1 x15_1).f1)] 85 (0, 0)) (S.uB BK378.out) hg (Kd.N_ne HO_5.out BK378.out (by decide))); have n3_ := Aside0.mk (hb); have n4_ := Aside0.mk (ho); clear HO_13; clear HL377_0; clear BK378; clear HB; clear HO_5; have HO_13 := n0_; have HL377_0 := n1_; have BK378 := n2_; have HB := n3_; have HO384 := n4_; clear n0_ n1_ n2_ n3_ n4_; clear ho hb hg hat))
           go_roundg k1
           case measure => have := HK1.out; omega
           case rel => exact ⟨(y382), (wrap64 (x15_1 + 1)), S.eA, H', ⟨by have := HK1.out; omega⟩, ⟨by (with_reducible repeat (first | apply Kd.N_alloc | apply Kd.N_drewN | apply Kd.N_drew)); exact Kd.N_mono HO384.out (fun _ hk => hk.1)⟩, ⟨by (with_reducible repeat (first | apply Kd.V_alloc | apply Kd.V_drewN | apply Kd.V_drew)); exact Kd.V_mono HO_13.out (fun _ hk => ⟨hk.1.1, hk.2⟩)⟩, ⟨S.bG⟩⟩
          ·rw [if_neg c20] at H
           exact absurd H (by simp)
         ·obtain rfl := Option.some.inj H
          have p377 : 0 ≤ (x15_1 : Int) := S.oD
          have q377 : x15_1 < (l1.length : Int) := S.oD
          obtain ⟨ad377, A377_0, c377_0, e377, hx377_0, hx377_1, hl377_0, hi377_0⟩ := at_T85 (Kd.V_reads' HO_13.out).2.2 x15_1 p377 q377
          cases e377
          obtain ⟨ce377, hce377, hMe377, hcc377⟩ := Kd.V_get HO_13.out z85 x15_1 p377 (by first | exact q377 | exact S.oD | (have e_ := (Kd.V_reads' HO_13.out).1; omega))
          obtain ⟨ua377_0, uc377_0, rfl, ul377_0, ge377_0⟩ := k85_openF hMe377
          have hv377_0 := hcc377 0 _ rfl
          rw [Nat.add_zero] at hv377_0
          replace hv377_0 := Option.some.inj (hv377_0.symm.trans hx377_0)
          injection hv377_0 with hva_ hvn_ hvc_
          rw [hva_] at ge377_0
          rw [hvc_] at ul377_0
          have HL377_0 := Aside0.mk (show Kd.V (Kd.int .i64) 3 _ w.heap.size _ _ ((rd_T85 l1 x15_1).f0) from Kd.V_mk ul377_0 ge377_0)
          clear hva_ hvn_ hvc_ ge377_0 ul377_0
          clear hcc377 hce377
          have HR377_0 := Aside0.mk hi377_0
          have HC377_0 := Aside0.mk hl377_0
          clear hi377_0 hl377_0
          replace p377 := eq_true p377
          replace q377 := eq_true q377
          try go_wp2_with (first | ((with_reducible refine gate_dst (N := 7) rfl ?_); refine S.bx 7 (cs := #[.slice none 0 0, .int .i64 0]) (t := 85) ?_; intro gb378 hg w29 hbox hb; replace HO_5 := Aside0.mk (Kd.N_below (Kd.N_elderB (by (with_reducible repeat (first | apply Kd.N_alloc | apply Kd.N_drewN | apply Kd.N_drew)); exact HO_5.out) gb378 (Nat.le_of_eq hg.symm)) hb); replace HO_13 := Aside0.mk (Kd.V_below (Kd.V_elderB (S.uV HO_13.out) gb378 (Nat.le_of_eq hg.symm)) hb); replace HL377_0 := Aside0.mk (Kd.V_below (Kd.V_elderB (S.uV HL377_0.out) gb378 (Nat.le_of_eq hg.symm)) hb); replace HR377_0 := Aside0.mk (Kd.C_below (by repeat (first | (with_reducible exact HR377_0.out) | (with_reducible refine Kd.C_alloc ?_ _) | (with_reducible refine Kd.C_drewN ?_ _) | (with_reducible refine Kd.C_drew ?_) | exact HR377_0.out)) hb); have BK378 := Aside0.mk hbox; have GW378 := S.geA hg; have GE378 := S.geA hg; replace HB := S.sA hb; clear hb hbox hg; obtain ⟨Z30a, Z30b, Y30a, Y30b⟩ := S.c2 BK378.out))
          have n0_ : Aside0 (Kd.N (Kd.slice 3 (Kd.int .i64)) 36 ((w29.setCell ⟨gb378, 0, none⟩ (.slice A377_0 ((rd_T85 l1 x15_1).f0).length c377_0)).setCell ⟨gb378, 1, none⟩ (.int .i64 ((rd_T85 l1 x15_1).f1))) w.heap.size (fun k_ => (P1_ k_ ∨ w.heap.size ≤ k_) ∧ k_ ≠ gb378) u5 x5_1) := ⟨by (with_reducible repeat (first | apply Kd.N_alloc | apply Kd.N_drewN | apply Kd.N_drew)); exact Kd.N_mono (Kd.N_far (p := ⟨gb378, 1, none⟩) (Kd.N_far (p := ⟨gb378, 0, none⟩) (Kd.N_mono HO_5.out (fun k_ hk => (⟨hk, hk.2⟩ : _ ∧ k_ ≠ gb378))) (fun _ hk => hk.2) (.slice A377_0 ((rd_T85 l1 x15_1).f0).length c377_0)) (fun _ hk => hk.2) (.int .i64 ((rd_T85 l1 x15_1).f1))) (fun _ hk => ⟨hk.1.1, hk.1.2⟩)⟩
          have n1_ : Aside0 (Kd.V k85 85 ((w29.setCell ⟨gb378, 0, none⟩ (.slice A377_0 ((rd_T85 l1 x15_1).f0).length c377_0)).setCell ⟨gb378, 1, none⟩ (.int .i64 ((rd_T85 l1 x15_1).f1))) w.heap.size (fun k_ => (P1_ k_ ∨ w.heap.size ≤ k_) ∧ some k_ ≠ (u5 : Value).ownBlock ∧ k_ ≠ gb378) (.slice (some ad377) l1.length c1) l1) := ⟨by (with_reducible repeat (first | apply Kd.V_alloc | apply Kd.V_drewN | apply Kd.V_drew)); exact Kd.V_mono (Kd.V_far (p := ⟨gb378, 1, none⟩) (Kd.V_far (p := ⟨gb378, 0, none⟩) (Kd.V_mono HO_13.out (fun k_ hk => (⟨hk, hk.2⟩ : _ ∧ k_ ≠ gb378))) (fun _ hk => hk.2) (.slice A377_0 ((rd_T85 l1 x15_1).f0).length c377_0)) (fun _ hk => hk.2) (.int .i64 ((rd_T85 l1 x15_1).f1))) (fun _ hk => ⟨hk.1.1.1, ⟨hk.1.1.2, hk.1.2⟩⟩)⟩
          have n2_ : Aside0 (Kd.V (Kd.int .i64) 3 ((w29.setCell ⟨gb378, 0, none⟩ (.slice A377_0 ((rd_T85 l1 x15_1).f0).length c377_0)).setCell ⟨gb378, 1, none⟩ (.int .i64 ((rd_T85 l1 x15_1).f1))) w.heap.size (fun k_ => (P1_ k_ ∨ w.heap.size ≤ k_) ∧ some k_ ≠ (u5 : Value).ownBlock ∧ k_ ≠ gb378) (.slice A377_0 ((rd_T85 l1 x15_1).f0).length c377_0) ((rd_T85 l1 x15_1).f0)) := ⟨by (with_reducible repeat (first | apply Kd.V_alloc | apply Kd.V_drewN | apply Kd.V_drew)); exact Kd.V_mono (Kd.V_far (p := ⟨gb378, 1, none⟩) (Kd.V_far (p := ⟨gb378, 0, none⟩) (Kd.V_mono HL377_0.out (fun k_ hk => (⟨hk, hk.2⟩ : _ ∧ k_ ≠ gb378))) (fun _ hk => hk.2) (.slice A377_0 ((rd_T85 l1 x15_1).f0).length c377_0)) (fun _ hk => hk.2) (.int .i64 ((rd_T85 l1 x15_1).f1))) (fun _ hk => ⟨hk.1.1.1, ⟨hk.1.1.2, hk.1.2⟩⟩)⟩
          have n3_ : Aside0 (((w29.setCell ⟨gb378, 0, none⟩ (.slice A377_0 ((rd_T85 l1 x15_1).f0).length c377_0)).setCell ⟨gb378, 1, none⟩ (.int .i64 ((rd_T85 l1 x15_1).f1))).heap[gb378]? = some (.cells #[.slice A377_0 ((rd_T85 l1 x15_1).f0).length c377_0, .int .i64 ((rd_T85 l1 x15_1).f1)] 85 (0, 0))) := ⟨S.up2 BK378⟩
          have n4_ : Aside0 (Below w.heap.size w ((w29.setCell ⟨gb378, 0, none⟩ (.slice A377_0 ((rd_T85 l1 x15_1).f0).length c377_0)).setCell ⟨gb378, 1, none⟩ (.int .i64 ((rd_T85 l1 x15_1).f1)))) := ⟨S.bG⟩
          (try clear HO_5)
          (try clear HO_13)
          (try clear HL377_0)
          (try clear BK378)
          (try clear HB)
          generalize ((w29.setCell ⟨gb378, 0, none⟩ (.slice A377_0 ((rd_T85 l1 x15_1).f0).length c377_0)).setCell ⟨gb378, 1, none⟩ (.int .i64 ((rd_T85 l1 x15_1).f1))) = w31 at n0_ n1_ n2_ n3_ n4_ ⊢
          have HO_5 := n0_
          have HO_13 := n1_
          have HL377_0 := n2_
          have BK378 := n3_
          have HB := n4_
          clear n0_ n1_ n2_ n3_ n4_
          replace HO_5 := Aside0.mk (Kd.N_drew HO_5.out)
          replace HO_13 := Aside0.mk (Kd.V_drew HO_13.out)
          replace HL377_0 := Aside0.mk (Kd.V_drew HL377_0.out)
          replace BK378 := Aside0.mk (blk_drew BK378.out)
          replace HB := Aside0.mk (below_drew1 HB.out)
          refine S.st (n := 21) (ds := []) #[false, false, false, false, false, false, false, false, false, false, false, false, false, false, false, false, false, false, false, false, false] (fun w_ h_ => have x_ := S.e2 (S.Q h_ BK378.out); x_) (fun hHeld => ?_); refine with_tabW impl_IsPlan.tab7 impl_IsPlan.bits7 (fun HT_ HW_ => ?_)
          generalize w31.drew = w32 at HO_5 HO_13 HL377_0 BK378 HB hHeld ⊢
          refine S.pS 0 19 ?_
          refine S.tK 1 20 #[true, true, false, false, false, false, false, false, false, false, false, false, false, false, false, false, false, false, false, false, false] ?_
          refine S.pS 2 21 ?_
          refine S.pS 3 22 ?_
          refine S.pS 4 23 ?_
          refine S.pS 5 24 ?_
          refine S.pS 6 25 ?_
          refine S.tK 7 26 #[true, true, true, true, true, true, true, true, false, false, false, false, false, false, false, false, false, false, false, false, false] ?_
          refine S.oN 8 27 #[true, true, true, true, true, true, true, true, true, false, false, false, false, false, false, false, false, false, false, false, false] (fun K hK => ?_)
          refine S.go Try.func104 #[.slice A0 l0.length c0, .slice A377_0 ((rd_T85 l1 x15_1).f0).length c377_0] ?_
          with_reducible refine (impl_IsTogether.calls k1 _ _ l0 _ _ ((rd_T85 l1 x15_1).f0) true _ ?s1 ?s2 ?s3 ?s4 A15.out).mono ?_
          (case s1 => exact S.cA HR0.out)
          (case s2 => exact HC0.out)
          (case s3 => repeat (first | exact ((Kd.V_reads' (S.uV HL377_0.out)).2.2) | (with_reducible refine Kd.C_alloc ?_ _) | (with_reducible refine Kd.C_drewN ?_ _) | (with_reducible refine Kd.C_drew ?_)))
          (case s4 => exact HC377_0.out)
          rintro e w33 ⟨rfl, hb⟩
          refine ⟨_, rfl, ?_⟩
          replace HO_5 := Aside0.mk (Kd.N_below (by (with_reducible repeat (first | apply Kd.N_alloc | apply Kd.N_drewN | apply Kd.N_drew)); exact HO_5.out) hb)
          replace HO_13 := Aside0.mk (Kd.V_below (S.uV HO_13.out) hb)
          replace HL377_0 := Aside0.mk (Kd.V_below (S.uV HL377_0.out) hb)
          replace BK378 := S.kb BK378 hb
          replace HB := S.sG hb
          (try clear hb)
          (try clear hb2)
          (try clear hk)
          (try clear hi)
          refine hK.out _ _ (S.e2 BK378.out) (fun hHeld => ?_)
          clear hK K
          refine S.nm 27 ?_
          refine S.pS 9 28 ?_
          refine S.pS 10 29 ?_
          refine S.pS 11 30 ?_
          refine S.pS 12 31 ?_
          refine S.pS 14 33 ?_
          refine S.pS 15 34 ?_
          refine S.tK 13 32 #[true, true, true, true, true, true, true, true, true, true, true, true, true, true, true, true, false, false, false, false, false] ?_
          refine S.tK 16 35 #[true, true, true, true, true, true, true, true, true, true, true, true, true, true, true, true, true, false, false, false, false] ?_
          refine S.oN 17 36 #[true, true, true, true, true, true, true, true, true, true, true, true, true, true, true, true, true, true, false, false, false] (fun K hK => ?_)
          refine S.go Try.func105 #[.slice A0 l0.length c0, .slice A377_0 ((rd_T85 l1 x15_1).f0).length c377_0] ?_
          with_reducible refine (impl_LeastGreen.calls k1 _ _ l0 _ _ ((rd_T85 l1 x15_1).f0) t380 _ ?s1 ?s2 ?s3 ?s4 A17.out).mono ?_
          (case s1 => exact S.cA HR0.out)
          (case s2 => exact HC0.out)
          (case s3 => repeat (first | exact ((Kd.V_reads' (S.uV HL377_0.out)).2.2) | (with_reducible refine Kd.C_alloc ?_ _) | (with_reducible refine Kd.C_drewN ?_ _) | (with_reducible refine Kd.C_drew ?_)))
          (case s4 => exact HC377_0.out)
          rintro e w34 ⟨rfl, hb⟩
          refine ⟨_, rfl, ?_⟩
          replace HO_5 := Aside0.mk (Kd.N_below (by (with_reducible repeat (first | apply Kd.N_alloc | apply Kd.N_drewN | apply Kd.N_drew)); exact HO_5.out) hb)
          replace HO_13 := Aside0.mk (Kd.V_below (S.uV HO_13.out) hb)
          replace HL377_0 := Aside0.mk (Kd.V_below (S.uV HL377_0.out) hb)
          replace BK378 := S.kb BK378 hb
          replace HB := S.sG hb
          (try clear hb)
          (try clear hb2)
          (try clear hk)
          (try clear hi)
          refine hK.out _ _ (S.e2 BK378.out) (fun hHeld => ?_)
          clear hK K
          refine S.nm 36 ?_
          refine S.oN 18 37 #[true, true, true, true, true, true, true, true, true, true, true, true, true, true, true, true, true, true, true, false, false] (fun K hK => ?_)
          refine S.go Try.func62 #[.int .i64 ((rd_T85 l1 x15_1).f1), .int .i64 t380, .int .i64 60] ?_
          with_reducible refine (impl_InRange.calls ((rd_T85 l1 x15_1).f1) t380 60 false _ A18.out).mono ?_
          rintro e w' ⟨rfl, ⟨nd, rfl⟩⟩
          refine ⟨_, rfl, ?_⟩
          refine hK.out _ _ (S.e2 BK378.out) (fun hHeld => ?_)
          clear hK K
          refine S.nm 37 ?_
          refine S.pS 19 38 ?_
          refine S.pS 20 39 ?_
          refine done_ (done_of HT_.out (by kernel_rfl)) ?_
          try go_wp2
          go_ret
          exact ⟨S.eW, S.bG⟩
        ·obtain rfl := Option.some.inj H
         have p377 : 0 ≤ (x15_1 : Int) := S.oD
         have q377 : x15_1 < (l1.length : Int) := S.oD
         obtain ⟨ad377, A377_0, c377_0, e377, hx377_0, hx377_1, hl377_0, hi377_0⟩ := at_T85 (Kd.V_reads' HO_13.out).2.2 x15_1 p377 q377
         cases e377
         obtain ⟨ce377, hce377, hMe377, hcc377⟩ := Kd.V_get HO_13.out z85 x15_1 p377 (by first | exact q377 | exact S.oD | (have e_ := (Kd.V_reads' HO_13.out).1; omega))
         obtain ⟨ua377_0, uc377_0, rfl, ul377_0, ge377_0⟩ := k85_openF hMe377
         have hv377_0 := hcc377 0 _ rfl
         rw [Nat.add_zero] at hv377_0
         replace hv377_0 := Option.some.inj (hv377_0.symm.trans hx377_0)
         injection hv377_0 with hva_ hvn_ hvc_
         rw [hva_] at ge377_0
         rw [hvc_] at ul377_0
         have HL377_0 := Aside0.mk (show Kd.V (Kd.int .i64) 3 _ w.heap.size _ _ ((rd_T85 l1 x15_1).f0) from Kd.V_mk ul377_0 ge377_0)
         clear hva_ hvn_ hvc_ ge377_0 ul377_0
         clear hcc377 hce377
         have HR377_0 := Aside0.mk hi377_0
         have HC377_0 := Aside0.mk hl377_0
         clear hi377_0 hl377_0
         replace p377 := eq_true p377
         replace q377 := eq_true q377
         try go_wp2_with (first | ((with_reducible refine gate_dst (N := 7) rfl ?_); refine S.bx 7 (cs := #[.slice none 0 0, .int .i64 0]) (t := 85) ?_; intro gb378 hg w35 hbox hb; replace HO_5 := Aside0.mk (Kd.N_below (Kd.N_elderB (by (with_reducible repeat (first | apply Kd.N_alloc | apply Kd.N_drewN | apply Kd.N_drew)); exact HO_5.out) gb378 (Nat.le_of_eq hg.symm)) hb); replace HO_13 := Aside0.mk (Kd.V_below (Kd.V_elderB (S.uV HO_13.out) gb378 (Nat.le_of_eq hg.symm)) hb); replace HL377_0 := Aside0.mk (Kd.V_below (Kd.V_elderB (S.uV HL377_0.out) gb378 (Nat.le_of_eq hg.symm)) hb); replace HR377_0 := Aside0.mk (Kd.C_below (by repeat (first | (with_reducible exact HR377_0.out) | (with_reducible refine Kd.C_alloc ?_ _) | (with_reducible refine Kd.C_drewN ?_ _) | (with_reducible refine Kd.C_drew ?_) | exact HR377_0.out)) hb); have BK378 := Aside0.mk hbox; have GW378 := S.geA hg; have GE378 := S.geA hg; replace HB := S.sA hb; clear hb hbox hg; obtain ⟨Z36a, Z36b, Y36a, Y36b⟩ := S.c2 BK378.out))
         have n0_ : Aside0 (Kd.N (Kd.slice 3 (Kd.int .i64)) 36 ((w35.setCell ⟨gb378, 0, none⟩ (.slice A377_0 ((rd_T85 l1 x15_1).f0).length c377_0)).setCell ⟨gb378, 1, none⟩ (.int .i64 ((rd_T85 l1 x15_1).f1))) w.heap.size (fun k_ => (P1_ k_ ∨ w.heap.size ≤ k_) ∧ k_ ≠ gb378) u5 x5_1) := ⟨by (with_reducible repeat (first | apply Kd.N_alloc | apply Kd.N_drewN | apply Kd.N_drew)); exact Kd.N_mono (Kd.N_far (p := ⟨gb378, 1, none⟩) (Kd.N_far (p := ⟨gb378, 0, none⟩) (Kd.N_mono HO_5.out (fun k_ hk => (⟨hk, hk.2⟩ : _ ∧ k_ ≠ gb378))) (fun _ hk => hk.2) (.slice A377_0 ((rd_T85 l1 x15_1).f0).length c377_0)) (fun _ hk => hk.2) (.int .i64 ((rd_T85 l1 x15_1).f1))) (fun _ hk => ⟨hk.1.1, hk.1.2⟩)⟩
         have n1_ : Aside0 (Kd.V k85 85 ((w35.setCell ⟨gb378, 0, none⟩ (.slice A377_0 ((rd_T85 l1 x15_1).f0).length c377_0)).setCell ⟨gb378, 1, none⟩ (.int .i64 ((rd_T85 l1 x15_1).f1))) w.heap.size (fun k_ => (P1_ k_ ∨ w.heap.size ≤ k_) ∧ some k_ ≠ (u5 : Value).ownBlock ∧ k_ ≠ gb378) (.slice (some ad377) l1.length c1) l1) := ⟨by (with_reducible repeat (first | apply Kd.V_alloc | apply Kd.V_drewN | apply Kd.V_drew)); exact Kd.V_mono (Kd.V_far (p := ⟨gb378, 1, none⟩) (Kd.V_far (p := ⟨gb378, 0, none⟩) (Kd.V_mono HO_13.out (fun k_ hk => (⟨hk, hk.2⟩ : _ ∧ k_ ≠ gb378))) (fun _ hk => hk.2) (.slice A377_0 ((rd_T85 l1 x15_1).f0).length c377_0)) (fun _ hk => hk.2) (.int .i64 ((rd_T85 l1 x15_1).f1))) (fun _ hk => ⟨hk.1.1.1, ⟨hk.1.1.2, hk.1.2⟩⟩)⟩
         have n2_ : Aside0 (Kd.V (Kd.int .i64) 3 ((w35.setCell ⟨gb378, 0, none⟩ (.slice A377_0 ((rd_T85 l1 x15_1).f0).length c377_0)).setCell ⟨gb378, 1, none⟩ (.int .i64 ((rd_T85 l1 x15_1).f1))) w.heap.size (fun k_ => (P1_ k_ ∨ w.heap.size ≤ k_) ∧ some k_ ≠ (u5 : Value).ownBlock ∧ k_ ≠ gb378) (.slice A377_0 ((rd_T85 l1 x15_1).f0).length c377_0) ((rd_T85 l1 x15_1).f0)) := ⟨by (with_reducible repeat (first | apply Kd.V_alloc | apply Kd.V_drewN | apply Kd.V_drew)); exact Kd.V_mono (Kd.V_far (p := ⟨gb378, 1, none⟩) (Kd.V_far (p := ⟨gb378, 0, none⟩) (Kd.V_mono HL377_0.out (fun k_ hk => (⟨hk, hk.2⟩ : _ ∧ k_ ≠ gb378))) (fun _ hk => hk.2) (.slice A377_0 ((rd_T85 l1 x15_1).f0).length c377_0)) (fun _ hk => hk.2) (.int .i64 ((rd_T85 l1 x15_1).f1))) (fun _ hk => ⟨hk.1.1.1, ⟨hk.1.1.2, hk.1.2⟩⟩)⟩
         have n3_ : Aside0 (((w35.setCell ⟨gb378, 0, none⟩ (.slice A377_0 ((rd_T85 l1 x15_1).f0).length c377_0)).setCell ⟨gb378, 1, none⟩ (.int .i64 ((rd_T85 l1 x15_1).f1))).heap[gb378]? = some (.cells #[.slice A377_0 ((rd_T85 l1 x15_1).f0).length c377_0, .int .i64 ((rd_T85 l1 x15_1).f1)] 85 (0, 0))) := ⟨S.up2 BK378⟩
         have n4_ : Aside0 (Below w.heap.size w ((w35.setCell ⟨gb378, 0, none⟩ (.slice A377_0 ((rd_T85 l1 x15_1).f0).length c377_0)).setCell ⟨gb378, 1, none⟩ (.int .i64 ((rd_T85 l1 x15_1).f1)))) := ⟨S.bG⟩
         (try clear HO_5)
         (try clear HO_13)
         (try clear HL377_0)
         (try clear BK378)
         (try clear HB)
         generalize ((w35.setCell ⟨gb378, 0, none⟩ (.slice A377_0 ((rd_T85 l1 x15_1).f0).length c377_0)).setCell ⟨gb378, 1, none⟩ (.int .i64 ((rd_T85 l1 x15_1).f1))) = w37 at n0_ n1_ n2_ n3_ n4_ ⊢
         have HO_5 := n0_
         have HO_13 := n1_
         have HL377_0 := n2_
         have BK378 := n3_
         have HB := n4_
         clear n0_ n1_ n2_ n3_ n4_
         replace HO_5 := Aside0.mk (Kd.N_drew HO_5.out)
         replace HO_13 := Aside0.mk (Kd.V_drew HO_13.out)
         replace HL377_0 := Aside0.mk (Kd.V_drew HL377_0.out)
         replace BK378 := Aside0.mk (blk_drew BK378.out)
         replace HB := Aside0.mk (below_drew1 HB.out)
         refine S.st (n := 21) (ds := []) #[false, false, false, false, false, false, false, false, false, false, false, false, false, false, false, false, false, false, false, false, false] (fun w_ h_ => have x_ := S.e2 (S.Q h_ BK378.out); x_) (fun hHeld => ?_); refine with_tabW impl_IsPlan.tab7 impl_IsPlan.bits7 (fun HT_ HW_ => ?_)
         generalize w37.drew = w38 at HO_5 HO_13 HL377_0 BK378 HB hHeld ⊢
         refine S.pS 0 19 ?_
         refine S.tK 1 20 #[true, true, false, false, false, false, false, false, false, false, false, false, false, false, false, false, false, false, false, false, false] ?_
         refine S.pS 2 21 ?_
         refine S.pS 3 22 ?_
         refine S.pS 4 23 ?_
         refine S.pS 5 24 ?_
         refine S.pS 6 25 ?_
         refine S.tK 7 26 #[true, true, true, true, true, true, true, true, false, false, false, false, false, false, false, false, false, false, false, false, false] ?_
         refine S.oN 8 27 #[true, true, true, true, true, true, true, true, true, false, false, false, false, false, false, false, false, false, false, false, false] (fun K hK => ?_)
         refine S.go Try.func104 #[.slice A0 l0.length c0, .slice A377_0 ((rd_T85 l1 x15_1).f0).length c377_0] ?_
         with_reducible refine (impl_IsTogether.calls k1 _ _ l0 _ _ ((rd_T85 l1 x15_1).f0) false _ ?s1 ?s2 ?s3 ?s4 A15.out).mono ?_
         (case s1 => exact S.cA HR0.out)
         (case s2 => exact HC0.out)
         (case s3 => repeat (first | exact ((Kd.V_reads' (S.uV HL377_0.out)).2.2) | (with_reducible refine Kd.C_alloc ?_ _) | (with_reducible refine Kd.C_drewN ?_ _) | (with_reducible refine Kd.C_drew ?_)))
         (case s4 => exact HC377_0.out)
         rintro e w39 ⟨rfl, hb⟩
         refine ⟨_, rfl, ?_⟩
         replace HO_5 := Aside0.mk (Kd.N_below (by (with_reducible repeat (first | apply Kd.N_alloc | apply Kd.N_drewN | apply Kd.N_drew)); exact HO_5.out) hb)
         replace HO_13 := Aside0.mk (Kd.V_below (S.uV HO_13.out) hb)
         replace HL377_0 := Aside0.mk (Kd.V_below (S.uV HL377_0.out) hb)
         replace BK378 := S.kb BK378 hb
         replace HB := S.sG hb
         (try clear hb)
         (try clear hb2)
         (try clear hk)
         (try clear hi)
         refine hK.out _ _ (S.e2 BK378.out) (fun hHeld => ?_)
         clear hK K
         refine S.nm 27 ?_
         refine S.pS 9 28 ?_
         refine S.pS 10 29 ?_
         refine S.pS 11 30 ?_
         refine S.pU 12 31 ?_
         refine S.pU 13 32 ?_
         refine S.pU 14 33 ?_
         refine S.pU 15 34 ?_
         refine S.pU 16 35 ?_
         refine S.pU 17 36 ?_
         refine S.pU 18 37 ?_
         refine S.pU 19 38 ?_
         refine S.pS 20 39 ?_
         refine done_ (done_of HT_.out (by kernel_rfl)) ?_
         try go_wp2
         go_ret
         exact ⟨S.eW, S.bG⟩
      ·rw [if_neg c9] at H
       exact absurd H (by simp)
     ·rw [if_neg c8] at H
      exact absurd H (by simp)
    ·replace H := Option.bind_eq_some_iff.mp H
     obtain ⟨t376, A400, H⟩ := H
     replace H : (some t376) = some r := H
     have A40 := Aside0.mk A400
     clear A400
     obtain rfl := Option.some.inj H
     obtain ⟨Ao41, co41, eo41⟩ := Kd.N_slice HO_5.out
     subst eo41
     go_wp2_with (first | ((with_reducible refine gate_callee (f := 106) rfl ?_); refine S.gL (some 48) Try.func106 #[.slice A0 l0.length c0, .slice Ao41 x5_1.length co41] ?_; (with_reducible refine (impl_Covers.calls k1 _ _ l0 _ _ x5_1 t376 _ ?s1 HC0.out ?s3 ?s4 A40.out).mono ?_); (case s1 => exact S.cA HR0.out); (case s3 => repeat (first | exact (Kd.N_reads' HO_5.out).2.2 | (with_reducible refine Kd.C_alloc ?_ _) | (with_reducible refine Kd.C_drewN ?_ _) | (with_reducible refine Kd.C_drew ?_))); (case s4 => exact (Kd.N_reads' HO_5.out).2.1); rintro e w42 ⟨rfl, hb⟩; refine ⟨_, rfl, ?_⟩; replace HO_5 := Aside0.mk (Kd.N_below (by (with_reducible repeat (first | apply Kd.N_alloc | apply Kd.N_drewN | apply Kd.N_drew)); exact HO_5.out) hb); replace HO_13 := Aside0.mk (Kd.V_below (S.uV HO_13.out) hb); replace HB := S.sA hb; (try clear hb)))
     go_ret
     exact ⟨S.eW, S.bA⟩
 ·obtain rfl := Option.some.inj H
  go_enter Try.func68, Try.ntmps68
  go_wp2_with (first | ((with_reducible refine gate_callee (f := 62) rfl ?_); refine S.gL (some 10) Try.func62 #[.int .i64 (l1.length : Int), .int .i64 1, .int .i64 6] ?_; (with_reducible refine (impl_InRange.calls (l1.length : Int) 1 6 false _ A3.out).mono ?_); rintro e w' ⟨rfl, ⟨nd, rfl⟩⟩; refine ⟨_, rfl, ?_⟩))
  go_ret
  exact ⟨S.eW, S.bA⟩

end Go.Proofs.Ytjgigmghcfdomaa.PFnExactMakeSwitch
