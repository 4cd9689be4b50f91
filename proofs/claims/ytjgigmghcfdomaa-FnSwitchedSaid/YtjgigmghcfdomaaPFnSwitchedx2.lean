/- Printed by a program: what the Go functions compute, as plain Lean functions (.f), and the proofs that the machine's calls come to just that (.calls). -/
import Derived.Test.YtjgigmghcfdomaaPFnSwitchedx0
import Derived.Test.YtjgigmghcfdomaaPFnSwitchedx1
namespace Go.Proofs.Ytjgigmghcfdomaa.PFnSwitched
open Go.RowKit Go.Proofs.YtjgigmghcfdomaaW.PrintWords Go.Proofs.YtjgigmghcfdomaaW.PrintLast Go.Proofs.YtjgigmghcfdomaaW.PrintMore
attribute [local go_sem] max2_int min2_int max_two min_two max_three min_three max_four min_four   -- for this text's walks alone
set_option linter.unusedVariables false
set_option linter.unusedSimpArgs false
set_option maxHeartbeats 8000000
set_option maxRecDepth 100000
/-! ### impl_IsPlan: function 68 -/
def impl_IsPlan.l0 : Nat → List (S71) → List (List Int) → List (S85) → Int → Int → Option (Bool)
 | 0, _, _, _, _, _ => none
 | k + 1, x0, x5, x13, x14, x15 => if x15 < x14 then (if 0 ≤ x15 then (if x15 < (x13.length : Int) then (if (((rd_T85 x13 x15).f0).length : Int) = 0 then (some false) else ((impl_IsTogether.f k x0 ((rd_T85 x13 x15).f0)).bind fun t162 => (if t162 = true then ((impl_LeastGreen.f k x0 ((rd_T85 x13 x15).f0)).bind fun t163 => ((impl_InRange.f ((rd_T85 x13 x15).f1) t163 60).bind fun t164 => (if t164 = true then (if x5.length < 5864062014805 then (impl_IsPlan.l0 k x0 (x5 ++ [(rd_T85 x13 x15).f0]) x13 x14 (wrap64 (x15 + 1))) else (none)) else (some false)))) else (some false)))) else (none)) else (none)) else ((impl_Covers.f k x0 x5).bind fun t159 => (some t159))
def impl_IsPlan.f (k : Nat) (l0 : List (S71)) (l1 : List (S85)) : Option (Bool) := (impl_InRange.f (l1.length : Int) 1 6).bind fun t155 => (if t155 = true then (impl_IsPlan.l0 k l0 (([] : List (List Int))) l1 (l1.length : Int) 0) else (some false))
def impl_IsPlan.T7 : Bool × List (List Nat × List Nat) := (true, [([], []), ([0], [0]), ([1], [1]), ([2], [2]), ([3], [3]), ([4], [4]), ([4], [4]), ([6, 4], [4, 6]), ([5, 7, 4, 4], [4, 5, 7]), ([8, 4], [4, 8]), ([4, 9], [4, 9]), ([10, 8], [10]), ([11], [11]), ([12, 11], [11, 12]), ([11], [11]), ([11], [11]), ([15, 11], [11, 15]), ([14, 16, 11, 11], [11, 14, 16]), ([13, 17, 17, 11], [11, 13, 17]), ([18, 11], [11, 18]), ([11, 19], [11, 19])])
def impl_IsPlan.B7 : List Nat := [0, 1, 3, 7, 15, 31, 31, 95, 255, 511, 1023, 2047, 4095, 8191, 4095, 4095, 36863, 118783, 262143, 524287, 1048575]
theorem impl_IsPlan.tab7 : rtab .any (opsOf Try.f68 7) = impl_IsPlan.T7 := by kernel_rfl
theorem impl_IsPlan.bits7 : waitsOk impl_IsPlan.T7.2 impl_IsPlan.B7 = true := by kernel_rfl
theorem impl_IsPlan.calls (k : Nat) (A0 : Option Addr) (c0 : Nat) (l0 : List (S71)) (P1_ : Nat → Prop) (A1 : Option Addr) (c1 : Nat) (l1 : List (S85)) (r : Bool) (w : World) (hr0 : Kd.C k71 w A0 l0.length l0) (hc0 : l0.length ≤ c0) (hs1 : Kd.V k85 85 w w.heap.size (fun k_ => P1_ k_) (.slice A1 l1.length c1) l1) (h : impl_IsPlan.f k l0 l1 = some r) :
  Calls Try.prog 68 #[.slice A0 l0.length c0, .slice A1 l1.length c1] w fun e w' => e = .returned (.bool r) ∧ Below w.heap.size w w' := by
 have hu85 := Try.underlying85
 have HR0 := Aside0.mk hr0
 have HC0 := Aside0.mk hc0
 clear hr0 hc0
 have HO1 := Aside0.mk (show Kd.V k85 85 w w.heap.size (fun k_ => (P1_ k_ ∨ w.heap.size ≤ k_)) (.slice A1 l1.length c1) l1 from Kd.V_mono hs1 (fun k_ hk => .inl hk))
 have HB := Aside0.mk (Below.refl w.heap.size w)
 have H : ((impl_InRange.f (l1.length : Int) 1 6).bind fun t155 => (if t155 = true then (impl_IsPlan.l0 k l0 (([] : List (List Int))) l1 (l1.length : Int) 0) else (some false))) = some r := h
 clear h
 replace H := S.bd H; obtain ⟨t155, A3, H⟩ := H
 (try dsimp only at H)
 replace H := S.db H; rcases H with ⟨rfl, H⟩ | ⟨rfl, H⟩
 ·obtain ⟨y156, hy156⟩ : ∃ y_ : List (List Int), y_ = (([] : List (List Int))) := ⟨_, rfl⟩
  have hY_ := hy156; replace H : (impl_IsPlan.l0 k l0 y156 l1 (l1.length : Int) 0) = some r := S.rh; clear hY_
  have Ny156 := Aside0.mk hy156
  clear hy156
  have H' := Aside0.mk H
  clear H
  go_enter Try.func68, Try.ntmps68
  go_wp2_with (first | ((with_reducible refine gate_callee (f := 62) rfl ?_); refine S.gL (some 10) Try.func62 #[.int .i64 (l1.length : Int), .int .i64 1, .int .i64 6] ?_; (with_reducible refine (impl_InRange.calls (l1.length : Int) 1 6 true _ A3.out).mono ?_); rintro e w' ⟨rfl, ⟨nd, rfl⟩⟩; refine ⟨_, rfl, ?_⟩) | ((with_reducible refine gate_dst (N := 12) rfl ?_); refine Kd.N_lit (Kd.slice 3 (Kd.int .i64)) _ 36 ?hg (N' := 12) ?hd (xs := ([] : List (List Int))) (inner := []) (ok := (fun k_ => (P1_ k_ ∨ w.heap.size ≤ k_))) (okp := (fun k_ => (P1_ k_ ∨ w.heap.size ≤ k_))) ?hr ?hp (fun _ hk => hk) ((show ∀ k_, w.heap.size ≤ k_ → (fun k_ => (P1_ k_ ∨ w.heap.size ≤ k_)) k_ from fun k_ hk => (.inr (Nat.le_trans (below_size S.bA) hk))) _ (Nat.le_refl _)) (Below.refl _ _) (Nat.le_refl _) (by simp) ?_; (case hd => rfl); (case hg => rfl); (case hr => first | (go_simp; done) | (go_simp; rfl)); (case hp => exact (Reps.none _ _)); intro v157 w5 ho6 hb hg_ hnew_; clear hg_ hnew_; (first | rw [← Ny156.out] at ho6 | (simp only [Int.reduceToNat] at ho6; rw [← Ny156.out] at ho6)); replace HO1 := Aside0.mk (Kd.V_elder' (S.uV HO1.out) (Kd.N_base ho6) hb); have HO158 := Aside0.mk (Kd.N_lower ho6 (below_size S.bA)); replace HB := S.sA hb; clear hb ho6))
  go_loopg [5, 15] k (fun kq v5 v15 w' => ∃ (x5_1 : List (List Int)) (x15_1 : Int), v15 = .int .i64 x15_1 ∧ Aside0 (impl_IsPlan.l0 kq l0 x5_1 l1 (l1.length : Int) x15_1 = some r) ∧ Aside0 (kq ≤ k) ∧ Aside0 (Kd.N (Kd.slice 3 (Kd.int .i64)) 36 w' w.heap.size (fun k_ => (P1_ k_ ∨ w.heap.size ≤ k_)) v5 x5_1) ∧ Aside0 (Kd.V k85 85 w' w.heap.size (fun k_ => (P1_ k_ ∨ w.heap.size ≤ k_) ∧ S.N k_ v5) (.slice A1 l1.length c1) l1) ∧ Aside0 (Below w.heap.size w w'))
  case atStart => exact ⟨(y156), (0), S.eA, H', ⟨Nat.le_refl _⟩, ⟨by (with_reducible repeat (first | apply Kd.N_alloc | apply Kd.N_drewN | apply Kd.N_drew)); exact HO158.out⟩, ⟨S.uV HO1.out⟩, ⟨S.bA⟩⟩
  case round =>
   clear H'
   try clear c1
   try clear c4
   obtain ⟨x5_1, x15_1, rfl, HA, HK1, HO_5, HO_13, HB⟩ := hrel
   cases gk with
   | zero => exact absurd HA.out (by simp [impl_IsPlan.l0])
   | succ k1 =>
    have H := HA.out
    clear HA
    simp only [impl_IsPlan.l0] at H
    replace H := S.dc H; rcases H with ⟨H, c7b0⟩ | ⟨H, c7b0⟩
    ·by_cases c8 : 0 ≤ x15_1
     ·rw [if_pos c8] at H
      have c8b0 : decide (0 ≤ x15_1) = true := decide_eq_true c8
      clear c8
      by_cases c9 : x15_1 < (l1.length : Int)
      ·rw [if_pos c9] at H
       have c9b0 : decide (x15_1 < (l1.length : Int)) = true := decide_eq_true c9
       clear c9
       by_cases c10 : (((rd_T85 l1 x15_1).f0).length : Int) = 0
       ·rw [if_pos c10] at H
        have c10b0 : ((((rd_T85 l1 x15_1).f0).length : Int) == 0) = true := beq_iff_eq.mpr c10
        have c10b1 : ((((rd_T85 l1 x15_1).f0).length : Int) != 0) = false := bne_eq_false_iff_eq.mpr c10
        clear c10
        obtain rfl := Option.some.inj H
        have p160 : 0 ≤ (x15_1 : Int) := S.oD
        have q160 : x15_1 < (l1.length : Int) := S.oD
        obtain ⟨ad160, A160_0, c160_0, e160, hx160_0, hx160_1, hl160_0, hi160_0⟩ := at_T85 (Kd.V_reads' HO_13.out).2.2 x15_1 p160 q160
        cases e160
        obtain ⟨ce160, hce160, hMe160, hcc160⟩ := Kd.V_get HO_13.out z85 x15_1 p160 (by first | exact q160 | exact S.oD | (have e_ := (Kd.V_reads' HO_13.out).1; omega))
        obtain ⟨ua160_0, uc160_0, rfl, ul160_0, ge160_0⟩ := k85_openF hMe160
        have hv160_0 := hcc160 0 _ rfl
        rw [Nat.add_zero] at hv160_0
        replace hv160_0 := Option.some.inj (hv160_0.symm.trans hx160_0)
        injection hv160_0 with hva_ hvn_ hvc_
        rw [hva_] at ge160_0
        rw [hvc_] at ul160_0
        have HL160_0 := Aside0.mk (show Kd.V (Kd.int .i64) 3 _ w.heap.size _ _ ((rd_T85 l1 x15_1).f0) from Kd.V_mk ul160_0 ge160_0)
        clear hva_ hvn_ hvc_ ge160_0 ul160_0
        clear hcc160 hce160
        have HR160_0 := Aside0.mk hi160_0
        have HC160_0 := Aside0.mk hl160_0
        clear hi160_0 hl160_0
        replace p160 := eq_true p160
        replace q160 := eq_true q160
        try go_wp2_with (first | ((with_reducible refine gate_dst (N := 7) rfl ?_); refine S.bx 7 (cs := #[.slice none 0 0, .int .i64 0]) (t := 85) ?_; intro gb161 hg w11 hbox hb; replace HO_5 := Aside0.mk (Kd.N_below (Kd.N_elderB (by (with_reducible repeat (first | apply Kd.N_alloc | apply Kd.N_drewN | apply Kd.N_drew)); exact HO_5.out) gb161 (Nat.le_of_eq hg.symm)) hb); replace HO_13 := Aside0.mk (Kd.V_below (Kd.V_elderB (S.uV HO_13.out) gb161 (Nat.le_of_eq hg.symm)) hb); replace HL160_0 := Aside0.mk (Kd.V_below (Kd.V_elderB (S.uV HL160_0.out) gb161 (Nat.le_of_eq hg.symm)) hb); replace HR160_0 := Aside0.mk (Kd.C_below (by repeat (first | (with_reducible exact HR160_0.out) | (with_reducible refine Kd.C_alloc ?_ _) | (with_reducible refine Kd.C_drewN ?_ _) | (with_reducible refine Kd.C_drew ?_) | exact HR160_0.out)) hb); have BK161 := Aside0.mk hbox; have GW161 := S.geA hg; have GE161 := S.geA hg; replace HB := S.sA hb; clear hb hbox hg; obtain ⟨Z12a, Z12b, Y12a, Y12b⟩ := S.c2 BK161.out))
        have n0_ : Aside0 (Kd.N (Kd.slice 3 (Kd.int .i64)) 36 ((w11.setCell ⟨gb161, 0, none⟩ (.slice A160_0 ((rd_T85 l1 x15_1).f0).length c160_0)).setCell ⟨gb161, 1, none⟩ (.int .i64 ((rd_T85 l1 x15_1).f1))) w.heap.size (fun k_ => (P1_ k_ ∨ w.heap.size ≤ k_) ∧ k_ ≠ gb161) u5 x5_1) := ⟨by (with_reducible repeat (first | apply Kd.N_alloc | apply Kd.N_drewN | apply Kd.N_drew)); exact Kd.N_mono (Kd.N_far (p := ⟨gb161, 1, none⟩) (Kd.N_far (p := ⟨gb161, 0, none⟩) (Kd.N_mono HO_5.out (fun k_ hk => (⟨hk, hk.2⟩ : _ ∧ k_ ≠ gb161))) (fun _ hk => hk.2) (.slice A160_0 ((rd_T85 l1 x15_1).f0).length c160_0)) (fun _ hk => hk.2) (.int .i64 ((rd_T85 l1 x15_1).f1))) (fun _ hk => ⟨hk.1.1, hk.1.2⟩)⟩
        have n1_ : Aside0 (Kd.V k85 85 ((w11.setCell ⟨gb161, 0, none⟩ (.slice A160_0 ((rd_T85 l1 x15_1).f0).length c160_0)).setCell ⟨gb161, 1, none⟩ (.int .i64 ((rd_T85 l1 x15_1).f1))) w.heap.size (fun k_ => (P1_ k_ ∨ w.heap.size ≤ k_) ∧ some k_ ≠ (u5 : Value).ownBlock ∧ k_ ≠ gb161) (.slice (some ad160) l1.length c1) l1) := ⟨by (with_reducible repeat (first | apply Kd.V_alloc | apply Kd.V_drewN | apply Kd.V_drew)); exact Kd.V_mono (Kd.V_far (p := ⟨gb161, 1, none⟩) (Kd.V_far (p := ⟨gb161, 0, none⟩) (Kd.V_mono HO_13.out (fun k_ hk => (⟨hk, hk.2⟩ : _ ∧ k_ ≠ gb161))) (fun _ hk => hk.2) (.slice A160_0 ((rd_T85 l1 x15_1).f0).length c160_0)) (fun _ hk => hk.2) (.int .i64 ((rd_T85 l1 x15_1).f1))) (fun _ hk => ⟨hk.1.1.1, ⟨hk.1.1.2, hk.1.2⟩⟩)⟩
        have n2_ : Aside0 (Kd.V (Kd.int .i64) 3 ((w11.setCell ⟨gb161, 0, none⟩ (.slice A160_0 ((rd_T85 l1 x15_1).f0).length c160_0)).setCell ⟨gb161, 1, none⟩ (.int .i64 ((rd_T85 l1 x15_1).f1))) w.heap.size (fun k_ => (P1_ k_ ∨ w.heap.size ≤ k_) ∧ some k_ ≠ (u5 : Value).ownBlock ∧ k_ ≠ gb161) (.slice A160_0 ((rd_T85 l1 x15_1).f0).length c160_0) ((rd_T85 l1 x15_1).f0)) := ⟨by (with_reducible repeat (first | apply Kd.V_alloc | apply Kd.V_drewN | apply Kd.V_drew)); exact Kd.V_mono (Kd.V_far (p := ⟨gb161, 1, none⟩) (Kd.V_far (p := ⟨gb161, 0, none⟩) (Kd.V_mono HL160_0.out (fun k_ hk => (⟨hk, hk.2⟩ : _ ∧ k_ ≠ gb161))) (fun _ hk => hk.2) (.slice A160_0 ((rd_T85 l1 x15_1).f0).length c160_0)) (fun _ hk => hk.2) (.int .i64 ((rd_T85 l1 x15_1).f1))) (fun _ hk => ⟨hk.1.1.1, ⟨hk.1.1.2, hk.1.2⟩⟩)⟩
        have n3_ : Aside0 (((w11.setCell ⟨gb161, 0, none⟩ (.slice A160_0 ((rd_T85 l1 x15_1).f0).length c160_0)).setCell ⟨gb161, 1, none⟩ (.int .i64 ((rd_T85 l1 x15_1).f1))).heap[gb161]? = some (.cells #[.slice A160_0 ((rd_T85 l1 x15_1).f0).length c160_0, .int .i64 ((rd_T85 l1 x15_1).f1)] 85 (0, 0))) := ⟨S.up2 BK161⟩
        have n4_ : Aside0 (Below w.heap.size w ((w11.setCell ⟨gb161, 0, none⟩ (.slice A160_0 ((rd_T85 l1 x15_1).f0).length c160_0)).setCell ⟨gb161, 1, none⟩ (.int .i64 ((rd_T85 l1 x15_1).f1)))) := ⟨S.bG⟩
        (try clear HO_5)
        (try clear HO_13)
        (try clear HL160_0)
        (try clear BK161)
        (try clear HB)
        generalize ((w11.setCell ⟨gb161, 0, none⟩ (.slice A160_0 ((rd_T85 l1 x15_1).f0).length c160_0)).setCell ⟨gb161, 1, none⟩ (.int .i64 ((rd_T85 l1 x15_1).f1))) = w13 at n0_ n1_ n2_ n3_ n4_ ⊢
        have HO_5 := n0_
        have HO_13 := n1_
        have HL160_0 := n2_
        have BK161 := n3_
        have HB := n4_
        clear n0_ n1_ n2_ n3_ n4_
        replace HO_5 := Aside0.mk (Kd.N_drew HO_5.out)
        replace HO_13 := Aside0.mk (Kd.V_drew HO_13.out)
        replace HL160_0 := Aside0.mk (Kd.V_drew HL160_0.out)
        replace BK161 := Aside0.mk (blk_drew BK161.out)
        replace HB := Aside0.mk (below_drew1 HB.out)
        refine S.st (n := 21) (ds := []) #[false, false, false, false, false, false, false, false, false, false, false, false, false, false, false, false, false, false, false, false, false] (fun w_ h_ => have x_ := S.e2 (S.Q h_ BK161.out); x_) (fun hHeld => ?_); refine with_tabW impl_IsPlan.tab7 impl_IsPlan.bits7 (fun HT_ HW_ => ?_)
        generalize w13.drew = w14 at HO_5 HO_13 HL160_0 BK161 HB hHeld ⊢
        refine S.pS 0 19 ?_
        refine S.tK 1 20 #[true, true, false, false, false, false, false, false, false, false, false, false, false, false, false, false, false, false, false, false, false] ?_
        refine S.pS 2 21 ?_
        refine S.pS 3 22 ?_
        refine S.pS 4 23 ?_
        refine S.pU 5 24 ?_
        refine S.pU 6 25 ?_
        refine S.pU 7 26 ?_
        refine S.pU 8 27 ?_
        refine S.pU 9 28 ?_
        refine S.pS 10 29 ?_
        refine S.pS 11 30 ?_
        refine S.pU 12 31 ?_
        refine S.pU 13 32 ?_
        refine S.pU 14 33 ?_
        refine S.pU 15 34 ?_
        refine S.pU 16 35 ?_
        refine S.pU 17 36 ?_
        refine S.pU 18 37 ?_
        refine S.pU 19 38 ?_
        refine S.pS 20 39 ?_
        refine done_ (done_of HT_.out (by kernel_rfl)) ?_
        try go_wp2
        go_ret
        exact ⟨S.eW, S.bG⟩
       ·rw [if_neg c10] at H
        have c10b0 : ((((rd_T85 l1 x15_1).f0).length : Int) == 0) = false := beq_eq_false_iff_ne.mpr c10
        have c10b1 : ((((rd_T85 l1 x15_1).f0).length : Int) != 0) = true := bne_iff_ne.mpr c10
        have c10b2 : ¬ (((rd_T85 l1 x15_1).f0) = []) := fun h_ => c10 (by rw [h_]; rfl)
        replace H := S.bd H; obtain ⟨t162, A15, H⟩ := H
        (try dsimp only at H)
        replace H := S.db H; rcases H with ⟨rfl, H⟩ | ⟨rfl, H⟩
        ·replace H := S.bd H; obtain ⟨t163, A17, H⟩ := H
         (try dsimp only at H)
         replace H := S.bd H; obtain ⟨t164, A18, H⟩ := H
         (try dsimp only at H)
         replace H := S.db H; rcases H with ⟨rfl, H⟩ | ⟨rfl, H⟩
         ·by_cases c20 : x5_1.length < 5864062014805
          ·rw [if_pos c20] at H
           have LMc20 := Aside0.mk c20
           clear c20
           obtain ⟨y165, hy165⟩ : ∃ y_ : List (List Int), y_ = (x5_1 ++ [(rd_T85 l1 x15_1).f0]) := ⟨_, rfl⟩
           have hY_ := hy165; replace H : (impl_IsPlan.l0 k1 l0 y165 l1 (l1.length : Int) (wrap64 (x15_1 + 1))) = some r := S.rh; clear hY_
           have Ny165 := Aside0.mk hy165
           clear hy165
           have H' := Aside0.mk H
           clear H
           have p160 : 0 ≤ (x15_1 : Int) := S.oD
           have q160 : x15_1 < (l1.length : Int) := S.oD
           obtain ⟨ad160, A160_0, c160_0, e160, hx160_0, hx160_1, hl160_0, hi160_0⟩ := at_T85 (Kd.V_reads' HO_13.out).2.2 x15_1 p160 q160
           cases e160
           obtain ⟨ce160, hce160, hMe160, hcc160⟩ := Kd.V_get HO_13.out z85 x15_1 p160 (by first | exact q160 | exact S.oD | (have e_ := (Kd.V_reads' HO_13.out).1; omega))
           obtain ⟨ua160_0, uc160_0, rfl, ul160_0, ge160_0⟩ := k85_openF hMe160
           have hv160_0 := hcc160 0 _ rfl
           rw [Nat.add_zero] at hv160_0
           replace hv160_0 := Option.some.inj (hv160_0.symm.trans hx160_0)
           injection hv160_0 with hva_ hvn_ hvc_
           rw [hva_] at ge160_0
           rw [hvc_] at ul160_0
           have HL160_0 := Aside0.mk (show Kd.V (Kd.int .i64) 3 _ w.heap.size _ _ ((rd_T85 l1 x15_1).f0) from Kd.V_mk ul160_0 ge160_0)
           clear hva_ hvn_ hvc_ ge160_0 ul160_0
           clear hcc160 hce160
           have HR160_0 := Aside0.mk hi160_0
           have HC160_0 := Aside0.mk hl160_0
           clear hi160_0 hl160_0
           replace p160 := eq_true p160
           replace q160 := eq_true q160
           try go_wp2_with (first | ((with_reducible refine gate_dst (N := 7) rfl ?_); refine S.bx 7 (cs := #[.slice none 0 0, .int .i64 0]) (t := 85) ?_; intro gb161 hg w21 hbox hb; replace HO_5 := Aside0.mk (Kd.N_below (Kd.N_elderB (by (with_reducible repeat (first | apply Kd.N_alloc | apply Kd.N_drewN | apply Kd.N_drew)); exact HO_5.out) gb161 (Nat.le_of_eq hg.symm)) hb); replace HO_13 := Aside0.mk (Kd.V_below (Kd.V_elderB (S.uV HO_13.out) gb161 (Nat.le_of_eq hg.symm)) hb); replace HL160_0 := Aside0.mk (Kd.V_below (Kd.V_elderB (S.uV HL160_0.out) gb161 (Nat.le_of_eq hg.symm)) hb); replace HR160_0 := Aside0.mk (Kd.C_below (by repeat (first | (with_reducible exact HR160_0.out) | (with_reducible refine Kd.C_alloc ?_ _) | (with_reducible refine Kd.C_drewN ?_ _) | (with_reducible refine Kd.C_drew ?_) | exact HR160_0.out)) hb); have BK161 := Aside0.mk hbox; have GW161 := S.geA hg; have GE161 := S.geA hg; replace HB := S.sA hb; clear hb hbox hg; obtain ⟨Z22a, Z22b, Y22a, Y22b⟩ := S.c2 BK161.out))
           have n0_ : Aside0 (Kd.N (Kd.slice 3 (Kd.int .i64)) 36 ((w21.setCell ⟨gb161, 0, none⟩ (.slice A160_0 ((rd_T85 l1 x15_1).f0).length c160_0)).setCell ⟨gb161, 1, none⟩ (.int .i64 ((rd_T85 l1 x15_1).f1))) w.heap.size (fun k_ => (P1_ k_ ∨ w.heap.size ≤ k_) ∧ k_ ≠ gb161) u5 x5_1) := ⟨by (with_reducible repeat (first | apply Kd.N_alloc | apply Kd.N_drewN | apply Kd.N_drew)); exact Kd.N_mono (Kd.N_far (p := ⟨gb161, 1, none⟩) (Kd.N_far (p := ⟨gb161, 0, none⟩) (Kd.N_mono HO_5.out (fun k_ hk => (⟨hk, hk.2⟩ : _ ∧ k_ ≠ gb161))) (fun _ hk => hk.2) (.slice A160_0 ((rd_T85 l1 x15_1).f0).length c160_0)) (fun _ hk => hk.2) (.int .i64 ((rd_T85 l1 x15_1).f1))) (fun _ hk => ⟨hk.1.1, hk.1.2⟩)⟩
           have n1_ : Aside0 (Kd.V k85 85 ((w21.setCell ⟨gb161, 0, none⟩ (.slice A160_0 ((rd_T85 l1 x15_1).f0).length c160_0)).setCell ⟨gb161, 1, none⟩ (.int .i64 ((rd_T85 l1 x15_1).f1))) w.heap.size (fun k_ => (P1_ k_ ∨ w.heap.size ≤ k_) ∧ some k_ ≠ (u5 : Value).ownBlock ∧ k_ ≠ gb161) (.slice (some ad160) l1.length c1) l1) := ⟨by (with_reducible repeat (first | apply Kd.V_alloc | apply Kd.V_drewN | apply Kd.V_drew)); exact Kd.V_mono (Kd.V_far (p := ⟨gb161, 1, none⟩) (Kd.V_far (p := ⟨gb161, 0, none⟩) (Kd.V_mono HO_13.out (fun k_ hk => (⟨hk, hk.2⟩ : _ ∧ k_ ≠ gb161))) (fun _ hk => hk.2) (.slice A160_0 ((rd_T85 l1 x15_1).f0).length c160_0)) (fun _ hk => hk.2) (.int .i64 ((rd_T85 l1 x15_1).f1))) (fun _ hk => ⟨hk.1.1.1, ⟨hk.1.1.2, hk.1.2⟩⟩)⟩
           have n2_ : Aside0 (Kd.V (Kd.int .i64) 3 ((w21.setCell ⟨gb161, 0, none⟩ (.slice A160_0 ((rd_T85 l1 x15_1).f0).length c160_0)).setCell ⟨gb161, 1, none⟩ (.int .i64 ((rd_T85 l1 x15_1).f1))) w.heap.size (fun k_ => (P1_ k_ ∨ w.heap.size ≤ k_) ∧ some k_ ≠ (u5 : Value).ownBlock ∧ k_ ≠ gb161) (.slice A160_0 ((rd_T85 l1 x15_1).f0).length c160_0) ((rd_T85 l1 x15_1).f0)) := ⟨by (with_reducible repeat (first | apply Kd.V_alloc | apply Kd.V_drewN | apply Kd.V_drew)); exact Kd.V_mono (Kd.V_far (p := ⟨gb161, 1, none⟩) (Kd.V_far (p := ⟨gb161, 0, none⟩) (Kd.V_mono HL160_0.out (fun k_ hk => (⟨hk, hk.2⟩ : _ ∧ k_ ≠ gb161))) (fun _ hk => hk.2) (.slice A160_0 ((rd_T85 l1 x15_1).f0).length c160_0)) (fun _ hk => hk.2) (.int .i64 ((rd_T85 l1 x15_1).f1))) (fun _ hk => ⟨hk.1.1.1, ⟨hk.1.1.2, hk.1.2⟩⟩)⟩
           have n3_ : Aside0 (((w21.setCell ⟨gb161, 0, none⟩ (.slice A160_0 ((rd_T85 l1 x15_1).f0).length c160_0)).setCell ⟨gb161, 1, none⟩ (.int .i64 ((rd_T85 l1 x15_1).f1))).heap[gb161]? = some (.cells #[.slice A160_0 ((rd_T85 l1 x15_1).f0).length c160_0, .int .i64 ((rd_T85 l1 x15_1).f1)] 85 (0, 0))) := ⟨S.up2 BK161⟩
           have n4_ : Aside0 (Below w.heap.size w ((w21.setCell ⟨gb161, 0, none⟩ (.slice A160_0 ((rd_T85 l1 x15_1).f0).length c160_0)).setCell ⟨gb161, 1, none⟩ (.int .i64 ((rd_T85 l1 x15_1).f1)))) := ⟨S.bG⟩
           (try clear HO_5)
           (try clear HO_13)
           (try clear HL160_0)
           (try clear BK161)
           (try clear HB)
           generalize ((w21.setCell ⟨gb161, 0, none⟩ (.slice A160_0 ((rd_T85 l1 x15_1).f0).length c160_0)).setCell ⟨gb161, 1, none⟩ (.int .i64 ((rd_T85 l1 x15_1).f1))) = w23 at n0_ n1_ n2_ n3_ n4_ ⊢
           have HO_5 := n0_
           have HO_13 := n1_
           have HL160_0 := n2_
           have BK161 := n3_
           have HB := n4_
           clear n0_ n1_ n2_ n3_ n4_
           replace HO_5 := Aside0.mk (Kd.N_drew HO_5.out)
           replace HO_13 := Aside0.mk (Kd.V_drew HO_13.out)
           replace HL160_0 := Aside0.mk (Kd.V_drew HL160_0.out)
           replace BK161 := Aside0.mk (blk_drew BK161.out)
           replace HB := Aside0.mk (below_drew1 HB.out)
           refine S.st (n := 21) (ds := []) #[false, false, false, false, false, false, false, false, false, false, false, false, false, false, false, false, false, false, false, false, false] (fun w_ h_ => have x_ := S.e2 (S.Q h_ BK161.out); x_) (fun hHeld => ?_); refine with_tabW impl_IsPlan.tab7 impl_IsPlan.bits7 (fun HT_ HW_ => ?_)
           generalize w23.drew = w24 at HO_5 HO_13 HL160_0 BK161 HB hHeld ⊢
           refine S.pS 0 19 ?_
           refine S.tK 1 20 #[true, true, false, false, false, false, false, false, false, false, false, false, false, false, false, false, false, false, false, false, false] ?_
           refine S.pS 2 21 ?_
           refine S.pS 3 22 ?_
           refine S.pS 4 23 ?_
           refine S.pS 5 24 ?_
           refine S.pS 6 25 ?_
           refine S.tK 7 26 #[true, true, true, true, true, true, true, true, false, false, false, false, false, false, false, false, false, false, false, false, false] ?_
           refine S.oN 8 27 #[true, true, true, true, true, true, true, true, true, false, false, false, false, false, false, false, false, false, false, false, false] (fun K hK => ?_)
           refine S.go Try.func104 #[.slice A0 l0.length c0, .slice A160_0 ((rd_T85 l1 x15_1).f0).length c160_0] ?_
           with_reducible refine (impl_IsTogether.calls k1 _ _ l0 _ _ ((rd_T85 l1 x15_1).f0) true _ ?s1 ?s2 ?s3 ?s4 A15.out).mono ?_
           (case s1 => exact S.cA HR0.out)
           (case s2 => exact HC0.out)
           (case s3 => repeat (first | exact ((Kd.V_reads' (S.uV HL160_0.out)).2.2) | (with_reducible refine Kd.C_alloc ?_ _) | (with_reducible refine Kd.C_drewN ?_ _) | (with_reducible refine Kd.C_drew ?_)))
           (case s4 => exact HC160_0.out)
           rintro e w25 ⟨rfl, hb⟩
           refine ⟨_, rfl, ?_⟩
           replace HO_5 := Aside0.mk (Kd.N_below (by (with_reducible repeat (first | apply Kd.N_alloc | apply Kd.N_drewN | apply Kd.N_drew)); exact HO_5.out) hb)
           replace HO_13 := Aside0.mk (Kd.V_below (S.uV HO_13.out) hb)
           replace HL160_0 := Aside0.mk (Kd.V_below (S.uV HL160_0.out) hb)
           replace BK161 := S.kb BK161 hb
           replace HB := S.sG hb
           (try clear hb)
           (try clear hb2)
           (try clear hk)
           (try clear hi)
           refine hK.out _ _ (S.e2 BK161.out) (fun hHeld => ?_)
           clear hK K
           refine S.nm 27 ?_
           refine S.pS 9 28 ?_
           refine S.pS 10 29 ?_
           refine S.pS 11 30 ?_
           refine S.pS 12 31 ?_
           refine S.pS 14 33 ?_
           refine S.pS 15 34 ?_
           refine S.tK 13 32 #[true, true, true, true, true, true, true, true, true, true, true, true, true, true, true, true, false, false, false, false, false] ?_
           refine S.tK 16 35 #[true, true, true, true, true, true, true, true, true, true, true, true, true, true, true, true, true, false, false, false, false] ?_
           refine S.oN 17 36 #[true, true, true, true, true, true, true, true, true, true, true, true, true, true, true, true, true, true, false, false, false] (fun K hK => ?_)
           refine S.go Try.func105 #[.slice A0 l0.length c0, .slice A160_0 ((rd_T85 l1 x15_1).f0).length c160_0] ?_
           with_reducible refine (impl_LeastGreen.calls k1 _ _ l0 _ _ ((rd_T85 l1 x15_1).f0) t163 _ ?s1 ?s2 ?s3 ?s4 A17.out).mono ?_
           (case s1 => exact S.cA HR0.out)
           (case s2 => exact HC0.out)
           (case s3 => repeat (first | exact ((Kd.V_reads' (S.uV HL160_0.out)).2.2) | (with_reducible refine Kd.C_alloc ?_ _) | (with_reducible refine Kd.C_drewN ?_ _) | (with_reducible refine Kd.C_drew ?_)))
           (case s4 => exact HC160_0.out)
           rintro e w26 ⟨rfl, hb⟩
           refine ⟨_, rfl, ?_⟩
           replace HO_5 := Aside0.mk (Kd.N_below (by (with_reducible repeat (first | apply Kd.N_alloc | apply Kd.N_drewN | apply Kd.N_drew)); exact HO_5.out) hb)
           replace HO_13 := Aside0.mk (Kd.V_below (S.uV HO_13.out) hb)
           replace HL160_0 := Aside0.mk (Kd.V_below (S.uV HL160_0.out) hb)
           replace BK161 := S.kb BK161 hb
           replace HB := S.sG hb
           (try clear hb)
           (try clear hb2)
           (try clear hk)
           (try clear hi)
           refine hK.out _ _ (S.e2 BK161.out) (fun hHeld => ?_)
           clear hK K
           refine S.nm 36 ?_
           refine S.oN 18 37 #[true, true, true, true, true, true, true, true, true, true, true, true, true, true, true, true, true, true, true, false, false] (fun K hK => ?_)
           refine S.go Try.func62 #[.int .i64 ((rd_T85 l1 x15_1).f1), .int .i64 t163, .int .i64 60] ?_
           with_reducible refine (impl_InRange.calls ((rd_T85 l1 x15_1).f1) t163 60 true _ A18.out).mono ?_
           rintro e w' ⟨rfl, ⟨nd, rfl⟩⟩
           refine ⟨_, rfl, ?_⟩
           refine hK.out _ _ (S.e2 BK161.out) (fun hHeld => ?_)
           clear hK K
           refine S.nm 37 ?_
           refine S.pS 19 38 ?_
           refine S.pS 20 39 ?_
           refine done_ (done_of HT_.out (by kernel_rfl)) ?_
           obtain ⟨Z27a, Z27b, Y27a, Y27b⟩ := S.c2 BK161.out
           try go_wp2_with (first | ((with_reducible refine gate_builtin (b := .append) (xs := #[.tmp 40, .tmp 43]) rfl ?_); at_builtin; refine Kd.N_append (Kd.slice 3 (Kd.int .i64)) (w0 := w) w.heap.size rfl (.tmp 40) (.tmp 43) 111 36 (.slice none 0 0) 24 rfl Try.underlying111 info36 rfl (by decide) (by omega) u5 x5_1 ((rd_T85 l1 x15_1).f0) [.slice A160_0 ((rd_T85 l1 x15_1).f0).length c160_0] (fun k_ => (P1_ k_ ∨ w.heap.size ≤ k_) ∧ k_ ≠ gb161) (fun k_ => ((fun k_ => (P1_ k_ ∨ w.heap.size ≤ k_) ∧ k_ ≠ gb161)) k_ ∧ some k_ ≠ (u5 : Value).ownBlock) rfl rfl ?aP (fun _ hk => hk) ?aF ?aO ?aB ?aS ?aL ?_; (case aP => exact (Kd.FK_slice_mk (Kd.V_reads' (Kd.V_mono (e := 3) (base := w.heap.size) (ok' := (fun k_ => ((fun k_ => (P1_ k_ ∨ w.heap.size ≤ k_) ∧ k_ ≠ gb161)) k_ ∧ some k_ ≠ (u5 : Value).ownBlock)) (HL160_0.out) (fun k_ hk => ⟨⟨hk.1, hk.2.2⟩, hk.2.1⟩))).2.1 (Kd.V_F (Kd.V_mono (e := 3) (base := w.heap.size) (ok' := (fun k_ => ((fun k_ => (P1_ k_ ∨ w.heap.size ≤ k_) ∧ k_ ≠ gb161)) k_ ∧ some k_ ≠ (u5 : Value).ownBlock)) (HL160_0.out) (fun k_ hk => ⟨⟨hk.1, hk.2.2⟩, hk.2.1⟩))))); (case aB => exact S.bG); (case aF => exact (fun k_ hk => ⟨(.inr (Nat.le_trans (below_size S.bG) hk)), Kd.freshB (g := gb161) (o := .cells #[.slice A160_0 ((rd_T85 l1 x15_1).f0).length c160_0, .int .i64 ((rd_T85 l1 x15_1).f1)] 85 (0, 0)) (S.uB BK161.out) k_ hk⟩)); (case aO => exact (by (with_reducible repeat (first | apply Kd.N_alloc | apply Kd.N_drewN | apply Kd.N_drew)); exact HO_5.out)); (case aS => exact (below_size S.bG)); (case aL => have := LMc20.out; omega); intro v166 w28 ho hb hg hat; rw [← Ny165.out] at ho; have n0_ := Aside0.mk (Kd.V_afterv (ok := (fun k_ => (P1_ k_ ∨ w.heap.size ≤ k_) ∧ k_ ≠ gb161)) (by (with_reducible repeat (first | apply Kd.V_alloc | apply Kd.V_drewN | apply Kd.V_drew)); exact Kd.V_mono HO_13.out (fun _ hk => ⟨⟨hk.1, hk.2.2⟩, hk.2.1⟩)) hg hat); have n1_ := Aside0.mk (Kd.V_afterv (ok := (fun k_ => (P1_ k_ ∨ w.heap.size ≤ k_) ∧ k_ ≠ gb161)) (by (with_reducible repeat (first | apply Kd.V_alloc | apply Kd.V_drewN | apply Kd.V_drew)); exact Kd.V_mono HL160_0.out (fun _ hk => ⟨⟨hk.1, hk.2.2⟩, hk.2.1⟩)) hg hat); have n2_ := Aside0.mk (blk_grown (g := gb161) (o := .cells #[.slice A160_0 ((rd_T85 l1 x15_1).f0).length c160_0, .int .i64 ((rd_T85 l1 x15_1).f1)] 85 (0, 0)) (S.uB BK161.out) hg (Kd.N_ne HO_5.out BK161.out (by decide))); have n3_ := Aside0.mk (hb); have n4_ := Aside0.mk (ho); clear HO_13; clear HL160_0; clear BK161; clear HB; clear HO_5; have HO_13 := n0_; have HL160_0 := n1_; have BK161 := n2_; have HB := n3_; have HO167 := n4_; clear n0_ n1_ n2_ n3_ n4_; clear ho hb hg hat))
           go_roundg k1
           case measure => have := HK1.out; omega
           case rel => exact ⟨(y165), (wrap64 (x15_1 + 1)), S.eA, H', ⟨by have := HK1.out; omega⟩, ⟨by (with_reducible repeat (first | apply Kd.N_alloc | apply Kd.N_drewN | apply Kd.N_drew)); exact Kd.N_mono HO167.out (fun _ hk => hk.1)⟩, ⟨by (with_reducible repeat (first | apply Kd.V_alloc | apply Kd.V_drewN | apply Kd.V_drew)); exact Kd.V_mono HO_13.out (fun _ hk => ⟨hk.1.1, hk.2⟩)⟩, ⟨S.bG⟩⟩
          ·rw [if_neg c20] at H
           exact absurd H (by simp)
         ·obtain rfl := Option.some.inj H
          have p160 : 0 ≤ (x15_1 : Int) := S.oD
          have q160 : x15_1 < (l1.length : Int) := S.oD
          obtain ⟨ad160, A160_0, c160_0, e160, hx160_0, hx160_1, hl160_0, hi160_0⟩ := at_T85 (Kd.V_reads' HO_13.out).2.2 x15_1 p160 q160
          cases e160
          obtain ⟨ce160, hce160, hMe160, hcc160⟩ := Kd.V_get HO_13.out z85 x15_1 p160 (by first | exact q160 | exact S.oD | (have e_ := (Kd.V_reads' HO_13.out).1; omega))
          obtain ⟨ua160_0, uc160_0, rfl, ul160_0, ge160_0⟩ := k85_openF hMe160
          have hv160_0 := hcc160 0 _ rfl
          rw [Nat.add_zero] at hv160_0
          replace hv160_0 := Option.some.inj (hv160_0.symm.trans hx160_0)
          injection hv160_0 with hva_ hvn_ hvc_
          rw [hva_] at ge160_0
          rw [hvc_] at ul160_0
          have HL160_0 := Aside0.mk (show Kd.V (Kd.int .i64) 3 _ w.heap.size _ _ ((rd_T85 l1 x15_1).f0) from Kd.V_mk ul160_0 ge160_0)
          clear hva_ hvn_ hvc_ ge160_0 ul160_0
          clear hcc160 hce160
          have HR160_0 := Aside0.mk hi160_0
          have HC160_0 := Aside0.mk hl160_0
          clear hi160_0 hl160_0
          replace p160 := eq_true p160
          replace q160 := eq_true q160
          try go_wp2_with (first | ((with_reducible refine gate_dst (N := 7) rfl ?_); refine S.bx 7 (cs := #[.slice none 0 0, .int .i64 0]) (t := 85) ?_; intro gb161 hg w29 hbox hb; replace HO_5 := Aside0.mk (Kd.N_below (Kd.N_elderB (by (with_reducible repeat (first | apply Kd.N_alloc | apply Kd.N_drewN | apply Kd.N_drew)); exact HO_5.out) gb161 (Nat.le_of_eq hg.symm)) hb); replace HO_13 := Aside0.mk (Kd.V_below (Kd.V_elderB (S.uV HO_13.out) gb161 (Nat.le_of_eq hg.symm)) hb); replace HL160_0 := Aside0.mk (Kd.V_below (Kd.V_elderB (S.uV HL160_0.out) gb161 (Nat.le_of_eq hg.symm)) hb); replace HR160_0 := Aside0.mk (Kd.C_below (by repeat (first | (with_reducible exact HR160_0.out) | (with_reducible refine Kd.C_alloc ?_ _) | (with_reducible refine Kd.C_drewN ?_ _) | (with_reducible refine Kd.C_drew ?_) | exact HR160_0.out)) hb); have BK161 := Aside0.mk hbox; have GW161 := S.geA hg; have GE161 := S.geA hg; replace HB := S.sA hb; clear hb hbox hg; obtain ⟨Z30a, Z30b, Y30a, Y30b⟩ := S.c2 BK161.out))
          have n0_ : Aside0 (Kd.N (Kd.slice 3 (Kd.int .i64)) 36 ((w29.setCell ⟨gb161, 0, none⟩ (.slice A160_0 ((rd_T85 l1 x15_1).f0).length c160_0)).setCell ⟨gb161, 1, none⟩ (.int .i64 ((rd_T85 l1 x15_1).f1))) w.heap.size (fun k_ => (P1_ k_ ∨ w.heap.size ≤ k_) ∧ k_ ≠ gb161) u5 x5_1) := ⟨by (with_reducible repeat (first | apply Kd.N_alloc | apply Kd.N_drewN | apply Kd.N_drew)); exact Kd.N_mono (Kd.N_far (p := ⟨gb161, 1, none⟩) (Kd.N_far (p := ⟨gb161, 0, none⟩) (Kd.N_mono HO_5.out (fun k_ hk => (⟨hk, hk.2⟩ : _ ∧ k_ ≠ gb161))) (fun _ hk => hk.2) (.slice A160_0 ((rd_T85 l1 x15_1).f0).length c160_0)) (fun _ hk => hk.2) (.int .i64 ((rd_T85 l1 x15_1).f1))) (fun _ hk => ⟨hk.1.1, hk.1.2⟩)⟩
          have n1_ : Aside0 (Kd.V k85 85 ((w29.setCell ⟨gb161, 0, none⟩ (.slice A160_0 ((rd_T85 l1 x15_1).f0).length c160_0)).setCell ⟨gb161, 1, none⟩ (.int .i64 ((rd_T85 l1 x15_1).f1))) w.heap.size (fun k_ => (P1_ k_ ∨ w.heap.size ≤ k_) ∧ some k_ ≠ (u5 : Value).ownBlock ∧ k_ ≠ gb161) (.slice (some ad160) l1.length c1) l1) := ⟨by (with_reducible repeat (first | apply Kd.V_alloc | apply Kd.V_drewN | apply Kd.V_drew)); exact Kd.V_mono (Kd.V_far (p := ⟨gb161, 1, none⟩) (Kd.V_far (p := ⟨gb161, 0, none⟩) (Kd.V_mono HO_13.out (fun k_ hk => (⟨hk, hk.2⟩ : _ ∧ k_ ≠ gb161))) (fun _ hk => hk.2) (.slice A160_0 ((rd_T85 l1 x15_1).f0).length c160_0)) (fun _ hk => hk.2) (.int .i64 ((rd_T85 l1 x15_1).f1))) (fun _ hk => ⟨hk.1.1.1, ⟨hk.1.1.2, hk.1.2⟩⟩)⟩
          have n2_ : Aside0 (Kd.V (Kd.int .i64) 3 ((w29.setCell ⟨gb161, 0, none⟩ (.slice A160_0 ((rd_T85 l1 x15_1).f0).length c160_0)).setCell ⟨gb161, 1, none⟩ (.int .i64 ((rd_T85 l1 x15_1).f1))) w.heap.size (fun k_ => (P1_ k_ ∨ w.heap.size ≤ k_) ∧ some k_ ≠ (u5 : Value).ownBlock ∧ k_ ≠ gb161) (.slice A160_0 ((rd_T85 l1 x15_1).f0).length c160_0) ((rd_T85 l1 x15_1).f0)) := ⟨by (with_reducible repeat (first | apply Kd.V_alloc | apply Kd.V_drewN | apply Kd.V_drew)); exact Kd.V_mono (Kd.V_far (p := ⟨gb161, 1, none⟩) (Kd.V_far (p := ⟨gb161, 0, none⟩) (Kd.V_mono HL160_0.out (fun k_ hk => (⟨hk, hk.2⟩ : _ ∧ k_ ≠ gb161))) (fun _ hk => hk.2) (.slice A160_0 ((rd_T85 l1 x15_1).f0).length c160_0)) (fun _ hk => hk.2) (.int .i64 ((rd_T85 l1 x15_1).f1))) (fun _ hk => ⟨hk.1.1.1, ⟨hk.1.1.2, hk.1.2⟩⟩)⟩
          have n3_ : Aside0 (((w29.setCell ⟨gb161, 0, none⟩ (.slice A160_0 ((rd_T85 l1 x15_1).f0).length c160_0)).setCell ⟨gb161, 1, none⟩ (.int .i64 ((rd_T85 l1 x15_1).f1))).heap[gb161]? = some (.cells #[.slice A160_0 ((rd_T85 l1 x15_1).f0).length c160_0, .int .i64 ((rd_T85 l1 x15_1).f1)] 85 (0, 0))) := ⟨S.up2 BK161⟩
          have n4_ : Aside0 (Below w.heap.size w ((w29.setCell ⟨gb161, 0, none⟩ (.slice A160_0 ((rd_T85 l1 x15_1).f0).length c160_0)).setCell ⟨gb161, 1, none⟩ (.int .i64 ((rd_T85 l1 x15_1).f1)))) := ⟨S.bG⟩
          (try clear HO_5)
          (try clear HO_13)
          (try clear HL160_0)
          (try clear BK161)
          (try clear HB)
          generalize ((w29.setCell ⟨gb161, 0, none⟩ (.slice A160_0 ((rd_T85 l1 x15_1).f0).length c160_0)).setCell ⟨gb161, 1, none⟩ (.int .i64 ((rd_T85 l1 x15_1).f1))) = w31 at n0_ n1_ n2_ n3_ n4_ ⊢
          have HO_5 := n0_
          have HO_13 := n1_
          have HL160_0 := n2_
          have BK161 := n3_
          have HB := n4_
          clear n0_ n1_ n2_ n3_ n4_
          replace HO_5 := Aside0.mk (Kd.N_drew HO_5.out)
          replace HO_13 := Aside0.mk (Kd.V_drew HO_13.out)
          replace HL160_0 := Aside0.mk (Kd.V_drew HL160_0.out)
          replace BK161 := Aside0.mk (blk_drew BK161.out)
          replace HB := Aside0.mk (below_drew1 HB.out)
          refine S.st (n := 21) (ds := []) #[false, false, false, false, false, false, false, false, false, false, false, false, false, false, false, false, false, false, false, false, false] (fun w_ h_ => have x_ := S.e2 (S.Q h_ BK161.out); x_) (fun hHeld => ?_); refine with_tabW impl_IsPlan.tab7 impl_IsPlan.bits7 (fun HT_ HW_ => ?_)
          generalize w31.drew = w32 at HO_5 HO_13 HL160_0 BK161 HB hHeld ⊢
          refine S.pS 0 19 ?_
          refine S.tK 1 20 #[true, true, false, false, false, false, false, false, false, false, false, false, false, false, false, false, false, false, false, false, false] ?_
          refine S.pS 2 21 ?_
          refine S.pS 3 22 ?_
          refine S.pS 4 23 ?_
          refine S.pS 5 24 ?_
          refine S.pS 6 25 ?_
          refine S.tK 7 26 #[true, true, true, true, true, true, true, true, false, false, false, false, false, false, false, false, false, false, false, false, false] ?_
          refine S.oN 8 27 #[true, true, true, true, true, true, true, true, true, false, false, false, false, false, false, false, false, false, false, false, false] (fun K hK => ?_)
          refine S.go Try.func104 #[.slice A0 l0.length c0, .slice A160_0 ((rd_T85 l1 x15_1).f0).length c160_0] ?_
          with_reducible refine (impl_IsTogether.calls k1 _ _ l0 _ _ ((rd_T85 l1 x15_1).f0) true _ ?s1 ?s2 ?s3 ?s4 A15.out).mono ?_
          (case s1 => exact S.cA HR0.out)
          (case s2 => exact HC0.out)
          (case s3 => repeat (first | exact ((Kd.V_reads' (S.uV HL160_0.out)).2.2) | (with_reducible refine Kd.C_alloc ?_ _) | (with_reducible refine Kd.C_drewN ?_ _) | (with_reducible refine Kd.C_drew ?_)))
          (case s4 => exact HC160_0.out)
          rintro e w33 ⟨rfl, hb⟩
          refine ⟨_, rfl, ?_⟩
          replace HO_5 := Aside0.mk (Kd.N_below (by (with_reducible repeat (first | apply Kd.N_alloc | apply Kd.N_drewN | apply Kd.N_drew)); exact HO_5.out) hb)
          replace HO_13 := Aside0.mk (Kd.V_below (S.uV HO_13.out) hb)
          replace HL160_0 := Aside0.mk (Kd.V_below (S.uV HL160_0.out) hb)
          replace BK161 := S.kb BK161 hb
          replace HB := S.sG hb
          (try clear hb)
          (try clear hb2)
          (try clear hk)
          (try clear hi)
          refine hK.out _ _ (S.e2 BK161.out) (fun hHeld => ?_)
          clear hK K
          refine S.nm 27 ?_
          refine S.pS 9 28 ?_
          refine S.pS 10 29 ?_
          refine S.pS 11 30 ?_
          refine S.pS 12 31 ?_
          refine S.pS 14 33 ?_
          refine S.pS 15 34 ?_
          refine S.tK 13 32 #[true, true, true, true, true, true, true, true, true, true, true, true, true, true, true, true, false, false, false, false, false] ?_
          refine S.tK 16 35 #[true, true, true, true, true, true, true, true, true, true, true, true, true, true, true, true, true, false, false, false, false] ?_
          refine S.oN 17 36 #[true, true, true, true, true, true, true, true, true, true, true, true, true, true, true, true, true, true, false, false, false] (fun K hK => ?_)
          refine S.go Try.func105 #[.slice A0 l0.length c0, .slice A160_0 ((rd_T85 l1 x15_1).f0).length c160_0] ?_
          with_reducible refine (impl_LeastGreen.calls k1 _ _ l0 _ _ ((rd_T85 l1 x15_1).f0) t163 _ ?s1 ?s2 ?s3 ?s4 A17.out).mono ?_
          (case s1 => exact S.cA HR0.out)
          (case s2 => exact HC0.out)
          (case s3 => repeat (first | exact ((Kd.V_reads' (S.uV HL160_0.out)).2.2) | (with_reducible refine Kd.C_alloc ?_ _) | (with_reducible refine Kd.C_drewN ?_ _) | (with_reducible refine Kd.C_drew ?_)))
          (case s4 => exact HC160_0.out)
          rintro e w34 ⟨rfl, hb⟩
          refine ⟨_, rfl, ?_⟩
          replace HO_5 := Aside0.mk (Kd.N_below (by (with_reducible repeat (first | apply Kd.N_alloc | apply Kd.N_drewN | apply Kd.N_drew)); exact HO_5.out) hb)
          replace HO_13 := Aside0.mk (Kd.V_below (S.uV HO_13.out) hb)
          replace HL160_0 := Aside0.mk (Kd.V_below (S.uV HL160_0.out) hb)
          replace BK161 := S.kb BK161 hb
          replace HB := S.sG hb
          (try clear hb)
          (try clear hb2)
          (try clear hk)
          (try clear hi)
          refine hK.out _ _ (S.e2 BK161.out) (fun hHeld => ?_)
          clear hK K
          refine S.nm 36 ?_
          refine S.oN 18 37 #[true, true, true, true, true, true, true, true, true, true, true, true, true, true, true, true, true, true, true, false, false] (fun K hK => ?_)
          refine S.go Try.func62 #[.int .i64 ((rd_T85 l1 x15_1).f1), .int .i64 t163, .int .i64 60] ?_
          with_reducible refine (impl_InRange.calls ((rd_T85 l1 x15_1).f1) t163 60 false _ A18.out).mono ?_
          rintro e w' ⟨rfl, ⟨nd, rfl⟩⟩
          refine ⟨_, rfl, ?_⟩
          refine hK.out _ _ (S.e2 BK161.out) (fun hHeld => ?_)
          clear hK K
          refine S.nm 37 ?_
          refine S.pS 19 38 ?_
          refine S.pS 20 39 ?_
          refine done_ (done_of HT_.out (by kernel_rfl)) ?_
          try go_wp2
          go_ret
          exact ⟨S.eW, S.bG⟩
        ·obtain rfl := Option.some.inj H
         have p160 : 0 ≤ (x15_1 : Int) := S.oD
         have q160 : x15_1 < (l1.length : Int) := S.oD
         obtain ⟨ad160, A160_0, c160_0, e160, hx160_0, hx160_1, hl160_0, hi160_0⟩ := at_T85 (Kd.V_reads' HO_13.out).2.2 x15_1 p160 q160
         cases e160
         obtain ⟨ce160, hce160, hMe160, hcc160⟩ := Kd.V_get HO_13.out z85 x15_1 p160 (by first | exact q160 | exact S.oD | (have e_ := (Kd.V_reads' HO_13.out).1; omega))
         obtain ⟨ua160_0, uc160_0, rfl, ul160_0, ge160_0⟩ := k85_openF hMe160
         have hv160_0 := hcc160 0 _ rfl
         rw [Nat.add_zero] at hv160_0
         replace hv160_0 := Option.some.inj (hv160_0.symm.trans hx160_0)
         injection hv160_0 with hva_ hvn_ hvc_
         rw [hva_] at ge160_0
         rw [hvc_] at ul160_0
         have HL160_0 := Aside0.mk (show Kd.V (Kd.int .i64) 3 _ w.heap.size _ _ ((rd_T85 l1 x15_1).f0) from Kd.V_mk ul160_0 ge160_0)
         clear hva_ hvn_ hvc_ ge160_0 ul160_0
         clear hcc160 hce160
         have HR160_0 := Aside0.mk hi160_0
         have HC160_0 := Aside0.mk hl160_0
         clear hi160_0 hl160_0
         replace p160 := eq_true p160
         replace q160 := eq_true q160
         try go_wp2_with (first | ((with_reducible refine gate_dst (N := 7) rfl ?_); refine S.bx 7 (cs := #[.slice none 0 0, .int .i64 0]) (t := 85) ?_; intro gb161 hg w35 hbox hb; replace HO_5 := Aside0.mk (Kd.N_below (Kd.N_elderB (by (with_reducible repeat (first | apply Kd.N_alloc | apply Kd.N_drewN | apply Kd.N_drew)); exact HO_5.out) gb161 (Nat.le_of_eq hg.symm)) hb); replace HO_13 := Aside0.mk (Kd.V_below (Kd.V_elderB (S.uV HO_13.out) gb161 (Nat.le_of_eq hg.symm)) hb); replace HL160_0 := Aside0.mk (Kd.V_below (Kd.V_elderB (S.uV HL160_0.out) gb161 (Nat.le_of_eq hg.symm)) hb); replace HR160_0 := Aside0.mk (Kd.C_below (by repeat (first | (with_reducible exact HR160_0.out) | (with_reducible refine Kd.C_alloc ?_ _) | (with_reducible refine Kd.C_drewN ?_ _) | (with_reducible refine Kd.C_drew ?_) | exact HR160_0.out)) hb); have BK161 := Aside0.mk hbox; have GW161 := S.geA hg; have GE161 := S.geA hg; replace HB := S.sA hb; clear hb hbox hg; obtain ⟨Z36a, Z36b, Y36a, Y36b⟩ := S.c2 BK161.out))
         have n0_ : Aside0 (Kd.N (Kd.slice 3 (Kd.int .i64)) 36 ((w35.setCell ⟨gb161, 0, none⟩ (.slice A160_0 ((rd_T85 l1 x15_1).f0).length c160_0)).setCell ⟨gb161, 1, none⟩ (.int .i64 ((rd_T85 l1 x15_1).f1))) w.heap.size (fun k_ => (P1_ k_ ∨ w.heap.size ≤ k_) ∧ k_ ≠ gb161) u5 x5_1) := ⟨by (with_reducible repeat (first | apply Kd.N_alloc | apply Kd.N_drewN | apply Kd.N_drew)); exact Kd.N_mono (Kd.N_far (p := ⟨gb161, 1, none⟩) (Kd.N_far (p := ⟨gb161, 0, none⟩) (Kd.N_mono HO_5.out (fun k_ hk => (⟨hk, hk.2⟩ : _ ∧ k_ ≠ gb161))) (fun _ hk => hk.2) (.slice A160_0 ((rd_T85 l1 x15_1).f0).length c160_0)) (fun _ hk => hk.2) (.int .i64 ((rd_T85 l1 x15_1).f1))) (fun _ hk => ⟨hk.1.1, hk.1.2⟩)⟩
         have n1_ : Aside0 (Kd.V k85 85 ((w35.setCell ⟨gb161, 0, none⟩ (.slice A160_0 ((rd_T85 l1 x15_1).f0).length c160_0)).setCell ⟨gb161, 1, none⟩ (.int .i64 ((rd_T85 l1 x15_1).f1))) w.heap.size (fun k_ => (P1_ k_ ∨ w.heap.size ≤ k_) ∧ some k_ ≠ (u5 : Value).ownBlock ∧ k_ ≠ gb161) (.slice (some ad160) l1.length c1) l1) := ⟨by (with_reducible repeat (first | apply Kd.V_alloc | apply Kd.V_drewN | apply Kd.V_drew)); exact Kd.V_mono (Kd.V_far (p := ⟨gb161, 1, none⟩) (Kd.V_far (p := ⟨gb161, 0, none⟩) (Kd.V_mono HO_13.out (fun k_ hk => (⟨hk, hk.2⟩ : _ ∧ k_ ≠ gb161))) (fun _ hk => hk.2) (.slice A160_0 ((rd_T85 l1 x15_1).f0).length c160_0)) (fun _ hk => hk.2) (.int .i64 ((rd_T85 l1 x15_1).f1))) (fun _ hk => ⟨hk.1.1.1, ⟨hk.1.1.2, hk.1.2⟩⟩)⟩
         have n2_ : Aside0 (Kd.V (Kd.int .i64) 3 ((w35.setCell ⟨gb161, 0, none⟩ (.slice A160_0 ((rd_T85 l1 x15_1).f0).length c160_0)).setCell ⟨gb161, 1, none⟩ (.int .i64 ((rd_T85 l1 x15_1).f1))) w.heap.size (fun k_ => (P1_ k_ ∨ w.heap.size ≤ k_) ∧ some k_ ≠ (u5 : Value).ownBlock ∧ k_ ≠ gb161) (.slice A160_0 ((rd_T85 l1 x15_1).f0).length c160_0) ((rd_T85 l1 x15_1).f0)) := ⟨by (with_reducible repeat (first | apply Kd.V_alloc | apply Kd.V_drewN | apply Kd.V_drew)); exact Kd.V_mono (Kd.V_far (p := ⟨gb161, 1, none⟩) (Kd.V_far (p := ⟨gb161, 0, none⟩) (Kd.V_mono HL160_0.out (fun k_ hk => (⟨hk, hk.2⟩ : _ ∧ k_ ≠ gb161))) (fun _ hk => hk.2) (.slice A160_0 ((rd_T85 l1 x15_1).f0).length c160_0)) (fun _ hk => hk.2) (.int .i64 ((rd_T85 l1 x15_1).f1))) (fun _ hk => ⟨hk.1.1.1, ⟨hk.1.1.2, hk.1.2⟩⟩)⟩
         have n3_ : Aside0 (((w35.setCell ⟨gb161, 0, none⟩ (.slice A160_0 ((rd_T85 l1 x15_1).f0).length c160_0)).setCell ⟨gb161, 1, none⟩ (.int .i64 ((rd_T85 l1 x15_1).f1))).heap[gb161]? = some (.cells #[.slice A160_0 ((rd_T85 l1 x15_1).f0).length c160_0, .int .i64 ((rd_T85 l1 x15_1).f1)] 85 (0, 0))) := ⟨S.up2 BK161⟩
         have n4_ : Aside0 (Below w.heap.size w ((w35.setCell ⟨gb161, 0, none⟩ (.slice A160_0 ((rd_T85 l1 x15_1).f0).length c160_0)).setCell ⟨gb161, 1, none⟩ (.int .i64 ((rd_T85 l1 x15_1).f1)))) := ⟨S.bG⟩
         (try clear HO_5)
         (try clear HO_13)
         (try clear HL160_0)
         (try clear BK161)
         (try clear HB)
         generalize ((w35.setCell ⟨gb161, 0, none⟩ (.slice A160_0 ((rd_T85 l1 x15_1).f0).length c160_0)).setCell ⟨gb161, 1, none⟩ (.int .i64 ((rd_T85 l1 x15_1).f1))) = w37 at n0_ n1_ n2_ n3_ n4_ ⊢
         have HO_5 := n0_
         have HO_13 := n1_
         have HL160_0 := n2_
         have BK161 := n3_
         have HB := n4_
         clear n0_ n1_ n2_ n3_ n4_
         replace HO_5 := Aside0.mk (Kd.N_drew HO_5.out)
         replace HO_13 := Aside0.mk (Kd.V_drew HO_13.out)
         replace HL160_0 := Aside0.mk (Kd.V_drew HL160_0.out)
         replace BK161 := Aside0.mk (blk_drew BK161.out)
         replace HB := Aside0.mk (below_drew1 HB.out)
         refine S.st (n := 21) (ds := []) #[false, false, false, false, false, false, false, false, false, false, false, false, false, false, false, false, false, false, false, false, false] (fun w_ h_ => have x_ := S.e2 (S.Q h_ BK161.out); x_) (fun hHeld => ?_); refine with_tabW impl_IsPlan.tab7 impl_IsPlan.bits7 (fun HT_ HW_ => ?_)
         generalize w37.drew = w38 at HO_5 HO_13 HL160_0 BK161 HB hHeld ⊢
         refine S.pS 0 19 ?_
         refine S.tK 1 20 #[true, true, false, false, false, false, false, false, false, false, false, false, false, false, false, false, false, false, false, false, false] ?_
         refine S.pS 2 21 ?_
         refine S.pS 3 22 ?_
         refine S.pS 4 23 ?_
         refine S.pS 5 24 ?_
         refine S.pS 6 25 ?_
         refine S.tK 7 26 #[true, true, true, true, true, true, true, true, false, false, false, false, false, false, false, false, false, false, false, false, false] ?_
         refine S.oN 8 27 #[true, true, true, true, true, true, true, true, true, false, false, false, false, false, false, false, false, false, false, false, false] (fun K hK => ?_)
         refine S.go Try.func104 #[.slice A0 l0.length c0, .slice A160_0 ((rd_T85 l1 x15_1).f0).length c160_0] ?_
         with_reducible refine (impl_IsTogether.calls k1 _ _ l0 _ _ ((rd_T85 l1 x15_1).f0) false _ ?s1 ?s2 ?s3 ?s4 A15.out).mono ?_
         (case s1 => exact S.cA HR0.out)
         (case s2 => exact HC0.out)
         (case s3 => repeat (first | exact ((Kd.V_reads' (S.uV HL160_0.out)).2.2) | (with_reducible refine Kd.C_alloc ?_ _) | (with_reducible refine Kd.C_drewN ?_ _) | (with_reducible refine Kd.C_drew ?_)))
         (case s4 => exact HC160_0.out)
         rintro e w39 ⟨rfl, hb⟩
         refine ⟨_, rfl, ?_⟩
         replace HO_5 := Aside0.mk (Kd.N_below (by (with_reducible repeat (first | apply Kd.N_alloc | apply Kd.N_drewN | apply Kd.N_drew)); exact HO_5.out) hb)
         replace HO_13 := Aside0.mk (Kd.V_below (S.uV HO_13.out) hb)
         replace HL160_0 := Aside0.mk (Kd.V_below (S.uV HL160_0.out) hb)
         replace BK161 := S.kb BK161 hb
         replace HB := S.sG hb
         (try clear hb)
         (try clear hb2)
         (try clear hk)
         (try clear hi)
         refine hK.out _ _ (S.e2 BK161.out) (fun hHeld => ?_)
         clear hK K
         refine S.nm 27 ?_
         refine S.pS 9 28 ?_
         refine S.pS 10 29 ?_
         refine S.pS 11 30 ?_
         refine S.pU 12 31 ?_
         refine S.pU 13 32 ?_
         refine S.pU 14 33 ?_
         refine S.pU 15 34 ?_
         refine S.pU 16 35 ?_
         refine S.pU 17 36 ?_
         refine S.pU 18 37 ?_
         refine S.pU 19 38 ?_
         refine S.pS 20 39 ?_
         refine done_ (done_of HT_.out (by kernel_rfl)) ?_
         try go_wp2
         go_ret
         exact ⟨S.eW, S.bG⟩
      ·rw [if_neg c9] at H
       exact absurd H (by simp)
     ·rw [if_neg c8] at H
      exact absurd H (by simp)
    ·replace H := Option.bind_eq_some_iff.mp H
     obtain ⟨t159, A400, H⟩ := H
     replace H : (some t159) = some r := H
     have A40 := Aside0.mk A400
     clear A400
     obtain rfl := Option.some.inj H
     obtain ⟨Ao41, co41, eo41⟩ := Kd.N_slice HO_5.out
     subst eo41
     go_wp2_with (first | ((with_reducible refine gate_callee (f := 106) rfl ?_); refine S.gL (some 48) Try.func106 #[.slice A0 l0.length c0, .slice Ao41 x5_1.length co41] ?_; (with_reducible refine (impl_Covers.calls k1 _ _ l0 _ _ x5_1 t159 _ ?s1 HC0.out ?s3 ?s4 A40.out).mono ?_); (case s1 => exact S.cA HR0.out); (case s3 => exact S.cD (Kd.N_reads' HO_5.out).2.2); (case s4 => exact (Kd.N_reads' HO_5.out).2.1); rintro e w42 ⟨rfl, hb⟩; refine ⟨_, rfl, ?_⟩; replace HO_5 := Aside0.mk (Kd.N_below (by (with_reducible repeat (first | apply Kd.N_alloc | apply Kd.N_drewN | apply Kd.N_drew)); exact HO_5.out) hb); replace HO_13 := Aside0.mk (Kd.V_below (S.uV HO_13.out) hb); replace HB := S.sA hb; (try clear hb)))
     go_ret
     exact ⟨S.eW, S.bA⟩
 ·obtain rfl := Option.some.inj H
  go_enter Try.func68, Try.ntmps68
  go_wp2_with (first | ((with_reducible refine gate_callee (f := 62) rfl ?_); refine S.gL (some 10) Try.func62 #[.int .i64 (l1.length : Int), .int .i64 1, .int .i64 6] ?_; (with_reducible refine (impl_InRange.calls (l1.length : Int) 1 6 false _ A3.out).mono ?_); rintro e w' ⟨rfl, ⟨nd, rfl⟩⟩; refine ⟨_, rfl, ?_⟩))
  go_ret
  exact ⟨S.eW, S.bA⟩
/-! ### impl_ClearOf: function 114 -/
def impl_ClearOf.f (a0_0 : Int) (a0_1 : Int) (a0_2 : Int) (a0_3 : Int) : Option (Int) := (impl_IsPath.f a0_0 a0_1 a0_2 a0_3).bind fun t169 => (if t169 = true then (if a0_1 = 1 then (some 2) else (if a0_1 = 3 then (some 3) else (some 5))) else (some 0))
theorem impl_ClearOf.calls (a0_0 : Int) (a0_1 : Int) (a0_2 : Int) (a0_3 : Int) (r : Int) (w : World) (h : impl_ClearOf.f a0_0 a0_1 a0_2 a0_3 = some r) :
  Calls Try.prog 114 #[.agg #[.int .i64 a0_0, .int .i64 a0_1, .int .i64 a0_2, .int .i64 a0_3]] w fun e w' => e = .returned (.int .i64 r) ∧ Below w.heap.size w w' := by
 have hu71 := Try.underlying71
 have HB := Aside0.mk (Below.refl w.heap.size w)
 have H : ((impl_IsPath.f a0_0 a0_1 a0_2 a0_3).bind fun t169 => (if t169 = true then (if a0_1 = 1 then (some 2) else (if a0_1 = 3 then (some 3) else (some 5))) else (some 0))) = some r := h
 clear h
 replace H := S.bd H; obtain ⟨t169, A2, H⟩ := H
 (try dsimp only at H)
 replace H := S.db H; rcases H with ⟨rfl, H⟩ | ⟨rfl, H⟩
 ·by_cases c4 : a0_1 = 1
  ·rw [if_pos c4] at H
   have c4b0 : (a0_1 == 1) = true := beq_iff_eq.mpr c4
   have c4b1 : (a0_1 != 1) = false := bne_eq_false_iff_eq.mpr c4
   clear c4
   obtain rfl := Option.some.inj H
   go_enter Try.func114, Try.ntmps114
   go_wp2_with (first | ((with_reducible refine gate_dst (N := 1) rfl ?_); refine S.bx 1 (cs := #[.int .i64 a0_0, .int .i64 a0_1, .int .i64 a0_2, .int .i64 a0_3]) (t := 71) ?_; intro gb168 hg w5 hbox hb; have BK168 := Aside0.mk hbox; have GW168 := S.geA hg; have GE168 := S.geA hg; replace HB := S.sA hb; clear hb hbox hg; obtain ⟨Z6a, Z6b, Z6c, Z6d, Y6a, Y6b, Y6c, Y6d⟩ := S.c4 BK168.out) | ((with_reducible refine gate_callee (f := 117) rfl ?_); refine S.gL (some 4) Try.func117 #[.agg #[.int .i64 a0_0, .int .i64 a0_1, .int .i64 a0_2, .int .i64 a0_3]] ?_; (with_reducible refine (impl_IsPath.calls a0_0 a0_1 a0_2 a0_3 true _ A2.out).mono ?_); rintro e w7 ⟨rfl, hb⟩; refine ⟨_, rfl, ?_⟩; replace BK168 := S.kb BK168 hb; replace HB := S.sG hb; (try clear hb); obtain ⟨Z8a, Z8b, Z8c, Z8d, Y8a, Y8b, Y8c, Y8d⟩ := S.c4 BK168.out))
   go_ret
   exact ⟨S.eW, S.bG⟩
  ·rw [if_neg c4] at H
   have c4b0 : (a0_1 == 1) = false := beq_eq_false_iff_ne.mpr c4
   have c4b1 : (a0_1 != 1) = true := bne_iff_ne.mpr c4
   by_cases c9 : a0_1 = 3
   ·rw [if_pos c9] at H
    have c9b0 : (a0_1 == 3) = true := beq_iff_eq.mpr c9
    have c9b1 : (a0_1 != 3) = false := bne_eq_false_iff_eq.mpr c9
    clear c9
    obtain rfl := Option.some.inj H
    go_enter Try.func114, Try.ntmps114
    go_wp2_with (first | ((with_reducible refine gate_dst (N := 1) rfl ?_); refine S.bx 1 (cs := #[.int .i64 a0_0, .int .i64 a0_1, .int .i64 a0_2, .int .i64 a0_3]) (t := 71) ?_; intro gb168 hg w10 hbox hb; have BK168 := Aside0.mk hbox; have GW168 := S.geA hg; have GE168 := S.geA hg; replace HB := S.sA hb; clear hb hbox hg; obtain ⟨Z11a, Z11b, Z11c, Z11d, Y11a, Y11b, Y11c, Y11d⟩ := S.c4 BK168.out) | ((with_reducible refine gate_callee (f := 117) rfl ?_); refine S.gL (some 4) Try.func117 #[.agg #[.int .i64 a0_0, .int .i64 a0_1, .int .i64 a0_2, .int .i64 a0_3]] ?_; (with_reducible refine (impl_IsPath.calls a0_0 a0_1 a0_2 a0_3 true _ A2.out).mono ?_); rintro e w12 ⟨rfl, hb⟩; refine ⟨_, rfl, ?_⟩; replace BK168 := S.kb BK168 hb; replace HB := S.sG hb; (try clear hb); obtain ⟨Z13a, Z13b, Z13c, Z13d, Y13a, Y13b, Y13c, Y13d⟩ := S.c4 BK168.out))
    go_ret
    exact ⟨S.eW, S.bG⟩
   ·rw [if_neg c9] at H
    have c9b0 : (a0_1 == 3) = false := beq_eq_false_iff_ne.mpr c9
    have c9b1 : (a0_1 != 3) = true := bne_iff_ne.mpr c9
    obtain rfl := Option.some.inj H
    go_enter Try.func114, Try.ntmps114
    go_wp2_with (first | ((with_reducible refine gate_dst (N := 1) rfl ?_); refine S.bx 1 (cs := #[.int .i64 a0_0, .int .i64 a0_1, .int .i64 a0_2, .int .i64 a0_3]) (t := 71) ?_; intro gb168 hg w14 hbox hb; have BK168 := Aside0.mk hbox; have GW168 := S.geA hg; have GE168 := S.geA hg; replace HB := S.sA hb; clear hb hbox hg; obtain ⟨Z15a, Z15b, Z15c, Z15d, Y15a, Y15b, Y15c, Y15d⟩ := S.c4 BK168.out) | ((with_reducible refine gate_callee (f := 117) rfl ?_); refine S.gL (some 4) Try.func117 #[.agg #[.int .i64 a0_0, .int .i64 a0_1, .int .i64 a0_2, .int .i64 a0_3]] ?_; (with_reducible refine (impl_IsPath.calls a0_0 a0_1 a0_2 a0_3 true _ A2.out).mono ?_); rintro e w16 ⟨rfl, hb⟩; refine ⟨_, rfl, ?_⟩; replace BK168 := S.kb BK168 hb; replace HB := S.sG hb; (try clear hb); obtain ⟨Z17a, Z17b, Z17c, Z17d, Y17a, Y17b, Y17c, Y17d⟩ := S.c4 BK168.out))
    go_ret
    exact ⟨S.eW, S.bG⟩
 ·obtain rfl := Option.some.inj H
  go_enter Try.func114, Try.ntmps114
  go_wp2_with (first | ((with_reducible refine gate_dst (N := 1) rfl ?_); refine S.bx 1 (cs := #[.int .i64 a0_0, .int .i64 a0_1, .int .i64 a0_2, .int .i64 a0_3]) (t := 71) ?_; intro gb168 hg w18 hbox hb; have BK168 := Aside0.mk hbox; have GW168 := S.geA hg; have GE168 := S.geA hg; replace HB := S.sA hb; clear hb hbox hg; obtain ⟨Z19a, Z19b, Z19c, Z19d, Y19a, Y19b, Y19c, Y19d⟩ := S.c4 BK168.out) | ((with_reducible refine gate_callee (f := 117) rfl ?_); refine S.gL (some 4) Try.func117 #[.agg #[.int .i64 a0_0, .int .i64 a0_1, .int .i64 a0_2, .int .i64 a0_3]] ?_; (with_reducible refine (impl_IsPath.calls a0_0 a0_1 a0_2 a0_3 false _ A2.out).mono ?_); rintro e w20 ⟨rfl, hb⟩; refine ⟨_, rfl, ?_⟩; replace BK168 := S.kb BK168 hb; replace HB := S.sG hb; (try clear hb)))
  go_ret
  exact ⟨S.eW, S.bG⟩

/-! ### impl_sieve: function 144 -/
def impl_sieve.l0 : Nat → List Int → Bool → List Int → List Int → Int → Int → Option (List Int)
 | 0, _, _, _, _, _, _ => none
 | k + 1, x1, x2, x7, x11, x12, x13 => if x13 < x12 then (if 0 ≤ x13 then (if x13 < (x11.length : Int) then ((slices_Contains_int_int.f k x1 (rd x11 x13)).bind fun t174 => (if (t174 == x2) = true then (if x7.length < 17592186044416 then (impl_sieve.l0 k x1 x2 (x7 ++ [rd x11 x13]) x11 x12 (wrap64 (x13 + 1))) else (none)) else (impl_sieve.l0 k x1 x2 x7 x11 x12 (wrap64 (x13 + 1))))) else (none)) else (none)) else (some x7)
def impl_sieve.f (k : Nat) (l0 : List Int) (l1 : List Int) (a2 : Bool) : Option (List Int) := impl_sieve.l0 k l1 a2 (([] : List Int)) l0 (l0.length : Int) 0
theorem impl_sieve.calls (k : Nat) (A0 : Option Addr) (c0 : Nat) (l0 : List Int) (A1 : Option Addr) (c1 : Nat) (l1 : List Int) (a2 : Bool) (r : List Int) (w : World) (hr0 : Kd.C (Kd.int .i64) w A0 l0.length l0) (hc0 : l0.length ≤ c0) (hr1 : Kd.C (Kd.int .i64) w A1 l1.length l1) (hc1 : l1.length ≤ c1) (h : impl_sieve.f k l0 l1 a2 = some r) :
  Calls Try.prog 144 #[.slice A0 l0.length c0, .slice A1 l1.length c1, .bool a2] w fun e w' => ∃ v0_ : Value, e = .returned (v0_) ∧ Kd.R (Kd.int .i64) 3 w' w.heap.size (fun _ => True) v0_ r ∧ Below w.heap.size w w' := by
 have HR0 := Aside0.mk hr0
 have HC0 := Aside0.mk hc0
 clear hr0 hc0
 have HR1 := Aside0.mk hr1
 have HC1 := Aside0.mk hc1
 clear hr1 hc1
 have HB := Aside0.mk (Below.refl w.heap.size w)
 have H : (impl_sieve.l0 k l1 a2 (([] : List Int)) l0 (l0.length : Int) 0) = some r := h
 clear h
 obtain ⟨y170, hy170⟩ : ∃ y_ : List Int, y_ = (([] : List Int)) := ⟨_, rfl⟩
 have hY_ := hy170; replace H : (impl_sieve.l0 k l1 a2 y170 l0 (l0.length : Int) 0) = some r := S.rh; clear hY_
 have Ny170 := Aside0.mk hy170
 clear hy170
 have H' := Aside0.mk H
 clear H
 go_enter Try.func144, Try.ntmps144
 go_wp2_with (first | ((with_reducible refine gate_dst (N := 10) rfl ?_); refine Kd.R_lit (Kd.int .i64) _ 3 ?hg (N := 10) ?hd (xs := ([] : List Int)) (inner := []) (ok := fun _ => True) (okp := fun _ => True) ?hr ?hp (fun _ hk => hk) trivial (Below.refl _ _) (Nat.le_refl _) (by simp) ?_; (case hd => rfl); (case hg => rfl); (case hr => first | (go_simp; done) | (go_simp; rfl)); (case hp => exact (Reps.none _ _)); intro v171 w4 ho5 hb hg_ hnew_; clear hg_ hnew_; (first | rw [← Ny170.out] at ho5 | (simp only [Int.reduceToNat] at ho5; rw [← Ny170.out] at ho5)); have HO172 := S.lwA ho5; replace HB := S.sA hb; clear hb ho5))
 go_loopg [7, 13] k (fun kq v7 v13 w' => ∃ (x7_1 : List Int) (x13_1 : Int), v13 = .int .i64 x13_1 ∧ Aside0 (impl_sieve.l0 kq l1 a2 x7_1 l0 (l0.length : Int) x13_1 = some r) ∧ Aside0 (kq ≤ k) ∧ Aside0 (Kd.R (Kd.int .i64) 3 w' w.heap.size (fun _ => True) v7 x7_1) ∧ Aside0 (Below w.heap.size w w'))
 case atStart => exact ⟨(y170), (0), S.eA, H', ⟨Nat.le_refl _⟩, ⟨S.uR HO172.out⟩, ⟨S.bA⟩⟩
 case round =>
  clear H'
  try clear c1
  obtain ⟨x7_1, x13_1, rfl, HA, HK1, HO_7, HB⟩ := hrel
  cases gk with
  | zero => exact absurd HA.out (by simp [impl_sieve.l0])
  | succ k1 =>
   have H := HA.out
   clear HA
   simp only [impl_sieve.l0] at H
   replace H := S.dc H; rcases H with ⟨H, c6b0⟩ | ⟨H, c6b0⟩
   ·by_cases c7 : 0 ≤ x13_1
    ·rw [if_pos c7] at H
     have c7b0 : decide (0 ≤ x13_1) = true := decide_eq_true c7
     clear c7
     by_cases c8 : x13_1 < (l0.length : Int)
     ·rw [if_pos c8] at H
      have c8b0 : decide (x13_1 < (l0.length : Int)) = true := decide_eq_true c8
      clear c8
      replace H := S.bd H; obtain ⟨t174, A9, H⟩ := H
      (try dsimp only at H)
      by_cases c10 : (t174 == a2) = true
      ·rw [if_pos c10] at H
       have c10b0 : (t174 == a2) = true := c10
       (try (have c10b1 : decide (t174 = a2) = true := by simpa using c10))
       (try (have c10b2 : (t174 == a2) = true := by simpa using c10))
       clear c10
       by_cases c11 : x7_1.length < 17592186044416
       ·rw [if_pos c11] at H
        have LMc11 := Aside0.mk c11
        clear c11
        obtain ⟨y175, hy175⟩ : ∃ y_ : List Int, y_ = (x7_1 ++ [rd l0 x13_1]) := ⟨_, rfl⟩
        have hY_ := hy175; replace H : (impl_sieve.l0 k1 l1 a2 y175 l0 (l0.length : Int) (wrap64 (x13_1 + 1))) = some r := S.rh; clear hY_
        have Ny175 := Aside0.mk hy175
        clear hy175
        have H' := Aside0.mk H
        clear H
        have p173 : 0 ≤ (x13_1 : Int) := S.oD
        have q173 : x13_1 < (l0.length : Int) := S.oD
        obtain ⟨ad173, e173, hx173_0⟩ := Kd.at_int HR0.out x13_1 p173 q173
        cases e173
        replace hx173_0 := S.hb HB hx173_0
        replace p173 := eq_true p173
        replace q173 := eq_true q173
        go_wp2_with (first | ((with_reducible refine gate_callee (f := 73) rfl ?_); refine S.gL (some 19) Try.func73 #[.slice A1 l1.length c1, .int .i64 (rd l0 x13_1)] ?_; (with_reducible refine (slices_Contains_int_int.calls k1 _ _ l1 (rd l0 x13_1) t174 _ ?s1 HC1.out A9.out).mono ?_); (case s1 => exact S.cA HR1.out); rintro e w' ⟨rfl, ⟨nd, rfl⟩⟩; refine ⟨_, rfl, ?_⟩) | ((with_reducible refine gate_builtin (b := .append) (xs := #[.tmp 22, .tmp 24]) rfl ?_); at_builtin; refine Kd.R_append (Kd.int .i64) (w0 := w) w.heap.size rfl (.tmp 22) (.tmp 24) 36 3 (.int .i64 0) 8 rfl Try.underlying36 info3 rfl (by decide) (by omega) u7 x7_1 (rd l0 x13_1) [.int .i64 (rd l0 x13_1)] (fun _ => True) (fun _ => False) rfl rfl ?aP (fun _ hk => hk.elim) ?aF ?aO ?aB ?aS ?aL ?_; (case aP => exact rfl); (case aB => exact S.bA); (case aF => exact (fun _ _ => trivial)); (case aO => exact (S.uR HO_7.out)); (case aS => exact (below_size S.bA)); (case aL => have := LMc11.out; omega); intro v176 w12 ho hb hg hat; rw [← Ny175.out] at ho; have n0_ := Aside0.mk (hb); have n1_ := Aside0.mk (ho); clear HB; clear HO_7; have HB := n0_; have HO177 := n1_; clear n0_ n1_; clear ho hb hg hat))
        go_roundg k1
        case measure => have := HK1.out; omega
        case rel => exact ⟨(y175), (wrap64 (x13_1 + 1)), S.eA, H', ⟨by have := HK1.out; omega⟩, ⟨S.uR HO177.out⟩, ⟨S.bA⟩⟩
       ·rw [if_neg c11] at H
        exact absurd H (by simp)
      ·rw [if_neg c10] at H
       have c10b0 : (t174 == a2) = false := by simpa using c10
       (try (have c10b1 : decide (t174 = a2) = false := by simpa using c10))
       (try (have c10b2 : (t174 == a2) = false := by simpa using c10))
       (try (have c10b3 : ¬ (t174 = a2) := by simpa using c10))
       clear c10
       have H' := Aside0.mk H
       clear H
       have p173 : 0 ≤ (x13_1 : Int) := S.oD
       have q173 : x13_1 < (l0.length : Int) := S.oD
       obtain ⟨ad173, e173, hx173_0⟩ := Kd.at_int HR0.out x13_1 p173 q173
       cases e173
       replace hx173_0 := S.hb HB hx173_0
       replace p173 := eq_true p173
       replace q173 := eq_true q173
       go_wp2_with (first | ((with_reducible refine gate_callee (f := 73) rfl ?_); refine S.gL (some 19) Try.func73 #[.slice A1 l1.length c1, .int .i64 (rd l0 x13_1)] ?_; (with_reducible refine (slices_Contains_int_int.calls k1 _ _ l1 (rd l0 x13_1) t174 _ ?s1 HC1.out A9.out).mono ?_); (case s1 => exact S.cA HR1.out); rintro e w' ⟨rfl, ⟨nd, rfl⟩⟩; refine ⟨_, rfl, ?_⟩))
       go_roundg k1
       case measure => have := HK1.out; omega
       case rel => exact ⟨(x7_1), (wrap64 (x13_1 + 1)), S.eA, H', ⟨by have := HK1.out; omega⟩, ⟨S.uR HO_7.out⟩, ⟨S.bA⟩⟩
     ·rw [if_neg c8] at H
      exact absurd H (by simp)
    ·rw [if_neg c7] at H
     exact absurd H (by simp)
   ·obtain rfl := Option.some.inj H
    go_wp2
    go_ret
    exact ⟨_, S.eW, S.uR HO_7.out, S.bA⟩

/-! ### impl_Closes: function 130 -/
def impl_Closes.f (k : Nat) (l0 : List Int) (l1 : List Int) : Option (List Int) := (impl_sieve.f k l0 l1 false).bind fun t178 => (some t178)
theorem impl_Closes.calls (k : Nat) (A0 : Option Addr) (c0 : Nat) (l0 : List Int) (A1 : Option Addr) (c1 : Nat) (l1 : List Int) (r : List Int) (w : World) (hr0 : Kd.C (Kd.int .i64) w A0 l0.length l0) (hc0 : l0.length ≤ c0) (hr1 : Kd.C (Kd.int .i64) w A1 l1.length l1) (hc1 : l1.length ≤ c1) (h : impl_Closes.f k l0 l1 = some r) :
  Calls Try.prog 130 #[.slice A0 l0.length c0, .slice A1 l1.length c1] w fun e w' => ∃ v0_ : Value, e = .returned (v0_) ∧ Kd.R (Kd.int .i64) 3 w' w.heap.size (fun _ => True) v0_ r ∧ Below w.heap.size w w' := by
 have HR0 := Aside0.mk hr0
 have HC0 := Aside0.mk hc0
 clear hr0 hc0
 have HR1 := Aside0.mk hr1
 have HC1 := Aside0.mk hc1
 clear hr1 hc1
 have HB := Aside0.mk (Below.refl w.heap.size w)
 have H : ((impl_sieve.f k l0 l1 false).bind fun t178 => (some t178)) = some r := h
 clear h
 replace H := S.bd H; obtain ⟨t178, A3, H⟩ := H
 (try dsimp only at H)
 obtain rfl := Option.some.inj H
 go_enter Try.func130, Try.ntmps130
 go_wp2_with (first | ((with_reducible refine gate_callee (f := 144) rfl ?_); refine S.gL (some 7) Try.func144 #[.slice A0 l0.length c0, .slice A1 l1.length c1, .bool false] ?_; (with_reducible refine (impl_sieve.calls k _ _ l0 _ _ l1 false t178 _ ?s1 HC0.out ?s3 HC1.out A3.out).mono ?_); (case s1 => exact S.cD HR0.out); (case s3 => exact S.cD HR1.out); rintro e w4 ⟨v179, rfl, ho0, hb⟩; refine ⟨_, rfl, ?_⟩; have HO180 := S.lwA ho0; replace HB := S.sA hb; (try clear hb); (try clear ho0)))
 go_ret
 exact ⟨_, S.eW, S.uR HO180.out, S.bA⟩
end Go.Proofs.Ytjgigmghcfdomaa.PFnSwitched
