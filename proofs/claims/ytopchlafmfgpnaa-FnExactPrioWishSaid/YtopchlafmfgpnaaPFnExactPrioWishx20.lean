/- Printed by a program: what the Go functions compute, as plain Lean functions (.f), and the proofs that the machine's calls come to just that (.calls). -/
import Derived.Test.YtopchlafmfgpnaaPFnExactPrioWishx0
import Derived.Test.YtopchlafmfgpnaaPFnExactPrioWishx1
import Derived.Test.YtopchlafmfgpnaaPFnExactPrioWishx13
import Derived.Test.YtopchlafmfgpnaaPFnExactPrioWishx14
import Derived.Test.YtopchlafmfgpnaaPFnExactPrioWishx17
import Derived.Test.YtopchlafmfgpnaaPFnExactPrioWishx19
namespace Go.Proofs.Ytopchlafmfgpnaa.PFnExactPrioWish
open Go.RowKit Go.Proofs.YtopchlafmfgpnaaW.PrintWords Go.Proofs.YtopchlafmfgpnaaW.PrintLast Go.Proofs.YtopchlafmfgpnaaW.PrintMore
attribute [local go_sem] max2_int min2_int max_two min_two max_three min_three max_four min_four   -- for this text's walks alone
set_option linter.unusedVariables false
set_option linter.unusedSimpArgs false

attribute [local go_sem high] eqA67
/-! ### impl_IsControl: function 54 -/
def impl_IsControl.j0 : Nat → List (S52) → Bool → List Int → Int → List Int → Int → Option (Bool)
 | 0, _, _, _, _, _, _ => none
 | k + 1, x0, x28, x314000, x314001, x314002, x314003 => if x28 = true then (some false) else (if (x314002.length : Int) = 0 then (some (x314003 == 0)) else ((impl_ClearBetween.f k x0 x314000 x314002).bind fun t317 => ((impl_InRange.f x314003 1 t317).bind fun t318 => (some t318))))
def impl_IsControl.f (k : Nat) (l0 : List (S52)) (l1_0 : List Int) (a1_1 : Int) (l1_2 : List Int) (a1_3 : Int) : Option (Bool) := (impl_IsTogether.f k l0 l1_0).bind fun t314 => (if t314 = true then ((impl_IsTogether.f k l0 l1_2).bind fun t315 => (if t315 = true then (if (l1_0.length : Int) = 0 then (impl_IsControl.j0 k l0 true l1_0 a1_1 l1_2 a1_3) else ((impl_InRange.f a1_1 0 1000000).bind fun t316 => (impl_IsControl.j0 k l0 (!t316) l1_0 a1_1 l1_2 a1_3))) else (impl_IsControl.j0 k l0 true l1_0 a1_1 l1_2 a1_3))) else (impl_IsControl.j0 k l0 true l1_0 a1_1 l1_2 a1_3))
theorem impl_IsControl.mono_l : ∀ k, (∀ y0 y1 y2 y3 y4 y5, LeO (impl_IsControl.j0 k y0 y1 y2 y3 y4 y5) (impl_IsControl.j0 (k + 1) y0 y1 y2 y3 y4 y5))
 | 0 => fun _ _ _ _ _ _ r h => by simp [impl_IsControl.j0] at h
 | k + 1 => by
  have ih0 := impl_IsControl.mono_l k
  ·intro y0 y1 y2 y3 y4 y5
   unfold impl_IsControl.j0
   repeat' first
   | (with_reducible exact ih0 _ _ _ _ _ _)
   | (with_reducible exact impl_ClearBetween.mono _ _ _ _)
   | (with_reducible exact impl_IsTogether.mono _ _ _)
   | (with_reducible exact LeO.refl _)
   | (with_reducible exact LeO.none _)
   | (with_reducible refine LeO.ite ?_ ?_)
   | (with_reducible refine LeO.bind ?_ (fun _ => ?_))
   | exact ih0 _ _ _ _ _ _
   | exact impl_ClearBetween.mono _ _ _ _
   | exact impl_IsTogether.mono _ _ _
   | exact LeO.none _
   | refine LeO.ite ?_ ?_
   | refine LeO.bind ?_ (fun _ => ?_)
theorem impl_IsControl.mono : ∀ a0 a1 a2 a3 a4 k, LeO (impl_IsControl.f k a0 a1 a2 a3 a4) (impl_IsControl.f (k + 1) a0 a1 a2 a3 a4) := by
 intro a0 a1 a2 a3 a4 k
 have ih0 := impl_IsControl.mono_l k
 unfold impl_IsControl.f
 repeat' first
   | (with_reducible exact ih0 _ _ _ _ _ _)
   | (with_reducible exact impl_ClearBetween.mono _ _ _ _)
   | (with_reducible exact impl_IsTogether.mono _ _ _)
   | (with_reducible exact LeO.refl _)
   | (with_reducible exact LeO.none _)
   | (with_reducible refine LeO.ite ?_ ?_)
   | (with_reducible refine LeO.bind ?_ (fun _ => ?_))
   | exact ih0 _ _ _ _ _ _
   | exact impl_ClearBetween.mono _ _ _ _
   | exact impl_IsTogether.mono _ _ _
   | exact LeO.none _
   | refine LeO.ite ?_ ?_
   | refine LeO.bind ?_ (fun _ => ?_)
def impl_IsControl.T5 : Bool × List (List Nat × List Nat) := (true, [([], []), ([0], [0]), ([], []), ([], []), ([3], [3]), ([], []), ([5], [5]), ([2, 4, 6], [2, 4, 6]), ([1, 7, 7], [1, 7]), ([8, 8, 0, 1, 2, 3, 4, 5, 6, 7, 8], [8])])
def impl_IsControl.B5 : List Nat := [0, 1, 0, 0, 8, 0, 32, 124, 255, 511]
theorem impl_IsControl.tab5 : rtab .any (opsOf Try.f54 5) = impl_IsControl.T5 := by kernel_rfl
theorem impl_IsControl.bits5 : waitsOk impl_IsControl.T5.2 impl_IsControl.B5 = true := by kernel_rfl
set_option maxHeartbeats 8000000 in
set_option maxRecDepth 100000 in
theorem impl_IsControl.calls (k : Nat) (A0 : Option Addr) (c0 : Nat) (l0 : List (S52)) (A1_0 : Option Addr) (c1_0 : Nat) (l1_0 : List Int) (a1_1 : Int) (A1_2 : Option Addr) (c1_2 : Nat) (l1_2 : List Int) (a1_3 : Int) (r : Bool) (w : World) (hr0 : Kd.C k52 w A0 l0.length l0) (hc0 : l0.length ≤ c0) (hr1_0 : Kd.C (Kd.int .i64) w A1_0 l1_0.length l1_0) (hc1_0 : l1_0.length ≤ c1_0) (hr1_2 : Kd.C (Kd.int .i64) w A1_2 l1_2.length l1_2) (hc1_2 : l1_2.length ≤ c1_2) (h : impl_IsControl.f k l0 l1_0 a1_1 l1_2 a1_3 = some r) :
  Calls Try.prog 54 #[.slice A0 l0.length c0, .agg #[.slice A1_0 l1_0.length c1_0, .int .i64 a1_1, .slice A1_2 l1_2.length c1_2, .int .i64 a1_3]] w fun e w' => e = .returned (.bool r) ∧ Below w.heap.size w w' := by
 have hu60 := Try.underlying60
 have HR0 := Aside0.mk hr0
 have HC0 := Aside0.mk hc0
 clear hr0 hc0
 have HR1_0 := Aside0.mk hr1_0
 have HC1_0 := Aside0.mk hc1_0
 clear hr1_0 hc1_0
 have HR1_2 := Aside0.mk hr1_2
 have HC1_2 := Aside0.mk hc1_2
 clear hr1_2 hc1_2
 have HB := Aside0.mk (Below.refl w.heap.size w)
 have H : ((impl_IsTogether.f k l0 l1_0).bind fun t314 => (if t314 = true then ((impl_IsTogether.f k l0 l1_2).bind fun t315 => (if t315 = true then (if (l1_0.length : Int) = 0 then (impl_IsControl.j0 k l0 true l1_0 a1_1 l1_2 a1_3) else ((impl_InRange.f a1_1 0 1000000).bind fun t316 => (impl_IsControl.j0 k l0 (!t316) l1_0 a1_1 l1_2 a1_3))) else (impl_IsControl.j0 k l0 true l1_0 a1_1 l1_2 a1_3))) else (impl_IsControl.j0 k l0 true l1_0 a1_1 l1_2 a1_3))) = some r := h
 clear h
 have HC3 := Aside0.mk H
 clear H
 go_enter Try.func54, Try.ntmps54
 go_upto_region 1 with (first | ((with_reducible refine gate_dst (N := 3) rfl ?_); (try (refine gate_guard (by rfl) ?_; dsimp only)); refine box_event ?hg (N := 3) ?hd (cs := #[.slice A1_0 l1_0.length c1_0, .int .i64 a1_1, .slice A1_2 l1_2.length c1_2, .int .i64 a1_3]) (t := 60) ?hr ?_; (case hd => rfl); (case hg => rfl); (case hr => first | (go_simp; done) | (go_simp; rfl)); intro gb313 hg w4 hbox hb; have n0_ := Aside0.mk (below_step S.bA hb); have n1_ := Aside0.mk (hbox); have n2_ := Aside0.mk ((by rw [hg]; exact (below_size S.bA) : w.heap.size ≤ gb313)); have n3_ := Aside0.mk ((by rw [hg]; exact (below_size S.bA) : w.heap.size ≤ gb313)); clear HB; have HB := n0_; have BK313 := n1_; have GW313 := n2_; have GE313 := n3_; clear n0_ n1_ n2_ n3_; clear hb hbox hg))
 (try simp only [Act.put, List.setIfInBounds_toArray, List.set_cons_zero, List.set_cons_succ])
 go_cut [28] (fun v28 wc => ∃ (kq : Nat) (x28_2 : Bool), v28 = .bool x28_2 ∧ Aside0 (impl_IsControl.j0 kq l0 x28_2 l1_0 a1_1 l1_2 a1_3 = some r) ∧ Aside0 (kq ≤ k) ∧ Aside0 (wc.heap[gb313]? = some (.cells #[(.slice A1_0 l1_0.length c1_0), .int .i64 a1_1, (.slice A1_2 l1_2.length c1_2), .int .i64 a1_3] 60 (0, 0))) ∧ Aside0 (Below w.heap.size w wc))
 case first =>
  have H := HC3.out
  clear HC3
  replace H := Option.bind_eq_some_iff.mp H
  obtain ⟨t314, A50, H⟩ := H
  replace H : (if t314 = true then ((impl_IsTogether.f k l0 l1_2).bind fun t315 => (if t315 = true then (if (l1_0.length : Int) = 0 then (impl_IsControl.j0 k l0 true l1_0 a1_1 l1_2 a1_3) else ((impl_InRange.f a1_1 0 1000000).bind fun t316 => (impl_IsControl.j0 k l0 (!t316) l1_0 a1_1 l1_2 a1_3))) else (impl_IsControl.j0 k l0 true l1_0 a1_1 l1_2 a1_3))) else (impl_IsControl.j0 k l0 true l1_0 a1_1 l1_2 a1_3)) = some r := H
  have A5 := Aside0.mk A50
  clear A50
  by_cases c6 : t314 = true
  ·subst c6
   have H1 : ((impl_IsTogether.f k l0 l1_2).bind fun t315 => (if t315 = true then (if (l1_0.length : Int) = 0 then (impl_IsControl.j0 k l0 true l1_0 a1_1 l1_2 a1_3) else ((impl_InRange.f a1_1 0 1000000).bind fun t316 => (impl_IsControl.j0 k l0 (!t316) l1_0 a1_1 l1_2 a1_3))) else (impl_IsControl.j0 k l0 true l1_0 a1_1 l1_2 a1_3))) = some r := by rw [if_pos rfl] at H; exact H
   clear H
   have H := H1
   clear H1
   replace H := Option.bind_eq_some_iff.mp H
   obtain ⟨t315, A70, H⟩ := H
   replace H : (if t315 = true then (if (l1_0.length : Int) = 0 then (impl_IsControl.j0 k l0 true l1_0 a1_1 l1_2 a1_3) else ((impl_InRange.f a1_1 0 1000000).bind fun t316 => (impl_IsControl.j0 k l0 (!t316) l1_0 a1_1 l1_2 a1_3))) else (impl_IsControl.j0 k l0 true l1_0 a1_1 l1_2 a1_3)) = some r := H
   have A7 := Aside0.mk A70
   clear A70
   by_cases c8 : t315 = true
   ·subst c8
    have H1 : (if (l1_0.length : Int) = 0 then (impl_IsControl.j0 k l0 true l1_0 a1_1 l1_2 a1_3) else ((impl_InRange.f a1_1 0 1000000).bind fun t316 => (impl_IsControl.j0 k l0 (!t316) l1_0 a1_1 l1_2 a1_3))) = some r := by rw [if_pos rfl] at H; exact H
    clear H
    have H := H1
    clear H1
    by_cases c9 : (l1_0.length : Int) = 0
    ·rw [if_pos c9] at H
     have c9b0 : ((l1_0.length : Int) == 0) = true := beq_iff_eq.mpr c9
     have c9b1 : ((l1_0.length : Int) != 0) = false := bne_eq_false_iff_eq.mpr c9
     clear c9
     (first | rw [c9b0] | (simp only [i64_w, i32_w]; rw [c9b0]) | skip)
     have H' := Aside0.mk H
     clear H
     have hcz10_0 : w4.cell? ⟨gb313, 0, none⟩ = some (.slice A1_0 l1_0.length c1_0) := (blk_cell BK313.out 0).trans rfl
     have hcz10_1 : w4.cell? ⟨gb313, 1, none⟩ = some (.int .i64 a1_1) := (blk_cell BK313.out 1).trans rfl
     have hcz10_2 : w4.cell? ⟨gb313, 2, none⟩ = some (.slice A1_2 l1_2.length c1_2) := (blk_cell BK313.out 2).trans rfl
     have hcz10_3 : w4.cell? ⟨gb313, 3, none⟩ = some (.int .i64 a1_3) := (blk_cell BK313.out 3).trans rfl
     have hfz10_0 := blk_frozen BK313.out 0
     have hfz10_1 := blk_frozen BK313.out 1
     have hfz10_2 := blk_frozen BK313.out 2
     have hfz10_3 := blk_frozen BK313.out 3
     go_wp2_with (first | ((with_reducible refine gate_callee (f := 95) rfl ?_); refine S.gL (some 8) Try.func95 #[.slice A0 l0.length c0, .slice A1_0 l1_0.length c1_0] ?_; (with_reducible refine (impl_IsTogether.calls k _ _ l0 _ _ l1_0 true _ ?side1 ?side2 ?side3 ?side4 A5.out).mono ?_); (case side1 => exact S.cA HR0.out); (case side2 => exact HC0.out); (case side3 => exact S.cA HR1_0.out); (case side4 => exact HC1_0.out); rintro e w11 ⟨rfl, hb⟩; refine ⟨_, rfl, ?_⟩; have n0_ := Aside0.mk (blk_below (g := gb313) (o := .cells #[.slice A1_0 l1_0.length c1_0, .int .i64 a1_1, .slice A1_2 l1_2.length c1_2, .int .i64 a1_3] 60 (0, 0)) (S.uB BK313.out) hb); have n1_ := Aside0.mk (below_step S.bG hb); clear BK313; clear HB; have BK313 := n0_; have HB := n1_; clear n0_ n1_; (try clear hb); (try clear hb2); (try clear hk); (try clear hi); have hcz12_0 : w11.cell? ⟨gb313, 0, none⟩ = some (.slice A1_0 l1_0.length c1_0) := (blk_cell BK313.out 0).trans rfl; have hcz12_1 : w11.cell? ⟨gb313, 1, none⟩ = some (.int .i64 a1_1) := (blk_cell BK313.out 1).trans rfl; have hcz12_2 : w11.cell? ⟨gb313, 2, none⟩ = some (.slice A1_2 l1_2.length c1_2) := (blk_cell BK313.out 2).trans rfl; have hcz12_3 : w11.cell? ⟨gb313, 3, none⟩ = some (.int .i64 a1_3) := (blk_cell BK313.out 3).trans rfl; have hfz12_0 := blk_frozen BK313.out 0; have hfz12_1 := blk_frozen BK313.out 1; have hfz12_2 := blk_frozen BK313.out 2; have hfz12_3 := blk_frozen BK313.out 3) | (go_at_call 95; (with_reducible refine (impl_IsTogether.calls k _ _ l0 _ _ l1_2 true _ ?side1 ?side2 ?side3 ?side4 A7.out).mono ?_); (case side1 => exact S.cA HR0.out); (case side2 => exact HC0.out); (case side3 => exact S.cA HR1_2.out); (case side4 => exact HC1_2.out); rintro e w13 ⟨rfl, hb⟩; have n0_ := Aside0.mk (blk_below (g := gb313) (o := .cells #[.slice A1_0 l1_0.length c1_0, .int .i64 a1_1, .slice A1_2 l1_2.length c1_2, .int .i64 a1_3] 60 (0, 0)) (S.uB BK313.out) hb); have n1_ := Aside0.mk (below_step S.bG hb); clear BK313; clear HB; have BK313 := n0_; have HB := n1_; clear n0_ n1_; (try clear hb); (try clear hb2); (try clear hk); (try clear hi); have hcz14_0 : w13.cell? ⟨gb313, 0, none⟩ = some (.slice A1_0 l1_0.length c1_0) := (blk_cell BK313.out 0).trans rfl; have hcz14_1 : w13.cell? ⟨gb313, 1, none⟩ = some (.int .i64 a1_1) := (blk_cell BK313.out 1).trans rfl; have hcz14_2 : w13.cell? ⟨gb313, 2, none⟩ = some (.slice A1_2 l1_2.length c1_2) := (blk_cell BK313.out 2).trans rfl; have hcz14_3 : w13.cell? ⟨gb313, 3, none⟩ = some (.int .i64 a1_3) := (blk_cell BK313.out 3).trans rfl; have hfz14_0 := blk_frozen BK313.out 0; have hfz14_1 := blk_frozen BK313.out 1; have hfz14_2 := blk_frozen BK313.out 2; have hfz14_3 := blk_frozen BK313.out 3))
     go_meet
     case rel => exact ⟨_, (true), S.eA, H', ⟨by first | omega | exact Nat.le_refl _⟩, ⟨S.uB BK313.out⟩, ⟨S.bG⟩⟩
    ·rw [if_neg c9] at H
     have c9b0 : ((l1_0.length : Int) == 0) = false := beq_eq_false_iff_ne.mpr c9
     have c9b1 : ((l1_0.length : Int) != 0) = true := bne_iff_ne.mpr c9
     have c9b2 : ¬ (l1_0 = []) := fun h_ => c9 (by rw [h_]; rfl)
     (first | rw [c9b0] | (simp only [i64_w, i32_w]; rw [c9b0]) | skip)
     replace H := Option.bind_eq_some_iff.mp H
     obtain ⟨t316, A150, H⟩ := H
     replace H : (impl_IsControl.j0 k l0 (!t316) l1_0 a1_1 l1_2 a1_3) = some r := H
     have A15 := Aside0.mk A150
     clear A150
     have H' := Aside0.mk H
     clear H
     have hcz16_0 : w4.cell? ⟨gb313, 0, none⟩ = some (.slice A1_0 l1_0.length c1_0) := (blk_cell BK313.out 0).trans rfl
     have hcz16_1 : w4.cell? ⟨gb313, 1, none⟩ = some (.int .i64 a1_1) := (blk_cell BK313.out 1).trans rfl
     have hcz16_2 : w4.cell? ⟨gb313, 2, none⟩ = some (.slice A1_2 l1_2.length c1_2) := (blk_cell BK313.out 2).trans rfl
     have hcz16_3 : w4.cell? ⟨gb313, 3, none⟩ = some (.int .i64 a1_3) := (blk_cell BK313.out 3).trans rfl
     have hfz16_0 := blk_frozen BK313.out 0
     have hfz16_1 := blk_frozen BK313.out 1
     have hfz16_2 := blk_frozen BK313.out 2
     have hfz16_3 := blk_frozen BK313.out 3
     go_wp2_with (first | ((with_reducible refine gate_callee (f := 95) rfl ?_); refine S.gL (some 8) Try.func95 #[.slice A0 l0.length c0, .slice A1_0 l1_0.length c1_0] ?_; (with_reducible refine (impl_IsTogether.calls k _ _ l0 _ _ l1_0 true _ ?side1 ?side2 ?side3 ?side4 A5.out).mono ?_); (case side1 => exact S.cA HR0.out); (case side2 => exact HC0.out); (case side3 => exact S.cA HR1_0.out); (case side4 => exact HC1_0.out); rintro e w17 ⟨rfl, hb⟩; refine ⟨_, rfl, ?_⟩; have n0_ := Aside0.mk (blk_below (g := gb313) (o := .cells #[.slice A1_0 l1_0.length c1_0, .int .i64 a1_1, .slice A1_2 l1_2.length c1_2, .int .i64 a1_3] 60 (0, 0)) (S.uB BK313.out) hb); have n1_ := Aside0.mk (below_step S.bG hb); clear BK313; clear HB; have BK313 := n0_; have HB := n1_; clear n0_ n1_; (try clear hb); (try clear hb2); (try clear hk); (try clear hi); have hcz18_0 : w17.cell? ⟨gb313, 0, none⟩ = some (.slice A1_0 l1_0.length c1_0) := (blk_cell BK313.out 0).trans rfl; have hcz18_1 : w17.cell? ⟨gb313, 1, none⟩ = some (.int .i64 a1_1) := (blk_cell BK313.out 1).trans rfl; have hcz18_2 : w17.cell? ⟨gb313, 2, none⟩ = some (.slice A1_2 l1_2.length c1_2) := (blk_cell BK313.out 2).trans rfl; have hcz18_3 : w17.cell? ⟨gb313, 3, none⟩ = some (.int .i64 a1_3) := (blk_cell BK313.out 3).trans rfl; have hfz18_0 := blk_frozen BK313.out 0; have hfz18_1 := blk_frozen BK313.out 1; have hfz18_2 := blk_frozen BK313.out 2; have hfz18_3 := blk_frozen BK313.out 3) | (go_at_call 95; (with_reducible refine (impl_IsTogether.calls k _ _ l0 _ _ l1_2 true _ ?side1 ?side2 ?side3 ?side4 A7.out).mono ?_); (case side1 => exact S.cA HR0.out); (case side2 => exact HC0.out); (case side3 => exact S.cA HR1_2.out); (case side4 => exact HC1_2.out); rintro e w19 ⟨rfl, hb⟩; have n0_ := Aside0.mk (blk_below (g := gb313) (o := .cells #[.slice A1_0 l1_0.length c1_0, .int .i64 a1_1, .slice A1_2 l1_2.length c1_2, .int .i64 a1_3] 60 (0, 0)) (S.uB BK313.out) hb); have n1_ := Aside0.mk (below_step S.bG hb); clear BK313; clear HB; have BK313 := n0_; have HB := n1_; clear n0_ n1_; (try clear hb); (try clear hb2); (try clear hk); (try clear hi); have hcz20_0 : w19.cell? ⟨gb313, 0, none⟩ = some (.slice A1_0 l1_0.length c1_0) := (blk_cell BK313.out 0).trans rfl; have hcz20_1 : w19.cell? ⟨gb313, 1, none⟩ = some (.int .i64 a1_1) := (blk_cell BK313.out 1).trans rfl; have hcz20_2 : w19.cell? ⟨gb313, 2, none⟩ = some (.slice A1_2 l1_2.length c1_2) := (blk_cell BK313.out 2).trans rfl; have hcz20_3 : w19.cell? ⟨gb313, 3, none⟩ = some (.int .i64 a1_3) := (blk_cell BK313.out 3).trans rfl; have hfz20_0 := blk_frozen BK313.out 0; have hfz20_1 := blk_frozen BK313.out 1; have hfz20_2 := blk_frozen BK313.out 2; have hfz20_3 := blk_frozen BK313.out 3) | (go_at_call 96; (with_reducible refine (impl_InRange.calls a1_1 0 1000000 t316 _ A15.out).mono ?_); rintro e w' ⟨rfl, ⟨nd, rfl⟩⟩))
     go_meet
     case rel => exact ⟨_, (!t316), S.eA, H', ⟨by first | omega | exact Nat.le_refl _⟩, ⟨S.uB BK313.out⟩, ⟨S.bG⟩⟩
   ·replace c8 := Bool.eq_false_iff.mpr c8
    subst c8
    have H1 : (impl_IsControl.j0 k l0 true l1_0 a1_1 l1_2 a1_3) = some r := by rw [if_neg (show ¬ (false = true) by decide)] at H; exact H
    clear H
    have H := H1
    clear H1
    have H' := Aside0.mk H
    clear H
    have hcz21_0 : w4.cell? ⟨gb313, 0, none⟩ = some (.slice A1_0 l1_0.length c1_0) := (blk_cell BK313.out 0).trans rfl
    have hcz21_1 : w4.cell? ⟨gb313, 1, none⟩ = some (.int .i64 a1_1) := (blk_cell BK313.out 1).trans rfl
    have hcz21_2 : w4.cell? ⟨gb313, 2, none⟩ = some (.slice A1_2 l1_2.length c1_2) := (blk_cell BK313.out 2).trans rfl
    have hcz21_3 : w4.cell? ⟨gb313, 3, none⟩ = some (.int .i64 a1_3) := (blk_cell BK313.out 3).trans rfl
    have hfz21_0 := blk_frozen BK313.out 0
    have hfz21_1 := blk_frozen BK313.out 1
    have hfz21_2 := blk_frozen BK313.out 2
    have hfz21_3 := blk_frozen BK313.out 3
    go_wp2_with (first | ((with_reducible refine gate_callee (f := 95) rfl ?_); refine S.gL (some 8) Try.func95 #[.slice A0 l0.length c0, .slice A1_0 l1_0.length c1_0] ?_; (with_reducible refine (impl_IsTogether.calls k _ _ l0 _ _ l1_0 true _ ?side1 ?side2 ?side3 ?side4 A5.out).mono ?_); (case side1 => exact S.cA HR0.out); (case side2 => exact HC0.out); (case side3 => exact S.cA HR1_0.out); (case side4 => exact HC1_0.out); rintro e w22 ⟨rfl, hb⟩; refine ⟨_, rfl, ?_⟩; have n0_ := Aside0.mk (blk_below (g := gb313) (o := .cells #[.slice A1_0 l1_0.length c1_0, .int .i64 a1_1, .slice A1_2 l1_2.length c1_2, .int .i64 a1_3] 60 (0, 0)) (S.uB BK313.out) hb); have n1_ := Aside0.mk (below_step S.bG hb); clear BK313; clear HB; have BK313 := n0_; have HB := n1_; clear n0_ n1_; (try clear hb); (try clear hb2); (try clear hk); (try clear hi); have hcz23_0 : w22.cell? ⟨gb313, 0, none⟩ = some (.slice A1_0 l1_0.length c1_0) := (blk_cell BK313.out 0).trans rfl; have hcz23_1 : w22.cell? ⟨gb313, 1, none⟩ = some (.int .i64 a1_1) := (blk_cell BK313.out 1).trans rfl; have hcz23_2 : w22.cell? ⟨gb313, 2, none⟩ = some (.slice A1_2 l1_2.length c1_2) := (blk_cell BK313.out 2).trans rfl; have hcz23_3 : w22.cell? ⟨gb313, 3, none⟩ = some (.int .i64 a1_3) := (blk_cell BK313.out 3).trans rfl; have hfz23_0 := blk_frozen BK313.out 0; have hfz23_1 := blk_frozen BK313.out 1; have hfz23_2 := blk_frozen BK313.out 2; have hfz23_3 := blk_frozen BK313.out 3) | (go_at_call 95; (with_reducible refine (impl_IsTogether.calls k _ _ l0 _ _ l1_2 false _ ?side1 ?side2 ?side3 ?side4 A7.out).mono ?_); (case side1 => exact S.cA HR0.out); (case side2 => exact HC0.out); (case side3 => exact S.cA HR1_2.out); (case side4 => exact HC1_2.out); rintro e w24 ⟨rfl, hb⟩; have n0_ := Aside0.mk (blk_below (g := gb313) (o := .cells #[.slice A1_0 l1_0.length c1_0, .int .i64 a1_1, .slice A1_2 l1_2.length c1_2, .int .i64 a1_3] 60 (0, 0)) (S.uB BK313.out) hb); have n1_ := Aside0.mk (below_step S.bG hb); clear BK313; clear HB; have BK313 := n0_; have HB := n1_; clear n0_ n1_; (try clear hb); (try clear hb2); (try clear hk); (try clear hi)))
    go_meet
    case rel => exact ⟨_, (true), S.eA, H', ⟨by first | omega | exact Nat.le_refl _⟩, ⟨S.uB BK313.out⟩, ⟨S.bG⟩⟩
  ·replace c6 := Bool.eq_false_iff.mpr c6
   subst c6
   have H1 : (impl_IsControl.j0 k l0 true l1_0 a1_1 l1_2 a1_3) = some r := by rw [if_neg (show ¬ (false = true) by decide)] at H; exact H
   clear H
   have H := H1
   clear H1
   have H' := Aside0.mk H
   clear H
   have hcz25_0 : w4.cell? ⟨gb313, 0, none⟩ = some (.slice A1_0 l1_0.length c1_0) := (blk_cell BK313.out 0).trans rfl
   have hcz25_1 : w4.cell? ⟨gb313, 1, none⟩ = some (.int .i64 a1_1) := (blk_cell BK313.out 1).trans rfl
   have hcz25_2 : w4.cell? ⟨gb313, 2, none⟩ = some (.slice A1_2 l1_2.length c1_2) := (blk_cell BK313.out 2).trans rfl
   have hcz25_3 : w4.cell? ⟨gb313, 3, none⟩ = some (.int .i64 a1_3) := (blk_cell BK313.out 3).trans rfl
   have hfz25_0 := blk_frozen BK313.out 0
   have hfz25_1 := blk_frozen BK313.out 1
   have hfz25_2 := blk_frozen BK313.out 2
   have hfz25_3 := blk_frozen BK313.out 3
   go_wp2_with (first | ((with_reducible refine gate_callee (f := 95) rfl ?_); refine S.gL (some 8) Try.func95 #[.slice A0 l0.length c0, .slice A1_0 l1_0.length c1_0] ?_; (with_reducible refine (impl_IsTogether.calls k _ _ l0 _ _ l1_0 false _ ?side1 ?side2 ?side3 ?side4 A5.out).mono ?_); (case side1 => exact S.cA HR0.out); (case side2 => exact HC0.out); (case side3 => exact S.cA HR1_0.out); (case side4 => exact HC1_0.out); rintro e w26 ⟨rfl, hb⟩; refine ⟨_, rfl, ?_⟩; have n0_ := Aside0.mk (blk_below (g := gb313) (o := .cells #[.slice A1_0 l1_0.length c1_0, .int .i64 a1_1, .slice A1_2 l1_2.length c1_2, .int .i64 a1_3] 60 (0, 0)) (S.uB BK313.out) hb); have n1_ := Aside0.mk (below_step S.bG hb); clear BK313; clear HB; have BK313 := n0_; have HB := n1_; clear n0_ n1_; (try clear hb); (try clear hb2); (try clear hk); (try clear hi)))
   go_meet
   case rel => exact ⟨_, (true), S.eA, H', ⟨by first | omega | exact Nat.le_refl _⟩, ⟨S.uB BK313.out⟩, ⟨S.bG⟩⟩
 case rest =>
  clear HC3
  try clear c1
  try clear p2
  try clear c5
  try clear c6
  try clear c8
  try clear c9
  try clear c9b0
  try clear c9b1
  try clear c9b2
  try clear hcz10_0
  try clear hcz10_1
  try clear hcz10_2
  try clear hcz10_3
  try clear hcz12_0
  try clear hcz12_1
  try clear hcz12_2
  try clear hcz12_3
  try clear hcz14_0
  try clear hcz14_1
  try clear hcz14_2
  try clear hcz14_3
  try clear hcz16_0
  try clear hcz16_1
  try clear hcz16_2
  try clear hcz16_3
  try clear hcz18_0
  try clear hcz18_1
  try clear hcz18_2
  try clear hcz18_3
  try clear hcz20_0
  try clear hcz20_1
  try clear hcz20_2
  try clear hcz20_3
  try clear hcz21_0
  try clear hcz21_1
  try clear hcz21_2
  try clear hcz21_3
  try clear hcz23_0
  try clear hcz23_1
  try clear hcz23_2
  try clear hcz23_3
  try clear hcz25_0
  try clear hcz25_1
  try clear hcz25_2
  try clear hcz25_3
  try clear hfz10_0
  try clear hfz10_1
  try clear hfz10_2
  try clear hfz10_3
  try clear hfz12_0
  try clear hfz12_1
  try clear hfz12_2
  try clear hfz12_3
  try clear hfz14_0
  try clear hfz14_1
  try clear hfz14_2
  try clear hfz14_3
  try clear hfz16_0
  try clear hfz16_1
  try clear hfz16_2
  try clear hfz16_3
  try clear hfz18_0
  try clear hfz18_1
  try clear hfz18_2
  try clear hfz18_3
  try clear hfz20_0
  try clear hfz20_1
  try clear hfz20_2
  try clear hfz20_3
  try clear hfz21_0
  try clear hfz21_1
  try clear hfz21_2
  try clear hfz21_3
  try clear hfz23_0
  try clear hfz23_1
  try clear hfz23_2
  try clear hfz23_3
  try clear hfz25_0
  try clear hfz25_1
  try clear hfz25_2
  try clear hfz25_3
  obtain ⟨kq, x28_2, rfl, HA, HJ2, BK313, HB⟩ := hcut
  cases kq with
  | zero => exact absurd HA.out (by simp [impl_IsControl.j0])
  | succ kj2 =>
   have H := HA.out
   clear HA
   simp only [impl_IsControl.j0] at H
   by_cases c27 : x28_2 = true
   ·subst c27
    have H1 : (some false) = some r := by rw [if_pos rfl] at H; exact H
    clear H
    have H := H1
    clear H1
    obtain rfl := Option.some.inj H
    go_wp2
    go_ret
    exact ⟨S.eW, S.bG⟩
   ·replace c27 := Bool.eq_false_iff.mpr c27
    subst c27
    have H1 : (if (l1_2.length : Int) = 0 then (some (a1_3 == 0)) else ((impl_ClearBetween.f kj2 l0 l1_0 l1_2).bind fun t317 => ((impl_InRange.f a1_3 1 t317).bind fun t318 => (some t318)))) = some r := by rw [if_neg (show ¬ (false = true) by decide)] at H; exact H
    clear H
    have H := H1
    clear H1
    by_cases c28 : (l1_2.length : Int) = 0
    ·rw [if_pos c28] at H
     have c28b0 : ((l1_2.length : Int) == 0) = true := beq_iff_eq.mpr c28
     have c28b1 : ((l1_2.length : Int) != 0) = false := bne_eq_false_iff_eq.mpr c28
     clear c28
     obtain rfl := Option.some.inj H
     have hcz29_0 : wc.cell? ⟨gb313, 0, none⟩ = some (.slice A1_0 l1_0.length c1_0) := (blk_cell BK313.out 0).trans rfl
     have hcz29_1 : wc.cell? ⟨gb313, 1, none⟩ = some (.int .i64 a1_1) := (blk_cell BK313.out 1).trans rfl
     have hcz29_2 : wc.cell? ⟨gb313, 2, none⟩ = some (.slice A1_2 l1_2.length c1_2) := (blk_cell BK313.out 2).trans rfl
     have hcz29_3 : wc.cell? ⟨gb313, 3, none⟩ = some (.int .i64 a1_3) := (blk_cell BK313.out 3).trans rfl
     have hfz29_0 := blk_frozen BK313.out 0
     have hfz29_1 := blk_frozen BK313.out 1
     have hfz29_2 := blk_frozen BK313.out 2
     have hfz29_3 := blk_frozen BK313.out 3
     go_wp2
     go_ret
     exact ⟨S.eW, S.bG⟩
    ·rw [if_neg c28] at H
     have c28b0 : ((l1_2.length : Int) == 0) = false := beq_eq_false_iff_ne.mpr c28
     have c28b1 : ((l1_2.length : Int) != 0) = true := bne_iff_ne.mpr c28
     have c28b2 : ¬ (l1_2 = []) := fun h_ => c28 (by rw [h_]; rfl)
     replace H := Option.bind_eq_some_iff.mp H
     obtain ⟨t317, A300, H⟩ := H
     replace H : ((impl_InRange.f a1_3 1 t317).bind fun t318 => (some t318)) = some r := H
     have A30 := Aside0.mk A300
     clear A300
     replace H := Option.bind_eq_some_iff.mp H
     obtain ⟨t318, A310, H⟩ := H
     replace H : (some t318) = some r := H
     have A31 := Aside0.mk A310
     clear A310
     obtain rfl := Option.some.inj H
     have hcz32_0 : wc.cell? ⟨gb313, 0, none⟩ = some (.slice A1_0 l1_0.length c1_0) := (blk_cell BK313.out 0).trans rfl
     have hcz32_1 : wc.cell? ⟨gb313, 1, none⟩ = some (.int .i64 a1_1) := (blk_cell BK313.out 1).trans rfl
     have hcz32_2 : wc.cell? ⟨gb313, 2, none⟩ = some (.slice A1_2 l1_2.length c1_2) := (blk_cell BK313.out 2).trans rfl
     have hcz32_3 : wc.cell? ⟨gb313, 3, none⟩ = some (.int .i64 a1_3) := (blk_cell BK313.out 3).trans rfl
     have hfz32_0 := blk_frozen BK313.out 0
     have hfz32_1 := blk_frozen BK313.out 1
     have hfz32_2 := blk_frozen BK313.out 2
     have hfz32_3 := blk_frozen BK313.out 3
     try go_wp2
     have n0_ := Aside0.mk (blk_drew BK313.out)
     have n1_ := Aside0.mk (below_drew1 HB.out)
     clear BK313
     clear HB
     have BK313 := n0_
     have HB := n1_
     clear n0_ n1_
     refine start_ (n := 10) (S := fun w' => w'.cell? ⟨gb313, 0, none⟩ = some (.slice A1_0 l1_0.length c1_0) ∧ w'.cell? ⟨gb313, 1, none⟩ = some (.int .i64 a1_1) ∧ w'.cell? ⟨gb313, 2, none⟩ = some (.slice A1_2 l1_2.length c1_2) ∧ w'.cell? ⟨gb313, 3, none⟩ = some (.int .i64 a1_3)) (ds := []) #[false, false, false, false, false, false, false, false, false, false] (by kernel_rfl) rfl rfl ⟨(blk_cell BK313.out 0).trans rfl, (blk_cell BK313.out 1).trans rfl, (blk_cell BK313.out 2).trans rfl, (blk_cell BK313.out 3).trans rfl⟩ (fun hHeld => ?_); refine with_tabW impl_IsControl.tab5 impl_IsControl.bits5 (fun HT_ HW_ => ?_)
     generalize wc.drew = w33 at BK313 HB hHeld ⊢
     refine S.pS 0 36 ?_
     refine S.pS 2 38 ?_
     refine S.pS 3 39 ?_
     refine S.pS 5 41 ?_
     refine take_ (i := 1) (N := some 37) (v := ?_) (a' := ?_) #[true, true, true, true, false, true, false, false, false, false] rfl rfl (take_ofW HT_.out HW_.out (by kernel_rfl)) (fun _ _ _ h => h) (Or.inl ⟨by rfl, ?_⟩) hHeld ?_ ?_
     rotate_left
     ·rintro w' ⟨s0, s1, s2, s3⟩
      go_simp
      with_reducible rfl
     rotate_left
     ·simp only [Act.put, List.setIfInBounds_toArray, List.set_cons_zero, List.set_cons_succ, i64_w, i32_w]
      rfl
     refine take_ (i := 4) (N := some 40) (v := ?_) (a' := ?_) #[true, true, true, true, true, true, false, false, false, false] rfl rfl (take_ofW HT_.out HW_.out (by kernel_rfl)) (fun _ _ _ h => h) (Or.inl ⟨by rfl, ?_⟩) hHeld ?_ ?_
     rotate_left
     ·rintro w' ⟨s0, s1, s2, s3⟩
      go_simp
      with_reducible rfl
     rotate_left
     ·simp only [Act.put, List.setIfInBounds_toArray, List.set_cons_zero, List.set_cons_succ, i64_w, i32_w]
      rfl
     refine take_ (i := 6) (N := some 42) (v := ?_) (a' := ?_) #[true, true, true, true, true, true, true, false, false, false] rfl rfl (take_ofW HT_.out HW_.out (by kernel_rfl)) (fun _ _ _ h => h) (Or.inl ⟨by rfl, ?_⟩) hHeld ?_ ?_
     rotate_left
     ·rintro w' ⟨s0, s1, s2, s3⟩
      go_simp
      with_reducible rfl
     rotate_left
     ·simp only [Act.put, List.setIfInBounds_toArray, List.set_cons_zero, List.set_cons_succ, i64_w, i32_w]
      rfl
     refine one_ (i := 7) (N := some 43) #[true, true, true, true, true, true, true, true, false, false] rfl rfl (one_of HT_.out (by kernel_rfl)) (by decide) (fun K hK => ?_)
     refine goes_ Try.func89 (by kernel_rfl) rfl #[.slice A0 l0.length c0, .slice A1_0 l1_0.length c1_0, .slice A1_2 l1_2.length c1_2] (by rfl) rfl rfl (by (try simp only [List.map_toArray, List.map_cons, List.map_nil]); first | done | rfl | (simp only [List.length_drop, List.length_take]; rfl)) ?_
     with_reducible refine (impl_ClearBetween.calls kj2 _ _ l0 _ _ l1_0 _ _ l1_2 t317 _ ?side1 ?side2 ?side3 ?side4 ?side5 ?side6 A30.out).mono ?_
     (case side1 => exact S.cA HR0.out)
     (case side2 => exact HC0.out)
     (case side3 => exact S.cA HR1_0.out)
     (case side4 => exact HC1_0.out)
     (case side5 => exact S.cA HR1_2.out)
     (case side6 => exact HC1_2.out)
     rintro e w34 ⟨rfl, hb⟩
     refine ⟨_, rfl, ?_⟩
     have n0_ := Aside0.mk (blk_below (g := gb313) (o := .cells #[.slice A1_0 l1_0.length c1_0, .int .i64 a1_1, .slice A1_2 l1_2.length c1_2, .int .i64 a1_3] 60 (0, 0)) (S.uB BK313.out) hb)
     have n1_ := Aside0.mk (below_step S.bG hb)
     clear BK313
     clear HB
     have BK313 := n0_
     have HB := n1_
     clear n0_ n1_
     (try clear hb)
     (try clear hb2)
     (try clear hk)
     (try clear hi)
     refine hK.out _ _ ⟨(blk_cell BK313.out 0).trans rfl, (blk_cell BK313.out 1).trans rfl, (blk_cell BK313.out 2).trans rfl, (blk_cell BK313.out 3).trans rfl⟩ (fun hHeld => ?_)
     clear hK K
     refine norm_ (a' := ?_) ?_ ?_
     rotate_left
     ·show Act.put _ (some 43) _ = _
      simp only [Act.put, List.setIfInBounds_toArray, List.set_cons_zero, List.set_cons_succ, i64_w, i32_w]
      rfl
     refine one_ (i := 8) (N := some 44) #[true, true, true, true, true, true, true, true, true, false] rfl rfl (one_of HT_.out (by kernel_rfl)) (by decide) (fun K hK => ?_)
     refine goes_ Try.func96 (by kernel_rfl) rfl #[.int .i64 a1_3, .int .i64 1, .int .i64 t317] (by rfl) rfl rfl (by (try simp only [List.map_toArray, List.map_cons, List.map_nil]); first | done | rfl | (simp only [List.length_drop, List.length_take]; rfl)) ?_
     with_reducible refine (impl_InRange.calls a1_3 1 t317 t318 _ A31.out).mono ?_
     rintro e w' ⟨rfl, ⟨nd, rfl⟩⟩
     refine ⟨_, rfl, ?_⟩
     refine hK.out _ _ ⟨(blk_cell BK313.out 0).trans rfl, (blk_cell BK313.out 1).trans rfl, (blk_cell BK313.out 2).trans rfl, (blk_cell BK313.out 3).trans rfl⟩ (fun hHeld => ?_)
     clear hK K
     refine norm_ (a' := ?_) ?_ ?_
     rotate_left
     ·show Act.put _ (some 44) _ = _
      simp only [Act.put, List.setIfInBounds_toArray, List.set_cons_zero, List.set_cons_succ, i64_w, i32_w]
      rfl
     refine S.pS 9 4 ?_
     refine done_ (done_of HT_.out (by kernel_rfl)) ?_
     try go_wp2
     go_ret
     exact ⟨S.eW, S.bG⟩

/-! ### impl_isBus: function 110 -/
def impl_isBus.f (l0 : List (S52)) (a1 : Int) : Option (Bool) := (impl_FindPath.f l0 a1).bind fun t319 => (if t319 ≥ 0 then (if 0 ≤ t319 then (if t319 < (l0.length : Int) then (some (((rd_T52 l0 t319).f1) == 3)) else (none)) else (none)) else (some false))
set_option maxHeartbeats 8000000 in
set_option maxRecDepth 100000 in
theorem impl_isBus.calls (A0 : Option Addr) (c0 : Nat) (l0 : List (S52)) (a1 : Int) (r : Bool) (w : World) (hr0 : Kd.C k52 w A0 l0.length l0) (hc0 : l0.length ≤ c0) (h : impl_isBus.f l0 a1 = some r) :
  Calls Try.prog 110 #[.slice A0 l0.length c0, .int .i64 a1] w fun e w' => e = .returned (.bool r) ∧ Below w.heap.size w w' := by
 have HR0 := Aside0.mk hr0
 have HC0 := Aside0.mk hc0
 clear hr0 hc0
 have HB := Aside0.mk (Below.refl w.heap.size w)
 have H : ((impl_FindPath.f l0 a1).bind fun t319 => (if t319 ≥ 0 then (if 0 ≤ t319 then (if t319 < (l0.length : Int) then (some (((rd_T52 l0 t319).f1) == 3)) else (none)) else (none)) else (some false))) = some r := h
 clear h
 replace H := Option.bind_eq_some_iff.mp H
 obtain ⟨t319, A30, H⟩ := H
 replace H : (if t319 ≥ 0 then (if 0 ≤ t319 then (if t319 < (l0.length : Int) then (some (((rd_T52 l0 t319).f1) == 3)) else (none)) else (none)) else (some false)) = some r := H
 have A3 := Aside0.mk A30
 clear A30
 by_cases c4 : t319 ≥ 0
 ·rw [if_pos c4] at H
  have c4b0 : decide (0 ≤ t319) = true := decide_eq_true c4
  clear c4
  by_cases c5 : 0 ≤ t319
  ·rw [if_pos c5] at H
   have c5b0 : decide (0 ≤ t319) = true := decide_eq_true c5
   clear c5
   by_cases c6 : t319 < (l0.length : Int)
   ·rw [if_pos c6] at H
    have c6b0 : decide (t319 < (l0.length : Int)) = true := decide_eq_true c6
    clear c6
    obtain rfl := Option.some.inj H
    go_enter Try.func110, Try.ntmps110
    go_wp2_with (first | ((with_reducible refine gate_callee (f := 91) rfl ?_); refine S.gL (some 8) Try.func91 #[.slice A0 l0.length c0, .int .i64 a1] ?_; (with_reducible refine (impl_FindPath.calls _ _ l0 a1 t319 _ ?side1 ?side2 A3.out).mono ?_); (case side1 => repeat (first | exact HR0.out | (with_reducible refine Kd.C_alloc ?_ _) | (with_reducible refine Kd.C_drewN ?_ _) | (with_reducible refine Kd.C_drew ?_))); (case side2 => exact HC0.out); rintro e w7 ⟨rfl, hb⟩; refine ⟨_, rfl, ?_⟩; have n0_ := Aside0.mk (below_step S.bA hb); clear HB; have HB := n0_; clear n0_; (try clear hb); (try clear hb2); (try clear hk); (try clear hi); have p320 : 0 ≤ (t319 : Int) := S.oD; have q320 : t319 < (l0.length : Int) := S.oD; obtain ⟨ad320, e320, hx320_0, hx320_1, hx320_2, hx320_3⟩ := at_T52 HR0.out t319 p320 q320; cases e320; replace hx320_0 := (HB.out.cell (World.block_lt_of_cell? w _ hx320_0)).trans hx320_0; replace hx320_1 := (HB.out.cell (World.block_lt_of_cell? w _ hx320_1)).trans hx320_1; replace hx320_2 := (HB.out.cell (World.block_lt_of_cell? w _ hx320_2)).trans hx320_2; replace hx320_3 := (HB.out.cell (World.block_lt_of_cell? w _ hx320_3)).trans hx320_3; replace p320 := eq_true p320; replace q320 := eq_true q320))
    go_ret
    exact ⟨S.eW, S.bA⟩
   ·rw [if_neg c6] at H
    exact absurd H (by simp)
  ·rw [if_neg c5] at H
   exact absurd H (by simp)
 ·rw [if_neg c4] at H
  have c4b0 : decide (0 ≤ t319) = false := decide_eq_false c4
  clear c4
  obtain rfl := Option.some.inj H
  go_enter Try.func110, Try.ntmps110
  go_wp2_with (first | ((with_reducible refine gate_callee (f := 91) rfl ?_); refine S.gL (some 8) Try.func91 #[.slice A0 l0.length c0, .int .i64 a1] ?_; (with_reducible refine (impl_FindPath.calls _ _ l0 a1 t319 _ ?side1 ?side2 A3.out).mono ?_); (case side1 => repeat (first | exact HR0.out | (with_reducible refine Kd.C_alloc ?_ _) | (with_reducible refine Kd.C_drewN ?_ _) | (with_reducible refine Kd.C_drew ?_))); (case side2 => exact HC0.out); rintro e w8 ⟨rfl, hb⟩; refine ⟨_, rfl, ?_⟩; have n0_ := Aside0.mk (below_step S.bA hb); clear HB; have HB := n0_; clear n0_; (try clear hb); (try clear hb2); (try clear hk); (try clear hi)))
  go_ret
  exact ⟨S.eW, S.bA⟩

/-! ### impl_IsPrio: function 81 -/
def impl_IsPrio.f (k : Nat) (l0 : List (S52)) (a1_0 : Int) (a1_1 : Int) : Option (Bool) := (impl_ArePaths.f k l0).bind fun t322 => (if t322 = true then (if (a1_0 == 0 && (a1_1 == 0)) = true then (some true) else ((impl_isBus.f l0 a1_0).bind fun t323 => (if t323 = true then ((impl_InRange.f a1_1 1 20).bind fun t324 => (some t324)) else (some false)))) else (some false))
theorem impl_IsPrio.mono : ∀ a0 a1 a2 k, LeO (impl_IsPrio.f k a0 a1 a2) (impl_IsPrio.f (k + 1) a0 a1 a2) := by
 intro a0 a1 a2 k
 unfold impl_IsPrio.f
 repeat' first
   | (with_reducible exact impl_ArePaths.mono _ _)
   | (with_reducible exact LeO.refl _)
   | (with_reducible exact LeO.none _)
   | (with_reducible refine LeO.ite ?_ ?_)
   | (with_reducible refine LeO.bind ?_ (fun _ => ?_))
   | exact impl_ArePaths.mono _ _
   | exact LeO.none _
   | refine LeO.ite ?_ ?_
   | refine LeO.bind ?_ (fun _ => ?_)
set_option maxHeartbeats 8000000 in
set_option maxRecDepth 100000 in
theorem impl_IsPrio.calls (k : Nat) (A0 : Option Addr) (c0 : Nat) (l0 : List (S52)) (a1_0 : Int) (a1_1 : Int) (r : Bool) (w : World) (hr0 : Kd.C k52 w A0 l0.length l0) (hc0 : l0.length ≤ c0) (h : impl_IsPrio.f k l0 a1_0 a1_1 = some r) :
  Calls Try.prog 81 #[.slice A0 l0.length c0, .agg #[.int .i64 a1_0, .int .i64 a1_1]] w fun e w' => e = .returned (.bool r) ∧ Below w.heap.size w w' := by
 have hu67 := Try.underlying67
 have HR0 := Aside0.mk hr0
 have HC0 := Aside0.mk hc0
 clear hr0 hc0
 have HB := Aside0.mk (Below.refl w.heap.size w)
 have H : ((impl_ArePaths.f k l0).bind fun t322 => (if t322 = true then (if (a1_0 == 0 && (a1_1 == 0)) = true then (some true) else ((impl_isBus.f l0 a1_0).bind fun t323 => (if t323 = true then ((impl_InRange.f a1_1 1 20).bind fun t324 => (some t324)) else (some false)))) else (some false))) = some r := h
 clear h
 replace H := Option.bind_eq_some_iff.mp H
 obtain ⟨t322, A30, H⟩ := H
 replace H : (if t322 = true then (if (a1_0 == 0 && (a1_1 == 0)) = true then (some true) else ((impl_isBus.f l0 a1_0).bind fun t323 => (if t323 = true then ((impl_InRange.f a1_1 1 20).bind fun t324 => (some t324)) else (some false)))) else (some false)) = some r := H
 have A3 := Aside0.mk A30
 clear A30
 by_cases c4 : t322 = true
 ·subst c4
  have H1 : (if (a1_0 == 0 && (a1_1 == 0)) = true then (some true) else ((impl_isBus.f l0 a1_0).bind fun t323 => (if t323 = true then ((impl_InRange.f a1_1 1 20).bind fun t324 => (some t324)) else (some false)))) = some r := by rw [if_pos rfl] at H; exact H
  clear H
  have H := H1
  clear H1
  by_cases c5 : (a1_0 == 0 && (a1_1 == 0)) = true
  ·rw [if_pos c5] at H
   have c5b0 : (a1_0 == 0 && (a1_1 == 0)) = true := c5
   (try (have c5b1 : decide (a1_0 = 0 && (a1_1 == 0)) = true := by simpa using c5))
   (try (have c5b2 : (a1_0 == 0 && (a1_1 == 0)) = true := by simpa using c5))
   clear c5
   obtain rfl := Option.some.inj H
   go_enter Try.func81, Try.ntmps81
   go_wp2_with (first | ((with_reducible refine gate_dst (N := 3) rfl ?_); refine box_event ?hg (N := 3) ?hd (cs := #[.int .i64 a1_0, .int .i64 a1_1]) (t := 67) ?hr ?_; (case hd => rfl); (case hg => rfl); (case hr => first | (go_simp; done) | (go_simp; rfl)); intro gb321 hg w6 hbox hb; have n0_ := Aside0.mk (below_step S.bA hb); have n1_ := Aside0.mk (hbox); have n2_ := Aside0.mk ((by rw [hg]; exact (below_size S.bA) : w.heap.size ≤ gb321)); have n3_ := Aside0.mk ((by rw [hg]; exact (below_size S.bA) : w.heap.size ≤ gb321)); clear HB; have HB := n0_; have BK321 := n1_; have GW321 := n2_; have GE321 := n3_; clear n0_ n1_ n2_ n3_; clear hb hbox hg) | ((with_reducible refine gate_callee (f := 97) rfl ?_); refine S.gL (some 6) Try.func97 #[.slice A0 l0.length c0] ?_; (with_reducible refine (impl_ArePaths.calls k _ _ l0 true _ ?side1 ?side2 A3.out).mono ?_); (case side1 => exact S.cA HR0.out); (case side2 => exact HC0.out); rintro e w7 ⟨rfl, hb⟩; refine ⟨_, rfl, ?_⟩; have n0_ := Aside0.mk (blk_below (g := gb321) (o := .cells #[.int .i64 a1_0, .int .i64 a1_1] 67 (0, 0)) (S.uB BK321.out) hb); have n1_ := Aside0.mk (below_step S.bG hb); clear BK321; clear HB; have BK321 := n0_; have HB := n1_; clear n0_ n1_; (try clear hb); (try clear hb2); (try clear hk); (try clear hi); have hcz8_0 : w7.cell? ⟨gb321, 0, none⟩ = some (.int .i64 a1_0) := (blk_cell BK321.out 0).trans rfl; have hcz8_1 : w7.cell? ⟨gb321, 1, none⟩ = some (.int .i64 a1_1) := (blk_cell BK321.out 1).trans rfl; have hfz8_0 := blk_frozen BK321.out 0; have hfz8_1 := blk_frozen BK321.out 1))
   go_ret
   exact ⟨S.eW, S.bG⟩
  ·rw [if_neg c5] at H
   have c5b0 : (a1_0 == 0 && (a1_1 == 0)) = false := by simpa using c5
   (try (have c5b1 : decide (a1_0 = 0 && (a1_1 == 0)) = false := by simpa using c5))
   (try (have c5b2 : (a1_0 == 0 && (a1_1 == 0)) = false := by simpa using c5))
   (try (have c5b3 : ¬ (a1_0 = 0 && (a1_1 == 0)) := by simpa using c5))
   clear c5
   replace H := Option.bind_eq_some_iff.mp H
   obtain ⟨t323, A90, H⟩ := H
   replace H : (if t323 = true then ((impl_InRange.f a1_1 1 20).bind fun t324 => (some t324)) else (some false)) = some r := H
   have A9 := Aside0.mk A90
   clear A90
   by_cases c10 : t323 = true
   ·subst c10
    have H1 : ((impl_InRange.f a1_1 1 20).bind fun t324 => (some t324)) = some r := by rw [if_pos rfl] at H; exact H
    clear H
    have H := H1
    clear H1
    replace H := Option.bind_eq_some_iff.mp H
    obtain ⟨t324, A110, H⟩ := H
    replace H : (some t324) = some r := H
    have A11 := Aside0.mk A110
    clear A110
    obtain rfl := Option.some.inj H
    go_enter Try.func81, Try.ntmps81
    go_wp2_with (first | ((with_reducible refine gate_dst (N := 3) rfl ?_); refine box_event ?hg (N := 3) ?hd (cs := #[.int .i64 a1_0, .int .i64 a1_1]) (t := 67) ?hr ?_; (case hd => rfl); (case hg => rfl); (case hr => first | (go_simp; done) | (go_simp; rfl)); intro gb321 hg w12 hbox hb; have n0_ := Aside0.mk (below_step S.bA hb); have n1_ := Aside0.mk (hbox); have n2_ := Aside0.mk ((by rw [hg]; exact (below_size S.bA) : w.heap.size ≤ gb321)); have n3_ := Aside0.mk ((by rw [hg]; exact (below_size S.bA) : w.heap.size ≤ gb321)); clear HB; have HB := n0_; have BK321 := n1_; have GW321 := n2_; have GE321 := n3_; clear n0_ n1_ n2_ n3_; clear hb hbox hg) | ((with_reducible refine gate_callee (f := 97) rfl ?_); refine S.gL (some 6) Try.func97 #[.slice A0 l0.length c0] ?_; (with_reducible refine (impl_ArePaths.calls k _ _ l0 true _ ?side1 ?side2 A3.out).mono ?_); (case side1 => exact S.cA HR0.out); (case side2 => exact HC0.out); rintro e w13 ⟨rfl, hb⟩; refine ⟨_, rfl, ?_⟩; have n0_ := Aside0.mk (blk_below (g := gb321) (o := .cells #[.int .i64 a1_0, .int .i64 a1_1] 67 (0, 0)) (S.uB BK321.out) hb); have n1_ := Aside0.mk (below_step S.bG hb); clear BK321; clear HB; have BK321 := n0_; have HB := n1_; clear n0_ n1_; (try clear hb); (try clear hb2); (try clear hk); (try clear hi); have hcz14_0 : w13.cell? ⟨gb321, 0, none⟩ = some (.int .i64 a1_0) := (blk_cell BK321.out 0).trans rfl; have hcz14_1 : w13.cell? ⟨gb321, 1, none⟩ = some (.int .i64 a1_1) := (blk_cell BK321.out 1).trans rfl; have hfz14_0 := blk_frozen BK321.out 0; have hfz14_1 := blk_frozen BK321.out 1) | (go_at_call 110; (with_reducible refine (impl_isBus.calls _ _ l0 a1_0 true _ ?side1 ?side2 A9.out).mono ?_); (case side1 => exact S.cA HR0.out); (case side2 => exact HC0.out); rintro e w15 ⟨rfl, hb⟩; have n0_ := Aside0.mk (blk_below (g := gb321) (o := .cells #[.int .i64 a1_0, .int .i64 a1_1] 67 (0, 0)) (S.uB BK321.out) hb); have n1_ := Aside0.mk (below_step S.bG hb); clear BK321; clear HB; have BK321 := n0_; have HB := n1_; clear n0_ n1_; (try clear hb); (try clear hb2); (try clear hk); (try clear hi); have hcz16_0 : w15.cell? ⟨gb321, 0, none⟩ = some (.int .i64 a1_0) := (blk_cell BK321.out 0).trans rfl; have hcz16_1 : w15.cell? ⟨gb321, 1, none⟩ = some (.int .i64 a1_1) := (blk_cell BK321.out 1).trans rfl; have hfz16_0 := blk_frozen BK321.out 0; have hfz16_1 := blk_frozen BK321.out 1) | (go_at_call 96; (with_reducible refine (impl_InRange.calls a1_1 1 20 t324 _ A11.out).mono ?_); rintro e w' ⟨rfl, ⟨nd, rfl⟩⟩))
    go_ret
    exact ⟨S.eW, S.bG⟩
   ·replace c10 := Bool.eq_false_iff.mpr c10
    subst c10
    have H1 : (some false) = some r := by rw [if_neg (show ¬ (false = true) by decide)] at H; exact H
    clear H
    have H := H1
    clear H1
    obtain rfl := Option.some.inj H
    go_enter Try.func81, Try.ntmps81
    go_wp2_with (first | ((with_reducible refine gate_dst (N := 3) rfl ?_); refine box_event ?hg (N := 3) ?hd (cs := #[.int .i64 a1_0, .int .i64 a1_1]) (t := 67) ?hr ?_; (case hd => rfl); (case hg => rfl); (case hr => first | (go_simp; done) | (go_simp; rfl)); intro gb321 hg w17 hbox hb; have n0_ := Aside0.mk (below_step S.bA hb); have n1_ := Aside0.mk (hbox); have n2_ := Aside0.mk ((by rw [hg]; exact (below_size S.bA) : w.heap.size ≤ gb321)); have n3_ := Aside0.mk ((by rw [hg]; exact (below_size S.bA) : w.heap.size ≤ gb321)); clear HB; have HB := n0_; have BK321 := n1_; have GW321 := n2_; have GE321 := n3_; clear n0_ n1_ n2_ n3_; clear hb hbox hg) | ((with_reducible refine gate_callee (f := 97) rfl ?_); refine S.gL (some 6) Try.func97 #[.slice A0 l0.length c0] ?_; (with_reducible refine (impl_ArePaths.calls k _ _ l0 true _ ?side1 ?side2 A3.out).mono ?_); (case side1 => exact S.cA HR0.out); (case side2 => exact HC0.out); rintro e w18 ⟨rfl, hb⟩; refine ⟨_, rfl, ?_⟩; have n0_ := Aside0.mk (blk_below (g := gb321) (o := .cells #[.int .i64 a1_0, .int .i64 a1_1] 67 (0, 0)) (S.uB BK321.out) hb); have n1_ := Aside0.mk (below_step S.bG hb); clear BK321; clear HB; have BK321 := n0_; have HB := n1_; clear n0_ n1_; (try clear hb); (try clear hb2); (try clear hk); (try clear hi); have hcz19_0 : w18.cell? ⟨gb321, 0, none⟩ = some (.int .i64 a1_0) := (blk_cell BK321.out 0).trans rfl; have hcz19_1 : w18.cell? ⟨gb321, 1, none⟩ = some (.int .i64 a1_1) := (blk_cell BK321.out 1).trans rfl; have hfz19_0 := blk_frozen BK321.out 0; have hfz19_1 := blk_frozen BK321.out 1) | (go_at_call 110; (with_reducible refine (impl_isBus.calls _ _ l0 a1_0 false _ ?side1 ?side2 A9.out).mono ?_); (case side1 => exact S.cA HR0.out); (case side2 => exact HC0.out); rintro e w20 ⟨rfl, hb⟩; have n0_ := Aside0.mk (blk_below (g := gb321) (o := .cells #[.int .i64 a1_0, .int .i64 a1_1] 67 (0, 0)) (S.uB BK321.out) hb); have n1_ := Aside0.mk (below_step S.bG hb); clear BK321; clear HB; have BK321 := n0_; have HB := n1_; clear n0_ n1_; (try clear hb); (try clear hb2); (try clear hk); (try clear hi)))
    go_ret
    exact ⟨S.eW, S.bG⟩
 ·replace c4 := Bool.eq_false_iff.mpr c4
  subst c4
  have H1 : (some false) = some r := by rw [if_neg (show ¬ (false = true) by decide)] at H; exact H
  clear H
  have H := H1
  clear H1
  obtain rfl := Option.some.inj H
  go_enter Try.func81, Try.ntmps81
  go_wp2_with (first | ((with_reducible refine gate_dst (N := 3) rfl ?_); refine box_event ?hg (N := 3) ?hd (cs := #[.int .i64 a1_0, .int .i64 a1_1]) (t := 67) ?hr ?_; (case hd => rfl); (case hg => rfl); (case hr => first | (go_simp; done) | (go_simp; rfl)); intro gb321 hg w21 hbox hb; have n0_ := Aside0.mk (below_step S.bA hb); have n1_ := Aside0.mk (hbox); have n2_ := Aside0.mk ((by rw [hg]; exact (below_size S.bA) : w.heap.size ≤ gb321)); have n3_ := Aside0.mk ((by rw [hg]; exact (below_size S.bA) : w.heap.size ≤ gb321)); clear HB; have HB := n0_; have BK321 := n1_; have GW321 := n2_; have GE321 := n3_; clear n0_ n1_ n2_ n3_; clear hb hbox hg) | ((with_reducible refine gate_callee (f := 97) rfl ?_); refine S.gL (some 6) Try.func97 #[.slice A0 l0.length c0] ?_; (with_reducible refine (impl_ArePaths.calls k _ _ l0 false _ ?side1 ?side2 A3.out).mono ?_); (case side1 => exact S.cA HR0.out); (case side2 => exact HC0.out); rintro e w22 ⟨rfl, hb⟩; refine ⟨_, rfl, ?_⟩; have n0_ := Aside0.mk (blk_below (g := gb321) (o := .cells #[.int .i64 a1_0, .int .i64 a1_1] 67 (0, 0)) (S.uB BK321.out) hb); have n1_ := Aside0.mk (below_step S.bG hb); clear BK321; clear HB; have BK321 := n0_; have HB := n1_; clear n0_ n1_; (try clear hb); (try clear hb2); (try clear hk); (try clear hi)))
  go_ret
  exact ⟨S.eW, S.bG⟩

/-! ### impl_LeastGreen: function 77 -/
def impl_LeastGreen.l0 : Nat → List (S52) → List Int → Int → Int → Option (Int)
 | 0, _, _, _, _ => none
 | k + 1, x0, x8, x9, x10 => if x10 < x9 then (if 0 ≤ x10 then (if x10 < (x8.length : Int) then ((impl_FindPath.f x0 (rd x8 x10)).bind fun t326 => (if t326 ≥ 0 then (if 0 ≤ t326 then (if t326 < (x0.length : Int) then (if ((rd_T52 x0 t326).f1) = 2 then (some 7) else (impl_LeastGreen.l0 k x0 x8 x9 (wrap64 (x10 + 1)))) else (none)) else (none)) else (impl_LeastGreen.l0 k x0 x8 x9 (wrap64 (x10 + 1))))) else (none)) else (none)) else (some 5)
def impl_LeastGreen.f (k : Nat) (l0 : List (S52)) (l1 : List Int) : Option (Int) := impl_LeastGreen.l0 k l0 l1 (l1.length : Int) 0
theorem impl_LeastGreen.mono_l : ∀ k, (∀ y0 y1 y2 y3, LeO (impl_LeastGreen.l0 k y0 y1 y2 y3) (impl_LeastGreen.l0 (k + 1) y0 y1 y2 y3))
 | 0 => fun _ _ _ _ r h => by simp [impl_LeastGreen.l0] at h
 | k + 1 => by
  have ih0 := impl_LeastGreen.mono_l k
  ·intro y0 y1 y2 y3
   unfold impl_LeastGreen.l0
   repeat' first
   | (with_reducible exact ih0 _ _ _ _)
   | (with_reducible exact LeO.refl _)
   | (with_reducible exact LeO.none _)
   | (with_reducible refine LeO.ite ?_ ?_)
   | (with_reducible refine LeO.bind ?_ (fun _ => ?_))
   | exact ih0 _ _ _ _
   | exact LeO.none _
   | refine LeO.ite ?_ ?_
   | refine LeO.bind ?_ (fun _ => ?_)
theorem impl_LeastGreen.mono : ∀ a0 a1 k, LeO (impl_LeastGreen.f k a0 a1) (impl_LeastGreen.f (k + 1) a0 a1) := by
 intro a0 a1 k
 have ih0 := impl_LeastGreen.mono_l k
 unfold impl_LeastGreen.f
 repeat' first
   | (with_reducible exact ih0 _ _ _ _)
   | (with_reducible exact LeO.refl _)
   | (with_reducible exact LeO.none _)
   | (with_reducible refine LeO.ite ?_ ?_)
   | (with_reducible refine LeO.bind ?_ (fun _ => ?_))
   | exact ih0 _ _ _ _
   | exact LeO.none _
   | refine LeO.ite ?_ ?_
   | refine LeO.bind ?_ (fun _ => ?_)
set_option maxHeartbeats 8000000 in
set_option maxRecDepth 100000 in
theorem impl_LeastGreen.calls (k : Nat) (A0 : Option Addr) (c0 : Nat) (l0 : List (S52)) (A1 : Option Addr) (c1 : Nat) (l1 : List Int) (r : Int) (w : World) (hr0 : Kd.C k52 w A0 l0.length l0) (hc0 : l0.length ≤ c0) (hr1 : Kd.C (Kd.int .i64) w A1 l1.length l1) (hc1 : l1.length ≤ c1) (h : impl_LeastGreen.f k l0 l1 = some r) :
  Calls Try.prog 77 #[.slice A0 l0.length c0, .slice A1 l1.length c1] w fun e w' => e = .returned (.int .i64 r) ∧ Below w.heap.size w w' := by
 have HR0 := Aside0.mk hr0
 have HC0 := Aside0.mk hc0
 clear hr0 hc0
 have HR1 := Aside0.mk hr1
 have HC1 := Aside0.mk hc1
 clear hr1 hc1
 have HB := Aside0.mk (Below.refl w.heap.size w)
 have H : (impl_LeastGreen.l0 k l0 l1 (l1.length : Int) 0) = some r := h
 clear h
 have H' := Aside0.mk H
 clear H
 go_enter Try.func77, Try.ntmps77
 go_wp2
 go_loopg [10] k (fun kq v10 w' => ∃ (x10_1 : Int), v10 = .int .i64 x10_1 ∧ Aside0 (impl_LeastGreen.l0 kq l0 l1 (l1.length : Int) x10_1 = some r) ∧ Aside0 (kq ≤ k) ∧ Aside0 (Below w.heap.size w w'))
 case atStart => exact ⟨(0), S.eA, H', ⟨Nat.le_refl _⟩, ⟨S.bA⟩⟩
 case round =>
  clear H'
  try clear c1
  try clear p2
  obtain ⟨x10_1, rfl, HA, HK1, HB⟩ := hrel
  cases gk with
  | zero => exact absurd HA.out (by simp [impl_LeastGreen.l0])
  | succ k1 =>
   have H := HA.out
   clear HA
   simp only [impl_LeastGreen.l0] at H
   by_cases c3 : x10_1 < (l1.length : Int)
   ·rw [if_pos c3] at H
    have c3b0 : decide (x10_1 < (l1.length : Int)) = true := decide_eq_true c3
    clear c3
    by_cases c4 : 0 ≤ x10_1
    ·rw [if_pos c4] at H
     have c4b0 : decide (0 ≤ x10_1) = true := decide_eq_true c4
     clear c4
     by_cases c5 : x10_1 < (l1.length : Int)
     ·rw [if_pos c5] at H
      have c5b0 : decide (x10_1 < (l1.length : Int)) = true := decide_eq_true c5
      clear c5
      replace H := Option.bind_eq_some_iff.mp H
      obtain ⟨t326, A60, H⟩ := H
      replace H : (if t326 ≥ 0 then (if 0 ≤ t326 then (if t326 < (l0.length : Int) then (if ((rd_T52 l0 t326).f1) = 2 then (some 7) else (impl_LeastGreen.l0 k1 l0 l1 (l1.length : Int) (wrap64 (x10_1 + 1)))) else (none)) else (none)) else (impl_LeastGreen.l0 k1 l0 l1 (l1.length : Int) (wrap64 (x10_1 + 1)))) = some r := H
      have A6 := Aside0.mk A60
      clear A60
      by_cases c7 : t326 ≥ 0
      ·rw [if_pos c7] at H
       have c7b0 : decide (0 ≤ t326) = true := decide_eq_true c7
       clear c7
       by_cases c8 : 0 ≤ t326
       ·rw [if_pos c8] at H
        have c8b0 : decide (0 ≤ t326) = true := decide_eq_true c8
        clear c8
        by_cases c9 : t326 < (l0.length : Int)
        ·rw [if_pos c9] at H
         have c9b0 : decide (t326 < (l0.length : Int)) = true := decide_eq_true c9
         clear c9
         by_cases c10 : ((rd_T52 l0 t326).f1) = 2
         ·rw [if_pos c10] at H
          have c10b0 : (((rd_T52 l0 t326).f1) == 2) = true := beq_iff_eq.mpr c10
          have c10b1 : (((rd_T52 l0 t326).f1) != 2) = false := bne_eq_false_iff_eq.mpr c10
          clear c10
          obtain rfl := Option.some.inj H
          have p325 : 0 ≤ (x10_1 : Int) := S.oD
          have q325 : x10_1 < (l1.length : Int) := S.oD
          obtain ⟨ad325, e325, hx325_0⟩ := Kd.at_int HR1.out x10_1 p325 q325
          cases e325
          replace hx325_0 := (HB.out.cell (World.block_lt_of_cell? w _ hx325_0)).trans hx325_0
          replace p325 := eq_true p325
          replace q325 := eq_true q325
          go_wp2_with (first | ((with_reducible refine gate_callee (f := 91) rfl ?_); refine S.gL (some 16) Try.func91 #[.slice A0 l0.length c0, .int .i64 (rd l1 x10_1)] ?_; (with_reducible refine (impl_FindPath.calls _ _ l0 (rd l1 x10_1) t326 _ ?side1 ?side2 A6.out).mono ?_); (case side1 => exact S.cA HR0.out); (case side2 => exact HC0.out); rintro e w11 ⟨rfl, hb⟩; refine ⟨_, rfl, ?_⟩; have n0_ := Aside0.mk (below_step S.bA hb); clear HB; have HB := n0_; clear n0_; (try clear hb); (try clear hb2); (try clear hk); (try clear hi); have p327 : 0 ≤ (t326 : Int) := S.oD; have q327 : t326 < (l0.length : Int) := S.oD; obtain ⟨ad327, e327, hx327_0, hx327_1, hx327_2, hx327_3⟩ := at_T52 HR0.out t326 p327 q327; cases e327; replace hx327_0 := (HB.out.cell (World.block_lt_of_cell? w _ hx327_0)).trans hx327_0; replace hx327_1 := (HB.out.cell (World.block_lt_of_cell? w _ hx327_1)).trans hx327_1; replace hx327_2 := (HB.out.cell (World.block_lt_of_cell? w _ hx327_2)).trans hx327_2; replace hx327_3 := (HB.out.cell (World.block_lt_of_cell? w _ hx327_3)).trans hx327_3; replace p327 := eq_true p327; replace q327 := eq_true q327))
          go_ret
          exact ⟨S.eW, S.bA⟩
         ·rw [if_neg c10] at H
          have c10b0 : (((rd_T52 l0 t326).f1) == 2) = false := beq_eq_false_iff_ne.mpr c10
          have c10b1 : (((rd_T52 l0 t326).f1) != 2) = true := bne_iff_ne.mpr c10
          have H' := Aside0.mk H
          clear H
          have p325 : 0 ≤ (x10_1 : Int) := S.oD
          have q325 : x10_1 < (l1.length : Int) := S.oD
          obtain ⟨ad325, e325, hx325_0⟩ := Kd.at_int HR1.out x10_1 p325 q325
          cases e325
          replace hx325_0 := (HB.out.cell (World.block_lt_of_cell? w _ hx325_0)).trans hx325_0
          replace p325 := eq_true p325
          replace q325 := eq_true q325
          go_wp2_with (first | ((with_reducible refine gate_callee (f := 91) rfl ?_); refine S.gL (some 16) Try.func91 #[.slice A0 l0.length c0, .int .i64 (rd l1 x10_1)] ?_; (with_reducible refine (impl_FindPath.calls _ _ l0 (rd l1 x10_1) t326 _ ?side1 ?side2 A6.out).mono ?_); (case side1 => exact S.cA HR0.out); (case side2 => exact HC0.out); rintro e w12 ⟨rfl, hb⟩; refine ⟨_, rfl, ?_⟩; have n0_ := Aside0.mk (below_step S.bA hb); clear HB; have HB := n0_; clear n0_; (try clear hb); (try clear hb2); (try clear hk); (try clear hi); have p327 : 0 ≤ (t326 : Int) := S.oD; have q327 : t326 < (l0.length : Int) := S.oD; obtain ⟨ad327, e327, hx327_0, hx327_1, hx327_2, hx327_3⟩ := at_T52 HR0.out t326 p327 q327; cases e327; replace hx327_0 := (HB.out.cell (World.block_lt_of_cell? w _ hx327_0)).trans hx327_0; replace hx327_1 := (HB.out.cell (World.block_lt_of_cell? w _ hx327_1)).trans hx327_1; replace hx327_2 := (HB.out.cell (World.block_lt_of_cell? w _ hx327_2)).trans hx327_2; replace hx327_3 := (HB.out.cell (World.block_lt_of_cell? w _ hx327_3)).trans hx327_3; replace p327 := eq_true p327; replace q327 := eq_true q327))
          go_roundg k1
          case measure => have := HK1.out; omega
          case rel => exact ⟨(wrap64 (x10_1 + 1)), S.eA, H', ⟨by have := HK1.out; omega⟩, ⟨S.bA⟩⟩
        ·rw [if_neg c9] at H
         exact absurd H (by simp)
       ·rw [if_neg c8] at H
        exact absurd H (by simp)
      ·rw [if_neg c7] at H
       have c7b0 : decide (0 ≤ t326) = false := decide_eq_false c7
       clear c7
       have H' := Aside0.mk H
       clear H
       have p325 : 0 ≤ (x10_1 : Int) := S.oD
       have q325 : x10_1 < (l1.length : Int) := S.oD
       obtain ⟨ad325, e325, hx325_0⟩ := Kd.at_int HR1.out x10_1 p325 q325
       cases e325
       replace hx325_0 := (HB.out.cell (World.block_lt_of_cell? w _ hx325_0)).trans hx325_0
       replace p325 := eq_true p325
       replace q325 := eq_true q325
       go_wp2_with (first | ((with_reducible refine gate_callee (f := 91) rfl ?_); refine S.gL (some 16) Try.func91 #[.slice A0 l0.length c0, .int .i64 (rd l1 x10_1)] ?_; (with_reducible refine (impl_FindPath.calls _ _ l0 (rd l1 x10_1) t326 _ ?side1 ?side2 A6.out).mono ?_); (case side1 => exact S.cA HR0.out); (case side2 => exact HC0.out); rintro e w13 ⟨rfl, hb⟩; refine ⟨_, rfl, ?_⟩; have n0_ := Aside0.mk (below_step S.bA hb); clear HB; have HB := n0_; clear n0_; (try clear hb); (try clear hb2); (try clear hk); (try clear hi)))
       go_roundg k1
       case measure => have := HK1.out; omega
       case rel => exact ⟨(wrap64 (x10_1 + 1)), S.eA, H', ⟨by have := HK1.out; omega⟩, ⟨S.bA⟩⟩
     ·rw [if_neg c5] at H
      exact absurd H (by simp)
    ·rw [if_neg c4] at H
     exact absurd H (by simp)
   ·rw [if_neg c3] at H
    have c3b0 : decide (x10_1 < (l1.length : Int)) = false := decide_eq_false c3
    clear c3
    obtain rfl := Option.some.inj H
    go_wp2
    go_ret
    exact ⟨S.eW, S.bA⟩

end Go.Proofs.Ytopchlafmfgpnaa.PFnExactPrioWish
