/- Printed by a program: what the Go functions compute, as plain Lean functions (.f), and the proofs that the machine's calls come to just that (.calls). -/
import Derived.Test.YtopchlafmfgpnaaPFnExactPrioWishx0
import Derived.Test.YtopchlafmfgpnaaPFnExactPrioWishx18
import Derived.Test.YtopchlafmfgpnaaPFnExactPrioWishx20
import Derived.Test.YtopchlafmfgpnaaPFnExactPrioWishx21
namespace Go.Proofs.Ytopchlafmfgpnaa.PFnExactPrioWish
open Go.RowKit Go.Proofs.YtopchlafmfgpnaaW.PrintWords Go.Proofs.YtopchlafmfgpnaaW.PrintLast Go.Proofs.YtopchlafmfgpnaaW.PrintMore
attribute [local go_sem] max2_int min2_int max_two min_two max_three min_three max_four min_four   -- for this text's walks alone
set_option linter.unusedVariables false
set_option linter.unusedSimpArgs false

/-! ### impl_PrioWish: function 40 -/
mutual
def impl_PrioWish.j0 : Nat → List (S52) → Bool → List Int → Int → List Int → Int → Int → Int → Option (ByteArray)
 | 0, _, _, _, _, _, _, _, _ => none
 | k + 1, x0, x22, x332000, x332001, x332002, x332003, x333000, x333001 => if x22 = true then (some (⟨#[]⟩ : ByteArray)) else ((slices_Contains_int_int.f k x332000 x333000).bind fun t335 => (if t335 = true then (impl_PrioWish.j1 k x0 t335 ((x332002.length : Int) == 0) x332000 x332001 x332002 x332003) else (impl_PrioWish.j1 k x0 t335 false x332000 x332001 x332002 x332003)))
def impl_PrioWish.j1 : Nat → List (S52) → Bool → Bool → List Int → Int → List Int → Int → Option (ByteArray)
 | 0, _, _, _, _, _, _, _ => none
 | k + 1, x0, x7, x28, x332000, x332001, x332002, x332003 => if x28 = true then (some (⟨#[104, 111, 108, 100]⟩ : ByteArray)) else (if x7 = true then (some (⟨#[]⟩ : ByteArray)) else ((impl_CanEnd.f k x0 x332000 x332001 x332002 x332003).bind fun t336 => (if t336 = true then (some (⟨#[99, 97, 108, 108]⟩ : ByteArray)) else (some (⟨#[]⟩ : ByteArray)))))
end
def impl_PrioWish.f (k : Nat) (l0 : List (S52)) (l1_0 : List Int) (a1_1 : Int) (l1_2 : List Int) (a1_3 : Int) (a2_0 : Int) (a2_1 : Int) : Option (ByteArray) := if a2_0 = 0 then (impl_PrioWish.j0 k l0 true l1_0 a1_1 l1_2 a1_3 a2_0 a2_1) else ((impl_IsControl.f k l0 l1_0 a1_1 l1_2 a1_3).bind fun t333 => (if t333 = true then ((impl_IsPrio.f k l0 a2_0 a2_1).bind fun t334 => (impl_PrioWish.j0 k l0 (!t334) l1_0 a1_1 l1_2 a1_3 a2_0 a2_1)) else (impl_PrioWish.j0 k l0 true l1_0 a1_1 l1_2 a1_3 a2_0 a2_1)))
theorem impl_PrioWish.mono_l : ∀ k, (∀ y0 y1 y2 y3 y4 y5 y6 y7, LeO (impl_PrioWish.j0 k y0 y1 y2 y3 y4 y5 y6 y7) (impl_PrioWish.j0 (k + 1) y0 y1 y2 y3 y4 y5 y6 y7)) ∧ (∀ y0 y1 y2 y3 y4 y5 y6, LeO (impl_PrioWish.j1 k y0 y1 y2 y3 y4 y5 y6) (impl_PrioWish.j1 (k + 1) y0 y1 y2 y3 y4 y5 y6))
 | 0 => ⟨fun _ _ _ _ _ _ _ _ r h => by simp [impl_PrioWish.j0] at h, fun _ _ _ _ _ _ _ r h => by simp [impl_PrioWish.j1] at h⟩
 | k + 1 => by
  obtain ⟨ih0, ih1⟩ := impl_PrioWish.mono_l k
  refine ⟨?_, ?_⟩
  ·intro y0 y1 y2 y3 y4 y5 y6 y7
   unfold impl_PrioWish.j0
   repeat' first
   | (with_reducible exact ih0 _ _ _ _ _ _ _ _)
   | (with_reducible exact ih1 _ _ _ _ _ _ _)
   | (with_reducible exact impl_CanEnd.mono _ _ _ _ _ _)
   | (with_reducible exact impl_IsControl.mono _ _ _ _ _ _)
   | (with_reducible exact impl_IsPrio.mono _ _ _ _)
   | (with_reducible exact slices_Contains_int_int.mono _ _ _)
   | (with_reducible exact LeO.refl _)
   | (with_reducible exact LeO.none _)
   | (with_reducible refine LeO.ite ?_ ?_)
   | (with_reducible refine LeO.bind ?_ (fun _ => ?_))
   | exact ih0 _ _ _ _ _ _ _ _
   | exact ih1 _ _ _ _ _ _ _
   | exact impl_CanEnd.mono _ _ _ _ _ _
   | exact impl_IsControl.mono _ _ _ _ _ _
   | exact impl_IsPrio.mono _ _ _ _
   | exact slices_Contains_int_int.mono _ _ _
   | exact LeO.none _
   | refine LeO.ite ?_ ?_
   | refine LeO.bind ?_ (fun _ => ?_)
  ·intro y0 y1 y2 y3 y4 y5 y6
   unfold impl_PrioWish.j1
   repeat' first
   | (with_reducible exact ih0 _ _ _ _ _ _ _ _)
   | (with_reducible exact ih1 _ _ _ _ _ _ _)
   | (with_reducible exact impl_CanEnd.mono _ _ _ _ _ _)
   | (with_reducible exact impl_IsControl.mono _ _ _ _ _ _)
   | (with_reducible exact impl_IsPrio.mono _ _ _ _)
   | (with_reducible exact slices_Contains_int_int.mono _ _ _)
   | (with_reducible exact LeO.refl _)
   | (with_reducible exact LeO.none _)
   | (with_reducible refine LeO.ite ?_ ?_)
   | (with_reducible refine LeO.bind ?_ (fun _ => ?_))
   | exact ih0 _ _ _ _ _ _ _ _
   | exact ih1 _ _ _ _ _ _ _
   | exact impl_CanEnd.mono _ _ _ _ _ _
   | exact impl_IsControl.mono _ _ _ _ _ _
   | exact impl_IsPrio.mono _ _ _ _
   | exact slices_Contains_int_int.mono _ _ _
   | exact LeO.none _
   | refine LeO.ite ?_ ?_
   | refine LeO.bind ?_ (fun _ => ?_)
theorem impl_PrioWish.mono : ∀ a0 a1 a2 a3 a4 a5 a6 k, LeO (impl_PrioWish.f k a0 a1 a2 a3 a4 a5 a6) (impl_PrioWish.f (k + 1) a0 a1 a2 a3 a4 a5 a6) := by
 intro a0 a1 a2 a3 a4 a5 a6 k
 obtain ⟨ih0, ih1⟩ := impl_PrioWish.mono_l k
 unfold impl_PrioWish.f
 repeat' first
   | (with_reducible exact ih0 _ _ _ _ _ _ _ _)
   | (with_reducible exact ih1 _ _ _ _ _ _ _)
   | (with_reducible exact impl_CanEnd.mono _ _ _ _ _ _)
   | (with_reducible exact impl_IsControl.mono _ _ _ _ _ _)
   | (with_reducible exact impl_IsPrio.mono _ _ _ _)
   | (with_reducible exact slices_Contains_int_int.mono _ _ _)
   | (with_reducible exact LeO.refl _)
   | (with_reducible exact LeO.none _)
   | (with_reducible refine LeO.ite ?_ ?_)
   | (with_reducible refine LeO.bind ?_ (fun _ => ?_))
   | exact ih0 _ _ _ _ _ _ _ _
   | exact ih1 _ _ _ _ _ _ _
   | exact impl_CanEnd.mono _ _ _ _ _ _
   | exact impl_IsControl.mono _ _ _ _ _ _
   | exact impl_IsPrio.mono _ _ _ _
   | exact slices_Contains_int_int.mono _ _ _
   | exact LeO.none _
   | refine LeO.ite ?_ ?_
   | refine LeO.bind ?_ (fun _ => ?_)
set_option maxHeartbeats 8000000 in
set_option maxRecDepth 100000 in
theorem impl_PrioWish.calls (k : Nat) (A0 : Option Addr) (c0 : Nat) (l0 : List (S52)) (A1_0 : Option Addr) (c1_0 : Nat) (l1_0 : List Int) (a1_1 : Int) (A1_2 : Option Addr) (c1_2 : Nat) (l1_2 : List Int) (a1_3 : Int) (a2_0 : Int) (a2_1 : Int) (r : ByteArray) (w : World) (hr0 : Kd.C k52 w A0 l0.length l0) (hc0 : l0.length ≤ c0) (hr1_0 : Kd.C (Kd.int .i64) w A1_0 l1_0.length l1_0) (hc1_0 : l1_0.length ≤ c1_0) (hr1_2 : Kd.C (Kd.int .i64) w A1_2 l1_2.length l1_2) (hc1_2 : l1_2.length ≤ c1_2) (h : impl_PrioWish.f k l0 l1_0 a1_1 l1_2 a1_3 a2_0 a2_1 = some r) :
  Calls Try.prog 40 #[.slice A0 l0.length c0, .agg #[.slice A1_0 l1_0.length c1_0, .int .i64 a1_1, .slice A1_2 l1_2.length c1_2, .int .i64 a1_3], .agg #[.int .i64 a2_0, .int .i64 a2_1]] w fun e w' => e = .returned (.string r) ∧ Below w.heap.size w w' := by
 have hu60 := Try.underlying60
 have hu67 := Try.underlying67
 have HR0 := Aside0.mk hr0
 have HC0 := Aside0.mk hc0
 clear hr0 hc0
 have HR1_0 := Aside0.mk hr1_0
 have HC1_0 := Aside0.mk hc1_0
 clear hr1_0 hc1_0
 have HR1_2 := Aside0.mk hr1_2
 have HC1_2 := Aside0.mk hc1_2
 clear hr1_2 hc1_2
 have HB := Aside0.mk (Below.refl w.heap.size w)
 have H : (if a2_0 = 0 then (impl_PrioWish.j0 k l0 true l1_0 a1_1 l1_2 a1_3 a2_0 a2_1) else ((impl_IsControl.f k l0 l1_0 a1_1 l1_2 a1_3).bind fun t333 => (if t333 = true then ((impl_IsPrio.f k l0 a2_0 a2_1).bind fun t334 => (impl_PrioWish.j0 k l0 (!t334) l1_0 a1_1 l1_2 a1_3 a2_0 a2_1)) else (impl_PrioWish.j0 k l0 true l1_0 a1_1 l1_2 a1_3 a2_0 a2_1)))) = some r := h
 clear h
 have HC4 := Aside0.mk H
 clear H
 go_enter Try.func40, Try.ntmps40
 go_upto_region 1 with (first | ((with_reducible refine gate_dst (N := 4) rfl ?_); (try (refine gate_guard (by rfl) ?_; dsimp only)); refine box_event ?hg (N := 4) ?hd (cs := #[.slice A1_0 l1_0.length c1_0, .int .i64 a1_1, .slice A1_2 l1_2.length c1_2, .int .i64 a1_3]) (t := 60) ?hr ?_; (case hd => rfl); (case hg => rfl); (case hr => first | (go_simp; done) | (go_simp; rfl)); intro gb331 hg w5 hbox hb; have n0_ := Aside0.mk (below_step S.bA hb); have n1_ := Aside0.mk (hbox); have n2_ := Aside0.mk ((by rw [hg]; exact (below_size S.bA) : w.heap.size ≤ gb331)); have n3_ := Aside0.mk ((by rw [hg]; exact (below_size S.bA) : w.heap.size ≤ gb331)); clear HB; have HB := n0_; have BK331 := n1_; have GW331 := n2_; have GE331 := n3_; clear n0_ n1_ n2_ n3_; clear hb hbox hg) | ((with_reducible refine gate_dst (N := 5) rfl ?_); (try (refine gate_guard (by rfl) ?_; dsimp only)); refine box_event ?hg (N := 5) ?hd (cs := #[.int .i64 a2_0, .int .i64 a2_1]) (t := 67) ?hr ?_; (case hd => rfl); (case hg => rfl); (case hr => first | (go_simp; done) | (go_simp; rfl)); intro gb332 hg w6 hbox hb; have n0_ := Aside0.mk (blk_below (g := gb331) (o := .cells #[.slice A1_0 l1_0.length c1_0, .int .i64 a1_1, .slice A1_2 l1_2.length c1_2, .int .i64 a1_3] 60 (0, 0)) (S.uB BK331.out) hb); have n1_ := Aside0.mk (below_step S.bG hb); have n2_ := Aside0.mk (hbox); have n3_ := Aside0.mk ((by rw [hg]; exact (below_size S.bG) : w.heap.size ≤ gb332)); have n4_ := Aside0.mk ((by rw [hg]; exact (below_size S.bG) : w.heap.size ≤ gb332)); have n5_ := Aside0.mk ((by rw [hg]; exact Nat.ne_of_lt (blk_lt (g := gb331) (o := .cells #[.slice A1_0 l1_0.length c1_0, .int .i64 a1_1, .slice A1_2 l1_2.length c1_2, .int .i64 a1_3] 60 (0, 0)) (S.uB BK331.out)) : gb331 ≠ gb332)); have n6_ := Aside0.mk ((by rw [hg]; exact Nat.ne_of_gt (blk_lt (g := gb331) (o := .cells #[.slice A1_0 l1_0.length c1_0, .int .i64 a1_1, .slice A1_2 l1_2.length c1_2, .int .i64 a1_3] 60 (0, 0)) (S.uB BK331.out)) : gb332 ≠ gb331)); clear BK331; clear HB; have BK331 := n0_; have HB := n1_; have BK332 := n2_; have GW332 := n3_; have GE332 := n4_; have NB331_332 := n5_; have NB332_331 := n6_; clear n0_ n1_ n2_ n3_ n4_ n5_ n6_; clear hb hbox hg))
 (try simp only [Act.put, List.setIfInBounds_toArray, List.set_cons_zero, List.set_cons_succ])
 go_cut [22] (fun v22 wc => ∃ (kq : Nat) (x22_3 : Bool), v22 = .bool x22_3 ∧ Aside0 (impl_PrioWish.j0 kq l0 x22_3 l1_0 a1_1 l1_2 a1_3 a2_0 a2_1 = some r) ∧ Aside0 (kq ≤ k) ∧ Aside0 (wc.heap[gb331]? = some (.cells #[(.slice A1_0 l1_0.length c1_0), .int .i64 a1_1, (.slice A1_2 l1_2.length c1_2), .int .i64 a1_3] 60 (0, 0))) ∧ Aside0 (wc.heap[gb332]? = some (.cells #[.int .i64 a2_0, .int .i64 a2_1] 67 (0, 0))) ∧ Aside0 (Below w.heap.size w wc))
 case first =>
  have H := HC4.out
  clear HC4
  by_cases c7 : a2_0 = 0
  ·rw [if_pos c7] at H
   have c7b0 : (a2_0 == 0) = true := beq_iff_eq.mpr c7
   have c7b1 : (a2_0 != 0) = false := bne_eq_false_iff_eq.mpr c7
   clear c7
   (first | rw [c7b0] | (simp only [i64_w, i32_w]; rw [c7b0]) | skip)
   have H' := Aside0.mk H
   clear H
   have hnb8 := NB332_331.out
   have hnc8 := NB331_332.out
   have hcz9_0 : w6.cell? ⟨gb332, 0, none⟩ = some (.int .i64 a2_0) := (blk_cell BK332.out 0).trans rfl
   have hcz9_1 : w6.cell? ⟨gb332, 1, none⟩ = some (.int .i64 a2_1) := (blk_cell BK332.out 1).trans rfl
   have hfz9_0 := blk_frozen BK332.out 0
   have hfz9_1 := blk_frozen BK332.out 1
   go_wp2
   go_meet
   case rel => exact ⟨_, (true), S.eA, H', ⟨by first | omega | exact Nat.le_refl _⟩, ⟨S.uB BK331.out⟩, ⟨S.uB BK332.out⟩, ⟨S.bG⟩⟩
  ·rw [if_neg c7] at H
   have c7b0 : (a2_0 == 0) = false := beq_eq_false_iff_ne.mpr c7
   have c7b1 : (a2_0 != 0) = true := bne_iff_ne.mpr c7
   (first | rw [c7b0] | (simp only [i64_w, i32_w]; rw [c7b0]) | skip)
   replace H := Option.bind_eq_some_iff.mp H
   obtain ⟨t333, A100, H⟩ := H
   replace H : (if t333 = true then ((impl_IsPrio.f k l0 a2_0 a2_1).bind fun t334 => (impl_PrioWish.j0 k l0 (!t334) l1_0 a1_1 l1_2 a1_3 a2_0 a2_1)) else (impl_PrioWish.j0 k l0 true l1_0 a1_1 l1_2 a1_3 a2_0 a2_1)) = some r := H
   have A10 := Aside0.mk A100
   clear A100
   by_cases c11 : t333 = true
   ·subst c11
    have H1 : ((impl_IsPrio.f k l0 a2_0 a2_1).bind fun t334 => (impl_PrioWish.j0 k l0 (!t334) l1_0 a1_1 l1_2 a1_3 a2_0 a2_1)) = some r := by rw [if_pos rfl] at H; exact H
    clear H
    have H := H1
    clear H1
    replace H := Option.bind_eq_some_iff.mp H
    obtain ⟨t334, A120, H⟩ := H
    replace H : (impl_PrioWish.j0 k l0 (!t334) l1_0 a1_1 l1_2 a1_3 a2_0 a2_1) = some r := H
    have A12 := Aside0.mk A120
    clear A120
    have H' := Aside0.mk H
    clear H
    have hnb13 := NB332_331.out
    have hnc13 := NB331_332.out
    have hcz14_0 : w6.cell? ⟨gb332, 0, none⟩ = some (.int .i64 a2_0) := (blk_cell BK332.out 0).trans rfl
    have hcz14_1 : w6.cell? ⟨gb332, 1, none⟩ = some (.int .i64 a2_1) := (blk_cell BK332.out 1).trans rfl
    have hfz14_0 := blk_frozen BK332.out 0
    have hfz14_1 := blk_frozen BK332.out 1
    have hcz15_0 : w6.cell? ⟨gb331, 0, none⟩ = some (.slice A1_0 l1_0.length c1_0) := (blk_cell BK331.out 0).trans rfl
    have hcz15_1 : w6.cell? ⟨gb331, 1, none⟩ = some (.int .i64 a1_1) := (blk_cell BK331.out 1).trans rfl
    have hcz15_2 : w6.cell? ⟨gb331, 2, none⟩ = some (.slice A1_2 l1_2.length c1_2) := (blk_cell BK331.out 2).trans rfl
    have hcz15_3 : w6.cell? ⟨gb331, 3, none⟩ = some (.int .i64 a1_3) := (blk_cell BK331.out 3).trans rfl
    have hfz15_0 := blk_frozen BK331.out 0
    have hfz15_1 := blk_frozen BK331.out 1
    have hfz15_2 := blk_frozen BK331.out 2
    have hfz15_3 := blk_frozen BK331.out 3
    go_wp2_with (first | (go_at_call 54; (with_reducible refine (impl_IsControl.calls k _ _ l0 _ _ l1_0 a1_1 _ _ l1_2 a1_3 true _ ?side1 ?side2 ?side3 ?side4 ?side5 ?side6 A10.out).mono ?_); (case side1 => exact S.cA HR0.out); (case side2 => exact HC0.out); (case side3 => exact S.cA HR1_0.out); (case side4 => exact HC1_0.out); (case side5 => exact S.cA HR1_2.out); (case side6 => exact HC1_2.out); rintro e w16 ⟨rfl, hb⟩; have n0_ := Aside0.mk (blk_below (g := gb331) (o := .cells #[.slice A1_0 l1_0.length c1_0, .int .i64 a1_1, .slice A1_2 l1_2.length c1_2, .int .i64 a1_3] 60 (0, 0)) (S.uB BK331.out) hb); have n1_ := Aside0.mk (blk_below (g := gb332) (o := .cells #[.int .i64 a2_0, .int .i64 a2_1] 67 (0, 0)) (S.uB BK332.out) hb); have n2_ := Aside0.mk (below_step S.bG hb); clear BK331; clear BK332; clear HB; have BK331 := n0_; have BK332 := n1_; have HB := n2_; clear n0_ n1_ n2_; (try clear hb); (try clear hb2); (try clear hk); (try clear hi); have hcz17_0 : w16.cell? ⟨gb332, 0, none⟩ = some (.int .i64 a2_0) := (blk_cell BK332.out 0).trans rfl; have hcz17_1 : w16.cell? ⟨gb332, 1, none⟩ = some (.int .i64 a2_1) := (blk_cell BK332.out 1).trans rfl; have hfz17_0 := blk_frozen BK332.out 0; have hfz17_1 := blk_frozen BK332.out 1) | (go_at_call 81; (with_reducible refine (impl_IsPrio.calls k _ _ l0 a2_0 a2_1 t334 _ ?side1 ?side2 A12.out).mono ?_); (case side1 => exact S.cA HR0.out); (case side2 => exact HC0.out); rintro e w18 ⟨rfl, hb⟩; have n0_ := Aside0.mk (blk_below (g := gb331) (o := .cells #[.slice A1_0 l1_0.length c1_0, .int .i64 a1_1, .slice A1_2 l1_2.length c1_2, .int .i64 a1_3] 60 (0, 0)) (S.uB BK331.out) hb); have n1_ := Aside0.mk (blk_below (g := gb332) (o := .cells #[.int .i64 a2_0, .int .i64 a2_1] 67 (0, 0)) (S.uB BK332.out) hb); have n2_ := Aside0.mk (below_step S.bG hb); clear BK331; clear BK332; clear HB; have BK331 := n0_; have BK332 := n1_; have HB := n2_; clear n0_ n1_ n2_; (try clear hb); (try clear hb2); (try clear hk); (try clear hi)))
    go_meet
    case rel => exact ⟨_, (!t334), S.eA, H', ⟨by first | omega | exact Nat.le_refl _⟩, ⟨S.uB BK331.out⟩, ⟨S.uB BK332.out⟩, ⟨S.bG⟩⟩
   ·replace c11 := Bool.eq_false_iff.mpr c11
    subst c11
    have H1 : (impl_PrioWish.j0 k l0 true l1_0 a1_1 l1_2 a1_3 a2_0 a2_1) = some r := by rw [if_neg (show ¬ (false = true) by decide)] at H; exact H
    clear H
    have H := H1
    clear H1
    have H' := Aside0.mk H
    clear H
    have hnb19 := NB332_331.out
    have hnc19 := NB331_332.out
    have hcz20_0 : w6.cell? ⟨gb332, 0, none⟩ = some (.int .i64 a2_0) := (blk_cell BK332.out 0).trans rfl
    have hcz20_1 : w6.cell? ⟨gb332, 1, none⟩ = some (.int .i64 a2_1) := (blk_cell BK332.out 1).trans rfl
    have hfz20_0 := blk_frozen BK332.out 0
    have hfz20_1 := blk_frozen BK332.out 1
    have hcz21_0 : w6.cell? ⟨gb331, 0, none⟩ = some (.slice A1_0 l1_0.length c1_0) := (blk_cell BK331.out 0).trans rfl
    have hcz21_1 : w6.cell? ⟨gb331, 1, none⟩ = some (.int .i64 a1_1) := (blk_cell BK331.out 1).trans rfl
    have hcz21_2 : w6.cell? ⟨gb331, 2, none⟩ = some (.slice A1_2 l1_2.length c1_2) := (blk_cell BK331.out 2).trans rfl
    have hcz21_3 : w6.cell? ⟨gb331, 3, none⟩ = some (.int .i64 a1_3) := (blk_cell BK331.out 3).trans rfl
    have hfz21_0 := blk_frozen BK331.out 0
    have hfz21_1 := blk_frozen BK331.out 1
    have hfz21_2 := blk_frozen BK331.out 2
    have hfz21_3 := blk_frozen BK331.out 3
    go_wp2_with (first | (go_at_call 54; (with_reducible refine (impl_IsControl.calls k _ _ l0 _ _ l1_0 a1_1 _ _ l1_2 a1_3 false _ ?side1 ?side2 ?side3 ?side4 ?side5 ?side6 A10.out).mono ?_); (case side1 => exact S.cA HR0.out); (case side2 => exact HC0.out); (case side3 => exact S.cA HR1_0.out); (case side4 => exact HC1_0.out); (case side5 => exact S.cA HR1_2.out); (case side6 => exact HC1_2.out); rintro e w22 ⟨rfl, hb⟩; have n0_ := Aside0.mk (blk_below (g := gb331) (o := .cells #[.slice A1_0 l1_0.length c1_0, .int .i64 a1_1, .slice A1_2 l1_2.length c1_2, .int .i64 a1_3] 60 (0, 0)) (S.uB BK331.out) hb); have n1_ := Aside0.mk (blk_below (g := gb332) (o := .cells #[.int .i64 a2_0, .int .i64 a2_1] 67 (0, 0)) (S.uB BK332.out) hb); have n2_ := Aside0.mk (below_step S.bG hb); clear BK331; clear BK332; clear HB; have BK331 := n0_; have BK332 := n1_; have HB := n2_; clear n0_ n1_ n2_; (try clear hb); (try clear hb2); (try clear hk); (try clear hi)))
    go_meet
    case rel => exact ⟨_, (true), S.eA, H', ⟨by first | omega | exact Nat.le_refl _⟩, ⟨S.uB BK331.out⟩, ⟨S.uB BK332.out⟩, ⟨S.bG⟩⟩
 case rest =>
  clear HC4
  try clear c1
  try clear p2
  try clear c4
  try clear c7
  try clear c7b0
  try clear c7b1
  try clear c8
  try clear c11
  try clear c13
  try clear c19
  try clear hcz14_0
  try clear hcz14_1
  try clear hcz15_0
  try clear hcz15_1
  try clear hcz15_2
  try clear hcz15_3
  try clear hcz17_0
  try clear hcz17_1
  try clear hcz20_0
  try clear hcz20_1
  try clear hcz21_0
  try clear hcz21_1
  try clear hcz21_2
  try clear hcz21_3
  try clear hcz9_0
  try clear hcz9_1
  try clear hfz14_0
  try clear hfz14_1
  try clear hfz15_0
  try clear hfz15_1
  try clear hfz15_2
  try clear hfz15_3
  try clear hfz17_0
  try clear hfz17_1
  try clear hfz20_0
  try clear hfz20_1
  try clear hfz21_0
  try clear hfz21_1
  try clear hfz21_2
  try clear hfz21_3
  try clear hfz9_0
  try clear hfz9_1
  obtain ⟨kq, x22_3, rfl, HA, HJ3, BK331, BK332, HB⟩ := hcut
  cases kq with
  | zero => exact absurd HA.out (by simp [impl_PrioWish.j0])
  | succ kj3 =>
   have H := HA.out
   clear HA
   simp only [impl_PrioWish.j0] at H
   by_cases c23 : x22_3 = true
   ·subst c23
    have H1 : (some (⟨#[]⟩ : ByteArray)) = some r := by rw [if_pos rfl] at H; exact H
    clear H
    have H := H1
    clear H1
    obtain rfl := Option.some.inj H
    go_wp2
    go_ret
    exact ⟨S.eW, S.bG⟩
   ·replace c23 := Bool.eq_false_iff.mpr c23
    subst c23
    have H1 : ((slices_Contains_int_int.f kj3 l1_0 a2_0).bind fun t335 => (if t335 = true then (impl_PrioWish.j1 kj3 l0 t335 ((l1_2.length : Int) == 0) l1_0 a1_1 l1_2 a1_3) else (impl_PrioWish.j1 kj3 l0 t335 false l1_0 a1_1 l1_2 a1_3))) = some r := by rw [if_neg (show ¬ (false = true) by decide)] at H; exact H
    clear H
    have H := H1
    clear H1
    replace H := Option.bind_eq_some_iff.mp H
    obtain ⟨t335, A240, H⟩ := H
    replace H : (if t335 = true then (impl_PrioWish.j1 kj3 l0 t335 ((l1_2.length : Int) == 0) l1_0 a1_1 l1_2 a1_3) else (impl_PrioWish.j1 kj3 l0 t335 false l1_0 a1_1 l1_2 a1_3)) = some r := H
    have A24 := Aside0.mk A240
    clear A240
    have HC25 := Aside0.mk H
    clear H
    have hnb26 := NB331_332.out
    have hnc26 := NB332_331.out
    have hcz27_0 : wc.cell? ⟨gb331, 0, none⟩ = some (.slice A1_0 l1_0.length c1_0) := (blk_cell BK331.out 0).trans rfl
    have hcz27_1 : wc.cell? ⟨gb331, 1, none⟩ = some (.int .i64 a1_1) := (blk_cell BK331.out 1).trans rfl
    have hcz27_2 : wc.cell? ⟨gb331, 2, none⟩ = some (.slice A1_2 l1_2.length c1_2) := (blk_cell BK331.out 2).trans rfl
    have hcz27_3 : wc.cell? ⟨gb331, 3, none⟩ = some (.int .i64 a1_3) := (blk_cell BK331.out 3).trans rfl
    have hfz27_0 := blk_frozen BK331.out 0
    have hfz27_1 := blk_frozen BK331.out 1
    have hfz27_2 := blk_frozen BK331.out 2
    have hfz27_3 := blk_frozen BK331.out 3
    have hcz28_0 : wc.cell? ⟨gb332, 0, none⟩ = some (.int .i64 a2_0) := (blk_cell BK332.out 0).trans rfl
    have hcz28_1 : wc.cell? ⟨gb332, 1, none⟩ = some (.int .i64 a2_1) := (blk_cell BK332.out 1).trans rfl
    have hfz28_0 := blk_frozen BK332.out 0
    have hfz28_1 := blk_frozen BK332.out 1
    go_upto_region 4 with (first | ((with_reducible refine gate_callee (f := 82) rfl ?_); refine S.gL (some 27) Try.func82 #[.slice A1_0 l1_0.length c1_0, .int .i64 a2_0] ?_; (with_reducible refine (slices_Contains_int_int.calls kj3 _ _ l1_0 a2_0 t335 _ ?side1 ?side2 A24.out).mono ?_); (case side1 => exact S.cA HR1_0.out); (case side2 => exact HC1_0.out); rintro e w' ⟨rfl, ⟨nd, rfl⟩⟩; refine ⟨_, rfl, ?_⟩))
    have nB_ := Aside0.mk (pw_below_drewN HB.out nd)
    clear HB
    have HB := nB_
    clear nB_
    skip
    (try simp only [Act.put, List.setIfInBounds_toArray, List.set_cons_zero, List.set_cons_succ])
    go_cut [28] (fun v28 wc => ∃ (kq : Nat) (x28_24 : Bool), v28 = .bool x28_24 ∧ Aside0 (impl_PrioWish.j1 kq l0 t335 x28_24 l1_0 a1_1 l1_2 a1_3 = some r) ∧ Aside0 (kq ≤ kj3) ∧ Aside0 (wc.heap[gb331]? = some (.cells #[(.slice A1_0 l1_0.length c1_0), .int .i64 a1_1, (.slice A1_2 l1_2.length c1_2), .int .i64 a1_3] 60 (0, 0))) ∧ Aside0 (wc.heap[gb332]? = some (.cells #[.int .i64 a2_0, .int .i64 a2_1] 67 (0, 0))) ∧ Aside0 (Below w.heap.size w wc))
    case first =>
     have H := HC25.out
     clear HC25
     by_cases c29 : t335 = true
     ·subst c29
      have H1 : (impl_PrioWish.j1 kj3 l0 true ((l1_2.length : Int) == 0) l1_0 a1_1 l1_2 a1_3) = some r := by rw [if_pos rfl] at H; exact H
      clear H
      have H := H1
      clear H1
      have H' := Aside0.mk H
      clear H
      have hnb30 := NB331_332.out
      have hnc30 := NB332_331.out
      have hcz31_0 : wc.cell? ⟨gb331, 0, none⟩ = some (.slice A1_0 l1_0.length c1_0) := (blk_cell BK331.out 0).trans rfl
      have hcz31_1 : wc.cell? ⟨gb331, 1, none⟩ = some (.int .i64 a1_1) := (blk_cell BK331.out 1).trans rfl
      have hcz31_2 : wc.cell? ⟨gb331, 2, none⟩ = some (.slice A1_2 l1_2.length c1_2) := (blk_cell BK331.out 2).trans rfl
      have hcz31_3 : wc.cell? ⟨gb331, 3, none⟩ = some (.int .i64 a1_3) := (blk_cell BK331.out 3).trans rfl
      have hfz31_0 := blk_frozen BK331.out 0
      have hfz31_1 := blk_frozen BK331.out 1
      have hfz31_2 := blk_frozen BK331.out 2
      have hfz31_3 := blk_frozen BK331.out 3
      go_wp2
      go_meet
      case rel => exact ⟨_, (((l1_2.length : Int) == 0)), S.eA, H', ⟨by have := HJ3.out; first | omega | exact Nat.le_refl _⟩, ⟨S.uB BK331.out⟩, ⟨S.uB BK332.out⟩, ⟨S.bG⟩⟩
     ·replace c29 := Bool.eq_false_iff.mpr c29
      subst c29
      have H1 : (impl_PrioWish.j1 kj3 l0 false false l1_0 a1_1 l1_2 a1_3) = some r := by rw [if_neg (show ¬ (false = true) by decide)] at H; exact H
      clear H
      have H := H1
      clear H1
      have H' := Aside0.mk H
      clear H
      go_wp2
      go_meet
      case rel => exact ⟨_, (false), S.eA, H', ⟨by have := HJ3.out; first | omega | exact Nat.le_refl _⟩, ⟨S.uB BK331.out⟩, ⟨S.uB BK332.out⟩, ⟨S.bG⟩⟩
    case rest =>
     clear HC25
     try clear c1
     try clear c2
     try clear p2
     try clear c3
     try clear c4
     try clear c7
     try clear c7b0
     try clear c7b1
     try clear c8
     try clear c11
     try clear c13
     try clear c19
     try clear c23
     try clear c26
     try clear c29
     try clear c30
     try clear hcz14_0
     try clear hcz14_1
     try clear hcz15_0
     try clear hcz15_1
     try clear hcz15_2
     try clear hcz15_3
     try clear hcz17_0
     try clear hcz17_1
     try clear hcz20_0
     try clear hcz20_1
     try clear hcz21_0
     try clear hcz21_1
     try clear hcz21_2
     try clear hcz21_3
     try clear hcz27_0
     try clear hcz27_1
     try clear hcz27_2
     try clear hcz27_3
     try clear hcz28_0
     try clear hcz28_1
     try clear hcz31_0
     try clear hcz31_1
     try clear hcz31_2
     try clear hcz31_3
     try clear hcz9_0
     try clear hcz9_1
     try clear hfz14_0
     try clear hfz14_1
     try clear hfz15_0
     try clear hfz15_1
     try clear hfz15_2
     try clear hfz15_3
     try clear hfz17_0
     try clear hfz17_1
     try clear hfz20_0
     try clear hfz20_1
     try clear hfz21_0
     try clear hfz21_1
     try clear hfz21_2
     try clear hfz21_3
     try clear hfz27_0
     try clear hfz27_1
     try clear hfz27_2
     try clear hfz27_3
     try clear hfz28_0
     try clear hfz28_1
     try clear hfz31_0
     try clear hfz31_1
     try clear hfz31_2
     try clear hfz31_3
     try clear hfz9_0
     try clear hfz9_1
     try clear p2
     obtain ⟨kq, x28_24, rfl, HA, HJ24, BK331, BK332, HB⟩ := hcut
     cases kq with
     | zero => exact absurd HA.out (by simp [impl_PrioWish.j1])
     | succ kj24 =>
      have H := HA.out
      clear HA
      simp only [impl_PrioWish.j1] at H
      by_cases c32 : x28_24 = true
      ·subst c32
       have H1 : (some (⟨#[104, 111, 108, 100]⟩ : ByteArray)) = some r := by rw [if_pos rfl] at H; exact H
       clear H
       have H := H1
       clear H1
       obtain rfl := Option.some.inj H
       go_wp2
       go_ret
       exact ⟨S.eW, S.bG⟩
      ·replace c32 := Bool.eq_false_iff.mpr c32
       subst c32
       have H1 : (if t335 = true then (some (⟨#[]⟩ : ByteArray)) else ((impl_CanEnd.f kj24 l0 l1_0 a1_1 l1_2 a1_3).bind fun t336 => (if t336 = true then (some (⟨#[99, 97, 108, 108]⟩ : ByteArray)) else (some (⟨#[]⟩ : ByteArray))))) = some r := by rw [if_neg (show ¬ (false = true) by decide)] at H; exact H
       clear H
       have H := H1
       clear H1
       by_cases c33 : t335 = true
       ·subst c33
        have H1 : (some (⟨#[]⟩ : ByteArray)) = some r := by rw [if_pos rfl] at H; exact H
        clear H
        have H := H1
        clear H1
        obtain rfl := Option.some.inj H
        go_wp2
        go_ret
        exact ⟨S.eW, S.bG⟩
       ·replace c33 := Bool.eq_false_iff.mpr c33
        subst c33
        have H1 : ((impl_CanEnd.f kj24 l0 l1_0 a1_1 l1_2 a1_3).bind fun t336 => (if t336 = true then (some (⟨#[99, 97, 108, 108]⟩ : ByteArray)) else (some (⟨#[]⟩ : ByteArray)))) = some r := by rw [if_neg (show ¬ (false = true) by decide)] at H; exact H
        clear H
        have H := H1
        clear H1
        replace H := Option.bind_eq_some_iff.mp H
        obtain ⟨t336, A340, H⟩ := H
        replace H : (if t336 = true then (some (⟨#[99, 97, 108, 108]⟩ : ByteArray)) else (some (⟨#[]⟩ : ByteArray))) = some r := H
        have A34 := Aside0.mk A340
        clear A340
        by_cases c35 : t336 = true
        ·subst c35
         have H1 : (some (⟨#[99, 97, 108, 108]⟩ : ByteArray)) = some r := by rw [if_pos rfl] at H; exact H
         clear H
         have H := H1
         clear H1
         obtain rfl := Option.some.inj H
         have hnb36 := NB331_332.out
         have hnc36 := NB332_331.out
         have hcz37_0 : wc.cell? ⟨gb331, 0, none⟩ = some (.slice A1_0 l1_0.length c1_0) := (blk_cell BK331.out 0).trans rfl
         have hcz37_1 : wc.cell? ⟨gb331, 1, none⟩ = some (.int .i64 a1_1) := (blk_cell BK331.out 1).trans rfl
         have hcz37_2 : wc.cell? ⟨gb331, 2, none⟩ = some (.slice A1_2 l1_2.length c1_2) := (blk_cell BK331.out 2).trans rfl
         have hcz37_3 : wc.cell? ⟨gb331, 3, none⟩ = some (.int .i64 a1_3) := (blk_cell BK331.out 3).trans rfl
         have hfz37_0 := blk_frozen BK331.out 0
         have hfz37_1 := blk_frozen BK331.out 1
         have hfz37_2 := blk_frozen BK331.out 2
         have hfz37_3 := blk_frozen BK331.out 3
         go_wp2_with (first | (go_at_call 83; (with_reducible refine (impl_CanEnd.calls kj24 _ _ l0 _ _ l1_0 a1_1 _ _ l1_2 a1_3 true _ ?side1 ?side2 ?side3 ?side4 ?side5 ?side6 A34.out).mono ?_); (case side1 => exact S.cA HR0.out); (case side2 => exact HC0.out); (case side3 => exact S.cA HR1_0.out); (case side4 => exact HC1_0.out); (case side5 => exact S.cA HR1_2.out); (case side6 => exact HC1_2.out); rintro e w38 ⟨rfl, hb⟩; have n0_ := Aside0.mk (blk_below (g := gb331) (o := .cells #[.slice A1_0 l1_0.length c1_0, .int .i64 a1_1, .slice A1_2 l1_2.length c1_2, .int .i64 a1_3] 60 (0, 0)) (S.uB BK331.out) hb); have n1_ := Aside0.mk (blk_below (g := gb332) (o := .cells #[.int .i64 a2_0, .int .i64 a2_1] 67 (0, 0)) (S.uB BK332.out) hb); have n2_ := Aside0.mk (below_step S.bG hb); clear BK331; clear BK332; clear HB; have BK331 := n0_; have BK332 := n1_; have HB := n2_; clear n0_ n1_ n2_; (try clear hb); (try clear hb2); (try clear hk); (try clear hi)))
         go_ret
         exact ⟨S.eW, S.bG⟩
        ·replace c35 := Bool.eq_false_iff.mpr c35
         subst c35
         have H1 : (some (⟨#[]⟩ : ByteArray)) = some r := by rw [if_neg (show ¬ (false = true) by decide)] at H; exact H
         clear H
         have H := H1
         clear H1
         obtain rfl := Option.some.inj H
         have hnb39 := NB331_332.out
         have hnc39 := NB332_331.out
         have hcz40_0 : wc.cell? ⟨gb331, 0, none⟩ = some (.slice A1_0 l1_0.length c1_0) := (blk_cell BK331.out 0).trans rfl
         have hcz40_1 : wc.cell? ⟨gb331, 1, none⟩ = some (.int .i64 a1_1) := (blk_cell BK331.out 1).trans rfl
         have hcz40_2 : wc.cell? ⟨gb331, 2, none⟩ = some (.slice A1_2 l1_2.length c1_2) := (blk_cell BK331.out 2).trans rfl
         have hcz40_3 : wc.cell? ⟨gb331, 3, none⟩ = some (.int .i64 a1_3) := (blk_cell BK331.out 3).trans rfl
         have hfz40_0 := blk_frozen BK331.out 0
         have hfz40_1 := blk_frozen BK331.out 1
         have hfz40_2 := blk_frozen BK331.out 2
         have hfz40_3 := blk_frozen BK331.out 3
         go_wp2_with (first | (go_at_call 83; (with_reducible refine (impl_CanEnd.calls kj24 _ _ l0 _ _ l1_0 a1_1 _ _ l1_2 a1_3 false _ ?side1 ?side2 ?side3 ?side4 ?side5 ?side6 A34.out).mono ?_); (case side1 => exact S.cA HR0.out); (case side2 => exact HC0.out); (case side3 => exact S.cA HR1_0.out); (case side4 => exact HC1_0.out); (case side5 => exact S.cA HR1_2.out); (case side6 => exact HC1_2.out); rintro e w41 ⟨rfl, hb⟩; have n0_ := Aside0.mk (blk_below (g := gb331) (o := .cells #[.slice A1_0 l1_0.length c1_0, .int .i64 a1_1, .slice A1_2 l1_2.length c1_2, .int .i64 a1_3] 60 (0, 0)) (S.uB BK331.out) hb); have n1_ := Aside0.mk (blk_below (g := gb332) (o := .cells #[.int .i64 a2_0, .int .i64 a2_1] 67 (0, 0)) (S.uB BK332.out) hb); have n2_ := Aside0.mk (below_step S.bG hb); clear BK331; clear BK332; clear HB; have BK331 := n0_; have BK332 := n1_; have HB := n2_; clear n0_ n1_ n2_; (try clear hb); (try clear hb2); (try clear hk); (try clear hi)))
         go_ret
         exact ⟨S.eW, S.bG⟩

end Go.Proofs.Ytopchlafmfgpnaa.PFnExactPrioWish
