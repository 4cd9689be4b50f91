/- Printed by a program: what the Go functions compute, as plain Lean functions (.f), and the proofs that the machine's calls come to just that (.calls). -/
import Derived.Test.YtopchlafmfgpnaaPFnExactPrioWishx0
import Derived.Test.YtopchlafmfgpnaaPFnExactPrioWishx2
import Derived.Test.YtopchlafmfgpnaaPFnExactPrioWishx3
import Derived.Test.YtopchlafmfgpnaaPFnExactPrioWishx13
import Derived.Test.YtopchlafmfgpnaaPFnExactPrioWishx22
namespace Go.Proofs.Ytopchlafmfgpnaa.PFnExactPrioWish
open Go.RowKit Go.Proofs.YtopchlafmfgpnaaW.PrintWords Go.Proofs.YtopchlafmfgpnaaW.PrintLast Go.Proofs.YtopchlafmfgpnaaW.PrintMore
attribute [local go_sem] max2_int min2_int max_two min_two max_three min_three max_four min_four   -- for this text's walks alone
set_option linter.unusedVariables false
set_option linter.unusedSimpArgs false

/-! ### laws_FnExactPrioWish: function 6 -/
mutual
def laws_FnExactPrioWish.j0 : Nat → List (S84) → Int → List Int → Int → List Int → Int → Int → Int → Option (Bool)
 | 0, _, _, _, _, _, _, _, _ => none
 | k + 1, x0, x7, x338000, x338001, x338002, x338003, x339000, x339001 => (laws_szControl.f x338000 x338001 x338002 x338003 x7).bind fun t340 => (if t340 < 0 then (some true) else (laws_FnExactPrioWish.j1 k x0 x338000 x338001 x338002 x338003 x339000 x339001))
def laws_FnExactPrioWish.j1 : Nat → List (S84) → List Int → Int → List Int → Int → Int → Int → Option (Bool)
 | 0, _, _, _, _, _, _, _ => none
 | k + 1, x0, x338000, x338001, x338002, x338003, x339000, x339001 => (laws_toPathS.f k x0).bind fun t341 => ((laws_toControl.f k x338000 x338001 x338002 x338003).bind fun bt344 => ((laws_toPrio.f x339000 x339001).bind fun bt352 => ((spec_PrioWish.f k t341 bt344.1 bt344.2.1 bt344.2.2.1 bt344.2.2.2 bt352.1 bt352.2).bind fun t354 => ((laws_toPathS.f k x0).bind fun t355 => ((laws_toControl.f k x338000 x338001 x338002 x338003).bind fun bt358 => ((laws_toPrio.f x339000 x339001).bind fun bt367 => ((impl_PrioWish.f k t355 bt358.1 bt358.2.1 bt358.2.2.1 bt358.2.2.2 bt367.1 bt367.2).bind fun t369 => (if t369.toList = t354.toList then (laws_FnExactPrioWish.j2 k x0 t355 x338000 x338001 x338002 x338003 bt358.1 bt358.2.1 bt358.2.2.1 bt358.2.2.2) else (some false)))))))))
def laws_FnExactPrioWish.j2 : Nat → List (S84) → List (S52) → List Int → Int → List Int → Int → List Int → Int → List Int → Int → Option (Bool)
 | 0, _, _, _, _, _, _, _, _, _, _ => none
 | k + 1, x0, x9, x338000, x338001, x338002, x338003, x367000, x367001, x367002, x367003 => (laws_toPathS.f k x0).bind fun t370 => ((laws_eqPathS.f k x9 t370).bind fun t373 => (if t373 = true then (laws_FnExactPrioWish.j3 k x338000 x338001 x338002 x338003 x367000 x367001 x367002 x367003) else (some false)))
def laws_FnExactPrioWish.j3 : Nat → List Int → Int → List Int → Int → List Int → Int → List Int → Int → Option (Bool)
 | 0, _, _, _, _, _, _, _, _ => none
 | k + 1, x338000, x338001, x338002, x338003, x367000, x367001, x367002, x367003 => (laws_toControl.f k x338000 x338001 x338002 x338003).bind fun bt374 => ((laws_eqControl.f k x367000 x367001 x367002 x367003 bt374.1 bt374.2.1 bt374.2.2.1 bt374.2.2.2).bind fun t382 => (if t382 = true then (some true) else (some false)))
end
def laws_FnExactPrioWish.f (k : Nat) (l0 : List (S84)) (l1_0 : List Int) (a1_1 : Int) (l1_2 : List Int) (a1_3 : Int) (a2_0 : Int) (a2_1 : Int) : Option (Bool) := (laws_szPathS.f l0 1048576).bind fun t339 => (if t339 < 0 then (some true) else (laws_FnExactPrioWish.j0 k l0 t339 l1_0 a1_1 l1_2 a1_3 a2_0 a2_1))
theorem laws_FnExactPrioWish.mono_l : ∀ k, (∀ y0 y1 y2 y3 y4 y5 y6 y7, LeO (laws_FnExactPrioWish.j0 k y0 y1 y2 y3 y4 y5 y6 y7) (laws_FnExactPrioWish.j0 (k + 1) y0 y1 y2 y3 y4 y5 y6 y7)) ∧ (∀ y0 y1 y2 y3 y4 y5 y6, LeO (laws_FnExactPrioWish.j1 k y0 y1 y2 y3 y4 y5 y6) (laws_FnExactPrioWish.j1 (k + 1) y0 y1 y2 y3 y4 y5 y6)) ∧ (∀ y0 y1 y2 y3 y4 y5 y6 y7 y8 y9, LeO (laws_FnExactPrioWish.j2 k y0 y1 y2 y3 y4 y5 y6 y7 y8 y9) (laws_FnExactPrioWish.j2 (k + 1) y0 y1 y2 y3 y4 y5 y6 y7 y8 y9)) ∧ (∀ y0 y1 y2 y3 y4 y5 y6 y7, LeO (laws_FnExactPrioWish.j3 k y0 y1 y2 y3 y4 y5 y6 y7) (laws_FnExactPrioWish.j3 (k + 1) y0 y1 y2 y3 y4 y5 y6 y7))
 | 0 => ⟨fun _ _ _ _ _ _ _ _ r h => by simp [laws_FnExactPrioWish.j0] at h, fun _ _ _ _ _ _ _ r h => by simp [laws_FnExactPrioWish.j1] at h, fun _ _ _ _ _ _ _ _ _ _ r h => by simp [laws_FnExactPrioWish.j2] at h, fun _ _ _ _ _ _ _ _ r h => by simp [laws_FnExactPrioWish.j3] at h⟩
 | k + 1 => by
  obtain ⟨ih0, ih1, ih2, ih3⟩ := laws_FnExactPrioWish.mono_l k
  refine ⟨?_, ?_, ?_, ?_⟩
  ·intro y0 y1 y2 y3 y4 y5 y6 y7
   unfold laws_FnExactPrioWish.j0
   repeat' first
   | (with_reducible exact ih0 _ _ _ _ _ _ _ _)
   | (with_reducible exact ih1 _ _ _ _ _ _ _)
   | (with_reducible exact ih2 _ _ _ _ _ _ _ _ _ _)
   | (with_reducible exact ih3 _ _ _ _ _ _ _ _)
   | (with_reducible exact impl_PrioWish.mono _ _ _ _ _ _ _ _)
   | (with_reducible exact laws_eqControl.mono _ _ _ _ _ _ _ _ _)
   | (with_reducible exact laws_eqPathS.mono _ _ _)
   | (with_reducible exact laws_toControl.mono _ _ _ _ _)
   | (with_reducible exact laws_toPathS.mono _ _)
   | (with_reducible exact spec_PrioWish.mono _ _ _ _ _ _ _ _)
   | (with_reducible exact LeO.refl _)
   | (with_reducible exact LeO.none _)
   | (with_reducible refine LeO.ite ?_ ?_)
   | (with_reducible refine LeO.bind ?_ (fun _ => ?_))
   | exact ih0 _ _ _ _ _ _ _ _
   | exact ih1 _ _ _ _ _ _ _
   | exact ih2 _ _ _ _ _ _ _ _ _ _
   | exact ih3 _ _ _ _ _ _ _ _
   | exact impl_PrioWish.mono _ _ _ _ _ _ _ _
   | exact laws_eqControl.mono _ _ _ _ _ _ _ _ _
   | exact laws_eqPathS.mono _ _ _
   | exact laws_toControl.mono _ _ _ _ _
   | exact laws_toPathS.mono _ _
   | exact spec_PrioWish.mono _ _ _ _ _ _ _ _
   | exact LeO.none _
   | refine LeO.ite ?_ ?_
   | refine LeO.bind ?_ (fun _ => ?_)
  ·intro y0 y1 y2 y3 y4 y5 y6
   unfold laws_FnExactPrioWish.j1
   repeat' first
   | (with_reducible exact ih0 _ _ _ _ _ _ _ _)
   | (with_reducible exact ih1 _ _ _ _ _ _ _)
   | (with_reducible exact ih2 _ _ _ _ _ _ _ _ _ _)
   | (with_reducible exact ih3 _ _ _ _ _ _ _ _)
   | (with_reducible exact impl_PrioWish.mono _ _ _ _ _ _ _ _)
   | (with_reducible exact laws_eqControl.mono _ _ _ _ _ _ _ _ _)
   | (with_reducible exact laws_eqPathS.mono _ _ _)
   | (with_reducible exact laws_toControl.mono _ _ _ _ _)
   | (with_reducible exact laws_toPathS.mono _ _)
   | (with_reducible exact spec_PrioWish.mono _ _ _ _ _ _ _ _)
   | (with_reducible exact LeO.refl _)
   | (with_reducible exact LeO.none _)
   | (with_reducible refine LeO.ite ?_ ?_)
   | (with_reducible refine LeO.bind ?_ (fun _ => ?_))
   | exact ih0 _ _ _ _ _ _ _ _
   | exact ih1 _ _ _ _ _ _ _
   | exact ih2 _ _ _ _ _ _ _ _ _ _
   | exact ih3 _ _ _ _ _ _ _ _
   | exact impl_PrioWish.mono _ _ _ _ _ _ _ _
   | exact laws_eqControl.mono _ _ _ _ _ _ _ _ _
   | exact laws_eqPathS.mono _ _ _
   | exact laws_toControl.mono _ _ _ _ _
   | exact laws_toPathS.mono _ _
   | exact spec_PrioWish.mono _ _ _ _ _ _ _ _
   | exact LeO.none _
   | refine LeO.ite ?_ ?_
   | refine LeO.bind ?_ (fun _ => ?_)
  ·intro y0 y1 y2 y3 y4 y5 y6 y7 y8 y9
   unfold laws_FnExactPrioWish.j2
   repeat' first
   | (with_reducible exact ih0 _ _ _ _ _ _ _ _)
   | (with_reducible exact ih1 _ _ _ _ _ _ _)
   | (with_reducible exact ih2 _ _ _ _ _ _ _ _ _ _)
   | (with_reducible exact ih3 _ _ _ _ _ _ _ _)
   | (with_reducible exact impl_PrioWish.mono _ _ _ _ _ _ _ _)
   | (with_reducible exact laws_eqControl.mono _ _ _ _ _ _ _ _ _)
   | (with_reducible exact laws_eqPathS.mono _ _ _)
   | (with_reducible exact laws_toControl.mono _ _ _ _ _)
   | (with_reducible exact laws_toPathS.mono _ _)
   | (with_reducible exact spec_PrioWish.mono _ _ _ _ _ _ _ _)
   | (with_reducible exact LeO.refl _)
   | (with_reducible exact LeO.none _)
   | (with_reducible refine LeO.ite ?_ ?_)
   | (with_reducible refine LeO.bind ?_ (fun _ => ?_))
   | exact ih0 _ _ _ _ _ _ _ _
   | exact ih1 _ _ _ _ _ _ _
   | exact ih2 _ _ _ _ _ _ _ _ _ _
   | exact ih3 _ _ _ _ _ _ _ _
   | exact impl_PrioWish.mono _ _ _ _ _ _ _ _
   | exact laws_eqControl.mono _ _ _ _ _ _ _ _ _
   | exact laws_eqPathS.mono _ _ _
   | exact laws_toControl.mono _ _ _ _ _
   | exact laws_toPathS.mono _ _
   | exact spec_PrioWish.mono _ _ _ _ _ _ _ _
   | exact LeO.none _
   | refine LeO.ite ?_ ?_
   | refine LeO.bind ?_ (fun _ => ?_)
  ·intro y0 y1 y2 y3 y4 y5 y6 y7
   unfold laws_FnExactPrioWish.j3
   repeat' first
   | (with_reducible exact ih0 _ _ _ _ _ _ _ _)
   | (with_reducible exact ih1 _ _ _ _ _ _ _)
   | (with_reducible exact ih2 _ _ _ _ _ _ _ _ _ _)
   | (with_reducible exact ih3 _ _ _ _ _ _ _ _)
   | (with_reducible exact impl_PrioWish.mono _ _ _ _ _ _ _ _)
   | (with_reducible exact laws_eqControl.mono _ _ _ _ _ _ _ _ _)
   | (with_reducible exact laws_eqPathS.mono _ _ _)
   | (with_reducible exact laws_toControl.mono _ _ _ _ _)
   | (with_reducible exact laws_toPathS.mono _ _)
   | (with_reducible exact spec_PrioWish.mono _ _ _ _ _ _ _ _)
   | (with_reducible exact LeO.refl _)
   | (with_reducible exact LeO.none _)
   | (with_reducible refine LeO.ite ?_ ?_)
   | (with_reducible refine LeO.bind ?_ (fun _ => ?_))
   | exact ih0 _ _ _ _ _ _ _ _
   | exact ih1 _ _ _ _ _ _ _
   | exact ih2 _ _ _ _ _ _ _ _ _ _
   | exact ih3 _ _ _ _ _ _ _ _
   | exact impl_PrioWish.mono _ _ _ _ _ _ _ _
   | exact laws_eqControl.mono _ _ _ _ _ _ _ _ _
   | exact laws_eqPathS.mono _ _ _
   | exact laws_toControl.mono _ _ _ _ _
   | exact laws_toPathS.mono _ _
   | exact spec_PrioWish.mono _ _ _ _ _ _ _ _
   | exact LeO.none _
   | refine LeO.ite ?_ ?_
   | refine LeO.bind ?_ (fun _ => ?_)
theorem laws_FnExactPrioWish.mono : ∀ a0 a1 a2 a3 a4 a5 a6 k, LeO (laws_FnExactPrioWish.f k a0 a1 a2 a3 a4 a5 a6) (laws_FnExactPrioWish.f (k + 1) a0 a1 a2 a3 a4 a5 a6) := by
 intro a0 a1 a2 a3 a4 a5 a6 k
 obtain ⟨ih0, ih1, ih2, ih3⟩ := laws_FnExactPrioWish.mono_l k
 unfold laws_FnExactPrioWish.f
 repeat' first
   | (with_reducible exact ih0 _ _ _ _ _ _ _ _)
   | (with_reducible exact ih1 _ _ _ _ _ _ _)
   | (with_reducible exact ih2 _ _ _ _ _ _ _ _ _ _)
   | (with_reducible exact ih3 _ _ _ _ _ _ _ _)
   | (with_reducible exact impl_PrioWish.mono _ _ _ _ _ _ _ _)
   | (with_reducible exact laws_eqControl.mono _ _ _ _ _ _ _ _ _)
   | (with_reducible exact laws_eqPathS.mono _ _ _)
   | (with_reducible exact laws_toControl.mono _ _ _ _ _)
   | (with_reducible exact laws_toPathS.mono _ _)
   | (with_reducible exact spec_PrioWish.mono _ _ _ _ _ _ _ _)
   | (with_reducible exact LeO.refl _)
   | (with_reducible exact LeO.none _)
   | (with_reducible refine LeO.ite ?_ ?_)
   | (with_reducible refine LeO.bind ?_ (fun _ => ?_))
   | exact ih0 _ _ _ _ _ _ _ _
   | exact ih1 _ _ _ _ _ _ _
   | exact ih2 _ _ _ _ _ _ _ _ _ _
   | exact ih3 _ _ _ _ _ _ _ _
   | exact impl_PrioWish.mono _ _ _ _ _ _ _ _
   | exact laws_eqControl.mono _ _ _ _ _ _ _ _ _
   | exact laws_eqPathS.mono _ _ _
   | exact laws_toControl.mono _ _ _ _ _
   | exact laws_toPathS.mono _ _
   | exact spec_PrioWish.mono _ _ _ _ _ _ _ _
   | exact LeO.none _
   | refine LeO.ite ?_ ?_
   | refine LeO.bind ?_ (fun _ => ?_)
def laws_FnExactPrioWish.T8 : Bool × List (List Nat × List Nat) := (true, [([], []), ([0], [0]), ([], []), ([2, 1], [2]), ([], []), ([4, 3], [4]), ([1, 3, 5, 5], [1, 3, 5]), ([6, 6, 0, 1, 2, 3, 4, 5, 6], [6])])
def laws_FnExactPrioWish.B8 : List Nat := [0, 1, 0, 7, 0, 31, 63, 127]
theorem laws_FnExactPrioWish.tab8 : rtab .any (opsOf Try.f6 8) = laws_FnExactPrioWish.T8 := by kernel_rfl
theorem laws_FnExactPrioWish.bits8 : waitsOk laws_FnExactPrioWish.T8.2 laws_FnExactPrioWish.B8 = true := by kernel_rfl
set_option maxHeartbeats 8000000 in
set_option maxRecDepth 100000 in
theorem laws_FnExactPrioWish.calls (k : Nat) (A0 : Option Addr) (c0 : Nat) (l0 : List (S84)) (A1_0 : Option Addr) (c1_0 : Nat) (l1_0 : List Int) (a1_1 : Int) (A1_2 : Option Addr) (c1_2 : Nat) (l1_2 : List Int) (a1_3 : Int) (a2_0 : Int) (a2_1 : Int) (r : Bool) (w : World) (hr0 : Kd.C k84 w A0 l0.length l0) (hc0 : l0.length ≤ c0) (hr1_0 : Kd.C (Kd.int .i64) w A1_0 l1_0.length l1_0) (hc1_0 : l1_0.length ≤ c1_0) (hr1_2 : Kd.C (Kd.int .i64) w A1_2 l1_2.length l1_2) (hc1_2 : l1_2.length ≤ c1_2) (h : laws_FnExactPrioWish.f k l0 l1_0 a1_1 l1_2 a1_3 a2_0 a2_1 = some r) :
  Calls Try.prog 6 #[.slice A0 l0.length c0, .agg #[.slice A1_0 l1_0.length c1_0, .int .i64 a1_1, .slice A1_2 l1_2.length c1_2, .int .i64 a1_3], .agg #[.int .i64 a2_0, .int .i64 a2_1]] w fun e w' => e = .returned (.bool r) ∧ Below w.heap.size w w' := by
 have hu57 := Try.underlying57
 have hu65 := Try.underlying65
 have hu60 := Try.underlying60
 have HR0 := Aside0.mk hr0
 have HC0 := Aside0.mk hc0
 clear hr0 hc0
 have HR1_0 := Aside0.mk hr1_0
 have HC1_0 := Aside0.mk hc1_0
 clear hr1_0 hc1_0
 have HR1_2 := Aside0.mk hr1_2
 have HC1_2 := Aside0.mk hc1_2
 clear hr1_2 hc1_2
 have HB := Aside0.mk (Below.refl w.heap.size w)
 have H : ((laws_szPathS.f l0 1048576).bind fun t339 => (if t339 < 0 then (some true) else (laws_FnExactPrioWish.j0 k l0 t339 l1_0 a1_1 l1_2 a1_3 a2_0 a2_1))) = some r := h
 clear h
 replace H := Option.bind_eq_some_iff.mp H
 obtain ⟨t339, A40, H⟩ := H
 replace H : (if t339 < 0 then (some true) else (laws_FnExactPrioWish.j0 k l0 t339 l1_0 a1_1 l1_2 a1_3 a2_0 a2_1)) = some r := H
 have A4 := Aside0.mk A40
 clear A40
 have HC5 := Aside0.mk H
 clear H
 go_enter Try.func6, Try.ntmps6
 go_upto_if 16 with (first | ((with_reducible refine gate_dst (N := 4) rfl ?_); refine box_event ?hg (N := 4) ?hd (cs := #[.slice A1_0 l1_0.length c1_0, .int .i64 a1_1, .slice A1_2 l1_2.length c1_2, .int .i64 a1_3]) (t := 57) ?hr ?_; (case hd => rfl); (case hg => rfl); (case hr => first | (go_simp; done) | (go_simp; rfl)); intro gb337 hg w6 hbox hb; have n0_ := Aside0.mk (below_step S.bA hb); have n1_ := Aside0.mk (hbox); have n2_ := Aside0.mk ((by rw [hg]; exact (below_size S.bA) : w.heap.size ≤ gb337)); have n3_ := Aside0.mk ((by rw [hg]; exact (below_size S.bA) : w.heap.size ≤ gb337)); clear HB; have HB := n0_; have BK337 := n1_; have GW337 := n2_; have GE337 := n3_; clear n0_ n1_ n2_ n3_; clear hb hbox hg) | ((with_reducible refine gate_dst (N := 5) rfl ?_); refine box_event ?hg (N := 5) ?hd (cs := #[.int .i64 a2_0, .int .i64 a2_1]) (t := 65) ?hr ?_; (case hd => rfl); (case hg => rfl); (case hr => first | (go_simp; done) | (go_simp; rfl)); intro gb338 hg w7 hbox hb; have n0_ := Aside0.mk (blk_below (g := gb337) (o := .cells #[.slice A1_0 l1_0.length c1_0, .int .i64 a1_1, .slice A1_2 l1_2.length c1_2, .int .i64 a1_3] 57 (0, 0)) (S.uB BK337.out) hb); have n1_ := Aside0.mk (below_step S.bG hb); have n2_ := Aside0.mk (hbox); have n3_ := Aside0.mk ((by rw [hg]; exact (below_size S.bG) : w.heap.size ≤ gb338)); have n4_ := Aside0.mk ((by rw [hg]; exact (below_size S.bG) : w.heap.size ≤ gb338)); have n5_ := Aside0.mk ((by rw [hg]; exact Nat.ne_of_lt (blk_lt (g := gb337) (o := .cells #[.slice A1_0 l1_0.length c1_0, .int .i64 a1_1, .slice A1_2 l1_2.length c1_2, .int .i64 a1_3] 57 (0, 0)) (S.uB BK337.out)) : gb337 ≠ gb338)); have n6_ := Aside0.mk ((by rw [hg]; exact Nat.ne_of_gt (blk_lt (g := gb337) (o := .cells #[.slice A1_0 l1_0.length c1_0, .int .i64 a1_1, .slice A1_2 l1_2.length c1_2, .int .i64 a1_3] 57 (0, 0)) (S.uB BK337.out)) : gb338 ≠ gb337)); clear BK337; clear HB; have BK337 := n0_; have HB := n1_; have BK338 := n2_; have GW338 := n3_; have GE338 := n4_; have NB337_338 := n5_; have NB338_337 := n6_; clear n0_ n1_ n2_ n3_ n4_ n5_ n6_; clear hb hbox hg) | ((with_reducible refine gate_callee (f := 11) rfl ?_); refine S.gL (some 14) Try.func11 #[.slice A0 l0.length c0, .int .i64 1048576] ?_; (with_reducible refine (laws_szPathS.calls _ _ l0 1048576 t339 _ ?side1 ?side2 A4.out).mono ?_); (case side1 => exact S.cA HR0.out); (case side2 => exact HC0.out); rintro e w' ⟨rfl, ⟨nd, rfl⟩⟩; refine ⟨_, rfl, ?_⟩))
 (try simp only [Act.put, List.setIfInBounds_toArray, List.set_cons_zero, List.set_cons_succ])
 go_cut [] (fun wc => ∃ (kq : Nat), Aside0 (laws_FnExactPrioWish.j0 kq l0 t339 l1_0 a1_1 l1_2 a1_3 a2_0 a2_1 = some r) ∧ Aside0 (kq ≤ k) ∧ Aside0 (wc.heap[gb337]? = some (.cells #[(.slice A1_0 l1_0.length c1_0), .int .i64 a1_1, (.slice A1_2 l1_2.length c1_2), .int .i64 a1_3] 57 (0, 0))) ∧ Aside0 (wc.heap[gb338]? = some (.cells #[.int .i64 a2_0, .int .i64 a2_1] 65 (0, 0))) ∧ Aside0 (Below w.heap.size w wc))
 case first =>
  have H := HC5.out
  clear HC5
  by_cases c8 : t339 < 0
  ·rw [if_pos c8] at H
   have c8b0 : decide (t339 < 0) = true := decide_eq_true c8
   clear c8
   (first | rw [c8b0] | (simp only [i64_w, i32_w]; rw [c8b0]) | skip)
   obtain rfl := Option.some.inj H
   go_wp2
   go_ret
   exact ⟨S.eW, S.bG⟩
  ·rw [if_neg c8] at H
   have c8b0 : decide (t339 < 0) = false := decide_eq_false c8
   clear c8
   (first | rw [c8b0] | (simp only [i64_w, i32_w]; rw [c8b0]) | skip)
   have H' := Aside0.mk H
   clear H
   go_wp2
   go_meet
   case rel => exact ⟨_, H', ⟨by first | omega | exact Nat.le_refl _⟩, ⟨S.uB BK337.out⟩, ⟨S.uB BK338.out⟩, ⟨S.bG⟩⟩
 case rest =>
  clear HC5
  try clear c1
  try clear p2
  try clear c6
  try clear c8
  try clear c8b0
  obtain ⟨kq, HA, HJ4, BK337, BK338, HB⟩ := hcut
  cases kq with
  | zero => exact absurd HA.out (by simp [laws_FnExactPrioWish.j0])
  | succ kj4 =>
   have H := HA.out
   clear HA
   simp only [laws_FnExactPrioWish.j0] at H
   replace H := Option.bind_eq_some_iff.mp H
   obtain ⟨t340, A90, H⟩ := H
   replace H : (if t340 < 0 then (some true) else (laws_FnExactPrioWish.j1 kj4 l0 l1_0 a1_1 l1_2 a1_3 a2_0 a2_1)) = some r := H
   have A9 := Aside0.mk A90
   clear A90
   have HC10 := Aside0.mk H
   clear H
   have hnb11 := NB337_338.out
   have hnc11 := NB338_337.out
   have hcz12_0 : wc.cell? ⟨gb337, 0, none⟩ = some (.slice A1_0 l1_0.length c1_0) := (blk_cell BK337.out 0).trans rfl
   have hcz12_1 : wc.cell? ⟨gb337, 1, none⟩ = some (.int .i64 a1_1) := (blk_cell BK337.out 1).trans rfl
   have hcz12_2 : wc.cell? ⟨gb337, 2, none⟩ = some (.slice A1_2 l1_2.length c1_2) := (blk_cell BK337.out 2).trans rfl
   have hcz12_3 : wc.cell? ⟨gb337, 3, none⟩ = some (.int .i64 a1_3) := (blk_cell BK337.out 3).trans rfl
   have hfz12_0 := blk_frozen BK337.out 0
   have hfz12_1 := blk_frozen BK337.out 1
   have hfz12_2 := blk_frozen BK337.out 2
   have hfz12_3 := blk_frozen BK337.out 3
   go_upto_if 21 with (first | ((with_reducible refine gate_callee (f := 33) rfl ?_); refine S.gL (some 19) Try.func33 #[.agg #[.slice A1_0 l1_0.length c1_0, .int .i64 a1_1, .slice A1_2 l1_2.length c1_2, .int .i64 a1_3], .int .i64 t339] ?_; (with_reducible refine (laws_szControl.calls _ _ l1_0 a1_1 _ _ l1_2 a1_3 t339 t340 _ ?side1 ?side2 ?side3 ?side4 A9.out).mono ?_); (case side1 => exact S.cA HR1_0.out); (case side2 => exact HC1_0.out); (case side3 => exact S.cA HR1_2.out); (case side4 => exact HC1_2.out); rintro e w13 ⟨rfl, hb⟩; refine ⟨_, rfl, ?_⟩; have n0_ := Aside0.mk (blk_below (g := gb337) (o := .cells #[.slice A1_0 l1_0.length c1_0, .int .i64 a1_1, .slice A1_2 l1_2.length c1_2, .int .i64 a1_3] 57 (0, 0)) (S.uB BK337.out) hb); have n1_ := Aside0.mk (blk_below (g := gb338) (o := .cells #[.int .i64 a2_0, .int .i64 a2_1] 65 (0, 0)) (S.uB BK338.out) hb); have n2_ := Aside0.mk (below_step S.bG hb); clear BK337; clear BK338; clear HB; have BK337 := n0_; have BK338 := n1_; have HB := n2_; clear n0_ n1_ n2_; (try clear hb); (try clear hb2); (try clear hk); (try clear hi)))
   (try simp only [Act.put, List.setIfInBounds_toArray, List.set_cons_zero, List.set_cons_succ])
   go_cut [] (fun wc => ∃ (kq : Nat), Aside0 (laws_FnExactPrioWish.j1 kq l0 l1_0 a1_1 l1_2 a1_3 a2_0 a2_1 = some r) ∧ Aside0 (kq ≤ kj4) ∧ Aside0 (wc.heap[gb337]? = some (.cells #[(.slice A1_0 l1_0.length c1_0), .int .i64 a1_1, (.slice A1_2 l1_2.length c1_2), .int .i64 a1_3] 57 (0, 0))) ∧ Aside0 (wc.heap[gb338]? = some (.cells #[.int .i64 a2_0, .int .i64 a2_1] 65 (0, 0))) ∧ Aside0 (Below w.heap.size w wc))
   case first =>
    have H := HC10.out
    clear HC10
    by_cases c14 : t340 < 0
    ·rw [if_pos c14] at H
     have c14b0 : decide (t340 < 0) = true := decide_eq_true c14
     clear c14
     (first | rw [c14b0] | (simp only [i64_w, i32_w]; rw [c14b0]) | skip)
     obtain rfl := Option.some.inj H
     go_wp2
     go_ret
     exact ⟨S.eW, S.bG⟩
    ·rw [if_neg c14] at H
     have c14b0 : decide (t340 < 0) = false := decide_eq_false c14
     clear c14
     (first | rw [c14b0] | (simp only [i64_w, i32_w]; rw [c14b0]) | skip)
     have H' := Aside0.mk H
     clear H
     go_wp2
     go_meet
     case rel => exact ⟨_, H', ⟨by have := HJ4.out; first | omega | exact Nat.le_refl _⟩, ⟨S.uB BK337.out⟩, ⟨S.uB BK338.out⟩, ⟨S.bG⟩⟩
   case rest =>
    clear HC10
    try clear c1
    try clear p2
    try clear c3
    try clear c6
    try clear c8
    try clear c8b0
    try clear c11
    try clear c14
    try clear c14b0
    try clear hcz12_0
    try clear hcz12_1
    try clear hcz12_2
    try clear hcz12_3
    try clear hfz12_0
    try clear hfz12_1
    try clear hfz12_2
    try clear hfz12_3
    try clear p2
    obtain ⟨kq, HA, HJ9, BK337, BK338, HB⟩ := hcut
    cases kq with
    | zero => exact absurd HA.out (by simp [laws_FnExactPrioWish.j1])
    | succ kj9 =>
     have H := HA.out
     clear HA
     simp only [laws_FnExactPrioWish.j1] at H
     replace H := Option.bind_eq_some_iff.mp H
     obtain ⟨t341, A150, H⟩ := H
     replace H : ((laws_toControl.f kj9 l1_0 a1_1 l1_2 a1_3).bind fun bt344 => ((laws_toPrio.f a2_0 a2_1).bind fun bt352 => ((spec_PrioWish.f kj9 t341 bt344.1 bt344.2.1 bt344.2.2.1 bt344.2.2.2 bt352.1 bt352.2).bind fun t354 => ((laws_toPathS.f kj9 l0).bind fun t355 => ((laws_toControl.f kj9 l1_0 a1_1 l1_2 a1_3).bind fun bt358 => ((laws_toPrio.f a2_0 a2_1).bind fun bt367 => ((impl_PrioWish.f kj9 t355 bt358.1 bt358.2.1 bt358.2.2.1 bt358.2.2.2 bt367.1 bt367.2).bind fun t369 => (if t369.toList = t354.toList then (laws_FnExactPrioWish.j2 kj9 l0 t355 l1_0 a1_1 l1_2 a1_3 bt358.1 bt358.2.1 bt358.2.2.1 bt358.2.2.2) else (some false))))))))) = some r := H
     have A15 := Aside0.mk A150
     clear A150
     replace H := Option.bind_eq_some_iff.mp H
     obtain ⟨⟨t344, t347, t348, t351⟩, A160, H⟩ := H
     replace H : ((laws_toPrio.f a2_0 a2_1).bind fun bt352 => ((spec_PrioWish.f kj9 t341 t344 t347 t348 t351 bt352.1 bt352.2).bind fun t354 => ((laws_toPathS.f kj9 l0).bind fun t355 => ((laws_toControl.f kj9 l1_0 a1_1 l1_2 a1_3).bind fun bt358 => ((laws_toPrio.f a2_0 a2_1).bind fun bt367 => ((impl_PrioWish.f kj9 t355 bt358.1 bt358.2.1 bt358.2.2.1 bt358.2.2.2 bt367.1 bt367.2).bind fun t369 => (if t369.toList = t354.toList then (laws_FnExactPrioWish.j2 kj9 l0 t355 l1_0 a1_1 l1_2 a1_3 bt358.1 bt358.2.1 bt358.2.2.1 bt358.2.2.2) else (some false)))))))) = some r := H
     have A16 := Aside0.mk A160
     clear A160
     replace H := Option.bind_eq_some_iff.mp H
     obtain ⟨⟨t352, t353⟩, A170, H⟩ := H
     replace H : ((spec_PrioWish.f kj9 t341 t344 t347 t348 t351 t352 t353).bind fun t354 => ((laws_toPathS.f kj9 l0).bind fun t355 => ((laws_toControl.f kj9 l1_0 a1_1 l1_2 a1_3).bind fun bt358 => ((laws_toPrio.f a2_0 a2_1).bind fun bt367 => ((impl_PrioWish.f kj9 t355 bt358.1 bt358.2.1 bt358.2.2.1 bt358.2.2.2 bt367.1 bt367.2).bind fun t369 => (if t369.toList = t354.toList then (laws_FnExactPrioWish.j2 kj9 l0 t355 l1_0 a1_1 l1_2 a1_3 bt358.1 bt358.2.1 bt358.2.2.1 bt358.2.2.2) else (some false))))))) = some r := H
     have A17 := Aside0.mk A170
     clear A170
     replace H := Option.bind_eq_some_iff.mp H
     obtain ⟨t354, A180, H⟩ := H
     replace H : ((laws_toPathS.f kj9 l0).bind fun t355 => ((laws_toControl.f kj9 l1_0 a1_1 l1_2 a1_3).bind fun bt358 => ((laws_toPrio.f a2_0 a2_1).bind fun bt367 => ((impl_PrioWish.f kj9 t355 bt358.1 bt358.2.1 bt358.2.2.1 bt358.2.2.2 bt367.1 bt367.2).bind fun t369 => (if t369.toList = t354.toList then (laws_FnExactPrioWish.j2 kj9 l0 t355 l1_0 a1_1 l1_2 a1_3 bt358.1 bt358.2.1 bt358.2.2.1 bt358.2.2.2) else (some false)))))) = some r := H
     have A18 := Aside0.mk A180
     clear A180
     replace H := Option.bind_eq_some_iff.mp H
     obtain ⟨t355, A190, H⟩ := H
     replace H : ((laws_toControl.f kj9 l1_0 a1_1 l1_2 a1_3).bind fun bt358 => ((laws_toPrio.f a2_0 a2_1).bind fun bt367 => ((impl_PrioWish.f kj9 t355 bt358.1 bt358.2.1 bt358.2.2.1 bt358.2.2.2 bt367.1 bt367.2).bind fun t369 => (if t369.toList = t354.toList then (laws_FnExactPrioWish.j2 kj9 l0 t355 l1_0 a1_1 l1_2 a1_3 bt358.1 bt358.2.1 bt358.2.2.1 bt358.2.2.2) else (some false))))) = some r := H
     have A19 := Aside0.mk A190
     clear A190
     replace H := Option.bind_eq_some_iff.mp H
     obtain ⟨⟨t358, t361, t362, t365⟩, A200, H⟩ := H
     replace H : ((laws_toPrio.f a2_0 a2_1).bind fun bt367 => ((impl_PrioWish.f kj9 t355 t358 t361 t362 t365 bt367.1 bt367.2).bind fun t369 => (if t369.toList = t354.toList then (laws_FnExactPrioWish.j2 kj9 l0 t355 l1_0 a1_1 l1_2 a1_3 t358 t361 t362 t365) else (some false)))) = some r := H
     have A20 := Aside0.mk A200
     clear A200
     replace H := Option.bind_eq_some_iff.mp H
     obtain ⟨⟨t367, t368⟩, A210, H⟩ := H
     replace H : ((impl_PrioWish.f kj9 t355 t358 t361 t362 t365 t367 t368).bind fun t369 => (if t369.toList = t354.toList then (laws_FnExactPrioWish.j2 kj9 l0 t355 l1_0 a1_1 l1_2 a1_3 t358 t361 t362 t365) else (some false))) = some r := H
     have A21 := Aside0.mk A210
     clear A210
     replace H := Option.bind_eq_some_iff.mp H
     obtain ⟨t369, A220, H⟩ := H
     replace H : (if t369.toList = t354.toList then (laws_FnExactPrioWish.j2 kj9 l0 t355 l1_0 a1_1 l1_2 a1_3 t358 t361 t362 t365) else (some false)) = some r := H
     have A22 := Aside0.mk A220
     clear A220
     have HC23 := Aside0.mk H
     clear H
     try go_wp2
     have n0_ := Aside0.mk (blk_drew BK337.out)
     have n1_ := Aside0.mk (blk_drew BK338.out)
     have n2_ := Aside0.mk (below_drew1 HB.out)
     clear BK337
     clear BK338
     clear HB
     have BK337 := n0_
     have BK338 := n1_
     have HB := n2_
     clear n0_ n1_ n2_
     refine start_ (n := 8) (S := fun w' => w'.cell? ⟨gb337, 0, none⟩ = some (.slice A1_0 l1_0.length c1_0) ∧ w'.cell? ⟨gb337, 1, none⟩ = some (.int .i64 a1_1) ∧ w'.cell? ⟨gb337, 2, none⟩ = some (.slice A1_2 l1_2.length c1_2) ∧ w'.cell? ⟨gb337, 3, none⟩ = some (.int .i64 a1_3) ∧ w'.cell? ⟨gb338, 0, none⟩ = some (.int .i64 a2_0) ∧ w'.cell? ⟨gb338, 1, none⟩ = some (.int .i64 a2_1)) (ds := []) #[false, false, false, false, false, false, false, false] (by kernel_rfl) rfl rfl ⟨(blk_cell BK337.out 0).trans rfl, (blk_cell BK337.out 1).trans rfl, (blk_cell BK337.out 2).trans rfl, (blk_cell BK337.out 3).trans rfl, (blk_cell BK338.out 0).trans rfl, (blk_cell BK338.out 1).trans rfl⟩ (fun hHeld => ?_); refine with_tabW laws_FnExactPrioWish.tab8 laws_FnExactPrioWish.bits8 (fun HT_ HW_ => ?_)
     generalize wc.drew = w24 at BK337 BK338 HB hHeld ⊢
     refine S.pS 0 22 ?_
     refine take_ (i := 2) (N := some 24) (v := ?_) (a' := ?_) #[true, false, true, false, false, false, false, false] rfl rfl (take_ofW HT_.out HW_.out (by kernel_rfl)) (fun _ _ _ h => h) (Or.inl ⟨by rfl, ?_⟩) hHeld ?_ ?_
     rotate_left
     ·rintro w' ⟨s0, s1, s2, s3, s4, s5⟩
      go_simp
      with_reducible rfl
     rotate_left
     ·simp only [Act.put, List.setIfInBounds_toArray, List.set_cons_zero, List.set_cons_succ, i64_w, i32_w]
      rfl
     refine take_ (i := 4) (N := some 26) (v := ?_) (a' := ?_) #[true, false, true, false, true, false, false, false] rfl rfl (take_ofW HT_.out HW_.out (by kernel_rfl)) (fun _ _ _ h => h) (Or.inl ⟨by rfl, ?_⟩) hHeld ?_ ?_
     rotate_left
     ·rintro w' ⟨s0, s1, s2, s3, s4, s5⟩
      go_simp
      with_reducible rfl
     rotate_left
     ·simp only [Act.put, List.setIfInBounds_toArray, List.set_cons_zero, List.set_cons_succ, i64_w, i32_w]
      rfl
     refine one_ (i := 1) (N := some 23) #[true, true, true, false, true, false, false, false] rfl rfl (one_of HT_.out (by kernel_rfl)) (by decide) (fun K hK => ?_)
     refine goes_ Try.func14 (by kernel_rfl) rfl #[.slice A0 l0.length c0] (by rfl) rfl rfl (by (try simp only [List.map_toArray, List.map_cons, List.map_nil]); first | done | rfl | (simp only [List.length_drop, List.length_take]; rfl)) ?_
     with_reducible refine (laws_toPathS.calls kj9 _ _ l0 t341 _ ?side1 ?side2 A15.out).mono ?_
     (case side1 => exact S.cA HR0.out)
     (case side2 => exact HC0.out)
     rintro e w25 ⟨v342, rfl, ho0, hb⟩
     refine ⟨_, rfl, ?_⟩
     have n0_ := Aside0.mk (Kd.R_lower ho0 (below_size S.bG))
     have n1_ := Aside0.mk (blk_below (g := gb337) (o := .cells #[.slice A1_0 l1_0.length c1_0, .int .i64 a1_1, .slice A1_2 l1_2.length c1_2, .int .i64 a1_3] 57 (0, 0)) (S.uB BK337.out) hb)
     have n2_ := Aside0.mk (blk_below (g := gb338) (o := .cells #[.int .i64 a2_0, .int .i64 a2_1] 65 (0, 0)) (S.uB BK338.out) hb)
     have n3_ := Aside0.mk (below_step S.bG hb)
     clear BK337
     clear BK338
     clear HB
     have HO343 := n0_
     have BK337 := n1_
     have BK338 := n2_
     have HB := n3_
     clear n0_ n1_ n2_ n3_
     (try clear hb)
     (try clear hb2)
     (try clear hk)
     (try clear hi)
     (try clear ho0)
     refine hK.out _ _ ⟨(blk_cell BK337.out 0).trans rfl, (blk_cell BK337.out 1).trans rfl, (blk_cell BK337.out 2).trans rfl, (blk_cell BK337.out 3).trans rfl, (blk_cell BK338.out 0).trans rfl, (blk_cell BK338.out 1).trans rfl⟩ (fun hHeld => ?_)
     clear hK K
     refine norm_ (a' := ?_) ?_ ?_
     rotate_left
     ·show Act.put _ (some 23) _ = _
      simp only [Act.put, List.setIfInBounds_toArray, List.set_cons_zero, List.set_cons_succ, i64_w, i32_w]
      rfl
     refine one_ (i := 3) (N := some 25) #[true, true, true, true, true, false, false, false] rfl rfl (one_of HT_.out (by kernel_rfl)) (by decide) (fun K hK => ?_)
     refine goes_ Try.func35 (by kernel_rfl) rfl #[.agg #[.slice A1_0 l1_0.length c1_0, .int .i64 a1_1, .slice A1_2 l1_2.length c1_2, .int .i64 a1_3]] (by rfl) rfl rfl (by (try simp only [List.map_toArray, List.map_cons, List.map_nil]); first | done | rfl | (simp only [List.length_drop, List.length_take]; rfl)) ?_
     with_reducible refine (laws_toControl.calls kj9 _ _ l1_0 a1_1 _ _ l1_2 a1_3 t344 t347 t348 t351 _ ?side1 ?side2 ?side3 ?side4 A16.out).mono ?_
     (case side1 => exact S.cA HR1_0.out)
     (case side2 => exact HC1_0.out)
     (case side3 => exact S.cA HR1_2.out)
     (case side4 => exact HC1_2.out)
     rintro e w26 ⟨v345, v349, rfl, ho0, ho1, hb⟩
     refine ⟨_, rfl, ?_⟩
     have n0_ := Aside0.mk (Kd.R_below (S.uR HO343.out) hb)
     have n1_ := Aside0.mk (Kd.R_lower ho0 (below_size S.bG))
     have n2_ := Aside0.mk (Kd.R_lower ho1 (below_size S.bG))
     have n3_ := Aside0.mk (blk_below (g := gb337) (o := .cells #[.slice A1_0 l1_0.length c1_0, .int .i64 a1_1, .slice A1_2 l1_2.length c1_2, .int .i64 a1_3] 57 (0, 0)) (S.uB BK337.out) hb)
     have n4_ := Aside0.mk (blk_below (g := gb338) (o := .cells #[.int .i64 a2_0, .int .i64 a2_1] 65 (0, 0)) (S.uB BK338.out) hb)
     have n5_ := Aside0.mk (below_step S.bG hb)
     clear HO343
     clear BK337
     clear BK338
     clear HB
     have HO343 := n0_
     have HO346 := n1_
     have HO350 := n2_
     have BK337 := n3_
     have BK338 := n4_
     have HB := n5_
     clear n0_ n1_ n2_ n3_ n4_ n5_
     (try clear hb)
     (try clear hb2)
     (try clear hk)
     (try clear hi)
     (try clear ho0)
     (try clear ho1)
     refine hK.out _ _ ⟨(blk_cell BK337.out 0).trans rfl, (blk_cell BK337.out 1).trans rfl, (blk_cell BK337.out 2).trans rfl, (blk_cell BK337.out 3).trans rfl, (blk_cell BK338.out 0).trans rfl, (blk_cell BK338.out 1).trans rfl⟩ (fun hHeld => ?_)
     clear hK K
     refine norm_ (a' := ?_) ?_ ?_
     rotate_left
     ·show Act.put _ (some 25) _ = _
      simp only [Act.put, List.setIfInBounds_toArray, List.set_cons_zero, List.set_cons_succ, i64_w, i32_w]
      rfl
     refine one_ (i := 5) (N := some 27) #[true, true, true, true, true, true, false, false] rfl rfl (one_of HT_.out (by kernel_rfl)) (by decide) (fun K hK => ?_)
     refine goes_ Try.func39 (by kernel_rfl) rfl #[.agg #[.int .i64 a2_0, .int .i64 a2_1]] (by rfl) rfl rfl (by (try simp only [List.map_toArray, List.map_cons, List.map_nil]); first | done | rfl | (simp only [List.length_drop, List.length_take]; rfl)) ?_
     with_reducible refine (laws_toPrio.calls a2_0 a2_1 t352 t353 _ A17.out).mono ?_
     rintro e w27 ⟨rfl, hb⟩
     refine ⟨_, rfl, ?_⟩
     have n0_ := Aside0.mk (Kd.R_below (S.uR HO343.out) hb)
     have n1_ := Aside0.mk (Kd.R_below (S.uR HO346.out) hb)
     have n2_ := Aside0.mk (Kd.R_below (S.uR HO350.out) hb)
     have n3_ := Aside0.mk (blk_below (g := gb337) (o := .cells #[.slice A1_0 l1_0.length c1_0, .int .i64 a1_1, .slice A1_2 l1_2.length c1_2, .int .i64 a1_3] 57 (0, 0)) (S.uB BK337.out) hb)
     have n4_ := Aside0.mk (blk_below (g := gb338) (o := .cells #[.int .i64 a2_0, .int .i64 a2_1] 65 (0, 0)) (S.uB BK338.out) hb)
     have n5_ := Aside0.mk (below_step S.bG hb)
     clear HO343
     clear HO346
     clear HO350
     clear BK337
     clear BK338
     clear HB
     have HO343 := n0_
     have HO346 := n1_
     have HO350 := n2_
     have BK337 := n3_
     have BK338 := n4_
     have HB := n5_
     clear n0_ n1_ n2_ n3_ n4_ n5_
     (try clear hb)
     (try clear hb2)
     (try clear hk)
     (try clear hi)
     obtain ⟨Ao28, co28, eo28⟩ := Kd.R_slice HO343.out
     (first | subst eo28 | (injection eo28 with f1_ f2_ f3_; have f4_ := f1_.symm; have f5_ := f3_.symm; clear f1_ f2_ f3_; subst f4_; subst f5_))
     obtain ⟨Ao29, co29, eo29⟩ := Kd.R_slice HO346.out
     (first | subst eo29 | (injection eo29 with f1_ f2_ f3_; have f4_ := f1_.symm; have f5_ := f3_.symm; clear f1_ f2_ f3_; subst f4_; subst f5_))
     obtain ⟨Ao30, co30, eo30⟩ := Kd.R_slice HO350.out
     (first | subst eo30 | (injection eo30 with f1_ f2_ f3_; have f4_ := f1_.symm; have f5_ := f3_.symm; clear f1_ f2_ f3_; subst f4_; subst f5_))
     refine hK.out _ _ ⟨(blk_cell BK337.out 0).trans rfl, (blk_cell BK337.out 1).trans rfl, (blk_cell BK337.out 2).trans rfl, (blk_cell BK337.out 3).trans rfl, (blk_cell BK338.out 0).trans rfl, (blk_cell BK338.out 1).trans rfl⟩ (fun hHeld => ?_)
     clear hK K
     refine norm_ (a' := ?_) ?_ ?_
     rotate_left
     ·show Act.put _ (some 27) _ = _
      simp only [Act.put, List.setIfInBounds_toArray, List.set_cons_zero, List.set_cons_succ, i64_w, i32_w]
      rfl
     refine one_ (i := 6) (N := some 28) #[true, true, true, true, true, true, true, false] rfl rfl (one_of HT_.out (by kernel_rfl)) (by decide) (fun K hK => ?_)
     refine goes_ Try.func38 (by kernel_rfl) rfl #[.slice Ao28 t341.length co28, .agg #[.slice Ao29 t344.length co29, .int .i64 t347, .slice Ao30 t348.length co30, .int .i64 t351], .agg #[.int .i64 t352, .int .i64 t353]] (by rfl) rfl rfl (by (try simp only [List.map_toArray, List.map_cons, List.map_nil]); first | done | rfl | (simp only [List.length_drop, List.length_take]; rfl)) ?_
     with_reducible refine (spec_PrioWish.calls kj9 _ _ t341 _ _ t344 t347 _ _ t348 t351 t352 t353 t354 _ ?side1 ?side2 ?side3 ?side4 ?side5 ?side6 A18.out).mono ?_
     (case side1 => repeat (first | exact (Kd.R_reads' HO343.out).2.2 | (with_reducible refine Kd.C_alloc ?_ _) | (with_reducible refine Kd.C_drewN ?_ _) | (with_reducible refine Kd.C_drew ?_)))
     (case side2 => exact (Kd.R_reads' HO343.out).2.1)
     (case side3 => repeat (first | exact (Kd.R_reads' HO346.out).2.2 | (with_reducible refine Kd.C_alloc ?_ _) | (with_reducible refine Kd.C_drewN ?_ _) | (with_reducible refine Kd.C_drew ?_)))
     (case side4 => exact (Kd.R_reads' HO346.out).2.1)
     (case side5 => repeat (first | exact (Kd.R_reads' HO350.out).2.2 | (with_reducible refine Kd.C_alloc ?_ _) | (with_reducible refine Kd.C_drewN ?_ _) | (with_reducible refine Kd.C_drew ?_)))
     (case side6 => exact (Kd.R_reads' HO350.out).2.1)
     rintro e w31 ⟨rfl, hb⟩
     refine ⟨_, rfl, ?_⟩
     have n0_ := Aside0.mk (Kd.R_below (S.uR HO343.out) hb)
     have n1_ := Aside0.mk (Kd.R_below (S.uR HO346.out) hb)
     have n2_ := Aside0.mk (Kd.R_below (S.uR HO350.out) hb)
     have n3_ := Aside0.mk (blk_below (g := gb337) (o := .cells #[.slice A1_0 l1_0.length c1_0, .int .i64 a1_1, .slice A1_2 l1_2.length c1_2, .int .i64 a1_3] 57 (0, 0)) (S.uB BK337.out) hb)
     have n4_ := Aside0.mk (blk_below (g := gb338) (o := .cells #[.int .i64 a2_0, .int .i64 a2_1] 65 (0, 0)) (S.uB BK338.out) hb)
     have n5_ := Aside0.mk (below_step S.bG hb)
     clear HO343
     clear HO346
     clear HO350
     clear BK337
     clear BK338
     clear HB
     have HO343 := n0_
     have HO346 := n1_
     have HO350 := n2_
     have BK337 := n3_
     have BK338 := n4_
     have HB := n5_
     clear n0_ n1_ n2_ n3_ n4_ n5_
     (try clear hb)
     (try clear hb2)
     (try clear hk)
     (try clear hi)
     refine hK.out _ _ ⟨(blk_cell BK337.out 0).trans rfl, (blk_cell BK337.out 1).trans rfl, (blk_cell BK337.out 2).trans rfl, (blk_cell BK337.out 3).trans rfl, (blk_cell BK338.out 0).trans rfl, (blk_cell BK338.out 1).trans rfl⟩ (fun hHeld => ?_)
     clear hK K
     refine norm_ (a' := ?_) ?_ ?_
     rotate_left
     ·show Act.put _ (some 28) _ = _
      simp only [Act.put, List.setIfInBounds_toArray, List.set_cons_zero, List.set_cons_succ, i64_w, i32_w]
      rfl
     refine S.pS 7 8 ?_
     refine done_ (done_of HT_.out (by kernel_rfl)) ?_
     try go_wp2_with (first | ((with_reducible refine gate_callee (f := 14) rfl ?_); refine S.gL (some 30) Try.func14 #[.slice A0 l0.length c0] ?_; (with_reducible refine (laws_toPathS.calls kj9 _ _ l0 t355 _ ?side1 ?side2 A19.out).mono ?_); (case side1 => exact S.cA HR0.out); (case side2 => exact HC0.out); rintro e w32 ⟨v356, rfl, ho0, hb⟩; refine ⟨_, rfl, ?_⟩; have n0_ := Aside0.mk (Kd.R_elder' (S.uR HO343.out) (Kd.R_base ho0) hb); have n1_ := Aside0.mk (Kd.R_below (S.uR HO346.out) hb); have n2_ := Aside0.mk (Kd.R_below (S.uR HO350.out) hb); have n3_ := Aside0.mk (Kd.R_lower (Kd.R_new' ho0 (Kd.R_lt (S.uR HO343.out))) (below_size S.bG)); have n4_ := Aside0.mk (blk_below (g := gb337) (o := .cells #[.slice A1_0 l1_0.length c1_0, .int .i64 a1_1, .slice A1_2 l1_2.length c1_2, .int .i64 a1_3] 57 (0, 0)) (S.uB BK337.out) hb); have n5_ := Aside0.mk (blk_below (g := gb338) (o := .cells #[.int .i64 a2_0, .int .i64 a2_1] 65 (0, 0)) (S.uB BK338.out) hb); have n6_ := Aside0.mk (below_step S.bG hb); clear HO343; clear HO346; clear HO350; clear BK337; clear BK338; clear HB; have HO343 := n0_; have HO346 := n1_; have HO350 := n2_; have HO357 := n3_; have BK337 := n4_; have BK338 := n5_; have HB := n6_; clear n0_ n1_ n2_ n3_ n4_ n5_ n6_; (try clear hb); (try clear hb2); (try clear hk); (try clear hi); (try clear ho0); have hnb33 := NB337_338.out; have hnc33 := NB338_337.out; have hcz34_0 : w32.cell? ⟨gb337, 0, none⟩ = some (.slice A1_0 l1_0.length c1_0) := (blk_cell BK337.out 0).trans rfl; have hcz34_1 : w32.cell? ⟨gb337, 1, none⟩ = some (.int .i64 a1_1) := (blk_cell BK337.out 1).trans rfl; have hcz34_2 : w32.cell? ⟨gb337, 2, none⟩ = some (.slice A1_2 l1_2.length c1_2) := (blk_cell BK337.out 2).trans rfl; have hcz34_3 : w32.cell? ⟨gb337, 3, none⟩ = some (.int .i64 a1_3) := (blk_cell BK337.out 3).trans rfl; have hfz34_0 := blk_frozen BK337.out 0; have hfz34_1 := blk_frozen BK337.out 1; have hfz34_2 := blk_frozen BK337.out 2; have hfz34_3 := blk_frozen BK337.out 3) | ((with_reducible refine gate_callee (f := 35) rfl ?_); refine S.gL (some 32) Try.func35 #[.agg #[.slice A1_0 l1_0.length c1_0, .int .i64 a1_1, .slice A1_2 l1_2.length c1_2, .int .i64 a1_3]] ?_; (with_reducible refine (laws_toControl.calls kj9 _ _ l1_0 a1_1 _ _ l1_2 a1_3 t358 t361 t362 t365 _ ?side1 ?side2 ?side3 ?side4 A20.out).mono ?_); (case side1 => exact S.cA HR1_0.out); (case side2 => exact HC1_0.out); (case side3 => exact S.cA HR1_2.out); (case side4 => exact HC1_2.out); rintro e w35 ⟨v359, v363, rfl, ho0, ho1, hb⟩; refine ⟨_, rfl, ?_⟩; have n0_ := Aside0.mk (Kd.R_below (S.uR HO343.out) hb); have n1_ := Aside0.mk (Kd.R_mono (Kd.R_told (Kd.R_told (Kd.R_old (S.uR HO346.out) hb) (Kd.R_base ho0)) (Kd.R_base ho1)) (fun _ h_ => h_.1)); have n2_ := Aside0.mk (Kd.R_mono (Kd.R_told (Kd.R_told (Kd.R_old (S.uR HO350.out) hb) (Kd.R_base ho0)) (Kd.R_base ho1)) (fun _ h_ => h_.1)); have n3_ := Aside0.mk (Kd.R_below (S.uR HO357.out) hb); have n4_ := Aside0.mk (Kd.R_lower (Kd.R_new' (Kd.R_new' ho0 (Kd.R_lt (S.uR HO346.out))) (Kd.R_lt (S.uR HO350.out))) (below_size S.bG)); have n5_ := Aside0.mk (Kd.R_lower (Kd.R_new' (Kd.R_new' ho1 (Kd.R_lt (S.uR HO346.out))) (Kd.R_lt (S.uR HO350.out))) (below_size S.bG)); have n6_ := Aside0.mk (blk_below (g := gb337) (o := .cells #[.slice A1_0 l1_0.length c1_0, .int .i64 a1_1, .slice A1_2 l1_2.length c1_2, .int .i64 a1_3] 57 (0, 0)) (S.uB BK337.out) hb); have n7_ := Aside0.mk (blk_below (g := gb338) (o := .cells #[.int .i64 a2_0, .int .i64 a2_1] 65 (0, 0)) (S.uB BK338.out) hb); have n8_ := Aside0.mk (below_step S.bG hb); clear HO343; clear HO346; clear HO350; clear HO357; clear BK337; clear BK338; clear HB; have HO343 := n0_; have HO346 := n1_; have HO350 := n2_; have HO357 := n3_; have HO360 := n4_; have HO364 := n5_; have BK337 := n6_; have BK338 := n7_; have HB := n8_; clear n0_ n1_ n2_ n3_ n4_ n5_ n6_ n7_ n8_; (try clear hb); (try clear hb2); (try clear hk); (try clear hi); (try clear ho0); (try clear ho1)) | ((with_reducible refine gate_dst (N := 10) rfl ?_); refine box_event ?hg (N := 10) ?hd (cs := #[.slice none 0 0, .int .i64 0, .slice none 0 0, .int .i64 0]) (t := 60) ?hr ?_; (case hd => rfl); (case hg => rfl); (case hr => first | (go_simp; done) | (go_simp; rfl)); intro gb366 hg w36 hbox hb; have n0_ := Aside0.mk (Kd.R_below (S.uR HO343.out) hb); have n1_ := Aside0.mk (Kd.R_below (S.uR HO346.out) hb); have n2_ := Aside0.mk (Kd.R_below (S.uR HO350.out) hb); have n3_ := Aside0.mk (Kd.R_below (S.uR HO357.out) hb); have n4_ := Aside0.mk (Kd.R_below (S.uR HO360.out) hb); have n5_ := Aside0.mk (Kd.R_below (S.uR HO364.out) hb); have n6_ := Aside0.mk (blk_below (g := gb337) (o := .cells #[.slice A1_0 l1_0.length c1_0, .int .i64 a1_1, .slice A1_2 l1_2.length c1_2, .int .i64 a1_3] 57 (0, 0)) (S.uB BK337.out) hb); have n7_ := Aside0.mk (blk_below (g := gb338) (o := .cells #[.int .i64 a2_0, .int .i64 a2_1] 65 (0, 0)) (S.uB BK338.out) hb); have n8_ := Aside0.mk (below_step S.bG hb); have n9_ := Aside0.mk (hbox); have n10_ := Aside0.mk ((by rw [hg]; exact (below_size S.bG) : w.heap.size ≤ gb366)); have n11_ := Aside0.mk ((by rw [hg]; exact (below_size S.bG) : w.heap.size ≤ gb366)); have n12_ := Aside0.mk ((by rw [hg]; exact Nat.ne_of_lt (blk_lt (g := gb337) (o := .cells #[.slice A1_0 l1_0.length c1_0, .int .i64 a1_1, .slice A1_2 l1_2.length c1_2, .int .i64 a1_3] 57 (0, 0)) (S.uB BK337.out)) : gb337 ≠ gb366)); have n13_ := Aside0.mk ((by rw [hg]; exact Nat.ne_of_gt (blk_lt (g := gb337) (o := .cells #[.slice A1_0 l1_0.length c1_0, .int .i64 a1_1, .slice A1_2 l1_2.length c1_2, .int .i64 a1_3] 57 (0, 0)) (S.uB BK337.out)) : gb366 ≠ gb337)); have n14_ := Aside0.mk ((by rw [hg]; exact Nat.ne_of_lt (blk_lt (g := gb338) (o := .cells #[.int .i64 a2_0, .int .i64 a2_1] 65 (0, 0)) (S.uB BK338.out)) : gb338 ≠ gb366)); have n15_ := Aside0.mk ((by rw [hg]; exact Nat.ne_of_gt (blk_lt (g := gb338) (o := .cells #[.int .i64 a2_0, .int .i64 a2_1] 65 (0, 0)) (S.uB BK338.out)) : gb366 ≠ gb338)); clear HO343; clear HO346; clear HO350; clear HO357; clear HO360; clear HO364; clear BK337; clear BK338; clear HB; have HO343 := n0_; have HO346 := n1_; have HO350 := n2_; have HO357 := n3_; have HO360 := n4_; have HO364 := n5_; have BK337 := n6_; have BK338 := n7_; have HB := n8_; have BK366 := n9_; have GW366 := n10_; have GE366 := n11_; have NB337_366 := n12_; have NB366_337 := n13_; have NB338_366 := n14_; have NB366_338 := n15_; clear n0_ n1_ n2_ n3_ n4_ n5_ n6_ n7_ n8_ n9_ n10_ n11_ n12_ n13_ n14_ n15_; clear hb hbox hg; obtain ⟨Ao37, co37, eo37⟩ := Kd.R_slice HO360.out; subst eo37; have hnb38 := NB366_337.out; have hnc38 := NB337_366.out; have hnb39 := NB366_338.out; have hnc39 := NB338_366.out; have hcz40_0 : w36.cell? ⟨gb366, 0, none⟩ = some (.slice none 0 0) := (blk_cell BK366.out 0).trans rfl; have hcz40_1 : w36.cell? ⟨gb366, 1, none⟩ = some (.int .i64 0) := (blk_cell BK366.out 1).trans rfl; have hcz40_2 : w36.cell? ⟨gb366, 2, none⟩ = some (.slice none 0 0) := (blk_cell BK366.out 2).trans rfl; have hcz40_3 : w36.cell? ⟨gb366, 3, none⟩ = some (.int .i64 0) := (blk_cell BK366.out 3).trans rfl; have hfz40_0 := blk_frozen BK366.out 0; have hfz40_1 := blk_frozen BK366.out 1; have hfz40_2 := blk_frozen BK366.out 2; have hfz40_3 := blk_frozen BK366.out 3; obtain ⟨Ao41, co41, eo41⟩ := Kd.R_slice HO364.out; subst eo41))
     have n0_ : Aside0 (Kd.R k52 52 ((((w36.setCell ⟨gb366, 0, none⟩ (.slice Ao37 t358.length co37)).setCell ⟨gb366, 1, none⟩ (.int .i64 t361)).setCell ⟨gb366, 2, none⟩ (.slice Ao41 t362.length co41)).setCell ⟨gb366, 3, none⟩ (.int .i64 t365)) w.heap.size (fun k_ => some k_ ≠ (v356 : Value).ownBlock) (.slice Ao28 t341.length co28) t341) := ⟨by (with_reducible repeat (first | apply Kd.R_alloc | apply Kd.R_drewN | apply Kd.R_drew)); exact Kd.R_mono (Kd.R_far (p := ⟨gb366, 3, none⟩) (Kd.R_far (p := ⟨gb366, 2, none⟩) (Kd.R_far (p := ⟨gb366, 1, none⟩) (Kd.R_far (p := ⟨gb366, 0, none⟩) (Kd.R_types HO343.out BK366.out (by decide)) (fun _ hk => hk.2) (.slice Ao37 t358.length co37)) (fun _ hk => hk.2) (.int .i64 t361)) (fun _ hk => hk.2) (.slice Ao41 t362.length co41)) (fun _ hk => hk.2) (.int .i64 t365)) (fun _ hk => hk.1.2)⟩
     have n1_ : Aside0 (Kd.R (Kd.int .i64) 3 ((((w36.setCell ⟨gb366, 0, none⟩ (.slice Ao37 t358.length co37)).setCell ⟨gb366, 1, none⟩ (.int .i64 t361)).setCell ⟨gb366, 2, none⟩ (.slice Ao41 t362.length co41)).setCell ⟨gb366, 3, none⟩ (.int .i64 t365)) w.heap.size (fun k_ => some k_ ≠ (.slice Ao30 t348.length co30 : Value).ownBlock ∧ some k_ ≠ (.slice Ao37 t358.length co37 : Value).ownBlock ∧ some k_ ≠ (.slice Ao41 t362.length co41 : Value).ownBlock) (.slice Ao29 t344.length co29) t344) := ⟨by (with_reducible repeat (first | apply Kd.R_alloc | apply Kd.R_drewN | apply Kd.R_drew)); exact Kd.R_mono (Kd.R_far (p := ⟨gb366, 3, none⟩) (Kd.R_far (p := ⟨gb366, 2, none⟩) (Kd.R_far (p := ⟨gb366, 1, none⟩) (Kd.R_far (p := ⟨gb366, 0, none⟩) (Kd.R_types HO346.out BK366.out (by decide)) (fun _ hk => hk.2) (.slice Ao37 t358.length co37)) (fun _ hk => hk.2) (.int .i64 t361)) (fun _ hk => hk.2) (.slice Ao41 t362.length co41)) (fun _ hk => hk.2) (.int .i64 t365)) (fun _ hk => ⟨hk.1.1.1, ⟨hk.1.1.2, hk.1.2⟩⟩)⟩
     have n2_ : Aside0 (Kd.R (Kd.int .i64) 3 ((((w36.setCell ⟨gb366, 0, none⟩ (.slice Ao37 t358.length co37)).setCell ⟨gb366, 1, none⟩ (.int .i64 t361)).setCell ⟨gb366, 2, none⟩ (.slice Ao41 t362.length co41)).setCell ⟨gb366, 3, none⟩ (.int .i64 t365)) w.heap.size (fun k_ => some k_ ≠ (.slice Ao29 t344.length co29 : Value).ownBlock ∧ some k_ ≠ (.slice Ao37 t358.length co37 : Value).ownBlock ∧ some k_ ≠ (.slice Ao41 t362.length co41 : Value).ownBlock) (.slice Ao30 t348.length co30) t348) := ⟨by (with_reducible repeat (first | apply Kd.R_alloc | apply Kd.R_drewN | apply Kd.R_drew)); exact Kd.R_mono (Kd.R_far (p := ⟨gb366, 3, none⟩) (Kd.R_far (p := ⟨gb366, 2, none⟩) (Kd.R_far (p := ⟨gb366, 1, none⟩) (Kd.R_far (p := ⟨gb366, 0, none⟩) (Kd.R_types HO350.out BK366.out (by decide)) (fun _ hk => hk.2) (.slice Ao37 t358.length co37)) (fun _ hk => hk.2) (.int .i64 t361)) (fun _ hk => hk.2) (.slice Ao41 t362.length co41)) (fun _ hk => hk.2) (.int .i64 t365)) (fun _ hk => ⟨hk.1.1.1, ⟨hk.1.1.2, hk.1.2⟩⟩)⟩
     have n3_ : Aside0 (Kd.R k52 52 ((((w36.setCell ⟨gb366, 0, none⟩ (.slice Ao37 t358.length co37)).setCell ⟨gb366, 1, none⟩ (.int .i64 t361)).setCell ⟨gb366, 2, none⟩ (.slice Ao41 t362.length co41)).setCell ⟨gb366, 3, none⟩ (.int .i64 t365)) w.heap.size (fun k_ => some k_ ≠ (.slice Ao28 t341.length co28 : Value).ownBlock) v356 t355) := ⟨by (with_reducible repeat (first | apply Kd.R_alloc | apply Kd.R_drewN | apply Kd.R_drew)); exact Kd.R_mono (Kd.R_far (p := ⟨gb366, 3, none⟩) (Kd.R_far (p := ⟨gb366, 2, none⟩) (Kd.R_far (p := ⟨gb366, 1, none⟩) (Kd.R_far (p := ⟨gb366, 0, none⟩) (Kd.R_types HO357.out BK366.out (by decide)) (fun _ hk => hk.2) (.slice Ao37 t358.length co37)) (fun _ hk => hk.2) (.int .i64 t361)) (fun _ hk => hk.2) (.slice Ao41 t362.length co41)) (fun _ hk => hk.2) (.int .i64 t365)) (fun _ hk => hk.1.2)⟩
     have n4_ : Aside0 (Kd.R (Kd.int .i64) 3 ((((w36.setCell ⟨gb366, 0, none⟩ (.slice Ao37 t358.length co37)).setCell ⟨gb366, 1, none⟩ (.int .i64 t361)).setCell ⟨gb366, 2, none⟩ (.slice Ao41 t362.length co41)).setCell ⟨gb366, 3, none⟩ (.int .i64 t365)) w.heap.size (fun k_ => some k_ ≠ (.slice Ao29 t344.length co29 : Value).ownBlock ∧ some k_ ≠ (.slice Ao30 t348.length co30 : Value).ownBlock ∧ some k_ ≠ (.slice Ao41 t362.length co41 : Value).ownBlock) (.slice Ao37 t358.length co37) t358) := ⟨by (with_reducible repeat (first | apply Kd.R_alloc | apply Kd.R_drewN | apply Kd.R_drew)); exact Kd.R_mono (Kd.R_far (p := ⟨gb366, 3, none⟩) (Kd.R_far (p := ⟨gb366, 2, none⟩) (Kd.R_far (p := ⟨gb366, 1, none⟩) (Kd.R_far (p := ⟨gb366, 0, none⟩) (Kd.R_types HO360.out BK366.out (by decide)) (fun _ hk => hk.2) (.slice Ao37 t358.length co37)) (fun _ hk => hk.2) (.int .i64 t361)) (fun _ hk => hk.2) (.slice Ao41 t362.length co41)) (fun _ hk => hk.2) (.int .i64 t365)) (fun _ hk => ⟨hk.1.1.2, ⟨hk.1.2, hk.1.1.1⟩⟩)⟩
     have n5_ : Aside0 (Kd.R (Kd.int .i64) 3 ((((w36.setCell ⟨gb366, 0, none⟩ (.slice Ao37 t358.length co37)).setCell ⟨gb366, 1, none⟩ (.int .i64 t361)).setCell ⟨gb366, 2, none⟩ (.slice Ao41 t362.length co41)).setCell ⟨gb366, 3, none⟩ (.int .i64 t365)) w.heap.size (fun k_ => some k_ ≠ (.slice Ao29 t344.length co29 : Value).ownBlock ∧ some k_ ≠ (.slice Ao30 t348.length co30 : Value).ownBlock ∧ some k_ ≠ (.slice Ao37 t358.length co37 : Value).ownBlock) (.slice Ao41 t362.length co41) t362) := ⟨by (with_reducible repeat (first | apply Kd.R_alloc | apply Kd.R_drewN | apply Kd.R_drew)); exact Kd.R_mono (Kd.R_far (p := ⟨gb366, 3, none⟩) (Kd.R_far (p := ⟨gb366, 2, none⟩) (Kd.R_far (p := ⟨gb366, 1, none⟩) (Kd.R_far (p := ⟨gb366, 0, none⟩) (Kd.R_types HO364.out BK366.out (by decide)) (fun _ hk => hk.2) (.slice Ao37 t358.length co37)) (fun _ hk => hk.2) (.int .i64 t361)) (fun _ hk => hk.2) (.slice Ao41 t362.length co41)) (fun _ hk => hk.2) (.int .i64 t365)) (fun _ hk => ⟨hk.1.1.2, ⟨hk.1.2, hk.1.1.1⟩⟩)⟩
     have n6_ : Aside0 (((((w36.setCell ⟨gb366, 0, none⟩ (.slice Ao37 t358.length co37)).setCell ⟨gb366, 1, none⟩ (.int .i64 t361)).setCell ⟨gb366, 2, none⟩ (.slice Ao41 t362.length co41)).setCell ⟨gb366, 3, none⟩ (.int .i64 t365)).heap[gb337]? = some (.cells #[.slice A1_0 l1_0.length c1_0, .int .i64 a1_1, .slice A1_2 l1_2.length c1_2, .int .i64 a1_3] 57 (0, 0))) := ⟨by (with_reducible repeat (first | refine blk_drewN ?_ _ | refine blk_drew ?_ | refine blk_alloc ?_ _)); refine blk_far ?_ NB337_366.out _; (with_reducible repeat (first | refine blk_drewN ?_ _ | refine blk_drew ?_ | refine blk_alloc ?_ _)); refine blk_far ?_ NB337_366.out _; (with_reducible repeat (first | refine blk_drewN ?_ _ | refine blk_drew ?_ | refine blk_alloc ?_ _)); refine blk_far ?_ NB337_366.out _; (with_reducible repeat (first | refine blk_drewN ?_ _ | refine blk_drew ?_ | refine blk_alloc ?_ _)); refine blk_far ?_ NB337_366.out _; (with_reducible repeat (first | refine blk_drewN ?_ _ | refine blk_drew ?_ | refine blk_alloc ?_ _)); exact BK337.out⟩
     have n7_ : Aside0 (((((w36.setCell ⟨gb366, 0, none⟩ (.slice Ao37 t358.length co37)).setCell ⟨gb366, 1, none⟩ (.int .i64 t361)).setCell ⟨gb366, 2, none⟩ (.slice Ao41 t362.length co41)).setCell ⟨gb366, 3, none⟩ (.int .i64 t365)).heap[gb338]? = some (.cells #[.int .i64 a2_0, .int .i64 a2_1] 65 (0, 0))) := ⟨by (with_reducible repeat (first | refine blk_drewN ?_ _ | refine blk_drew ?_ | refine blk_alloc ?_ _)); refine blk_far ?_ NB338_366.out _; (with_reducible repeat (first | refine blk_drewN ?_ _ | refine blk_drew ?_ | refine blk_alloc ?_ _)); refine blk_far ?_ NB338_366.out _; (with_reducible repeat (first | refine blk_drewN ?_ _ | refine blk_drew ?_ | refine blk_alloc ?_ _)); refine blk_far ?_ NB338_366.out _; (with_reducible repeat (first | refine blk_drewN ?_ _ | refine blk_drew ?_ | refine blk_alloc ?_ _)); refine blk_far ?_ NB338_366.out _; (with_reducible repeat (first | refine blk_drewN ?_ _ | refine blk_drew ?_ | refine blk_alloc ?_ _)); exact BK338.out⟩
     have n8_ : Aside0 (((((w36.setCell ⟨gb366, 0, none⟩ (.slice Ao37 t358.length co37)).setCell ⟨gb366, 1, none⟩ (.int .i64 t361)).setCell ⟨gb366, 2, none⟩ (.slice Ao41 t362.length co41)).setCell ⟨gb366, 3, none⟩ (.int .i64 t365)).heap[gb366]? = some (.cells #[.slice Ao37 t358.length co37, .int .i64 t361, .slice Ao41 t362.length co41, .int .i64 t365] 60 (0, 0))) := ⟨by (with_reducible repeat (first | refine blk_drewN ?_ _ | refine blk_drew ?_ | refine blk_alloc ?_ _)); refine blk_put (cs := #[.slice Ao37 t358.length co37, .int .i64 t361, .slice Ao41 t362.length co41, .int .i64 0]) ?_ 3 _ rfl; (with_reducible repeat (first | refine blk_drewN ?_ _ | refine blk_drew ?_ | refine blk_alloc ?_ _)); refine blk_put (cs := #[.slice Ao37 t358.length co37, .int .i64 t361, .slice none 0 0, .int .i64 0]) ?_ 2 _ rfl; (with_reducible repeat (first | refine blk_drewN ?_ _ | refine blk_drew ?_ | refine blk_alloc ?_ _)); refine blk_put (cs := #[.slice Ao37 t358.length co37, .int .i64 0, .slice none 0 0, .int .i64 0]) ?_ 1 _ rfl; (with_reducible repeat (first | refine blk_drewN ?_ _ | refine blk_drew ?_ | refine blk_alloc ?_ _)); refine blk_put (cs := #[.slice none 0 0, .int .i64 0, .slice none 0 0, .int .i64 0]) ?_ 0 _ rfl; (with_reducible repeat (first | refine blk_drewN ?_ _ | refine blk_drew ?_ | refine blk_alloc ?_ _)); exact BK366.out⟩
     have n9_ : Aside0 (Below w.heap.size w ((((w36.setCell ⟨gb366, 0, none⟩ (.slice Ao37 t358.length co37)).setCell ⟨gb366, 1, none⟩ (.int .i64 t361)).setCell ⟨gb366, 2, none⟩ (.slice Ao41 t362.length co41)).setCell ⟨gb366, 3, none⟩ (.int .i64 t365))) := ⟨S.bG⟩
     (try clear HO343)
     (try clear HO346)
     (try clear HO350)
     (try clear HO357)
     (try clear HO360)
     (try clear HO364)
     (try clear BK337)
     (try clear BK338)
     (try clear BK366)
     (try clear HB)
     generalize ((((w36.setCell ⟨gb366, 0, none⟩ (.slice Ao37 t358.length co37)).setCell ⟨gb366, 1, none⟩ (.int .i64 t361)).setCell ⟨gb366, 2, none⟩ (.slice Ao41 t362.length co41)).setCell ⟨gb366, 3, none⟩ (.int .i64 t365)) = w42 at n0_ n1_ n2_ n3_ n4_ n5_ n6_ n7_ n8_ n9_ ⊢
     have HO343 := n0_
     have HO346 := n1_
     have HO350 := n2_
     have HO357 := n3_
     have HO360 := n4_
     have HO364 := n5_
     have BK337 := n6_
     have BK338 := n7_
     have BK366 := n8_
     have HB := n9_
     clear n0_ n1_ n2_ n3_ n4_ n5_ n6_ n7_ n8_ n9_
     have n0_ := Aside0.mk (Kd.R_drew HO343.out)
     have n1_ := Aside0.mk (Kd.R_drew HO346.out)
     have n2_ := Aside0.mk (Kd.R_drew HO350.out)
     have n3_ := Aside0.mk (Kd.R_drew HO357.out)
     have n4_ := Aside0.mk (Kd.R_drew HO360.out)
     have n5_ := Aside0.mk (Kd.R_drew HO364.out)
     have n6_ := Aside0.mk (blk_drew BK337.out)
     have n7_ := Aside0.mk (blk_drew BK338.out)
     have n8_ := Aside0.mk (blk_drew BK366.out)
     have n9_ := Aside0.mk (below_drew1 HB.out)
     clear HO343
     clear HO346
     clear HO350
     clear HO357
     clear HO360
     clear HO364
     clear BK337
     clear BK338
     clear BK366
     clear HB
     have HO343 := n0_
     have HO346 := n1_
     have HO350 := n2_
     have HO357 := n3_
     have HO360 := n4_
     have HO364 := n5_
     have BK337 := n6_
     have BK338 := n7_
     have BK366 := n8_
     have HB := n9_
     clear n0_ n1_ n2_ n3_ n4_ n5_ n6_ n7_ n8_ n9_
     refine start_ (n := 6) (S := fun w' => w'.cell? ⟨gb366, 0, none⟩ = some (.slice Ao37 t358.length co37) ∧ w'.cell? ⟨gb366, 1, none⟩ = some (.int .i64 t361) ∧ w'.cell? ⟨gb366, 2, none⟩ = some (.slice Ao41 t362.length co41) ∧ w'.cell? ⟨gb366, 3, none⟩ = some (.int .i64 t365) ∧ w'.cell? ⟨gb338, 0, none⟩ = some (.int .i64 a2_0) ∧ w'.cell? ⟨gb338, 1, none⟩ = some (.int .i64 a2_1)) (ds := []) #[false, false, false, false, false, false] (by kernel_rfl) rfl rfl ⟨(blk_cell BK366.out 0).trans rfl, (blk_cell BK366.out 1).trans rfl, (blk_cell BK366.out 2).trans rfl, (blk_cell BK366.out 3).trans rfl, (blk_cell BK338.out 0).trans rfl, (blk_cell BK338.out 1).trans rfl⟩ (fun hHeld => ?_)
     generalize w42.drew = w43 at HO343 HO346 HO350 HO357 HO360 HO364 BK337 BK338 BK366 HB hHeld ⊢
     refine pure_ (i := 0) (N := some 33) (v := ?_) (a' := ?_) #[true, false, false, false, false, false] rfl rfl (by kernel_rfl) (fun _ _ _ h => h) (Or.inl ⟨by rfl, ?_⟩) ?_ ?_
     rotate_left
     ·intro w'
      go_simp
      with_reducible rfl
     rotate_left
     ·simp only [Act.put, List.setIfInBounds_toArray, List.set_cons_zero, List.set_cons_succ, i64_w, i32_w]
      rfl
     refine take_ (i := 1) (N := some 34) (v := ?_) (a' := ?_) #[true, true, false, false, false, false] rfl rfl (by kernel_rfl) (fun _ _ _ h => h) (Or.inl ⟨by rfl, ?_⟩) hHeld ?_ ?_
     rotate_left
     ·rintro w' ⟨s0, s1, s2, s3, s4, s5⟩
      go_simp
      with_reducible rfl
     rotate_left
     ·simp only [Act.put, List.setIfInBounds_toArray, List.set_cons_zero, List.set_cons_succ, i64_w, i32_w]
      rfl
     refine take_ (i := 2) (N := some 35) (v := ?_) (a' := ?_) #[true, true, true, false, false, false] rfl rfl (by kernel_rfl) (fun _ _ _ h => h) (Or.inl ⟨by rfl, ?_⟩) hHeld ?_ ?_
     rotate_left
     ·rintro w' ⟨s0, s1, s2, s3, s4, s5⟩
      go_simp
      with_reducible rfl
     rotate_left
     ·simp only [Act.put, List.setIfInBounds_toArray, List.set_cons_zero, List.set_cons_succ, i64_w, i32_w]
      rfl
     refine one_ (i := 3) (N := some 36) #[true, true, true, true, false, false] rfl rfl (by kernel_rfl) (by decide) (fun K hK => ?_)
     refine goes_ Try.func39 (by kernel_rfl) rfl #[.agg #[.int .i64 a2_0, .int .i64 a2_1]] (by rfl) rfl rfl (by (try simp only [List.map_toArray, List.map_cons, List.map_nil]); first | done | rfl | (simp only [List.length_drop, List.length_take]; rfl)) ?_
     with_reducible refine (laws_toPrio.calls a2_0 a2_1 t367 t368 _ A21.out).mono ?_
     rintro e w44 ⟨rfl, hb⟩
     refine ⟨_, rfl, ?_⟩
     have n0_ := Aside0.mk (Kd.R_below (S.uR HO343.out) hb)
     have n1_ := Aside0.mk (Kd.R_below (S.uR HO346.out) hb)
     have n2_ := Aside0.mk (Kd.R_below (S.uR HO350.out) hb)
     have n3_ := Aside0.mk (Kd.R_below (S.uR HO357.out) hb)
     have n4_ := Aside0.mk (Kd.R_below (S.uR HO360.out) hb)
     have n5_ := Aside0.mk (Kd.R_below (S.uR HO364.out) hb)
     have n6_ := Aside0.mk (blk_below (g := gb337) (o := .cells #[.slice A1_0 l1_0.length c1_0, .int .i64 a1_1, .slice A1_2 l1_2.length c1_2, .int .i64 a1_3] 57 (0, 0)) (S.uB BK337.out) hb)
     have n7_ := Aside0.mk (blk_below (g := gb338) (o := .cells #[.int .i64 a2_0, .int .i64 a2_1] 65 (0, 0)) (S.uB BK338.out) hb)
     have n8_ := Aside0.mk (blk_below (g := gb366) (o := .cells #[.slice Ao37 t358.length co37, .int .i64 t361, .slice Ao41 t362.length co41, .int .i64 t365] 60 (0, 0)) (S.uB BK366.out) hb)
     have n9_ := Aside0.mk (below_step S.bG hb)
     clear HO343
     clear HO346
     clear HO350
     clear HO357
     clear HO360
     clear HO364
     clear BK337
     clear BK338
     clear BK366
     clear HB
     have HO343 := n0_
     have HO346 := n1_
     have HO350 := n2_
     have HO357 := n3_
     have HO360 := n4_
     have HO364 := n5_
     have BK337 := n6_
     have BK338 := n7_
     have BK366 := n8_
     have HB := n9_
     clear n0_ n1_ n2_ n3_ n4_ n5_ n6_ n7_ n8_ n9_
     (try clear hb)
     (try clear hb2)
     (try clear hk)
     (try clear hi)
     obtain ⟨Ao45, co45, eo45⟩ := Kd.R_slice HO357.out
     (first | subst eo45 | (injection eo45 with f1_ f2_ f3_; have f4_ := f1_.symm; have f5_ := f3_.symm; clear f1_ f2_ f3_; subst f4_; subst f5_))
     refine hK.out _ _ ⟨(blk_cell BK366.out 0).trans rfl, (blk_cell BK366.out 1).trans rfl, (blk_cell BK366.out 2).trans rfl, (blk_cell BK366.out 3).trans rfl, (blk_cell BK338.out 0).trans rfl, (blk_cell BK338.out 1).trans rfl⟩ (fun hHeld => ?_)
     clear hK K
     refine norm_ (a' := ?_) ?_ ?_
     rotate_left
     ·show Act.put _ (some 36) _ = _
      simp only [Act.put, List.setIfInBounds_toArray, List.set_cons_zero, List.set_cons_succ, i64_w, i32_w]
      rfl
     refine one_ (i := 4) (N := some 37) #[true, true, true, true, true, false] rfl rfl (by kernel_rfl) (by decide) (fun K hK => ?_)
     refine goes_ Try.func40 (by kernel_rfl) rfl #[.slice Ao45 t355.length co45, .agg #[.slice Ao37 t358.length co37, .int .i64 t361, .slice Ao41 t362.length co41, .int .i64 t365], .agg #[.int .i64 t367, .int .i64 t368]] (by rfl) rfl rfl (by (try simp only [List.map_toArray, List.map_cons, List.map_nil]); first | done | rfl | (simp only [List.length_drop, List.length_take]; rfl)) ?_
     with_reducible refine (impl_PrioWish.calls kj9 _ _ t355 _ _ t358 t361 _ _ t362 t365 t367 t368 t369 _ ?side1 ?side2 ?side3 ?side4 ?side5 ?side6 A22.out).mono ?_
     (case side1 => repeat (first | exact (Kd.R_reads' HO357.out).2.2 | (with_reducible refine Kd.C_alloc ?_ _) | (with_reducible refine Kd.C_drewN ?_ _) | (with_reducible refine Kd.C_drew ?_)))
     (case side2 => exact (Kd.R_reads' HO357.out).2.1)
     (case side3 => repeat (first | exact (Kd.R_reads' HO360.out).2.2 | (with_reducible refine Kd.C_alloc ?_ _) | (with_reducible refine Kd.C_drewN ?_ _) | (with_reducible refine Kd.C_drew ?_)))
     (case side4 => exact (Kd.R_reads' HO360.out).2.1)
     (case side5 => repeat (first | exact (Kd.R_reads' HO364.out).2.2 | (with_reducible refine Kd.C_alloc ?_ _) | (with_reducible refine Kd.C_drewN ?_ _) | (with_reducible refine Kd.C_drew ?_)))
     (case side6 => exact (Kd.R_reads' HO364.out).2.1)
     rintro e w46 ⟨rfl, hb⟩
     refine ⟨_, rfl, ?_⟩
     have n0_ := Aside0.mk (Kd.R_below (S.uR HO343.out) hb)
     have n1_ := Aside0.mk (Kd.R_below (S.uR HO346.out) hb)
     have n2_ := Aside0.mk (Kd.R_below (S.uR HO350.out) hb)
     have n3_ := Aside0.mk (Kd.R_below (S.uR HO357.out) hb)
     have n4_ := Aside0.mk (Kd.R_below (S.uR HO360.out) hb)
     have n5_ := Aside0.mk (Kd.R_below (S.uR HO364.out) hb)
     have n6_ := Aside0.mk (blk_below (g := gb337) (o := .cells #[.slice A1_0 l1_0.length c1_0, .int .i64 a1_1, .slice A1_2 l1_2.length c1_2, .int .i64 a1_3] 57 (0, 0)) (S.uB BK337.out) hb)
     have n7_ := Aside0.mk (blk_below (g := gb338) (o := .cells #[.int .i64 a2_0, .int .i64 a2_1] 65 (0, 0)) (S.uB BK338.out) hb)
     have n8_ := Aside0.mk (blk_below (g := gb366) (o := .cells #[.slice Ao37 t358.length co37, .int .i64 t361, .slice Ao41 t362.length co41, .int .i64 t365] 60 (0, 0)) (S.uB BK366.out) hb)
     have n9_ := Aside0.mk (below_step S.bG hb)
     clear HO343
     clear HO346
     clear HO350
     clear HO357
     clear HO360
     clear HO364
     clear BK337
     clear BK338
     clear BK366
     clear HB
     have HO343 := n0_
     have HO346 := n1_
     have HO350 := n2_
     have HO357 := n3_
     have HO360 := n4_
     have HO364 := n5_
     have BK337 := n6_
     have BK338 := n7_
     have BK366 := n8_
     have HB := n9_
     clear n0_ n1_ n2_ n3_ n4_ n5_ n6_ n7_ n8_ n9_
     (try clear hb)
     (try clear hb2)
     (try clear hk)
     (try clear hi)
     refine hK.out _ _ ⟨(blk_cell BK366.out 0).trans rfl, (blk_cell BK366.out 1).trans rfl, (blk_cell BK366.out 2).trans rfl, (blk_cell BK366.out 3).trans rfl, (blk_cell BK338.out 0).trans rfl, (blk_cell BK338.out 1).trans rfl⟩ (fun hHeld => ?_)
     clear hK K
     refine norm_ (a' := ?_) ?_ ?_
     rotate_left
     ·show Act.put _ (some 37) _ = _
      simp only [Act.put, List.setIfInBounds_toArray, List.set_cons_zero, List.set_cons_succ, i64_w, i32_w]
      rfl
     refine pure_ (i := 5) (N := some 11) (v := ?_) (a' := ?_) #[true, true, true, true, true, true] rfl rfl (by kernel_rfl) (fun _ _ _ h => h) (Or.inl ⟨by rfl, ?_⟩) ?_ ?_
     rotate_left
     ·intro w'
      go_simp
      with_reducible rfl
     rotate_left
     ·simp only [Act.put, List.setIfInBounds_toArray, List.set_cons_zero, List.set_cons_succ, i64_w, i32_w]
      rfl
     refine done_ (by kernel_rfl) ?_
     go_upto_if 40 with (fail)
     go_cut [] (fun wc => ∃ (kq : Nat), Aside0 (laws_FnExactPrioWish.j2 kq l0 t355 l1_0 a1_1 l1_2 a1_3 t358 t361 t362 t365 = some r) ∧ Aside0 (kq ≤ kj9) ∧ Aside0 (Kd.R k52 52 wc w.heap.size (fun _ => True) (.slice Ao45 t355.length co45) t355) ∧ Aside0 (Kd.R (Kd.int .i64) 3 wc w.heap.size (fun k_ => some k_ ≠ ((.slice Ao41 t362.length co41) : Value).ownBlock) (.slice Ao37 t358.length co37) t358) ∧ Aside0 (Kd.R (Kd.int .i64) 3 wc w.heap.size (fun k_ => some k_ ≠ ((.slice Ao37 t358.length co37) : Value).ownBlock) (.slice Ao41 t362.length co41) t362) ∧ Aside0 (wc.heap[gb337]? = some (.cells #[(.slice A1_0 l1_0.length c1_0), .int .i64 a1_1, (.slice A1_2 l1_2.length c1_2), .int .i64 a1_3] 57 (0, 0))) ∧ Aside0 (wc.heap[gb338]? = some (.cells #[.int .i64 a2_0, .int .i64 a2_1] 65 (0, 0))) ∧ Aside0 (wc.heap[gb366]? = some (.cells #[(.slice Ao37 t358.length co37), .int .i64 t361, (.slice Ao41 t362.length co41), .int .i64 t365] 60 (0, 0))) ∧ Aside0 (Below w.heap.size w wc))
     case first =>
      have H := HC23.out
      clear HC23
      by_cases c47 : t369.toList = t354.toList
      ·rw [if_pos c47] at H
       have c47b0 : (t369.toList == t354.toList) = true := beq_iff_eq.mpr c47
       have c47b1 : (t369.toList != t354.toList) = false := bne_eq_false_iff_eq.mpr c47
       clear c47
       (first | rw [c47b0] | (simp only [i64_w, i32_w]; rw [c47b0]) | skip)
       have H' := Aside0.mk H
       clear H
       go_wp2
       go_meet
       case rel => exact ⟨_, H', ⟨by have := HJ4.out; have := HJ9.out; first | omega | exact Nat.le_refl _⟩, ⟨by (with_reducible repeat (first | apply Kd.R_alloc | apply Kd.R_drewN | apply Kd.R_drew)); exact Kd.R_mono HO357.out (fun _ hk => trivial)⟩, ⟨by (with_reducible repeat (first | apply Kd.R_alloc | apply Kd.R_drewN | apply Kd.R_drew)); exact Kd.R_mono HO360.out (fun _ hk => hk.2.2)⟩, ⟨by (with_reducible repeat (first | apply Kd.R_alloc | apply Kd.R_drewN | apply Kd.R_drew)); exact Kd.R_mono HO364.out (fun _ hk => hk.2.2)⟩, ⟨S.uB BK337.out⟩, ⟨S.uB BK338.out⟩, ⟨S.uB BK366.out⟩, ⟨S.bG⟩⟩
      ·rw [if_neg c47] at H
       have c47b0 : (t369.toList == t354.toList) = false := beq_eq_false_iff_ne.mpr c47
       have c47b1 : (t369.toList != t354.toList) = true := bne_iff_ne.mpr c47
       (first | rw [c47b0] | (simp only [i64_w, i32_w]; rw [c47b0]) | skip)
       obtain rfl := Option.some.inj H
       go_wp2
       go_ret
       exact ⟨S.eW, S.bG⟩
     case rest =>
      clear HC23
      try clear c1
      try clear p2
      try clear c3
      try clear c4
      try clear c6
      try clear c8
      try clear c8b0
      try clear c11
      try clear c14
      try clear c14b0
      try clear c33
      try clear c35
      try clear c38
      try clear c39
      try clear c40
      try clear c47
      try clear c47b0
      try clear c47b1
      try clear hcz12_0
      try clear hcz12_1
      try clear hcz12_2
      try clear hcz12_3
      try clear hcz34_0
      try clear hcz34_1
      try clear hcz34_2
      try clear hcz34_3
      try clear hcz40_0
      try clear hcz40_1
      try clear hcz40_2
      try clear hcz40_3
      try clear hfz12_0
      try clear hfz12_1
      try clear hfz12_2
      try clear hfz12_3
      try clear hfz34_0
      try clear hfz34_1
      try clear hfz34_2
      try clear hfz34_3
      try clear hfz40_0
      try clear hfz40_1
      try clear hfz40_2
      try clear hfz40_3
      try clear p2
      obtain ⟨kq, HA, HJ22, HO_9, HO_367000, HO_367002, BK337, BK338, BK366, HB⟩ := hcut
      cases kq with
      | zero => exact absurd HA.out (by simp [laws_FnExactPrioWish.j2])
      | succ kj22 =>
       have H := HA.out
       clear HA
       simp only [laws_FnExactPrioWish.j2] at H
       replace H := Option.bind_eq_some_iff.mp H
       obtain ⟨t370, A480, H⟩ := H
       replace H : ((laws_eqPathS.f kj22 t355 t370).bind fun t373 => (if t373 = true then (laws_FnExactPrioWish.j3 kj22 l1_0 a1_1 l1_2 a1_3 t358 t361 t362 t365) else (some false))) = some r := H
       have A48 := Aside0.mk A480
       clear A480
       replace H := Option.bind_eq_some_iff.mp H
       obtain ⟨t373, A490, H⟩ := H
       replace H : (if t373 = true then (laws_FnExactPrioWish.j3 kj22 l1_0 a1_1 l1_2 a1_3 t358 t361 t362 t365) else (some false)) = some r := H
       have A49 := Aside0.mk A490
       clear A490
       have HC50 := Aside0.mk H
       clear H
       go_upto_if 45 with (first | ((with_reducible refine gate_callee (f := 14) rfl ?_); refine S.gL (some 43) Try.func14 #[.slice A0 l0.length c0] ?_; (with_reducible refine (laws_toPathS.calls kj22 _ _ l0 t370 _ ?side1 ?side2 A48.out).mono ?_); (case side1 => exact S.cA HR0.out); (case side2 => exact HC0.out); rintro e w51 ⟨v371, rfl, ho0, hb⟩; refine ⟨_, rfl, ?_⟩; have n0_ := Aside0.mk (Kd.R_elder' (S.uR HO_9.out) (Kd.R_base ho0) hb); have n1_ := Aside0.mk (Kd.R_below (S.uR HO_367000.out) hb); have n2_ := Aside0.mk (Kd.R_below (S.uR HO_367002.out) hb); have n3_ := Aside0.mk (Kd.R_lower (Kd.R_new' ho0 (Kd.R_lt (S.uR HO_9.out))) (below_size S.bG)); have n4_ := Aside0.mk (blk_below (g := gb337) (o := .cells #[.slice A1_0 l1_0.length c1_0, .int .i64 a1_1, .slice A1_2 l1_2.length c1_2, .int .i64 a1_3] 57 (0, 0)) (S.uB BK337.out) hb); have n5_ := Aside0.mk (blk_below (g := gb338) (o := .cells #[.int .i64 a2_0, .int .i64 a2_1] 65 (0, 0)) (S.uB BK338.out) hb); have n6_ := Aside0.mk (blk_below (g := gb366) (o := .cells #[.slice Ao37 t358.length co37, .int .i64 t361, .slice Ao41 t362.length co41, .int .i64 t365] 60 (0, 0)) (S.uB BK366.out) hb); have n7_ := Aside0.mk (below_step S.bG hb); clear HO_9; clear HO_367000; clear HO_367002; clear BK337; clear BK338; clear BK366; clear HB; have HO_9 := n0_; have HO_367000 := n1_; have HO_367002 := n2_; have HO372 := n3_; have BK337 := n4_; have BK338 := n5_; have BK366 := n6_; have HB := n7_; clear n0_ n1_ n2_ n3_ n4_ n5_ n6_ n7_; (try clear hb); (try clear hb2); (try clear hk); (try clear hi); (try clear ho0); obtain ⟨Ao52, co52, eo52⟩ := Kd.R_slice HO372.out; subst eo52) | ((with_reducible refine gate_callee (f := 19) rfl ?_); refine S.gL (some 44) Try.func19 #[.slice Ao45 t355.length co45, .slice Ao52 t370.length co52] ?_; (with_reducible refine (laws_eqPathS.calls kj22 _ _ t355 _ _ t370 t373 _ ?side1 ?side2 ?side3 ?side4 A49.out).mono ?_); (case side1 => repeat (first | exact (Kd.R_reads' HO_9.out).2.2 | (with_reducible refine Kd.C_alloc ?_ _) | (with_reducible refine Kd.C_drewN ?_ _) | (with_reducible refine Kd.C_drew ?_))); (case side2 => exact (Kd.R_reads' HO_9.out).2.1); (case side3 => repeat (first | exact (Kd.R_reads' HO372.out).2.2 | (with_reducible refine Kd.C_alloc ?_ _) | (with_reducible refine Kd.C_drewN ?_ _) | (with_reducible refine Kd.C_drew ?_))); (case side4 => exact (Kd.R_reads' HO372.out).2.1); rintro e w53 ⟨rfl, hb⟩; refine ⟨_, rfl, ?_⟩; have n0_ := Aside0.mk (Kd.R_below (S.uR HO_9.out) hb); have n1_ := Aside0.mk (Kd.R_below (S.uR HO_367000.out) hb); have n2_ := Aside0.mk (Kd.R_below (S.uR HO_367002.out) hb); have n3_ := Aside0.mk (Kd.R_below (S.uR HO372.out) hb); have n4_ := Aside0.mk (blk_below (g := gb337) (o := .cells #[.slice A1_0 l1_0.length c1_0, .int .i64 a1_1, .slice A1_2 l1_2.length c1_2, .int .i64 a1_3] 57 (0, 0)) (S.uB BK337.out) hb); have n5_ := Aside0.mk (blk_below (g := gb338) (o := .cells #[.int .i64 a2_0, .int .i64 a2_1] 65 (0, 0)) (S.uB BK338.out) hb); have n6_ := Aside0.mk (blk_below (g := gb366) (o := .cells #[.slice Ao37 t358.length co37, .int .i64 t361, .slice Ao41 t362.length co41, .int .i64 t365] 60 (0, 0)) (S.uB BK366.out) hb); have n7_ := Aside0.mk (below_step S.bG hb); clear HO_9; clear HO_367000; clear HO_367002; clear HO372; clear BK337; clear BK338; clear BK366; clear HB; have HO_9 := n0_; have HO_367000 := n1_; have HO_367002 := n2_; have HO372 := n3_; have BK337 := n4_; have BK338 := n5_; have BK366 := n6_; have HB := n7_; clear n0_ n1_ n2_ n3_ n4_ n5_ n6_ n7_; (try clear hb); (try clear hb2); (try clear hk); (try clear hi)))
       (try simp only [Act.put, List.setIfInBounds_toArray, List.set_cons_zero, List.set_cons_succ])
       go_cut [] (fun wc => ∃ (kq : Nat), Aside0 (laws_FnExactPrioWish.j3 kq l1_0 a1_1 l1_2 a1_3 t358 t361 t362 t365 = some r) ∧ Aside0 (kq ≤ kj22) ∧ Aside0 (Kd.R (Kd.int .i64) 3 wc w.heap.size (fun k_ => some k_ ≠ ((.slice Ao41 t362.length co41) : Value).ownBlock) (.slice Ao37 t358.length co37) t358) ∧ Aside0 (Kd.R (Kd.int .i64) 3 wc w.heap.size (fun k_ => some k_ ≠ ((.slice Ao37 t358.length co37) : Value).ownBlock) (.slice Ao41 t362.length co41) t362) ∧ Aside0 (wc.heap[gb337]? = some (.cells #[(.slice A1_0 l1_0.length c1_0), .int .i64 a1_1, (.slice A1_2 l1_2.length c1_2), .int .i64 a1_3] 57 (0, 0))) ∧ Aside0 (wc.heap[gb338]? = some (.cells #[.int .i64 a2_0, .int .i64 a2_1] 65 (0, 0))) ∧ Aside0 (wc.heap[gb366]? = some (.cells #[(.slice Ao37 t358.length co37), .int .i64 t361, (.slice Ao41 t362.length co41), .int .i64 t365] 60 (0, 0))) ∧ Aside0 (Below w.heap.size w wc))
       case first =>
        have H := HC50.out
        clear HC50
        by_cases c54 : t373 = true
        ·subst c54
         have H1 : (laws_FnExactPrioWish.j3 kj22 l1_0 a1_1 l1_2 a1_3 t358 t361 t362 t365) = some r := by rw [if_pos rfl] at H; exact H
         clear H
         have H := H1
         clear H1
         have H' := Aside0.mk H
         clear H
         go_wp2
         go_meet
         case rel => exact ⟨_, H', ⟨by have := HJ4.out; have := HJ9.out; have := HJ22.out; first | omega | exact Nat.le_refl _⟩, ⟨S.uR HO_367000.out⟩, ⟨S.uR HO_367002.out⟩, ⟨S.uB BK337.out⟩, ⟨S.uB BK338.out⟩, ⟨S.uB BK366.out⟩, ⟨S.bG⟩⟩
        ·replace c54 := Bool.eq_false_iff.mpr c54
         subst c54
         have H1 : (some false) = some r := by rw [if_neg (show ¬ (false = true) by decide)] at H; exact H
         clear H
         have H := H1
         clear H1
         obtain rfl := Option.some.inj H
         go_wp2
         go_ret
         exact ⟨S.eW, S.bG⟩
       case rest =>
        clear HC50
        try clear c1
        try clear p2
        try clear c3
        try clear c4
        try clear c5
        try clear c6
        try clear c8
        try clear c8b0
        try clear c11
        try clear c14
        try clear c14b0
        try clear c19
        try clear c33
        try clear c35
        try clear c38
        try clear c39
        try clear c40
        try clear c47
        try clear c47b0
        try clear c47b1
        try clear c54
        try clear hcz12_0
        try clear hcz12_1
        try clear hcz12_2
        try clear hcz12_3
        try clear hcz34_0
        try clear hcz34_1
        try clear hcz34_2
        try clear hcz34_3
        try clear hcz40_0
        try clear hcz40_1
        try clear hcz40_2
        try clear hcz40_3
        try clear hfz12_0
        try clear hfz12_1
        try clear hfz12_2
        try clear hfz12_3
        try clear hfz34_0
        try clear hfz34_1
        try clear hfz34_2
        try clear hfz34_3
        try clear hfz40_0
        try clear hfz40_1
        try clear hfz40_2
        try clear hfz40_3
        try clear p2
        obtain ⟨kq, HA, HJ49, HO_367000, HO_367002, BK337, BK338, BK366, HB⟩ := hcut
        cases kq with
        | zero => exact absurd HA.out (by simp [laws_FnExactPrioWish.j3])
        | succ kj49 =>
         have H := HA.out
         clear HA
         simp only [laws_FnExactPrioWish.j3] at H
         replace H := Option.bind_eq_some_iff.mp H
         obtain ⟨⟨t374, t377, t378, t381⟩, A550, H⟩ := H
         replace H : ((laws_eqControl.f kj49 t358 t361 t362 t365 t374 t377 t378 t381).bind fun t382 => (if t382 = true then (some true) else (some false))) = some r := H
         have A55 := Aside0.mk A550
         clear A550
         replace H := Option.bind_eq_some_iff.mp H
         obtain ⟨t382, A560, H⟩ := H
         replace H : (if t382 = true then (some true) else (some false)) = some r := H
         have A56 := Aside0.mk A560
         clear A560
         by_cases c57 : t382 = true
         ·subst c57
          have H1 : (some true) = some r := by rw [if_pos rfl] at H; exact H
          clear H
          have H := H1
          clear H1
          obtain rfl := Option.some.inj H
          try go_wp2
          have n0_ := Aside0.mk (Kd.R_drew HO_367000.out)
          have n1_ := Aside0.mk (Kd.R_drew HO_367002.out)
          have n2_ := Aside0.mk (blk_drew BK337.out)
          have n3_ := Aside0.mk (blk_drew BK338.out)
          have n4_ := Aside0.mk (blk_drew BK366.out)
          have n5_ := Aside0.mk (below_drew1 HB.out)
          clear HO_367000
          clear HO_367002
          clear BK337
          clear BK338
          clear BK366
          clear HB
          have HO_367000 := n0_
          have HO_367002 := n1_
          have BK337 := n2_
          have BK338 := n3_
          have BK366 := n4_
          have HB := n5_
          clear n0_ n1_ n2_ n3_ n4_ n5_
          refine start_ (n := 5) (S := fun w' => w'.cell? ⟨gb366, 0, none⟩ = some (.slice Ao37 t358.length co37) ∧ w'.cell? ⟨gb366, 1, none⟩ = some (.int .i64 t361) ∧ w'.cell? ⟨gb366, 2, none⟩ = some (.slice Ao41 t362.length co41) ∧ w'.cell? ⟨gb366, 3, none⟩ = some (.int .i64 t365) ∧ w'.cell? ⟨gb337, 0, none⟩ = some (.slice A1_0 l1_0.length c1_0) ∧ w'.cell? ⟨gb337, 1, none⟩ = some (.int .i64 a1_1) ∧ w'.cell? ⟨gb337, 2, none⟩ = some (.slice A1_2 l1_2.length c1_2) ∧ w'.cell? ⟨gb337, 3, none⟩ = some (.int .i64 a1_3)) (ds := []) #[false, false, false, false, false] (by kernel_rfl) rfl rfl ⟨(blk_cell BK366.out 0).trans rfl, (blk_cell BK366.out 1).trans rfl, (blk_cell BK366.out 2).trans rfl, (blk_cell BK366.out 3).trans rfl, (blk_cell BK337.out 0).trans rfl, (blk_cell BK337.out 1).trans rfl, (blk_cell BK337.out 2).trans rfl, (blk_cell BK337.out 3).trans rfl⟩ (fun hHeld => ?_)
          generalize wc.drew = w58 at HO_367000 HO_367002 BK337 BK338 BK366 HB hHeld ⊢
          refine take_ (i := 0) (N := some 46) (v := ?_) (a' := ?_) #[true, false, false, false, false] rfl rfl (by kernel_rfl) (fun _ _ _ h => h) (Or.inl ⟨by rfl, ?_⟩) hHeld ?_ ?_
          rotate_left
          ·rintro w' ⟨s0, s1, s2, s3, s4, s5, s6, s7⟩
           go_simp
           with_reducible rfl
          rotate_left
          ·simp only [Act.put, List.setIfInBounds_toArray, List.set_cons_zero, List.set_cons_succ, i64_w, i32_w]
           rfl
          refine take_ (i := 1) (N := some 47) (v := ?_) (a' := ?_) #[true, true, false, false, false] rfl rfl (by kernel_rfl) (fun _ _ _ h => h) (Or.inl ⟨by rfl, ?_⟩) hHeld ?_ ?_
          rotate_left
          ·rintro w' ⟨s0, s1, s2, s3, s4, s5, s6, s7⟩
           go_simp
           with_reducible rfl
          rotate_left
          ·simp only [Act.put, List.setIfInBounds_toArray, List.set_cons_zero, List.set_cons_succ, i64_w, i32_w]
           rfl
          refine one_ (i := 2) (N := some 48) #[true, true, true, false, false] rfl rfl (by kernel_rfl) (by decide) (fun K hK => ?_)
          refine goes_ Try.func35 (by kernel_rfl) rfl #[.agg #[.slice A1_0 l1_0.length c1_0, .int .i64 a1_1, .slice A1_2 l1_2.length c1_2, .int .i64 a1_3]] (by rfl) rfl rfl (by (try simp only [List.map_toArray, List.map_cons, List.map_nil]); first | done | rfl | (simp only [List.length_drop, List.length_take]; rfl)) ?_
          with_reducible refine (laws_toControl.calls kj49 _ _ l1_0 a1_1 _ _ l1_2 a1_3 t374 t377 t378 t381 _ ?side1 ?side2 ?side3 ?side4 A55.out).mono ?_
          (case side1 => exact S.cA HR1_0.out)
          (case side2 => exact HC1_0.out)
          (case side3 => exact S.cA HR1_2.out)
          (case side4 => exact HC1_2.out)
          rintro e w59 ⟨v375, v379, rfl, ho0, ho1, hb⟩
          refine ⟨_, rfl, ?_⟩
          have n0_ := Aside0.mk (Kd.R_mono (Kd.R_told (Kd.R_told (Kd.R_old (S.uR HO_367000.out) hb) (Kd.R_base ho0)) (Kd.R_base ho1)) (fun _ h_ => h_.1))
          have n1_ := Aside0.mk (Kd.R_mono (Kd.R_told (Kd.R_told (Kd.R_old (S.uR HO_367002.out) hb) (Kd.R_base ho0)) (Kd.R_base ho1)) (fun _ h_ => h_.1))
          have n2_ := Aside0.mk (Kd.R_lower (Kd.R_new' (Kd.R_new' ho0 (Kd.R_lt (S.uR HO_367000.out))) (Kd.R_lt (S.uR HO_367002.out))) (below_size S.bG))
          have n3_ := Aside0.mk (Kd.R_lower (Kd.R_new' (Kd.R_new' ho1 (Kd.R_lt (S.uR HO_367000.out))) (Kd.R_lt (S.uR HO_367002.out))) (below_size S.bG))
          have n4_ := Aside0.mk (blk_below (g := gb337) (o := .cells #[.slice A1_0 l1_0.length c1_0, .int .i64 a1_1, .slice A1_2 l1_2.length c1_2, .int .i64 a1_3] 57 (0, 0)) (S.uB BK337.out) hb)
          have n5_ := Aside0.mk (blk_below (g := gb338) (o := .cells #[.int .i64 a2_0, .int .i64 a2_1] 65 (0, 0)) (S.uB BK338.out) hb)
          have n6_ := Aside0.mk (blk_below (g := gb366) (o := .cells #[.slice Ao37 t358.length co37, .int .i64 t361, .slice Ao41 t362.length co41, .int .i64 t365] 60 (0, 0)) (S.uB BK366.out) hb)
          have n7_ := Aside0.mk (below_step S.bG hb)
          clear HO_367000
          clear HO_367002
          clear BK337
          clear BK338
          clear BK366
          clear HB
          have HO_367000 := n0_
          have HO_367002 := n1_
          have HO376 := n2_
          have HO380 := n3_
          have BK337 := n4_
          have BK338 := n5_
          have BK366 := n6_
          have HB := n7_
          clear n0_ n1_ n2_ n3_ n4_ n5_ n6_ n7_
          (try clear hb)
          (try clear hb2)
          (try clear hk)
          (try clear hi)
          (try clear ho0)
          (try clear ho1)
          obtain ⟨Ao60, co60, eo60⟩ := Kd.R_slice HO376.out
          (first | subst eo60 | (injection eo60 with f1_ f2_ f3_; have f4_ := f1_.symm; have f5_ := f3_.symm; clear f1_ f2_ f3_; subst f4_; subst f5_))
          obtain ⟨Ao61, co61, eo61⟩ := Kd.R_slice HO380.out
          (first | subst eo61 | (injection eo61 with f1_ f2_ f3_; have f4_ := f1_.symm; have f5_ := f3_.symm; clear f1_ f2_ f3_; subst f4_; subst f5_))
          refine hK.out _ _ ⟨(blk_cell BK366.out 0).trans rfl, (blk_cell BK366.out 1).trans rfl, (blk_cell BK366.out 2).trans rfl, (blk_cell BK366.out 3).trans rfl, (blk_cell BK337.out 0).trans rfl, (blk_cell BK337.out 1).trans rfl, (blk_cell BK337.out 2).trans rfl, (blk_cell BK337.out 3).trans rfl⟩ (fun hHeld => ?_)
          clear hK K
          refine norm_ (a' := ?_) ?_ ?_
          rotate_left
          ·show Act.put _ (some 48) _ = _
           simp only [Act.put, List.setIfInBounds_toArray, List.set_cons_zero, List.set_cons_succ, i64_w, i32_w]
           rfl
          refine one_ (i := 3) (N := some 49) #[true, true, true, true, false] rfl rfl (by kernel_rfl) (by decide) (fun K hK => ?_)
          refine goes_ Try.func37 (by kernel_rfl) rfl #[.agg #[.slice Ao37 t358.length co37, .int .i64 t361, .slice Ao41 t362.length co41, .int .i64 t365], .agg #[.slice Ao60 t374.length co60, .int .i64 t377, .slice Ao61 t378.length co61, .int .i64 t381]] (by rfl) rfl rfl (by (try simp only [List.map_toArray, List.map_cons, List.map_nil]); first | done | rfl | (simp only [List.length_drop, List.length_take]; rfl)) ?_
          with_reducible refine (laws_eqControl.calls kj49 _ _ t358 t361 _ _ t362 t365 _ _ t374 t377 _ _ t378 t381 true _ ?side1 ?side2 ?side3 ?side4 ?side5 ?side6 ?side7 ?side8 A56.out).mono ?_
          (case side1 => repeat (first | exact (Kd.R_reads' HO_367000.out).2.2 | (with_reducible refine Kd.C_alloc ?_ _) | (with_reducible refine Kd.C_drewN ?_ _) | (with_reducible refine Kd.C_drew ?_)))
          (case side2 => exact (Kd.R_reads' HO_367000.out).2.1)
          (case side3 => repeat (first | exact (Kd.R_reads' HO_367002.out).2.2 | (with_reducible refine Kd.C_alloc ?_ _) | (with_reducible refine Kd.C_drewN ?_ _) | (with_reducible refine Kd.C_drew ?_)))
          (case side4 => exact (Kd.R_reads' HO_367002.out).2.1)
          (case side5 => repeat (first | exact (Kd.R_reads' HO376.out).2.2 | (with_reducible refine Kd.C_alloc ?_ _) | (with_reducible refine Kd.C_drewN ?_ _) | (with_reducible refine Kd.C_drew ?_)))
          (case side6 => exact (Kd.R_reads' HO376.out).2.1)
          (case side7 => repeat (first | exact (Kd.R_reads' HO380.out).2.2 | (with_reducible refine Kd.C_alloc ?_ _) | (with_reducible refine Kd.C_drewN ?_ _) | (with_reducible refine Kd.C_drew ?_)))
          (case side8 => exact (Kd.R_reads' HO380.out).2.1)
          rintro e w62 ⟨rfl, hb⟩
          refine ⟨_, rfl, ?_⟩
          have n0_ := Aside0.mk (Kd.R_below (S.uR HO_367000.out) hb)
          have n1_ := Aside0.mk (Kd.R_below (S.uR HO_367002.out) hb)
          have n2_ := Aside0.mk (Kd.R_below (S.uR HO376.out) hb)
          have n3_ := Aside0.mk (Kd.R_below (S.uR HO380.out) hb)
          have n4_ := Aside0.mk (blk_below (g := gb337) (o := .cells #[.slice A1_0 l1_0.length c1_0, .int .i64 a1_1, .slice A1_2 l1_2.length c1_2, .int .i64 a1_3] 57 (0, 0)) (S.uB BK337.out) hb)
          have n5_ := Aside0.mk (blk_below (g := gb338) (o := .cells #[.int .i64 a2_0, .int .i64 a2_1] 65 (0, 0)) (S.uB BK338.out) hb)
          have n6_ := Aside0.mk (blk_below (g := gb366) (o := .cells #[.slice Ao37 t358.length co37, .int .i64 t361, .slice Ao41 t362.length co41, .int .i64 t365] 60 (0, 0)) (S.uB BK366.out) hb)
          have n7_ := Aside0.mk (below_step S.bG hb)
          clear HO_367000
          clear HO_367002
          clear HO376
          clear HO380
          clear BK337
          clear BK338
          clear BK366
          clear HB
          have HO_367000 := n0_
          have HO_367002 := n1_
          have HO376 := n2_
          have HO380 := n3_
          have BK337 := n4_
          have BK338 := n5_
          have BK366 := n6_
          have HB := n7_
          clear n0_ n1_ n2_ n3_ n4_ n5_ n6_ n7_
          (try clear hb)
          (try clear hb2)
          (try clear hk)
          (try clear hi)
          refine hK.out _ _ ⟨(blk_cell BK366.out 0).trans rfl, (blk_cell BK366.out 1).trans rfl, (blk_cell BK366.out 2).trans rfl, (blk_cell BK366.out 3).trans rfl, (blk_cell BK337.out 0).trans rfl, (blk_cell BK337.out 1).trans rfl, (blk_cell BK337.out 2).trans rfl, (blk_cell BK337.out 3).trans rfl⟩ (fun hHeld => ?_)
          clear hK K
          refine norm_ (a' := ?_) ?_ ?_
          rotate_left
          ·show Act.put _ (some 49) _ = _
           simp only [Act.put, List.setIfInBounds_toArray, List.set_cons_zero, List.set_cons_succ, i64_w, i32_w]
           rfl
          refine pure_ (i := 4) (N := some 50) (v := ?_) (a' := ?_) #[true, true, true, true, true] rfl rfl (by kernel_rfl) (fun _ _ _ h => h) (Or.inl ⟨by rfl, ?_⟩) ?_ ?_
          rotate_left
          ·intro w'
           go_simp
           with_reducible rfl
          rotate_left
          ·simp only [Act.put, List.setIfInBounds_toArray, List.set_cons_zero, List.set_cons_succ, i64_w, i32_w]
           rfl
          refine done_ (by kernel_rfl) ?_
          try go_wp2
          go_ret
          exact ⟨S.eW, S.bG⟩
         ·replace c57 := Bool.eq_false_iff.mpr c57
          subst c57
          have H1 : (some false) = some r := by rw [if_neg (show ¬ (false = true) by decide)] at H; exact H
          clear H
          have H := H1
          clear H1
          obtain rfl := Option.some.inj H
          try go_wp2
          have n0_ := Aside0.mk (Kd.R_drew HO_367000.out)
          have n1_ := Aside0.mk (Kd.R_drew HO_367002.out)
          have n2_ := Aside0.mk (blk_drew BK337.out)
          have n3_ := Aside0.mk (blk_drew BK338.out)
          have n4_ := Aside0.mk (blk_drew BK366.out)
          have n5_ := Aside0.mk (below_drew1 HB.out)
          clear HO_367000
          clear HO_367002
          clear BK337
          clear BK338
          clear BK366
          clear HB
          have HO_367000 := n0_
          have HO_367002 := n1_
          have BK337 := n2_
          have BK338 := n3_
          have BK366 := n4_
          have HB := n5_
          clear n0_ n1_ n2_ n3_ n4_ n5_
          refine start_ (n := 5) (S := fun w' => w'.cell? ⟨gb366, 0, none⟩ = some (.slice Ao37 t358.length co37) ∧ w'.cell? ⟨gb366, 1, none⟩ = some (.int .i64 t361) ∧ w'.cell? ⟨gb366, 2, none⟩ = some (.slice Ao41 t362.length co41) ∧ w'.cell? ⟨gb366, 3, none⟩ = some (.int .i64 t365) ∧ w'.cell? ⟨gb337, 0, none⟩ = some (.slice A1_0 l1_0.length c1_0) ∧ w'.cell? ⟨gb337, 1, none⟩ = some (.int .i64 a1_1) ∧ w'.cell? ⟨gb337, 2, none⟩ = some (.slice A1_2 l1_2.length c1_2) ∧ w'.cell? ⟨gb337, 3, none⟩ = some (.int .i64 a1_3)) (ds := []) #[false, false, false, false, false] (by kernel_rfl) rfl rfl ⟨(blk_cell BK366.out 0).trans rfl, (blk_cell BK366.out 1).trans rfl, (blk_cell BK366.out 2).trans rfl, (blk_cell BK366.out 3).trans rfl, (blk_cell BK337.out 0).trans rfl, (blk_cell BK337.out 1).trans rfl, (blk_cell BK337.out 2).trans rfl, (blk_cell BK337.out 3).trans rfl⟩ (fun hHeld => ?_)
          generalize wc.drew = w63 at HO_367000 HO_367002 BK337 BK338 BK366 HB hHeld ⊢
          refine take_ (i := 0) (N := some 46) (v := ?_) (a' := ?_) #[true, false, false, false, false] rfl rfl (by kernel_rfl) (fun _ _ _ h => h) (Or.inl ⟨by rfl, ?_⟩) hHeld ?_ ?_
          rotate_left
          ·rintro w' ⟨s0, s1, s2, s3, s4, s5, s6, s7⟩
           go_simp
           with_reducible rfl
          rotate_left
          ·simp only [Act.put, List.setIfInBounds_toArray, List.set_cons_zero, List.set_cons_succ, i64_w, i32_w]
           rfl
          refine take_ (i := 1) (N := some 47) (v := ?_) (a' := ?_) #[true, true, false, false, false] rfl rfl (by kernel_rfl) (fun _ _ _ h => h) (Or.inl ⟨by rfl, ?_⟩) hHeld ?_ ?_
          rotate_left
          ·rintro w' ⟨s0, s1, s2, s3, s4, s5, s6, s7⟩
           go_simp
           with_reducible rfl
          rotate_left
          ·simp only [Act.put, List.setIfInBounds_toArray, List.set_cons_zero, List.set_cons_succ, i64_w, i32_w]
           rfl
          refine one_ (i := 2) (N := some 48) #[true, true, true, false, false] rfl rfl (by kernel_rfl) (by decide) (fun K hK => ?_)
          refine goes_ Try.func35 (by kernel_rfl) rfl #[.agg #[.slice A1_0 l1_0.length c1_0, .int .i64 a1_1, .slice A1_2 l1_2.length c1_2, .int .i64 a1_3]] (by rfl) rfl rfl (by (try simp only [List.map_toArray, List.map_cons, List.map_nil]); first | done | rfl | (simp only [List.length_drop, List.length_take]; rfl)) ?_
          with_reducible refine (laws_toControl.calls kj49 _ _ l1_0 a1_1 _ _ l1_2 a1_3 t374 t377 t378 t381 _ ?side1 ?side2 ?side3 ?side4 A55.out).mono ?_
          (case side1 => exact S.cA HR1_0.out)
          (case side2 => exact HC1_0.out)
          (case side3 => exact S.cA HR1_2.out)
          (case side4 => exact HC1_2.out)
          rintro e w64 ⟨v375, v379, rfl, ho0, ho1, hb⟩
          refine ⟨_, rfl, ?_⟩
          have n0_ := Aside0.mk (Kd.R_mono (Kd.R_told (Kd.R_told (Kd.R_old (S.uR HO_367000.out) hb) (Kd.R_base ho0)) (Kd.R_base ho1)) (fun _ h_ => h_.1))
          have n1_ := Aside0.mk (Kd.R_mono (Kd.R_told (Kd.R_told (Kd.R_old (S.uR HO_367002.out) hb) (Kd.R_base ho0)) (Kd.R_base ho1)) (fun _ h_ => h_.1))
          have n2_ := Aside0.mk (Kd.R_lower (Kd.R_new' (Kd.R_new' ho0 (Kd.R_lt (S.uR HO_367000.out))) (Kd.R_lt (S.uR HO_367002.out))) (below_size S.bG))
          have n3_ := Aside0.mk (Kd.R_lower (Kd.R_new' (Kd.R_new' ho1 (Kd.R_lt (S.uR HO_367000.out))) (Kd.R_lt (S.uR HO_367002.out))) (below_size S.bG))
          have n4_ := Aside0.mk (blk_below (g := gb337) (o := .cells #[.slice A1_0 l1_0.length c1_0, .int .i64 a1_1, .slice A1_2 l1_2.length c1_2, .int .i64 a1_3] 57 (0, 0)) (S.uB BK337.out) hb)
          have n5_ := Aside0.mk (blk_below (g := gb338) (o := .cells #[.int .i64 a2_0, .int .i64 a2_1] 65 (0, 0)) (S.uB BK338.out) hb)
          have n6_ := Aside0.mk (blk_below (g := gb366) (o := .cells #[.slice Ao37 t358.length co37, .int .i64 t361, .slice Ao41 t362.length co41, .int .i64 t365] 60 (0, 0)) (S.uB BK366.out) hb)
          have n7_ := Aside0.mk (below_step S.bG hb)
          clear HO_367000
          clear HO_367002
          clear BK337
          clear BK338
          clear BK366
          clear HB
          have HO_367000 := n0_
          have HO_367002 := n1_
          have HO376 := n2_
          have HO380 := n3_
          have BK337 := n4_
          have BK338 := n5_
          have BK366 := n6_
          have HB := n7_
          clear n0_ n1_ n2_ n3_ n4_ n5_ n6_ n7_
          (try clear hb)
          (try clear hb2)
          (try clear hk)
          (try clear hi)
          (try clear ho0)
          (try clear ho1)
          obtain ⟨Ao65, co65, eo65⟩ := Kd.R_slice HO376.out
          (first | subst eo65 | (injection eo65 with f1_ f2_ f3_; have f4_ := f1_.symm; have f5_ := f3_.symm; clear f1_ f2_ f3_; subst f4_; subst f5_))
          obtain ⟨Ao66, co66, eo66⟩ := Kd.R_slice HO380.out
          (first | subst eo66 | (injection eo66 with f1_ f2_ f3_; have f4_ := f1_.symm; have f5_ := f3_.symm; clear f1_ f2_ f3_; subst f4_; subst f5_))
          refine hK.out _ _ ⟨(blk_cell BK366.out 0).trans rfl, (blk_cell BK366.out 1).trans rfl, (blk_cell BK366.out 2).trans rfl, (blk_cell BK366.out 3).trans rfl, (blk_cell BK337.out 0).trans rfl, (blk_cell BK337.out 1).trans rfl, (blk_cell BK337.out 2).trans rfl, (blk_cell BK337.out 3).trans rfl⟩ (fun hHeld => ?_)
          clear hK K
          refine norm_ (a' := ?_) ?_ ?_
          rotate_left
          ·show Act.put _ (some 48) _ = _
           simp only [Act.put, List.setIfInBounds_toArray, List.set_cons_zero, List.set_cons_succ, i64_w, i32_w]
           rfl
          refine one_ (i := 3) (N := some 49) #[true, true, true, true, false] rfl rfl (by kernel_rfl) (by decide) (fun K hK => ?_)
          refine goes_ Try.func37 (by kernel_rfl) rfl #[.agg #[.slice Ao37 t358.length co37, .int .i64 t361, .slice Ao41 t362.length co41, .int .i64 t365], .agg #[.slice Ao65 t374.length co65, .int .i64 t377, .slice Ao66 t378.length co66, .int .i64 t381]] (by rfl) rfl rfl (by (try simp only [List.map_toArray, List.map_cons, List.map_nil]); first | done | rfl | (simp only [List.length_drop, List.length_take]; rfl)) ?_
          with_reducible refine (laws_eqControl.calls kj49 _ _ t358 t361 _ _ t362 t365 _ _ t374 t377 _ _ t378 t381 false _ ?side1 ?side2 ?side3 ?side4 ?side5 ?side6 ?side7 ?side8 A56.out).mono ?_
          (case side1 => repeat (first | exact (Kd.R_reads' HO_367000.out).2.2 | (with_reducible refine Kd.C_alloc ?_ _) | (with_reducible refine Kd.C_drewN ?_ _) | (with_reducible refine Kd.C_drew ?_)))
          (case side2 => exact (Kd.R_reads' HO_367000.out).2.1)
          (case side3 => repeat (first | exact (Kd.R_reads' HO_367002.out).2.2 | (with_reducible refine Kd.C_alloc ?_ _) | (with_reducible refine Kd.C_drewN ?_ _) | (with_reducible refine Kd.C_drew ?_)))
          (case side4 => exact (Kd.R_reads' HO_367002.out).2.1)
          (case side5 => repeat (first | exact (Kd.R_reads' HO376.out).2.2 | (with_reducible refine Kd.C_alloc ?_ _) | (with_reducible refine Kd.C_drewN ?_ _) | (with_reducible refine Kd.C_drew ?_)))
          (case side6 => exact (Kd.R_reads' HO376.out).2.1)
          (case side7 => repeat (first | exact (Kd.R_reads' HO380.out).2.2 | (with_reducible refine Kd.C_alloc ?_ _) | (with_reducible refine Kd.C_drewN ?_ _) | (with_reducible refine Kd.C_drew ?_)))
          (case side8 => exact (Kd.R_reads' HO380.out).2.1)
          rintro e w67 ⟨rfl, hb⟩
          refine ⟨_, rfl, ?_⟩
          have n0_ := Aside0.mk (Kd.R_below (S.uR HO_367000.out) hb)
          have n1_ := Aside0.mk (Kd.R_below (S.uR HO_367002.out) hb)
          have n2_ := Aside0.mk (Kd.R_below (S.uR HO376.out) hb)
          have n3_ := Aside0.mk (Kd.R_below (S.uR HO380.out) hb)
          have n4_ := Aside0.mk (blk_below (g := gb337) (o := .cells #[.slice A1_0 l1_0.length c1_0, .int .i64 a1_1, .slice A1_2 l1_2.length c1_2, .int .i64 a1_3] 57 (0, 0)) (S.uB BK337.out) hb)
          have n5_ := Aside0.mk (blk_below (g := gb338) (o := .cells #[.int .i64 a2_0, .int .i64 a2_1] 65 (0, 0)) (S.uB BK338.out) hb)
          have n6_ := Aside0.mk (blk_below (g := gb366) (o := .cells #[.slice Ao37 t358.length co37, .int .i64 t361, .slice Ao41 t362.length co41, .int .i64 t365] 60 (0, 0)) (S.uB BK366.out) hb)
          have n7_ := Aside0.mk (below_step S.bG hb)
          clear HO_367000
          clear HO_367002
          clear HO376
          clear HO380
          clear BK337
          clear BK338
          clear BK366
          clear HB
          have HO_367000 := n0_
          have HO_367002 := n1_
          have HO376 := n2_
          have HO380 := n3_
          have BK337 := n4_
          have BK338 := n5_
          have BK366 := n6_
          have HB := n7_
          clear n0_ n1_ n2_ n3_ n4_ n5_ n6_ n7_
          (try clear hb)
          (try clear hb2)
          (try clear hk)
          (try clear hi)
          refine hK.out _ _ ⟨(blk_cell BK366.out 0).trans rfl, (blk_cell BK366.out 1).trans rfl, (blk_cell BK366.out 2).trans rfl, (blk_cell BK366.out 3).trans rfl, (blk_cell BK337.out 0).trans rfl, (blk_cell BK337.out 1).trans rfl, (blk_cell BK337.out 2).trans rfl, (blk_cell BK337.out 3).trans rfl⟩ (fun hHeld => ?_)
          clear hK K
          refine norm_ (a' := ?_) ?_ ?_
          rotate_left
          ·show Act.put _ (some 49) _ = _
           simp only [Act.put, List.setIfInBounds_toArray, List.set_cons_zero, List.set_cons_succ, i64_w, i32_w]
           rfl
          refine pure_ (i := 4) (N := some 50) (v := ?_) (a' := ?_) #[true, true, true, true, true] rfl rfl (by kernel_rfl) (fun _ _ _ h => h) (Or.inl ⟨by rfl, ?_⟩) ?_ ?_
          rotate_left
          ·intro w'
           go_simp
           with_reducible rfl
          rotate_left
          ·simp only [Act.put, List.setIfInBounds_toArray, List.set_cons_zero, List.set_cons_succ, i64_w, i32_w]
           rfl
          refine done_ (by kernel_rfl) ?_
          try go_wp2
          go_ret
          exact ⟨S.eW, S.bG⟩

end Go.Proofs.Ytopchlafmfgpnaa.PFnExactPrioWish
