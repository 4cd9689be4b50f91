/- Printed by a program: what the Go functions compute, as plain Lean functions (.f), and the proofs that the machine's calls come to just that (.calls). -/
import Derived.Test.YtopchlafmfgpnaaPFnExactCutForx0
import Derived.Test.YtopchlafmfgpnaaPFnExactCutForx1
import Derived.Test.YtopchlafmfgpnaaPFnExactCutForx12
import Derived.Test.YtopchlafmfgpnaaPFnExactCutForx18
import Derived.Test.YtopchlafmfgpnaaPFnExactCutForx19
namespace Go.Proofs.Ytopchlafmfgpnaa.PFnExactCutFor
open Go.RowKit Go.Proofs.YtopchlafmfgpnaaW.PrintWords Go.Proofs.YtopchlafmfgpnaaW.PrintLast Go.Proofs.YtopchlafmfgpnaaW.PrintMore
attribute [local go_sem] max2_int min2_int max_two min_two max_three min_three max_four min_four   -- for this text's walks alone
set_option linter.unusedVariables false
set_option linter.unusedSimpArgs false

/-! ### impl_cloneControl: function 87 -/
def impl_cloneControl.f (l0_0 : List Int) (a0_1 : Int) (l0_2 : List Int) (a0_3 : Int) : Option (List Int × Int × List Int × Int) := (slices_Clone_int_int.f l0_0).bind fun t355 => ((slices_Clone_int_int.f l0_2).bind fun t358 => (some (t355, a0_1, t358, a0_3)))
def impl_cloneControl.T1 : Bool × List (List Nat × List Nat) := (true, [([], []), ([0], [0]), ([1], [1]), ([], []), ([3], [3]), ([4, 2], [4]), ([0, 1, 2, 3, 4], []), ([6, 2, 5, 0, 1, 2, 3, 4], [2, 6]), ([0, 1, 2, 3, 4, 5, 6, 7], []), ([8, 5, 7, 0, 1, 2, 3, 4, 5, 6, 7], [5, 8])])
def impl_cloneControl.B1 : List Nat := [0, 1, 3, 0, 8, 31, 31, 127, 255, 511]
theorem impl_cloneControl.tab1 : rtab .any (opsOf Try.f87 1) = impl_cloneControl.T1 := by kernel_rfl
theorem impl_cloneControl.bits1 : waitsOk impl_cloneControl.T1.2 impl_cloneControl.B1 = true := by kernel_rfl
set_option maxHeartbeats 8000000 in
set_option maxRecDepth 100000 in
theorem impl_cloneControl.calls (A0_0 : Option Addr) (c0_0 : Nat) (l0_0 : List Int) (a0_1 : Int) (A0_2 : Option Addr) (c0_2 : Nat) (l0_2 : List Int) (a0_3 : Int) (r1 : List Int) (r2 : Int) (r3 : List Int) (r4 : Int) (w : World) (hr0_0 : Kd.C (Kd.int .i64) w A0_0 l0_0.length l0_0) (hc0_0 : l0_0.length ≤ c0_0) (hr0_2 : Kd.C (Kd.int .i64) w A0_2 l0_2.length l0_2) (hc0_2 : l0_2.length ≤ c0_2) (h : impl_cloneControl.f l0_0 a0_1 l0_2 a0_3 = some (r1, r2, r3, r4)) :
  Calls Try.prog 87 #[.agg #[.slice A0_0 l0_0.length c0_0, .int .i64 a0_1, .slice A0_2 l0_2.length c0_2, .int .i64 a0_3]] w fun e w' => ∃ v0_ v2_ : Value, e = .returned (.agg #[v0_, .int .i64 r2, v2_, .int .i64 r4]) ∧ Kd.R (Kd.int .i64) 3 w' w.heap.size (fun k_ => some k_ ≠ (v2_ : Value).ownBlock) v0_ r1 ∧ Kd.R (Kd.int .i64) 3 w' w.heap.size (fun k_ => some k_ ≠ (v0_ : Value).ownBlock) v2_ r3 ∧ Below w.heap.size w w' := by
 have hu60 := Try.underlying60
 have HR0_0 := Aside0.mk hr0_0
 have HC0_0 := Aside0.mk hc0_0
 clear hr0_0 hc0_0
 have HR0_2 := Aside0.mk hr0_2
 have HC0_2 := Aside0.mk hc0_2
 clear hr0_2 hc0_2
 have HB := Aside0.mk (Below.refl w.heap.size w)
 have H : ((slices_Clone_int_int.f l0_0).bind fun t355 => ((slices_Clone_int_int.f l0_2).bind fun t358 => (some (t355, a0_1, t358, a0_3)))) = some (r1, r2, r3, r4) := h
 clear h
 replace H := S.bd H; obtain ⟨t355, A2, H⟩ := H
 (try dsimp only at H)
 replace H := S.bd H; obtain ⟨t358, A3, H⟩ := H
 (try dsimp only at H)
 simp only [Option.some.injEq, Prod.mk.injEq] at H
 obtain ⟨rfl, rfl, rfl, rfl⟩ := H
 go_enter Try.func87, Try.ntmps87
 try go_wp2_with (first | ((with_reducible refine gate_dst (N := 1) rfl ?_); refine S.bx 1 (cs := #[.slice A0_0 l0_0.length c0_0, .int .i64 a0_1, .slice A0_2 l0_2.length c0_2, .int .i64 a0_3]) (t := 60) ?_; intro gb353 hg w4 hbox hb; have BK353 := Aside0.mk hbox; have GW353 := S.geA hg; have GE353 := S.geA hg; replace HB := S.sA hb; clear hb hbox hg) | ((with_reducible refine gate_dst (N := 2) rfl ?_); refine S.bx 2 (cs := #[.slice none 0 0, .int .i64 0, .slice none 0 0, .int .i64 0]) (t := 60) ?_; intro gb354 hg w5 hbox hb; have BK354 := Aside0.mk hbox; have GW354 := S.geG hg; have GE354 := S.geG hg; replace HB := S.sG hb; have NB353_354 := S.nl hg BK353; have NB354_353 := S.ng hg BK353; replace BK353 := S.kb BK353 hb; clear hb hbox hg))
 replace BK353 := Aside0.mk (blk_drew BK353.out)
 replace BK354 := Aside0.mk (blk_drew BK354.out)
 replace HB := Aside0.mk (below_drew1 HB.out)
 refine S.st (n := 10) (ds := [7, 9]) #[false, false, false, false, false, false, false, false, false, false] (fun w_ h_ => have x_ := S.e4 (S.Q h_ BK353.out); x_) (fun hHeld => ?_); refine with_tabW impl_cloneControl.tab1 impl_cloneControl.bits1 (fun HT_ HW_ => ?_)
 generalize w5.drew = w6 at BK353 BK354 HB hHeld ⊢
 refine S.pS 0 3 ?_
 refine S.pS 3 6 ?_
 refine S.tK 1 4 #[true, true, false, true, false, false, false, false, false, false] ?_
 refine S.tK 4 7 #[true, true, false, true, true, false, false, false, false, false] ?_
 refine S.oN 2 5 #[true, true, true, true, true, false, false, false, false, false] (fun K hK => ?_)
 refine S.go Try.func116 #[.slice A0_0 l0_0.length c0_0] ?_
 with_reducible refine (slices_Clone_int_int.calls _ _ l0_0 t355 _ ?s1 ?s2 A2.out).mono ?_
 (case s1 => exact S.cA HR0_0.out)
 (case s2 => exact HC0_0.out)
 rintro e w7 ⟨v356, rfl, ho0, hb⟩
 refine ⟨_, rfl, ?_⟩
 have HO357 := S.lwG ho0
 replace BK353 := S.kb BK353 hb
 replace BK354 := S.kb BK354 hb
 replace HB := S.sG hb
 (try clear hb)
 (try clear hb2)
 (try clear hk)
 (try clear hi)
 (try clear ho0)
 refine hK.out _ _ (S.e4 BK353.out) (fun hHeld => ?_)
 clear hK K
 refine S.nm 5 ?_
 refine S.pS 6 9 ?_
 refine S.oN 5 8 #[true, true, true, true, true, true, true, false, false, false] (fun K hK => ?_)
 refine S.go Try.func116 #[.slice A0_2 l0_2.length c0_2] ?_
 with_reducible refine (slices_Clone_int_int.calls _ _ l0_2 t358 _ ?s1 ?s2 A3.out).mono ?_
 (case s1 => exact S.cA HR0_2.out)
 (case s2 => exact HC0_2.out)
 rintro e w8 ⟨v359, rfl, ho0, hb⟩
 refine ⟨_, rfl, ?_⟩
 have HO360 := S.rnG ho0 HO357
 replace HO357 := S.re HO357 ho0 hb
 replace BK353 := S.kb BK353 hb
 replace BK354 := S.kb BK354 hb
 replace HB := S.sG hb
 (try clear hb)
 (try clear hb2)
 (try clear hk)
 (try clear hi)
 (try clear ho0)
 obtain ⟨Ao9, co9, eo9⟩ := Kd.R_slice HO357.out
 (first | subst eo9 | (injection eo9 with f1_ f2_ f3_; have f4_ := f1_.symm; have f5_ := f3_.symm; clear f1_ f2_ f3_; subst f4_; subst f5_))
 obtain ⟨Ao11, co11, eo11⟩ := Kd.R_slice HO360.out
 (first | subst eo11 | (injection eo11 with f1_ f2_ f3_; have f4_ := f1_.symm; have f5_ := f3_.symm; clear f1_ f2_ f3_; subst f4_; subst f5_))
 refine hK.out _ _ (S.e4 BK353.out) (fun hHeld => ?_)
 clear hK K
 refine S.nm 8 ?_
 refine last_ (i := 7) (N := none) #[true, true, true, true, true, true, true, true, false, false] rfl rfl (one_of HT_.out (by kernel_rfl)) (by decide) (fun K hK => ?_)
 have hs10 : w8.cell? ⟨gb353, 0, none⟩ = some (.slice A0_0 l0_0.length c0_0) := (blk_cell BK353.out 0).trans rfl
 have hfs10 := blk_frozen BK353.out 0
 have hns10_1 := NB354_353.out
 have hms10_1 := NB353_354.out
 refine skip_ (w1 := ?_) (by rfl) rfl ?_ ?_
 rotate_left
 ·go_simp
  rfl
 refine hK.out _ _ ?_
 clear hK K
 refine S.pS 8 10 ?_
 refine last_ (i := 9) (N := none) #[true, true, true, true, true, true, true, true, true, true] rfl rfl (one_of HT_.out (by kernel_rfl)) (by decide) (fun K hK => ?_)
 have hs12 : w8.cell? ⟨gb353, 2, none⟩ = some (.slice A0_2 l0_2.length c0_2) := (blk_cell BK353.out 2).trans rfl
 have hfs12 := blk_frozen BK353.out 2
 have hns12_1 := NB354_353.out
 have hms12_1 := NB353_354.out
 refine skip_ (w1 := ?_) (by rfl) rfl ?_ ?_
 rotate_left
 ·go_simp
  rfl
 refine hK.out _ _ ?_
 clear hK K
 refine done_ (done_of HT_.out (by kernel_rfl)) ?_
 have hnb13 := NB353_354.out
 have hnc13 := NB354_353.out
 obtain ⟨Z14a, Z14b, Z14c, Z14d, Y14a, Y14b, Y14c, Y14d⟩ := S.c4 BK353.out
 obtain ⟨Z15a, Z15b, Z15c, Z15d, Y15a, Y15b, Y15c, Y15d⟩ := S.c4 BK354.out
 try go_wp2
 refine bodyPost_ret (results_cell_row rfl _ _ gb354 60 #[.slice Ao9 t355.length co9, .int .i64 a0_1, .slice Ao11 t358.length co11, .int .i64 a0_3] (0, 0) _ rfl (by (with_reducible repeat (first | refine blk_drewN ?_ _ | refine blk_drew ?_ | refine blk_alloc ?_ _)); refine blk_put (cs := #[.slice Ao9 t355.length co9, .int .i64 a0_1, .slice Ao11 t358.length co11, .int .i64 0]) ?_ 3 _ rfl; (with_reducible repeat (first | refine blk_drewN ?_ _ | refine blk_drew ?_ | refine blk_alloc ?_ _)); refine blk_put (cs := #[.slice Ao9 t355.length co9, .int .i64 a0_1, .slice none 0 0, .int .i64 0]) ?_ 2 _ rfl; (with_reducible repeat (first | refine blk_drewN ?_ _ | refine blk_drew ?_ | refine blk_alloc ?_ _)); refine blk_put (cs := #[.slice Ao9 t355.length co9, .int .i64 0, .slice none 0 0, .int .i64 0]) ?_ 1 _ rfl; (with_reducible repeat (first | refine blk_drewN ?_ _ | refine blk_drew ?_ | refine blk_alloc ?_ _)); refine blk_put (cs := #[.slice none 0 0, .int .i64 0, .slice none 0 0, .int .i64 0]) ?_ 0 _ rfl; (with_reducible repeat (first | refine blk_drewN ?_ _ | refine blk_drew ?_ | refine blk_alloc ?_ _)); refine blk_far ?_ NB354_353.out _; (with_reducible repeat (first | refine blk_drewN ?_ _ | refine blk_drew ?_ | refine blk_alloc ?_ _)); refine blk_far ?_ NB354_353.out _; (with_reducible repeat (first | refine blk_drewN ?_ _ | refine blk_drew ?_ | refine blk_alloc ?_ _)); exact BK354.out) Try.underlying60 rfl (by kernel_rfl)) rfl ?_
 exact ⟨_, _, S.eW, by (with_reducible repeat (first | apply Kd.R_alloc | apply Kd.R_drewN | apply Kd.R_drew)); exact Kd.R_mono (Kd.R_far (p := ⟨gb354, 3, none⟩) (Kd.R_far (p := ⟨gb354, 2, none⟩) (Kd.R_far (p := ⟨gb354, 1, none⟩) (Kd.R_far (p := ⟨gb354, 0, none⟩) (Kd.R_far (p := ⟨gb353, 2, none⟩) (Kd.R_far (p := ⟨gb353, 0, none⟩) (Kd.R_types (Kd.R_types HO357.out BK353.out (by decide)) BK354.out (by decide)) (fun _ hk => hk.1.2) (.slice Ao9 t355.length co9)) (fun _ hk => hk.1.2) (.slice Ao11 t358.length co11)) (fun _ hk => hk.2) (.slice Ao9 t355.length co9)) (fun _ hk => hk.2) (.int .i64 a0_1)) (fun _ hk => hk.2) (.slice Ao11 t358.length co11)) (fun _ hk => hk.2) (.int .i64 a0_3)) (fun _ hk => hk.1.1.2), by (with_reducible repeat (first | apply Kd.R_alloc | apply Kd.R_drewN | apply Kd.R_drew)); exact Kd.R_mono (Kd.R_far (p := ⟨gb354, 3, none⟩) (Kd.R_far (p := ⟨gb354, 2, none⟩) (Kd.R_far (p := ⟨gb354, 1, none⟩) (Kd.R_far (p := ⟨gb354, 0, none⟩) (Kd.R_far (p := ⟨gb353, 2, none⟩) (Kd.R_far (p := ⟨gb353, 0, none⟩) (Kd.R_types (Kd.R_types HO360.out BK353.out (by decide)) BK354.out (by decide)) (fun _ hk => hk.1.2) (.slice Ao9 t355.length co9)) (fun _ hk => hk.1.2) (.slice Ao11 t358.length co11)) (fun _ hk => hk.2) (.slice Ao9 t355.length co9)) (fun _ hk => hk.2) (.int .i64 a0_1)) (fun _ hk => hk.2) (.slice Ao11 t358.length co11)) (fun _ hk => hk.2) (.int .i64 a0_3)) (fun _ hk => hk.1.1.2), S.bG⟩

/-! ### impl_isRoadway: function 88 -/
def impl_isRoadway.f (l0 : List (S52)) (a1 : Int) : Option (Bool) := (impl_FindPath.f l0 a1).bind fun t361 => (if t361 ≥ 0 then (if 0 ≤ t361 then (if t361 < (l0.length : Int) then (some (((rd_T52 l0 t361).f1) != 2)) else (none)) else (none)) else (some false))
set_option maxHeartbeats 8000000 in
set_option maxRecDepth 100000 in
theorem impl_isRoadway.calls (A0 : Option Addr) (c0 : Nat) (l0 : List (S52)) (a1 : Int) (r : Bool) (w : World) (hr0 : Kd.C k52 w A0 l0.length l0) (hc0 : l0.length ≤ c0) (h : impl_isRoadway.f l0 a1 = some r) :
  Calls Try.prog 88 #[.slice A0 l0.length c0, .int .i64 a1] w fun e w' => e = .returned (.bool r) ∧ Below w.heap.size w w' := by
 have HR0 := Aside0.mk hr0
 have HC0 := Aside0.mk hc0
 clear hr0 hc0
 have HB := Aside0.mk (Below.refl w.heap.size w)
 have H : ((impl_FindPath.f l0 a1).bind fun t361 => (if t361 ≥ 0 then (if 0 ≤ t361 then (if t361 < (l0.length : Int) then (some (((rd_T52 l0 t361).f1) != 2)) else (none)) else (none)) else (some false))) = some r := h
 clear h
 replace H := S.bd H; obtain ⟨t361, A3, H⟩ := H
 (try dsimp only at H)
 by_cases c4 : t361 ≥ 0
 ·rw [if_pos c4] at H
  have c4b0 : decide (0 ≤ t361) = true := decide_eq_true c4
  clear c4
  by_cases c5 : 0 ≤ t361
  ·rw [if_pos c5] at H
   have c5b0 : decide (0 ≤ t361) = true := decide_eq_true c5
   clear c5
   by_cases c6 : t361 < (l0.length : Int)
   ·rw [if_pos c6] at H
    have c6b0 : decide (t361 < (l0.length : Int)) = true := decide_eq_true c6
    clear c6
    obtain rfl := Option.some.inj H
    go_enter Try.func88, Try.ntmps88
    go_wp2_with (first | ((with_reducible refine gate_callee (f := 91) rfl ?_); refine S.gL (some 8) Try.func91 #[.slice A0 l0.length c0, .int .i64 a1] ?_; (with_reducible refine (impl_FindPath.calls _ _ l0 a1 t361 _ ?s1 HC0.out A3.out).mono ?_); (case s1 => repeat (first | exact HR0.out | (with_reducible refine Kd.C_alloc ?_ _) | (with_reducible refine Kd.C_drewN ?_ _) | (with_reducible refine Kd.C_drew ?_))); rintro e w7 ⟨rfl, hb⟩; refine ⟨_, rfl, ?_⟩; replace HB := S.sA hb; (try clear hb); have p362 : 0 ≤ (t361 : Int) := S.oD; have q362 : t361 < (l0.length : Int) := S.oD; obtain ⟨ad362, e362, hx362_0, hx362_1, hx362_2, hx362_3⟩ := at_T52 HR0.out t361 p362 q362; cases e362; replace hx362_0 := S.hb HB hx362_0; replace hx362_1 := S.hb HB hx362_1; replace hx362_2 := S.hb HB hx362_2; replace hx362_3 := S.hb HB hx362_3; replace p362 := eq_true p362; replace q362 := eq_true q362))
    go_ret
    exact ⟨S.eW, S.bA⟩
   ·rw [if_neg c6] at H
    exact absurd H (by simp)
  ·rw [if_neg c5] at H
   exact absurd H (by simp)
 ·rw [if_neg c4] at H
  have c4b0 : decide (0 ≤ t361) = false := decide_eq_false c4
  clear c4
  obtain rfl := Option.some.inj H
  go_enter Try.func88, Try.ntmps88
  go_wp2_with (first | ((with_reducible refine gate_callee (f := 91) rfl ?_); refine S.gL (some 8) Try.func91 #[.slice A0 l0.length c0, .int .i64 a1] ?_; (with_reducible refine (impl_FindPath.calls _ _ l0 a1 t361 _ ?s1 HC0.out A3.out).mono ?_); (case s1 => repeat (first | exact HR0.out | (with_reducible refine Kd.C_alloc ?_ _) | (with_reducible refine Kd.C_drewN ?_ _) | (with_reducible refine Kd.C_drew ?_))); rintro e w8 ⟨rfl, hb⟩; refine ⟨_, rfl, ?_⟩; replace HB := S.sA hb; (try clear hb)))
  go_ret
  exact ⟨S.eW, S.bA⟩

/-! ### impl_CutFor: function 42 -/
def impl_CutFor.j0 : Nat → List (S52) → Int → Bool → List Int → Int → List Int → Int → List Int → Int → List Int → Int → Option (List Int × Int × List Int × Int × Bool)
 | 0, _, _, _, _, _, _, _, _, _, _, _ => none
 | k + 1, x0, x2, x28, x364000, x364001, x364002, x364003, x374000, x374001, x374002, x374003 => if x28 = true then (some (x374000, x374001, x374002, x374003, false)) else ((some (([x2] : List Int) : List Int)).bind fun y377 => ((impl_ClearBetween.f k x0 x364000 y377).bind fun t380 => (if t380 > 0 then (some (x374000, x374001, y377, t380, true)) else (some (y377, 0, ([] : List Int), 0, true)))))
def impl_CutFor.f (k : Nat) (l0 : List (S52)) (l1_0 : List Int) (a1_1 : Int) (l1_2 : List Int) (a1_3 : Int) (a2 : Int) : Option (List Int × Int × List Int × Int × Bool) := (impl_cloneControl.f l1_0 a1_1 l1_2 a1_3).bind fun bt365 => ((impl_CanCut.f k l0 l1_0 a1_1 l1_2 a1_3).bind fun t374 => (if t374 = true then ((impl_isRoadway.f l0 a2).bind fun t375 => (if t375 = true then ((slices_Contains_int_int.f k l1_0 a2).bind fun t376 => (impl_CutFor.j0 k l0 a2 t376 l1_0 a1_1 l1_2 a1_3 bt365.1 bt365.2.1 bt365.2.2.1 bt365.2.2.2)) else (impl_CutFor.j0 k l0 a2 true l1_0 a1_1 l1_2 a1_3 bt365.1 bt365.2.1 bt365.2.2.1 bt365.2.2.2))) else (impl_CutFor.j0 k l0 a2 true l1_0 a1_1 l1_2 a1_3 bt365.1 bt365.2.1 bt365.2.2.1 bt365.2.2.2)))
set_option maxHeartbeats 8000000 in
set_option maxRecDepth 100000 in
theorem impl_CutFor.calls (k : Nat) (A0 : Option Addr) (c0 : Nat) (l0 : List (S52)) (A1_0 : Option Addr) (c1_0 : Nat) (l1_0 : List Int) (a1_1 : Int) (A1_2 : Option Addr) (c1_2 : Nat) (l1_2 : List Int) (a1_3 : Int) (a2 : Int) (r1 : List Int) (r2 : Int) (r3 : List Int) (r4 : Int) (r5 : Bool) (w : World) (hr0 : Kd.C k52 w A0 l0.length l0) (hc0 : l0.length ≤ c0) (hr1_0 : Kd.C (Kd.int .i64) w A1_0 l1_0.length l1_0) (hc1_0 : l1_0.length ≤ c1_0) (hr1_2 : Kd.C (Kd.int .i64) w A1_2 l1_2.length l1_2) (hc1_2 : l1_2.length ≤ c1_2) (h : impl_CutFor.f k l0 l1_0 a1_1 l1_2 a1_3 a2 = some (r1, r2, r3, r4, r5)) :
  Calls Try.prog 42 #[.slice A0 l0.length c0, .agg #[.slice A1_0 l1_0.length c1_0, .int .i64 a1_1, .slice A1_2 l1_2.length c1_2, .int .i64 a1_3], .int .i64 a2] w fun e w' => ∃ v0_ v2_ : Value, e = .returned (.tuple #[.agg #[v0_, .int .i64 r2, v2_, .int .i64 r4], .bool r5]) ∧ Kd.R (Kd.int .i64) 3 w' w.heap.size (fun k_ => some k_ ≠ (v2_ : Value).ownBlock) v0_ r1 ∧ Kd.R (Kd.int .i64) 3 w' w.heap.size (fun k_ => some k_ ≠ (v0_ : Value).ownBlock) v2_ r3 ∧ Below w.heap.size w w' := by
 have hu60 := Try.underlying60
 have HR0 := Aside0.mk hr0
 have HC0 := Aside0.mk hc0
 clear hr0 hc0
 have HR1_0 := Aside0.mk hr1_0
 have HC1_0 := Aside0.mk hc1_0
 clear hr1_0 hc1_0
 have HR1_2 := Aside0.mk hr1_2
 have HC1_2 := Aside0.mk hc1_2
 clear hr1_2 hc1_2
 have HB := Aside0.mk (Below.refl w.heap.size w)
 have H : ((impl_cloneControl.f l1_0 a1_1 l1_2 a1_3).bind fun bt365 => ((impl_CanCut.f k l0 l1_0 a1_1 l1_2 a1_3).bind fun t374 => (if t374 = true then ((impl_isRoadway.f l0 a2).bind fun t375 => (if t375 = true then ((slices_Contains_int_int.f k l1_0 a2).bind fun t376 => (impl_CutFor.j0 k l0 a2 t376 l1_0 a1_1 l1_2 a1_3 bt365.1 bt365.2.1 bt365.2.2.1 bt365.2.2.2)) else (impl_CutFor.j0 k l0 a2 true l1_0 a1_1 l1_2 a1_3 bt365.1 bt365.2.1 bt365.2.2.1 bt365.2.2.2))) else (impl_CutFor.j0 k l0 a2 true l1_0 a1_1 l1_2 a1_3 bt365.1 bt365.2.1 bt365.2.2.1 bt365.2.2.2)))) = some (r1, r2, r3, r4, r5) := h
 clear h
 replace H := S.bd H; obtain ⟨⟨t365, t368, t369, t372⟩, A4, H⟩ := H
 (try dsimp only at H)
 have HC5 := Aside0.mk H
 clear H
 go_enter Try.func42, Try.ntmps42
 go_upto_region 2 with (first | ((with_reducible refine gate_dst (N := 4) rfl ?_); refine S.bx 4 (cs := #[.slice A1_0 l1_0.length c1_0, .int .i64 a1_1, .slice A1_2 l1_2.length c1_2, .int .i64 a1_3]) (t := 60) ?_; intro gb363 hg w6 hbox hb; have BK363 := Aside0.mk hbox; have GW363 := S.geA hg; have GE363 := S.geA hg; replace HB := S.sA hb; clear hb hbox hg) | ((with_reducible refine gate_dst (N := 6) rfl ?_); refine S.bx 6 (cs := #[.slice none 0 0, .int .i64 0, .slice none 0 0, .int .i64 0]) (t := 60) ?_; intro gb364 hg w7 hbox hb; have BK364 := Aside0.mk hbox; have GW364 := S.geG hg; have GE364 := S.geG hg; replace HB := S.sG hb; have NB363_364 := S.nl hg BK363; have NB364_363 := S.ng hg BK363; replace BK363 := S.kb BK363 hb; clear hb hbox hg; have hnb8 := NB363_364.out; have hnc8 := NB364_363.out; obtain ⟨Z9a, Z9b, Z9c, Z9d, Y9a, Y9b, Y9c, Y9d⟩ := S.c4 BK363.out) | ((with_reducible refine gate_callee (f := 87) rfl ?_); refine S.gL (some 12) Try.func87 #[.agg #[.slice A1_0 l1_0.length c1_0, .int .i64 a1_1, .slice A1_2 l1_2.length c1_2, .int .i64 a1_3]] ?_; (with_reducible refine (impl_cloneControl.calls _ _ l1_0 a1_1 _ _ l1_2 a1_3 t365 t368 t369 t372 _ ?s1 HC1_0.out ?s3 HC1_2.out A4.out).mono ?_); (case s1 => exact S.cA HR1_0.out); (case s3 => exact S.cA HR1_2.out); rintro e w10 ⟨v366, v370, rfl, ho0, ho1, hb⟩; refine ⟨_, rfl, ?_⟩; have HO367 := S.lwG ho0; have HO371 := S.lwG ho1; replace BK363 := S.kb BK363 hb; replace BK364 := S.kb BK364 hb; replace HB := S.sG hb; (try clear hb); (try clear ho0); (try clear ho1)) | ((with_reducible refine gate_dst (N := 8) rfl ?_); refine S.bx 8 (cs := #[.slice none 0 0, .int .i64 0, .slice none 0 0, .int .i64 0]) (t := 60) ?_; intro gb373 hg w11 hbox hb; replace HO367 := S.rb HO367 hb; replace HO371 := S.rb HO371 hb; have BK373 := Aside0.mk hbox; have GW373 := S.geG hg; have GE373 := S.geG hg; replace HB := S.sG hb; have NB363_373 := S.nl hg BK363; have NB373_363 := S.ng hg BK363; replace BK363 := S.kb BK363 hb; have NB364_373 := S.nl hg BK364; have NB373_364 := S.ng hg BK364; replace BK364 := S.kb BK364 hb; clear hb hbox hg; obtain ⟨Ao12, co12, eo12⟩ := Kd.R_slice HO367.out; subst eo12; have hnb13 := NB373_363.out; have hnc13 := NB363_373.out; have hnb14 := NB373_364.out; have hnc14 := NB364_373.out; obtain ⟨Z15a, Z15b, Z15c, Z15d, Y15a, Y15b, Y15c, Y15d⟩ := S.c4 BK373.out; obtain ⟨Ao16, co16, eo16⟩ := Kd.R_slice HO371.out; subst eo16))
 (try simp only [Act.put, List.setIfInBounds_toArray, List.set_cons_zero, List.set_cons_succ])
 go_cut [28] (fun v28 wc => ∃ (kq : Nat) (x28_4 : Bool), v28 = .bool x28_4 ∧ Aside0 (impl_CutFor.j0 kq l0 a2 x28_4 l1_0 a1_1 l1_2 a1_3 t365 t368 t369 t372 = some (r1, r2, r3, r4, r5)) ∧ Aside0 (kq ≤ k) ∧ Aside0 (Kd.R (Kd.int .i64) 3 wc w.heap.size (fun k_ => some k_ ≠ ((.slice Ao16 t369.length co16) : Value).ownBlock) (.slice Ao12 t365.length co12) t365) ∧ Aside0 (Kd.R (Kd.int .i64) 3 wc w.heap.size (fun k_ => some k_ ≠ ((.slice Ao12 t365.length co12) : Value).ownBlock) (.slice Ao16 t369.length co16) t369) ∧ Aside0 (wc.heap[gb363]? = some (.cells #[(.slice A1_0 l1_0.length c1_0), .int .i64 a1_1, (.slice A1_2 l1_2.length c1_2), .int .i64 a1_3] 60 (0, 0))) ∧ Aside0 (wc.heap[gb364]? = some (.cells #[(.slice none 0 0), .int .i64 0, (.slice none 0 0), .int .i64 0] 60 (0, 0))) ∧ Aside0 (wc.heap[gb373]? = some (.cells #[(.slice Ao12 t365.length co12), .int .i64 t368, (.slice Ao16 t369.length co16), .int .i64 t372] 60 (0, 0))) ∧ Aside0 (Below w.heap.size w wc))
 case first =>
  have H := HC5.out
  clear HC5
  replace H := S.bd H; obtain ⟨t374, A17, H⟩ := H
  (try dsimp only at H)
  replace H := S.db H; rcases H with ⟨rfl, H⟩ | ⟨rfl, H⟩
  ·replace H := S.bd H; obtain ⟨t375, A19, H⟩ := H
   (try dsimp only at H)
   replace H := S.db H; rcases H with ⟨rfl, H⟩ | ⟨rfl, H⟩
   ·replace H := S.bd H; obtain ⟨t376, A21, H⟩ := H
    (try dsimp only at H)
    have H' := Aside0.mk H
    clear H
    have hnb22 := NB363_364.out
    have hnc22 := NB364_363.out
    have hnb23 := NB363_373.out
    have hnc23 := NB373_363.out
    obtain ⟨Z24a, Z24b, Z24c, Z24d, Y24a, Y24b, Y24c, Y24d⟩ := S.c4 BK363.out
    go_wp2_with (first | ((with_reducible refine gate_callee (f := 36) rfl ?_); refine S.gL (some 15) Try.func36 #[.slice A0 l0.length c0, .agg #[.slice A1_0 l1_0.length c1_0, .int .i64 a1_1, .slice A1_2 l1_2.length c1_2, .int .i64 a1_3]] ?_; (with_reducible refine (impl_CanCut.calls k _ _ l0 _ _ l1_0 a1_1 _ _ l1_2 a1_3 true _ ?s1 HC0.out ?s3 HC1_0.out ?s5 HC1_2.out A17.out).mono ?_); (case s1 => exact Kd.C_below HR0.out S.bG); (case s3 => exact Kd.C_below HR1_0.out S.bG); (case s5 => exact Kd.C_below HR1_2.out S.bG); rintro e w25 ⟨rfl, hb⟩; refine ⟨_, rfl, ?_⟩; replace HO367 := Aside0.mk (Kd.R_below (S.G4 HO367 BK373) hb); replace HO371 := Aside0.mk (Kd.R_below (S.G4 HO371 BK373) hb); replace BK363 := S.kf BK363 NB363_373 hb; replace BK364 := S.kf BK364 NB364_373 hb; replace BK373 := S.kp4 BK373 hb; replace HB := S.sG hb; (try clear hb)) | (go_at_call 88; (with_reducible refine (impl_isRoadway.calls _ _ l0 a2 true _ ?s1 HC0.out A19.out).mono ?_); (case s1 => exact S.cA HR0.out); rintro e w26 ⟨rfl, hb⟩; replace HO367 := S.rb HO367 hb; replace HO371 := S.rb HO371 hb; replace BK363 := S.kb BK363 hb; replace BK364 := S.kb BK364 hb; replace BK373 := S.kb BK373 hb; replace HB := S.sG hb; (try clear hb); obtain ⟨Z27a, Z27b, Z27c, Z27d, Y27a, Y27b, Y27c, Y27d⟩ := S.c4 BK363.out) | (go_at_call 82; (with_reducible refine (slices_Contains_int_int.calls k _ _ l1_0 a2 t376 _ ?s1 HC1_0.out A21.out).mono ?_); (case s1 => exact S.cA HR1_0.out); rintro e w' ⟨rfl, ⟨nd, rfl⟩⟩))
    go_meet
    case rel => exact ⟨_, (t376), S.eA, H', S.le, ⟨S.uR HO367.out⟩, ⟨S.uR HO371.out⟩, ⟨S.uB BK363.out⟩, ⟨S.uB BK364.out⟩, ⟨S.uB BK373.out⟩, ⟨S.bG⟩⟩
   ·have H' := Aside0.mk H
    clear H
    have hnb28 := NB363_364.out
    have hnc28 := NB364_363.out
    have hnb29 := NB363_373.out
    have hnc29 := NB373_363.out
    obtain ⟨Z30a, Z30b, Z30c, Z30d, Y30a, Y30b, Y30c, Y30d⟩ := S.c4 BK363.out
    go_wp2_with (first | ((with_reducible refine gate_callee (f := 36) rfl ?_); refine S.gL (some 15) Try.func36 #[.slice A0 l0.length c0, .agg #[.slice A1_0 l1_0.length c1_0, .int .i64 a1_1, .slice A1_2 l1_2.length c1_2, .int .i64 a1_3]] ?_; (with_reducible refine (impl_CanCut.calls k _ _ l0 _ _ l1_0 a1_1 _ _ l1_2 a1_3 true _ ?s1 HC0.out ?s3 HC1_0.out ?s5 HC1_2.out A17.out).mono ?_); (case s1 => exact Kd.C_below HR0.out S.bG); (case s3 => exact Kd.C_below HR1_0.out S.bG); (case s5 => exact Kd.C_below HR1_2.out S.bG); rintro e w31 ⟨rfl, hb⟩; refine ⟨_, rfl, ?_⟩; replace HO367 := Aside0.mk (Kd.R_below (S.G4 HO367 BK373) hb); replace HO371 := Aside0.mk (Kd.R_below (S.G4 HO371 BK373) hb); replace BK363 := S.kf BK363 NB363_373 hb; replace BK364 := S.kf BK364 NB364_373 hb; replace BK373 := S.kp4 BK373 hb; replace HB := S.sG hb; (try clear hb)) | (go_at_call 88; (with_reducible refine (impl_isRoadway.calls _ _ l0 a2 false _ ?s1 HC0.out A19.out).mono ?_); (case s1 => exact S.cA HR0.out); rintro e w32 ⟨rfl, hb⟩; replace HO367 := S.rb HO367 hb; replace HO371 := S.rb HO371 hb; replace BK363 := S.kb BK363 hb; replace BK364 := S.kb BK364 hb; replace BK373 := S.kb BK373 hb; replace HB := S.sG hb; (try clear hb)))
    go_meet
    case rel => exact ⟨_, (true), S.eA, H', S.le, ⟨S.uR HO367.out⟩, ⟨S.uR HO371.out⟩, ⟨S.uB BK363.out⟩, ⟨S.uB BK364.out⟩, ⟨S.uB BK373.out⟩, ⟨S.bG⟩⟩
  ·have H' := Aside0.mk H
   clear H
   have hnb33 := NB363_364.out
   have hnc33 := NB364_363.out
   have hnb34 := NB363_373.out
   have hnc34 := NB373_363.out
   obtain ⟨Z35a, Z35b, Z35c, Z35d, Y35a, Y35b, Y35c, Y35d⟩ := S.c4 BK363.out
   go_wp2_with (first | ((with_reducible refine gate_callee (f := 36) rfl ?_); refine S.gL (some 15) Try.func36 #[.slice A0 l0.length c0, .agg #[.slice A1_0 l1_0.length c1_0, .int .i64 a1_1, .slice A1_2 l1_2.length c1_2, .int .i64 a1_3]] ?_; (with_reducible refine (impl_CanCut.calls k _ _ l0 _ _ l1_0 a1_1 _ _ l1_2 a1_3 false _ ?s1 HC0.out ?s3 HC1_0.out ?s5 HC1_2.out A17.out).mono ?_); (case s1 => exact Kd.C_below HR0.out S.bG); (case s3 => exact Kd.C_below HR1_0.out S.bG); (case s5 => exact Kd.C_below HR1_2.out S.bG); rintro e w36 ⟨rfl, hb⟩; refine ⟨_, rfl, ?_⟩; replace HO367 := Aside0.mk (Kd.R_below (S.G4 HO367 BK373) hb); replace HO371 := Aside0.mk (Kd.R_below (S.G4 HO371 BK373) hb); replace BK363 := S.kf BK363 NB363_373 hb; replace BK364 := S.kf BK364 NB364_373 hb; replace BK373 := S.kp4 BK373 hb; replace HB := S.sG hb; (try clear hb)))
   go_meet
   case rel => exact ⟨_, (true), S.eA, H', S.le, ⟨S.uR HO367.out⟩, ⟨S.uR HO371.out⟩, ⟨S.uB BK363.out⟩, ⟨S.uB BK364.out⟩, ⟨S.uB BK373.out⟩, ⟨S.bG⟩⟩
 case rest =>
  clear HC5
  try clear Z15a
  try clear Z15b
  try clear Z15c
  try clear Z15d
  try clear Z9a
  try clear Z9b
  try clear Z9c
  try clear Z9d
  try clear Y15a
  try clear Y15b
  try clear Y15c
  try clear Y15d
  try clear Y9a
  try clear Y9b
  try clear Y9c
  try clear Y9d
  obtain ⟨kq, x28_4, rfl, HA, HJ4, HO_374000, HO_374002, BK363, BK364, BK373, HB⟩ := hcut
  cases kq with
  | zero => exact absurd HA.out (by simp [impl_CutFor.j0])
  | succ kj4 =>
   have H := HA.out
   clear HA
   simp only [impl_CutFor.j0] at H
   replace H := S.db H; rcases H with ⟨rfl, H⟩ | ⟨rfl, H⟩
   ·simp only [Option.some.injEq, Prod.mk.injEq] at H
    obtain ⟨rfl, rfl, rfl, rfl, rfl⟩ := H
    have hnb38 := NB373_363.out
    have hnc38 := NB363_373.out
    have hnb39 := NB373_364.out
    have hnc39 := NB364_373.out
    obtain ⟨Z40a, Z40b, Z40c, Z40d, Y40a, Y40b, Y40c, Y40d⟩ := S.c4 BK373.out
    have hnb41 := NB364_363.out
    have hnc41 := NB363_364.out
    obtain ⟨Z42a, Z42b, Z42c, Z42d, Y42a, Y42b, Y42c, Y42d⟩ := S.c4 BK364.out
    go_wp2
    refine bodyPost_ret (results_ct rfl _ _ gb364 60 #[.slice Ao12 t365.length co12, .int .i64 t368, .slice Ao16 t369.length co16, .int .i64 t372] (0, 0) _ rfl (by (with_reducible repeat (first | refine blk_drewN ?_ _ | refine blk_drew ?_ | refine blk_alloc ?_ _)); refine blk_put (cs := #[.slice Ao12 t365.length co12, .int .i64 t368, .slice Ao16 t369.length co16, .int .i64 0]) ?_ 3 _ rfl; (with_reducible repeat (first | refine blk_drewN ?_ _ | refine blk_drew ?_ | refine blk_alloc ?_ _)); refine blk_put (cs := #[.slice Ao12 t365.length co12, .int .i64 t368, .slice none 0 0, .int .i64 0]) ?_ 2 _ rfl; (with_reducible repeat (first | refine blk_drewN ?_ _ | refine blk_drew ?_ | refine blk_alloc ?_ _)); refine blk_put (cs := #[.slice Ao12 t365.length co12, .int .i64 0, .slice none 0 0, .int .i64 0]) ?_ 1 _ rfl; (with_reducible repeat (first | refine blk_drewN ?_ _ | refine blk_drew ?_ | refine blk_alloc ?_ _)); refine blk_put (cs := #[.slice none 0 0, .int .i64 0, .slice none 0 0, .int .i64 0]) ?_ 0 _ rfl; (with_reducible repeat (first | refine blk_drewN ?_ _ | refine blk_drew ?_ | refine blk_alloc ?_ _)); exact BK364.out) Try.underlying60 rfl (by kernel_rfl)) rfl ?_
    exact ⟨_, _, S.eW, by (with_reducible repeat (first | apply Kd.R_alloc | apply Kd.R_drewN | apply Kd.R_drew)); exact Kd.R_mono (Kd.R_far (p := ⟨gb364, 3, none⟩) (Kd.R_far (p := ⟨gb364, 2, none⟩) (Kd.R_far (p := ⟨gb364, 1, none⟩) (Kd.R_far (p := ⟨gb364, 0, none⟩) (Kd.R_types HO_374000.out BK364.out (by decide)) (fun _ hk => hk.2) (.slice Ao12 t365.length co12)) (fun _ hk => hk.2) (.int .i64 t368)) (fun _ hk => hk.2) (.slice Ao16 t369.length co16)) (fun _ hk => hk.2) (.int .i64 t372)) (fun _ hk => hk.1), by (with_reducible repeat (first | apply Kd.R_alloc | apply Kd.R_drewN | apply Kd.R_drew)); exact Kd.R_mono (Kd.R_far (p := ⟨gb364, 3, none⟩) (Kd.R_far (p := ⟨gb364, 2, none⟩) (Kd.R_far (p := ⟨gb364, 1, none⟩) (Kd.R_far (p := ⟨gb364, 0, none⟩) (Kd.R_types HO_374002.out BK364.out (by decide)) (fun _ hk => hk.2) (.slice Ao12 t365.length co12)) (fun _ hk => hk.2) (.int .i64 t368)) (fun _ hk => hk.2) (.slice Ao16 t369.length co16)) (fun _ hk => hk.2) (.int .i64 t372)) (fun _ hk => hk.1), S.bG⟩
   ·obtain ⟨y377, hy377⟩ : ∃ y_ : List Int, y_ = (([a2] : List Int)) := ⟨_, rfl⟩
    replace H : ((impl_ClearBetween.f kj4 l0 l1_0 y377).bind fun t380 => (if t380 > 0 then (some (t365, t368, y377, t380, true)) else (some (y377, 0, ([] : List Int), 0, true)))) = some (r1, r2, r3, r4, r5) := by first | (rw [hy377]; with_reducible exact H) | (have H2_ := (Option.bind_some _ _).symm.trans H; rw [hy377]; with_reducible exact H2_) | (have H2_ := (Option.bind_some _ _).symm.trans H; with_reducible exact H2_) | with_reducible exact H | (rw [hy377]; exact H) | exact H
    have Ny377 := Aside0.mk hy377
    clear hy377
    replace H := S.bd H; obtain ⟨t380, A43, H⟩ := H
    (try dsimp only at H)
    by_cases c44 : t380 > 0
    ·rw [if_pos c44] at H
     have c44b0 : decide (0 < t380) = true := decide_eq_true c44
     clear c44
     simp only [Option.some.injEq, Prod.mk.injEq] at H
     obtain ⟨rfl, rfl, rfl, rfl, rfl⟩ := H
     go_wp2_with (first | ((with_reducible refine gate_dst (N := 31) rfl ?_); refine Kd.R_lit (Kd.int .i64) _ 3 ?hg (N := 31) ?hd (xs := ([a2] : List Int)) (inner := [.int .i64 a2]) (ok := fun _ => True) (okp := fun _ => True) ?hr ?hp (fun _ hk => hk) trivial (Below.refl _ _) (Nat.le_refl _) (by simp) ?_; (case hd => rfl); (case hg => rfl); (case hr => first | (go_simp; done) | (go_simp; rfl)); (case hp => exact (Reps.one (show Kd.M (Kd.int .i64) _ _ _ a2 [.int .i64 a2] from rfl) (Reps.none _ _))); intro v378 w45 ho46 hb hg_ hnew_; clear hg_ hnew_; (first | rw [← Ny377.out] at ho46 | (simp only [Int.reduceToNat] at ho46; rw [← Ny377.out] at ho46)); have HO379 := Aside0.mk (Kd.R_lower (Kd.R_new' (Kd.R_new' ho46 (Kd.R_lt (S.uR HO_374000.out))) (Kd.R_lt (S.uR HO_374002.out))) (below_size S.bG)); replace HO_374000 := S.re HO_374000 ho46 hb; replace HO_374002 := S.re HO_374002 ho46 hb; replace BK363 := S.kb BK363 hb; replace BK364 := S.kb BK364 hb; replace BK373 := S.kb BK373 hb; replace HB := S.sG hb; clear hb ho46; have hnb47 := NB363_364.out; have hnc47 := NB364_363.out; have hnb48 := NB363_373.out; have hnc48 := NB373_363.out; obtain ⟨Z49a, Z49b, Z49c, Z49d, Y49a, Y49b, Y49c, Y49d⟩ := S.c4 BK363.out; obtain ⟨Ao50, co50, eo50⟩ := Kd.R_slice HO379.out; subst eo50) | ((with_reducible refine gate_callee (f := 89) rfl ?_); refine S.gL (some 36) Try.func89 #[.slice A0 l0.length c0, .slice A1_0 l1_0.length c1_0, .slice Ao50 y377.length co50] ?_; (with_reducible refine (impl_ClearBetween.calls kj4 _ _ l0 _ _ l1_0 _ _ y377 t380 _ ?s1 HC0.out ?s3 HC1_0.out ?s5 (S.rl HO379) A43.out).mono ?_); (case s1 => exact S.cA HR0.out); (case s3 => exact S.cA HR1_0.out); (case s5 => exact S.rd HO379); rintro e w51 ⟨rfl, hb⟩; refine ⟨_, rfl, ?_⟩; replace HO_374000 := S.rb HO_374000 hb; replace HO_374002 := S.rb HO_374002 hb; replace HO379 := S.rb HO379 hb; replace BK363 := S.kb BK363 hb; replace BK364 := S.kb BK364 hb; replace BK373 := S.kb BK373 hb; replace HB := S.sG hb; (try clear hb); have hnb52 := NB373_364.out; have hnc52 := NB364_373.out; obtain ⟨Z53a, Z53b, Z53c, Z53d, Y53a, Y53b, Y53c, Y53d⟩ := S.c4 BK373.out; obtain ⟨Z54a, Z54b, Z54c, Z54d, Y54a, Y54b, Y54c, Y54d⟩ := S.c4 BK364.out))
     refine bodyPost_ret (results_ct rfl _ _ gb364 60 #[.slice Ao12 t365.length co12, .int .i64 t368, .slice Ao50 y377.length co50, .int .i64 t380] (0, 0) _ rfl (by (with_reducible repeat (first | refine blk_drewN ?_ _ | refine blk_drew ?_ | refine blk_alloc ?_ _)); refine blk_put (cs := #[.slice Ao12 t365.length co12, .int .i64 t368, .slice Ao50 y377.length co50, .int .i64 0]) ?_ 3 _ rfl; (with_reducible repeat (first | refine blk_drewN ?_ _ | refine blk_drew ?_ | refine blk_alloc ?_ _)); refine blk_put (cs := #[.slice Ao12 t365.length co12, .int .i64 t368, .slice none 0 0, .int .i64 0]) ?_ 2 _ rfl; (with_reducible repeat (first | refine blk_drewN ?_ _ | refine blk_drew ?_ | refine blk_alloc ?_ _)); refine blk_put (cs := #[.slice Ao12 t365.length co12, .int .i64 0, .slice none 0 0, .int .i64 0]) ?_ 1 _ rfl; (with_reducible repeat (first | refine blk_drewN ?_ _ | refine blk_drew ?_ | refine blk_alloc ?_ _)); refine blk_put (cs := #[.slice none 0 0, .int .i64 0, .slice none 0 0, .int .i64 0]) ?_ 0 _ rfl; (with_reducible repeat (first | refine blk_drewN ?_ _ | refine blk_drew ?_ | refine blk_alloc ?_ _)); refine blk_far ?_ NB364_373.out _; (with_reducible repeat (first | refine blk_drewN ?_ _ | refine blk_drew ?_ | refine blk_alloc ?_ _)); refine blk_far ?_ NB364_373.out _; (with_reducible repeat (first | refine blk_drewN ?_ _ | refine blk_drew ?_ | refine blk_alloc ?_ _)); exact BK364.out) Try.underlying60 rfl (by kernel_rfl)) rfl ?_
     exact ⟨_, _, S.eW, by (with_reducible repeat (first | apply Kd.R_alloc | apply Kd.R_drewN | apply Kd.R_drew)); exact Kd.R_mono (Kd.R_far (p := ⟨gb364, 3, none⟩) (Kd.R_far (p := ⟨gb364, 2, none⟩) (Kd.R_far (p := ⟨gb364, 1, none⟩) (Kd.R_far (p := ⟨gb364, 0, none⟩) (Kd.R_far (p := ⟨gb373, 3, none⟩) (Kd.R_far (p := ⟨gb373, 2, none⟩) (Kd.R_types (Kd.R_types HO_374000.out BK373.out (by decide)) BK364.out (by decide)) (fun _ hk => hk.1.2) (.slice Ao50 y377.length co50)) (fun _ hk => hk.1.2) (.int .i64 t380)) (fun _ hk => hk.2) (.slice Ao12 t365.length co12)) (fun _ hk => hk.2) (.int .i64 t368)) (fun _ hk => hk.2) (.slice Ao50 y377.length co50)) (fun _ hk => hk.2) (.int .i64 t380)) (fun _ hk => hk.1.1.2), by (with_reducible repeat (first | apply Kd.R_alloc | apply Kd.R_drewN | apply Kd.R_drew)); exact Kd.R_mono (Kd.R_far (p := ⟨gb364, 3, none⟩) (Kd.R_far (p := ⟨gb364, 2, none⟩) (Kd.R_far (p := ⟨gb364, 1, none⟩) (Kd.R_far (p := ⟨gb364, 0, none⟩) (Kd.R_far (p := ⟨gb373, 3, none⟩) (Kd.R_far (p := ⟨gb373, 2, none⟩) (Kd.R_types (Kd.R_types HO379.out BK373.out (by decide)) BK364.out (by decide)) (fun _ hk => hk.1.2) (.slice Ao50 y377.length co50)) (fun _ hk => hk.1.2) (.int .i64 t380)) (fun _ hk => hk.2) (.slice Ao12 t365.length co12)) (fun _ hk => hk.2) (.int .i64 t368)) (fun _ hk => hk.2) (.slice Ao50 y377.length co50)) (fun _ hk => hk.2) (.int .i64 t380)) (fun _ hk => hk.1.1.1.2), S.bG⟩
    ·rw [if_neg c44] at H
     have c44b0 : decide (0 < t380) = false := decide_eq_false c44
     clear c44
     simp only [Option.some.injEq, Prod.mk.injEq] at H
     obtain ⟨rfl, rfl, rfl, rfl, rfl⟩ := H
     go_wp2_with (first | ((with_reducible refine gate_dst (N := 31) rfl ?_); refine Kd.R_lit (Kd.int .i64) _ 3 ?hg (N := 31) ?hd (xs := ([a2] : List Int)) (inner := [.int .i64 a2]) (ok := fun _ => True) (okp := fun _ => True) ?hr ?hp (fun _ hk => hk) trivial (Below.refl _ _) (Nat.le_refl _) (by simp) ?_; (case hd => rfl); (case hg => rfl); (case hr => first | (go_simp; done) | (go_simp; rfl)); (case hp => exact (Reps.one (show Kd.M (Kd.int .i64) _ _ _ a2 [.int .i64 a2] from rfl) (Reps.none _ _))); intro v378 w55 ho56 hb hg_ hnew_; clear hg_ hnew_; (first | rw [← Ny377.out] at ho56 | (simp only [Int.reduceToNat] at ho56; rw [← Ny377.out] at ho56)); have HO379 := Aside0.mk (Kd.R_lower (Kd.R_new' (Kd.R_new' ho56 (Kd.R_lt (S.uR HO_374000.out))) (Kd.R_lt (S.uR HO_374002.out))) (below_size S.bG)); replace HO_374000 := S.re HO_374000 ho56 hb; replace HO_374002 := S.re HO_374002 ho56 hb; replace BK363 := S.kb BK363 hb; replace BK364 := S.kb BK364 hb; replace BK373 := S.kb BK373 hb; replace HB := S.sG hb; clear hb ho56; have hnb57 := NB363_364.out; have hnc57 := NB364_363.out; have hnb58 := NB363_373.out; have hnc58 := NB373_363.out; obtain ⟨Z59a, Z59b, Z59c, Z59d, Y59a, Y59b, Y59c, Y59d⟩ := S.c4 BK363.out; obtain ⟨Ao60, co60, eo60⟩ := Kd.R_slice HO379.out; subst eo60) | ((with_reducible refine gate_callee (f := 89) rfl ?_); refine S.gL (some 36) Try.func89 #[.slice A0 l0.length c0, .slice A1_0 l1_0.length c1_0, .slice Ao60 y377.length co60] ?_; (with_reducible refine (impl_ClearBetween.calls kj4 _ _ l0 _ _ l1_0 _ _ y377 t380 _ ?s1 HC0.out ?s3 HC1_0.out ?s5 (S.rl HO379) A43.out).mono ?_); (case s1 => exact S.cA HR0.out); (case s3 => exact S.cA HR1_0.out); (case s5 => exact S.rd HO379); rintro e w61 ⟨rfl, hb⟩; refine ⟨_, rfl, ?_⟩; replace HO_374000 := S.rb HO_374000 hb; replace HO_374002 := S.rb HO_374002 hb; replace HO379 := S.rb HO379 hb; replace BK363 := S.kb BK363 hb; replace BK364 := S.kb BK364 hb; replace BK373 := S.kb BK373 hb; replace HB := S.sG hb; (try clear hb); have hnb62 := NB364_373.out; have hnc62 := NB373_364.out; obtain ⟨Z63a, Z63b, Z63c, Z63d, Y63a, Y63b, Y63c, Y63d⟩ := S.c4 BK364.out))
     refine bodyPost_ret (results_ct rfl _ _ gb364 60 #[.slice Ao60 y377.length co60, .int .i64 0, .slice none 0 0, .int .i64 0] (0, 0) _ rfl (by (with_reducible repeat (first | refine blk_drewN ?_ _ | refine blk_drew ?_ | refine blk_alloc ?_ _)); refine blk_put (cs := #[.slice Ao60 y377.length co60, .int .i64 0, .slice none 0 0, .int .i64 0]) ?_ 3 _ rfl; (with_reducible repeat (first | refine blk_drewN ?_ _ | refine blk_drew ?_ | refine blk_alloc ?_ _)); refine blk_put (cs := #[.slice Ao60 y377.length co60, .int .i64 0, .slice none 0 0, .int .i64 0]) ?_ 2 _ rfl; (with_reducible repeat (first | refine blk_drewN ?_ _ | refine blk_drew ?_ | refine blk_alloc ?_ _)); refine blk_put (cs := #[.slice Ao60 y377.length co60, .int .i64 0, .slice none 0 0, .int .i64 0]) ?_ 1 _ rfl; (with_reducible repeat (first | refine blk_drewN ?_ _ | refine blk_drew ?_ | refine blk_alloc ?_ _)); refine blk_put (cs := #[.slice none 0 0, .int .i64 0, .slice none 0 0, .int .i64 0]) ?_ 0 _ rfl; (with_reducible repeat (first | refine blk_drewN ?_ _ | refine blk_drew ?_ | refine blk_alloc ?_ _)); exact BK364.out) Try.underlying60 rfl (by kernel_rfl)) rfl ?_
     exact ⟨_, _, S.eW, by (with_reducible repeat (first | apply Kd.R_alloc | apply Kd.R_drewN | apply Kd.R_drew)); exact Kd.R_mono (Kd.R_far (p := ⟨gb364, 3, none⟩) (Kd.R_far (p := ⟨gb364, 2, none⟩) (Kd.R_far (p := ⟨gb364, 1, none⟩) (Kd.R_far (p := ⟨gb364, 0, none⟩) (Kd.R_types HO379.out BK364.out (by decide)) (fun _ hk => hk.2) (.slice Ao60 y377.length co60)) (fun _ hk => hk.2) (.int .i64 0)) (fun _ hk => hk.2) (.slice none 0 0)) (fun _ hk => hk.2) (.int .i64 0)) (fun _ hk => (by simp [Value.ownBlock])), by first | exact Kd.R_nil _ _ _ _ _ | exact Kd.N_nil _ _ _ _ _ | exact Kd.V_nil _ _ _ _ _ | exact Kd.Q_nil _ _ _ _ _ | exact Kd.S_nil _ _ _ _ _, S.bG⟩

/-! ### laws_markIntS: function 23 -/
def laws_markIntS.l0 : Nat → List Int → Int → Int → Option (Int × List Int)
 | 0, _, _, _ => none
 | k + 1, x0, x1, x5 => if x5 < (x0.length : Int) then (if 0 ≤ x5 then (laws_markIntS.l0 k (x0.set (x5 : Int).toNat x1) (wrap64 (x1 + 1)) (wrap64 (x5 + 1))) else (none)) else (some (x1, x0))
def laws_markIntS.f (k : Nat) (l0 : List Int) (a1 : Int) : Option (Int × List Int) := laws_markIntS.l0 k l0 a1 0
set_option maxHeartbeats 8000000 in
set_option maxRecDepth 100000 in
theorem laws_markIntS.calls (k : Nat) (P0_ : Nat → Prop) (u9000_ : Value) (l0 : List Int) (a1 : Int) (r1 : Int) (r2 : List Int) (w0 w : World) (hB : Below w0.heap.size w0 w) (ho0 : Kd.R (Kd.int .i64) 3 w w0.heap.size P0_ u9000_ l0) (h : laws_markIntS.f k l0 a1 = some (r1, r2)) :
  Calls Try.prog 23 #[u9000_, .int .i64 a1] w fun e w' => e = .returned (.int .i64 r1) ∧ Kd.R (Kd.int .i64) 3 w' w0.heap.size (fun k_ => (P0_ k_ ∨ w.heap.size ≤ k_)) u9000_ r2 ∧ Below w0.heap.size w0 w' ∧ Kept w w' (fun k_ => P0_ k_) := by
 have HO0 := Aside0.mk (show Kd.R (Kd.int .i64) 3 w w0.heap.size (fun k_ => (P0_ k_ ∨ w.heap.size ≤ k_)) u9000_ l0 from Kd.R_mono ho0 (fun k_ hk => (.inl hk)))
 have HK := Aside0.mk (Kept.refl w (fun k_ => P0_ k_))
 have HW0 := Aside0.mk hB.size
 have HB := Aside0.mk hB
 clear hB
 have H : (laws_markIntS.l0 k l0 a1 0) = some (r1, r2) := h
 clear h
 have H' := Aside0.mk H
 clear H
 go_enter Try.func23, Try.ntmps23
 go_wp2
 go_loopg [1, 5] k (fun kq v1 v5 w' => ∃ (x0_1 : List Int) (x1_1 : Int) (x5_1 : Int), v1 = .int .i64 x1_1 ∧ v5 = .int .i64 x5_1 ∧ Aside0 (laws_markIntS.l0 kq x0_1 x1_1 x5_1 = some (r1, r2)) ∧ Aside0 (kq ≤ k) ∧ Aside0 (Kd.R (Kd.int .i64) 3 w' w0.heap.size (fun k_ => (P0_ k_ ∨ w.heap.size ≤ k_)) u9000_ x0_1) ∧ Aside0 (Kept w w' (fun k_ => P0_ k_)) ∧ Aside0 (Below w0.heap.size w0 w'))
 case atStart => exact ⟨(l0), (a1), (0), S.eA, S.eA, H', ⟨Nat.le_refl _⟩, ⟨S.uR HO0.out⟩, ⟨by repeat (first | (with_reducible first | exact HK.out | apply Kept.alloc | apply Kept.drewN | apply Kept.drew) | exact HK.out)⟩, ⟨S.bA⟩⟩
 case round =>
  clear H'
  obtain ⟨x0_1, x1_1, x5_1, rfl, rfl, HA, HK1, HO_0, HK, HB⟩ := hrel
  cases gk with
  | zero => exact absurd HA.out (by simp [laws_markIntS.l0])
  | succ k1 =>
   have H := HA.out
   clear HA
   simp only [laws_markIntS.l0] at H
   replace H := S.dc H; rcases H with ⟨H, c3b0⟩ | ⟨H, c3b0⟩
   ·by_cases c4 : 0 ≤ x5_1
    ·rw [if_pos c4] at H
     have c4b0 : decide (0 ≤ x5_1) = true := decide_eq_true c4
     clear c4
     obtain ⟨y381, hy381⟩ : ∃ y_ : List Int, y_ = (x0_1.set (x5_1 : Int).toNat x1_1) := ⟨_, rfl⟩
     replace H : (laws_markIntS.l0 k1 y381 (wrap64 (x1_1 + 1)) (wrap64 (x5_1 + 1))) = some (r1, r2) := by first | (rw [hy381]; with_reducible exact H) | (have H2_ := (Option.bind_some _ _).symm.trans H; rw [hy381]; with_reducible exact H2_) | (have H2_ := (Option.bind_some _ _).symm.trans H; with_reducible exact H2_) | with_reducible exact H | (rw [hy381]; exact H) | exact H
     have Ny381 := Aside0.mk hy381
     clear hy381
     have H' := Aside0.mk H
     clear H
     obtain ⟨Ao6, co6, eo6⟩ := Kd.R_slice HO_0.out
     subst eo6
     have p5 : 0 ≤ (x5_1 : Int) := S.oD
     have q5 : (x5_1 : Int) < ((x0_1.length : Int) : Int) := S.oD
     obtain ⟨go5, co5, eo5, gb5, gl5, cl5, HG5⟩ := Kd.R_form HO_0.out (by omega)
     (first | cases eo5 | (injection eo5 with ea_ en_ ec_; (first | subst ea_ | (injection ea_ with ea_; subst ea_)); subst ec_; clear en_))
     have GB5 := Aside0.mk gb5
     have GG5 := Aside0.mk HG5
     clear gb5 gl5 HG5
     have HMgo5 := Aside0.mk (show (P0_ go5 ∨ w.heap.size ≤ go5) from (HO_0.out.1 _ rfl))
     obtain ⟨hx5_0, hf5_0⟩ := Kd.R_celln 0 HO_0.out (x5_1 : Int) p5 q5
     replace p5 := eq_true p5
     replace q5 := eq_true q5
     have HP7 := Kd.R_putg HO_0.out (x5_1 : Int) x1_1
     go_wp2_with (first | ((with_reducible refine gate_store (t := 3) (p := 15) rfl ?_); refine store_event (t := 3) (p := 15) (v := ?vo_w8) (w1 := (wr.setCell ⟨go5, (x5_1 : Int).toNat, none⟩ (.int .i64 x1_1))) ?hg ?ho ?hn ?hr ?_; (case ho => rfl); (case hg => rfl); (case hn => rfl); (case hr => first | (go_simp; done) | (go_simp; rfl)); intro w8 hw; have hg : wr.grownBy w8 (some go5) := (by rw [hw]; exact HP7.2); have hp_ : Kd.R (Kd.int .i64) 3 w8 w0.heap.size (fun k_ => (P0_ k_ ∨ w.heap.size ≤ k_)) (.slice (some ⟨go5, 0, none⟩) x0_1.length co6) y381 := (by rw [hw, Ny381.out]; exact HP7.1); clear HP7; replace HB := Aside0.mk ((by rw [hw]; exact below_set (HB.out) GB5.out : Below w0.heap.size w0 w8)); replace HK := Aside0.mk (Kept.of_grown (S := (fun k_ => P0_ k_)) hg (by repeat (first | (with_reducible first | exact HK.out | apply Kept.alloc | apply Kept.drewN | apply Kept.drew) | exact HK.out)) (fun k_ e_ => (HO_0.out.1 k_ e_))); replace HO_0 := Aside0.mk (hp_); clear hg hw hp_))
     go_roundg k1
     case measure => have := HK1.out; omega
     case rel => exact ⟨(y381), (wrap64 (x1_1 + 1)), (wrap64 (x5_1 + 1)), S.eA, S.eA, H', ⟨by have := HK1.out; omega⟩, ⟨S.uR HO_0.out⟩, ⟨by repeat (first | (with_reducible first | exact HK.out | apply Kept.alloc | apply Kept.drewN | apply Kept.drew) | exact HK.out)⟩, ⟨S.bA⟩⟩
    ·rw [if_neg c4] at H
     exact absurd H (by simp)
   ·simp only [Option.some.injEq, Prod.mk.injEq] at H
    obtain ⟨rfl, rfl⟩ := H
    obtain ⟨Ao9, co9, eo9⟩ := Kd.R_slice HO_0.out
    subst eo9
    go_wp2
    go_ret
    exact ⟨S.eW, S.uR HO_0.out, S.bA, by repeat (first | (with_reducible first | exact HK.out | apply Kept.alloc | apply Kept.drewN | apply Kept.drew) | exact HK.out)⟩

/-! ### laws_markControl: function 43 -/
def laws_markControl.f (k : Nat) (l0_0 : List Int) (a0_1 : Int) (l0_2 : List Int) (a0_3 : Int) (a1 : Int) : Option (Int × List Int × List Int) := (laws_markIntS.f k l0_0 a1).bind fun bt383 => ((laws_markIntS.f k l0_2 bt383.1).bind fun bt385 => (some (bt385.1, bt383.2, bt385.2)))
set_option maxHeartbeats 8000000 in
set_option maxRecDepth 100000 in
theorem laws_markControl.calls (k : Nat) (P0_0_ : Nat → Prop) (u9000_ : Value) (l0_0 : List Int) (a0_1 : Int) (P0_2_ : Nat → Prop) (u9001_ : Value) (l0_2 : List Int) (a0_3 : Int) (a1 : Int) (r1 : Int) (r2 : List Int) (r3 : List Int) (w0 w : World) (hB : Below w0.heap.size w0 w) (ho0_0 : Kd.R (Kd.int .i64) 3 w w0.heap.size P0_0_ u9000_ l0_0) (hp0_0_0_2 : ∀ k_, P0_0_ k_ → ¬ P0_2_ k_) (ho0_2 : Kd.R (Kd.int .i64) 3 w w0.heap.size P0_2_ u9001_ l0_2) (hp0_2_0_0 : ∀ k_, P0_2_ k_ → ¬ P0_0_ k_) (h : laws_markControl.f k l0_0 a0_1 l0_2 a0_3 a1 = some (r1, r2, r3)) :
  Calls Try.prog 43 #[.agg #[u9000_, .int .i64 a0_1, u9001_, .int .i64 a0_3], .int .i64 a1] w fun e w' => e = .returned (.int .i64 r1) ∧ Kd.R (Kd.int .i64) 3 w' w0.heap.size (fun k_ => ((P0_0_ k_ ∨ P0_2_ k_) ∨ w.heap.size ≤ k_)) u9000_ r2 ∧ Kd.R (Kd.int .i64) 3 w' w0.heap.size (fun k_ => ((P0_0_ k_ ∨ P0_2_ k_) ∨ w.heap.size ≤ k_)) u9001_ r3 ∧ Below w0.heap.size w0 w' ∧ Kept w w' (fun k_ => P0_0_ k_ ∨ P0_2_ k_) := by
 have hu60 := Try.underlying60
 have HO0_0 := Aside0.mk (show Kd.R (Kd.int .i64) 3 w w0.heap.size (fun k_ => ((P0_0_ k_ ∨ P0_2_ k_) ∨ w.heap.size ≤ k_) ∧ some k_ ≠ (u9001_ : Value).ownBlock) u9000_ l0_0 from Kd.R_mono ho0_0 (fun k_ hk => ⟨(.inl (.inl hk)), fun e_ => hp0_0_0_2 k_ hk (ho0_2.1 k_ e_.symm)⟩))
 have HO0_2 := Aside0.mk (show Kd.R (Kd.int .i64) 3 w w0.heap.size (fun k_ => ((P0_0_ k_ ∨ P0_2_ k_) ∨ w.heap.size ≤ k_) ∧ some k_ ≠ (u9000_ : Value).ownBlock) u9001_ l0_2 from Kd.R_mono ho0_2 (fun k_ hk => ⟨(.inl (.inr hk)), fun e_ => hp0_2_0_0 k_ hk (ho0_0.1 k_ e_.symm)⟩))
 have HK := Aside0.mk (Kept.refl w (fun k_ => P0_0_ k_ ∨ P0_2_ k_))
 have HW0 := Aside0.mk hB.size
 have HB := Aside0.mk hB
 clear hB
 have H : ((laws_markIntS.f k l0_0 a1).bind fun bt383 => ((laws_markIntS.f k l0_2 bt383.1).bind fun bt385 => (some (bt385.1, bt383.2, bt385.2)))) = some (r1, r2, r3) := h
 clear h
 replace H := S.bd H; obtain ⟨⟨t383, t384⟩, A3, H⟩ := H
 (try dsimp only at H)
 replace H := S.bd H; obtain ⟨⟨t385, t386⟩, A4, H⟩ := H
 (try dsimp only at H)
 simp only [Option.some.injEq, Prod.mk.injEq] at H
 obtain ⟨rfl, rfl, rfl⟩ := H
 obtain ⟨Ao5, co5, eo5⟩ := Kd.R_slice HO0_0.out
 subst eo5
 obtain ⟨Ao6, co6, eo6⟩ := Kd.R_slice HO0_2.out
 subst eo6
 go_enter Try.func43, Try.ntmps43
 go_wp2_with (first | ((with_reducible refine gate_dst (N := 2) rfl ?_); refine S.bx 2 (cs := #[.slice Ao5 l0_0.length co5, .int .i64 a0_1, .slice Ao6 l0_2.length co6, .int .i64 a0_3]) (t := 60) ?_; intro gb382 hg w7 hbox hb; replace HO0_0 := S.rb HO0_0 hb; replace HO0_2 := S.rb HO0_2 hb; have BK382 := Aside0.mk hbox; have GW382 := Aside0.mk ((by rw [hg]; exact (by first | exact HK.out.1 | exact (show Kept w _ (fun k_ => P0_0_ k_ ∨ P0_2_ k_) from by repeat (first | (with_reducible first | exact HK.out | apply Kept.alloc | apply Kept.drewN | apply Kept.drew) | exact HK.out)).1) : w.heap.size ≤ gb382)); replace HK := Aside0.mk (Kept.below (S := (fun k_ => P0_0_ k_ ∨ P0_2_ k_)) (by repeat (first | (with_reducible first | exact HK.out | apply Kept.alloc | apply Kept.drewN | apply Kept.drew) | exact HK.out)) hb); have GE382 := S.geA hg; replace HB := S.sA hb; clear hb hbox hg; obtain ⟨Z8a, Z8b, Z8c, Z8d, Y8a, Y8b, Y8c, Y8d⟩ := S.c4 BK382.out) | ((with_reducible refine gate_callee (f := 23) rfl ?_); refine S.gL (some 8) Try.func23 #[.slice Ao5 l0_0.length co5, .int .i64 a1] ?_; (with_reducible refine (laws_markIntS.calls k (fun k_ => some k_ = (.slice Ao5 l0_0.length co5 : Value).ownBlock) (.slice Ao5 l0_0.length co5) l0_0 a1 t383 t384 w0 _ ?s1 ?s2 A3.out).mono ?_); (case s1 => exact S.bG); (case s2 => exact Kd.R_tight rfl HO0_0.out); rintro e w9 ⟨rfl, hy0, hb, hkp⟩; refine ⟨_, rfl, ?_⟩; replace HO0_2 := Aside0.mk (Kd.R_mono (ok' := fun k_ => ((P0_0_ k_ ∨ P0_2_ k_) ∨ w.heap.size ≤ k_) ∧ S.N k_ (.slice Ao5 l0_0.length co5)) (Kd.R_keptB (HO0_2.out) hkp (fun k_ hk_ hs_ => (hk_.2) hs_)) (fun k_ hk_ => ⟨hk_.1.1, hk_.1.2⟩)); replace BK382 := Aside0.mk (blk_kept (S.uB BK382.out) hkp (fun hs_ => (fun e_ => (Kd.R_ne HO0_0.out BK382.out (by decide)) e_) hs_)); replace HK := Aside0.mk (Kept.then_ (S := (fun k_ => P0_0_ k_ ∨ P0_2_ k_)) (by repeat (first | (with_reducible first | exact HK.out | apply Kept.alloc | apply Kept.drewN | apply Kept.drew | refine Kept.setCell ?_ (.inr GW382.out) _) | exact HK.out)) hkp (fun k_ hs_ => (fun e_ => (HO0_0.out.1 k_ e_.symm).1) hs_)); replace HO0_0 := Aside0.mk (Kd.R_reok rfl hy0 (fun k_ e_ => HO0_0.out.1 k_ e_)); replace HB := Aside0.mk (hb); (try clear hb); (try clear hkp); (try clear hy0); obtain ⟨Z10a, Z10b, Z10c, Z10d, Y10a, Y10b, Y10c, Y10d⟩ := S.c4 BK382.out) | ((with_reducible refine gate_callee (f := 23) rfl ?_); refine S.gL (some 12) Try.func23 #[.slice Ao6 l0_2.length co6, .int .i64 t383] ?_; (with_reducible refine (laws_markIntS.calls k (fun k_ => some k_ = (.slice Ao6 l0_2.length co6 : Value).ownBlock) (.slice Ao6 l0_2.length co6) l0_2 t383 t385 t386 w0 _ ?s1 ?s2 A4.out).mono ?_); (case s1 => exact S.bG); (case s2 => exact Kd.R_tight rfl HO0_2.out); rintro e w11 ⟨rfl, hy0, hb, hkp⟩; refine ⟨_, rfl, ?_⟩; replace HO0_0 := Aside0.mk (Kd.R_mono (ok' := fun k_ => ((P0_0_ k_ ∨ P0_2_ k_) ∨ w.heap.size ≤ k_) ∧ S.N k_ (.slice Ao6 l0_2.length co6)) (Kd.R_keptB (HO0_0.out) hkp (fun k_ hk_ hs_ => (hk_.2) hs_)) (fun k_ hk_ => ⟨hk_.1.1, hk_.1.2⟩)); replace BK382 := Aside0.mk (blk_kept (S.uB BK382.out) hkp (fun hs_ => (fun e_ => (Kd.R_ne HO0_2.out BK382.out (by decide)) e_) hs_)); replace HK := Aside0.mk (Kept.then_ (S := (fun k_ => P0_0_ k_ ∨ P0_2_ k_)) (by repeat (first | (with_reducible first | exact HK.out | apply Kept.alloc | apply Kept.drewN | apply Kept.drew | refine Kept.setCell ?_ (.inr GW382.out) _) | exact HK.out)) hkp (fun k_ hs_ => (fun e_ => (HO0_2.out.1 k_ e_.symm).1) hs_)); replace HO0_2 := Aside0.mk (Kd.R_reok rfl hy0 (fun k_ e_ => HO0_2.out.1 k_ e_)); replace HB := Aside0.mk (hb); (try clear hb); (try clear hkp); (try clear hy0)))
 go_ret
 exact ⟨S.eW, by (with_reducible repeat (first | apply Kd.R_alloc | apply Kd.R_drewN | apply Kd.R_drew)); exact Kd.R_mono HO0_0.out (fun _ hk => hk.1), by (with_reducible repeat (first | apply Kd.R_alloc | apply Kd.R_drewN | apply Kd.R_drew)); exact Kd.R_mono HO0_2.out (fun _ hk => hk.1), S.bG, by repeat (first | (with_reducible first | exact HK.out | apply Kept.alloc | apply Kept.drewN | apply Kept.drew | refine Kept.setCell ?_ (.inr GW382.out) _) | exact HK.out)⟩

/-! ### laws_heldIntS: function 24 -/
def laws_heldIntS.l0 : Nat → List Int → Int → Int → Option (Int)
 | 0, _, _, _ => none
 | k + 1, x0, x1, x5 => if x5 < (x0.length : Int) then (if 0 ≤ x5 then (if (rd x0 x5) = x1 then (laws_heldIntS.l0 k x0 (wrap64 (x1 + 1)) (wrap64 (x5 + 1))) else (some (-1))) else (none)) else (some x1)
def laws_heldIntS.f (k : Nat) (l0 : List Int) (a1 : Int) : Option (Int) := laws_heldIntS.l0 k l0 a1 0
set_option maxHeartbeats 8000000 in
set_option maxRecDepth 100000 in
theorem laws_heldIntS.calls (k : Nat) (A0 : Option Addr) (c0 : Nat) (l0 : List Int) (a1 : Int) (r : Int) (w : World) (hr0 : Kd.C (Kd.int .i64) w A0 l0.length l0) (hc0 : l0.length ≤ c0) (h : laws_heldIntS.f k l0 a1 = some r) :
  Calls Try.prog 24 #[.slice A0 l0.length c0, .int .i64 a1] w fun e w' => e = .returned (.int .i64 r) ∧ Drawn0 w w' := by
 have HR0 := Aside0.mk hr0
 have HC0 := Aside0.mk hc0
 clear hr0 hc0
 have H : (laws_heldIntS.l0 k l0 a1 0) = some r := h
 clear h
 have H' := Aside0.mk H
 clear H
 go_enter Try.func24, Try.ntmps24
 go_wp2
 go_loopg [1, 5] k (fun kq v1 v5 w' => ∃ (x1_1 : Int) (x5_1 : Int), v1 = .int .i64 x1_1 ∧ v5 = .int .i64 x5_1 ∧ Aside0 (laws_heldIntS.l0 kq l0 x1_1 x5_1 = some r) ∧ Aside0 (kq ≤ k) ∧ Drawn0 w w')
 case atStart => exact ⟨(a1), (0), S.eA, S.eA, H', ⟨Nat.le_refl _⟩, by repeat (first | exact Drawn0.refl _ | apply Drawn0.step)⟩
 case round =>
  clear H'
  obtain ⟨x1_1, x5_1, rfl, rfl, HA, HK1, ⟨m1, rfl⟩⟩ := hrel
  cases gk with
  | zero => exact absurd HA.out (by simp [laws_heldIntS.l0])
  | succ k1 =>
   have H := HA.out
   clear HA
   simp only [laws_heldIntS.l0] at H
   replace H := S.dc H; rcases H with ⟨H, c3b0⟩ | ⟨H, c3b0⟩
   ·by_cases c4 : 0 ≤ x5_1
    ·rw [if_pos c4] at H
     have c4b0 : decide (0 ≤ x5_1) = true := decide_eq_true c4
     clear c4
     by_cases c5 : (rd l0 x5_1) = x1_1
     ·rw [if_pos c5] at H
      have c5b0 : ((rd l0 x5_1) == x1_1) = true := beq_iff_eq.mpr c5
      have c5b1 : ((rd l0 x5_1) != x1_1) = false := bne_eq_false_iff_eq.mpr c5
      clear c5
      have H' := Aside0.mk H
      clear H
      have p387 : 0 ≤ (x5_1 : Int) := S.oD
      have q387 : x5_1 < (l0.length : Int) := S.oD
      obtain ⟨ad387, e387, hx387_0⟩ := Kd.at_int HR0.out x5_1 p387 q387
      cases e387
      replace p387 := eq_true p387
      replace q387 := eq_true q387
      go_wp2
      go_roundg k1
      case measure => have := HK1.out; omega
      case rel => exact ⟨(wrap64 (x1_1 + 1)), (wrap64 (x5_1 + 1)), S.eA, S.eA, H', ⟨by have := HK1.out; omega⟩, by repeat (first | exact Drawn0.refl _ | apply Drawn0.step)⟩
     ·rw [if_neg c5] at H
      have c5b0 : ((rd l0 x5_1) == x1_1) = false := beq_eq_false_iff_ne.mpr c5
      have c5b1 : ((rd l0 x5_1) != x1_1) = true := bne_iff_ne.mpr c5
      obtain rfl := Option.some.inj H
      have p387 : 0 ≤ (x5_1 : Int) := S.oD
      have q387 : x5_1 < (l0.length : Int) := S.oD
      obtain ⟨ad387, e387, hx387_0⟩ := Kd.at_int HR0.out x5_1 p387 q387
      cases e387
      replace p387 := eq_true p387
      replace q387 := eq_true q387
      go_wp2
      go_ret
      exact ⟨S.eA, by repeat (first | exact Drawn0.refl _ | apply Drawn0.step)⟩
    ·rw [if_neg c4] at H
     exact absurd H (by simp)
   ·obtain rfl := Option.some.inj H
    go_wp2
    go_ret
    exact ⟨S.eA, by repeat (first | exact Drawn0.refl _ | apply Drawn0.step)⟩

/-! ### laws_heldControl: function 44 -/
def laws_heldControl.f (k : Nat) (l0_0 : List Int) (a0_1 : Int) (l0_2 : List Int) (a0_3 : Int) (a1 : Int) : Option (Int) := (laws_heldIntS.f k l0_0 a1).bind fun t389 => (if t389 < 0 then (some (-1)) else ((laws_heldIntS.f k l0_2 t389).bind fun t390 => (if t390 < 0 then (some (-1)) else (some t390))))
set_option maxHeartbeats 8000000 in
set_option maxRecDepth 100000 in
theorem laws_heldControl.calls (k : Nat) (A0_0 : Option Addr) (c0_0 : Nat) (l0_0 : List Int) (a0_1 : Int) (A0_2 : Option Addr) (c0_2 : Nat) (l0_2 : List Int) (a0_3 : Int) (a1 : Int) (r : Int) (w : World) (hr0_0 : Kd.C (Kd.int .i64) w A0_0 l0_0.length l0_0) (hc0_0 : l0_0.length ≤ c0_0) (hr0_2 : Kd.C (Kd.int .i64) w A0_2 l0_2.length l0_2) (hc0_2 : l0_2.length ≤ c0_2) (h : laws_heldControl.f k l0_0 a0_1 l0_2 a0_3 a1 = some r) :
  Calls Try.prog 44 #[.agg #[.slice A0_0 l0_0.length c0_0, .int .i64 a0_1, .slice A0_2 l0_2.length c0_2, .int .i64 a0_3], .int .i64 a1] w fun e w' => e = .returned (.int .i64 r) ∧ Below w.heap.size w w' := by
 have hu60 := Try.underlying60
 have HR0_0 := Aside0.mk hr0_0
 have HC0_0 := Aside0.mk hc0_0
 clear hr0_0 hc0_0
 have HR0_2 := Aside0.mk hr0_2
 have HC0_2 := Aside0.mk hc0_2
 clear hr0_2 hc0_2
 have HB := Aside0.mk (Below.refl w.heap.size w)
 have H : ((laws_heldIntS.f k l0_0 a1).bind fun t389 => (if t389 < 0 then (some (-1)) else ((laws_heldIntS.f k l0_2 t389).bind fun t390 => (if t390 < 0 then (some (-1)) else (some t390))))) = some r := h
 clear h
 replace H := S.bd H; obtain ⟨t389, A3, H⟩ := H
 (try dsimp only at H)
 replace H := S.dc H; rcases H with ⟨H, c4b0⟩ | ⟨H, c4b0⟩
 ·obtain rfl := Option.some.inj H
  go_enter Try.func44, Try.ntmps44
  go_wp2_with (first | ((with_reducible refine gate_dst (N := 2) rfl ?_); refine S.bx 2 (cs := #[.slice A0_0 l0_0.length c0_0, .int .i64 a0_1, .slice A0_2 l0_2.length c0_2, .int .i64 a0_3]) (t := 60) ?_; intro gb388 hg w5 hbox hb; have BK388 := Aside0.mk hbox; have GW388 := S.geA hg; have GE388 := S.geA hg; replace HB := S.sA hb; clear hb hbox hg; obtain ⟨Z6a, Z6b, Z6c, Z6d, Y6a, Y6b, Y6c, Y6d⟩ := S.c4 BK388.out) | ((with_reducible refine gate_callee (f := 24) rfl ?_); refine S.gL (some 8) Try.func24 #[.slice A0_0 l0_0.length c0_0, .int .i64 a1] ?_; (with_reducible refine (laws_heldIntS.calls k _ _ l0_0 a1 t389 _ ?s1 HC0_0.out A3.out).mono ?_); (case s1 => exact S.cA HR0_0.out); rintro e w' ⟨rfl, ⟨nd, rfl⟩⟩; refine ⟨_, rfl, ?_⟩))
  go_ret
  exact ⟨S.eW, S.bG⟩
 ·replace H := Option.bind_eq_some_iff.mp H
  obtain ⟨t390, A70, H⟩ := H
  replace H : (if t390 < 0 then (some (-1)) else (some t390)) = some r := H
  have A7 := Aside0.mk A70
  clear A70
  replace H := S.dc H; rcases H with ⟨H, c8b0⟩ | ⟨H, c8b0⟩
  ·obtain rfl := Option.some.inj H
   go_enter Try.func44, Try.ntmps44
   go_wp2_with (first | ((with_reducible refine gate_dst (N := 2) rfl ?_); refine S.bx 2 (cs := #[.slice A0_0 l0_0.length c0_0, .int .i64 a0_1, .slice A0_2 l0_2.length c0_2, .int .i64 a0_3]) (t := 60) ?_; intro gb388 hg w9 hbox hb; have BK388 := Aside0.mk hbox; have GW388 := S.geA hg; have GE388 := S.geA hg; replace HB := S.sA hb; clear hb hbox hg; obtain ⟨Z10a, Z10b, Z10c, Z10d, Y10a, Y10b, Y10c, Y10d⟩ := S.c4 BK388.out) | ((with_reducible refine gate_callee (f := 24) rfl ?_); refine S.gL (some 8) Try.func24 #[.slice A0_0 l0_0.length c0_0, .int .i64 a1] ?_; (with_reducible refine (laws_heldIntS.calls k _ _ l0_0 a1 t389 _ ?s1 HC0_0.out A3.out).mono ?_); (case s1 => exact S.cA HR0_0.out); rintro e w' ⟨rfl, ⟨nd, rfl⟩⟩; refine ⟨_, rfl, ?_⟩) | ((with_reducible refine gate_callee (f := 24) rfl ?_); refine S.gL (some 14) Try.func24 #[.slice A0_2 l0_2.length c0_2, .int .i64 t389] ?_; (with_reducible refine (laws_heldIntS.calls k _ _ l0_2 t389 t390 _ ?s1 HC0_2.out A7.out).mono ?_); (case s1 => repeat (first | exact (Kd.C_below HR0_2.out S.bG) | (with_reducible refine Kd.C_alloc ?_ _) | (with_reducible refine Kd.C_drewN ?_ _) | (with_reducible refine Kd.C_drew ?_))); rintro e w' ⟨rfl, ⟨nd, rfl⟩⟩; refine ⟨_, rfl, ?_⟩))
   go_ret
   exact ⟨S.eW, S.bG⟩
  ·obtain rfl := Option.some.inj H
   go_enter Try.func44, Try.ntmps44
   go_wp2_with (first | ((with_reducible refine gate_dst (N := 2) rfl ?_); refine S.bx 2 (cs := #[.slice A0_0 l0_0.length c0_0, .int .i64 a0_1, .slice A0_2 l0_2.length c0_2, .int .i64 a0_3]) (t := 60) ?_; intro gb388 hg w11 hbox hb; have BK388 := Aside0.mk hbox; have GW388 := S.geA hg; have GE388 := S.geA hg; replace HB := S.sA hb; clear hb hbox hg; obtain ⟨Z12a, Z12b, Z12c, Z12d, Y12a, Y12b, Y12c, Y12d⟩ := S.c4 BK388.out) | ((with_reducible refine gate_callee (f := 24) rfl ?_); refine S.gL (some 8) Try.func24 #[.slice A0_0 l0_0.length c0_0, .int .i64 a1] ?_; (with_reducible refine (laws_heldIntS.calls k _ _ l0_0 a1 t389 _ ?s1 HC0_0.out A3.out).mono ?_); (case s1 => exact S.cA HR0_0.out); rintro e w' ⟨rfl, ⟨nd, rfl⟩⟩; refine ⟨_, rfl, ?_⟩) | ((with_reducible refine gate_callee (f := 24) rfl ?_); refine S.gL (some 14) Try.func24 #[.slice A0_2 l0_2.length c0_2, .int .i64 t389] ?_; (with_reducible refine (laws_heldIntS.calls k _ _ l0_2 t389 t390 _ ?s1 HC0_2.out A7.out).mono ?_); (case s1 => repeat (first | exact (Kd.C_below HR0_2.out S.bG) | (with_reducible refine Kd.C_alloc ?_ _) | (with_reducible refine Kd.C_drewN ?_ _) | (with_reducible refine Kd.C_drew ?_))); rintro e w' ⟨rfl, ⟨nd, rfl⟩⟩; refine ⟨_, rfl, ?_⟩))
   go_ret
   exact ⟨S.eW, S.bG⟩

end Go.Proofs.Ytopchlafmfgpnaa.PFnExactCutFor
