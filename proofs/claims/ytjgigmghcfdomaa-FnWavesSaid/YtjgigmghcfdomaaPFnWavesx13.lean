/- Printed by a program: what the Go functions compute, as plain Lean functions (.f), and the proofs that the machine's calls come to just that (.calls). -/
import Derived.Test.YtjgigmghcfdomaaPFnWavesx0
import Derived.Test.YtjgigmghcfdomaaPFnWavesx3
import Derived.Test.YtjgigmghcfdomaaPFnWavesx4
import Derived.Test.YtjgigmghcfdomaaPFnWavesx5
import Derived.Test.YtjgigmghcfdomaaPFnWavesx6
import Derived.Test.YtjgigmghcfdomaaPFnWavesx12
namespace Go.Proofs.Ytjgigmghcfdomaa.PFnWaves
open Go.RowKit Go.Proofs.YtjgigmghcfdomaaW.PrintWords Go.Proofs.YtjgigmghcfdomaaW.PrintLast Go.Proofs.YtjgigmghcfdomaaW.PrintMore
attribute [local go_sem] max2_int min2_int max_two min_two max_three min_three max_four min_four   -- for this text's walks alone
set_option linter.unusedVariables false
set_option linter.unusedSimpArgs false
/-! ### laws_FnWaves: function 8 -/
mutual
def laws_FnWaves.j0 : Nat → List Int → Int → Int → Int → Bool → Int → Int → Int → Int → Option (Bool)
 | 0, _, _, _, _, _, _, _, _, _ => none
 | k + 1, x0, x5, x6, x9, x44, x710000, x710001, x711000, x711001 => if x44 = true then (some false) else ((impl_BestOffset.f k x710000 x710001 x711000 x711001 x5 x6).bind fun t713 => ((impl_IsWindow.f x710000 x710001 x5).bind fun t714 => (if t714 = true then ((impl_IsWindow.f x711000 x711001 x5).bind fun t715 => (if t715 = true then (if x6 ≥ 0 then (laws_FnWaves.j1 k x0 x5 x6 x9 t713 ((decide (t713 ≥ 0)) != (decide (x6 ≤ 100000))) x710000 x710001 x711000 x711001) else (laws_FnWaves.j1 k x0 x5 x6 x9 t713 ((decide (t713 ≥ 0)) != false) x710000 x710001 x711000 x711001)) else (laws_FnWaves.j1 k x0 x5 x6 x9 t713 ((decide (t713 ≥ 0)) != false) x710000 x710001 x711000 x711001))) else (laws_FnWaves.j1 k x0 x5 x6 x9 t713 ((decide (t713 ≥ 0)) != false) x710000 x710001 x711000 x711001))))
def laws_FnWaves.j1 : Nat → List Int → Int → Int → Int → Int → Bool → Int → Int → Int → Int → Option (Bool)
 | 0, _, _, _, _, _, _, _, _, _, _ => none
 | k + 1, x0, x5, x6, x9, x10, x68, x710000, x710001, x711000, x711001 => if x68 = true then (some false) else (if x10 ≥ 0 then (if x10 ≥ x5 then (laws_FnWaves.j2 k x0 true) else ((impl_Band.f k x710000 x710001 x711000 x711001 x5 x6 x10).bind fun t716 => (laws_FnWaves.j2 k x0 (t716 != x9)))) else (laws_FnWaves.j2 k x0 false))
def laws_FnWaves.j2 : Nat → List Int → Bool → Option (Bool)
 | 0, _, _ => none
 | k + 1, x0, x85 => if x85 = true then (some false) else ((spec_DrawWindowOf.f k x0).bind fun bt717 => ((impl_WindowOf.f k bt717.1 bt717.2.1 bt717.2.2).bind fun bt724 => (if bt724.2.2 = true then ((impl_Cycle.f k bt717.1 bt717.2.1).bind fun t728 => ((impl_IsWindow.f bt724.1 bt724.2.1 t728).bind fun t729 => (if t729 = true then ((impl_GreenOf.f k bt717.1 bt717.2.1 bt717.2.2).bind fun t730 => (if bt724.2.1 > t730 then (laws_FnWaves.j3 k bt717.1 bt717.2.1 bt717.2.2 t728 true bt724.1 bt724.2.1) else (laws_FnWaves.j3 k bt717.1 bt717.2.1 bt717.2.2 t728 (decide (bt724.2.1 < 5)) bt724.1 bt724.2.1))) else (laws_FnWaves.j3 k bt717.1 bt717.2.1 bt717.2.2 t728 true bt724.1 bt724.2.1)))) else (some true))))
def laws_FnWaves.j3 : Nat → List (S71) → List (S85) → Int → Int → Bool → Int → Int → Option (Bool)
 | 0, _, _, _, _, _, _, _ => none
 | k + 1, x11, x12, x13, x16, x120, x728000, x728001 => if x120 = true then (some false) else (laws_FnWaves.l0 k x11 x12 x13 x16 0 x728000 x728001)
def laws_FnWaves.l0 : Nat → List (S71) → List (S85) → Int → Int → Int → Int → Int → Option (Bool)
 | 0, _, _, _, _, _, _, _ => none
 | k + 1, x11, x12, x13, x16, x17, x728000, x728001 => if x17 < x16 then ((impl_InWindow.f x728000 x728001 x16 0 x17).bind fun t731 => (if t731 = true then ((impl_LightAt.f k x11 x12 x17 x13).bind fun t732 => (if t732 = 1 then (laws_FnWaves.l0 k x11 x12 x13 x16 (wrap64 (x17 + 1)) x728000 x728001) else (some false))) else (laws_FnWaves.l0 k x11 x12 x13 x16 (wrap64 (x17 + 1)) x728000 x728001))) else (some true)
end
def laws_FnWaves.f (k : Nat) (l0 : List Int) : Option (Bool) := (laws_big.f l0).bind fun t701 => (if t701 = true then (some true) else ((spec_DrawBand.f k l0).bind fun bt702 => ((impl_Band.f k bt702.1 bt702.2.1 bt702.2.2.1 bt702.2.2.2.1 bt702.2.2.2.2.1 bt702.2.2.2.2.2.1 bt702.2.2.2.2.2.2).bind fun t711 => ((impl_GreatestBand.f bt702.1 bt702.2.1 bt702.2.2.1 bt702.2.2.2.1 bt702.2.2.2.2.1).bind fun t712 => (if t711 < 0 then (laws_FnWaves.j0 k l0 bt702.2.2.2.2.1 bt702.2.2.2.2.2.1 t712 true bt702.1 bt702.2.1 bt702.2.2.1 bt702.2.2.2.1) else (laws_FnWaves.j0 k l0 bt702.2.2.2.2.1 bt702.2.2.2.2.2.1 t712 (decide (t711 > t712)) bt702.1 bt702.2.1 bt702.2.2.1 bt702.2.2.2.1))))))
def laws_FnWaves.T17 : Bool × List (List Nat × List Nat) := (true, [([], []), ([], []), ([0, 1], [0, 1]), ([2], [2]), ([3, 2], [3]), ([4], [4]), ([5, 4], [4, 5]), ([4], [4]), ([4], [4]), ([4], [4]), ([7, 8, 9, 4, 4], [4, 7, 8, 9]), ([6, 10, 4], [4, 6, 10]), ([4, 11], [4, 11]), ([12, 10], [12]), ([13], [13]), ([14, 13], [13, 14]), ([15, 13], [13, 15]), ([13, 16], [13, 16])])
def laws_FnWaves.B17 : List Nat := [0, 0, 3, 7, 15, 31, 63, 31, 31, 31, 927, 2047, 4095, 8191, 16383, 32767, 65535, 131071]
theorem laws_FnWaves.tab17 : rtab .any (opsOf Try.f8 17) = laws_FnWaves.T17 := by kernel_rfl
theorem laws_FnWaves.bits17 : waitsOk laws_FnWaves.T17.2 laws_FnWaves.B17 = true := by kernel_rfl
set_option maxHeartbeats 8000000 in
set_option maxRecDepth 100000 in
theorem laws_FnWaves.calls (k : Nat) (A0 : Option Addr) (c0 : Nat) (l0 : List Int) (r : Bool) (w : World) (hr0 : Kd.C (Kd.int .u8) w A0 l0.length l0) (hc0 : l0.length ≤ c0) (h : laws_FnWaves.f k l0 = some r) :
  Calls Try.prog 8 #[.slice A0 l0.length c0] w fun e w' => e = .returned (.bool r) ∧ Below w.heap.size w w' := by
 have hu45 := Try.underlying45
 have HR0 := Aside0.mk hr0
 have HC0 := Aside0.mk hc0
 clear hr0 hc0
 have HB := Aside0.mk (Below.refl w.heap.size w)
 have H : ((laws_big.f l0).bind fun t701 => (if t701 = true then (some true) else ((spec_DrawBand.f k l0).bind fun bt702 => ((impl_Band.f k bt702.1 bt702.2.1 bt702.2.2.1 bt702.2.2.2.1 bt702.2.2.2.2.1 bt702.2.2.2.2.2.1 bt702.2.2.2.2.2.2).bind fun t711 => ((impl_GreatestBand.f bt702.1 bt702.2.1 bt702.2.2.1 bt702.2.2.2.1 bt702.2.2.2.2.1).bind fun t712 => (if t711 < 0 then (laws_FnWaves.j0 k l0 bt702.2.2.2.2.1 bt702.2.2.2.2.2.1 t712 true bt702.1 bt702.2.1 bt702.2.2.1 bt702.2.2.2.1) else (laws_FnWaves.j0 k l0 bt702.2.2.2.2.1 bt702.2.2.2.2.2.1 t712 (decide (t711 > t712)) bt702.1 bt702.2.1 bt702.2.2.1 bt702.2.2.2.1))))))) = some r := h
 clear h
 replace H := S.bd H; obtain ⟨t701, A2, H⟩ := H
 (try dsimp only at H)
 replace H := S.db H; rcases H with ⟨rfl, H⟩ | ⟨rfl, H⟩
 ·obtain rfl := Option.some.inj H
  go_enter Try.func8, Try.ntmps8
  go_wp2_with (first | ((with_reducible refine gate_callee (f := 34) rfl ?_); refine S.gL (some 19) Try.func34 #[.slice A0 l0.length c0] ?_; (with_reducible refine (laws_big.calls _ _ l0 true _ ?s1 HC0.out A2.out).mono ?_); (case s1 => repeat (first | exact HR0.out | (with_reducible refine Kd.C_alloc ?_ _) | (with_reducible refine Kd.C_drewN ?_ _) | (with_reducible refine Kd.C_drew ?_))); rintro e w' ⟨rfl, ⟨nd, rfl⟩⟩; refine ⟨_, rfl, ?_⟩))
  go_ret
  exact ⟨S.eW, S.bA⟩
 ·replace H := S.bd H; obtain ⟨⟨t702, t703, t704, t705, t706, t707, t708⟩, A4, H⟩ := H
  (try dsimp only at H)
  replace H := S.bd H; obtain ⟨t711, A5, H⟩ := H
  (try dsimp only at H)
  replace H := S.bd H; obtain ⟨t712, A6, H⟩ := H
  (try dsimp only at H)
  have HC7 := Aside0.mk H
  clear H
  go_enter Try.func8, Try.ntmps8
  go_upto_region 6 with (first | ((with_reducible refine gate_callee (f := 34) rfl ?_); refine S.gL (some 19) Try.func34 #[.slice A0 l0.length c0] ?_; (with_reducible refine (laws_big.calls _ _ l0 false _ ?s1 HC0.out A2.out).mono ?_); (case s1 => repeat (first | exact HR0.out | (with_reducible refine Kd.C_alloc ?_ _) | (with_reducible refine Kd.C_drewN ?_ _) | (with_reducible refine Kd.C_drew ?_))); rintro e w' ⟨rfl, ⟨nd, rfl⟩⟩; refine ⟨_, rfl, ?_⟩) | ((with_reducible refine gate_callee (f := 35) rfl ?_); refine S.gL (some 22) Try.func35 #[.slice A0 l0.length c0] ?_; (with_reducible refine (spec_DrawBand.calls k _ _ l0 t702 t703 t704 t705 t706 t707 t708 _ ?s1 HC0.out A4.out).mono ?_); (case s1 => repeat (first | exact HR0.out | (with_reducible refine Kd.C_alloc ?_ _) | (with_reducible refine Kd.C_drewN ?_ _) | (with_reducible refine Kd.C_drew ?_))); rintro e w8 ⟨rfl, hb⟩; refine ⟨_, rfl, ?_⟩; replace HB := S.sA hb; (try clear hb)) | ((with_reducible refine gate_dst (N := 3) rfl ?_); refine S.bx 3 (cs := #[.int .i64 0, .int .i64 0]) (t := 45) ?_; intro gb709 hg w9 hbox hb; have BK709 := Aside0.mk hbox; have GW709 := S.geA hg; have GE709 := S.geA hg; replace HB := S.sA hb; clear hb hbox hg) | ((with_reducible refine gate_dst (N := 4) rfl ?_); refine S.bx 4 (cs := #[.int .i64 0, .int .i64 0]) (t := 45) ?_; intro gb710 hg w10 hbox hb; have BK710 := Aside0.mk hbox; have GW710 := S.geG hg; have GE710 := S.geG hg; replace HB := S.sG hb; have NB709_710 := S.nl hg BK709; have NB710_709 := S.ng hg BK709; replace BK709 := S.kb BK709 hb; clear hb hbox hg; have hnb11 := NB709_710.out; have hnc11 := NB710_709.out; obtain ⟨Z12a, Z12b, Y12a, Y12b⟩ := S.c2 BK709.out; obtain ⟨Z13a, Z13b, Y13a, Y13b⟩ := S.c2 BK710.out) | ((with_reducible refine gate_callee (f := 36) rfl ?_); refine S.gL (some 33) Try.func36 #[.agg #[.int .i64 t702, .int .i64 t703], .agg #[.int .i64 t704, .int .i64 t705], .int .i64 t706, .int .i64 t707, .int .i64 t708] ?_; (with_reducible refine (impl_Band.calls k t702 t703 t704 t705 t706 t707 t708 t711 _ A5.out).mono ?_); rintro e w14 ⟨rfl, hb⟩; refine ⟨_, rfl, ?_⟩; replace BK709 := Aside0.mk (blk_below (g := gb709) (o := .cells #[.int .i64 t702, .int .i64 t703] 45 (0, 0)) (by (with_reducible repeat (first | refine blk_drewN ?_ _ | refine blk_drew ?_ | refine blk_alloc ?_ _)); refine blk_far ?_ NB709_710.out _; (with_reducible repeat (first | refine blk_drewN ?_ _ | refine blk_drew ?_ | refine blk_alloc ?_ _)); refine blk_far ?_ NB709_710.out _; (with_reducible repeat (first | refine blk_drewN ?_ _ | refine blk_drew ?_ | refine blk_alloc ?_ _)); refine blk_put (cs := #[.int .i64 t702, .int .i64 0]) ?_ 1 _ rfl; (with_reducible repeat (first | refine blk_drewN ?_ _ | refine blk_drew ?_ | refine blk_alloc ?_ _)); refine blk_put (cs := #[.int .i64 0, .int .i64 0]) ?_ 0 _ rfl; (with_reducible repeat (first | refine blk_drewN ?_ _ | refine blk_drew ?_ | refine blk_alloc ?_ _)); exact BK709.out) hb); replace BK710 := Aside0.mk (blk_below (g := gb710) (o := .cells #[.int .i64 t704, .int .i64 t705] 45 (0, 0)) (by (with_reducible repeat (first | refine blk_drewN ?_ _ | refine blk_drew ?_ | refine blk_alloc ?_ _)); refine blk_put (cs := #[.int .i64 t704, .int .i64 0]) ?_ 1 _ rfl; (with_reducible repeat (first | refine blk_drewN ?_ _ | refine blk_drew ?_ | refine blk_alloc ?_ _)); refine blk_put (cs := #[.int .i64 0, .int .i64 0]) ?_ 0 _ rfl; (with_reducible repeat (first | refine blk_drewN ?_ _ | refine blk_drew ?_ | refine blk_alloc ?_ _)); refine blk_far ?_ NB710_709.out _; (with_reducible repeat (first | refine blk_drewN ?_ _ | refine blk_drew ?_ | refine blk_alloc ?_ _)); refine blk_far ?_ NB710_709.out _; (with_reducible repeat (first | refine blk_drewN ?_ _ | refine blk_drew ?_ | refine blk_alloc ?_ _)); exact BK710.out) hb); replace HB := S.sG hb; (try clear hb); obtain ⟨Z15a, Z15b, Y15a, Y15b⟩ := S.c2 BK709.out; obtain ⟨Z16a, Z16b, Y16a, Y16b⟩ := S.c2 BK710.out) | ((with_reducible refine gate_callee (f := 37) rfl ?_); refine S.gL (some 37) Try.func37 #[.agg #[.int .i64 t702, .int .i64 t703], .agg #[.int .i64 t704, .int .i64 t705], .int .i64 t706] ?_; (with_reducible refine (impl_GreatestBand.calls t702 t703 t704 t705 t706 t712 _ A6.out).mono ?_); rintro e w17 ⟨rfl, hb⟩; refine ⟨_, rfl, ?_⟩; replace BK709 := S.kb BK709 hb; replace BK710 := S.kb BK710 hb; replace HB := S.sG hb; (try clear hb)))
  (try simp only [Act.put, List.setIfInBounds_toArray, List.set_cons_zero, List.set_cons_succ])
  go_cut [44] (fun v44 wc => ∃ (kq : Nat) (x44_6 : Bool), v44 = .bool x44_6 ∧ Aside0 (laws_FnWaves.j0 kq l0 t706 t707 t712 x44_6 t702 t703 t704 t705 = some r) ∧ Aside0 (kq ≤ k) ∧ Aside0 (wc.heap[gb709]? = some (.cells #[.int .i64 t702, .int .i64 t703] 45 (0, 0))) ∧ Aside0 (wc.heap[gb710]? = some (.cells #[.int .i64 t704, .int .i64 t705] 45 (0, 0))) ∧ Aside0 (Below w.heap.size w wc))
  case first =>
   have H := HC7.out
   clear HC7
   replace H := S.dc H; rcases H with ⟨H, c18b0⟩ | ⟨H, c18b0⟩
   ·(first | rw [c18b0] | (simp only [i64_w, i32_w]; rw [c18b0]) | skip)
    have H' := Aside0.mk H
    clear H
    go_wp2
    go_meet
    case rel => exact ⟨_, (true), S.eA, H', S.le, ⟨S.uB BK709.out⟩, ⟨S.uB BK710.out⟩, ⟨S.bG⟩⟩
   ·(first | rw [c18b0] | (simp only [i64_w, i32_w]; rw [c18b0]) | skip)
    have H' := Aside0.mk H
    clear H
    go_wp2
    go_meet
    case rel => exact ⟨_, (decide (t711 > t712)), S.eA, H', S.le, ⟨S.uB BK709.out⟩, ⟨S.uB BK710.out⟩, ⟨S.bG⟩⟩
  case rest =>
   clear HC7
   try clear c3
   try clear Z12a
   try clear Z12b
   try clear Z13a
   try clear Z13b
   try clear Z15a
   try clear Z15b
   try clear Z16a
   try clear Z16b
   try clear Y12a
   try clear Y12b
   try clear Y13a
   try clear Y13b
   try clear Y15a
   try clear Y15b
   try clear Y16a
   try clear Y16b
   obtain ⟨kq, x44_6, rfl, HA, HJ6, BK709, BK710, HB⟩ := hcut
   cases kq with
   | zero => exact absurd HA.out (by simp [laws_FnWaves.j0])
   | succ kj6 =>
    have H := HA.out
    clear HA
    simp only [laws_FnWaves.j0] at H
    replace H := S.db H; rcases H with ⟨rfl, H⟩ | ⟨rfl, H⟩
    ·obtain rfl := Option.some.inj H
     go_wp2
     go_ret
     exact ⟨S.eW, S.bG⟩
    ·replace H := S.bd H; obtain ⟨t713, A20, H⟩ := H
     (try dsimp only at H)
     have HC21 := Aside0.mk H
     clear H
     have hnb22 := NB709_710.out
     have hnc22 := NB710_709.out
     obtain ⟨Z23a, Z23b, Y23a, Y23b⟩ := S.c2 BK709.out
     obtain ⟨Z24a, Z24b, Y24a, Y24b⟩ := S.c2 BK710.out
     go_upto_region 9 with (first | ((with_reducible refine gate_callee (f := 38) rfl ?_); refine S.gL (some 49) Try.func38 #[.agg #[.int .i64 t702, .int .i64 t703], .agg #[.int .i64 t704, .int .i64 t705], .int .i64 t706, .int .i64 t707] ?_; (with_reducible refine (impl_BestOffset.calls kj6 t702 t703 t704 t705 t706 t707 t713 _ A20.out).mono ?_); rintro e w25 ⟨rfl, hb⟩; refine ⟨_, rfl, ?_⟩; replace BK709 := S.kb BK709 hb; replace BK710 := S.kb BK710 hb; replace HB := S.sG hb; (try clear hb)))
     (try simp only [Act.put, List.setIfInBounds_toArray, List.set_cons_zero, List.set_cons_succ])
     go_cut [68] (fun v68 wc => ∃ (kq : Nat) (x68_20 : Bool), v68 = .bool x68_20 ∧ Aside0 (laws_FnWaves.j1 kq l0 t706 t707 t712 t713 x68_20 t702 t703 t704 t705 = some r) ∧ Aside0 (kq ≤ kj6) ∧ Aside0 (wc.heap[gb709]? = some (.cells #[.int .i64 t702, .int .i64 t703] 45 (0, 0))) ∧ Aside0 (wc.heap[gb710]? = some (.cells #[.int .i64 t704, .int .i64 t705] 45 (0, 0))) ∧ Aside0 (Below w.heap.size w wc))
     case first =>
      have H := HC21.out
      clear HC21
      replace H := S.bd H; obtain ⟨t714, A26, H⟩ := H
      (try dsimp only at H)
      replace H := S.db H; rcases H with ⟨rfl, H⟩ | ⟨rfl, H⟩
      ·replace H := S.bd H; obtain ⟨t715, A28, H⟩ := H
       (try dsimp only at H)
       replace H := S.db H; rcases H with ⟨rfl, H⟩ | ⟨rfl, H⟩
       ·by_cases c30 : t707 ≥ 0
        ·rw [if_pos c30] at H
         have c30b0 : decide (0 ≤ t707) = true := decide_eq_true c30
         clear c30
         (first | rw [c30b0] | (simp only [i64_w, i32_w]; rw [c30b0]) | skip)
         have H' := Aside0.mk H
         clear H
         have hnb31 := NB709_710.out
         have hnc31 := NB710_709.out
         obtain ⟨Z32a, Z32b, Y32a, Y32b⟩ := S.c2 BK709.out
         go_wp2_with (first | ((with_reducible refine gate_callee (f := 39) rfl ?_); refine S.gL (some 54) Try.func39 #[.agg #[.int .i64 t702, .int .i64 t703], .int .i64 t706] ?_; (with_reducible refine (impl_IsWindow.calls t702 t703 t706 true _ A26.out).mono ?_); rintro e w33 ⟨rfl, hb⟩; refine ⟨_, rfl, ?_⟩; replace BK709 := S.kb BK709 hb; replace BK710 := S.kb BK710 hb; replace HB := S.sG hb; (try clear hb); obtain ⟨Z34a, Z34b, Y34a, Y34b⟩ := S.c2 BK710.out) | (go_at_call 39; (with_reducible refine (impl_IsWindow.calls t704 t705 t706 true _ A28.out).mono ?_); rintro e w35 ⟨rfl, hb⟩; replace BK709 := S.kb BK709 hb; replace BK710 := S.kb BK710 hb; replace HB := S.sG hb; (try clear hb)))
         go_meet
         case rel => exact ⟨_, (((decide (t713 ≥ 0)) != (decide (t707 ≤ 100000)))), S.eA, H', ⟨by have := HJ6.out; first | omega | exact Nat.le_refl _⟩, ⟨S.uB BK709.out⟩, ⟨S.uB BK710.out⟩, ⟨S.bG⟩⟩
        ·rw [if_neg c30] at H
         have c30b0 : decide (0 ≤ t707) = false := decide_eq_false c30
         clear c30
         (first | rw [c30b0] | (simp only [i64_w, i32_w]; rw [c30b0]) | skip)
         have H' := Aside0.mk H
         clear H
         have hnb36 := NB709_710.out
         have hnc36 := NB710_709.out
         obtain ⟨Z37a, Z37b, Y37a, Y37b⟩ := S.c2 BK709.out
         go_wp2_with (first | ((with_reducible refine gate_callee (f := 39) rfl ?_); refine S.gL (some 54) Try.func39 #[.agg #[.int .i64 t702, .int .i64 t703], .int .i64 t706] ?_; (with_reducible refine (impl_IsWindow.calls t702 t703 t706 true _ A26.out).mono ?_); rintro e w38 ⟨rfl, hb⟩; refine ⟨_, rfl, ?_⟩; replace BK709 := S.kb BK709 hb; replace BK710 := S.kb BK710 hb; replace HB := S.sG hb; (try clear hb); obtain ⟨Z39a, Z39b, Y39a, Y39b⟩ := S.c2 BK710.out) | (go_at_call 39; (with_reducible refine (impl_IsWindow.calls t704 t705 t706 true _ A28.out).mono ?_); rintro e w40 ⟨rfl, hb⟩; replace BK709 := S.kb BK709 hb; replace BK710 := S.kb BK710 hb; replace HB := S.sG hb; (try clear hb)))
         go_meet
         case rel => exact ⟨_, (((decide (t713 ≥ 0)) != false)), S.eA, H', ⟨by have := HJ6.out; first | omega | exact Nat.le_refl _⟩, ⟨S.uB BK709.out⟩, ⟨S.uB BK710.out⟩, ⟨S.bG⟩⟩
       ·have H' := Aside0.mk H
        clear H
        have hnb41 := NB709_710.out
        have hnc41 := NB710_709.out
        obtain ⟨Z42a, Z42b, Y42a, Y42b⟩ := S.c2 BK709.out
        go_wp2_with (first | ((with_reducible refine gate_callee (f := 39) rfl ?_); refine S.gL (some 54) Try.func39 #[.agg #[.int .i64 t702, .int .i64 t703], .int .i64 t706] ?_; (with_reducible refine (impl_IsWindow.calls t702 t703 t706 true _ A26.out).mono ?_); rintro e w43 ⟨rfl, hb⟩; refine ⟨_, rfl, ?_⟩; replace BK709 := S.kb BK709 hb; replace BK710 := S.kb BK710 hb; replace HB := S.sG hb; (try clear hb); obtain ⟨Z44a, Z44b, Y44a, Y44b⟩ := S.c2 BK710.out) | (go_at_call 39; (with_reducible refine (impl_IsWindow.calls t704 t705 t706 false _ A28.out).mono ?_); rintro e w45 ⟨rfl, hb⟩; replace BK709 := S.kb BK709 hb; replace BK710 := S.kb BK710 hb; replace HB := S.sG hb; (try clear hb)))
        go_meet
        case rel => exact ⟨_, (((decide (t713 ≥ 0)) != false)), S.eA, H', ⟨by have := HJ6.out; first | omega | exact Nat.le_refl _⟩, ⟨S.uB BK709.out⟩, ⟨S.uB BK710.out⟩, ⟨S.bG⟩⟩
      ·have H' := Aside0.mk H
       clear H
       have hnb46 := NB709_710.out
       have hnc46 := NB710_709.out
       obtain ⟨Z47a, Z47b, Y47a, Y47b⟩ := S.c2 BK709.out
       go_wp2_with (first | ((with_reducible refine gate_callee (f := 39) rfl ?_); refine S.gL (some 54) Try.func39 #[.agg #[.int .i64 t702, .int .i64 t703], .int .i64 t706] ?_; (with_reducible refine (impl_IsWindow.calls t702 t703 t706 false _ A26.out).mono ?_); rintro e w48 ⟨rfl, hb⟩; refine ⟨_, rfl, ?_⟩; replace BK709 := S.kb BK709 hb; replace BK710 := S.kb BK710 hb; replace HB := S.sG hb; (try clear hb)))
       go_meet
       case rel => exact ⟨_, (((decide (t713 ≥ 0)) != false)), S.eA, H', ⟨by have := HJ6.out; first | omega | exact Nat.le_refl _⟩, ⟨S.uB BK709.out⟩, ⟨S.uB BK710.out⟩, ⟨S.bG⟩⟩
     case rest =>
      clear HC21
      try clear c3
      try clear c19
      try clear Z12a
      try clear Z12b
      try clear Z13a
      try clear Z13b
      try clear Z15a
      try clear Z15b
      try clear Z16a
      try clear Z16b
      try clear Z23a
      try clear Z23b
      try clear Z24a
      try clear Z24b
      try clear Y12a
      try clear Y12b
      try clear Y13a
      try clear Y13b
      try clear Y15a
      try clear Y15b
      try clear Y16a
      try clear Y16b
      try clear Y23a
      try clear Y23b
      try clear Y24a
      try clear Y24b
      obtain ⟨kq, x68_20, rfl, HA, HJ20, BK709, BK710, HB⟩ := hcut
      cases kq with
      | zero => exact absurd HA.out (by simp [laws_FnWaves.j1])
      | succ kj20 =>
       have H := HA.out
       clear HA
       simp only [laws_FnWaves.j1] at H
       replace H := S.db H; rcases H with ⟨rfl, H⟩ | ⟨rfl, H⟩
       ·obtain rfl := Option.some.inj H
        go_wp2
        go_ret
        exact ⟨S.eW, S.bG⟩
       ·have HC50 := Aside0.mk H
        clear H
        go_upto_region 11 with (fail)
        go_cut [85] (fun v85 wc => ∃ (kq : Nat) (x85_49 : Bool), v85 = .bool x85_49 ∧ Aside0 (laws_FnWaves.j2 kq l0 x85_49 = some r) ∧ Aside0 (kq ≤ kj20) ∧ Aside0 (wc.heap[gb709]? = some (.cells #[.int .i64 t702, .int .i64 t703] 45 (0, 0))) ∧ Aside0 (wc.heap[gb710]? = some (.cells #[.int .i64 t704, .int .i64 t705] 45 (0, 0))) ∧ Aside0 (Below w.heap.size w wc))
        case first =>
         have H := HC50.out
         clear HC50
         by_cases c51 : t713 ≥ 0
         ·rw [if_pos c51] at H
          have c51b0 : decide (0 ≤ t713) = true := decide_eq_true c51
          clear c51
          (first | rw [c51b0] | (simp only [i64_w, i32_w]; rw [c51b0]) | skip)
          by_cases c52 : t713 ≥ t706
          ·rw [if_pos c52] at H
           have c52b0 : decide (t706 ≤ t713) = true := decide_eq_true c52
           clear c52
           have H' := Aside0.mk H
           clear H
           go_wp2
           go_meet
           case rel => exact ⟨_, (true), S.eA, H', ⟨by have := HJ6.out; have := HJ20.out; first | omega | exact Nat.le_refl _⟩, ⟨S.uB BK709.out⟩, ⟨S.uB BK710.out⟩, ⟨S.bG⟩⟩
          ·rw [if_neg c52] at H
           have c52b0 : decide (t706 ≤ t713) = false := decide_eq_false c52
           clear c52
           replace H := S.bd H; obtain ⟨t716, A53, H⟩ := H
           (try dsimp only at H)
           have H' := Aside0.mk H
           clear H
           have hnb54 := NB709_710.out
           have hnc54 := NB710_709.out
           obtain ⟨Z55a, Z55b, Y55a, Y55b⟩ := S.c2 BK709.out
           obtain ⟨Z56a, Z56b, Y56a, Y56b⟩ := S.c2 BK710.out
           go_wp2_with (first | (go_at_call 36; (with_reducible refine (impl_Band.calls kj20 t702 t703 t704 t705 t706 t707 t713 t716 _ A53.out).mono ?_); rintro e w57 ⟨rfl, hb⟩; replace BK709 := S.kb BK709 hb; replace BK710 := S.kb BK710 hb; replace HB := S.sG hb; (try clear hb)))
           go_meet
           case rel => exact ⟨_, ((t716 != t712)), S.eA, H', ⟨by have := HJ6.out; have := HJ20.out; first | omega | exact Nat.le_refl _⟩, ⟨S.uB BK709.out⟩, ⟨S.uB BK710.out⟩, ⟨S.bG⟩⟩
         ·rw [if_neg c51] at H
          have c51b0 : decide (0 ≤ t713) = false := decide_eq_false c51
          clear c51
          (first | rw [c51b0] | (simp only [i64_w, i32_w]; rw [c51b0]) | skip)
          have H' := Aside0.mk H
          clear H
          go_wp2
          go_meet
          case rel => exact ⟨_, (false), S.eA, H', ⟨by have := HJ6.out; have := HJ20.out; first | omega | exact Nat.le_refl _⟩, ⟨S.uB BK709.out⟩, ⟨S.uB BK710.out⟩, ⟨S.bG⟩⟩
        case rest =>
         clear HC50
         try clear c3
         try clear c19
         try clear c49
         try clear Z12a
         try clear Z12b
         try clear Z13a
         try clear Z13b
         try clear Z15a
         try clear Z15b
         try clear Z16a
         try clear Z16b
         try clear Z23a
         try clear Z23b
         try clear Z24a
         try clear Z24b
         try clear Y12a
         try clear Y12b
         try clear Y13a
         try clear Y13b
         try clear Y15a
         try clear Y15b
         try clear Y16a
         try clear Y16b
         try clear Y23a
         try clear Y23b
         try clear Y24a
         try clear Y24b
         obtain ⟨kq, x85_49, rfl, HA, HJ49, BK709, BK710, HB⟩ := hcut
         cases kq with
         | zero => exact absurd HA.out (by simp [laws_FnWaves.j2])
         | succ kj49 =>
          have H := HA.out
          clear HA
          simp only [laws_FnWaves.j2] at H
          replace H := S.db H; rcases H with ⟨rfl, H⟩ | ⟨rfl, H⟩
          ·obtain rfl := Option.some.inj H
           go_wp2
           go_ret
           exact ⟨S.eW, S.bG⟩
          ·replace H := S.bd H; obtain ⟨⟨t717, t720, t723⟩, A59, H⟩ := H
           (try dsimp only at H)
           replace H := S.bd H; obtain ⟨⟨t724, t725, t726⟩, A60, H⟩ := H
           (try dsimp only at H)
           replace H := S.db H; rcases H with ⟨rfl, H⟩ | ⟨rfl, H⟩
           ·replace H := S.bd H; obtain ⟨t728, A62, H⟩ := H
            (try dsimp only at H)
            have HC63 := Aside0.mk H
            clear H
            go_upto_region 17 with (first | ((with_reducible refine gate_callee (f := 40) rfl ?_); refine S.gL (some 88) Try.func40 #[.slice A0 l0.length c0] ?_; (with_reducible refine (spec_DrawWindowOf.calls kj49 _ _ l0 t717 t720 t723 _ ?s1 HC0.out A59.out).mono ?_); (case s1 => exact S.cA HR0.out); rintro e w64 ⟨v718, v721, rfl, ho0, ho1, hb⟩; refine ⟨_, rfl, ?_⟩; have HO719 := Aside0.mk (Kd.R_lower (Kd.R_mono (ok' := fun k_ => True) ho0 (fun _ hk_ => trivial)) (below_size S.bG)); have HO722 := Aside0.mk (Kd.V_lower (Kd.V_mono (ok' := fun k_ => S.N k_ v718 ∧ k_ ≠ gb709 ∧ k_ ≠ gb710) ho1 (fun k_ hk_ => ⟨hk_.2, (Kd.freshB (g := gb709) (o := .cells #[.int .i64 t702, .int .i64 t703] 45 (0, 0)) (S.uB BK709.out) k_ hk_.1), (Kd.freshB (g := gb710) (o := .cells #[.int .i64 t704, .int .i64 t705] 45 (0, 0)) (S.uB BK710.out) k_ hk_.1)⟩)) (below_size S.bG)); replace BK709 := S.kb BK709 hb; replace BK710 := S.kb BK710 hb; replace HB := S.sG hb; (try clear hb); (try clear ho0); (try clear ho1); obtain ⟨Ao65, co65, eo65⟩ := Kd.R_slice HO719.out; subst eo65; obtain ⟨Ao66, co66, eo66⟩ := Kd.V_slice HO722.out; subst eo66) | ((with_reducible refine gate_callee (f := 32) rfl ?_); refine S.gL (some 96) Try.func32 #[.slice Ao65 t717.length co65, .slice Ao66 t720.length co66, .int .i64 t723] ?_; (with_reducible refine (impl_WindowOf.calls kj49 _ _ t717 _ _ t720 t723 t724 t725 true _ ?s1 (S.rl HO719) ?s3 ?s4 A60.out).mono ?_); (case s1 => exact S.rd HO719); (case s3 => repeat (first | exact (Kd.V_reads' HO722.out).2.2 | (with_reducible refine Kd.C_alloc ?_ _) | (with_reducible refine Kd.C_drewN ?_ _) | (with_reducible refine Kd.C_drew ?_))); (case s4 => exact (Kd.V_reads' HO722.out).2.1); rintro e w67 ⟨rfl, hb⟩; refine ⟨_, rfl, ?_⟩; replace HO719 := S.rb HO719 hb; replace HO722 := Aside0.mk (Kd.V_below (S.uV HO722.out) hb); replace BK709 := S.kb BK709 hb; replace BK710 := S.kb BK710 hb; replace HB := S.sG hb; (try clear hb)) | ((with_reducible refine gate_dst (N := 14) rfl ?_); refine S.bx 14 (cs := #[.int .i64 0, .int .i64 0]) (t := 45) ?_; intro gb727 hg w68 hbox hb; replace HO719 := S.rb HO719 hb; replace HO722 := Aside0.mk (Kd.V_below (Kd.V_elderB (S.uV HO722.out) gb727 (Nat.le_of_eq hg.symm)) hb); have BK727 := Aside0.mk hbox; have GW727 := S.geG hg; have GE727 := S.geG hg; replace HB := S.sG hb; have NB709_727 := S.nl hg BK709; have NB727_709 := S.ng hg BK709; replace BK709 := S.kb BK709 hb; have NB710_727 := S.nl hg BK710; have NB727_710 := S.ng hg BK710; replace BK710 := S.kb BK710 hb; clear hb hbox hg; have hnb69 := NB727_709.out; have hnc69 := NB709_727.out; have hnb70 := NB727_710.out; have hnc70 := NB710_727.out; obtain ⟨Z71a, Z71b, Y71a, Y71b⟩ := S.c2 BK727.out) | ((with_reducible refine gate_callee (f := 41) rfl ?_); refine S.gL (some 102) Try.func41 #[.slice Ao65 t717.length co65, .slice Ao66 t720.length co66] ?_; (with_reducible refine (impl_Cycle.calls kj49 _ _ t717 _ _ t720 t728 _ ?s1 (S.rl HO719) ?s3 ?s4 A62.out).mono ?_); (case s1 => exact S.rc2 HO719 BK727); (case s3 => refine (Kd.V_reads' (e := 85) (base := w.heap.size) (ok := fun k_ => ((S.N k_ (.slice Ao65 t717.length co65) ∧ (k_ ≠ gb709 ∧ k_ ≠ gb710)) ∧ k_ ≠ gb727)) (n := t720.length) (c := co66) ?_).2.2; exact (by (with_reducible repeat (first | apply Kd.V_alloc | apply Kd.V_drewN | apply Kd.V_drew)); exact (Kd.V_mono (Kd.V_far (p := ⟨gb727, 1, none⟩) (Kd.V_far (p := ⟨gb727, 0, none⟩) (Kd.V_mono HO722.out (fun k_ hk => (⟨hk, hk.2⟩ : _ ∧ k_ ≠ gb727))) (fun _ hk => hk.2) (.int .i64 t724)) (fun _ hk => hk.2) (.int .i64 t725)) (fun _ h_ => h_.1)))); (case s4 => exact (Kd.V_reads' HO722.out).2.1); rintro e w72 ⟨rfl, hb⟩; refine ⟨_, rfl, ?_⟩; replace HO719 := Aside0.mk (Kd.R_below (S.G2 HO719 BK727) hb); replace HO722 := Aside0.mk (Kd.V_below (by (with_reducible repeat (first | apply Kd.V_alloc | apply Kd.V_drewN | apply Kd.V_drew)); exact (Kd.V_mono (Kd.V_far (p := ⟨gb727, 1, none⟩) (Kd.V_far (p := ⟨gb727, 0, none⟩) (Kd.V_mono HO722.out (fun k_ hk => (⟨hk, hk.2⟩ : _ ∧ k_ ≠ gb727))) (fun _ hk => hk.2) (.int .i64 t724)) (fun _ hk => hk.2) (.int .i64 t725)) (fun _ h_ => h_.1))) hb); replace BK709 := S.kf BK709 NB709_727 hb; replace BK710 := S.kf BK710 NB710_727 hb; replace BK727 := S.kp2 BK727 hb; replace HB := S.sG hb; (try clear hb)))
            (try simp only [Act.put, List.setIfInBounds_toArray, List.set_cons_zero, List.set_cons_succ])
            go_cut [120] (fun v120 wc => ∃ (kq : Nat) (x120_62 : Bool), v120 = .bool x120_62 ∧ Aside0 (laws_FnWaves.j3 kq t717 t720 t723 t728 x120_62 t724 t725 = some r) ∧ Aside0 (kq ≤ kj49) ∧ Aside0 (Kd.R k71 71 wc w.heap.size (fun _ => True) (.slice Ao65 t717.length co65) t717) ∧ Aside0 (Kd.V k85 85 wc w.heap.size (fun k_ => some k_ ≠ ((.slice Ao65 t717.length co65) : Value).ownBlock ∧ k_ ≠ gb709 ∧ k_ ≠ gb710 ∧ k_ ≠ gb727) (.slice Ao66 t720.length co66) t720) ∧ Aside0 (wc.heap[gb709]? = some (.cells #[.int .i64 t702, .int .i64 t703] 45 (0, 0))) ∧ Aside0 (wc.heap[gb710]? = some (.cells #[.int .i64 t704, .int .i64 t705] 45 (0, 0))) ∧ Aside0 (wc.heap[gb727]? = some (.cells #[.int .i64 t724, .int .i64 t725] 45 (0, 0))) ∧ Aside0 (Below w.heap.size w wc))
            case first =>
             have H := HC63.out
             clear HC63
             replace H := S.bd H; obtain ⟨t729, A73, H⟩ := H
             (try dsimp only at H)
             replace H := S.db H; rcases H with ⟨rfl, H⟩ | ⟨rfl, H⟩
             ·replace H := S.bd H; obtain ⟨t730, A75, H⟩ := H
              (try dsimp only at H)
              by_cases c76 : t725 > t730
              ·rw [if_pos c76] at H
               have c76b0 : decide (t730 < t725) = true := decide_eq_true c76
               clear c76
               (first | rw [c76b0] | (simp only [i64_w, i32_w]; rw [c76b0]) | skip)
               have H' := Aside0.mk H
               clear H
               try go_wp2
               replace HO719 := S.dr HO719
               replace HO722 := Aside0.mk (Kd.V_drew HO722.out)
               replace BK709 := Aside0.mk (blk_drew BK709.out)
               replace BK710 := Aside0.mk (blk_drew BK710.out)
               replace BK727 := Aside0.mk (blk_drew BK727.out)
               replace HB := Aside0.mk (below_drew1 HB.out)
               refine S.st (n := 18) (ds := []) #[false, false, false, false, false, false, false, false, false, false, false, false, false, false, false, false, false, false] (fun w_ h_ => have x_ := S.e2 (S.Q h_ BK727.out); x_) (fun hHeld => ?_); refine with_tabW laws_FnWaves.tab17 laws_FnWaves.bits17 (fun HT_ HW_ => ?_)
               generalize w72.drew = w77 at HO719 HO722 BK709 BK710 BK727 HB hHeld ⊢
               refine S.pS 1 104 ?_
               refine S.tK 0 103 #[true, true, false, false, false, false, false, false, false, false, false, false, false, false, false, false, false, false] ?_
               refine S.oN 2 105 #[true, true, true, false, false, false, false, false, false, false, false, false, false, false, false, false, false, false] (fun K hK => ?_)
               refine S.go Try.func39 #[.agg #[.int .i64 t724, .int .i64 t725], .int .i64 t728] ?_
               with_reducible refine (impl_IsWindow.calls t724 t725 t728 true _ A73.out).mono ?_
               rintro e w78 ⟨rfl, hb⟩
               refine ⟨_, rfl, ?_⟩
               replace HO719 := S.rb HO719 hb
               replace HO722 := Aside0.mk (Kd.V_below (S.uV HO722.out) hb)
               replace BK709 := S.kb BK709 hb
               replace BK710 := S.kb BK710 hb
               replace BK727 := S.kb BK727 hb
               replace HB := S.sG hb
               (try clear hb)
               (try clear hb2)
               (try clear hk)
               (try clear hi)
               refine hK.out _ _ (S.e2 BK727.out) (fun hHeld => ?_)
               clear hK K
               refine S.nm 105 ?_
               refine S.pS 3 106 ?_
               refine S.pS 4 107 ?_
               refine S.pS 5 108 ?_
               refine S.pS 7 110 ?_
               refine S.pS 8 111 ?_
               refine S.pS 9 112 ?_
               refine S.tK 6 109 #[true, true, true, true, true, true, true, true, true, true, false, false, false, false, false, false, false, false] ?_
               refine S.oN 10 113 #[true, true, true, true, true, true, true, true, true, true, true, false, false, false, false, false, false, false] (fun K hK => ?_)
               refine S.go Try.func42 #[.slice Ao65 t717.length co65, .slice Ao66 t720.length co66, .int .i64 t723] ?_
               with_reducible refine (impl_GreenOf.calls kj49 _ _ t717 _ _ t720 t723 t730 _ ?s1 ?s2 ?s3 ?s4 A75.out).mono ?_
               (case s1 => exact S.rd HO719)
               (case s2 => exact S.rl HO719)
               (case s3 => repeat (first | exact (Kd.V_reads' HO722.out).2.2 | (with_reducible refine Kd.C_alloc ?_ _) | (with_reducible refine Kd.C_drewN ?_ _) | (with_reducible refine Kd.C_drew ?_)))
               (case s4 => exact (Kd.V_reads' HO722.out).2.1)
               rintro e w79 ⟨rfl, hb⟩
               refine ⟨_, rfl, ?_⟩
               replace HO719 := S.rb HO719 hb
               replace HO722 := Aside0.mk (Kd.V_below (S.uV HO722.out) hb)
               replace BK709 := S.kb BK709 hb
               replace BK710 := S.kb BK710 hb
               replace BK727 := S.kb BK727 hb
               replace HB := S.sG hb
               (try clear hb)
               (try clear hb2)
               (try clear hk)
               (try clear hi)
               refine hK.out _ _ (S.e2 BK727.out) (fun hHeld => ?_)
               clear hK K
               refine S.nm 113 ?_
               refine S.pS 11 114 ?_
               refine S.pS 12 115 ?_
               refine S.pS 13 116 ?_
               refine S.pU 14 117 ?_
               refine S.pU 15 118 ?_
               refine S.pU 16 119 ?_
               refine S.pS 17 120 ?_
               refine done_ (done_of HT_.out (by kernel_rfl)) ?_
               try go_wp2
               go_meet
               case rel => exact ⟨_, (true), S.eA, H', ⟨by have := HJ6.out; have := HJ20.out; have := HJ49.out; first | omega | exact Nat.le_refl _⟩, ⟨S.uR HO719.out⟩, ⟨by (with_reducible repeat (first | apply Kd.V_alloc | apply Kd.V_drewN | apply Kd.V_drew)); exact Kd.V_mono HO722.out (fun _ hk => ⟨hk.1.1, ⟨hk.1.2.1, ⟨hk.1.2.2, hk.2⟩⟩⟩)⟩, ⟨S.uB BK709.out⟩, ⟨S.uB BK710.out⟩, ⟨S.uB BK727.out⟩, ⟨S.bG⟩⟩
              ·rw [if_neg c76] at H
               have c76b0 : decide (t730 < t725) = false := decide_eq_false c76
               clear c76
               (first | rw [c76b0] | (simp only [i64_w, i32_w]; rw [c76b0]) | skip)
               have H' := Aside0.mk H
               clear H
               try go_wp2
               replace HO719 := S.dr HO719
               replace HO722 := Aside0.mk (Kd.V_drew HO722.out)
               replace BK709 := Aside0.mk (blk_drew BK709.out)
               replace BK710 := Aside0.mk (blk_drew BK710.out)
               replace BK727 := Aside0.mk (blk_drew BK727.out)
               replace HB := Aside0.mk (below_drew1 HB.out)
               refine S.st (n := 18) (ds := []) #[false, false, false, false, false, false, false, false, false, false, false, false, false, false, false, false, false, false] (fun w_ h_ => have x_ := S.e2 (S.Q h_ BK727.out); x_) (fun hHeld => ?_); refine with_tabW laws_FnWaves.tab17 laws_FnWaves.bits17 (fun HT_ HW_ => ?_)
               generalize w72.drew = w80 at HO719 HO722 BK709 BK710 BK727 HB hHeld ⊢
               refine S.pS 1 104 ?_
               refine S.tK 0 103 #[true, true, false, false, false, false, false, false, false, false, false, false, false, false, false, false, false, false] ?_
               refine S.oN 2 105 #[true, true, true, false, false, false, false, false, false, false, false, false, false, false, false, false, false, false] (fun K hK => ?_)
               refine S.go Try.func39 #[.agg #[.int .i64 t724, .int .i64 t725], .int .i64 t728] ?_
               with_reducible refine (impl_IsWindow.calls t724 t725 t728 true _ A73.out).mono ?_
               rintro e w81 ⟨rfl, hb⟩
               refine ⟨_, rfl, ?_⟩
               replace HO719 := S.rb HO719 hb
               replace HO722 := Aside0.mk (Kd.V_below (S.uV HO722.out) hb)
               replace BK709 := S.kb BK709 hb
               replace BK710 := S.kb BK710 hb
               replace BK727 := S.kb BK727 hb
               replace HB := S.sG hb
               (try clear hb)
               (try clear hb2)
               (try clear hk)
               (try clear hi)
               refine hK.out _ _ (S.e2 BK727.out) (fun hHeld => ?_)
               clear hK K
               refine S.nm 105 ?_
               refine S.pS 3 106 ?_
               refine S.pS 4 107 ?_
               refine S.pS 5 108 ?_
               refine S.pS 7 110 ?_
               refine S.pS 8 111 ?_
               refine S.pS 9 112 ?_
               refine S.tK 6 109 #[true, true, true, true, true, true, true, true, true, true, false, false, false, false, false, false, false, false] ?_
               refine S.oN 10 113 #[true, true, true, true, true, true, true, true, true, true, true, false, false, false, false, false, false, false] (fun K hK => ?_)
               refine S.go Try.func42 #[.slice Ao65 t717.length co65, .slice Ao66 t720.length co66, .int .i64 t723] ?_
               with_reducible refine (impl_GreenOf.calls kj49 _ _ t717 _ _ t720 t723 t730 _ ?s1 ?s2 ?s3 ?s4 A75.out).mono ?_
               (case s1 => exact S.rd HO719)
               (case s2 => exact S.rl HO719)
               (case s3 => repeat (first | exact (Kd.V_reads' HO722.out).2.2 | (with_reducible refine Kd.C_alloc ?_ _) | (with_reducible refine Kd.C_drewN ?_ _) | (with_reducible refine Kd.C_drew ?_)))
               (case s4 => exact (Kd.V_reads' HO722.out).2.1)
               rintro e w82 ⟨rfl, hb⟩
               refine ⟨_, rfl, ?_⟩
               replace HO719 := S.rb HO719 hb
               replace HO722 := Aside0.mk (Kd.V_below (S.uV HO722.out) hb)
               replace BK709 := S.kb BK709 hb
               replace BK710 := S.kb BK710 hb
               replace BK727 := S.kb BK727 hb
               replace HB := S.sG hb
               (try clear hb)
               (try clear hb2)
               (try clear hk)
               (try clear hi)
               refine hK.out _ _ (S.e2 BK727.out) (fun hHeld => ?_)
               clear hK K
               refine S.nm 113 ?_
               refine S.pS 11 114 ?_
               refine S.pS 12 115 ?_
               refine S.pS 13 116 ?_
               refine S.pS 14 117 ?_
               refine S.tK 15 118 #[true, true, true, true, true, true, true, true, true, true, true, true, true, true, true, true, false, false] ?_
               refine S.pS 16 119 ?_
               refine S.pS 17 120 ?_
               refine done_ (done_of HT_.out (by kernel_rfl)) ?_
               try go_wp2
               go_meet
               case rel => exact ⟨_, (decide (t725 < 5)), S.eA, H', ⟨by have := HJ6.out; have := HJ20.out; have := HJ49.out; first | omega | exact Nat.le_refl _⟩, ⟨S.uR HO719.out⟩, ⟨by (with_reducible repeat (first | apply Kd.V_alloc | apply Kd.V_drewN | apply Kd.V_drew)); exact Kd.V_mono HO722.out (fun _ hk => ⟨hk.1.1, ⟨hk.1.2.1, ⟨hk.1.2.2, hk.2⟩⟩⟩)⟩, ⟨S.uB BK709.out⟩, ⟨S.uB BK710.out⟩, ⟨S.uB BK727.out⟩, ⟨S.bG⟩⟩
             ·have H' := Aside0.mk H
              clear H
              try go_wp2
              replace HO719 := S.dr HO719
              replace HO722 := Aside0.mk (Kd.V_drew HO722.out)
              replace BK709 := Aside0.mk (blk_drew BK709.out)
              replace BK710 := Aside0.mk (blk_drew BK710.out)
              replace BK727 := Aside0.mk (blk_drew BK727.out)
              replace HB := Aside0.mk (below_drew1 HB.out)
              refine S.st (n := 18) (ds := []) #[false, false, false, false, false, false, false, false, false, false, false, false, false, false, false, false, false, false] (fun w_ h_ => have x_ := S.e2 (S.Q h_ BK727.out); x_) (fun hHeld => ?_); refine with_tabW laws_FnWaves.tab17 laws_FnWaves.bits17 (fun HT_ HW_ => ?_)
              generalize w72.drew = w83 at HO719 HO722 BK709 BK710 BK727 HB hHeld ⊢
              refine S.pS 1 104 ?_
              refine S.tK 0 103 #[true, true, false, false, false, false, false, false, false, false, false, false, false, false, false, false, false, false] ?_
              refine S.oN 2 105 #[true, true, true, false, false, false, false, false, false, false, false, false, false, false, false, false, false, false] (fun K hK => ?_)
              refine S.go Try.func39 #[.agg #[.int .i64 t724, .int .i64 t725], .int .i64 t728] ?_
              with_reducible refine (impl_IsWindow.calls t724 t725 t728 false _ A73.out).mono ?_
              rintro e w84 ⟨rfl, hb⟩
              refine ⟨_, rfl, ?_⟩
              replace HO719 := S.rb HO719 hb
              replace HO722 := Aside0.mk (Kd.V_below (S.uV HO722.out) hb)
              replace BK709 := S.kb BK709 hb
              replace BK710 := S.kb BK710 hb
              replace BK727 := S.kb BK727 hb
              replace HB := S.sG hb
              (try clear hb)
              (try clear hb2)
              (try clear hk)
              (try clear hi)
              refine hK.out _ _ (S.e2 BK727.out) (fun hHeld => ?_)
              clear hK K
              refine S.nm 105 ?_
              refine S.pS 3 106 ?_
              refine S.pS 4 107 ?_
              refine S.pU 5 108 ?_
              refine S.pU 6 109 ?_
              refine S.pU 7 110 ?_
              refine S.pU 8 111 ?_
              refine S.pU 9 112 ?_
              refine S.pU 10 113 ?_
              refine S.pU 11 114 ?_
              refine S.pS 12 115 ?_
              refine S.pS 13 116 ?_
              refine S.pU 14 117 ?_
              refine S.pU 15 118 ?_
              refine S.pU 16 119 ?_
              refine S.pS 17 120 ?_
              refine done_ (done_of HT_.out (by kernel_rfl)) ?_
              try go_wp2
              go_meet
              case rel => exact ⟨_, (true), S.eA, H', ⟨by have := HJ6.out; have := HJ20.out; have := HJ49.out; first | omega | exact Nat.le_refl _⟩, ⟨S.uR HO719.out⟩, ⟨by (with_reducible repeat (first | apply Kd.V_alloc | apply Kd.V_drewN | apply Kd.V_drew)); exact Kd.V_mono HO722.out (fun _ hk => ⟨hk.1.1, ⟨hk.1.2.1, ⟨hk.1.2.2, hk.2⟩⟩⟩)⟩, ⟨S.uB BK709.out⟩, ⟨S.uB BK710.out⟩, ⟨S.uB BK727.out⟩, ⟨S.bG⟩⟩
            case rest =>
             clear HC63
             try clear c3
             obtain ⟨kq, x120_62, rfl, HA, HJ62, HO_11, HO_12, BK709, BK710, BK727, HB⟩ := hcut
             cases kq with
             | zero => exact absurd HA.out (by simp [laws_FnWaves.j3])
             | succ kj62 =>
              have H := HA.out
              clear HA
              simp only [laws_FnWaves.j3] at H
              replace H := S.db H; rcases H with ⟨rfl, H⟩ | ⟨rfl, H⟩
              ·obtain rfl := Option.some.inj H
               go_wp2
               go_ret
               exact ⟨S.eW, S.bG⟩
              ·have H' := Aside0.mk H
               clear H
               go_wp2
               go_loopg [17] kj62 (fun kq v17 w' => ∃ (x17_5 : Int), v17 = .int .i64 x17_5 ∧ Aside0 (laws_FnWaves.l0 kq t717 t720 t723 t728 x17_5 t724 t725 = some r) ∧ Aside0 (kq ≤ kj62) ∧ Aside0 (Kd.R k71 71 w' w.heap.size (fun _ => True) (.slice Ao65 t717.length co65) t717) ∧ Aside0 (Kd.V k85 85 w' w.heap.size (fun k_ => some k_ ≠ ((.slice Ao65 t717.length co65) : Value).ownBlock ∧ k_ ≠ gb709 ∧ k_ ≠ gb710 ∧ k_ ≠ gb727) (.slice Ao66 t720.length co66) t720) ∧ Aside0 (w'.heap[gb709]? = some (.cells #[.int .i64 t702, .int .i64 t703] 45 (0, 0))) ∧ Aside0 (w'.heap[gb710]? = some (.cells #[.int .i64 t704, .int .i64 t705] 45 (0, 0))) ∧ Aside0 (w'.heap[gb727]? = some (.cells #[.int .i64 t724, .int .i64 t725] 45 (0, 0))) ∧ Aside0 (Below w.heap.size w w'))
               case atStart => exact ⟨(0), S.eA, H', ⟨Nat.le_refl _⟩, ⟨S.uR HO_11.out⟩, ⟨S.uV HO_12.out⟩, ⟨S.uB BK709.out⟩, ⟨S.uB BK710.out⟩, ⟨S.uB BK727.out⟩, ⟨S.bG⟩⟩
               case round =>
                clear H'
                try clear c3
                try clear c85
                obtain ⟨x17_5, rfl, HA, HK5, HO_11, HO_12, BK709, BK710, BK727, HB⟩ := hrel
                cases gk with
                | zero => exact absurd HA.out (by simp [laws_FnWaves.l0])
                | succ k5 =>
                 have H := HA.out
                 clear HA
                 simp only [laws_FnWaves.l0] at H
                 replace H := S.dc H; rcases H with ⟨H, c86b0⟩ | ⟨H, c86b0⟩
                 ·replace H := Option.bind_eq_some_iff.mp H
                  obtain ⟨t731, A870, H⟩ := H
                  replace H : (if t731 = true then ((impl_LightAt.f k5 t717 t720 x17_5 t723).bind fun t732 => (if t732 = 1 then (laws_FnWaves.l0 k5 t717 t720 t723 t728 (wrap64 (x17_5 + 1)) t724 t725) else (some false))) else (laws_FnWaves.l0 k5 t717 t720 t723 t728 (wrap64 (x17_5 + 1)) t724 t725)) = some r := H
                  have A87 := Aside0.mk A870
                  clear A870
                  replace H := S.db H; rcases H with ⟨rfl, H⟩ | ⟨rfl, H⟩
                  ·replace H := S.bd H; obtain ⟨t732, A89, H⟩ := H
                   (try dsimp only at H)
                   by_cases c90 : t732 = 1
                   ·rw [if_pos c90] at H
                    have c90b0 : (t732 == 1) = true := beq_iff_eq.mpr c90
                    have c90b1 : (t732 != 1) = false := bne_eq_false_iff_eq.mpr c90
                    clear c90
                    have H' := Aside0.mk H
                    clear H
                    have hnb91 := NB727_709.out
                    have hnc91 := NB709_727.out
                    have hnb92 := NB727_710.out
                    have hnc92 := NB710_727.out
                    obtain ⟨Z93a, Z93b, Y93a, Y93b⟩ := S.c2 BK727.out
                    go_wp2_with (first | ((with_reducible refine gate_callee (f := 43) rfl ?_); refine S.gL (some 129) Try.func43 #[.agg #[.int .i64 t724, .int .i64 t725], .int .i64 t728, .int .i64 0, .int .i64 x17_5] ?_; (with_reducible refine (impl_InWindow.calls t724 t725 t728 0 x17_5 true _ A87.out).mono ?_); rintro e w94 ⟨rfl, hb⟩; refine ⟨_, rfl, ?_⟩; replace HO_11 := S.rb HO_11 hb; replace HO_12 := Aside0.mk (Kd.V_below (S.uV HO_12.out) hb); replace BK709 := S.kb BK709 hb; replace BK710 := S.kb BK710 hb; replace BK727 := S.kb BK727 hb; replace HB := S.sG hb; (try clear hb)) | (go_at_call 44; (with_reducible refine (impl_LightAt.calls k5 _ _ t717 _ _ t720 x17_5 t723 t732 _ ?s1 (S.rl HO_11) ?s3 ?s4 A89.out).mono ?_); (case s1 => exact S.rd HO_11); (case s3 => repeat (first | exact (Kd.V_reads' HO_12.out).2.2 | (with_reducible refine Kd.C_alloc ?_ _) | (with_reducible refine Kd.C_drewN ?_ _) | (with_reducible refine Kd.C_drew ?_))); (case s4 => exact (Kd.V_reads' HO_12.out).2.1); rintro e w95 ⟨rfl, hb⟩; replace HO_11 := S.rb HO_11 hb; replace HO_12 := Aside0.mk (Kd.V_below (S.uV HO_12.out) hb); replace BK709 := S.kb BK709 hb; replace BK710 := S.kb BK710 hb; replace BK727 := S.kb BK727 hb; replace HB := S.sG hb; (try clear hb)))
                    go_roundg k5
                    case measure => have := HJ6.out; have := HJ20.out; have := HJ49.out; have := HJ62.out; have := HK5.out; omega
                    case rel => exact ⟨(wrap64 (x17_5 + 1)), S.eA, H', ⟨by have := HJ6.out; have := HJ20.out; have := HJ49.out; have := HJ62.out; have := HK5.out; omega⟩, ⟨S.uR HO_11.out⟩, ⟨S.uV HO_12.out⟩, ⟨S.uB BK709.out⟩, ⟨S.uB BK710.out⟩, ⟨S.uB BK727.out⟩, ⟨S.bG⟩⟩
                   ·rw [if_neg c90] at H
                    have c90b0 : (t732 == 1) = false := beq_eq_false_iff_ne.mpr c90
                    have c90b1 : (t732 != 1) = true := bne_iff_ne.mpr c90
                    obtain rfl := Option.some.inj H
                    have hnb96 := NB727_709.out
                    have hnc96 := NB709_727.out
                    have hnb97 := NB727_710.out
                    have hnc97 := NB710_727.out
                    obtain ⟨Z98a, Z98b, Y98a, Y98b⟩ := S.c2 BK727.out
                    go_wp2_with (first | ((with_reducible refine gate_callee (f := 43) rfl ?_); refine S.gL (some 129) Try.func43 #[.agg #[.int .i64 t724, .int .i64 t725], .int .i64 t728, .int .i64 0, .int .i64 x17_5] ?_; (with_reducible refine (impl_InWindow.calls t724 t725 t728 0 x17_5 true _ A87.out).mono ?_); rintro e w99 ⟨rfl, hb⟩; refine ⟨_, rfl, ?_⟩; replace HO_11 := S.rb HO_11 hb; replace HO_12 := Aside0.mk (Kd.V_below (S.uV HO_12.out) hb); replace BK709 := S.kb BK709 hb; replace BK710 := S.kb BK710 hb; replace BK727 := S.kb BK727 hb; replace HB := S.sG hb; (try clear hb)) | (go_at_call 44; (with_reducible refine (impl_LightAt.calls k5 _ _ t717 _ _ t720 x17_5 t723 t732 _ ?s1 (S.rl HO_11) ?s3 ?s4 A89.out).mono ?_); (case s1 => exact S.rd HO_11); (case s3 => repeat (first | exact (Kd.V_reads' HO_12.out).2.2 | (with_reducible refine Kd.C_alloc ?_ _) | (with_reducible refine Kd.C_drewN ?_ _) | (with_reducible refine Kd.C_drew ?_))); (case s4 => exact (Kd.V_reads' HO_12.out).2.1); rintro e w100 ⟨rfl, hb⟩; replace HO_11 := S.rb HO_11 hb; replace HO_12 := Aside0.mk (Kd.V_below (S.uV HO_12.out) hb); replace BK709 := S.kb BK709 hb; replace BK710 := S.kb BK710 hb; replace BK727 := S.kb BK727 hb; replace HB := S.sG hb; (try clear hb)))
                    go_ret
                    exact ⟨S.eW, S.bG⟩
                  ·have H' := Aside0.mk H
                   clear H
                   have hnb101 := NB727_709.out
                   have hnc101 := NB709_727.out
                   have hnb102 := NB727_710.out
                   have hnc102 := NB710_727.out
                   obtain ⟨Z103a, Z103b, Y103a, Y103b⟩ := S.c2 BK727.out
                   go_wp2_with (first | ((with_reducible refine gate_callee (f := 43) rfl ?_); refine S.gL (some 129) Try.func43 #[.agg #[.int .i64 t724, .int .i64 t725], .int .i64 t728, .int .i64 0, .int .i64 x17_5] ?_; (with_reducible refine (impl_InWindow.calls t724 t725 t728 0 x17_5 false _ A87.out).mono ?_); rintro e w104 ⟨rfl, hb⟩; refine ⟨_, rfl, ?_⟩; replace HO_11 := S.rb HO_11 hb; replace HO_12 := Aside0.mk (Kd.V_below (S.uV HO_12.out) hb); replace BK709 := S.kb BK709 hb; replace BK710 := S.kb BK710 hb; replace BK727 := S.kb BK727 hb; replace HB := S.sG hb; (try clear hb)))
                   go_roundg k5
                   case measure => have := HJ6.out; have := HJ20.out; have := HJ49.out; have := HJ62.out; have := HK5.out; omega
                   case rel => exact ⟨(wrap64 (x17_5 + 1)), S.eA, H', ⟨by have := HJ6.out; have := HJ20.out; have := HJ49.out; have := HJ62.out; have := HK5.out; omega⟩, ⟨S.uR HO_11.out⟩, ⟨S.uV HO_12.out⟩, ⟨S.uB BK709.out⟩, ⟨S.uB BK710.out⟩, ⟨S.uB BK727.out⟩, ⟨S.bG⟩⟩
                 ·obtain rfl := Option.some.inj H
                  go_wp2
                  go_ret
                  exact ⟨S.eW, S.bG⟩
           ·obtain rfl := Option.some.inj H
            go_wp2_with (first | ((with_reducible refine gate_callee (f := 40) rfl ?_); refine S.gL (some 88) Try.func40 #[.slice A0 l0.length c0] ?_; (with_reducible refine (spec_DrawWindowOf.calls kj49 _ _ l0 t717 t720 t723 _ ?s1 HC0.out A59.out).mono ?_); (case s1 => exact S.cA HR0.out); rintro e w105 ⟨v718, v721, rfl, ho0, ho1, hb⟩; refine ⟨_, rfl, ?_⟩; have HO719 := Aside0.mk (Kd.R_lower (Kd.R_mono (ok' := fun k_ => True) ho0 (fun _ hk_ => trivial)) (below_size S.bG)); have HO722 := Aside0.mk (Kd.V_lower (Kd.V_mono (ok' := fun k_ => S.N k_ v718 ∧ k_ ≠ gb709 ∧ k_ ≠ gb710) ho1 (fun k_ hk_ => ⟨hk_.2, (Kd.freshB (g := gb709) (o := .cells #[.int .i64 t702, .int .i64 t703] 45 (0, 0)) (S.uB BK709.out) k_ hk_.1), (Kd.freshB (g := gb710) (o := .cells #[.int .i64 t704, .int .i64 t705] 45 (0, 0)) (S.uB BK710.out) k_ hk_.1)⟩)) (below_size S.bG)); replace BK709 := S.kb BK709 hb; replace BK710 := S.kb BK710 hb; replace HB := S.sG hb; (try clear hb); (try clear ho0); (try clear ho1); obtain ⟨Ao106, co106, eo106⟩ := Kd.R_slice HO719.out; subst eo106; obtain ⟨Ao107, co107, eo107⟩ := Kd.V_slice HO722.out; subst eo107) | ((with_reducible refine gate_callee (f := 32) rfl ?_); refine S.gL (some 96) Try.func32 #[.slice Ao106 t717.length co106, .slice Ao107 t720.length co107, .int .i64 t723] ?_; (with_reducible refine (impl_WindowOf.calls kj49 _ _ t717 _ _ t720 t723 t724 t725 false _ ?s1 (S.rl HO719) ?s3 ?s4 A60.out).mono ?_); (case s1 => exact S.rd HO719); (case s3 => repeat (first | exact (Kd.V_reads' HO722.out).2.2 | (with_reducible refine Kd.C_alloc ?_ _) | (with_reducible refine Kd.C_drewN ?_ _) | (with_reducible refine Kd.C_drew ?_))); (case s4 => exact (Kd.V_reads' HO722.out).2.1); rintro e w108 ⟨rfl, hb⟩; refine ⟨_, rfl, ?_⟩; replace HO719 := S.rb HO719 hb; replace HO722 := Aside0.mk (Kd.V_below (S.uV HO722.out) hb); replace BK709 := S.kb BK709 hb; replace BK710 := S.kb BK710 hb; replace HB := S.sG hb; (try clear hb)) | ((with_reducible refine gate_dst (N := 14) rfl ?_); refine S.bx 14 (cs := #[.int .i64 0, .int .i64 0]) (t := 45) ?_; intro gb727 hg w109 hbox hb; replace HO719 := S.rb HO719 hb; replace HO722 := Aside0.mk (Kd.V_below (Kd.V_elderB (S.uV HO722.out) gb727 (Nat.le_of_eq hg.symm)) hb); have BK727 := Aside0.mk hbox; have GW727 := S.geG hg; have GE727 := S.geG hg; replace HB := S.sG hb; have NB709_727 := S.nl hg BK709; have NB727_709 := S.ng hg BK709; replace BK709 := S.kb BK709 hb; have NB710_727 := S.nl hg BK710; have NB727_710 := S.ng hg BK710; replace BK710 := S.kb BK710 hb; clear hb hbox hg; have hnb110 := NB727_709.out; have hnc110 := NB709_727.out; have hnb111 := NB727_710.out; have hnc111 := NB710_727.out; obtain ⟨Z112a, Z112b, Y112a, Y112b⟩ := S.c2 BK727.out))
            go_ret
            exact ⟨S.eW, S.bG⟩

/-- THE ONE PURE STATEMENT of laws_FnWaves: yours. -/
def laws_FnWaves.Pure : Prop := ∀ (l0 : List Int), l0.length ≤ maxLen → l0.length * 1 ≤ 140737488351232 → (∀ x ∈ l0, (Lit.int .u8 x).wf = true) → ∃ k, laws_FnWaves.f k l0 = some true
end Go.Proofs.Ytjgigmghcfdomaa.PFnWaves
