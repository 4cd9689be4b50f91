/- Printed by a program: what the Go functions compute, as plain Lean functions (.f), and the proofs that the machine's calls come to just that (.calls). -/
import Derived.Test.YtopchlafmfgpnaaPFnExactSirenWaitx0
import Derived.Test.YtopchlafmfgpnaaPFnExactSirenWaitx2
import Derived.Test.YtopchlafmfgpnaaPFnExactSirenWaitx8
import Derived.Test.YtopchlafmfgpnaaPFnExactSirenWaitx10
import Derived.Test.YtopchlafmfgpnaaPFnExactSirenWaitx11
namespace Go.Proofs.Ytopchlafmfgpnaa.PFnExactSirenWait
open Go.RowKit Go.Proofs.YtopchlafmfgpnaaW.PrintWords Go.Proofs.YtopchlafmfgpnaaW.PrintLast Go.Proofs.YtopchlafmfgpnaaW.PrintMore
attribute [local go_sem] max2_int min2_int max_two min_two max_three min_three max_four min_four   -- for this text's walks alone
set_option linter.unusedVariables false
set_option linter.unusedSimpArgs false

/-! ### spec_TickControl: function 92 -/
def spec_TickControl.f (k : Nat) (l0 : List (S52)) (l1_0 : List Int) (a1_1 : Int) (l1_2 : List Int) (a1_3 : Int) : Option (List Int × Int × List Int × Int) := (spec_l14Copy.f l1_0 a1_1 l1_2 a1_3).bind fun bt267 => ((spec_IsControl.f k l0 l1_0 a1_1 l1_2 a1_3).bind fun t276 => (if t276 = true then (if (l1_2.length : Int) = 0 then ((spec_Min.f 1000000 (wrap64 (a1_1 + 1))).bind fun t277 => (some (bt267.1, t277, bt267.2.2.1, bt267.2.2.2))) else (if (wrap64 (a1_3 - 1)) = 0 then (some (bt267.2.2.1, 0, ([] : List Int), 0)) else (some (bt267.1, bt267.2.1, bt267.2.2.1, wrap64 (a1_3 - 1))))) else (some (bt267.1, bt267.2.1, bt267.2.2.1, bt267.2.2.2))))
set_option maxHeartbeats 8000000 in
set_option maxRecDepth 100000 in
theorem spec_TickControl.calls (k : Nat) (A0 : Option Addr) (c0 : Nat) (l0 : List (S52)) (A1_0 : Option Addr) (c1_0 : Nat) (l1_0 : List Int) (a1_1 : Int) (A1_2 : Option Addr) (c1_2 : Nat) (l1_2 : List Int) (a1_3 : Int) (r1 : List Int) (r2 : Int) (r3 : List Int) (r4 : Int) (w : World) (hr0 : Kd.C k52 w A0 l0.length l0) (hc0 : l0.length ≤ c0) (hr1_0 : Kd.C (Kd.int .i64) w A1_0 l1_0.length l1_0) (hc1_0 : l1_0.length ≤ c1_0) (hr1_2 : Kd.C (Kd.int .i64) w A1_2 l1_2.length l1_2) (hc1_2 : l1_2.length ≤ c1_2) (h : spec_TickControl.f k l0 l1_0 a1_1 l1_2 a1_3 = some (r1, r2, r3, r4)) :
  Calls Try.prog 92 #[.slice A0 l0.length c0, .agg #[.slice A1_0 l1_0.length c1_0, .int .i64 a1_1, .slice A1_2 l1_2.length c1_2, .int .i64 a1_3]] w fun e w' => ∃ v0_ v2_ : Value, e = .returned (.agg #[v0_, .int .i64 r2, v2_, .int .i64 r4]) ∧ Kd.R (Kd.int .i64) 3 w' w.heap.size (fun k_ => some k_ ≠ (v2_ : Value).ownBlock) v0_ r1 ∧ Kd.R (Kd.int .i64) 3 w' w.heap.size (fun k_ => some k_ ≠ (v0_ : Value).ownBlock) v2_ r3 ∧ Below w.heap.size w w' := by
 have hu60 := Try.underlying60
 have HR0 := Aside0.mk hr0
 have HC0 := Aside0.mk hc0
 clear hr0 hc0
 have HR1_0 := Aside0.mk hr1_0
 have HC1_0 := Aside0.mk hc1_0
 clear hr1_0 hc1_0
 have HR1_2 := Aside0.mk hr1_2
 have HC1_2 := Aside0.mk hc1_2
 clear hr1_2 hc1_2
 have HB := Aside0.mk (Below.refl w.heap.size w)
 have H : ((spec_l14Copy.f l1_0 a1_1 l1_2 a1_3).bind fun bt267 => ((spec_IsControl.f k l0 l1_0 a1_1 l1_2 a1_3).bind fun t276 => (if t276 = true then (if (l1_2.length : Int) = 0 then ((spec_Min.f 1000000 (wrap64 (a1_1 + 1))).bind fun t277 => (some (bt267.1, t277, bt267.2.2.1, bt267.2.2.2))) else (if (wrap64 (a1_3 - 1)) = 0 then (some (bt267.2.2.1, 0, ([] : List Int), 0)) else (some (bt267.1, bt267.2.1, bt267.2.2.1, wrap64 (a1_3 - 1))))) else (some (bt267.1, bt267.2.1, bt267.2.2.1, bt267.2.2.2))))) = some (r1, r2, r3, r4) := h
 clear h
 replace H := S.bd H; obtain ⟨⟨t267, t270, t271, t274⟩, A3, H⟩ := H
 (try dsimp only at H)
 replace H := S.bd H; obtain ⟨t276, A4, H⟩ := H
 (try dsimp only at H)
 replace H := S.db H; rcases H with ⟨rfl, H⟩ | ⟨rfl, H⟩
 ·by_cases c6 : (l1_2.length : Int) = 0
  ·rw [if_pos c6] at H
   have c6b0 : ((l1_2.length : Int) == 0) = true := beq_iff_eq.mpr c6
   have c6b1 : ((l1_2.length : Int) != 0) = false := bne_eq_false_iff_eq.mpr c6
   clear c6
   replace H := S.bd H; obtain ⟨t277, A7, H⟩ := H
   (try dsimp only at H)
   simp only [Option.some.injEq, Prod.mk.injEq] at H
   obtain ⟨rfl, rfl, rfl, rfl⟩ := H
   go_enter Try.func92, Try.ntmps92
   go_wp2_with (first | ((with_reducible refine gate_dst (N := 3) rfl ?_); refine S.bx 3 (cs := #[.slice A1_0 l1_0.length c1_0, .int .i64 a1_1, .slice A1_2 l1_2.length c1_2, .int .i64 a1_3]) (t := 60) ?_; intro gb265 hg w8 hbox hb; have BK265 := Aside0.mk hbox; have GW265 := S.geA hg; have GE265 := S.geA hg; replace HB := S.sA hb; clear hb hbox hg) | ((with_reducible refine gate_dst (N := 4) rfl ?_); refine S.bx 4 (cs := #[.slice none 0 0, .int .i64 0, .slice none 0 0, .int .i64 0]) (t := 60) ?_; intro gb266 hg w9 hbox hb; have BK266 := Aside0.mk hbox; have GW266 := S.geG hg; have GE266 := S.geG hg; replace HB := S.sG hb; have NB265_266 := S.nl hg BK265; have NB266_265 := S.ng hg BK265; replace BK265 := S.kb BK265 hb; clear hb hbox hg; have hnb10 := NB265_266.out; have hnc10 := NB266_265.out; obtain ⟨Z11a, Z11b, Z11c, Z11d, Y11a, Y11b, Y11c, Y11d⟩ := S.c4 BK265.out) | ((with_reducible refine gate_callee (f := 84) rfl ?_); refine S.gL (some 7) Try.func84 #[.agg #[.slice A1_0 l1_0.length c1_0, .int .i64 a1_1, .slice A1_2 l1_2.length c1_2, .int .i64 a1_3]] ?_; (with_reducible refine (spec_l14Copy.calls _ _ l1_0 a1_1 _ _ l1_2 a1_3 t267 t270 t271 t274 _ ?s1 HC1_0.out ?s3 HC1_2.out A3.out).mono ?_); (case s1 => exact S.cA HR1_0.out); (case s3 => exact S.cA HR1_2.out); rintro e w12 ⟨v268, v272, rfl, ho0, ho1, hb⟩; refine ⟨_, rfl, ?_⟩; have HO269 := S.lwG ho0; have HO273 := S.lwG ho1; replace BK265 := S.kb BK265 hb; replace BK266 := S.kb BK266 hb; replace HB := S.sG hb; (try clear hb); (try clear ho0); (try clear ho1)) | ((with_reducible refine gate_dst (N := 5) rfl ?_); refine S.bx 5 (cs := #[.slice none 0 0, .int .i64 0, .slice none 0 0, .int .i64 0]) (t := 60) ?_; intro gb275 hg w13 hbox hb; replace HO269 := S.rb HO269 hb; replace HO273 := S.rb HO273 hb; have BK275 := Aside0.mk hbox; have GW275 := S.geG hg; have GE275 := S.geG hg; replace HB := S.sG hb; have NB265_275 := S.nl hg BK265; have NB275_265 := S.ng hg BK265; replace BK265 := S.kb BK265 hb; have NB266_275 := S.nl hg BK266; have NB275_266 := S.ng hg BK266; replace BK266 := S.kb BK266 hb; clear hb hbox hg; obtain ⟨Ao14, co14, eo14⟩ := Kd.R_slice HO269.out; subst eo14; have hnb15 := NB275_265.out; have hnc15 := NB265_275.out; have hnb16 := NB275_266.out; have hnc16 := NB266_275.out; obtain ⟨Z17a, Z17b, Z17c, Z17d, Y17a, Y17b, Y17c, Y17d⟩ := S.c4 BK275.out; obtain ⟨Ao18, co18, eo18⟩ := Kd.R_slice HO273.out; subst eo18; obtain ⟨Z19a, Z19b, Z19c, Z19d, Y19a, Y19b, Y19c, Y19d⟩ := S.c4 BK265.out) | ((with_reducible refine gate_callee (f := 76) rfl ?_); refine S.gL (some 11) Try.func76 #[.slice A0 l0.length c0, .agg #[.slice A1_0 l1_0.length c1_0, .int .i64 a1_1, .slice A1_2 l1_2.length c1_2, .int .i64 a1_3]] ?_; (with_reducible refine (spec_IsControl.calls k _ _ l0 _ _ l1_0 a1_1 _ _ l1_2 a1_3 true _ ?s1 HC0.out ?s3 HC1_0.out ?s5 HC1_2.out A4.out).mono ?_); (case s1 => exact Kd.C_below HR0.out S.bG); (case s3 => exact Kd.C_below HR1_0.out S.bG); (case s5 => exact Kd.C_below HR1_2.out S.bG); rintro e w20 ⟨rfl, hb⟩; refine ⟨_, rfl, ?_⟩; replace HO269 := Aside0.mk (Kd.R_below (S.G4 HO269 BK275) hb); replace HO273 := Aside0.mk (Kd.R_below (S.G4 HO273 BK275) hb); replace BK265 := S.kf BK265 NB265_275 hb; replace BK266 := S.kf BK266 NB266_275 hb; replace BK275 := S.kp4 BK275 hb; replace HB := S.sG hb; (try clear hb); obtain ⟨Z21a, Z21b, Z21c, Z21d, Y21a, Y21b, Y21c, Y21d⟩ := S.c4 BK265.out) | ((with_reducible refine gate_callee (f := 121) rfl ?_); refine S.gL (some 22) Try.func121 #[.int .i64 1000000, .int .i64 (wrap64 (a1_1 + 1))] ?_; (with_reducible refine (spec_Min.calls 1000000 (wrap64 (a1_1 + 1)) t277 _ A7.out).mono ?_); rintro e w' ⟨rfl, ⟨nd, rfl⟩⟩; refine ⟨_, rfl, ?_⟩; (try (rw [drewN_self w20]; generalize hq_ : World.drewN w20 _ = w20; have n0_ : Aside0 (Kd.R (Kd.int .i64) 3 w20 w.heap.size (fun k_ => S.N k_ (.slice Ao18 t271.length co18)) (.slice Ao14 t267.length co14) t267) := ⟨by rw [← hq_]; exact (S.uR HO269.out)⟩; have n1_ : Aside0 (Kd.R (Kd.int .i64) 3 w20 w.heap.size (fun k_ => S.N k_ (.slice Ao14 t267.length co14)) (.slice Ao18 t271.length co18) t271) := ⟨by rw [← hq_]; exact (S.uR HO273.out)⟩; have n2_ : Aside0 (w20.heap[gb265]? = some (.cells #[.slice A1_0 l1_0.length c1_0, .int .i64 a1_1, .slice A1_2 l1_2.length c1_2, .int .i64 a1_3] 60 (0, 0))) := ⟨by rw [← hq_]; exact (S.uB BK265.out)⟩; have n3_ : Aside0 (w20.heap[gb266]? = some (.cells #[.slice none 0 0, .int .i64 0, .slice none 0 0, .int .i64 0] 60 (0, 0))) := ⟨by rw [← hq_]; exact (S.uB BK266.out)⟩; have n4_ : Aside0 (w20.heap[gb275]? = some (.cells #[.slice Ao14 t267.length co14, .int .i64 t270, .slice Ao18 t271.length co18, .int .i64 t274] 60 (0, 0))) := ⟨by rw [← hq_]; exact (S.uB BK275.out)⟩; have n5_ : Aside0 (Below w.heap.size w w20) := ⟨by rw [← hq_]; exact S.bG⟩; clear HO269 HO273 BK265 BK266 BK275 HB hq_; have HO269 := n0_; have HO273 := n1_; have BK265 := n2_; have BK266 := n3_; have BK275 := n4_; have HB := n5_; clear n0_ n1_ n2_ n3_ n4_ n5_)); obtain ⟨Z22a, Z22b, Z22c, Z22d, Y22a, Y22b, Y22c, Y22d⟩ := S.c4 BK275.out; obtain ⟨Z23a, Z23b, Z23c, Z23d, Y23a, Y23b, Y23c, Y23d⟩ := S.c4 BK266.out))
   refine bodyPost_ret (results_cell_row rfl _ _ gb266 60 #[.slice Ao14 t267.length co14, .int .i64 t277, .slice Ao18 t271.length co18, .int .i64 t274] (0, 0) _ rfl (by (with_reducible repeat (first | refine blk_drewN ?_ _ | refine blk_drew ?_ | refine blk_alloc ?_ _)); refine blk_put (cs := #[.slice Ao14 t267.length co14, .int .i64 t277, .slice Ao18 t271.length co18, .int .i64 0]) ?_ 3 _ rfl; (with_reducible repeat (first | refine blk_drewN ?_ _ | refine blk_drew ?_ | refine blk_alloc ?_ _)); refine blk_put (cs := #[.slice Ao14 t267.length co14, .int .i64 t277, .slice none 0 0, .int .i64 0]) ?_ 2 _ rfl; (with_reducible repeat (first | refine blk_drewN ?_ _ | refine blk_drew ?_ | refine blk_alloc ?_ _)); refine blk_put (cs := #[.slice Ao14 t267.length co14, .int .i64 0, .slice none 0 0, .int .i64 0]) ?_ 1 _ rfl; (with_reducible repeat (first | refine blk_drewN ?_ _ | refine blk_drew ?_ | refine blk_alloc ?_ _)); refine blk_put (cs := #[.slice none 0 0, .int .i64 0, .slice none 0 0, .int .i64 0]) ?_ 0 _ rfl; (with_reducible repeat (first | refine blk_drewN ?_ _ | refine blk_drew ?_ | refine blk_alloc ?_ _)); refine blk_far ?_ NB266_275.out _; (with_reducible repeat (first | refine blk_drewN ?_ _ | refine blk_drew ?_ | refine blk_alloc ?_ _)); exact BK266.out) Try.underlying60 rfl (by kernel_rfl)) rfl ?_
   exact ⟨_, _, S.eW, by (with_reducible repeat (first | apply Kd.R_alloc | apply Kd.R_drewN | apply Kd.R_drew)); exact Kd.R_mono (Kd.R_far (p := ⟨gb266, 3, none⟩) (Kd.R_far (p := ⟨gb266, 2, none⟩) (Kd.R_far (p := ⟨gb266, 1, none⟩) (Kd.R_far (p := ⟨gb266, 0, none⟩) (Kd.R_far (p := ⟨gb275, 1, none⟩) (Kd.R_types (Kd.R_types HO269.out BK275.out (by decide)) BK266.out (by decide)) (fun _ hk => hk.1.2) (.int .i64 t277)) (fun _ hk => hk.2) (.slice Ao14 t267.length co14)) (fun _ hk => hk.2) (.int .i64 t277)) (fun _ hk => hk.2) (.slice Ao18 t271.length co18)) (fun _ hk => hk.2) (.int .i64 t274)) (fun _ hk => hk.1.1), by (with_reducible repeat (first | apply Kd.R_alloc | apply Kd.R_drewN | apply Kd.R_drew)); exact Kd.R_mono (Kd.R_far (p := ⟨gb266, 3, none⟩) (Kd.R_far (p := ⟨gb266, 2, none⟩) (Kd.R_far (p := ⟨gb266, 1, none⟩) (Kd.R_far (p := ⟨gb266, 0, none⟩) (Kd.R_far (p := ⟨gb275, 1, none⟩) (Kd.R_types (Kd.R_types HO273.out BK275.out (by decide)) BK266.out (by decide)) (fun _ hk => hk.1.2) (.int .i64 t277)) (fun _ hk => hk.2) (.slice Ao14 t267.length co14)) (fun _ hk => hk.2) (.int .i64 t277)) (fun _ hk => hk.2) (.slice Ao18 t271.length co18)) (fun _ hk => hk.2) (.int .i64 t274)) (fun _ hk => hk.1.1), S.bG⟩
  ·rw [if_neg c6] at H
   have c6b0 : ((l1_2.length : Int) == 0) = false := beq_eq_false_iff_ne.mpr c6
   have c6b1 : ((l1_2.length : Int) != 0) = true := bne_iff_ne.mpr c6
   have c6b2 : ¬ (l1_2 = []) := fun h_ => c6 (by rw [h_]; rfl)
   by_cases c24 : (wrap64 (a1_3 - 1)) = 0
   ·rw [if_pos c24] at H
    have c24b0 : ((wrap64 (a1_3 - 1)) == 0) = true := beq_iff_eq.mpr c24
    have c24b1 : ((wrap64 (a1_3 - 1)) != 0) = false := bne_eq_false_iff_eq.mpr c24
    clear c24
    simp only [Option.some.injEq, Prod.mk.injEq] at H
    obtain ⟨rfl, rfl, rfl, rfl⟩ := H
    go_enter Try.func92, Try.ntmps92
    go_wp2_with (first | ((with_reducible refine gate_dst (N := 3) rfl ?_); refine S.bx 3 (cs := #[.slice A1_0 l1_0.length c1_0, .int .i64 a1_1, .slice A1_2 l1_2.length c1_2, .int .i64 a1_3]) (t := 60) ?_; intro gb265 hg w25 hbox hb; have BK265 := Aside0.mk hbox; have GW265 := S.geA hg; have GE265 := S.geA hg; replace HB := S.sA hb; clear hb hbox hg) | ((with_reducible refine gate_dst (N := 4) rfl ?_); refine S.bx 4 (cs := #[.slice none 0 0, .int .i64 0, .slice none 0 0, .int .i64 0]) (t := 60) ?_; intro gb266 hg w26 hbox hb; have BK266 := Aside0.mk hbox; have GW266 := S.geG hg; have GE266 := S.geG hg; replace HB := S.sG hb; have NB265_266 := S.nl hg BK265; have NB266_265 := S.ng hg BK265; replace BK265 := S.kb BK265 hb; clear hb hbox hg; have hnb27 := NB265_266.out; have hnc27 := NB266_265.out; obtain ⟨Z28a, Z28b, Z28c, Z28d, Y28a, Y28b, Y28c, Y28d⟩ := S.c4 BK265.out) | ((with_reducible refine gate_callee (f := 84) rfl ?_); refine S.gL (some 7) Try.func84 #[.agg #[.slice A1_0 l1_0.length c1_0, .int .i64 a1_1, .slice A1_2 l1_2.length c1_2, .int .i64 a1_3]] ?_; (with_reducible refine (spec_l14Copy.calls _ _ l1_0 a1_1 _ _ l1_2 a1_3 t267 t270 t271 t274 _ ?s1 HC1_0.out ?s3 HC1_2.out A3.out).mono ?_); (case s1 => exact S.cA HR1_0.out); (case s3 => exact S.cA HR1_2.out); rintro e w29 ⟨v268, v272, rfl, ho0, ho1, hb⟩; refine ⟨_, rfl, ?_⟩; have HO269 := S.lwG ho0; have HO273 := S.lwG ho1; replace BK265 := S.kb BK265 hb; replace BK266 := S.kb BK266 hb; replace HB := S.sG hb; (try clear hb); (try clear ho0); (try clear ho1)) | ((with_reducible refine gate_dst (N := 5) rfl ?_); refine S.bx 5 (cs := #[.slice none 0 0, .int .i64 0, .slice none 0 0, .int .i64 0]) (t := 60) ?_; intro gb275 hg w30 hbox hb; replace HO269 := S.rb HO269 hb; replace HO273 := S.rb HO273 hb; have BK275 := Aside0.mk hbox; have GW275 := S.geG hg; have GE275 := S.geG hg; replace HB := S.sG hb; have NB265_275 := S.nl hg BK265; have NB275_265 := S.ng hg BK265; replace BK265 := S.kb BK265 hb; have NB266_275 := S.nl hg BK266; have NB275_266 := S.ng hg BK266; replace BK266 := S.kb BK266 hb; clear hb hbox hg; obtain ⟨Ao31, co31, eo31⟩ := Kd.R_slice HO269.out; subst eo31; have hnb32 := NB275_265.out; have hnc32 := NB265_275.out; have hnb33 := NB275_266.out; have hnc33 := NB266_275.out; obtain ⟨Z34a, Z34b, Z34c, Z34d, Y34a, Y34b, Y34c, Y34d⟩ := S.c4 BK275.out; obtain ⟨Ao35, co35, eo35⟩ := Kd.R_slice HO273.out; subst eo35; obtain ⟨Z36a, Z36b, Z36c, Z36d, Y36a, Y36b, Y36c, Y36d⟩ := S.c4 BK265.out) | ((with_reducible refine gate_callee (f := 76) rfl ?_); refine S.gL (some 11) Try.func76 #[.slice A0 l0.length c0, .agg #[.slice A1_0 l1_0.length c1_0, .int .i64 a1_1, .slice A1_2 l1_2.length c1_2, .int .i64 a1_3]] ?_; (with_reducible refine (spec_IsControl.calls k _ _ l0 _ _ l1_0 a1_1 _ _ l1_2 a1_3 true _ ?s1 HC0.out ?s3 HC1_0.out ?s5 HC1_2.out A4.out).mono ?_); (case s1 => exact Kd.C_below HR0.out S.bG); (case s3 => exact Kd.C_below HR1_0.out S.bG); (case s5 => exact Kd.C_below HR1_2.out S.bG); rintro e w37 ⟨rfl, hb⟩; refine ⟨_, rfl, ?_⟩; replace HO269 := Aside0.mk (Kd.R_below (S.G4 HO269 BK275) hb); replace HO273 := Aside0.mk (Kd.R_below (S.G4 HO273 BK275) hb); replace BK265 := S.kf BK265 NB265_275 hb; replace BK266 := S.kf BK266 NB266_275 hb; replace BK275 := S.kp4 BK275 hb; replace HB := S.sG hb; (try clear hb); obtain ⟨Z38a, Z38b, Z38c, Z38d, Y38a, Y38b, Y38c, Y38d⟩ := S.c4 BK265.out; obtain ⟨Z39a, Z39b, Z39c, Z39d, Y39a, Y39b, Y39c, Y39d⟩ := S.c4 BK275.out; obtain ⟨Z40a, Z40b, Z40c, Z40d, Y40a, Y40b, Y40c, Y40d⟩ := S.c4 BK266.out))
    refine bodyPost_ret (results_cell_row rfl _ _ gb266 60 #[.slice Ao35 t271.length co35, .int .i64 0, .slice none 0 0, .int .i64 0] (0, 0) _ rfl (by (with_reducible repeat (first | refine blk_drewN ?_ _ | refine blk_drew ?_ | refine blk_alloc ?_ _)); refine blk_put (cs := #[.slice Ao35 t271.length co35, .int .i64 0, .slice none 0 0, .int .i64 0]) ?_ 3 _ rfl; (with_reducible repeat (first | refine blk_drewN ?_ _ | refine blk_drew ?_ | refine blk_alloc ?_ _)); refine blk_put (cs := #[.slice Ao35 t271.length co35, .int .i64 0, .slice none 0 0, .int .i64 0]) ?_ 2 _ rfl; (with_reducible repeat (first | refine blk_drewN ?_ _ | refine blk_drew ?_ | refine blk_alloc ?_ _)); refine blk_put (cs := #[.slice Ao35 t271.length co35, .int .i64 0, .slice none 0 0, .int .i64 0]) ?_ 1 _ rfl; (with_reducible repeat (first | refine blk_drewN ?_ _ | refine blk_drew ?_ | refine blk_alloc ?_ _)); refine blk_put (cs := #[.slice none 0 0, .int .i64 0, .slice none 0 0, .int .i64 0]) ?_ 0 _ rfl; (with_reducible repeat (first | refine blk_drewN ?_ _ | refine blk_drew ?_ | refine blk_alloc ?_ _)); refine blk_far ?_ NB266_275.out _; (with_reducible repeat (first | refine blk_drewN ?_ _ | refine blk_drew ?_ | refine blk_alloc ?_ _)); exact BK266.out) Try.underlying60 rfl (by kernel_rfl)) rfl ?_
    exact ⟨_, _, S.eW, by (with_reducible repeat (first | apply Kd.R_alloc | apply Kd.R_drewN | apply Kd.R_drew)); exact Kd.R_mono (Kd.R_far (p := ⟨gb266, 3, none⟩) (Kd.R_far (p := ⟨gb266, 2, none⟩) (Kd.R_far (p := ⟨gb266, 1, none⟩) (Kd.R_far (p := ⟨gb266, 0, none⟩) (Kd.R_far (p := ⟨gb275, 3, none⟩) (Kd.R_types (Kd.R_types HO273.out BK275.out (by decide)) BK266.out (by decide)) (fun _ hk => hk.1.2) (.int .i64 (wrap64 (a1_3 - 1)))) (fun _ hk => hk.2) (.slice Ao35 t271.length co35)) (fun _ hk => hk.2) (.int .i64 0)) (fun _ hk => hk.2) (.slice none 0 0)) (fun _ hk => hk.2) (.int .i64 0)) (fun _ hk => (by simp [Value.ownBlock])), by first | exact Kd.R_nil _ _ _ _ _ | exact Kd.N_nil _ _ _ _ _ | exact Kd.V_nil _ _ _ _ _ | exact Kd.Q_nil _ _ _ _ _ | exact Kd.S_nil _ _ _ _ _, S.bG⟩
   ·rw [if_neg c24] at H
    have c24b0 : ((wrap64 (a1_3 - 1)) == 0) = false := beq_eq_false_iff_ne.mpr c24
    have c24b1 : ((wrap64 (a1_3 - 1)) != 0) = true := bne_iff_ne.mpr c24
    simp only [Option.some.injEq, Prod.mk.injEq] at H
    obtain ⟨rfl, rfl, rfl, rfl⟩ := H
    go_enter Try.func92, Try.ntmps92
    go_wp2_with (first | ((with_reducible refine gate_dst (N := 3) rfl ?_); refine S.bx 3 (cs := #[.slice A1_0 l1_0.length c1_0, .int .i64 a1_1, .slice A1_2 l1_2.length c1_2, .int .i64 a1_3]) (t := 60) ?_; intro gb265 hg w41 hbox hb; have BK265 := Aside0.mk hbox; have GW265 := S.geA hg; have GE265 := S.geA hg; replace HB := S.sA hb; clear hb hbox hg) | ((with_reducible refine gate_dst (N := 4) rfl ?_); refine S.bx 4 (cs := #[.slice none 0 0, .int .i64 0, .slice none 0 0, .int .i64 0]) (t := 60) ?_; intro gb266 hg w42 hbox hb; have BK266 := Aside0.mk hbox; have GW266 := S.geG hg; have GE266 := S.geG hg; replace HB := S.sG hb; have NB265_266 := S.nl hg BK265; have NB266_265 := S.ng hg BK265; replace BK265 := S.kb BK265 hb; clear hb hbox hg; have hnb43 := NB265_266.out; have hnc43 := NB266_265.out; obtain ⟨Z44a, Z44b, Z44c, Z44d, Y44a, Y44b, Y44c, Y44d⟩ := S.c4 BK265.out) | ((with_reducible refine gate_callee (f := 84) rfl ?_); refine S.gL (some 7) Try.func84 #[.agg #[.slice A1_0 l1_0.length c1_0, .int .i64 a1_1, .slice A1_2 l1_2.length c1_2, .int .i64 a1_3]] ?_; (with_reducible refine (spec_l14Copy.calls _ _ l1_0 a1_1 _ _ l1_2 a1_3 t267 t270 t271 t274 _ ?s1 HC1_0.out ?s3 HC1_2.out A3.out).mono ?_); (case s1 => exact S.cA HR1_0.out); (case s3 => exact S.cA HR1_2.out); rintro e w45 ⟨v268, v272, rfl, ho0, ho1, hb⟩; refine ⟨_, rfl, ?_⟩; have HO269 := S.lwG ho0; have HO273 := S.lwG ho1; replace BK265 := S.kb BK265 hb; replace BK266 := S.kb BK266 hb; replace HB := S.sG hb; (try clear hb); (try clear ho0); (try clear ho1)) | ((with_reducible refine gate_dst (N := 5) rfl ?_); refine S.bx 5 (cs := #[.slice none 0 0, .int .i64 0, .slice none 0 0, .int .i64 0]) (t := 60) ?_; intro gb275 hg w46 hbox hb; replace HO269 := S.rb HO269 hb; replace HO273 := S.rb HO273 hb; have BK275 := Aside0.mk hbox; have GW275 := S.geG hg; have GE275 := S.geG hg; replace HB := S.sG hb; have NB265_275 := S.nl hg BK265; have NB275_265 := S.ng hg BK265; replace BK265 := S.kb BK265 hb; have NB266_275 := S.nl hg BK266; have NB275_266 := S.ng hg BK266; replace BK266 := S.kb BK266 hb; clear hb hbox hg; obtain ⟨Ao47, co47, eo47⟩ := Kd.R_slice HO269.out; subst eo47; have hnb48 := NB275_265.out; have hnc48 := NB265_275.out; have hnb49 := NB275_266.out; have hnc49 := NB266_275.out; obtain ⟨Z50a, Z50b, Z50c, Z50d, Y50a, Y50b, Y50c, Y50d⟩ := S.c4 BK275.out; obtain ⟨Ao51, co51, eo51⟩ := Kd.R_slice HO273.out; subst eo51; obtain ⟨Z52a, Z52b, Z52c, Z52d, Y52a, Y52b, Y52c, Y52d⟩ := S.c4 BK265.out) | ((with_reducible refine gate_callee (f := 76) rfl ?_); refine S.gL (some 11) Try.func76 #[.slice A0 l0.length c0, .agg #[.slice A1_0 l1_0.length c1_0, .int .i64 a1_1, .slice A1_2 l1_2.length c1_2, .int .i64 a1_3]] ?_; (with_reducible refine (spec_IsControl.calls k _ _ l0 _ _ l1_0 a1_1 _ _ l1_2 a1_3 true _ ?s1 HC0.out ?s3 HC1_0.out ?s5 HC1_2.out A4.out).mono ?_); (case s1 => exact Kd.C_below HR0.out S.bG); (case s3 => exact Kd.C_below HR1_0.out S.bG); (case s5 => exact Kd.C_below HR1_2.out S.bG); rintro e w53 ⟨rfl, hb⟩; refine ⟨_, rfl, ?_⟩; replace HO269 := Aside0.mk (Kd.R_below (S.G4 HO269 BK275) hb); replace HO273 := Aside0.mk (Kd.R_below (S.G4 HO273 BK275) hb); replace BK265 := S.kf BK265 NB265_275 hb; replace BK266 := S.kf BK266 NB266_275 hb; replace BK275 := S.kp4 BK275 hb; replace HB := S.sG hb; (try clear hb); obtain ⟨Z54a, Z54b, Z54c, Z54d, Y54a, Y54b, Y54c, Y54d⟩ := S.c4 BK265.out; obtain ⟨Z55a, Z55b, Z55c, Z55d, Y55a, Y55b, Y55c, Y55d⟩ := S.c4 BK275.out; obtain ⟨Z56a, Z56b, Z56c, Z56d, Y56a, Y56b, Y56c, Y56d⟩ := S.c4 BK266.out))
    refine bodyPost_ret (results_cell_row rfl _ _ gb266 60 #[.slice Ao47 t267.length co47, .int .i64 t270, .slice Ao51 t271.length co51, .int .i64 (wrap64 (a1_3 - 1))] (0, 0) _ rfl (by (with_reducible repeat (first | refine blk_drewN ?_ _ | refine blk_drew ?_ | refine blk_alloc ?_ _)); refine blk_put (cs := #[.slice Ao47 t267.length co47, .int .i64 t270, .slice Ao51 t271.length co51, .int .i64 0]) ?_ 3 _ rfl; (with_reducible repeat (first | refine blk_drewN ?_ _ | refine blk_drew ?_ | refine blk_alloc ?_ _)); refine blk_put (cs := #[.slice Ao47 t267.length co47, .int .i64 t270, .slice none 0 0, .int .i64 0]) ?_ 2 _ rfl; (with_reducible repeat (first | refine blk_drewN ?_ _ | refine blk_drew ?_ | refine blk_alloc ?_ _)); refine blk_put (cs := #[.slice Ao47 t267.length co47, .int .i64 0, .slice none 0 0, .int .i64 0]) ?_ 1 _ rfl; (with_reducible repeat (first | refine blk_drewN ?_ _ | refine blk_drew ?_ | refine blk_alloc ?_ _)); refine blk_put (cs := #[.slice none 0 0, .int .i64 0, .slice none 0 0, .int .i64 0]) ?_ 0 _ rfl; (with_reducible repeat (first | refine blk_drewN ?_ _ | refine blk_drew ?_ | refine blk_alloc ?_ _)); refine blk_far ?_ NB266_275.out _; (with_reducible repeat (first | refine blk_drewN ?_ _ | refine blk_drew ?_ | refine blk_alloc ?_ _)); exact BK266.out) Try.underlying60 rfl (by kernel_rfl)) rfl ?_
    exact ⟨_, _, S.eW, by (with_reducible repeat (first | apply Kd.R_alloc | apply Kd.R_drewN | apply Kd.R_drew)); exact Kd.R_mono (Kd.R_far (p := ⟨gb266, 3, none⟩) (Kd.R_far (p := ⟨gb266, 2, none⟩) (Kd.R_far (p := ⟨gb266, 1, none⟩) (Kd.R_far (p := ⟨gb266, 0, none⟩) (Kd.R_far (p := ⟨gb275, 3, none⟩) (Kd.R_types (Kd.R_types HO269.out BK275.out (by decide)) BK266.out (by decide)) (fun _ hk => hk.1.2) (.int .i64 (wrap64 (a1_3 - 1)))) (fun _ hk => hk.2) (.slice Ao47 t267.length co47)) (fun _ hk => hk.2) (.int .i64 t270)) (fun _ hk => hk.2) (.slice Ao51 t271.length co51)) (fun _ hk => hk.2) (.int .i64 (wrap64 (a1_3 - 1)))) (fun _ hk => hk.1.1), by (with_reducible repeat (first | apply Kd.R_alloc | apply Kd.R_drewN | apply Kd.R_drew)); exact Kd.R_mono (Kd.R_far (p := ⟨gb266, 3, none⟩) (Kd.R_far (p := ⟨gb266, 2, none⟩) (Kd.R_far (p := ⟨gb266, 1, none⟩) (Kd.R_far (p := ⟨gb266, 0, none⟩) (Kd.R_far (p := ⟨gb275, 3, none⟩) (Kd.R_types (Kd.R_types HO273.out BK275.out (by decide)) BK266.out (by decide)) (fun _ hk => hk.1.2) (.int .i64 (wrap64 (a1_3 - 1)))) (fun _ hk => hk.2) (.slice Ao47 t267.length co47)) (fun _ hk => hk.2) (.int .i64 t270)) (fun _ hk => hk.2) (.slice Ao51 t271.length co51)) (fun _ hk => hk.2) (.int .i64 (wrap64 (a1_3 - 1)))) (fun _ hk => hk.1.1), S.bG⟩
 ·simp only [Option.some.injEq, Prod.mk.injEq] at H
  obtain ⟨rfl, rfl, rfl, rfl⟩ := H
  go_enter Try.func92, Try.ntmps92
  go_wp2_with (first | ((with_reducible refine gate_dst (N := 3) rfl ?_); refine S.bx 3 (cs := #[.slice A1_0 l1_0.length c1_0, .int .i64 a1_1, .slice A1_2 l1_2.length c1_2, .int .i64 a1_3]) (t := 60) ?_; intro gb265 hg w57 hbox hb; have BK265 := Aside0.mk hbox; have GW265 := S.geA hg; have GE265 := S.geA hg; replace HB := S.sA hb; clear hb hbox hg) | ((with_reducible refine gate_dst (N := 4) rfl ?_); refine S.bx 4 (cs := #[.slice none 0 0, .int .i64 0, .slice none 0 0, .int .i64 0]) (t := 60) ?_; intro gb266 hg w58 hbox hb; have BK266 := Aside0.mk hbox; have GW266 := S.geG hg; have GE266 := S.geG hg; replace HB := S.sG hb; have NB265_266 := S.nl hg BK265; have NB266_265 := S.ng hg BK265; replace BK265 := S.kb BK265 hb; clear hb hbox hg; have hnb59 := NB265_266.out; have hnc59 := NB266_265.out; obtain ⟨Z60a, Z60b, Z60c, Z60d, Y60a, Y60b, Y60c, Y60d⟩ := S.c4 BK265.out) | ((with_reducible refine gate_callee (f := 84) rfl ?_); refine S.gL (some 7) Try.func84 #[.agg #[.slice A1_0 l1_0.length c1_0, .int .i64 a1_1, .slice A1_2 l1_2.length c1_2, .int .i64 a1_3]] ?_; (with_reducible refine (spec_l14Copy.calls _ _ l1_0 a1_1 _ _ l1_2 a1_3 t267 t270 t271 t274 _ ?s1 HC1_0.out ?s3 HC1_2.out A3.out).mono ?_); (case s1 => exact S.cA HR1_0.out); (case s3 => exact S.cA HR1_2.out); rintro e w61 ⟨v268, v272, rfl, ho0, ho1, hb⟩; refine ⟨_, rfl, ?_⟩; have HO269 := S.lwG ho0; have HO273 := S.lwG ho1; replace BK265 := S.kb BK265 hb; replace BK266 := S.kb BK266 hb; replace HB := S.sG hb; (try clear hb); (try clear ho0); (try clear ho1)) | ((with_reducible refine gate_dst (N := 5) rfl ?_); refine S.bx 5 (cs := #[.slice none 0 0, .int .i64 0, .slice none 0 0, .int .i64 0]) (t := 60) ?_; intro gb275 hg w62 hbox hb; replace HO269 := S.rb HO269 hb; replace HO273 := S.rb HO273 hb; have BK275 := Aside0.mk hbox; have GW275 := S.geG hg; have GE275 := S.geG hg; replace HB := S.sG hb; have NB265_275 := S.nl hg BK265; have NB275_265 := S.ng hg BK265; replace BK265 := S.kb BK265 hb; have NB266_275 := S.nl hg BK266; have NB275_266 := S.ng hg BK266; replace BK266 := S.kb BK266 hb; clear hb hbox hg; obtain ⟨Ao63, co63, eo63⟩ := Kd.R_slice HO269.out; subst eo63; have hnb64 := NB275_265.out; have hnc64 := NB265_275.out; have hnb65 := NB275_266.out; have hnc65 := NB266_275.out; obtain ⟨Z66a, Z66b, Z66c, Z66d, Y66a, Y66b, Y66c, Y66d⟩ := S.c4 BK275.out; obtain ⟨Ao67, co67, eo67⟩ := Kd.R_slice HO273.out; subst eo67; obtain ⟨Z68a, Z68b, Z68c, Z68d, Y68a, Y68b, Y68c, Y68d⟩ := S.c4 BK265.out) | ((with_reducible refine gate_callee (f := 76) rfl ?_); refine S.gL (some 11) Try.func76 #[.slice A0 l0.length c0, .agg #[.slice A1_0 l1_0.length c1_0, .int .i64 a1_1, .slice A1_2 l1_2.length c1_2, .int .i64 a1_3]] ?_; (with_reducible refine (spec_IsControl.calls k _ _ l0 _ _ l1_0 a1_1 _ _ l1_2 a1_3 false _ ?s1 HC0.out ?s3 HC1_0.out ?s5 HC1_2.out A4.out).mono ?_); (case s1 => exact Kd.C_below HR0.out S.bG); (case s3 => exact Kd.C_below HR1_0.out S.bG); (case s5 => exact Kd.C_below HR1_2.out S.bG); rintro e w69 ⟨rfl, hb⟩; refine ⟨_, rfl, ?_⟩; replace HO269 := Aside0.mk (Kd.R_below (S.G4 HO269 BK275) hb); replace HO273 := Aside0.mk (Kd.R_below (S.G4 HO273 BK275) hb); replace BK265 := S.kf BK265 NB265_275 hb; replace BK266 := S.kf BK266 NB266_275 hb; replace BK275 := S.kp4 BK275 hb; replace HB := S.sG hb; (try clear hb); obtain ⟨Z70a, Z70b, Z70c, Z70d, Y70a, Y70b, Y70c, Y70d⟩ := S.c4 BK275.out; obtain ⟨Z71a, Z71b, Z71c, Z71d, Y71a, Y71b, Y71c, Y71d⟩ := S.c4 BK266.out))
  refine bodyPost_ret (results_cell_row rfl _ _ gb266 60 #[.slice Ao63 t267.length co63, .int .i64 t270, .slice Ao67 t271.length co67, .int .i64 t274] (0, 0) _ rfl (by (with_reducible repeat (first | refine blk_drewN ?_ _ | refine blk_drew ?_ | refine blk_alloc ?_ _)); refine blk_put (cs := #[.slice Ao63 t267.length co63, .int .i64 t270, .slice Ao67 t271.length co67, .int .i64 0]) ?_ 3 _ rfl; (with_reducible repeat (first | refine blk_drewN ?_ _ | refine blk_drew ?_ | refine blk_alloc ?_ _)); refine blk_put (cs := #[.slice Ao63 t267.length co63, .int .i64 t270, .slice none 0 0, .int .i64 0]) ?_ 2 _ rfl; (with_reducible repeat (first | refine blk_drewN ?_ _ | refine blk_drew ?_ | refine blk_alloc ?_ _)); refine blk_put (cs := #[.slice Ao63 t267.length co63, .int .i64 0, .slice none 0 0, .int .i64 0]) ?_ 1 _ rfl; (with_reducible repeat (first | refine blk_drewN ?_ _ | refine blk_drew ?_ | refine blk_alloc ?_ _)); refine blk_put (cs := #[.slice none 0 0, .int .i64 0, .slice none 0 0, .int .i64 0]) ?_ 0 _ rfl; (with_reducible repeat (first | refine blk_drewN ?_ _ | refine blk_drew ?_ | refine blk_alloc ?_ _)); exact BK266.out) Try.underlying60 rfl (by kernel_rfl)) rfl ?_
  exact ⟨_, _, S.eW, by (with_reducible repeat (first | apply Kd.R_alloc | apply Kd.R_drewN | apply Kd.R_drew)); exact Kd.R_mono (Kd.R_far (p := ⟨gb266, 3, none⟩) (Kd.R_far (p := ⟨gb266, 2, none⟩) (Kd.R_far (p := ⟨gb266, 1, none⟩) (Kd.R_far (p := ⟨gb266, 0, none⟩) (Kd.R_types HO269.out BK266.out (by decide)) (fun _ hk => hk.2) (.slice Ao63 t267.length co63)) (fun _ hk => hk.2) (.int .i64 t270)) (fun _ hk => hk.2) (.slice Ao67 t271.length co67)) (fun _ hk => hk.2) (.int .i64 t274)) (fun _ hk => hk.1), by (with_reducible repeat (first | apply Kd.R_alloc | apply Kd.R_drewN | apply Kd.R_drew)); exact Kd.R_mono (Kd.R_far (p := ⟨gb266, 3, none⟩) (Kd.R_far (p := ⟨gb266, 2, none⟩) (Kd.R_far (p := ⟨gb266, 1, none⟩) (Kd.R_far (p := ⟨gb266, 0, none⟩) (Kd.R_types HO273.out BK266.out (by decide)) (fun _ hk => hk.2) (.slice Ao63 t267.length co63)) (fun _ hk => hk.2) (.int .i64 t270)) (fun _ hk => hk.2) (.slice Ao67 t271.length co67)) (fun _ hk => hk.2) (.int .i64 t274)) (fun _ hk => hk.1), S.bG⟩

/-! ### spec_StepSiren: function 47 -/
def spec_StepSiren.f (k : Nat) (l0 : List (S52)) (l1_0 : List Int) (a1_1 : Int) (l1_2 : List Int) (a1_3 : Int) (a2 : Int) : Option (List Int × Int × List Int × Int) := (spec_CutFor.f k l0 l1_0 a1_1 l1_2 a1_3 a2).bind fun bt280 => (if bt280.2.2.2.2 = true then (some (bt280.1, bt280.2.1, bt280.2.2.1, bt280.2.2.2.1)) else ((spec_TickControl.f k l0 l1_0 a1_1 l1_2 a1_3).bind fun bt290 => (some (bt290.1, bt290.2.1, bt290.2.2.1, bt290.2.2.2))))
set_option maxHeartbeats 8000000 in
set_option maxRecDepth 100000 in
theorem spec_StepSiren.calls (k : Nat) (A0 : Option Addr) (c0 : Nat) (l0 : List (S52)) (A1_0 : Option Addr) (c1_0 : Nat) (l1_0 : List Int) (a1_1 : Int) (A1_2 : Option Addr) (c1_2 : Nat) (l1_2 : List Int) (a1_3 : Int) (a2 : Int) (r1 : List Int) (r2 : Int) (r3 : List Int) (r4 : Int) (w : World) (hr0 : Kd.C k52 w A0 l0.length l0) (hc0 : l0.length ≤ c0) (hr1_0 : Kd.C (Kd.int .i64) w A1_0 l1_0.length l1_0) (hc1_0 : l1_0.length ≤ c1_0) (hr1_2 : Kd.C (Kd.int .i64) w A1_2 l1_2.length l1_2) (hc1_2 : l1_2.length ≤ c1_2) (h : spec_StepSiren.f k l0 l1_0 a1_1 l1_2 a1_3 a2 = some (r1, r2, r3, r4)) :
  Calls Try.prog 47 #[.slice A0 l0.length c0, .agg #[.slice A1_0 l1_0.length c1_0, .int .i64 a1_1, .slice A1_2 l1_2.length c1_2, .int .i64 a1_3], .int .i64 a2] w fun e w' => ∃ v0_ v2_ : Value, e = .returned (.agg #[v0_, .int .i64 r2, v2_, .int .i64 r4]) ∧ Kd.R (Kd.int .i64) 3 w' w.heap.size (fun k_ => some k_ ≠ (v2_ : Value).ownBlock) v0_ r1 ∧ Kd.R (Kd.int .i64) 3 w' w.heap.size (fun k_ => some k_ ≠ (v0_ : Value).ownBlock) v2_ r3 ∧ Below w.heap.size w w' := by
 have hu60 := Try.underlying60
 have HR0 := Aside0.mk hr0
 have HC0 := Aside0.mk hc0
 clear hr0 hc0
 have HR1_0 := Aside0.mk hr1_0
 have HC1_0 := Aside0.mk hc1_0
 clear hr1_0 hc1_0
 have HR1_2 := Aside0.mk hr1_2
 have HC1_2 := Aside0.mk hc1_2
 clear hr1_2 hc1_2
 have HB := Aside0.mk (Below.refl w.heap.size w)
 have H : ((spec_CutFor.f k l0 l1_0 a1_1 l1_2 a1_3 a2).bind fun bt280 => (if bt280.2.2.2.2 = true then (some (bt280.1, bt280.2.1, bt280.2.2.1, bt280.2.2.2.1)) else ((spec_TickControl.f k l0 l1_0 a1_1 l1_2 a1_3).bind fun bt290 => (some (bt290.1, bt290.2.1, bt290.2.2.1, bt290.2.2.2))))) = some (r1, r2, r3, r4) := h
 clear h
 replace H := S.bd H; obtain ⟨⟨t280, t283, t284, t287, t288⟩, A4, H⟩ := H
 (try dsimp only at H)
 replace H := S.db H; rcases H with ⟨rfl, H⟩ | ⟨rfl, H⟩
 ·simp only [Option.some.injEq, Prod.mk.injEq] at H
  obtain ⟨rfl, rfl, rfl, rfl⟩ := H
  go_enter Try.func47, Try.ntmps47
  go_wp2_with (first | ((with_reducible refine gate_dst (N := 4) rfl ?_); refine S.bx 4 (cs := #[.slice A1_0 l1_0.length c1_0, .int .i64 a1_1, .slice A1_2 l1_2.length c1_2, .int .i64 a1_3]) (t := 60) ?_; intro gb278 hg w6 hbox hb; have BK278 := Aside0.mk hbox; have GW278 := S.geA hg; have GE278 := S.geA hg; replace HB := S.sA hb; clear hb hbox hg) | ((with_reducible refine gate_dst (N := 6) rfl ?_); refine S.bx 6 (cs := #[.slice none 0 0, .int .i64 0, .slice none 0 0, .int .i64 0]) (t := 60) ?_; intro gb279 hg w7 hbox hb; have BK279 := Aside0.mk hbox; have GW279 := S.geG hg; have GE279 := S.geG hg; replace HB := S.sG hb; have NB278_279 := S.nl hg BK278; have NB279_278 := S.ng hg BK278; replace BK278 := S.kb BK278 hb; clear hb hbox hg; have hnb8 := NB278_279.out; have hnc8 := NB279_278.out; obtain ⟨Z9a, Z9b, Z9c, Z9d, Y9a, Y9b, Y9c, Y9d⟩ := S.c4 BK278.out) | ((with_reducible refine gate_callee (f := 41) rfl ?_); refine S.gL (some 13) Try.func41 #[.slice A0 l0.length c0, .agg #[.slice A1_0 l1_0.length c1_0, .int .i64 a1_1, .slice A1_2 l1_2.length c1_2, .int .i64 a1_3], .int .i64 a2] ?_; (with_reducible refine (spec_CutFor.calls k _ _ l0 _ _ l1_0 a1_1 _ _ l1_2 a1_3 a2 t280 t283 t284 t287 true _ ?s1 HC0.out ?s3 HC1_0.out ?s5 HC1_2.out A4.out).mono ?_); (case s1 => exact S.cA HR0.out); (case s3 => exact S.cA HR1_0.out); (case s5 => exact S.cA HR1_2.out); rintro e w10 ⟨v281, v285, rfl, ho0, ho1, hb⟩; refine ⟨_, rfl, ?_⟩; have HO282 := S.lwG ho0; have HO286 := S.lwG ho1; replace BK278 := S.kb BK278 hb; replace BK279 := S.kb BK279 hb; replace HB := S.sG hb; (try clear hb); (try clear ho0); (try clear ho1)) | ((with_reducible refine gate_dst (N := 7) rfl ?_); refine S.bx 7 (cs := #[.slice none 0 0, .int .i64 0, .slice none 0 0, .int .i64 0]) (t := 60) ?_; intro gb289 hg w11 hbox hb; replace HO282 := S.rb HO282 hb; replace HO286 := S.rb HO286 hb; have BK289 := Aside0.mk hbox; have GW289 := S.geG hg; have GE289 := S.geG hg; replace HB := S.sG hb; have NB278_289 := S.nl hg BK278; have NB289_278 := S.ng hg BK278; replace BK278 := S.kb BK278 hb; have NB279_289 := S.nl hg BK279; have NB289_279 := S.ng hg BK279; replace BK279 := S.kb BK279 hb; clear hb hbox hg; obtain ⟨Ao12, co12, eo12⟩ := Kd.R_slice HO282.out; subst eo12; have hnb13 := NB289_278.out; have hnc13 := NB278_289.out; have hnb14 := NB289_279.out; have hnc14 := NB279_289.out; obtain ⟨Z15a, Z15b, Z15c, Z15d, Y15a, Y15b, Y15c, Y15d⟩ := S.c4 BK289.out; obtain ⟨Ao16, co16, eo16⟩ := Kd.R_slice HO286.out; subst eo16; obtain ⟨Z17a, Z17b, Z17c, Z17d, Y17a, Y17b, Y17c, Y17d⟩ := S.c4 BK279.out))
  refine bodyPost_ret (results_cell_row rfl _ _ gb279 60 #[.slice Ao12 t280.length co12, .int .i64 t283, .slice Ao16 t284.length co16, .int .i64 t287] (0, 0) _ rfl (by (with_reducible repeat (first | refine blk_drewN ?_ _ | refine blk_drew ?_ | refine blk_alloc ?_ _)); refine blk_put (cs := #[.slice Ao12 t280.length co12, .int .i64 t283, .slice Ao16 t284.length co16, .int .i64 0]) ?_ 3 _ rfl; (with_reducible repeat (first | refine blk_drewN ?_ _ | refine blk_drew ?_ | refine blk_alloc ?_ _)); refine blk_put (cs := #[.slice Ao12 t280.length co12, .int .i64 t283, .slice none 0 0, .int .i64 0]) ?_ 2 _ rfl; (with_reducible repeat (first | refine blk_drewN ?_ _ | refine blk_drew ?_ | refine blk_alloc ?_ _)); refine blk_put (cs := #[.slice Ao12 t280.length co12, .int .i64 0, .slice none 0 0, .int .i64 0]) ?_ 1 _ rfl; (with_reducible repeat (first | refine blk_drewN ?_ _ | refine blk_drew ?_ | refine blk_alloc ?_ _)); refine blk_put (cs := #[.slice none 0 0, .int .i64 0, .slice none 0 0, .int .i64 0]) ?_ 0 _ rfl; (with_reducible repeat (first | refine blk_drewN ?_ _ | refine blk_drew ?_ | refine blk_alloc ?_ _)); refine blk_far ?_ NB279_289.out _; (with_reducible repeat (first | refine blk_drewN ?_ _ | refine blk_drew ?_ | refine blk_alloc ?_ _)); refine blk_far ?_ NB279_289.out _; (with_reducible repeat (first | refine blk_drewN ?_ _ | refine blk_drew ?_ | refine blk_alloc ?_ _)); refine blk_far ?_ NB279_289.out _; (with_reducible repeat (first | refine blk_drewN ?_ _ | refine blk_drew ?_ | refine blk_alloc ?_ _)); refine blk_far ?_ NB279_289.out _; (with_reducible repeat (first | refine blk_drewN ?_ _ | refine blk_drew ?_ | refine blk_alloc ?_ _)); exact BK279.out) Try.underlying60 rfl (by kernel_rfl)) rfl ?_
  exact ⟨_, _, S.eW, by (with_reducible repeat (first | apply Kd.R_alloc | apply Kd.R_drewN | apply Kd.R_drew)); exact Kd.R_mono (Kd.R_far (p := ⟨gb279, 3, none⟩) (Kd.R_far (p := ⟨gb279, 2, none⟩) (Kd.R_far (p := ⟨gb279, 1, none⟩) (Kd.R_far (p := ⟨gb279, 0, none⟩) (Kd.R_far (p := ⟨gb289, 3, none⟩) (Kd.R_far (p := ⟨gb289, 2, none⟩) (Kd.R_far (p := ⟨gb289, 1, none⟩) (Kd.R_far (p := ⟨gb289, 0, none⟩) (Kd.R_types (Kd.R_types HO282.out BK289.out (by decide)) BK279.out (by decide)) (fun _ hk => hk.1.2) (.slice Ao12 t280.length co12)) (fun _ hk => hk.1.2) (.int .i64 t283)) (fun _ hk => hk.1.2) (.slice Ao16 t284.length co16)) (fun _ hk => hk.1.2) (.int .i64 t287)) (fun _ hk => hk.2) (.slice Ao12 t280.length co12)) (fun _ hk => hk.2) (.int .i64 t283)) (fun _ hk => hk.2) (.slice Ao16 t284.length co16)) (fun _ hk => hk.2) (.int .i64 t287)) (fun _ hk => hk.1.1), by (with_reducible repeat (first | apply Kd.R_alloc | apply Kd.R_drewN | apply Kd.R_drew)); exact Kd.R_mono (Kd.R_far (p := ⟨gb279, 3, none⟩) (Kd.R_far (p := ⟨gb279, 2, none⟩) (Kd.R_far (p := ⟨gb279, 1, none⟩) (Kd.R_far (p := ⟨gb279, 0, none⟩) (Kd.R_far (p := ⟨gb289, 3, none⟩) (Kd.R_far (p := ⟨gb289, 2, none⟩) (Kd.R_far (p := ⟨gb289, 1, none⟩) (Kd.R_far (p := ⟨gb289, 0, none⟩) (Kd.R_types (Kd.R_types HO286.out BK289.out (by decide)) BK279.out (by decide)) (fun _ hk => hk.1.2) (.slice Ao12 t280.length co12)) (fun _ hk => hk.1.2) (.int .i64 t283)) (fun _ hk => hk.1.2) (.slice Ao16 t284.length co16)) (fun _ hk => hk.1.2) (.int .i64 t287)) (fun _ hk => hk.2) (.slice Ao12 t280.length co12)) (fun _ hk => hk.2) (.int .i64 t283)) (fun _ hk => hk.2) (.slice Ao16 t284.length co16)) (fun _ hk => hk.2) (.int .i64 t287)) (fun _ hk => hk.1.1), S.bG⟩
 ·replace H := S.bd H; obtain ⟨⟨t290, t293, t294, t297⟩, A18, H⟩ := H
  (try dsimp only at H)
  simp only [Option.some.injEq, Prod.mk.injEq] at H
  obtain ⟨rfl, rfl, rfl, rfl⟩ := H
  go_enter Try.func47, Try.ntmps47
  go_wp2_with (first | ((with_reducible refine gate_dst (N := 4) rfl ?_); refine S.bx 4 (cs := #[.slice A1_0 l1_0.length c1_0, .int .i64 a1_1, .slice A1_2 l1_2.length c1_2, .int .i64 a1_3]) (t := 60) ?_; intro gb278 hg w19 hbox hb; have BK278 := Aside0.mk hbox; have GW278 := S.geA hg; have GE278 := S.geA hg; replace HB := S.sA hb; clear hb hbox hg) | ((with_reducible refine gate_dst (N := 6) rfl ?_); refine S.bx 6 (cs := #[.slice none 0 0, .int .i64 0, .slice none 0 0, .int .i64 0]) (t := 60) ?_; intro gb279 hg w20 hbox hb; have BK279 := Aside0.mk hbox; have GW279 := S.geG hg; have GE279 := S.geG hg; replace HB := S.sG hb; have NB278_279 := S.nl hg BK278; have NB279_278 := S.ng hg BK278; replace BK278 := S.kb BK278 hb; clear hb hbox hg; have hnb21 := NB278_279.out; have hnc21 := NB279_278.out; obtain ⟨Z22a, Z22b, Z22c, Z22d, Y22a, Y22b, Y22c, Y22d⟩ := S.c4 BK278.out) | ((with_reducible refine gate_callee (f := 41) rfl ?_); refine S.gL (some 13) Try.func41 #[.slice A0 l0.length c0, .agg #[.slice A1_0 l1_0.length c1_0, .int .i64 a1_1, .slice A1_2 l1_2.length c1_2, .int .i64 a1_3], .int .i64 a2] ?_; (with_reducible refine (spec_CutFor.calls k _ _ l0 _ _ l1_0 a1_1 _ _ l1_2 a1_3 a2 t280 t283 t284 t287 false _ ?s1 HC0.out ?s3 HC1_0.out ?s5 HC1_2.out A4.out).mono ?_); (case s1 => exact S.cA HR0.out); (case s3 => exact S.cA HR1_0.out); (case s5 => exact S.cA HR1_2.out); rintro e w23 ⟨v281, v285, rfl, ho0, ho1, hb⟩; refine ⟨_, rfl, ?_⟩; have HO282 := S.lwG ho0; have HO286 := S.lwG ho1; replace BK278 := S.kb BK278 hb; replace BK279 := S.kb BK279 hb; replace HB := S.sG hb; (try clear hb); (try clear ho0); (try clear ho1)) | ((with_reducible refine gate_dst (N := 7) rfl ?_); refine S.bx 7 (cs := #[.slice none 0 0, .int .i64 0, .slice none 0 0, .int .i64 0]) (t := 60) ?_; intro gb289 hg w24 hbox hb; replace HO282 := S.rb HO282 hb; replace HO286 := S.rb HO286 hb; have BK289 := Aside0.mk hbox; have GW289 := S.geG hg; have GE289 := S.geG hg; replace HB := S.sG hb; have NB278_289 := S.nl hg BK278; have NB289_278 := S.ng hg BK278; replace BK278 := S.kb BK278 hb; have NB279_289 := S.nl hg BK279; have NB289_279 := S.ng hg BK279; replace BK279 := S.kb BK279 hb; clear hb hbox hg; obtain ⟨Ao25, co25, eo25⟩ := Kd.R_slice HO282.out; subst eo25; have hnb26 := NB289_278.out; have hnc26 := NB278_289.out; have hnb27 := NB289_279.out; have hnc27 := NB279_289.out; obtain ⟨Z28a, Z28b, Z28c, Z28d, Y28a, Y28b, Y28c, Y28d⟩ := S.c4 BK289.out; obtain ⟨Ao29, co29, eo29⟩ := Kd.R_slice HO286.out; subst eo29; obtain ⟨Z30a, Z30b, Z30c, Z30d, Y30a, Y30b, Y30c, Y30d⟩ := S.c4 BK278.out) | ((with_reducible refine gate_callee (f := 92) rfl ?_); refine S.gL (some 20) Try.func92 #[.slice A0 l0.length c0, .agg #[.slice A1_0 l1_0.length c1_0, .int .i64 a1_1, .slice A1_2 l1_2.length c1_2, .int .i64 a1_3]] ?_; (with_reducible refine (spec_TickControl.calls k _ _ l0 _ _ l1_0 a1_1 _ _ l1_2 a1_3 t290 t293 t294 t297 _ ?s1 HC0.out ?s3 HC1_0.out ?s5 HC1_2.out A18.out).mono ?_); (case s1 => exact Kd.C_below HR0.out S.bG); (case s3 => exact Kd.C_below HR1_0.out S.bG); (case s5 => exact Kd.C_below HR1_2.out S.bG); rintro e w31 ⟨v291, v295, rfl, ho0, ho1, hb⟩; refine ⟨_, rfl, ?_⟩; have HO292 := Aside0.mk (Kd.R_lower (Kd.R_new' (Kd.R_new' ho0 (Kd.R_lt (S.G4 HO282 BK289))) (Kd.R_lt (S.G4 HO286 BK289))) (below_size S.bG)); have HO296 := Aside0.mk (Kd.R_lower (Kd.R_new' (Kd.R_new' ho1 (Kd.R_lt (S.G4 HO282 BK289))) (Kd.R_lt (S.G4 HO286 BK289))) (below_size S.bG)); replace HO282 := Aside0.mk (Kd.R_mono (Kd.R_told (Kd.R_told (Kd.R_old (S.G4 HO282 BK289) hb) (Kd.R_base ho0)) (Kd.R_base ho1)) (fun _ h_ => h_.1)); replace HO286 := Aside0.mk (Kd.R_mono (Kd.R_told (Kd.R_told (Kd.R_old (S.G4 HO286 BK289) hb) (Kd.R_base ho0)) (Kd.R_base ho1)) (fun _ h_ => h_.1)); replace BK278 := S.kf BK278 NB278_289 hb; replace BK279 := S.kf BK279 NB279_289 hb; replace BK289 := S.kp4 BK289 hb; replace HB := S.sG hb; (try clear hb); (try clear ho0); (try clear ho1); obtain ⟨Ao32, co32, eo32⟩ := Kd.R_slice HO292.out; subst eo32; obtain ⟨Z33a, Z33b, Z33c, Z33d, Y33a, Y33b, Y33c, Y33d⟩ := S.c4 BK279.out; obtain ⟨Ao34, co34, eo34⟩ := Kd.R_slice HO296.out; subst eo34))
  refine bodyPost_ret (results_cell_row rfl _ _ gb279 60 #[.slice Ao32 t290.length co32, .int .i64 t293, .slice Ao34 t294.length co34, .int .i64 t297] (0, 0) _ rfl (by (with_reducible repeat (first | refine blk_drewN ?_ _ | refine blk_drew ?_ | refine blk_alloc ?_ _)); refine blk_put (cs := #[.slice Ao32 t290.length co32, .int .i64 t293, .slice Ao34 t294.length co34, .int .i64 0]) ?_ 3 _ rfl; (with_reducible repeat (first | refine blk_drewN ?_ _ | refine blk_drew ?_ | refine blk_alloc ?_ _)); refine blk_put (cs := #[.slice Ao32 t290.length co32, .int .i64 t293, .slice none 0 0, .int .i64 0]) ?_ 2 _ rfl; (with_reducible repeat (first | refine blk_drewN ?_ _ | refine blk_drew ?_ | refine blk_alloc ?_ _)); refine blk_put (cs := #[.slice Ao32 t290.length co32, .int .i64 0, .slice none 0 0, .int .i64 0]) ?_ 1 _ rfl; (with_reducible repeat (first | refine blk_drewN ?_ _ | refine blk_drew ?_ | refine blk_alloc ?_ _)); refine blk_put (cs := #[.slice none 0 0, .int .i64 0, .slice none 0 0, .int .i64 0]) ?_ 0 _ rfl; (with_reducible repeat (first | refine blk_drewN ?_ _ | refine blk_drew ?_ | refine blk_alloc ?_ _)); exact BK279.out) Try.underlying60 rfl (by kernel_rfl)) rfl ?_
  exact ⟨_, _, S.eW, by (with_reducible repeat (first | apply Kd.R_alloc | apply Kd.R_drewN | apply Kd.R_drew)); exact Kd.R_mono (Kd.R_far (p := ⟨gb279, 3, none⟩) (Kd.R_far (p := ⟨gb279, 2, none⟩) (Kd.R_far (p := ⟨gb279, 1, none⟩) (Kd.R_far (p := ⟨gb279, 0, none⟩) (Kd.R_types HO292.out BK279.out (by decide)) (fun _ hk => hk.2) (.slice Ao32 t290.length co32)) (fun _ hk => hk.2) (.int .i64 t293)) (fun _ hk => hk.2) (.slice Ao34 t294.length co34)) (fun _ hk => hk.2) (.int .i64 t297)) (fun _ hk => hk.1.1.1), by (with_reducible repeat (first | apply Kd.R_alloc | apply Kd.R_drewN | apply Kd.R_drew)); exact Kd.R_mono (Kd.R_far (p := ⟨gb279, 3, none⟩) (Kd.R_far (p := ⟨gb279, 2, none⟩) (Kd.R_far (p := ⟨gb279, 1, none⟩) (Kd.R_far (p := ⟨gb279, 0, none⟩) (Kd.R_types HO296.out BK279.out (by decide)) (fun _ hk => hk.2) (.slice Ao32 t290.length co32)) (fun _ hk => hk.2) (.int .i64 t293)) (fun _ hk => hk.2) (.slice Ao34 t294.length co34)) (fun _ hk => hk.2) (.int .i64 t297)) (fun _ hk => hk.1.1.1), S.bG⟩

/-! ### spec_l17Green: function 90 -/
def spec_l17Green.f (k : Nat) (l0 : List (S52)) (l1_0 : List Int) (a1_1 : Int) (l1_2 : List Int) (a1_3 : Int) (a2 : Int) : Option (Bool) := (spec_l6Has.f k l1_0 a2).bind fun t299 => (if t299 = true then (if (l1_2.length : Int) = 0 then (some true) else ((spec_l6Has.f k l1_2 a2).bind fun t300 => (some t300))) else (some false))
set_option maxHeartbeats 8000000 in
set_option maxRecDepth 100000 in
theorem spec_l17Green.calls (k : Nat) (A0 : Option Addr) (c0 : Nat) (l0 : List (S52)) (A1_0 : Option Addr) (c1_0 : Nat) (l1_0 : List Int) (a1_1 : Int) (A1_2 : Option Addr) (c1_2 : Nat) (l1_2 : List Int) (a1_3 : Int) (a2 : Int) (r : Bool) (w : World) (hr0 : Kd.C k52 w A0 l0.length l0) (hc0 : l0.length ≤ c0) (hr1_0 : Kd.C (Kd.int .i64) w A1_0 l1_0.length l1_0) (hc1_0 : l1_0.length ≤ c1_0) (hr1_2 : Kd.C (Kd.int .i64) w A1_2 l1_2.length l1_2) (hc1_2 : l1_2.length ≤ c1_2) (h : spec_l17Green.f k l0 l1_0 a1_1 l1_2 a1_3 a2 = some r) :
  Calls Try.prog 90 #[.slice A0 l0.length c0, .agg #[.slice A1_0 l1_0.length c1_0, .int .i64 a1_1, .slice A1_2 l1_2.length c1_2, .int .i64 a1_3], .int .i64 a2] w fun e w' => e = .returned (.bool r) ∧ Below w.heap.size w w' := by
 have hu60 := Try.underlying60
 have HR0 := Aside0.mk hr0
 have HC0 := Aside0.mk hc0
 clear hr0 hc0
 have HR1_0 := Aside0.mk hr1_0
 have HC1_0 := Aside0.mk hc1_0
 clear hr1_0 hc1_0
 have HR1_2 := Aside0.mk hr1_2
 have HC1_2 := Aside0.mk hc1_2
 clear hr1_2 hc1_2
 have HB := Aside0.mk (Below.refl w.heap.size w)
 have H : ((spec_l6Has.f k l1_0 a2).bind fun t299 => (if t299 = true then (if (l1_2.length : Int) = 0 then (some true) else ((spec_l6Has.f k l1_2 a2).bind fun t300 => (some t300))) else (some false))) = some r := h
 clear h
 replace H := S.bd H; obtain ⟨t299, A4, H⟩ := H
 (try dsimp only at H)
 replace H := S.db H; rcases H with ⟨rfl, H⟩ | ⟨rfl, H⟩
 ·by_cases c6 : (l1_2.length : Int) = 0
  ·rw [if_pos c6] at H
   have c6b0 : ((l1_2.length : Int) == 0) = true := beq_iff_eq.mpr c6
   have c6b1 : ((l1_2.length : Int) != 0) = false := bne_eq_false_iff_eq.mpr c6
   clear c6
   obtain rfl := Option.some.inj H
   go_enter Try.func90, Try.ntmps90
   go_wp2_with (first | ((with_reducible refine gate_dst (N := 4) rfl ?_); (try (refine gate_guard (by rfl) ?_; dsimp only)); refine S.bx 4 (cs := #[.slice A1_0 l1_0.length c1_0, .int .i64 a1_1, .slice A1_2 l1_2.length c1_2, .int .i64 a1_3]) (t := 60) ?_; intro gb298 hg w7 hbox hb; have BK298 := Aside0.mk hbox; have GW298 := S.geA hg; have GE298 := S.geA hg; replace HB := S.sA hb; clear hb hbox hg; obtain ⟨Z8a, Z8b, Z8c, Z8d, Y8a, Y8b, Y8c, Y8d⟩ := S.c4 BK298.out) | ((with_reducible refine gate_callee (f := 79) rfl ?_); refine S.gL (some 10) Try.func79 #[.slice A1_0 l1_0.length c1_0, .int .i64 a2] ?_; (with_reducible refine (spec_l6Has.calls k _ _ l1_0 a2 true _ ?s1 HC1_0.out A4.out).mono ?_); (case s1 => exact S.cA HR1_0.out); rintro e w' ⟨rfl, ⟨nd, rfl⟩⟩; refine ⟨_, rfl, ?_⟩))
   go_ret
   exact ⟨S.eW, S.bG⟩
  ·rw [if_neg c6] at H
   have c6b0 : ((l1_2.length : Int) == 0) = false := beq_eq_false_iff_ne.mpr c6
   have c6b1 : ((l1_2.length : Int) != 0) = true := bne_iff_ne.mpr c6
   have c6b2 : ¬ (l1_2 = []) := fun h_ => c6 (by rw [h_]; rfl)
   replace H := S.bd H; obtain ⟨t300, A9, H⟩ := H
   (try dsimp only at H)
   obtain rfl := Option.some.inj H
   go_enter Try.func90, Try.ntmps90
   go_wp2_with (first | ((with_reducible refine gate_dst (N := 4) rfl ?_); (try (refine gate_guard (by rfl) ?_; dsimp only)); refine S.bx 4 (cs := #[.slice A1_0 l1_0.length c1_0, .int .i64 a1_1, .slice A1_2 l1_2.length c1_2, .int .i64 a1_3]) (t := 60) ?_; intro gb298 hg w10 hbox hb; have BK298 := Aside0.mk hbox; have GW298 := S.geA hg; have GE298 := S.geA hg; replace HB := S.sA hb; clear hb hbox hg; obtain ⟨Z11a, Z11b, Z11c, Z11d, Y11a, Y11b, Y11c, Y11d⟩ := S.c4 BK298.out) | ((with_reducible refine gate_callee (f := 79) rfl ?_); refine S.gL (some 10) Try.func79 #[.slice A1_0 l1_0.length c1_0, .int .i64 a2] ?_; (with_reducible refine (spec_l6Has.calls k _ _ l1_0 a2 true _ ?s1 HC1_0.out A4.out).mono ?_); (case s1 => exact S.cA HR1_0.out); rintro e w' ⟨rfl, ⟨nd, rfl⟩⟩; refine ⟨_, rfl, ?_⟩) | (go_at_call 79; (with_reducible refine (spec_l6Has.calls k _ _ l1_2 a2 t300 _ ?s1 HC1_2.out A9.out).mono ?_); (case s1 => repeat (first | exact (Kd.C_below HR1_2.out S.bG) | (with_reducible refine Kd.C_alloc ?_ _) | (with_reducible refine Kd.C_drewN ?_ _) | (with_reducible refine Kd.C_drew ?_))); rintro e w' ⟨rfl, ⟨nd, rfl⟩⟩))
   go_ret
   exact ⟨S.eW, S.bG⟩
 ·obtain rfl := Option.some.inj H
  go_enter Try.func90, Try.ntmps90
  go_wp2_with (first | ((with_reducible refine gate_dst (N := 4) rfl ?_); (try (refine gate_guard (by rfl) ?_; dsimp only)); refine S.bx 4 (cs := #[.slice A1_0 l1_0.length c1_0, .int .i64 a1_1, .slice A1_2 l1_2.length c1_2, .int .i64 a1_3]) (t := 60) ?_; intro gb298 hg w12 hbox hb; have BK298 := Aside0.mk hbox; have GW298 := S.geA hg; have GE298 := S.geA hg; replace HB := S.sA hb; clear hb hbox hg; obtain ⟨Z13a, Z13b, Z13c, Z13d, Y13a, Y13b, Y13c, Y13d⟩ := S.c4 BK298.out) | ((with_reducible refine gate_callee (f := 79) rfl ?_); refine S.gL (some 10) Try.func79 #[.slice A1_0 l1_0.length c1_0, .int .i64 a2] ?_; (with_reducible refine (spec_l6Has.calls k _ _ l1_0 a2 false _ ?s1 HC1_0.out A4.out).mono ?_); (case s1 => exact S.cA HR1_0.out); rintro e w' ⟨rfl, ⟨nd, rfl⟩⟩; refine ⟨_, rfl, ?_⟩))
  go_ret
  exact ⟨S.eW, S.bG⟩

/-! ### spec_SirenWait: function 45 -/
mutual
def spec_SirenWait.j0 : Nat → List (S52) → Int → Bool → List Int → Int → List Int → Int → Option (Int)
 | 0, _, _, _, _, _, _, _ => none
 | k + 1, x0, x2, x27, x302000, x302001, x302002, x302003 => if x27 = true then (some (-1)) else (spec_SirenWait.l0 k x0 x2 0 x302000 x302001 x302002 x302003)
def spec_SirenWait.l0 : Nat → List (S52) → Int → Int → List Int → Int → List Int → Int → Option (Int)
 | 0, _, _, _, _, _, _, _ => none
 | k + 1, x0, x2, x8, x302000, x302001, x302002, x302003 => (spec_l17Green.f k x0 x302000 x302001 x302002 x302003 x2).bind fun t305 => (if t305 = true then (some x8) else ((spec_StepSiren.f k x0 x302000 x302001 x302002 x302003 x2).bind fun bt306 => (spec_SirenWait.l0 k x0 x2 (wrap64 (x8 + 1)) bt306.1 bt306.2.1 bt306.2.2.1 bt306.2.2.2)))
end
def spec_SirenWait.f (k : Nat) (l0 : List (S52)) (l1_0 : List Int) (a1_1 : Int) (l1_2 : List Int) (a1_3 : Int) (a2 : Int) : Option (Int) := (spec_FindPath.f k l0 a2).bind fun t302 => ((spec_IsControl.f k l0 l1_0 a1_1 l1_2 a1_3).bind fun t303 => (if t303 = true then (if t302 < 0 then (spec_SirenWait.j0 k l0 a2 true l1_0 a1_1 l1_2 a1_3) else (if 0 ≤ t302 then (if t302 < (l0.length : Int) then (spec_SirenWait.j0 k l0 a2 (((rd_T52 l0 t302).f1) == 2) l1_0 a1_1 l1_2 a1_3) else (none)) else (none))) else (spec_SirenWait.j0 k l0 a2 true l1_0 a1_1 l1_2 a1_3)))
set_option maxHeartbeats 8000000 in
set_option maxRecDepth 100000 in
theorem spec_SirenWait.calls (k : Nat) (A0 : Option Addr) (c0 : Nat) (l0 : List (S52)) (P1_0_ : Nat → Prop) (A1_0 : Option Addr) (c1_0 : Nat) (l1_0 : List Int) (a1_1 : Int) (P1_2_ : Nat → Prop) (A1_2 : Option Addr) (c1_2 : Nat) (l1_2 : List Int) (a1_3 : Int) (a2 : Int) (r : Int) (w : World) (hr0 : Kd.C k52 w A0 l0.length l0) (hc0 : l0.length ≤ c0) (hs1_0 : Kd.V (Kd.int .i64) 3 w w.heap.size (fun k_ => P1_0_ k_) (.slice A1_0 l1_0.length c1_0) l1_0) (hs1_2 : Kd.V (Kd.int .i64) 3 w w.heap.size (fun k_ => P1_2_ k_) (.slice A1_2 l1_2.length c1_2) l1_2) (h : spec_SirenWait.f k l0 l1_0 a1_1 l1_2 a1_3 a2 = some r) :
  Calls Try.prog 45 #[.slice A0 l0.length c0, .agg #[.slice A1_0 l1_0.length c1_0, .int .i64 a1_1, .slice A1_2 l1_2.length c1_2, .int .i64 a1_3], .int .i64 a2] w fun e w' => e = .returned (.int .i64 r) ∧ Below w.heap.size w w' := by
 have hu60 := Try.underlying60
 have HR0 := Aside0.mk hr0
 have HC0 := Aside0.mk hc0
 clear hr0 hc0
 have HO1_0 := Aside0.mk (show Kd.V (Kd.int .i64) 3 w w.heap.size (fun k_ => ((P1_0_ k_ ∨ P1_2_ k_) ∨ w.heap.size ≤ k_)) (.slice A1_0 l1_0.length c1_0) l1_0 from Kd.V_mono hs1_0 (fun k_ hk => .inl (.inl hk)))
 have HO1_2 := Aside0.mk (show Kd.V (Kd.int .i64) 3 w w.heap.size (fun k_ => ((P1_0_ k_ ∨ P1_2_ k_) ∨ w.heap.size ≤ k_)) (.slice A1_2 l1_2.length c1_2) l1_2 from Kd.V_mono hs1_2 (fun k_ hk => .inl (.inr hk)))
 have HB := Aside0.mk (Below.refl w.heap.size w)
 have H : ((spec_FindPath.f k l0 a2).bind fun t302 => ((spec_IsControl.f k l0 l1_0 a1_1 l1_2 a1_3).bind fun t303 => (if t303 = true then (if t302 < 0 then (spec_SirenWait.j0 k l0 a2 true l1_0 a1_1 l1_2 a1_3) else (if 0 ≤ t302 then (if t302 < (l0.length : Int) then (spec_SirenWait.j0 k l0 a2 (((rd_T52 l0 t302).f1) == 2) l1_0 a1_1 l1_2 a1_3) else (none)) else (none))) else (spec_SirenWait.j0 k l0 a2 true l1_0 a1_1 l1_2 a1_3)))) = some r := h
 clear h
 replace H := S.bd H; obtain ⟨t302, A4, H⟩ := H
 (try dsimp only at H)
 have HC5 := Aside0.mk H
 clear H
 go_enter Try.func45, Try.ntmps45
 go_upto_region 2 with (first | ((with_reducible refine gate_dst (N := 4) rfl ?_); refine S.bx 4 (cs := #[.slice A1_0 l1_0.length c1_0, .int .i64 a1_1, .slice A1_2 l1_2.length c1_2, .int .i64 a1_3]) (t := 60) ?_; intro gb301 hg w6 hbox hb; replace HO1_0 := Aside0.mk (Kd.V_below (Kd.V_elderB (S.uV HO1_0.out) gb301 (Nat.le_of_eq hg.symm)) hb); replace HO1_2 := Aside0.mk (Kd.V_below (Kd.V_elderB (S.uV HO1_2.out) gb301 (Nat.le_of_eq hg.symm)) hb); have BK301 := Aside0.mk hbox; have GW301 := S.geA hg; have GE301 := S.geA hg; replace HB := S.sA hb; clear hb hbox hg) | ((with_reducible refine gate_callee (f := 85) rfl ?_); refine S.gL (some 11) Try.func85 #[.slice A0 l0.length c0, .int .i64 a2] ?_; (with_reducible refine (spec_FindPath.calls k _ _ l0 a2 t302 _ ?s1 HC0.out A4.out).mono ?_); (case s1 => exact S.cA HR0.out); rintro e w' ⟨rfl, ⟨nd, rfl⟩⟩; refine ⟨_, rfl, ?_⟩))
 (try simp only [Act.put, List.setIfInBounds_toArray, List.set_cons_zero, List.set_cons_succ])
 go_cut [27] (fun v27 wc => ∃ (kq : Nat) (x27_4 : Bool), v27 = .bool x27_4 ∧ Aside0 (spec_SirenWait.j0 kq l0 a2 x27_4 l1_0 a1_1 l1_2 a1_3 = some r) ∧ Aside0 (kq ≤ k) ∧ Aside0 (Kd.V (Kd.int .i64) 3 wc w.heap.size (fun k_ => ((P1_0_ k_ ∨ P1_2_ k_) ∨ w.heap.size ≤ k_) ∧ k_ ≠ gb301) (.slice A1_0 l1_0.length c1_0) l1_0) ∧ Aside0 (Kd.V (Kd.int .i64) 3 wc w.heap.size (fun k_ => ((P1_0_ k_ ∨ P1_2_ k_) ∨ w.heap.size ≤ k_) ∧ k_ ≠ gb301) (.slice A1_2 l1_2.length c1_2) l1_2) ∧ Aside0 (wc.heap[gb301]? = some (.cells #[(.slice A1_0 l1_0.length c1_0), .int .i64 a1_1, (.slice A1_2 l1_2.length c1_2), .int .i64 a1_3] 60 (0, 0))) ∧ Aside0 (Below w.heap.size w wc))
 case first =>
  have H := HC5.out
  clear HC5
  replace H := S.bd H; obtain ⟨t303, A7, H⟩ := H
  (try dsimp only at H)
  replace H := S.db H; rcases H with ⟨rfl, H⟩ | ⟨rfl, H⟩
  ·replace H := S.dc H; rcases H with ⟨H, c9b0⟩ | ⟨H, c9b0⟩
   ·(first | rw [c9b0] | (simp only [i64_w, i32_w]; rw [c9b0]) | skip)
    have H' := Aside0.mk H
    clear H
    obtain ⟨Z10a, Z10b, Z10c, Z10d, Y10a, Y10b, Y10c, Y10d⟩ := S.c4 BK301.out
    go_wp2_with (first | ((with_reducible refine gate_callee (f := 76) rfl ?_); refine S.gL (some 14) Try.func76 #[.slice A0 l0.length c0, .agg #[.slice A1_0 l1_0.length c1_0, .int .i64 a1_1, .slice A1_2 l1_2.length c1_2, .int .i64 a1_3]] ?_; (with_reducible refine (spec_IsControl.calls k _ _ l0 _ _ l1_0 a1_1 _ _ l1_2 a1_3 true _ ?s1 HC0.out ?s3 ?s4 ?s5 ?s6 A7.out).mono ?_); (case s1 => exact S.cA HR0.out); (case s3 => repeat (first | exact (Kd.V_reads' HO1_0.out).2.2 | (with_reducible refine Kd.C_alloc ?_ _) | (with_reducible refine Kd.C_drewN ?_ _) | (with_reducible refine Kd.C_drew ?_))); (case s4 => exact (Kd.V_reads' HO1_0.out).2.1); (case s5 => repeat (first | exact (Kd.V_reads' HO1_2.out).2.2 | (with_reducible refine Kd.C_alloc ?_ _) | (with_reducible refine Kd.C_drewN ?_ _) | (with_reducible refine Kd.C_drew ?_))); (case s6 => exact (Kd.V_reads' HO1_2.out).2.1); rintro e w11 ⟨rfl, hb⟩; refine ⟨_, rfl, ?_⟩; replace HO1_0 := Aside0.mk (Kd.V_below (S.uV HO1_0.out) hb); replace HO1_2 := Aside0.mk (Kd.V_below (S.uV HO1_2.out) hb); replace BK301 := S.kb BK301 hb; replace HB := S.sG hb; (try clear hb)))
    go_meet
    case rel => exact ⟨_, (true), S.eA, H', S.le, ⟨S.uV HO1_0.out⟩, ⟨S.uV HO1_2.out⟩, ⟨S.uB BK301.out⟩, ⟨S.bG⟩⟩
   ·(first | rw [c9b0] | (simp only [i64_w, i32_w]; rw [c9b0]) | skip)
    by_cases c12 : 0 ≤ t302
    ·rw [if_pos c12] at H
     have c12b0 : decide (0 ≤ t302) = true := decide_eq_true c12
     clear c12
     by_cases c13 : t302 < (l0.length : Int)
     ·rw [if_pos c13] at H
      have c13b0 : decide (t302 < (l0.length : Int)) = true := decide_eq_true c13
      clear c13
      have H' := Aside0.mk H
      clear H
      obtain ⟨Z14a, Z14b, Z14c, Z14d, Y14a, Y14b, Y14c, Y14d⟩ := S.c4 BK301.out
      go_wp2_with (first | ((with_reducible refine gate_callee (f := 76) rfl ?_); refine S.gL (some 14) Try.func76 #[.slice A0 l0.length c0, .agg #[.slice A1_0 l1_0.length c1_0, .int .i64 a1_1, .slice A1_2 l1_2.length c1_2, .int .i64 a1_3]] ?_; (with_reducible refine (spec_IsControl.calls k _ _ l0 _ _ l1_0 a1_1 _ _ l1_2 a1_3 true _ ?s1 HC0.out ?s3 ?s4 ?s5 ?s6 A7.out).mono ?_); (case s1 => exact S.cA HR0.out); (case s3 => repeat (first | exact (Kd.V_reads' HO1_0.out).2.2 | (with_reducible refine Kd.C_alloc ?_ _) | (with_reducible refine Kd.C_drewN ?_ _) | (with_reducible refine Kd.C_drew ?_))); (case s4 => exact (Kd.V_reads' HO1_0.out).2.1); (case s5 => repeat (first | exact (Kd.V_reads' HO1_2.out).2.2 | (with_reducible refine Kd.C_alloc ?_ _) | (with_reducible refine Kd.C_drewN ?_ _) | (with_reducible refine Kd.C_drew ?_))); (case s6 => exact (Kd.V_reads' HO1_2.out).2.1); rintro e w15 ⟨rfl, hb⟩; refine ⟨_, rfl, ?_⟩; replace HO1_0 := Aside0.mk (Kd.V_below (S.uV HO1_0.out) hb); replace HO1_2 := Aside0.mk (Kd.V_below (S.uV HO1_2.out) hb); replace BK301 := S.kb BK301 hb; replace HB := S.sG hb; (try clear hb); have p304 : 0 ≤ (t302 : Int) := S.oD; have q304 : t302 < (l0.length : Int) := S.oD; obtain ⟨ad304, e304, hx304_0, hx304_1, hx304_2, hx304_3⟩ := at_T52 HR0.out t302 p304 q304; cases e304; replace hx304_0 := S.hb HB hx304_0; replace hx304_1 := S.hb HB hx304_1; replace hx304_2 := S.hb HB hx304_2; replace hx304_3 := S.hb HB hx304_3; replace p304 := eq_true p304; replace q304 := eq_true q304))
      go_meet
      case rel => exact ⟨_, ((((rd_T52 l0 t302).f1) == 2)), S.eA, H', S.le, ⟨S.uV HO1_0.out⟩, ⟨S.uV HO1_2.out⟩, ⟨S.uB BK301.out⟩, ⟨S.bG⟩⟩
     ·rw [if_neg c13] at H
      exact absurd H (by simp)
    ·rw [if_neg c12] at H
     exact absurd H (by simp)
  ·have H' := Aside0.mk H
   clear H
   obtain ⟨Z16a, Z16b, Z16c, Z16d, Y16a, Y16b, Y16c, Y16d⟩ := S.c4 BK301.out
   go_wp2_with (first | ((with_reducible refine gate_callee (f := 76) rfl ?_); refine S.gL (some 14) Try.func76 #[.slice A0 l0.length c0, .agg #[.slice A1_0 l1_0.length c1_0, .int .i64 a1_1, .slice A1_2 l1_2.length c1_2, .int .i64 a1_3]] ?_; (with_reducible refine (spec_IsControl.calls k _ _ l0 _ _ l1_0 a1_1 _ _ l1_2 a1_3 false _ ?s1 HC0.out ?s3 ?s4 ?s5 ?s6 A7.out).mono ?_); (case s1 => exact S.cA HR0.out); (case s3 => repeat (first | exact (Kd.V_reads' HO1_0.out).2.2 | (with_reducible refine Kd.C_alloc ?_ _) | (with_reducible refine Kd.C_drewN ?_ _) | (with_reducible refine Kd.C_drew ?_))); (case s4 => exact (Kd.V_reads' HO1_0.out).2.1); (case s5 => repeat (first | exact (Kd.V_reads' HO1_2.out).2.2 | (with_reducible refine Kd.C_alloc ?_ _) | (with_reducible refine Kd.C_drewN ?_ _) | (with_reducible refine Kd.C_drew ?_))); (case s6 => exact (Kd.V_reads' HO1_2.out).2.1); rintro e w17 ⟨rfl, hb⟩; refine ⟨_, rfl, ?_⟩; replace HO1_0 := Aside0.mk (Kd.V_below (S.uV HO1_0.out) hb); replace HO1_2 := Aside0.mk (Kd.V_below (S.uV HO1_2.out) hb); replace BK301 := S.kb BK301 hb; replace HB := S.sG hb; (try clear hb)))
   go_meet
   case rel => exact ⟨_, (true), S.eA, H', S.le, ⟨S.uV HO1_0.out⟩, ⟨S.uV HO1_2.out⟩, ⟨S.uB BK301.out⟩, ⟨S.bG⟩⟩
 case rest =>
  clear HC5
  obtain ⟨kq, x27_4, rfl, HA, HJ4, HO_302000, HO_302002, BK301, HB⟩ := hcut
  cases kq with
  | zero => exact absurd HA.out (by simp [spec_SirenWait.j0])
  | succ kj4 =>
   have H := HA.out
   clear HA
   simp only [spec_SirenWait.j0] at H
   replace H := S.db H; rcases H with ⟨rfl, H⟩ | ⟨rfl, H⟩
   ·obtain rfl := Option.some.inj H
    go_wp2
    go_ret
    exact ⟨S.eW, S.bG⟩
   ·have H' := Aside0.mk H
    clear H
    go_wp2
    go_loopg [8] kj4 (fun kq v8 w' => ∃ (x8_2 : Int) (x302000_2 : List Int) (x302001_2 : Int) (x302002_2 : List Int) (x302003_2 : Int) (u302000 : Value) (u302002 : Value), v8 = .int .i64 x8_2 ∧ Aside0 (spec_SirenWait.l0 kq l0 a2 x8_2 x302000_2 x302001_2 x302002_2 x302003_2 = some r) ∧ Aside0 (kq ≤ kj4) ∧ Aside0 (Kd.V (Kd.int .i64) 3 w' w.heap.size (fun k_ => ((P1_0_ k_ ∨ P1_2_ k_) ∨ w.heap.size ≤ k_) ∧ k_ ≠ gb301) u302000 x302000_2) ∧ Aside0 (Kd.V (Kd.int .i64) 3 w' w.heap.size (fun k_ => ((P1_0_ k_ ∨ P1_2_ k_) ∨ w.heap.size ≤ k_) ∧ k_ ≠ gb301) u302002 x302002_2) ∧ Aside0 (w'.heap[gb301]? = some (.cells #[u302000, .int .i64 x302001_2, u302002, .int .i64 x302003_2] 60 (0, 0))) ∧ Aside0 (Below w.heap.size w w'))
    case atStart => exact ⟨(0), (l1_0), (a1_1), (l1_2), (a1_3), (.slice A1_0 l1_0.length c1_0), (.slice A1_2 l1_2.length c1_2), S.eA, H', ⟨Nat.le_refl _⟩, ⟨S.uV HO_302000.out⟩, ⟨S.uV HO_302002.out⟩, ⟨S.uB BK301.out⟩, ⟨S.bG⟩⟩
    case round =>
     clear H'
     try clear c18
     obtain ⟨x8_2, x302000_2, x302001_2, x302002_2, x302003_2, u302000, u302002, rfl, HA, HK2, HO_302000, HO_302002, BK301, HB⟩ := hrel
     cases gk with
     | zero => exact absurd HA.out (by simp [spec_SirenWait.l0])
     | succ k2 =>
      have H := HA.out
      clear HA
      simp only [spec_SirenWait.l0] at H
      replace H := S.bd H; obtain ⟨t305, A19, H⟩ := H
      (try dsimp only at H)
      replace H := S.db H; rcases H with ⟨rfl, H⟩ | ⟨rfl, H⟩
      ·obtain rfl := Option.some.inj H
       obtain ⟨Z21a, Z21b, Z21c, Z21d, Y21a, Y21b, Y21c, Y21d⟩ := S.c4 BK301.out
       obtain ⟨Ao22, co22, eo22⟩ := Kd.V_slice HO_302000.out
       subst eo22
       obtain ⟨Ao23, co23, eo23⟩ := Kd.V_slice HO_302002.out
       subst eo23
       go_wp2_with (first | ((with_reducible refine gate_callee (f := 90) rfl ?_); refine S.gL (some 31) Try.func90 #[.slice A0 l0.length c0, .agg #[.slice Ao22 x302000_2.length co22, .int .i64 x302001_2, .slice Ao23 x302002_2.length co23, .int .i64 x302003_2], .int .i64 a2] ?_; (with_reducible refine (spec_l17Green.calls k2 _ _ l0 _ _ x302000_2 x302001_2 _ _ x302002_2 x302003_2 a2 true _ ?s1 HC0.out ?s3 ?s4 ?s5 ?s6 A19.out).mono ?_); (case s1 => exact S.cA HR0.out); (case s3 => repeat (first | exact (Kd.V_reads' HO_302000.out).2.2 | (with_reducible refine Kd.C_alloc ?_ _) | (with_reducible refine Kd.C_drewN ?_ _) | (with_reducible refine Kd.C_drew ?_))); (case s4 => exact (Kd.V_reads' HO_302000.out).2.1); (case s5 => repeat (first | exact (Kd.V_reads' HO_302002.out).2.2 | (with_reducible refine Kd.C_alloc ?_ _) | (with_reducible refine Kd.C_drewN ?_ _) | (with_reducible refine Kd.C_drew ?_))); (case s6 => exact (Kd.V_reads' HO_302002.out).2.1); rintro e w24 ⟨rfl, hb⟩; refine ⟨_, rfl, ?_⟩; replace HO_302000 := Aside0.mk (Kd.V_below (S.uV HO_302000.out) hb); replace HO_302002 := Aside0.mk (Kd.V_below (S.uV HO_302002.out) hb); replace BK301 := S.kb BK301 hb; replace HB := S.sG hb; (try clear hb)))
       go_ret
       exact ⟨S.eW, S.bG⟩
      ·replace H := S.bd H; obtain ⟨⟨t306, t309, t310, t313⟩, A25, H⟩ := H
       (try dsimp only at H)
       have H' := Aside0.mk H
       clear H
       obtain ⟨Z26a, Z26b, Z26c, Z26d, Y26a, Y26b, Y26c, Y26d⟩ := S.c4 BK301.out
       obtain ⟨Ao27, co27, eo27⟩ := Kd.V_slice HO_302000.out
       subst eo27
       obtain ⟨Ao28, co28, eo28⟩ := Kd.V_slice HO_302002.out
       subst eo28
       go_wp2_with (first | ((with_reducible refine gate_callee (f := 90) rfl ?_); refine S.gL (some 31) Try.func90 #[.slice A0 l0.length c0, .agg #[.slice Ao27 x302000_2.length co27, .int .i64 x302001_2, .slice Ao28 x302002_2.length co28, .int .i64 x302003_2], .int .i64 a2] ?_; (with_reducible refine (spec_l17Green.calls k2 _ _ l0 _ _ x302000_2 x302001_2 _ _ x302002_2 x302003_2 a2 false _ ?s1 HC0.out ?s3 ?s4 ?s5 ?s6 A19.out).mono ?_); (case s1 => exact S.cA HR0.out); (case s3 => repeat (first | exact (Kd.V_reads' HO_302000.out).2.2 | (with_reducible refine Kd.C_alloc ?_ _) | (with_reducible refine Kd.C_drewN ?_ _) | (with_reducible refine Kd.C_drew ?_))); (case s4 => exact (Kd.V_reads' HO_302000.out).2.1); (case s5 => repeat (first | exact (Kd.V_reads' HO_302002.out).2.2 | (with_reducible refine Kd.C_alloc ?_ _) | (with_reducible refine Kd.C_drewN ?_ _) | (with_reducible refine Kd.C_drew ?_))); (case s6 => exact (Kd.V_reads' HO_302002.out).2.1); rintro e w29 ⟨rfl, hb⟩; refine ⟨_, rfl, ?_⟩; replace HO_302000 := Aside0.mk (Kd.V_below (S.uV HO_302000.out) hb); replace HO_302002 := Aside0.mk (Kd.V_below (S.uV HO_302002.out) hb); replace BK301 := S.kb BK301 hb; replace HB := S.sG hb; (try clear hb); obtain ⟨Z30a, Z30b, Z30c, Z30d, Y30a, Y30b, Y30c, Y30d⟩ := S.c4 BK301.out) | ((with_reducible refine gate_callee (f := 47) rfl ?_); refine S.gL (some 36) Try.func47 #[.slice A0 l0.length c0, .agg #[.slice Ao27 x302000_2.length co27, .int .i64 x302001_2, .slice Ao28 x302002_2.length co28, .int .i64 x302003_2], .int .i64 a2] ?_; (with_reducible refine (spec_StepSiren.calls k2 _ _ l0 _ _ x302000_2 x302001_2 _ _ x302002_2 x302003_2 a2 t306 t309 t310 t313 _ ?s1 HC0.out ?s3 ?s4 ?s5 ?s6 A25.out).mono ?_); (case s1 => exact S.cA HR0.out); (case s3 => repeat (first | exact (Kd.V_reads' HO_302000.out).2.2 | (with_reducible refine Kd.C_alloc ?_ _) | (with_reducible refine Kd.C_drewN ?_ _) | (with_reducible refine Kd.C_drew ?_))); (case s4 => exact (Kd.V_reads' HO_302000.out).2.1); (case s5 => repeat (first | exact (Kd.V_reads' HO_302002.out).2.2 | (with_reducible refine Kd.C_alloc ?_ _) | (with_reducible refine Kd.C_drewN ?_ _) | (with_reducible refine Kd.C_drew ?_))); (case s6 => exact (Kd.V_reads' HO_302002.out).2.1); rintro e w31 ⟨v307, v311, rfl, ho0, ho1, hb⟩; refine ⟨_, rfl, ?_⟩; replace HO_302000 := Aside0.mk (Kd.V_mono (Kd.V_told (Kd.V_told (Kd.V_old (S.uV HO_302000.out) hb) (Kd.R_base ho0)) (Kd.R_base ho1)) (fun _ h_ => h_.1)); replace HO_302002 := Aside0.mk (Kd.V_mono (Kd.V_told (Kd.V_told (Kd.V_old (S.uV HO_302002.out) hb) (Kd.R_base ho0)) (Kd.R_base ho1)) (fun _ h_ => h_.1)); have HO308 := Aside0.mk (Kd.R_lower (Kd.R_newM (M := fun k_ => (w.heap.size ≤ k_)) ho0 (below_size S.bG) (fun k_ h_ => h_)) (below_size S.bG)); have HO312 := Aside0.mk (Kd.R_lower (Kd.R_newM (M := fun k_ => (w.heap.size ≤ k_)) ho1 (below_size S.bG) (fun k_ h_ => h_)) (below_size S.bG)); replace BK301 := S.kb BK301 hb; replace HB := S.sG hb; (try clear hb); (try clear ho0); (try clear ho1); obtain ⟨Ao32, co32, eo32⟩ := Kd.R_slice HO308.out; subst eo32; obtain ⟨Z33a, Z33b, Z33c, Z33d, Y33a, Y33b, Y33c, Y33d⟩ := S.c4 BK301.out; obtain ⟨Ao34, co34, eo34⟩ := Kd.R_slice HO312.out; subst eo34))
       go_roundg k2
       case measure => have := HJ4.out; have := HK2.out; omega
       case rel => exact ⟨(wrap64 (x8_2 + 1)), (t306), (t309), (t310), (t313), (.slice Ao32 t306.length co32), (.slice Ao34 t310.length co34), S.eA, H', ⟨by have := HJ4.out; have := HK2.out; omega⟩, ⟨Kd.V_mono (ok := fun k_ => w.heap.size ≤ k_ ∧ k_ ≠ gb301) (Kd.R_V (by (with_reducible repeat (first | apply Kd.R_alloc | apply Kd.R_drewN | apply Kd.R_drew)); exact Kd.R_mono (Kd.R_far (p := ⟨gb301, 3, none⟩) (Kd.R_far (p := ⟨gb301, 2, none⟩) (Kd.R_far (p := ⟨gb301, 1, none⟩) (Kd.R_far (p := ⟨gb301, 0, none⟩) (Kd.R_types (Kd.R_types HO308.out BK301.out (by decide)) BK301.out (by decide)) (fun _ hk => hk.2) (.slice Ao32 t306.length co32)) (fun _ hk => hk.2) (.int .i64 t309)) (fun _ hk => hk.2) (.slice Ao34 t310.length co34)) (fun _ hk => hk.2) (.int .i64 t313)) (fun _ hk => ⟨hk.1.1.1, hk.1.2⟩))) (fun k_ hk => by first | exact ⟨(.inr (hk.1)), hk.2⟩ | exact (.inr (hk)))⟩, ⟨Kd.V_mono (ok := fun k_ => w.heap.size ≤ k_ ∧ k_ ≠ gb301) (Kd.R_V (by (with_reducible repeat (first | apply Kd.R_alloc | apply Kd.R_drewN | apply Kd.R_drew)); exact Kd.R_mono (Kd.R_far (p := ⟨gb301, 3, none⟩) (Kd.R_far (p := ⟨gb301, 2, none⟩) (Kd.R_far (p := ⟨gb301, 1, none⟩) (Kd.R_far (p := ⟨gb301, 0, none⟩) (Kd.R_types (Kd.R_types HO312.out BK301.out (by decide)) BK301.out (by decide)) (fun _ hk => hk.2) (.slice Ao32 t306.length co32)) (fun _ hk => hk.2) (.int .i64 t309)) (fun _ hk => hk.2) (.slice Ao34 t310.length co34)) (fun _ hk => hk.2) (.int .i64 t313)) (fun _ hk => ⟨hk.1.1.1, hk.1.2⟩))) (fun k_ hk => by first | exact ⟨(.inr (hk.1)), hk.2⟩ | exact (.inr (hk)))⟩, ⟨S.up4 BK301⟩, ⟨S.bG⟩⟩

-- NOT PRINTED: function 119 (impl_Path)

/-! ### impl_FindPath: function 91 -/
set_option maxHeartbeats 8000000 in
set_option maxRecDepth 100000 in
theorem impl_FindPath.idx (p : S52 → Bool) (g : Nat) (lb : Array Value) (eg : ∀ args w, (callFunc g args).run Try.prog w = .ok (.enter g args) w) (A0 : Option Addr) (c0 : Nat) (l0 : List S52) (w : World)
  (hp : ∀ (W : World) (x : S52), Below w.heap.size w W → Calls Try.prog g (#[.agg #[.int .i64 x.f0, .int .i64 x.f1, .int .i64 x.f2, .int .i64 x.f3]] ++ lb) W fun e w' => e = .returned (.bool (p x)) ∧ Below w.heap.size w w')
  (hr0 : Kd.C k52 w A0 l0.length l0) (hc0 : l0.length ≤ c0) :
  Calls Try.prog 119 #[.slice A0 l0.length c0, .func (.func g) #[] lb] w fun e w' => e = .returned (.int .i64 (Go.Proofs.Ytopchlafmfgpnaa.Hnd.fidx p l0 0)) ∧ Below w.heap.size w w' := by
 have hbig : l0.length ≤ 9223372036854775807 := hr0.2.1
 have HR0 := Aside0.mk hr0
 have HP := Aside0.mk hp
 clear hr0 hp
 go_enter Try.func119, Try.ntmps119
 go_wp2
 go_loopg [5, 8] l0.length (fun gg _ s8 wr => ∃ kk : Nat, kk ≤ l0.length ∧ l0.length - kk ≤ gg ∧ s8 = .int .i64 kk ∧ Aside0 (Below w.heap.size w wr) ∧ Aside0 (Go.Proofs.Ytopchlafmfgpnaa.Hnd.fidx p l0 0 = Go.Proofs.Ytopchlafmfgpnaa.Hnd.fidx p (l0.drop kk) kk))
 case atStart => exact ⟨0, Nat.zero_le _, by omega, rfl, ⟨Below.refl _ w⟩, ⟨by simp⟩⟩
 case round =>
  obtain ⟨kk, hkk, hg, rfl, BW, A⟩ := hrel
  by_cases hlt : kk < l0.length
  ·have hltz : (kk : Int) < (l0.length : Int) := by omega
   obtain ⟨ad116, e116, hx0, hx1, hx2, hx3⟩ := at_T52 HR0.out (kk : Int) (by omega) hltz
   cases e116
   simp only [Int.toNat_natCast] at hx0 hx1 hx2 hx3
   replace hx0 := (BW.out.cell (World.block_lt_of_cell? w _ hx0)).trans hx0
   replace hx1 := (BW.out.cell (World.block_lt_of_cell? w _ hx1)).trans hx1
   replace hx2 := (BW.out.cell (World.block_lt_of_cell? w _ hx2)).trans hx2
   replace hx3 := (BW.out.cell (World.block_lt_of_cell? w _ hx3)).trans hx3
   have hcall := HP.out wr (rd_T52 l0 (kk : Int)) BW.out
   have hq0 : rd_T52 l0 (kk : Int) = l0[kk] := by simp [rd_T52, hlt]
   have E : Aside0 (Go.Proofs.Ytopchlafmfgpnaa.Hnd.fidx p l0 0 = if p (rd_T52 l0 (kk : Int)) = true then (kk : Int) else Go.Proofs.Ytopchlafmfgpnaa.Hnd.fidx p (l0.drop (kk + 1)) (kk + 1)) := ⟨by rw [A.out, List.drop_eq_getElem_cons hlt, hq0]; rfl⟩
   clear A hq0
   generalize rd_T52 l0 (kk : Int) = y at hx0 hx1 hx2 hx3 hcall E
   cases hq : p y with
   | true =>
    rw [hq] at hcall
    go_wp2_with (fail)
    refine hcall.mono ?_
    rintro e w' ⟨rfl, hb'⟩
    clear hcall
    dsimp only
    go_wp2_with (fail)
    go_ret
    exact ⟨by rw [E.out, if_pos hq]; rfl, hb'⟩
   | false =>
    rw [hq] at hcall
    go_wp2_with (fail)
    refine hcall.mono ?_
    rintro e w' ⟨rfl, hb'⟩
    clear hcall
    dsimp only
    go_wp2_with (fail)
    go_roundg (l0.length - (kk + 1))
    case measure => omega
    case rel => exact ⟨kk + 1, by omega, by omega, by go_num, ⟨hb'⟩, ⟨by rw [E.out, hq]; rfl⟩⟩
  ·have hltz : ¬ (kk : Int) < (l0.length : Int) := by omega
   have hkn : kk = l0.length := by omega
   have E : Aside0 (Go.Proofs.Ytopchlafmfgpnaa.Hnd.fidx p l0 0 = -1) := ⟨by rw [A.out, hkn, List.drop_length]; rfl⟩
   clear A
   subst hkn
   go_wp2
   go_ret
   exact ⟨by rw [E.out]; rfl, BW.out⟩

theorem impl_FindPath.pred (a1 : Int) (B0 : Nat) (w : World) (hB0 : B0 < w.heap.size) (hcB0 : w.cell? ⟨B0, 0, none⟩ = some (.int .i64 a1)) :
  ∀ (W : World) (x : S52), Below w.heap.size w W → Calls Try.prog 120 (#[.agg #[.int .i64 x.f0, .int .i64 x.f1, .int .i64 x.f2, .int .i64 x.f3]] ++ #[.pointer (some ⟨B0, 0, none⟩)]) W fun e w' => e = .returned (.bool (x.f0 == a1)) ∧ Below w.heap.size w w' := fun W x hb => by
 have cB0 : W.cell? ⟨B0, 0, none⟩ = some (.int .i64 a1) := (hb.cell (p := ⟨B0, 0, none⟩) hB0).trans hcB0
 have lB0 : B0 < W.heap.size := Nat.lt_of_lt_of_le hB0 hb.size
 have nB0 : B0 ≠ W.heap.size := by omega
 have hB2 := Aside0.mk hb
 clear hb hcB0
 show Calls Try.prog 120 #[.agg #[.int .i64 x.f0, .int .i64 x.f1, .int .i64 x.f2, .int .i64 x.f3], .pointer (some ⟨B0, 0, none⟩)] W _
 go_enter Try.func120, Try.ntmps120
 go_wp2
 go_ret
 exact ⟨by first | rfl | simp, hB2.out.alloc hB2.out.size _⟩
def impl_FindPath.f (l0 : List (S52)) (a1 : Int) : Option (Int) := some (Go.Proofs.Ytopchlafmfgpnaa.Hnd.fidx (fun x : S52 => x.f0 == a1) l0 0)
set_option maxHeartbeats 8000000 in
theorem impl_FindPath.calls (A0 : Option Addr) (c0 : Nat) (l0 : List (S52)) (a1 : Int) (r : Int) (w : World) (hr0 : Kd.C k52 w A0 l0.length l0) (hc0 : l0.length ≤ c0) (h : impl_FindPath.f l0 a1 = some r) :
  Calls Try.prog 91 #[.slice A0 l0.length c0, .int .i64 a1] w fun e w' => e = .returned (.int .i64 r) ∧ Below w.heap.size w w' := by
 obtain rfl := Option.some.inj h
 clear h
 have eg : ∀ args w, (callFunc 120 args).run Try.prog w = .ok (.enter 120 args) w := Go.Proofs.Ytopchlafmfgpnaa.Hnd.enters_fn Try.func120 (by kernel_rfl) rfl
 have hB1 : Below w.heap.size w (w.alloc (.cells #[.int .i64 a1] 3)) := ((Below.refl _ w).alloc (Nat.le_refl _) _)
 have hcon := impl_FindPath.idx (fun x : S52 => x.f0 == a1) 120 #[.pointer (some ⟨w.heap.size, 0, none⟩)] eg A0 c0 l0 (w.alloc (.cells #[.int .i64 a1] 3)) (impl_FindPath.pred a1 w.heap.size _ (by simp) (by simp)) (Kd.C_below hr0 hB1) hc0
 generalize Go.Proofs.Ytopchlafmfgpnaa.Hnd.fidx (fun x : S52 => x.f0 == a1) l0 0 = r at hcon ⊢
 clear hr0 eg
 have HB1 := Aside0.mk hB1
 clear hB1
 go_enter Try.func91, Try.ntmps91
 go_wp2_with (fail)
 refine hcon.mono ?_
 rintro e w' ⟨rfl, hb'⟩
 clear hcon
 dsimp only
 go_wp2_with (fail)
 go_ret
 exact ⟨rfl, HB1.out.trans (hb'.mono (by simp))⟩

/-! ### impl_InRange: function 96 -/
def impl_InRange.f (a0 : Int) (a1 : Int) (a2 : Int) : Option (Bool) := if a1 ≤ a0 then (some (decide (a0 ≤ a2))) else (some false)
set_option maxHeartbeats 8000000 in
set_option maxRecDepth 100000 in
theorem impl_InRange.calls (a0 : Int) (a1 : Int) (a2 : Int) (r : Bool) (w : World) (h : impl_InRange.f a0 a1 a2 = some r) :
  Calls Try.prog 96 #[.int .i64 a0, .int .i64 a1, .int .i64 a2] w fun e w' => e = .returned (.bool r) ∧ Drawn0 w w' := by
 have H : (if a1 ≤ a0 then (some (decide (a0 ≤ a2))) else (some false)) = some r := h
 clear h
 replace H := S.dc H; rcases H with ⟨H, c4b0⟩ | ⟨H, c4b0⟩
 ·obtain rfl := Option.some.inj H
  go_enter Try.func96, Try.ntmps96
  go_wp2
  go_ret
  exact ⟨S.eA, by repeat (first | exact Drawn0.refl _ | apply Drawn0.step)⟩
 ·obtain rfl := Option.some.inj H
  go_enter Try.func96, Try.ntmps96
  go_wp2
  go_ret
  exact ⟨S.eA, by repeat (first | exact Drawn0.refl _ | apply Drawn0.step)⟩

/-! ### impl_IsPath: function 122 -/
def impl_IsPath.f (a0_0 : Int) (a0_1 : Int) (a0_2 : Int) (a0_3 : Int) : Option (Bool) := (impl_InRange.f a0_0 1 20).bind fun t315 => (if t315 = true then ((impl_InRange.f a0_1 1 3).bind fun t316 => (if t316 = true then ((impl_InRange.f a0_2 0 3).bind fun t317 => (if t317 = true then ((impl_InRange.f a0_3 0 3).bind fun t318 => (if t318 = true then (some ((a0_2 == a0_3) == (a0_1 == 2))) else (some false))) else (some false))) else (some false))) else (some false))
set_option maxHeartbeats 8000000 in
set_option maxRecDepth 100000 in
theorem impl_IsPath.calls (a0_0 : Int) (a0_1 : Int) (a0_2 : Int) (a0_3 : Int) (r : Bool) (w : World) (h : impl_IsPath.f a0_0 a0_1 a0_2 a0_3 = some r) :
  Calls Try.prog 122 #[.agg #[.int .i64 a0_0, .int .i64 a0_1, .int .i64 a0_2, .int .i64 a0_3]] w fun e w' => e = .returned (.bool r) ∧ Below w.heap.size w w' := by
 have hu52 := Try.underlying52
 have HB := Aside0.mk (Below.refl w.heap.size w)
 have H : ((impl_InRange.f a0_0 1 20).bind fun t315 => (if t315 = true then ((impl_InRange.f a0_1 1 3).bind fun t316 => (if t316 = true then ((impl_InRange.f a0_2 0 3).bind fun t317 => (if t317 = true then ((impl_InRange.f a0_3 0 3).bind fun t318 => (if t318 = true then (some ((a0_2 == a0_3) == (a0_1 == 2))) else (some false))) else (some false))) else (some false))) else (some false))) = some r := h
 clear h
 replace H := S.bd H; obtain ⟨t315, A2, H⟩ := H
 (try dsimp only at H)
 replace H := S.db H; rcases H with ⟨rfl, H⟩ | ⟨rfl, H⟩
 ·replace H := S.bd H; obtain ⟨t316, A4, H⟩ := H
  (try dsimp only at H)
  replace H := S.db H; rcases H with ⟨rfl, H⟩ | ⟨rfl, H⟩
  ·replace H := S.bd H; obtain ⟨t317, A6, H⟩ := H
   (try dsimp only at H)
   replace H := S.db H; rcases H with ⟨rfl, H⟩ | ⟨rfl, H⟩
   ·replace H := S.bd H; obtain ⟨t318, A8, H⟩ := H
    (try dsimp only at H)
    replace H := S.db H; rcases H with ⟨rfl, H⟩ | ⟨rfl, H⟩
    ·obtain rfl := Option.some.inj H
     go_enter Try.func122, Try.ntmps122
     go_wp2_with (first | ((with_reducible refine gate_dst (N := 1) rfl ?_); refine S.bx 1 (cs := #[.int .i64 a0_0, .int .i64 a0_1, .int .i64 a0_2, .int .i64 a0_3]) (t := 52) ?_; intro gb314 hg w10 hbox hb; have BK314 := Aside0.mk hbox; have GW314 := S.geA hg; have GE314 := S.geA hg; replace HB := S.sA hb; clear hb hbox hg; obtain ⟨Z11a, Z11b, Z11c, Z11d, Y11a, Y11b, Y11c, Y11d⟩ := S.c4 BK314.out) | ((with_reducible refine gate_callee (f := 96) rfl ?_); refine S.gL (some 5) Try.func96 #[.int .i64 a0_0, .int .i64 1, .int .i64 20] ?_; (with_reducible refine (impl_InRange.calls a0_0 1 20 true _ A2.out).mono ?_); rintro e w' ⟨rfl, ⟨nd, rfl⟩⟩; refine ⟨_, rfl, ?_⟩) | (go_at_call 96; (with_reducible refine (impl_InRange.calls a0_1 1 3 true _ A4.out).mono ?_); rintro e w' ⟨rfl, ⟨nd, rfl⟩⟩) | (go_at_call 96; (with_reducible refine (impl_InRange.calls a0_2 0 3 true _ A6.out).mono ?_); rintro e w' ⟨rfl, ⟨nd, rfl⟩⟩) | (go_at_call 96; (with_reducible refine (impl_InRange.calls a0_3 0 3 true _ A8.out).mono ?_); rintro e w' ⟨rfl, ⟨nd, rfl⟩⟩))
     go_ret
     exact ⟨S.eW, S.bG⟩
    ·obtain rfl := Option.some.inj H
     go_enter Try.func122, Try.ntmps122
     go_wp2_with (first | ((with_reducible refine gate_dst (N := 1) rfl ?_); refine S.bx 1 (cs := #[.int .i64 a0_0, .int .i64 a0_1, .int .i64 a0_2, .int .i64 a0_3]) (t := 52) ?_; intro gb314 hg w12 hbox hb; have BK314 := Aside0.mk hbox; have GW314 := S.geA hg; have GE314 := S.geA hg; replace HB := S.sA hb; clear hb hbox hg; obtain ⟨Z13a, Z13b, Z13c, Z13d, Y13a, Y13b, Y13c, Y13d⟩ := S.c4 BK314.out) | ((with_reducible refine gate_callee (f := 96) rfl ?_); refine S.gL (some 5) Try.func96 #[.int .i64 a0_0, .int .i64 1, .int .i64 20] ?_; (with_reducible refine (impl_InRange.calls a0_0 1 20 true _ A2.out).mono ?_); rintro e w' ⟨rfl, ⟨nd, rfl⟩⟩; refine ⟨_, rfl, ?_⟩) | (go_at_call 96; (with_reducible refine (impl_InRange.calls a0_1 1 3 true _ A4.out).mono ?_); rintro e w' ⟨rfl, ⟨nd, rfl⟩⟩) | (go_at_call 96; (with_reducible refine (impl_InRange.calls a0_2 0 3 true _ A6.out).mono ?_); rintro e w' ⟨rfl, ⟨nd, rfl⟩⟩) | (go_at_call 96; (with_reducible refine (impl_InRange.calls a0_3 0 3 false _ A8.out).mono ?_); rintro e w' ⟨rfl, ⟨nd, rfl⟩⟩))
     go_ret
     exact ⟨S.eW, S.bG⟩
   ·obtain rfl := Option.some.inj H
    go_enter Try.func122, Try.ntmps122
    go_wp2_with (first | ((with_reducible refine gate_dst (N := 1) rfl ?_); refine S.bx 1 (cs := #[.int .i64 a0_0, .int .i64 a0_1, .int .i64 a0_2, .int .i64 a0_3]) (t := 52) ?_; intro gb314 hg w14 hbox hb; have BK314 := Aside0.mk hbox; have GW314 := S.geA hg; have GE314 := S.geA hg; replace HB := S.sA hb; clear hb hbox hg; obtain ⟨Z15a, Z15b, Z15c, Z15d, Y15a, Y15b, Y15c, Y15d⟩ := S.c4 BK314.out) | ((with_reducible refine gate_callee (f := 96) rfl ?_); refine S.gL (some 5) Try.func96 #[.int .i64 a0_0, .int .i64 1, .int .i64 20] ?_; (with_reducible refine (impl_InRange.calls a0_0 1 20 true _ A2.out).mono ?_); rintro e w' ⟨rfl, ⟨nd, rfl⟩⟩; refine ⟨_, rfl, ?_⟩) | (go_at_call 96; (with_reducible refine (impl_InRange.calls a0_1 1 3 true _ A4.out).mono ?_); rintro e w' ⟨rfl, ⟨nd, rfl⟩⟩) | (go_at_call 96; (with_reducible refine (impl_InRange.calls a0_2 0 3 false _ A6.out).mono ?_); rintro e w' ⟨rfl, ⟨nd, rfl⟩⟩))
    go_ret
    exact ⟨S.eW, S.bG⟩
  ·obtain rfl := Option.some.inj H
   go_enter Try.func122, Try.ntmps122
   go_wp2_with (first | ((with_reducible refine gate_dst (N := 1) rfl ?_); refine S.bx 1 (cs := #[.int .i64 a0_0, .int .i64 a0_1, .int .i64 a0_2, .int .i64 a0_3]) (t := 52) ?_; intro gb314 hg w16 hbox hb; have BK314 := Aside0.mk hbox; have GW314 := S.geA hg; have GE314 := S.geA hg; replace HB := S.sA hb; clear hb hbox hg; obtain ⟨Z17a, Z17b, Z17c, Z17d, Y17a, Y17b, Y17c, Y17d⟩ := S.c4 BK314.out) | ((with_reducible refine gate_callee (f := 96) rfl ?_); refine S.gL (some 5) Try.func96 #[.int .i64 a0_0, .int .i64 1, .int .i64 20] ?_; (with_reducible refine (impl_InRange.calls a0_0 1 20 true _ A2.out).mono ?_); rintro e w' ⟨rfl, ⟨nd, rfl⟩⟩; refine ⟨_, rfl, ?_⟩) | (go_at_call 96; (with_reducible refine (impl_InRange.calls a0_1 1 3 false _ A4.out).mono ?_); rintro e w' ⟨rfl, ⟨nd, rfl⟩⟩))
   go_ret
   exact ⟨S.eW, S.bG⟩
 ·obtain rfl := Option.some.inj H
  go_enter Try.func122, Try.ntmps122
  go_wp2_with (first | ((with_reducible refine gate_dst (N := 1) rfl ?_); refine S.bx 1 (cs := #[.int .i64 a0_0, .int .i64 a0_1, .int .i64 a0_2, .int .i64 a0_3]) (t := 52) ?_; intro gb314 hg w18 hbox hb; have BK314 := Aside0.mk hbox; have GW314 := S.geA hg; have GE314 := S.geA hg; replace HB := S.sA hb; clear hb hbox hg; obtain ⟨Z19a, Z19b, Z19c, Z19d, Y19a, Y19b, Y19c, Y19d⟩ := S.c4 BK314.out) | ((with_reducible refine gate_callee (f := 96) rfl ?_); refine S.gL (some 5) Try.func96 #[.int .i64 a0_0, .int .i64 1, .int .i64 20] ?_; (with_reducible refine (impl_InRange.calls a0_0 1 20 false _ A2.out).mono ?_); rintro e w' ⟨rfl, ⟨nd, rfl⟩⟩; refine ⟨_, rfl, ?_⟩))
  go_ret
  exact ⟨S.eW, S.bG⟩

end Go.Proofs.Ytopchlafmfgpnaa.PFnExactSirenWait
