/- Printed by a program: what the Go functions compute, as plain Lean functions (.f), and the proofs that the machine's calls come to just that (.calls). -/
import Derived.Test.YtjgigmghcfdomaaPFnExactWindowOfx0
import Derived.Test.YtjgigmghcfdomaaPFnExactWindowOfx1
import Derived.Test.YtjgigmghcfdomaaPFnExactWindowOfx2
import Derived.Test.YtjgigmghcfdomaaPFnExactWindowOfx3
import Derived.Test.YtjgigmghcfdomaaPFnExactWindowOfx14
import Derived.Test.YtjgigmghcfdomaaPFnExactWindowOfx25
namespace Go.Proofs.Ytjgigmghcfdomaa.PFnExactWindowOf
open Go.RowKit Go.Proofs.YtjgigmghcfdomaaW.PrintWords Go.Proofs.YtjgigmghcfdomaaW.PrintLast Go.Proofs.YtjgigmghcfdomaaW.PrintMore
attribute [local go_sem] max2_int min2_int max_two min_two max_three min_three max_four min_four   -- for this text's walks alone
set_option linter.unusedVariables false
set_option linter.unusedSimpArgs false

/-! ### laws_FnExactWindowOf: function 7 -/
def laws_FnExactWindowOf.j0 : Nat → List (S84) → List (S81) → List (S71) → List (S85) → Bool → Option (Bool)
 | 0, _, _, _, _, _ => none
 | k + 1, x0, x1, x10, x11, x52 => if x52 = true then (some false) else ((laws_toPathS.f k x0).bind fun t441 => ((laws_eqPathS.f k x10 t441).bind fun t444 => (if t444 = true then ((laws_toPartS.f k x1).bind fun t445 => ((laws_eqPartS.f k x11 t445).bind fun t448 => (if t448 = true then (some true) else (some false)))) else (some false))))
def laws_FnExactWindowOf.f (k : Nat) (l0 : List (S84)) (l1 : List (S81)) (a2 : Int) : Option (Bool) := (laws_szPathS.f l0 1048576).bind fun t418 => (if t418 < 0 then (some true) else ((laws_szPartS.f k l1 t418).bind fun t419 => (if t419 < 0 then (some true) else ((laws_toPathS.f k l0).bind fun t420 => ((laws_toPartS.f k l1).bind fun t423 => ((spec_WindowOf.f k t420 t423 a2).bind fun bt426 => ((laws_toPathS.f k l0).bind fun t430 => ((laws_toPartS.f k l1).bind fun t433 => ((impl_WindowOf.f k t430 t433 a2).bind fun bt436 => ((laws_eqWindow.f bt436.1 bt436.2.1 bt426.1 bt426.2.1).bind fun t440 => (if t440 = true then (laws_FnExactWindowOf.j0 k l0 l1 t430 t433 (bt436.2.2 != bt426.2.2)) else (laws_FnExactWindowOf.j0 k l0 l1 t430 t433 true))))))))))))
set_option maxHeartbeats 8000000 in
set_option maxRecDepth 100000 in
theorem laws_FnExactWindowOf.calls (k : Nat) (A0 : Option Addr) (c0 : Nat) (l0 : List (S84)) (A1 : Option Addr) (c1 : Nat) (l1 : List (S81)) (a2 : Int) (r : Bool) (w : World) (hr0 : Kd.C k84 w A0 l0.length l0) (hc0 : l0.length ≤ c0) (hr1 : Kd.C k81 w A1 l1.length l1) (hc1 : l1.length ≤ c1) (h : laws_FnExactWindowOf.f k l0 l1 a2 = some r) :
  Calls Try.prog 7 #[.slice A0 l0.length c0, .slice A1 l1.length c1, .int .i64 a2] w fun e w' => e = .returned (.bool r) ∧ Below w.heap.size w w' := by
 have hu45 := Try.underlying45
 have HR0 := Aside0.mk hr0
 have HC0 := Aside0.mk hc0
 clear hr0 hc0
 have HR1 := Aside0.mk hr1
 have HC1 := Aside0.mk hc1
 clear hr1 hc1
 have HB := Aside0.mk (Below.refl w.heap.size w)
 have H : ((laws_szPathS.f l0 1048576).bind fun t418 => (if t418 < 0 then (some true) else ((laws_szPartS.f k l1 t418).bind fun t419 => (if t419 < 0 then (some true) else ((laws_toPathS.f k l0).bind fun t420 => ((laws_toPartS.f k l1).bind fun t423 => ((spec_WindowOf.f k t420 t423 a2).bind fun bt426 => ((laws_toPathS.f k l0).bind fun t430 => ((laws_toPartS.f k l1).bind fun t433 => ((impl_WindowOf.f k t430 t433 a2).bind fun bt436 => ((laws_eqWindow.f bt436.1 bt436.2.1 bt426.1 bt426.2.1).bind fun t440 => (if t440 = true then (laws_FnExactWindowOf.j0 k l0 l1 t430 t433 (bt436.2.2 != bt426.2.2)) else (laws_FnExactWindowOf.j0 k l0 l1 t430 t433 true))))))))))))) = some r := h
 clear h
 replace H := S.bd H; obtain ⟨t418, A4, H⟩ := H
 (try dsimp only at H)
 replace H := S.dc H; rcases H with ⟨H, c5b0⟩ | ⟨H, c5b0⟩
 ·obtain rfl := Option.some.inj H
  go_enter Try.func7, Try.ntmps7
  go_wp2_with (first | ((with_reducible refine gate_callee (f := 12) rfl ?_); refine S.gL (some 16) Try.func12 #[.slice A0 l0.length c0, .int .i64 1048576] ?_; (with_reducible refine (laws_szPathS.calls _ _ l0 1048576 t418 _ ?s1 HC0.out A4.out).mono ?_); (case s1 => repeat (first | exact HR0.out | (with_reducible refine Kd.C_alloc ?_ _) | (with_reducible refine Kd.C_drewN ?_ _) | (with_reducible refine Kd.C_drew ?_))); rintro e w' ⟨rfl, ⟨nd, rfl⟩⟩; refine ⟨_, rfl, ?_⟩))
  go_ret
  exact ⟨S.eW, S.bA⟩
 ·replace H := Option.bind_eq_some_iff.mp H
  obtain ⟨t419, A60, H⟩ := H
  replace H : (if t419 < 0 then (some true) else ((laws_toPathS.f k l0).bind fun t420 => ((laws_toPartS.f k l1).bind fun t423 => ((spec_WindowOf.f k t420 t423 a2).bind fun bt426 => ((laws_toPathS.f k l0).bind fun t430 => ((laws_toPartS.f k l1).bind fun t433 => ((impl_WindowOf.f k t430 t433 a2).bind fun bt436 => ((laws_eqWindow.f bt436.1 bt436.2.1 bt426.1 bt426.2.1).bind fun t440 => (if t440 = true then (laws_FnExactWindowOf.j0 k l0 l1 t430 t433 (bt436.2.2 != bt426.2.2)) else (laws_FnExactWindowOf.j0 k l0 l1 t430 t433 true)))))))))) = some r := H
  have A6 := Aside0.mk A60
  clear A60
  replace H := S.dc H; rcases H with ⟨H, c7b0⟩ | ⟨H, c7b0⟩
  ·obtain rfl := Option.some.inj H
   go_enter Try.func7, Try.ntmps7
   go_wp2_with (first | ((with_reducible refine gate_callee (f := 12) rfl ?_); refine S.gL (some 16) Try.func12 #[.slice A0 l0.length c0, .int .i64 1048576] ?_; (with_reducible refine (laws_szPathS.calls _ _ l0 1048576 t418 _ ?s1 HC0.out A4.out).mono ?_); (case s1 => repeat (first | exact HR0.out | (with_reducible refine Kd.C_alloc ?_ _) | (with_reducible refine Kd.C_drewN ?_ _) | (with_reducible refine Kd.C_drew ?_))); rintro e w' ⟨rfl, ⟨nd, rfl⟩⟩; refine ⟨_, rfl, ?_⟩) | ((with_reducible refine gate_callee (f := 13) rfl ?_); refine S.gL (some 21) Try.func13 #[.slice A1 l1.length c1, .int .i64 t418] ?_; (with_reducible refine (laws_szPartS.calls k _ _ l1 t418 t419 _ ?s1 HC1.out A6.out).mono ?_); (case s1 => repeat (first | exact HR1.out | (with_reducible refine Kd.C_alloc ?_ _) | (with_reducible refine Kd.C_drewN ?_ _) | (with_reducible refine Kd.C_drew ?_))); rintro e w8 ⟨rfl, hb⟩; refine ⟨_, rfl, ?_⟩; replace HB := S.sA hb; (try clear hb)))
   go_ret
   exact ⟨S.eW, S.bA⟩
  ·replace H := Option.bind_eq_some_iff.mp H
   obtain ⟨t420, A90, H⟩ := H
   replace H : ((laws_toPartS.f k l1).bind fun t423 => ((spec_WindowOf.f k t420 t423 a2).bind fun bt426 => ((laws_toPathS.f k l0).bind fun t430 => ((laws_toPartS.f k l1).bind fun t433 => ((impl_WindowOf.f k t430 t433 a2).bind fun bt436 => ((laws_eqWindow.f bt436.1 bt436.2.1 bt426.1 bt426.2.1).bind fun t440 => (if t440 = true then (laws_FnExactWindowOf.j0 k l0 l1 t430 t433 (bt436.2.2 != bt426.2.2)) else (laws_FnExactWindowOf.j0 k l0 l1 t430 t433 true)))))))) = some r := H
   have A9 := Aside0.mk A90
   clear A90
   replace H := S.bd H; obtain ⟨t423, A10, H⟩ := H
   (try dsimp only at H)
   replace H := S.bd H; obtain ⟨⟨t426, t427, t428⟩, A11, H⟩ := H
   (try dsimp only at H)
   replace H := S.bd H; obtain ⟨t430, A12, H⟩ := H
   (try dsimp only at H)
   replace H := S.bd H; obtain ⟨t433, A13, H⟩ := H
   (try dsimp only at H)
   replace H := S.bd H; obtain ⟨⟨t436, t437, t438⟩, A14, H⟩ := H
   (try dsimp only at H)
   have HC15 := Aside0.mk H
   clear H
   go_enter Try.func7, Try.ntmps7
   go_upto_region 12 with (first | ((with_reducible refine gate_callee (f := 12) rfl ?_); refine S.gL (some 16) Try.func12 #[.slice A0 l0.length c0, .int .i64 1048576] ?_; (with_reducible refine (laws_szPathS.calls _ _ l0 1048576 t418 _ ?s1 HC0.out A4.out).mono ?_); (case s1 => repeat (first | exact HR0.out | (with_reducible refine Kd.C_alloc ?_ _) | (with_reducible refine Kd.C_drewN ?_ _) | (with_reducible refine Kd.C_drew ?_))); rintro e w' ⟨rfl, ⟨nd, rfl⟩⟩; refine ⟨_, rfl, ?_⟩) | ((with_reducible refine gate_callee (f := 13) rfl ?_); refine S.gL (some 21) Try.func13 #[.slice A1 l1.length c1, .int .i64 t418] ?_; (with_reducible refine (laws_szPartS.calls k _ _ l1 t418 t419 _ ?s1 HC1.out A6.out).mono ?_); (case s1 => repeat (first | exact HR1.out | (with_reducible refine Kd.C_alloc ?_ _) | (with_reducible refine Kd.C_drewN ?_ _) | (with_reducible refine Kd.C_drew ?_))); rintro e w16 ⟨rfl, hb⟩; refine ⟨_, rfl, ?_⟩; replace HB := S.sA hb; (try clear hb)) | ((with_reducible refine gate_callee (f := 15) rfl ?_); refine S.gL (some 26) Try.func15 #[.slice A0 l0.length c0] ?_; (with_reducible refine (laws_toPathS.calls k _ _ l0 t420 _ ?s1 HC0.out A9.out).mono ?_); (case s1 => exact S.cA HR0.out); rintro e w17 ⟨v421, rfl, ho0, hb⟩; refine ⟨_, rfl, ?_⟩; have HO422 := S.lwA ho0; replace HB := S.sA hb; (try clear hb); (try clear ho0)) | ((with_reducible refine gate_callee (f := 16) rfl ?_); refine S.gL (some 28) Try.func16 #[.slice A1 l1.length c1] ?_; (with_reducible refine (laws_toPartS.calls k _ _ l1 t423 _ ?s1 HC1.out A10.out).mono ?_); (case s1 => exact S.cA HR1.out); rintro e w18 ⟨v424, rfl, ho0, hb⟩; refine ⟨_, rfl, ?_⟩; replace HO422 := S.rb HO422 hb; have HO425 := Aside0.mk (Kd.S_lower ho0 (below_size S.bA)); replace HB := S.sA hb; (try clear hb); (try clear ho0); obtain ⟨Ao19, co19, eo19⟩ := Kd.R_slice HO422.out; subst eo19; obtain ⟨Ao20, co20, eo20⟩ := Kd.S_slice HO425.out; subst eo20) | ((with_reducible refine gate_callee (f := 31) rfl ?_); refine S.gL (some 30) Try.func31 #[.slice Ao19 t420.length co19, .slice Ao20 t423.length co20, .int .i64 a2] ?_; (with_reducible refine (spec_WindowOf.calls k _ _ t420 _ _ t423 a2 t426 t427 t428 _ ?s1 (S.rl HO422) ?s3 ?s4 A11.out).mono ?_); (case s1 => exact S.rd HO422); (case s3 => repeat (first | exact (Kd.S_reads' HO425.out).2.2 | (with_reducible refine Kd.C_alloc ?_ _) | (with_reducible refine Kd.C_drewN ?_ _) | (with_reducible refine Kd.C_drew ?_))); (case s4 => exact (Kd.S_reads' HO425.out).2.1); rintro e w21 ⟨rfl, hb⟩; refine ⟨_, rfl, ?_⟩; replace HO422 := S.rb HO422 hb; replace HO425 := Aside0.mk (Kd.S_below (by (with_reducible repeat (first | apply Kd.S_alloc | apply Kd.S_drewN | apply Kd.S_drew)); exact HO425.out) hb); replace HB := S.sA hb; (try clear hb)) | ((with_reducible refine gate_dst (N := 8) rfl ?_); refine S.bx 8 (cs := #[.int .i64 0, .int .i64 0]) (t := 45) ?_; intro gb429 hg w22 hbox hb; replace HO422 := S.rb HO422 hb; replace HO425 := Aside0.mk (Kd.S_below (by (with_reducible repeat (first | apply Kd.S_alloc | apply Kd.S_drewN | apply Kd.S_drew)); exact HO425.out) hb); have BK429 := Aside0.mk hbox; have GW429 := S.geA hg; have GE429 := S.geA hg; replace HB := S.sA hb; clear hb hbox hg; obtain ⟨Z23a, Z23b, Y23a, Y23b⟩ := S.c2 BK429.out) | ((with_reducible refine gate_callee (f := 15) rfl ?_); refine S.gL (some 34) Try.func15 #[.slice A0 l0.length c0] ?_; (with_reducible refine (laws_toPathS.calls k _ _ l0 t430 _ ?s1 HC0.out A12.out).mono ?_); (case s1 => exact Kd.C_below HR0.out S.bG); rintro e w24 ⟨v431, rfl, ho0, hb⟩; refine ⟨_, rfl, ?_⟩; replace HO425 := Aside0.mk (Kd.S_below (by (with_reducible repeat (first | apply Kd.S_alloc | apply Kd.S_drewN | apply Kd.S_drew)); exact (Kd.S_mono (Kd.S_far (p := ⟨gb429, 1, none⟩) (Kd.S_far (p := ⟨gb429, 0, none⟩) (Kd.S_types HO425.out BK429.out (by decide)) (fun _ hk => hk.2) (.int .i64 t426)) (fun _ hk => hk.2) (.int .i64 t427)) (fun _ h_ => h_.1))) hb); have HO432 := Aside0.mk (Kd.R_lower (Kd.R_new' ho0 (Kd.R_lt (S.G2 HO422 BK429))) (below_size S.bG)); replace HO422 := Aside0.mk (Kd.R_elder' (S.G2 HO422 BK429) (Kd.R_base ho0) hb); replace BK429 := S.kp2 BK429 hb; replace HB := S.sG hb; (try clear hb); (try clear ho0)) | ((with_reducible refine gate_callee (f := 16) rfl ?_); refine S.gL (some 36) Try.func16 #[.slice A1 l1.length c1] ?_; (with_reducible refine (laws_toPartS.calls k _ _ l1 t433 _ ?s1 HC1.out A13.out).mono ?_); (case s1 => exact S.cA HR1.out); rintro e w25 ⟨v434, rfl, ho0, hb⟩; refine ⟨_, rfl, ?_⟩; replace HO422 := S.rb HO422 hb; replace HO432 := S.rb HO432 hb; have HO435 := Aside0.mk (Kd.S_lower (Kd.S_new' ho0 (Kd.S_lt (by (with_reducible repeat (first | apply Kd.S_alloc | apply Kd.S_drewN | apply Kd.S_drew)); exact HO425.out))) (below_size S.bG)); replace HO425 := Aside0.mk (Kd.S_elder' (by (with_reducible repeat (first | apply Kd.S_alloc | apply Kd.S_drewN | apply Kd.S_drew)); exact HO425.out) (Kd.S_base ho0) hb); replace BK429 := S.kb BK429 hb; replace HB := S.sG hb; (try clear hb); (try clear ho0); obtain ⟨Ao26, co26, eo26⟩ := Kd.R_slice HO432.out; subst eo26; obtain ⟨Ao27, co27, eo27⟩ := Kd.S_slice HO435.out; subst eo27) | ((with_reducible refine gate_callee (f := 32) rfl ?_); refine S.gL (some 41) Try.func32 #[.slice Ao26 t430.length co26, .slice Ao27 t433.length co27, .int .i64 a2] ?_; (with_reducible refine (impl_WindowOf.calls k _ _ t430 _ _ t433 a2 t436 t437 t438 _ ?s1 (S.rl HO432) ?s3 ?s4 A14.out).mono ?_); (case s1 => exact S.rd HO432); (case s3 => repeat (first | exact (Kd.S_reads' HO435.out).2.2 | (with_reducible refine Kd.C_alloc ?_ _) | (with_reducible refine Kd.C_drewN ?_ _) | (with_reducible refine Kd.C_drew ?_))); (case s4 => exact (Kd.S_reads' HO435.out).2.1); rintro e w28 ⟨rfl, hb⟩; refine ⟨_, rfl, ?_⟩; replace HO422 := S.rb HO422 hb; replace HO425 := Aside0.mk (Kd.S_below (by (with_reducible repeat (first | apply Kd.S_alloc | apply Kd.S_drewN | apply Kd.S_drew)); exact HO425.out) hb); replace HO432 := S.rb HO432 hb; replace HO435 := Aside0.mk (Kd.S_below (by (with_reducible repeat (first | apply Kd.S_alloc | apply Kd.S_drewN | apply Kd.S_drew)); exact HO435.out) hb); replace BK429 := S.kb BK429 hb; replace HB := S.sG hb; (try clear hb)) | ((with_reducible refine gate_dst (N := 12) rfl ?_); refine S.bx 12 (cs := #[.int .i64 0, .int .i64 0]) (t := 45) ?_; intro gb439 hg w29 hbox hb; replace HO422 := S.rb HO422 hb; replace HO425 := Aside0.mk (Kd.S_below (by (with_reducible repeat (first | apply Kd.S_alloc | apply Kd.S_drewN | apply Kd.S_drew)); exact HO425.out) hb); replace HO432 := S.rb HO432 hb; replace HO435 := Aside0.mk (Kd.S_below (by (with_reducible repeat (first | apply Kd.S_alloc | apply Kd.S_drewN | apply Kd.S_drew)); exact HO435.out) hb); have BK439 := Aside0.mk hbox; have GW439 := S.geG hg; have GE439 := S.geG hg; replace HB := S.sG hb; have NB429_439 := S.nl hg BK429; have NB439_429 := S.ng hg BK429; replace BK429 := S.kb BK429 hb; clear hb hbox hg; have hnb30 := NB439_429.out; have hnc30 := NB429_439.out; obtain ⟨Z31a, Z31b, Y31a, Y31b⟩ := S.c2 BK439.out))
   (try simp only [Act.put, List.setIfInBounds_toArray, List.set_cons_zero, List.set_cons_succ])
   go_cut [52] (fun v52 wc => ∃ (kq : Nat) (x52_14 : Bool), v52 = .bool x52_14 ∧ Aside0 (laws_FnExactWindowOf.j0 kq l0 l1 t430 t433 x52_14 = some r) ∧ Aside0 (kq ≤ k) ∧ Aside0 (Kd.R k71 71 wc w.heap.size (fun _ => True) (.slice Ao26 t430.length co26) t430) ∧ Aside0 (Kd.S k85 85 wc w.heap.size (fun _ => True) (.slice Ao27 t433.length co27) t433) ∧ Aside0 (wc.heap[gb429]? = some (.cells #[.int .i64 t426, .int .i64 t427] 45 (0, 0))) ∧ Aside0 (wc.heap[gb439]? = some (.cells #[.int .i64 t436, .int .i64 t437] 45 (0, 0))) ∧ Aside0 (Below w.heap.size w wc))
   case first =>
    have H := HC15.out
    clear HC15
    replace H := S.bd H; obtain ⟨t440, A32, H⟩ := H
    (try dsimp only at H)
    replace H := S.db H; rcases H with ⟨rfl, H⟩ | ⟨rfl, H⟩
    ·have H' := Aside0.mk H
     clear H
     have hnb34 := NB439_429.out
     have hnc34 := NB429_439.out
     obtain ⟨Z35a, Z35b, Y35a, Y35b⟩ := S.c2 BK439.out
     obtain ⟨Z36a, Z36b, Y36a, Y36b⟩ := S.c2 BK429.out
     go_wp2_with (first | ((with_reducible refine gate_callee (f := 33) rfl ?_); refine S.gL (some 46) Try.func33 #[.agg #[.int .i64 t436, .int .i64 t437], .agg #[.int .i64 t426, .int .i64 t427]] ?_; (with_reducible refine (laws_eqWindow.calls t436 t437 t426 t427 true _ A32.out).mono ?_); rintro e w37 ⟨rfl, hb⟩; refine ⟨_, rfl, ?_⟩; replace HO422 := Aside0.mk (Kd.R_below (S.G2 HO422 BK439) hb); replace HO425 := Aside0.mk (Kd.S_below (by (with_reducible repeat (first | apply Kd.S_alloc | apply Kd.S_drewN | apply Kd.S_drew)); exact (Kd.S_mono (Kd.S_far (p := ⟨gb439, 1, none⟩) (Kd.S_far (p := ⟨gb439, 0, none⟩) (Kd.S_types HO425.out BK439.out (by decide)) (fun _ hk => hk.2) (.int .i64 t436)) (fun _ hk => hk.2) (.int .i64 t437)) (fun _ h_ => h_.1))) hb); replace HO432 := Aside0.mk (Kd.R_below (S.G2 HO432 BK439) hb); replace HO435 := Aside0.mk (Kd.S_below (by (with_reducible repeat (first | apply Kd.S_alloc | apply Kd.S_drewN | apply Kd.S_drew)); exact (Kd.S_mono (Kd.S_far (p := ⟨gb439, 1, none⟩) (Kd.S_far (p := ⟨gb439, 0, none⟩) (Kd.S_types HO435.out BK439.out (by decide)) (fun _ hk => hk.2) (.int .i64 t436)) (fun _ hk => hk.2) (.int .i64 t437)) (fun _ h_ => h_.1))) hb); replace BK429 := S.kf BK429 NB429_439 hb; replace BK439 := S.kp2 BK439 hb; replace HB := S.sG hb; (try clear hb)))
     go_meet
     case rel => exact ⟨_, ((t438 != t428)), S.eA, H', S.le, ⟨by (with_reducible repeat (first | apply Kd.R_alloc | apply Kd.R_drewN | apply Kd.R_drew)); exact Kd.R_mono HO432.out (fun _ hk => trivial)⟩, ⟨by (with_reducible repeat (first | apply Kd.S_alloc | apply Kd.S_drewN | apply Kd.S_drew)); exact Kd.S_mono HO435.out (fun _ hk => trivial)⟩, ⟨S.uB BK429.out⟩, ⟨S.uB BK439.out⟩, ⟨S.bG⟩⟩
    ·have H' := Aside0.mk H
     clear H
     have hnb38 := NB439_429.out
     have hnc38 := NB429_439.out
     obtain ⟨Z39a, Z39b, Y39a, Y39b⟩ := S.c2 BK439.out
     obtain ⟨Z40a, Z40b, Y40a, Y40b⟩ := S.c2 BK429.out
     go_wp2_with (first | ((with_reducible refine gate_callee (f := 33) rfl ?_); refine S.gL (some 46) Try.func33 #[.agg #[.int .i64 t436, .int .i64 t437], .agg #[.int .i64 t426, .int .i64 t427]] ?_; (with_reducible refine (laws_eqWindow.calls t436 t437 t426 t427 false _ A32.out).mono ?_); rintro e w41 ⟨rfl, hb⟩; refine ⟨_, rfl, ?_⟩; replace HO422 := Aside0.mk (Kd.R_below (S.G2 HO422 BK439) hb); replace HO425 := Aside0.mk (Kd.S_below (by (with_reducible repeat (first | apply Kd.S_alloc | apply Kd.S_drewN | apply Kd.S_drew)); exact (Kd.S_mono (Kd.S_far (p := ⟨gb439, 1, none⟩) (Kd.S_far (p := ⟨gb439, 0, none⟩) (Kd.S_types HO425.out BK439.out (by decide)) (fun _ hk => hk.2) (.int .i64 t436)) (fun _ hk => hk.2) (.int .i64 t437)) (fun _ h_ => h_.1))) hb); replace HO432 := Aside0.mk (Kd.R_below (S.G2 HO432 BK439) hb); replace HO435 := Aside0.mk (Kd.S_below (by (with_reducible repeat (first | apply Kd.S_alloc | apply Kd.S_drewN | apply Kd.S_drew)); exact (Kd.S_mono (Kd.S_far (p := ⟨gb439, 1, none⟩) (Kd.S_far (p := ⟨gb439, 0, none⟩) (Kd.S_types HO435.out BK439.out (by decide)) (fun _ hk => hk.2) (.int .i64 t436)) (fun _ hk => hk.2) (.int .i64 t437)) (fun _ h_ => h_.1))) hb); replace BK429 := S.kf BK429 NB429_439 hb; replace BK439 := S.kp2 BK439 hb; replace HB := S.sG hb; (try clear hb)))
     go_meet
     case rel => exact ⟨_, (true), S.eA, H', S.le, ⟨by (with_reducible repeat (first | apply Kd.R_alloc | apply Kd.R_drewN | apply Kd.R_drew)); exact Kd.R_mono HO432.out (fun _ hk => trivial)⟩, ⟨by (with_reducible repeat (first | apply Kd.S_alloc | apply Kd.S_drewN | apply Kd.S_drew)); exact Kd.S_mono HO435.out (fun _ hk => trivial)⟩, ⟨S.uB BK429.out⟩, ⟨S.uB BK439.out⟩, ⟨S.bG⟩⟩
   case rest =>
    clear HC15
    try clear c1
    try clear c5
    try clear c5b0
    try clear c7
    try clear c7b0
    try clear Z23a
    try clear Z23b
    try clear Z31a
    try clear Z31b
    try clear Y23a
    try clear Y23b
    try clear Y31a
    try clear Y31b
    obtain ⟨kq, x52_14, rfl, HA, HJ14, HO_10, HO_11, BK429, BK439, HB⟩ := hcut
    cases kq with
    | zero => exact absurd HA.out (by simp [laws_FnExactWindowOf.j0])
    | succ kj14 =>
     have H := HA.out
     clear HA
     simp only [laws_FnExactWindowOf.j0] at H
     replace H := S.db H; rcases H with ⟨rfl, H⟩ | ⟨rfl, H⟩
     ·obtain rfl := Option.some.inj H
      go_wp2
      go_ret
      exact ⟨S.eW, S.bG⟩
     ·replace H := S.bd H; obtain ⟨t441, A43, H⟩ := H
      (try dsimp only at H)
      replace H := S.bd H; obtain ⟨t444, A44, H⟩ := H
      (try dsimp only at H)
      replace H := S.db H; rcases H with ⟨rfl, H⟩ | ⟨rfl, H⟩
      ·replace H := S.bd H; obtain ⟨t445, A46, H⟩ := H
       (try dsimp only at H)
       replace H := S.bd H; obtain ⟨t448, A47, H⟩ := H
       (try dsimp only at H)
       replace H := S.db H; rcases H with ⟨rfl, H⟩ | ⟨rfl, H⟩
       ·obtain rfl := Option.some.inj H
        go_wp2_with (first | ((with_reducible refine gate_callee (f := 15) rfl ?_); refine S.gL (some 55) Try.func15 #[.slice A0 l0.length c0] ?_; (with_reducible refine (laws_toPathS.calls kj14 _ _ l0 t441 _ ?s1 HC0.out A43.out).mono ?_); (case s1 => exact S.cA HR0.out); rintro e w49 ⟨v442, rfl, ho0, hb⟩; refine ⟨_, rfl, ?_⟩; replace HO_11 := Aside0.mk (Kd.S_below (by (with_reducible repeat (first | apply Kd.S_alloc | apply Kd.S_drewN | apply Kd.S_drew)); exact HO_11.out) hb); have HO443 := S.rnG ho0 HO_10; replace HO_10 := S.re HO_10 ho0 hb; replace BK429 := S.kb BK429 hb; replace BK439 := S.kb BK439 hb; replace HB := S.sG hb; (try clear hb); (try clear ho0); obtain ⟨Ao50, co50, eo50⟩ := Kd.R_slice HO443.out; subst eo50) | ((with_reducible refine gate_callee (f := 18) rfl ?_); refine S.gL (some 56) Try.func18 #[.slice Ao26 t430.length co26, .slice Ao50 t441.length co50] ?_; (with_reducible refine (laws_eqPathS.calls kj14 _ _ t430 _ _ t441 true _ ?s1 (S.rl HO_10) ?s3 (S.rl HO443) A44.out).mono ?_); (case s1 => exact S.rd HO_10); (case s3 => exact S.rd HO443); rintro e w51 ⟨rfl, hb⟩; refine ⟨_, rfl, ?_⟩; replace HO_10 := S.rb HO_10 hb; replace HO_11 := Aside0.mk (Kd.S_below (by (with_reducible repeat (first | apply Kd.S_alloc | apply Kd.S_drewN | apply Kd.S_drew)); exact HO_11.out) hb); replace HO443 := S.rb HO443 hb; replace BK429 := S.kb BK429 hb; replace BK439 := S.kb BK439 hb; replace HB := S.sG hb; (try clear hb)) | ((with_reducible refine gate_callee (f := 16) rfl ?_); refine S.gL (some 60) Try.func16 #[.slice A1 l1.length c1] ?_; (with_reducible refine (laws_toPartS.calls kj14 _ _ l1 t445 _ ?s1 HC1.out A46.out).mono ?_); (case s1 => exact S.cA HR1.out); rintro e w52 ⟨v446, rfl, ho0, hb⟩; refine ⟨_, rfl, ?_⟩; replace HO_10 := S.rb HO_10 hb; replace HO443 := S.rb HO443 hb; have HO447 := Aside0.mk (Kd.S_lower (Kd.S_new' ho0 (Kd.S_lt (by (with_reducible repeat (first | apply Kd.S_alloc | apply Kd.S_drewN | apply Kd.S_drew)); exact HO_11.out))) (below_size S.bG)); replace HO_11 := Aside0.mk (Kd.S_elder' (by (with_reducible repeat (first | apply Kd.S_alloc | apply Kd.S_drewN | apply Kd.S_drew)); exact HO_11.out) (Kd.S_base ho0) hb); replace BK429 := S.kb BK429 hb; replace BK439 := S.kb BK439 hb; replace HB := S.sG hb; (try clear hb); (try clear ho0); obtain ⟨Ao53, co53, eo53⟩ := Kd.S_slice HO447.out; subst eo53) | ((with_reducible refine gate_callee (f := 19) rfl ?_); refine S.gL (some 61) Try.func19 #[.slice Ao27 t433.length co27, .slice Ao53 t445.length co53] ?_; (with_reducible refine (laws_eqPartS.calls kj14 _ _ t433 _ _ t445 true _ ?s1 ?s2 ?s3 ?s4 A47.out).mono ?_); (case s1 => repeat (first | exact (Kd.S_reads' HO_11.out).2.2 | (with_reducible refine Kd.C_alloc ?_ _) | (with_reducible refine Kd.C_drewN ?_ _) | (with_reducible refine Kd.C_drew ?_))); (case s2 => exact (Kd.S_reads' HO_11.out).2.1); (case s3 => repeat (first | exact (Kd.S_reads' HO447.out).2.2 | (with_reducible refine Kd.C_alloc ?_ _) | (with_reducible refine Kd.C_drewN ?_ _) | (with_reducible refine Kd.C_drew ?_))); (case s4 => exact (Kd.S_reads' HO447.out).2.1); rintro e w54 ⟨rfl, hb⟩; refine ⟨_, rfl, ?_⟩; replace HO_10 := S.rb HO_10 hb; replace HO_11 := Aside0.mk (Kd.S_below (by (with_reducible repeat (first | apply Kd.S_alloc | apply Kd.S_drewN | apply Kd.S_drew)); exact HO_11.out) hb); replace HO443 := S.rb HO443 hb; replace HO447 := Aside0.mk (Kd.S_below (by (with_reducible repeat (first | apply Kd.S_alloc | apply Kd.S_drewN | apply Kd.S_drew)); exact HO447.out) hb); replace BK429 := S.kb BK429 hb; replace BK439 := S.kb BK439 hb; replace HB := S.sG hb; (try clear hb)))
        go_ret
        exact ⟨S.eW, S.bG⟩
       ·obtain rfl := Option.some.inj H
        go_wp2_with (first | ((with_reducible refine gate_callee (f := 15) rfl ?_); refine S.gL (some 55) Try.func15 #[.slice A0 l0.length c0] ?_; (with_reducible refine (laws_toPathS.calls kj14 _ _ l0 t441 _ ?s1 HC0.out A43.out).mono ?_); (case s1 => exact S.cA HR0.out); rintro e w55 ⟨v442, rfl, ho0, hb⟩; refine ⟨_, rfl, ?_⟩; replace HO_11 := Aside0.mk (Kd.S_below (by (with_reducible repeat (first | apply Kd.S_alloc | apply Kd.S_drewN | apply Kd.S_drew)); exact HO_11.out) hb); have HO443 := S.rnG ho0 HO_10; replace HO_10 := S.re HO_10 ho0 hb; replace BK429 := S.kb BK429 hb; replace BK439 := S.kb BK439 hb; replace HB := S.sG hb; (try clear hb); (try clear ho0); obtain ⟨Ao56, co56, eo56⟩ := Kd.R_slice HO443.out; subst eo56) | ((with_reducible refine gate_callee (f := 18) rfl ?_); refine S.gL (some 56) Try.func18 #[.slice Ao26 t430.length co26, .slice Ao56 t441.length co56] ?_; (with_reducible refine (laws_eqPathS.calls kj14 _ _ t430 _ _ t441 true _ ?s1 (S.rl HO_10) ?s3 (S.rl HO443) A44.out).mono ?_); (case s1 => exact S.rd HO_10); (case s3 => exact S.rd HO443); rintro e w57 ⟨rfl, hb⟩; refine ⟨_, rfl, ?_⟩; replace HO_10 := S.rb HO_10 hb; replace HO_11 := Aside0.mk (Kd.S_below (by (with_reducible repeat (first | apply Kd.S_alloc | apply Kd.S_drewN | apply Kd.S_drew)); exact HO_11.out) hb); replace HO443 := S.rb HO443 hb; replace BK429 := S.kb BK429 hb; replace BK439 := S.kb BK439 hb; replace HB := S.sG hb; (try clear hb)) | ((with_reducible refine gate_callee (f := 16) rfl ?_); refine S.gL (some 60) Try.func16 #[.slice A1 l1.length c1] ?_; (with_reducible refine (laws_toPartS.calls kj14 _ _ l1 t445 _ ?s1 HC1.out A46.out).mono ?_); (case s1 => exact S.cA HR1.out); rintro e w58 ⟨v446, rfl, ho0, hb⟩; refine ⟨_, rfl, ?_⟩; replace HO_10 := S.rb HO_10 hb; replace HO443 := S.rb HO443 hb; have HO447 := Aside0.mk (Kd.S_lower (Kd.S_new' ho0 (Kd.S_lt (by (with_reducible repeat (first | apply Kd.S_alloc | apply Kd.S_drewN | apply Kd.S_drew)); exact HO_11.out))) (below_size S.bG)); replace HO_11 := Aside0.mk (Kd.S_elder' (by (with_reducible repeat (first | apply Kd.S_alloc | apply Kd.S_drewN | apply Kd.S_drew)); exact HO_11.out) (Kd.S_base ho0) hb); replace BK429 := S.kb BK429 hb; replace BK439 := S.kb BK439 hb; replace HB := S.sG hb; (try clear hb); (try clear ho0); obtain ⟨Ao59, co59, eo59⟩ := Kd.S_slice HO447.out; subst eo59) | ((with_reducible refine gate_callee (f := 19) rfl ?_); refine S.gL (some 61) Try.func19 #[.slice Ao27 t433.length co27, .slice Ao59 t445.length co59] ?_; (with_reducible refine (laws_eqPartS.calls kj14 _ _ t433 _ _ t445 false _ ?s1 ?s2 ?s3 ?s4 A47.out).mono ?_); (case s1 => repeat (first | exact (Kd.S_reads' HO_11.out).2.2 | (with_reducible refine Kd.C_alloc ?_ _) | (with_reducible refine Kd.C_drewN ?_ _) | (with_reducible refine Kd.C_drew ?_))); (case s2 => exact (Kd.S_reads' HO_11.out).2.1); (case s3 => repeat (first | exact (Kd.S_reads' HO447.out).2.2 | (with_reducible refine Kd.C_alloc ?_ _) | (with_reducible refine Kd.C_drewN ?_ _) | (with_reducible refine Kd.C_drew ?_))); (case s4 => exact (Kd.S_reads' HO447.out).2.1); rintro e w60 ⟨rfl, hb⟩; refine ⟨_, rfl, ?_⟩; replace HO_10 := S.rb HO_10 hb; replace HO_11 := Aside0.mk (Kd.S_below (by (with_reducible repeat (first | apply Kd.S_alloc | apply Kd.S_drewN | apply Kd.S_drew)); exact HO_11.out) hb); replace HO443 := S.rb HO443 hb; replace HO447 := Aside0.mk (Kd.S_below (by (with_reducible repeat (first | apply Kd.S_alloc | apply Kd.S_drewN | apply Kd.S_drew)); exact HO447.out) hb); replace BK429 := S.kb BK429 hb; replace BK439 := S.kb BK439 hb; replace HB := S.sG hb; (try clear hb)))
        go_ret
        exact ⟨S.eW, S.bG⟩
      ·obtain rfl := Option.some.inj H
       go_wp2_with (first | ((with_reducible refine gate_callee (f := 15) rfl ?_); refine S.gL (some 55) Try.func15 #[.slice A0 l0.length c0] ?_; (with_reducible refine (laws_toPathS.calls kj14 _ _ l0 t441 _ ?s1 HC0.out A43.out).mono ?_); (case s1 => exact S.cA HR0.out); rintro e w61 ⟨v442, rfl, ho0, hb⟩; refine ⟨_, rfl, ?_⟩; replace HO_11 := Aside0.mk (Kd.S_below (by (with_reducible repeat (first | apply Kd.S_alloc | apply Kd.S_drewN | apply Kd.S_drew)); exact HO_11.out) hb); have HO443 := S.rnG ho0 HO_10; replace HO_10 := S.re HO_10 ho0 hb; replace BK429 := S.kb BK429 hb; replace BK439 := S.kb BK439 hb; replace HB := S.sG hb; (try clear hb); (try clear ho0); obtain ⟨Ao62, co62, eo62⟩ := Kd.R_slice HO443.out; subst eo62) | ((with_reducible refine gate_callee (f := 18) rfl ?_); refine S.gL (some 56) Try.func18 #[.slice Ao26 t430.length co26, .slice Ao62 t441.length co62] ?_; (with_reducible refine (laws_eqPathS.calls kj14 _ _ t430 _ _ t441 false _ ?s1 (S.rl HO_10) ?s3 (S.rl HO443) A44.out).mono ?_); (case s1 => exact S.rd HO_10); (case s3 => exact S.rd HO443); rintro e w63 ⟨rfl, hb⟩; refine ⟨_, rfl, ?_⟩; replace HO_10 := S.rb HO_10 hb; replace HO_11 := Aside0.mk (Kd.S_below (by (with_reducible repeat (first | apply Kd.S_alloc | apply Kd.S_drewN | apply Kd.S_drew)); exact HO_11.out) hb); replace HO443 := S.rb HO443 hb; replace BK429 := S.kb BK429 hb; replace BK439 := S.kb BK439 hb; replace HB := S.sG hb; (try clear hb)))
       go_ret
       exact ⟨S.eW, S.bG⟩

end Go.Proofs.Ytjgigmghcfdomaa.PFnExactWindowOf
