/- Printed by a program: what the Go functions compute, as plain Lean functions (.f), and the proofs that the machine's calls come to just that (.calls). -/
import Derived.Test.YtjgigmghcfdomaaPFnExactMakeSwitchx0
import Derived.Test.YtjgigmghcfdomaaPFnExactMakeSwitchx3
namespace Go.Proofs.Ytjgigmghcfdomaa.PFnExactMakeSwitch
open Go.RowKit Go.Proofs.YtjgigmghcfdomaaW.PrintWords Go.Proofs.YtjgigmghcfdomaaW.PrintLast Go.Proofs.YtjgigmghcfdomaaW.PrintMore
attribute [local go_sem] max2_int min2_int max_two min_two max_three min_three max_four min_four   -- for this text's walks alone
set_option linter.unusedVariables false
set_option linter.unusedSimpArgs false

/-! ### spec_IsPath: function 135 -/
def spec_IsPath.f (a0_0 : Int) (a0_1 : Int) (a0_2 : Int) (a0_3 : Int) : Option (Bool) := (spec_l1In.f a0_0 1 20).bind fun t159 => (if t159 = true then ((spec_l1In.f a0_1 1 3).bind fun t160 => (if t160 = true then ((spec_l1In.f a0_2 0 3).bind fun t161 => (if t161 = true then ((spec_l1In.f a0_3 0 3).bind fun t162 => (if t162 = true then (some ((a0_2 == a0_3) == (a0_1 == 2))) else (some false))) else (some false))) else (some false))) else (some false))
set_option maxHeartbeats 8000000 in
set_option maxRecDepth 100000 in
theorem spec_IsPath.calls (a0_0 : Int) (a0_1 : Int) (a0_2 : Int) (a0_3 : Int) (r : Bool) (w : World) (h : spec_IsPath.f a0_0 a0_1 a0_2 a0_3 = some r) :
  Calls Try.prog 135 #[.agg #[.int .i64 a0_0, .int .i64 a0_1, .int .i64 a0_2, .int .i64 a0_3]] w fun e w' => e = .returned (.bool r) ∧ Below w.heap.size w w' := by
 have hu71 := Try.underlying71
 have HB := Aside0.mk (Below.refl w.heap.size w)
 have H : ((spec_l1In.f a0_0 1 20).bind fun t159 => (if t159 = true then ((spec_l1In.f a0_1 1 3).bind fun t160 => (if t160 = true then ((spec_l1In.f a0_2 0 3).bind fun t161 => (if t161 = true then ((spec_l1In.f a0_3 0 3).bind fun t162 => (if t162 = true then (some ((a0_2 == a0_3) == (a0_1 == 2))) else (some false))) else (some false))) else (some false))) else (some false))) = some r := h
 clear h
 replace H := S.bd H; obtain ⟨t159, A2, H⟩ := H
 (try dsimp only at H)
 replace H := S.db H; rcases H with ⟨rfl, H⟩ | ⟨rfl, H⟩
 ·replace H := S.bd H; obtain ⟨t160, A4, H⟩ := H
  (try dsimp only at H)
  replace H := S.db H; rcases H with ⟨rfl, H⟩ | ⟨rfl, H⟩
  ·replace H := S.bd H; obtain ⟨t161, A6, H⟩ := H
   (try dsimp only at H)
   replace H := S.db H; rcases H with ⟨rfl, H⟩ | ⟨rfl, H⟩
   ·replace H := S.bd H; obtain ⟨t162, A8, H⟩ := H
    (try dsimp only at H)
    replace H := S.db H; rcases H with ⟨rfl, H⟩ | ⟨rfl, H⟩
    ·obtain rfl := Option.some.inj H
     go_enter Try.func135, Try.ntmps135
     go_wp2_with (first | ((with_reducible refine gate_dst (N := 1) rfl ?_); refine S.bx 1 (cs := #[.int .i64 a0_0, .int .i64 a0_1, .int .i64 a0_2, .int .i64 a0_3]) (t := 71) ?_; intro gb158 hg w10 hbox hb; have BK158 := Aside0.mk hbox; have GW158 := S.geA hg; have GE158 := S.geA hg; replace HB := S.sA hb; clear hb hbox hg; obtain ⟨Z11a, Z11b, Z11c, Z11d, Y11a, Y11b, Y11c, Y11d⟩ := S.c4 BK158.out) | ((with_reducible refine gate_callee (f := 58) rfl ?_); refine S.gL (some 5) Try.func58 #[.int .i64 a0_0, .int .i64 1, .int .i64 20] ?_; (with_reducible refine (spec_l1In.calls a0_0 1 20 true _ A2.out).mono ?_); rintro e w' ⟨rfl, ⟨nd, rfl⟩⟩; refine ⟨_, rfl, ?_⟩) | (go_at_call 58; (with_reducible refine (spec_l1In.calls a0_1 1 3 true _ A4.out).mono ?_); rintro e w' ⟨rfl, ⟨nd, rfl⟩⟩) | (go_at_call 58; (with_reducible refine (spec_l1In.calls a0_2 0 3 true _ A6.out).mono ?_); rintro e w' ⟨rfl, ⟨nd, rfl⟩⟩) | (go_at_call 58; (with_reducible refine (spec_l1In.calls a0_3 0 3 true _ A8.out).mono ?_); rintro e w' ⟨rfl, ⟨nd, rfl⟩⟩))
     go_ret
     exact ⟨S.eW, S.bG⟩
    ·obtain rfl := Option.some.inj H
     go_enter Try.func135, Try.ntmps135
     go_wp2_with (first | ((with_reducible refine gate_dst (N := 1) rfl ?_); refine S.bx 1 (cs := #[.int .i64 a0_0, .int .i64 a0_1, .int .i64 a0_2, .int .i64 a0_3]) (t := 71) ?_; intro gb158 hg w12 hbox hb; have BK158 := Aside0.mk hbox; have GW158 := S.geA hg; have GE158 := S.geA hg; replace HB := S.sA hb; clear hb hbox hg; obtain ⟨Z13a, Z13b, Z13c, Z13d, Y13a, Y13b, Y13c, Y13d⟩ := S.c4 BK158.out) | ((with_reducible refine gate_callee (f := 58) rfl ?_); refine S.gL (some 5) Try.func58 #[.int .i64 a0_0, .int .i64 1, .int .i64 20] ?_; (with_reducible refine (spec_l1In.calls a0_0 1 20 true _ A2.out).mono ?_); rintro e w' ⟨rfl, ⟨nd, rfl⟩⟩; refine ⟨_, rfl, ?_⟩) | (go_at_call 58; (with_reducible refine (spec_l1In.calls a0_1 1 3 true _ A4.out).mono ?_); rintro e w' ⟨rfl, ⟨nd, rfl⟩⟩) | (go_at_call 58; (with_reducible refine (spec_l1In.calls a0_2 0 3 true _ A6.out).mono ?_); rintro e w' ⟨rfl, ⟨nd, rfl⟩⟩) | (go_at_call 58; (with_reducible refine (spec_l1In.calls a0_3 0 3 false _ A8.out).mono ?_); rintro e w' ⟨rfl, ⟨nd, rfl⟩⟩))
     go_ret
     exact ⟨S.eW, S.bG⟩
   ·obtain rfl := Option.some.inj H
    go_enter Try.func135, Try.ntmps135
    go_wp2_with (first | ((with_reducible refine gate_dst (N := 1) rfl ?_); refine S.bx 1 (cs := #[.int .i64 a0_0, .int .i64 a0_1, .int .i64 a0_2, .int .i64 a0_3]) (t := 71) ?_; intro gb158 hg w14 hbox hb; have BK158 := Aside0.mk hbox; have GW158 := S.geA hg; have GE158 := S.geA hg; replace HB := S.sA hb; clear hb hbox hg; obtain ⟨Z15a, Z15b, Z15c, Z15d, Y15a, Y15b, Y15c, Y15d⟩ := S.c4 BK158.out) | ((with_reducible refine gate_callee (f := 58) rfl ?_); refine S.gL (some 5) Try.func58 #[.int .i64 a0_0, .int .i64 1, .int .i64 20] ?_; (with_reducible refine (spec_l1In.calls a0_0 1 20 true _ A2.out).mono ?_); rintro e w' ⟨rfl, ⟨nd, rfl⟩⟩; refine ⟨_, rfl, ?_⟩) | (go_at_call 58; (with_reducible refine (spec_l1In.calls a0_1 1 3 true _ A4.out).mono ?_); rintro e w' ⟨rfl, ⟨nd, rfl⟩⟩) | (go_at_call 58; (with_reducible refine (spec_l1In.calls a0_2 0 3 false _ A6.out).mono ?_); rintro e w' ⟨rfl, ⟨nd, rfl⟩⟩))
    go_ret
    exact ⟨S.eW, S.bG⟩
  ·obtain rfl := Option.some.inj H
   go_enter Try.func135, Try.ntmps135
   go_wp2_with (first | ((with_reducible refine gate_dst (N := 1) rfl ?_); refine S.bx 1 (cs := #[.int .i64 a0_0, .int .i64 a0_1, .int .i64 a0_2, .int .i64 a0_3]) (t := 71) ?_; intro gb158 hg w16 hbox hb; have BK158 := Aside0.mk hbox; have GW158 := S.geA hg; have GE158 := S.geA hg; replace HB := S.sA hb; clear hb hbox hg; obtain ⟨Z17a, Z17b, Z17c, Z17d, Y17a, Y17b, Y17c, Y17d⟩ := S.c4 BK158.out) | ((with_reducible refine gate_callee (f := 58) rfl ?_); refine S.gL (some 5) Try.func58 #[.int .i64 a0_0, .int .i64 1, .int .i64 20] ?_; (with_reducible refine (spec_l1In.calls a0_0 1 20 true _ A2.out).mono ?_); rintro e w' ⟨rfl, ⟨nd, rfl⟩⟩; refine ⟨_, rfl, ?_⟩) | (go_at_call 58; (with_reducible refine (spec_l1In.calls a0_1 1 3 false _ A4.out).mono ?_); rintro e w' ⟨rfl, ⟨nd, rfl⟩⟩))
   go_ret
   exact ⟨S.eW, S.bG⟩
 ·obtain rfl := Option.some.inj H
  go_enter Try.func135, Try.ntmps135
  go_wp2_with (first | ((with_reducible refine gate_dst (N := 1) rfl ?_); refine S.bx 1 (cs := #[.int .i64 a0_0, .int .i64 a0_1, .int .i64 a0_2, .int .i64 a0_3]) (t := 71) ?_; intro gb158 hg w18 hbox hb; have BK158 := Aside0.mk hbox; have GW158 := S.geA hg; have GE158 := S.geA hg; replace HB := S.sA hb; clear hb hbox hg; obtain ⟨Z19a, Z19b, Z19c, Z19d, Y19a, Y19b, Y19c, Y19d⟩ := S.c4 BK158.out) | ((with_reducible refine gate_callee (f := 58) rfl ?_); refine S.gL (some 5) Try.func58 #[.int .i64 a0_0, .int .i64 1, .int .i64 20] ?_; (with_reducible refine (spec_l1In.calls a0_0 1 20 false _ A2.out).mono ?_); rintro e w' ⟨rfl, ⟨nd, rfl⟩⟩; refine ⟨_, rfl, ?_⟩))
  go_ret
  exact ⟨S.eW, S.bG⟩

/-! ### spec_Interleave: function 136 -/
mutual
def spec_Interleave.l0 : Nat → Int → Int → Int → Int → List Int → Int → Option (Bool)
 | 0, _, _, _, _, _, _ => none
 | k + 1, x0, x1, x2, x3, x9, x10 => if x10 < 4 then (spec_Interleave.l1 k x0 x1 x2 x3 x9 x10 0) else (spec_Interleave.l2 k x1 x2 x3 0 (Int.tmod (wrap64 (x0 + 1)) 8))
def spec_Interleave.l1 : Nat → Int → Int → Int → Int → List Int → Int → Int → Option (Bool)
 | 0, _, _, _, _, _, _, _ => none
 | k + 1, x0, x1, x2, x3, x9, x10, x11 => if x11 < x10 then (if 0 ≤ x10 then (if x10 < (x9.length : Int) then (if 0 ≤ x11 then (if x11 < (x9.length : Int) then (if (rd x9 x10) = (rd x9 x11) then (some false) else (spec_Interleave.l1 k x0 x1 x2 x3 x9 x10 (wrap64 (x11 + 1)))) else (none)) else (none)) else (none)) else (none)) else (if 0 ≤ x10 then (if x10 < (x9.length : Int) then ((spec_l1In.f (rd x9 x10) 0 7).bind fun t169 => (if t169 = true then (spec_Interleave.l0 k x0 x1 x2 x3 x9 (wrap64 (x10 + 1))) else (some false))) else (none)) else (none))
def spec_Interleave.l2 : Nat → Int → Int → Int → Int → Int → Option (Bool)
 | 0, _, _, _, _, _ => none
 | k + 1, x1, x2, x3, x12, x13 => if x13 = x1 then (some (x12 == 1)) else (if x13 = x2 then (spec_Interleave.l2 k x1 x2 x3 (wrap64 (x12 + 1)) (Int.tmod (wrap64 (x13 + 1)) 8)) else (if x13 = x3 then (spec_Interleave.l2 k x1 x2 x3 (wrap64 (x12 + 1)) (Int.tmod (wrap64 (x13 + 1)) 8)) else (spec_Interleave.l2 k x1 x2 x3 x12 (Int.tmod (wrap64 (x13 + 1)) 8))))
end
def spec_Interleave.f (k : Nat) (a0 : Int) (a1 : Int) (a2 : Int) (a3 : Int) : Option (Bool) := spec_Interleave.l0 k a0 a1 a2 a3 (([a0, a1, a2, a3] : List Int)) 0
theorem spec_Interleave.mono_l : ∀ k, (∀ y0 y1 y2 y3 y4 y5, LeO (spec_Interleave.l0 k y0 y1 y2 y3 y4 y5) (spec_Interleave.l0 (k + 1) y0 y1 y2 y3 y4 y5)) ∧ (∀ y0 y1 y2 y3 y4 y5 y6, LeO (spec_Interleave.l1 k y0 y1 y2 y3 y4 y5 y6) (spec_Interleave.l1 (k + 1) y0 y1 y2 y3 y4 y5 y6)) ∧ (∀ y0 y1 y2 y3 y4, LeO (spec_Interleave.l2 k y0 y1 y2 y3 y4) (spec_Interleave.l2 (k + 1) y0 y1 y2 y3 y4))
 | 0 => ⟨fun _ _ _ _ _ _ r h => by simp [spec_Interleave.l0] at h, fun _ _ _ _ _ _ _ r h => by simp [spec_Interleave.l1] at h, fun _ _ _ _ _ r h => by simp [spec_Interleave.l2] at h⟩
 | k + 1 => by
  obtain ⟨ih0, ih1, ih2⟩ := spec_Interleave.mono_l k
  refine ⟨?_, ?_, ?_⟩
  ·intro y0 y1 y2 y3 y4 y5
   unfold spec_Interleave.l0
   repeat' first
   | (with_reducible exact ih0 _ _ _ _ _ _)
   | (with_reducible exact ih1 _ _ _ _ _ _ _)
   | (with_reducible exact ih2 _ _ _ _ _)
   | (with_reducible exact LeO.refl _)
   | (with_reducible exact LeO.none _)
   | (with_reducible refine LeO.ite ?_ ?_)
   | (with_reducible refine LeO.bind ?_ (fun _ => ?_))
   | exact ih0 _ _ _ _ _ _
   | exact ih1 _ _ _ _ _ _ _
   | exact ih2 _ _ _ _ _
   | exact LeO.none _
   | refine LeO.ite ?_ ?_
   | refine LeO.bind ?_ (fun _ => ?_)
  ·intro y0 y1 y2 y3 y4 y5 y6
   unfold spec_Interleave.l1
   repeat' first
   | (with_reducible exact ih0 _ _ _ _ _ _)
   | (with_reducible exact ih1 _ _ _ _ _ _ _)
   | (with_reducible exact ih2 _ _ _ _ _)
   | (with_reducible exact LeO.refl _)
   | (with_reducible exact LeO.none _)
   | (with_reducible refine LeO.ite ?_ ?_)
   | (with_reducible refine LeO.bind ?_ (fun _ => ?_))
   | exact ih0 _ _ _ _ _ _
   | exact ih1 _ _ _ _ _ _ _
   | exact ih2 _ _ _ _ _
   | exact LeO.none _
   | refine LeO.ite ?_ ?_
   | refine LeO.bind ?_ (fun _ => ?_)
  ·intro y0 y1 y2 y3 y4
   unfold spec_Interleave.l2
   repeat' first
   | (with_reducible exact ih0 _ _ _ _ _ _)
   | (with_reducible exact ih1 _ _ _ _ _ _ _)
   | (with_reducible exact ih2 _ _ _ _ _)
   | (with_reducible exact LeO.refl _)
   | (with_reducible exact LeO.none _)
   | (with_reducible refine LeO.ite ?_ ?_)
   | (with_reducible refine LeO.bind ?_ (fun _ => ?_))
   | exact ih0 _ _ _ _ _ _
   | exact ih1 _ _ _ _ _ _ _
   | exact ih2 _ _ _ _ _
   | exact LeO.none _
   | refine LeO.ite ?_ ?_
   | refine LeO.bind ?_ (fun _ => ?_)
theorem spec_Interleave.mono : ∀ a0 a1 a2 a3 k, LeO (spec_Interleave.f k a0 a1 a2 a3) (spec_Interleave.f (k + 1) a0 a1 a2 a3) := by
 intro a0 a1 a2 a3 k
 obtain ⟨ih0, ih1, ih2⟩ := spec_Interleave.mono_l k
 unfold spec_Interleave.f
 repeat' first
   | (with_reducible exact ih0 _ _ _ _ _ _)
   | (with_reducible exact ih1 _ _ _ _ _ _ _)
   | (with_reducible exact ih2 _ _ _ _ _)
   | (with_reducible exact LeO.refl _)
   | (with_reducible exact LeO.none _)
   | (with_reducible refine LeO.ite ?_ ?_)
   | (with_reducible refine LeO.bind ?_ (fun _ => ?_))
   | exact ih0 _ _ _ _ _ _
   | exact ih1 _ _ _ _ _ _ _
   | exact ih2 _ _ _ _ _
   | exact LeO.none _
   | refine LeO.ite ?_ ?_
   | refine LeO.bind ?_ (fun _ => ?_)
set_option maxHeartbeats 8000000 in
set_option maxRecDepth 100000 in
theorem spec_Interleave.calls (k : Nat) (a0 : Int) (a1 : Int) (a2 : Int) (a3 : Int) (r : Bool) (w : World) (h : spec_Interleave.f k a0 a1 a2 a3 = some r) :
  Calls Try.prog 136 #[.int .i64 a0, .int .i64 a1, .int .i64 a2, .int .i64 a3] w fun e w' => e = .returned (.bool r) ∧ Below w.heap.size w w' := by
 have HB := Aside0.mk (Below.refl w.heap.size w)
 have H : (spec_Interleave.l0 k a0 a1 a2 a3 (([a0, a1, a2, a3] : List Int)) 0) = some r := h
 clear h
 obtain ⟨y163, hy163⟩ : ∃ y_ : List Int, y_ = (([a0, a1, a2, a3] : List Int)) := ⟨_, rfl⟩
 replace H : (spec_Interleave.l0 k a0 a1 a2 a3 y163 0) = some r := by first | (rw [hy163]; with_reducible exact H) | (have H2_ := (Option.bind_some _ _).symm.trans H; rw [hy163]; with_reducible exact H2_) | (have H2_ := (Option.bind_some _ _).symm.trans H; with_reducible exact H2_) | with_reducible exact H | (rw [hy163]; exact H) | exact H
 have Ny163 := Aside0.mk hy163
 clear hy163
 have H' := Aside0.mk H
 clear H
 go_enter Try.func136, Try.ntmps136
 go_wp2_with (first | ((with_reducible refine gate_dst (N := 18) rfl ?_); refine Kd.R_lit (Kd.int .i64) _ 3 ?hg (N := 18) ?hd (xs := ([a0, a1, a2, a3] : List Int)) (inner := [.int .i64 a0, .int .i64 a1, .int .i64 a2, .int .i64 a3]) (ok := fun _ => True) (okp := fun _ => True) ?hr ?hp (fun _ hk => hk) trivial (Below.refl _ _) (Nat.le_refl _) (by simp) ?_; (case hd => rfl); (case hg => rfl); (case hr => first | (go_simp; done) | (go_simp; rfl)); (case hp => exact (Reps.one (show Kd.M (Kd.int .i64) _ _ _ a0 [.int .i64 a0] from rfl) (Reps.one (show Kd.M (Kd.int .i64) _ _ _ a1 [.int .i64 a1] from rfl) (Reps.one (show Kd.M (Kd.int .i64) _ _ _ a2 [.int .i64 a2] from rfl) (Reps.one (show Kd.M (Kd.int .i64) _ _ _ a3 [.int .i64 a3] from rfl) (Reps.none _ _)))))); intro v164 w5 ho6 hb hg_ hnew_; clear hg_ hnew_; (first | rw [← Ny163.out] at ho6 | (simp only [Int.reduceToNat] at ho6; rw [← Ny163.out] at ho6)); have HO165 := S.lwA ho6; replace HB := S.sA hb; clear hb ho6))
 repeat (go_quiet (first | ((with_reducible refine gate_dst (N := 18) rfl ?_); refine Kd.R_lit (Kd.int .i64) _ 3 ?hg (N := 18) ?hd (xs := ([a0, a1, a2, a3] : List Int)) (inner := [.int .i64 a0, .int .i64 a1, .int .i64 a2, .int .i64 a3]) (ok := fun _ => True) (okp := fun _ => True) ?hr ?hp (fun _ hk => hk) trivial (Below.refl _ _) (Nat.le_refl _) (by simp) ?_; (case hd => rfl); (case hg => rfl); (case hr => first | (go_simp; done) | (go_simp; rfl)); (case hp => exact (Reps.one (show Kd.M (Kd.int .i64) _ _ _ a0 [.int .i64 a0] from rfl) (Reps.one (show Kd.M (Kd.int .i64) _ _ _ a1 [.int .i64 a1] from rfl) (Reps.one (show Kd.M (Kd.int .i64) _ _ _ a2 [.int .i64 a2] from rfl) (Reps.one (show Kd.M (Kd.int .i64) _ _ _ a3 [.int .i64 a3] from rfl) (Reps.none _ _)))))); intro v164 w5 ho6 hb hg_ hnew_; clear hg_ hnew_; (first | rw [← Ny163.out] at ho6 | (simp only [Int.reduceToNat] at ho6; rw [← Ny163.out] at ho6)); have HO165 := S.lwA ho6; replace HB := S.sA hb; clear hb ho6)); try go_wp2_with (first | ((with_reducible refine gate_dst (N := 18) rfl ?_); refine Kd.R_lit (Kd.int .i64) _ 3 ?hg (N := 18) ?hd (xs := ([a0, a1, a2, a3] : List Int)) (inner := [.int .i64 a0, .int .i64 a1, .int .i64 a2, .int .i64 a3]) (ok := fun _ => True) (okp := fun _ => True) ?hr ?hp (fun _ hk => hk) trivial (Below.refl _ _) (Nat.le_refl _) (by simp) ?_; (case hd => rfl); (case hg => rfl); (case hr => first | (go_simp; done) | (go_simp; rfl)); (case hp => exact (Reps.one (show Kd.M (Kd.int .i64) _ _ _ a0 [.int .i64 a0] from rfl) (Reps.one (show Kd.M (Kd.int .i64) _ _ _ a1 [.int .i64 a1] from rfl) (Reps.one (show Kd.M (Kd.int .i64) _ _ _ a2 [.int .i64 a2] from rfl) (Reps.one (show Kd.M (Kd.int .i64) _ _ _ a3 [.int .i64 a3] from rfl) (Reps.none _ _)))))); intro v164 w5 ho6 hb hg_ hnew_; clear hg_ hnew_; (first | rw [← Ny163.out] at ho6 | (simp only [Int.reduceToNat] at ho6; rw [← Ny163.out] at ho6)); have n0_ := S.lwA ho6; have n1_ := S.sA hb; clear HB; have HO165 := n0_; have HB := n1_; clear n0_ n1_; clear hb ho6)))
 go_loopg [10] k (fun kq v10 w' => ∃ (x10_1 : Int), v10 = .int .i64 x10_1 ∧ Aside0 (spec_Interleave.l0 kq a0 a1 a2 a3 y163 x10_1 = some r) ∧ Aside0 (kq ≤ k) ∧ Aside0 (Kd.R (Kd.int .i64) 3 w' w.heap.size (fun _ => True) v164 y163) ∧ Aside0 (Below w.heap.size w w'))
 case atStart => exact ⟨(0), S.eA, H', ⟨Nat.le_refl _⟩, ⟨S.uR HO165.out⟩, ⟨S.bA⟩⟩
 case round =>
  clear H'
  obtain ⟨x10_1, rfl, HA, HK1, HO_9, HB⟩ := hrel
  cases gk with
  | zero => exact absurd HA.out (by simp [spec_Interleave.l0])
  | succ k1 =>
   have H := HA.out
   clear HA
   simp only [spec_Interleave.l0] at H
   replace H := S.dc H; rcases H with ⟨H, c7b0⟩ | ⟨H, c7b0⟩
   ·have H' := Aside0.mk H
    clear H
    go_wp2
    repeat (go_quiet (fail); try go_wp2)
    go_loopg [11] k1 (fun kq v11 w' => ∃ (x11_2 : Int), v11 = .int .i64 x11_2 ∧ Aside0 (spec_Interleave.l1 kq a0 a1 a2 a3 y163 x10_1 x11_2 = some r) ∧ Aside0 (kq ≤ k1) ∧ Aside0 (Kd.R (Kd.int .i64) 3 w' w.heap.size (fun _ => True) v164 y163) ∧ Aside0 (Below w.heap.size w w'))
    case atStart => exact ⟨(0), S.eA, H', ⟨Nat.le_refl _⟩, ⟨S.uR HO_9.out⟩, ⟨S.bA⟩⟩
    case round =>
     clear H'
     try clear c7
     try clear c7b0
     obtain ⟨x11_2, rfl, HA, HK2, HO_9, HB⟩ := hrel
     cases gk with
     | zero => exact absurd HA.out (by simp [spec_Interleave.l1])
     | succ k2 =>
      have H := HA.out
      clear HA
      simp only [spec_Interleave.l1] at H
      replace H := S.dc H; rcases H with ⟨H, c8b0⟩ | ⟨H, c8b0⟩
      ·by_cases c9 : 0 ≤ x10_1
       ·rw [if_pos c9] at H
        have c9b0 : decide (0 ≤ x10_1) = true := decide_eq_true c9
        clear c9
        by_cases c10 : x10_1 < (y163.length : Int)
        ·rw [if_pos c10] at H
         have c10b0 : decide (x10_1 < (y163.length : Int)) = true := decide_eq_true c10
         clear c10
         by_cases c11 : 0 ≤ x11_2
         ·rw [if_pos c11] at H
          have c11b0 : decide (0 ≤ x11_2) = true := decide_eq_true c11
          clear c11
          by_cases c12 : x11_2 < (y163.length : Int)
          ·rw [if_pos c12] at H
           have c12b0 : decide (x11_2 < (y163.length : Int)) = true := decide_eq_true c12
           clear c12
           by_cases c13 : (rd y163 x10_1) = (rd y163 x11_2)
           ·rw [if_pos c13] at H
            have c13b0 : ((rd y163 x10_1) == (rd y163 x11_2)) = true := beq_iff_eq.mpr c13
            have c13b1 : ((rd y163 x10_1) != (rd y163 x11_2)) = false := bne_eq_false_iff_eq.mpr c13
            clear c13
            obtain rfl := Option.some.inj H
            obtain ⟨Ao14, co14, eo14⟩ := Kd.R_slice HO_9.out
            subst eo14
            have p166 : 0 ≤ (x10_1 : Int) := S.oD
            have q166 : x10_1 < (y163.length : Int) := S.oD
            obtain ⟨ad166, e166, hx166_0⟩ := Kd.at_int (Kd.R_reads' HO_9.out).2.2 x10_1 p166 q166
            cases e166
            replace p166 := eq_true p166
            replace q166 := eq_true q166
            have p167 : 0 ≤ (x11_2 : Int) := S.oD
            have q167 : x11_2 < (y163.length : Int) := S.oD
            obtain ⟨ad167, e167, hx167_0⟩ := Kd.at_int (Kd.R_reads' HO_9.out).2.2 x11_2 p167 q167
            obtain rfl : ad166 = ad167 := (by injection e167)
            replace p167 := eq_true p167
            replace q167 := eq_true q167
            go_wp2
            repeat (go_quiet (fail); try go_wp2)
            go_ret
            exact ⟨S.eW, S.bA⟩
           ·rw [if_neg c13] at H
            have c13b0 : ((rd y163 x10_1) == (rd y163 x11_2)) = false := beq_eq_false_iff_ne.mpr c13
            have c13b1 : ((rd y163 x10_1) != (rd y163 x11_2)) = true := bne_iff_ne.mpr c13
            have H' := Aside0.mk H
            clear H
            obtain ⟨Ao15, co15, eo15⟩ := Kd.R_slice HO_9.out
            subst eo15
            have p166 : 0 ≤ (x10_1 : Int) := S.oD
            have q166 : x10_1 < (y163.length : Int) := S.oD
            obtain ⟨ad166, e166, hx166_0⟩ := Kd.at_int (Kd.R_reads' HO_9.out).2.2 x10_1 p166 q166
            cases e166
            replace p166 := eq_true p166
            replace q166 := eq_true q166
            have p167 : 0 ≤ (x11_2 : Int) := S.oD
            have q167 : x11_2 < (y163.length : Int) := S.oD
            obtain ⟨ad167, e167, hx167_0⟩ := Kd.at_int (Kd.R_reads' HO_9.out).2.2 x11_2 p167 q167
            obtain rfl : ad166 = ad167 := (by injection e167)
            replace p167 := eq_true p167
            replace q167 := eq_true q167
            go_wp2
            repeat (go_quiet (fail); try go_wp2)
            go_roundg k2
            case measure => have := HK1.out; have := HK2.out; omega
            case rel => exact ⟨(wrap64 (x11_2 + 1)), S.eA, H', ⟨by have := HK1.out; have := HK2.out; omega⟩, ⟨S.uR HO_9.out⟩, ⟨S.bA⟩⟩
          ·rw [if_neg c12] at H
           exact absurd H (by simp)
         ·rw [if_neg c11] at H
          exact absurd H (by simp)
        ·rw [if_neg c10] at H
         exact absurd H (by simp)
       ·rw [if_neg c9] at H
        exact absurd H (by simp)
      ·by_cases c16 : 0 ≤ x10_1
       ·rw [if_pos c16] at H
        have c16b0 : decide (0 ≤ x10_1) = true := decide_eq_true c16
        clear c16
        by_cases c17 : x10_1 < (y163.length : Int)
        ·rw [if_pos c17] at H
         have c17b0 : decide (x10_1 < (y163.length : Int)) = true := decide_eq_true c17
         clear c17
         replace H := S.bd H; obtain ⟨t169, A18, H⟩ := H
         (try dsimp only at H)
         replace H := S.db H; rcases H with ⟨rfl, H⟩ | ⟨rfl, H⟩
         ·have H' := Aside0.mk H
          clear H
          obtain ⟨Ao20, co20, eo20⟩ := Kd.R_slice HO_9.out
          subst eo20
          have p168 : 0 ≤ (x10_1 : Int) := S.oD
          have q168 : x10_1 < (y163.length : Int) := S.oD
          obtain ⟨ad168, e168, hx168_0⟩ := Kd.at_int (Kd.R_reads' HO_9.out).2.2 x10_1 p168 q168
          cases e168
          replace p168 := eq_true p168
          replace q168 := eq_true q168
          go_wp2_with (first | (go_at_call 58; (with_reducible refine (spec_l1In.calls (rd y163 x10_1) 0 7 true _ A18.out).mono ?_); rintro e w' ⟨rfl, ⟨nd, rfl⟩⟩; (try first | exact ⟨rfl, _, World.drewN_drewN _ _ _⟩ | exact ⟨rfl, _, Eq.trans (World.drewN_drewN _ _ _) (congrArg (World.drewN _) (Nat.add_assoc _ _ _))⟩)))
          repeat (go_quiet (first | (go_at_call 58; (with_reducible refine (spec_l1In.calls (rd y163 x10_1) 0 7 true _ A18.out).mono ?_); rintro e w' ⟨rfl, ⟨nd, rfl⟩⟩; (try first | exact ⟨rfl, _, World.drewN_drewN _ _ _⟩ | exact ⟨rfl, _, Eq.trans (World.drewN_drewN _ _ _) (congrArg (World.drewN _) (Nat.add_assoc _ _ _))⟩))); try go_wp2_with (first | (go_at_call 58; (with_reducible refine (spec_l1In.calls (rd y163 x10_1) 0 7 true _ A18.out).mono ?_); rintro e w' ⟨rfl, ⟨nd, rfl⟩⟩; (try first | exact ⟨rfl, _, World.drewN_drewN _ _ _⟩ | exact ⟨rfl, _, Eq.trans (World.drewN_drewN _ _ _) (congrArg (World.drewN _) (Nat.add_assoc _ _ _))⟩))))
          go_roundg k2
          case measure => have := HK1.out; have := HK2.out; omega
          case rel => exact ⟨(wrap64 (x10_1 + 1)), S.eA, H', ⟨by have := HK1.out; have := HK2.out; omega⟩, ⟨S.uR HO_9.out⟩, ⟨S.bA⟩⟩
         ·obtain rfl := Option.some.inj H
          obtain ⟨Ao21, co21, eo21⟩ := Kd.R_slice HO_9.out
          subst eo21
          have p168 : 0 ≤ (x10_1 : Int) := S.oD
          have q168 : x10_1 < (y163.length : Int) := S.oD
          obtain ⟨ad168, e168, hx168_0⟩ := Kd.at_int (Kd.R_reads' HO_9.out).2.2 x10_1 p168 q168
          cases e168
          replace p168 := eq_true p168
          replace q168 := eq_true q168
          go_wp2_with (first | (go_at_call 58; (with_reducible refine (spec_l1In.calls (rd y163 x10_1) 0 7 false _ A18.out).mono ?_); rintro e w' ⟨rfl, ⟨nd, rfl⟩⟩; (try first | exact ⟨rfl, _, World.drewN_drewN _ _ _⟩ | exact ⟨rfl, _, Eq.trans (World.drewN_drewN _ _ _) (congrArg (World.drewN _) (Nat.add_assoc _ _ _))⟩)))
          repeat (go_quiet (first | (go_at_call 58; (with_reducible refine (spec_l1In.calls (rd y163 x10_1) 0 7 false _ A18.out).mono ?_); rintro e w' ⟨rfl, ⟨nd, rfl⟩⟩; (try first | exact ⟨rfl, _, World.drewN_drewN _ _ _⟩ | exact ⟨rfl, _, Eq.trans (World.drewN_drewN _ _ _) (congrArg (World.drewN _) (Nat.add_assoc _ _ _))⟩))); try go_wp2_with (first | (go_at_call 58; (with_reducible refine (spec_l1In.calls (rd y163 x10_1) 0 7 false _ A18.out).mono ?_); rintro e w' ⟨rfl, ⟨nd, rfl⟩⟩; (try first | exact ⟨rfl, _, World.drewN_drewN _ _ _⟩ | exact ⟨rfl, _, Eq.trans (World.drewN_drewN _ _ _) (congrArg (World.drewN _) (Nat.add_assoc _ _ _))⟩))))
          go_ret
          exact ⟨S.eW, S.bA⟩
        ·rw [if_neg c17] at H
         exact absurd H (by simp)
       ·rw [if_neg c16] at H
        exact absurd H (by simp)
   ·have H' := Aside0.mk H
    clear H
    go_wp2
    repeat (go_quiet (fail); try go_wp2)
    go_loopg [12, 13] k1 (fun kq v12 v13 w' => ∃ (x12_2 : Int) (x13_2 : Int), v12 = .int .i64 x12_2 ∧ v13 = .int .i64 x13_2 ∧ Aside0 (spec_Interleave.l2 kq a1 a2 a3 x12_2 x13_2 = some r) ∧ Aside0 (kq ≤ k1) ∧ Aside0 (Below w.heap.size w w'))
    case atStart => exact ⟨(0), (Int.tmod (wrap64 (a0 + 1)) 8), S.eA, S.eA, H', ⟨Nat.le_refl _⟩, ⟨S.bA⟩⟩
    case round =>
     clear H'
     try clear c7
     try clear c7b0
     obtain ⟨x12_2, x13_2, rfl, rfl, HA, HK2, HB⟩ := hrel
     cases gk with
     | zero => exact absurd HA.out (by simp [spec_Interleave.l2])
     | succ k2 =>
      have H := HA.out
      clear HA
      simp only [spec_Interleave.l2] at H
      by_cases c22 : x13_2 = a1
      ·rw [if_pos c22] at H
       have c22b0 : (x13_2 == a1) = true := beq_iff_eq.mpr c22
       have c22b1 : (x13_2 != a1) = false := bne_eq_false_iff_eq.mpr c22
       clear c22
       obtain rfl := Option.some.inj H
       go_wp2
       repeat (go_quiet (fail); try go_wp2)
       go_ret
       exact ⟨S.eW, S.bA⟩
      ·rw [if_neg c22] at H
       have c22b0 : (x13_2 == a1) = false := beq_eq_false_iff_ne.mpr c22
       have c22b1 : (x13_2 != a1) = true := bne_iff_ne.mpr c22
       by_cases c23 : x13_2 = a2
       ·rw [if_pos c23] at H
        have c23b0 : (x13_2 == a2) = true := beq_iff_eq.mpr c23
        have c23b1 : (x13_2 != a2) = false := bne_eq_false_iff_eq.mpr c23
        clear c23
        have H' := Aside0.mk H
        clear H
        go_wp2
        repeat (go_quiet (fail); try go_wp2)
        go_roundg k2
        case measure => have := HK1.out; have := HK2.out; omega
        case rel => exact ⟨(wrap64 (x12_2 + 1)), (Int.tmod (wrap64 (x13_2 + 1)) 8), S.eA, S.eA, H', ⟨by have := HK1.out; have := HK2.out; omega⟩, ⟨S.bA⟩⟩
       ·rw [if_neg c23] at H
        have c23b0 : (x13_2 == a2) = false := beq_eq_false_iff_ne.mpr c23
        have c23b1 : (x13_2 != a2) = true := bne_iff_ne.mpr c23
        by_cases c24 : x13_2 = a3
        ·rw [if_pos c24] at H
         have c24b0 : (x13_2 == a3) = true := beq_iff_eq.mpr c24
         have c24b1 : (x13_2 != a3) = false := bne_eq_false_iff_eq.mpr c24
         clear c24
         have H' := Aside0.mk H
         clear H
         go_wp2
         repeat (go_quiet (fail); try go_wp2)
         go_roundg k2
         case measure => have := HK1.out; have := HK2.out; omega
         case rel => exact ⟨(wrap64 (x12_2 + 1)), (Int.tmod (wrap64 (x13_2 + 1)) 8), S.eA, S.eA, H', ⟨by have := HK1.out; have := HK2.out; omega⟩, ⟨S.bA⟩⟩
        ·rw [if_neg c24] at H
         have c24b0 : (x13_2 == a3) = false := beq_eq_false_iff_ne.mpr c24
         have c24b1 : (x13_2 != a3) = true := bne_iff_ne.mpr c24
         have H' := Aside0.mk H
         clear H
         go_wp2
         repeat (go_quiet (fail); try go_wp2)
         go_roundg k2
         case measure => have := HK1.out; have := HK2.out; omega
         case rel => exact ⟨(x12_2), (Int.tmod (wrap64 (x13_2 + 1)) 8), S.eA, S.eA, H', ⟨by have := HK1.out; have := HK2.out; omega⟩, ⟨S.bA⟩⟩

/-! ### spec_InPlace: function 137 -/
def spec_InPlace.f (a0 : Int) : Option (Int) := (spec_l1In.f a0 0 3).bind fun t170 => (if t170 = true then (some (wrap64 (2 * a0))) else (some (-1)))
set_option maxHeartbeats 8000000 in
set_option maxRecDepth 100000 in
theorem spec_InPlace.calls (a0 : Int) (r : Int) (w : World) (h : spec_InPlace.f a0 = some r) :
  Calls Try.prog 137 #[.int .i64 a0] w fun e w' => e = .returned (.int .i64 r) ∧ Drawn0 w w' := by
 have H : ((spec_l1In.f a0 0 3).bind fun t170 => (if t170 = true then (some (wrap64 (2 * a0))) else (some (-1)))) = some r := h
 clear h
 replace H := S.bd H; obtain ⟨t170, A2, H⟩ := H
 (try dsimp only at H)
 replace H := S.db H; rcases H with ⟨rfl, H⟩ | ⟨rfl, H⟩
 ·obtain rfl := Option.some.inj H
  go_enter Try.func137, Try.ntmps137
  go_wp2_with (first | ((with_reducible refine gate_callee (f := 58) rfl ?_); refine S.gL (some 4) Try.func58 #[.int .i64 a0, .int .i64 0, .int .i64 3] ?_; (with_reducible refine (spec_l1In.calls a0 0 3 true _ A2.out).mono ?_); rintro e w' ⟨rfl, ⟨nd, rfl⟩⟩; refine ⟨_, rfl, ?_⟩))
  go_ret
  exact ⟨S.eA, by repeat (first | exact Drawn0.refl _ | apply Drawn0.step)⟩
 ·obtain rfl := Option.some.inj H
  go_enter Try.func137, Try.ntmps137
  go_wp2_with (first | ((with_reducible refine gate_callee (f := 58) rfl ?_); refine S.gL (some 4) Try.func58 #[.int .i64 a0, .int .i64 0, .int .i64 3] ?_; (with_reducible refine (spec_l1In.calls a0 0 3 false _ A2.out).mono ?_); rintro e w' ⟨rfl, ⟨nd, rfl⟩⟩; refine ⟨_, rfl, ?_⟩))
  go_ret
  exact ⟨S.eA, by repeat (first | exact Drawn0.refl _ | apply Drawn0.step)⟩

/-! ### spec_OutPlace: function 138 -/
def spec_OutPlace.f (a0 : Int) : Option (Int) := (spec_l1In.f a0 0 3).bind fun t171 => (if t171 = true then (some (wrap64 ((wrap64 (2 * a0)) + 1))) else (some (-1)))
set_option maxHeartbeats 8000000 in
set_option maxRecDepth 100000 in
theorem spec_OutPlace.calls (a0 : Int) (r : Int) (w : World) (h : spec_OutPlace.f a0 = some r) :
  Calls Try.prog 138 #[.int .i64 a0] w fun e w' => e = .returned (.int .i64 r) ∧ Drawn0 w w' := by
 have H : ((spec_l1In.f a0 0 3).bind fun t171 => (if t171 = true then (some (wrap64 ((wrap64 (2 * a0)) + 1))) else (some (-1)))) = some r := h
 clear h
 replace H := S.bd H; obtain ⟨t171, A2, H⟩ := H
 (try dsimp only at H)
 replace H := S.db H; rcases H with ⟨rfl, H⟩ | ⟨rfl, H⟩
 ·obtain rfl := Option.some.inj H
  go_enter Try.func138, Try.ntmps138
  go_wp2_with (first | ((with_reducible refine gate_callee (f := 58) rfl ?_); refine S.gL (some 4) Try.func58 #[.int .i64 a0, .int .i64 0, .int .i64 3] ?_; (with_reducible refine (spec_l1In.calls a0 0 3 true _ A2.out).mono ?_); rintro e w' ⟨rfl, ⟨nd, rfl⟩⟩; refine ⟨_, rfl, ?_⟩))
  go_ret
  exact ⟨S.eA, by repeat (first | exact Drawn0.refl _ | apply Drawn0.step)⟩
 ·obtain rfl := Option.some.inj H
  go_enter Try.func138, Try.ntmps138
  go_wp2_with (first | ((with_reducible refine gate_callee (f := 58) rfl ?_); refine S.gL (some 4) Try.func58 #[.int .i64 a0, .int .i64 0, .int .i64 3] ?_; (with_reducible refine (spec_l1In.calls a0 0 3 false _ A2.out).mono ?_); rintro e w' ⟨rfl, ⟨nd, rfl⟩⟩; refine ⟨_, rfl, ?_⟩))
  go_ret
  exact ⟨S.eA, by repeat (first | exact Drawn0.refl _ | apply Drawn0.step)⟩

end Go.Proofs.Ytjgigmghcfdomaa.PFnExactMakeSwitch
