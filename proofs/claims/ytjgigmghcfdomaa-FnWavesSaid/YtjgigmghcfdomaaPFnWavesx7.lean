/- Printed by a program: what the Go functions compute, as plain Lean functions (.f), and the proofs that the machine's calls come to just that (.calls). -/
import Derived.Test.YtjgigmghcfdomaaPFnWavesx0
import Derived.Test.YtjgigmghcfdomaaPFnWavesx6
namespace Go.Proofs.Ytjgigmghcfdomaa.PFnWaves
open Go.RowKit Go.Proofs.YtjgigmghcfdomaaW.PrintWords Go.Proofs.YtjgigmghcfdomaaW.PrintLast Go.Proofs.YtjgigmghcfdomaaW.PrintMore
attribute [local go_sem] max2_int min2_int max_two min_two max_three min_three max_four min_four   -- for this text's walks alone
set_option linter.unusedVariables false
set_option linter.unusedSimpArgs false
/-! ### spec_Conflict: function 124 -/
def spec_Conflict.j0 : Nat → Bool → Int → Int → Int → Int → Int → Int → Int → Int → Option (Bool)
 | 0, _, _, _, _, _, _, _, _, _ => none
 | k + 1, x5, x361000, x361001, x361002, x361003, x362000, x362001, x362002, x362003 => if x5 = true then (some false) else (if x361001 = 2 then (if x362002 = x361002 then (some true) else (some (x362003 == x361002))) else (if x362001 = 2 then (if x361002 = x362002 then (some true) else (some (x361003 == x362002))) else (if x361002 = x362002 then (some false) else (if x361003 = x362003 then (some true) else ((spec_InPlace.f x361002).bind fun t364 => ((spec_OutPlace.f x361003).bind fun t365 => ((spec_InPlace.f x362002).bind fun t366 => ((spec_OutPlace.f x362003).bind fun t367 => ((spec_Interleave.f k t364 t365 t366 t367).bind fun t368 => (some t368))))))))))
def spec_Conflict.f (k : Nat) (a0_0 : Int) (a0_1 : Int) (a0_2 : Int) (a0_3 : Int) (a1_0 : Int) (a1_1 : Int) (a1_2 : Int) (a1_3 : Int) : Option (Bool) := (spec_IsPath.f a0_0 a0_1 a0_2 a0_3).bind fun t362 => (if t362 = true then ((spec_IsPath.f a1_0 a1_1 a1_2 a1_3).bind fun t363 => (if t363 = true then (if a0_1 = 2 then (spec_Conflict.j0 k (a1_1 == 2) a0_0 a0_1 a0_2 a0_3 a1_0 a1_1 a1_2 a1_3) else (spec_Conflict.j0 k false a0_0 a0_1 a0_2 a0_3 a1_0 a1_1 a1_2 a1_3)) else (spec_Conflict.j0 k true a0_0 a0_1 a0_2 a0_3 a1_0 a1_1 a1_2 a1_3))) else (spec_Conflict.j0 k true a0_0 a0_1 a0_2 a0_3 a1_0 a1_1 a1_2 a1_3))
def spec_Conflict.T11 : Bool × List (List Nat × List Nat) := (true, [([], []), ([0], [0]), ([1], [1]), ([], []), ([3], [3]), ([4, 2], [4]), ([], []), ([6], [6]), ([7, 5], [7]), ([], []), ([9], [9]), ([10, 8], [10]), ([2, 5, 8, 11, 11], [2, 5, 8, 11]), ([12, 12, 0, 1, 2, 3, 4, 5, 6, 7, 8, 9, 10, 11, 12], [12])])
def spec_Conflict.B11 : List Nat := [0, 1, 3, 0, 8, 31, 0, 64, 255, 0, 512, 2047, 4095, 8191]
theorem spec_Conflict.tab11 : rtab .any (opsOf Try.f124 11) = spec_Conflict.T11 := by kernel_rfl
theorem spec_Conflict.bits11 : waitsOk spec_Conflict.T11.2 spec_Conflict.B11 = true := by kernel_rfl
set_option maxHeartbeats 8000000 in
set_option maxRecDepth 100000 in
theorem spec_Conflict.calls (k : Nat) (a0_0 : Int) (a0_1 : Int) (a0_2 : Int) (a0_3 : Int) (a1_0 : Int) (a1_1 : Int) (a1_2 : Int) (a1_3 : Int) (r : Bool) (w : World) (h : spec_Conflict.f k a0_0 a0_1 a0_2 a0_3 a1_0 a1_1 a1_2 a1_3 = some r) :
  Calls Try.prog 124 #[.agg #[.int .i64 a0_0, .int .i64 a0_1, .int .i64 a0_2, .int .i64 a0_3], .agg #[.int .i64 a1_0, .int .i64 a1_1, .int .i64 a1_2, .int .i64 a1_3]] w fun e w' => e = .returned (.bool r) ∧ Below w.heap.size w w' := by
 have hu71 := Try.underlying71
 have HB := Aside0.mk (Below.refl w.heap.size w)
 have H : ((spec_IsPath.f a0_0 a0_1 a0_2 a0_3).bind fun t362 => (if t362 = true then ((spec_IsPath.f a1_0 a1_1 a1_2 a1_3).bind fun t363 => (if t363 = true then (if a0_1 = 2 then (spec_Conflict.j0 k (a1_1 == 2) a0_0 a0_1 a0_2 a0_3 a1_0 a1_1 a1_2 a1_3) else (spec_Conflict.j0 k false a0_0 a0_1 a0_2 a0_3 a1_0 a1_1 a1_2 a1_3)) else (spec_Conflict.j0 k true a0_0 a0_1 a0_2 a0_3 a1_0 a1_1 a1_2 a1_3))) else (spec_Conflict.j0 k true a0_0 a0_1 a0_2 a0_3 a1_0 a1_1 a1_2 a1_3))) = some r := h
 clear h
 have HC3 := Aside0.mk H
 clear H
 go_enter Try.func124, Try.ntmps124
 go_upto_region 1 with (first | ((with_reducible refine gate_dst (N := 2) rfl ?_); refine S.bx 2 (cs := #[.int .i64 a0_0, .int .i64 a0_1, .int .i64 a0_2, .int .i64 a0_3]) (t := 71) ?_; intro gb360 hg w4 hbox hb; have BK360 := Aside0.mk hbox; have GW360 := S.geA hg; have GE360 := S.geA hg; replace HB := S.sA hb; clear hb hbox hg) | ((with_reducible refine gate_dst (N := 3) rfl ?_); refine S.bx 3 (cs := #[.int .i64 a1_0, .int .i64 a1_1, .int .i64 a1_2, .int .i64 a1_3]) (t := 71) ?_; intro gb361 hg w5 hbox hb; have BK361 := Aside0.mk hbox; have GW361 := S.geG hg; have GE361 := S.geG hg; replace HB := S.sG hb; have NB360_361 := S.nl hg BK360; have NB361_360 := S.ng hg BK360; replace BK360 := S.kb BK360 hb; clear hb hbox hg))
 (try simp only [Act.put, List.setIfInBounds_toArray, List.set_cons_zero, List.set_cons_succ])
 go_cut [5] (fun v5 wc => ∃ (kq : Nat) (x5_2 : Bool), v5 = .bool x5_2 ∧ Aside0 (spec_Conflict.j0 kq x5_2 a0_0 a0_1 a0_2 a0_3 a1_0 a1_1 a1_2 a1_3 = some r) ∧ Aside0 (kq ≤ k) ∧ Aside0 (wc.heap[gb360]? = some (.cells #[.int .i64 a0_0, .int .i64 a0_1, .int .i64 a0_2, .int .i64 a0_3] 71 (0, 0))) ∧ Aside0 (wc.heap[gb361]? = some (.cells #[.int .i64 a1_0, .int .i64 a1_1, .int .i64 a1_2, .int .i64 a1_3] 71 (0, 0))) ∧ Aside0 (Below w.heap.size w wc))
 case first =>
  have H := HC3.out
  clear HC3
  replace H := S.bd H; obtain ⟨t362, A6, H⟩ := H
  (try dsimp only at H)
  replace H := S.db H; rcases H with ⟨rfl, H⟩ | ⟨rfl, H⟩
  ·replace H := S.bd H; obtain ⟨t363, A8, H⟩ := H
   (try dsimp only at H)
   replace H := S.db H; rcases H with ⟨rfl, H⟩ | ⟨rfl, H⟩
   ·by_cases c10 : a0_1 = 2
    ·rw [if_pos c10] at H
     have c10b0 : (a0_1 == 2) = true := beq_iff_eq.mpr c10
     have c10b1 : (a0_1 != 2) = false := bne_eq_false_iff_eq.mpr c10
     clear c10
     (first | rw [c10b0] | (simp only [i64_w, i32_w]; rw [c10b0]) | skip)
     have H' := Aside0.mk H
     clear H
     have hnb11 := NB360_361.out
     have hnc11 := NB361_360.out
     obtain ⟨Z12a, Z12b, Z12c, Z12d, Y12a, Y12b, Y12c, Y12d⟩ := S.c4 BK360.out
     go_wp2_with (first | ((with_reducible refine gate_callee (f := 135) rfl ?_); refine S.gL (some 7) Try.func135 #[.agg #[.int .i64 a0_0, .int .i64 a0_1, .int .i64 a0_2, .int .i64 a0_3]] ?_; (with_reducible refine (spec_IsPath.calls a0_0 a0_1 a0_2 a0_3 true _ A6.out).mono ?_); rintro e w13 ⟨rfl, hb⟩; refine ⟨_, rfl, ?_⟩; replace BK360 := S.kb BK360 hb; replace BK361 := S.kb BK361 hb; replace HB := S.sG hb; (try clear hb); obtain ⟨Z14a, Z14b, Z14c, Z14d, Y14a, Y14b, Y14c, Y14d⟩ := S.c4 BK361.out) | (go_at_call 135; (with_reducible refine (spec_IsPath.calls a1_0 a1_1 a1_2 a1_3 true _ A8.out).mono ?_); rintro e w15 ⟨rfl, hb⟩; replace BK360 := S.kb BK360 hb; replace BK361 := S.kb BK361 hb; replace HB := S.sG hb; (try clear hb); obtain ⟨Z16a, Z16b, Z16c, Z16d, Y16a, Y16b, Y16c, Y16d⟩ := S.c4 BK360.out; obtain ⟨Z17a, Z17b, Z17c, Z17d, Y17a, Y17b, Y17c, Y17d⟩ := S.c4 BK361.out))
     go_meet
     case rel => exact ⟨_, ((a1_1 == 2)), S.eA, H', S.le, ⟨S.uB BK360.out⟩, ⟨S.uB BK361.out⟩, ⟨S.bG⟩⟩
    ·rw [if_neg c10] at H
     have c10b0 : (a0_1 == 2) = false := beq_eq_false_iff_ne.mpr c10
     have c10b1 : (a0_1 != 2) = true := bne_iff_ne.mpr c10
     (first | rw [c10b0] | (simp only [i64_w, i32_w]; rw [c10b0]) | skip)
     have H' := Aside0.mk H
     clear H
     have hnb18 := NB360_361.out
     have hnc18 := NB361_360.out
     obtain ⟨Z19a, Z19b, Z19c, Z19d, Y19a, Y19b, Y19c, Y19d⟩ := S.c4 BK360.out
     go_wp2_with (first | ((with_reducible refine gate_callee (f := 135) rfl ?_); refine S.gL (some 7) Try.func135 #[.agg #[.int .i64 a0_0, .int .i64 a0_1, .int .i64 a0_2, .int .i64 a0_3]] ?_; (with_reducible refine (spec_IsPath.calls a0_0 a0_1 a0_2 a0_3 true _ A6.out).mono ?_); rintro e w20 ⟨rfl, hb⟩; refine ⟨_, rfl, ?_⟩; replace BK360 := S.kb BK360 hb; replace BK361 := S.kb BK361 hb; replace HB := S.sG hb; (try clear hb); obtain ⟨Z21a, Z21b, Z21c, Z21d, Y21a, Y21b, Y21c, Y21d⟩ := S.c4 BK361.out) | (go_at_call 135; (with_reducible refine (spec_IsPath.calls a1_0 a1_1 a1_2 a1_3 true _ A8.out).mono ?_); rintro e w22 ⟨rfl, hb⟩; replace BK360 := S.kb BK360 hb; replace BK361 := S.kb BK361 hb; replace HB := S.sG hb; (try clear hb); obtain ⟨Z23a, Z23b, Z23c, Z23d, Y23a, Y23b, Y23c, Y23d⟩ := S.c4 BK360.out))
     go_meet
     case rel => exact ⟨_, (false), S.eA, H', S.le, ⟨S.uB BK360.out⟩, ⟨S.uB BK361.out⟩, ⟨S.bG⟩⟩
   ·have H' := Aside0.mk H
    clear H
    have hnb24 := NB360_361.out
    have hnc24 := NB361_360.out
    obtain ⟨Z25a, Z25b, Z25c, Z25d, Y25a, Y25b, Y25c, Y25d⟩ := S.c4 BK360.out
    go_wp2_with (first | ((with_reducible refine gate_callee (f := 135) rfl ?_); refine S.gL (some 7) Try.func135 #[.agg #[.int .i64 a0_0, .int .i64 a0_1, .int .i64 a0_2, .int .i64 a0_3]] ?_; (with_reducible refine (spec_IsPath.calls a0_0 a0_1 a0_2 a0_3 true _ A6.out).mono ?_); rintro e w26 ⟨rfl, hb⟩; refine ⟨_, rfl, ?_⟩; replace BK360 := S.kb BK360 hb; replace BK361 := S.kb BK361 hb; replace HB := S.sG hb; (try clear hb); obtain ⟨Z27a, Z27b, Z27c, Z27d, Y27a, Y27b, Y27c, Y27d⟩ := S.c4 BK361.out) | (go_at_call 135; (with_reducible refine (spec_IsPath.calls a1_0 a1_1 a1_2 a1_3 false _ A8.out).mono ?_); rintro e w28 ⟨rfl, hb⟩; replace BK360 := S.kb BK360 hb; replace BK361 := S.kb BK361 hb; replace HB := S.sG hb; (try clear hb)))
    go_meet
    case rel => exact ⟨_, (true), S.eA, H', S.le, ⟨S.uB BK360.out⟩, ⟨S.uB BK361.out⟩, ⟨S.bG⟩⟩
  ·have H' := Aside0.mk H
   clear H
   have hnb29 := NB360_361.out
   have hnc29 := NB361_360.out
   obtain ⟨Z30a, Z30b, Z30c, Z30d, Y30a, Y30b, Y30c, Y30d⟩ := S.c4 BK360.out
   go_wp2_with (first | ((with_reducible refine gate_callee (f := 135) rfl ?_); refine S.gL (some 7) Try.func135 #[.agg #[.int .i64 a0_0, .int .i64 a0_1, .int .i64 a0_2, .int .i64 a0_3]] ?_; (with_reducible refine (spec_IsPath.calls a0_0 a0_1 a0_2 a0_3 false _ A6.out).mono ?_); rintro e w31 ⟨rfl, hb⟩; refine ⟨_, rfl, ?_⟩; replace BK360 := S.kb BK360 hb; replace BK361 := S.kb BK361 hb; replace HB := S.sG hb; (try clear hb)))
   go_meet
   case rel => exact ⟨_, (true), S.eA, H', S.le, ⟨S.uB BK360.out⟩, ⟨S.uB BK361.out⟩, ⟨S.bG⟩⟩
 case rest =>
  clear HC3
  obtain ⟨kq, x5_2, rfl, HA, HJ2, BK360, BK361, HB⟩ := hcut
  cases kq with
  | zero => exact absurd HA.out (by simp [spec_Conflict.j0])
  | succ kj2 =>
   have H := HA.out
   clear HA
   simp only [spec_Conflict.j0] at H
   replace H := S.db H; rcases H with ⟨rfl, H⟩ | ⟨rfl, H⟩
   ·obtain rfl := Option.some.inj H
    go_wp2
    go_ret
    exact ⟨S.eW, S.bG⟩
   ·by_cases c33 : a0_1 = 2
    ·rw [if_pos c33] at H
     have c33b0 : (a0_1 == 2) = true := beq_iff_eq.mpr c33
     have c33b1 : (a0_1 != 2) = false := bne_eq_false_iff_eq.mpr c33
     clear c33
     by_cases c34 : a1_2 = a0_2
     ·rw [if_pos c34] at H
      have c34b0 : (a1_2 == a0_2) = true := beq_iff_eq.mpr c34
      have c34b1 : (a1_2 != a0_2) = false := bne_eq_false_iff_eq.mpr c34
      clear c34
      obtain rfl := Option.some.inj H
      have hnb35 := NB360_361.out
      have hnc35 := NB361_360.out
      obtain ⟨Z36a, Z36b, Z36c, Z36d, Y36a, Y36b, Y36c, Y36d⟩ := S.c4 BK360.out
      obtain ⟨Z37a, Z37b, Z37c, Z37d, Y37a, Y37b, Y37c, Y37d⟩ := S.c4 BK361.out
      go_wp2
      go_ret
      exact ⟨S.eW, S.bG⟩
     ·rw [if_neg c34] at H
      have c34b0 : (a1_2 == a0_2) = false := beq_eq_false_iff_ne.mpr c34
      have c34b1 : (a1_2 != a0_2) = true := bne_iff_ne.mpr c34
      obtain rfl := Option.some.inj H
      have hnb38 := NB360_361.out
      have hnc38 := NB361_360.out
      obtain ⟨Z39a, Z39b, Z39c, Z39d, Y39a, Y39b, Y39c, Y39d⟩ := S.c4 BK360.out
      obtain ⟨Z40a, Z40b, Z40c, Z40d, Y40a, Y40b, Y40c, Y40d⟩ := S.c4 BK361.out
      go_wp2
      go_ret
      exact ⟨S.eW, S.bG⟩
    ·rw [if_neg c33] at H
     have c33b0 : (a0_1 == 2) = false := beq_eq_false_iff_ne.mpr c33
     have c33b1 : (a0_1 != 2) = true := bne_iff_ne.mpr c33
     by_cases c41 : a1_1 = 2
     ·rw [if_pos c41] at H
      have c41b0 : (a1_1 == 2) = true := beq_iff_eq.mpr c41
      have c41b1 : (a1_1 != 2) = false := bne_eq_false_iff_eq.mpr c41
      clear c41
      by_cases c42 : a0_2 = a1_2
      ·rw [if_pos c42] at H
       have c42b0 : (a0_2 == a1_2) = true := beq_iff_eq.mpr c42
       have c42b1 : (a0_2 != a1_2) = false := bne_eq_false_iff_eq.mpr c42
       clear c42
       obtain rfl := Option.some.inj H
       have hnb43 := NB360_361.out
       have hnc43 := NB361_360.out
       obtain ⟨Z44a, Z44b, Z44c, Z44d, Y44a, Y44b, Y44c, Y44d⟩ := S.c4 BK360.out
       obtain ⟨Z45a, Z45b, Z45c, Z45d, Y45a, Y45b, Y45c, Y45d⟩ := S.c4 BK361.out
       go_wp2
       go_ret
       exact ⟨S.eW, S.bG⟩
      ·rw [if_neg c42] at H
       have c42b0 : (a0_2 == a1_2) = false := beq_eq_false_iff_ne.mpr c42
       have c42b1 : (a0_2 != a1_2) = true := bne_iff_ne.mpr c42
       obtain rfl := Option.some.inj H
       have hnb46 := NB360_361.out
       have hnc46 := NB361_360.out
       obtain ⟨Z47a, Z47b, Z47c, Z47d, Y47a, Y47b, Y47c, Y47d⟩ := S.c4 BK360.out
       obtain ⟨Z48a, Z48b, Z48c, Z48d, Y48a, Y48b, Y48c, Y48d⟩ := S.c4 BK361.out
       go_wp2
       go_ret
       exact ⟨S.eW, S.bG⟩
     ·rw [if_neg c41] at H
      have c41b0 : (a1_1 == 2) = false := beq_eq_false_iff_ne.mpr c41
      have c41b1 : (a1_1 != 2) = true := bne_iff_ne.mpr c41
      by_cases c49 : a0_2 = a1_2
      ·rw [if_pos c49] at H
       have c49b0 : (a0_2 == a1_2) = true := beq_iff_eq.mpr c49
       have c49b1 : (a0_2 != a1_2) = false := bne_eq_false_iff_eq.mpr c49
       clear c49
       obtain rfl := Option.some.inj H
       have hnb50 := NB360_361.out
       have hnc50 := NB361_360.out
       obtain ⟨Z51a, Z51b, Z51c, Z51d, Y51a, Y51b, Y51c, Y51d⟩ := S.c4 BK360.out
       obtain ⟨Z52a, Z52b, Z52c, Z52d, Y52a, Y52b, Y52c, Y52d⟩ := S.c4 BK361.out
       go_wp2
       go_ret
       exact ⟨S.eW, S.bG⟩
      ·rw [if_neg c49] at H
       have c49b0 : (a0_2 == a1_2) = false := beq_eq_false_iff_ne.mpr c49
       have c49b1 : (a0_2 != a1_2) = true := bne_iff_ne.mpr c49
       by_cases c53 : a0_3 = a1_3
       ·rw [if_pos c53] at H
        have c53b0 : (a0_3 == a1_3) = true := beq_iff_eq.mpr c53
        have c53b1 : (a0_3 != a1_3) = false := bne_eq_false_iff_eq.mpr c53
        clear c53
        obtain rfl := Option.some.inj H
        have hnb54 := NB360_361.out
        have hnc54 := NB361_360.out
        obtain ⟨Z55a, Z55b, Z55c, Z55d, Y55a, Y55b, Y55c, Y55d⟩ := S.c4 BK360.out
        obtain ⟨Z56a, Z56b, Z56c, Z56d, Y56a, Y56b, Y56c, Y56d⟩ := S.c4 BK361.out
        go_wp2
        go_ret
        exact ⟨S.eW, S.bG⟩
       ·rw [if_neg c53] at H
        have c53b0 : (a0_3 == a1_3) = false := beq_eq_false_iff_ne.mpr c53
        have c53b1 : (a0_3 != a1_3) = true := bne_iff_ne.mpr c53
        replace H := S.bd H; obtain ⟨t364, A57, H⟩ := H
        (try dsimp only at H)
        replace H := S.bd H; obtain ⟨t365, A58, H⟩ := H
        (try dsimp only at H)
        replace H := S.bd H; obtain ⟨t366, A59, H⟩ := H
        (try dsimp only at H)
        replace H := S.bd H; obtain ⟨t367, A60, H⟩ := H
        (try dsimp only at H)
        replace H := S.bd H; obtain ⟨t368, A61, H⟩ := H
        (try dsimp only at H)
        obtain rfl := Option.some.inj H
        have hnb62 := NB360_361.out
        have hnc62 := NB361_360.out
        obtain ⟨Z63a, Z63b, Z63c, Z63d, Y63a, Y63b, Y63c, Y63d⟩ := S.c4 BK360.out
        obtain ⟨Z64a, Z64b, Z64c, Z64d, Y64a, Y64b, Y64c, Y64d⟩ := S.c4 BK361.out
        try go_wp2
        replace BK360 := Aside0.mk (blk_drew BK360.out)
        replace BK361 := Aside0.mk (blk_drew BK361.out)
        replace HB := Aside0.mk (below_drew1 HB.out)
        refine S.st (n := 14) (ds := []) #[false, false, false, false, false, false, false, false, false, false, false, false, false, false] (fun w_ h_ => have x_ := S.d4 (S.Q h_ BK360.out) (S.e4 (S.Q h_ BK361.out)); x_) (fun hHeld => ?_); refine with_tabW spec_Conflict.tab11 spec_Conflict.bits11 (fun HT_ HW_ => ?_)
        generalize wc.drew = w65 at BK360 BK361 HB hHeld ⊢
        refine S.pS 0 68 ?_
        refine S.pS 3 71 ?_
        refine S.pS 6 74 ?_
        refine S.pS 9 77 ?_
        refine S.tK 1 69 #[true, true, false, true, false, false, true, false, false, true, false, false, false, false] ?_
        refine S.tK 4 72 #[true, true, false, true, true, false, true, false, false, true, false, false, false, false] ?_
        refine S.tK 7 75 #[true, true, false, true, true, false, true, true, false, true, false, false, false, false] ?_
        refine S.tK 10 78 #[true, true, false, true, true, false, true, true, false, true, true, false, false, false] ?_
        refine S.oN 2 70 #[true, true, true, true, true, false, true, true, false, true, true, false, false, false] (fun K hK => ?_)
        refine S.go Try.func137 #[.int .i64 a0_2] ?_
        with_reducible refine (spec_InPlace.calls a0_2 t364 _ A57.out).mono ?_
        rintro e w' ⟨rfl, ⟨nd, rfl⟩⟩
        refine ⟨_, rfl, ?_⟩
        refine hK.out _ _ (S.d4 BK360.out (S.e4 BK361.out)) (fun hHeld => ?_)
        clear hK K
        refine S.nm 70 ?_
        refine S.oN 5 73 #[true, true, true, true, true, true, true, true, false, true, true, false, false, false] (fun K hK => ?_)
        refine S.go Try.func138 #[.int .i64 a0_3] ?_
        with_reducible refine (spec_OutPlace.calls a0_3 t365 _ A58.out).mono ?_
        rintro e w' ⟨rfl, ⟨nd, rfl⟩⟩
        refine ⟨_, rfl, ?_⟩
        refine hK.out _ _ (S.d4 BK360.out (S.e4 BK361.out)) (fun hHeld => ?_)
        clear hK K
        refine S.nm 73 ?_
        refine S.oN 8 76 #[true, true, true, true, true, true, true, true, true, true, true, false, false, false] (fun K hK => ?_)
        refine S.go Try.func137 #[.int .i64 a1_2] ?_
        with_reducible refine (spec_InPlace.calls a1_2 t366 _ A59.out).mono ?_
        rintro e w' ⟨rfl, ⟨nd, rfl⟩⟩
        refine ⟨_, rfl, ?_⟩
        refine hK.out _ _ (S.d4 BK360.out (S.e4 BK361.out)) (fun hHeld => ?_)
        clear hK K
        refine S.nm 76 ?_
        refine S.oN 11 79 #[true, true, true, true, true, true, true, true, true, true, true, true, false, false] (fun K hK => ?_)
        refine S.go Try.func138 #[.int .i64 a1_3] ?_
        with_reducible refine (spec_OutPlace.calls a1_3 t367 _ A60.out).mono ?_
        rintro e w' ⟨rfl, ⟨nd, rfl⟩⟩
        refine ⟨_, rfl, ?_⟩
        refine hK.out _ _ (S.d4 BK360.out (S.e4 BK361.out)) (fun hHeld => ?_)
        clear hK K
        refine S.nm 79 ?_
        refine S.oN 12 80 #[true, true, true, true, true, true, true, true, true, true, true, true, true, false] (fun K hK => ?_)
        refine S.go Try.func136 #[.int .i64 t364, .int .i64 t365, .int .i64 t366, .int .i64 t367] ?_
        with_reducible refine (spec_Interleave.calls kj2 t364 t365 t366 t367 t368 _ A61.out).mono ?_
        rintro e w66 ⟨rfl, hb⟩
        refine ⟨_, rfl, ?_⟩
        replace BK360 := S.kb BK360 hb
        replace BK361 := S.kb BK361 hb
        replace HB := S.sG hb
        (try clear hb)
        (try clear hb2)
        (try clear hk)
        (try clear hi)
        refine hK.out _ _ (S.d4 BK360.out (S.e4 BK361.out)) (fun hHeld => ?_)
        clear hK K
        refine S.nm 80 ?_
        refine S.pS 13 4 ?_
        refine done_ (done_of HT_.out (by kernel_rfl)) ?_
        try go_wp2
        go_ret
        exact ⟨S.eW, S.bG⟩
/-! ### spec_ArePaths: function 125 -/
def spec_ArePaths.l0 : Nat → List (S71) → Int → Option (Bool)
 | 0, _, _ => none
 | k + 1, x0, x3 => if x3 < (x0.length : Int) then (if 0 ≤ x3 then ((spec_IsPath.f ((rd_T71 x0 x3).f0) ((rd_T71 x0 x3).f1) ((rd_T71 x0 x3).f2) ((rd_T71 x0 x3).f3)).bind fun t370 => (if t370 = true then (if x3 > 0 then (if 0 ≤ (wrap64 (x3 - 1)) then (if (wrap64 (x3 - 1)) < (x0.length : Int) then (if ((rd_T71 x0 (wrap64 (x3 - 1))).f0) ≥ ((rd_T71 x0 x3).f0) then (some false) else (spec_ArePaths.l0 k x0 (wrap64 (x3 + 1)))) else (none)) else (none)) else (spec_ArePaths.l0 k x0 (wrap64 (x3 + 1)))) else (some false))) else (none)) else (some (decide ((x0.length : Int) ≤ 12)))
def spec_ArePaths.f (k : Nat) (l0 : List (S71)) : Option (Bool) := spec_ArePaths.l0 k l0 0
def spec_ArePaths.T4 : Bool × List (List Nat × List Nat) := (true, [([], []), ([], []), ([0, 1], [0, 1]), ([2], [2]), ([3], [3]), ([4], [4]), ([5, 4], [5]), ([6], [6]), ([7, 6], [6, 7]), ([8, 6, 6], [6, 8]), ([9], [9]), ([9], [9]), ([11, 9], [9, 11]), ([10, 12, 9], [9, 10, 12]), ([13, 9], [9, 13]), ([14, 9], [9, 14]), ([9], [9]), ([9], [9]), ([16, 17, 9], [9, 16, 17]), ([18, 9], [9, 18]), ([19, 9], [9, 19]), ([15, 20, 9], [9, 15, 20]), ([9, 21, 6], [6, 9, 21]), ([6, 22], [6, 22])])
def spec_ArePaths.B4 : List Nat := [0, 0, 3, 7, 15, 31, 63, 127, 255, 511, 1023, 1023, 3071, 8191, 16383, 32767, 1023, 1023, 197631, 459775, 984063, 2097151, 4194303, 8388607]
theorem spec_ArePaths.tab4 : rtab .any (opsOf Try.f125 4) = spec_ArePaths.T4 := by kernel_rfl
theorem spec_ArePaths.bits4 : waitsOk spec_ArePaths.T4.2 spec_ArePaths.B4 = true := by kernel_rfl
set_option maxHeartbeats 8000000 in
set_option maxRecDepth 100000 in
theorem spec_ArePaths.calls (k : Nat) (A0 : Option Addr) (c0 : Nat) (l0 : List (S71)) (r : Bool) (w : World) (hr0 : Kd.C k71 w A0 l0.length l0) (hc0 : l0.length ≤ c0) (h : spec_ArePaths.f k l0 = some r) :
  Calls Try.prog 125 #[.slice A0 l0.length c0] w fun e w' => e = .returned (.bool r) ∧ Below w.heap.size w w' := by
 have hu71 := Try.underlying71
 have HR0 := Aside0.mk hr0
 have HC0 := Aside0.mk hc0
 clear hr0 hc0
 have HB := Aside0.mk (Below.refl w.heap.size w)
 have H : (spec_ArePaths.l0 k l0 0) = some r := h
 clear h
 have H' := Aside0.mk H
 clear H
 go_enter Try.func125, Try.ntmps125
 go_wp2
 go_loopg [3] k (fun kq v3 w' => ∃ (x3_1 : Int), v3 = .int .i64 x3_1 ∧ Aside0 (spec_ArePaths.l0 kq l0 x3_1 = some r) ∧ Aside0 (kq ≤ k) ∧ Aside0 (Below w.heap.size w w'))
 case atStart => exact ⟨(0), S.eA, H', ⟨Nat.le_refl _⟩, ⟨S.bA⟩⟩
 case round =>
  clear H'
  obtain ⟨x3_1, rfl, HA, HK1, HB⟩ := hrel
  cases gk with
  | zero => exact absurd HA.out (by simp [spec_ArePaths.l0])
  | succ k1 =>
   have H := HA.out
   clear HA
   simp only [spec_ArePaths.l0] at H
   replace H := S.dc H; rcases H with ⟨H, c2b0⟩ | ⟨H, c2b0⟩
   ·by_cases c3 : 0 ≤ x3_1
    ·rw [if_pos c3] at H
     have c3b0 : decide (0 ≤ x3_1) = true := decide_eq_true c3
     clear c3
     replace H := S.bd H; obtain ⟨t370, A4, H⟩ := H
     (try dsimp only at H)
     replace H := S.db H; rcases H with ⟨rfl, H⟩ | ⟨rfl, H⟩
     ·by_cases c6 : x3_1 > 0
      ·rw [if_pos c6] at H
       have c6b0 : decide (0 < x3_1) = true := decide_eq_true c6
       clear c6
       obtain ⟨ji7, hji7⟩ : ∃ j_ : Int, (wrap64 (x3_1 - 1)) = j_ := ⟨_, rfl⟩
       replace H : (if 0 ≤ (ji7) then (if (ji7) < (l0.length : Int) then (if ((rd_T71 l0 (ji7)).f0) ≥ ((rd_T71 l0 x3_1).f0) then (some false) else (spec_ArePaths.l0 k1 l0 (wrap64 (x3_1 + 1)))) else (none)) else (none)) = some r := by first | (rw [hji7] at H; exact H) | (simp only [hji7] at H ⊢; exact H)
       (try rw [hji7] at A4)
       have hji7w : (IntKind.i64.wrap (x3_1 - 1)) = ji7 := (i64_w _).trans hji7
       by_cases c8 : 0 ≤ (ji7)
       ·rw [if_pos c8] at H
        have c8b0 : decide (0 ≤ (ji7)) = true := decide_eq_true c8
        clear c8
        by_cases c9 : (ji7) < (l0.length : Int)
        ·rw [if_pos c9] at H
         have c9b0 : decide ((ji7) < (l0.length : Int)) = true := decide_eq_true c9
         clear c9
         by_cases c10 : ((rd_T71 l0 (ji7)).f0) ≥ ((rd_T71 l0 x3_1).f0)
         ·rw [if_pos c10] at H
          have c10b0 : decide (((rd_T71 l0 x3_1).f0) ≤ ((rd_T71 l0 (ji7)).f0)) = true := decide_eq_true c10
          clear c10
          obtain rfl := Option.some.inj H
          try go_wp2
          replace HB := Aside0.mk (below_drew1 HB.out)
          have p369 : 0 ≤ (x3_1 : Int) := S.oD
          have q369 : x3_1 < (l0.length : Int) := S.oD
          obtain ⟨ad369, e369, hx369_0, hx369_1, hx369_2, hx369_3⟩ := at_T71 HR0.out x3_1 p369 q369
          have hw369_3 := hx369_3
          have hw369_2 := hx369_2
          have hw369_1 := hx369_1
          have hw369_0 := hx369_0
          cases e369
          replace hx369_0 := S.hb HB hx369_0
          replace hx369_1 := S.hb HB hx369_1
          replace hx369_2 := S.hb HB hx369_2
          replace hx369_3 := S.hb HB hx369_3
          replace p369 := eq_true p369
          replace q369 := eq_true q369
          have p371 : 0 ≤ ((ji7) : Int) := S.oD
          have q371 : (ji7) < (l0.length : Int) := S.oD
          obtain ⟨ad371, e371, hx371_0, hx371_1, hx371_2, hx371_3⟩ := at_T71 HR0.out (ji7) p371 q371
          have hw371_3 := hx371_3
          have hw371_2 := hx371_2
          have hw371_1 := hx371_1
          have hw371_0 := hx371_0
          obtain rfl : ad369 = ad371 := (by injection e371)
          replace hx371_0 := S.hb HB hx371_0
          replace hx371_1 := S.hb HB hx371_1
          replace hx371_2 := S.hb HB hx371_2
          replace hx371_3 := S.hb HB hx371_3
          replace p371 := eq_true p371
          replace q371 := eq_true q371
          have p372 : 0 ≤ (x3_1 : Int) := S.oD
          have q372 : x3_1 < (l0.length : Int) := S.oD
          obtain ⟨ad372, e372, hx372_0, hx372_1, hx372_2, hx372_3⟩ := at_T71 HR0.out x3_1 p372 q372
          have hw372_3 := hx372_3
          have hw372_2 := hx372_2
          have hw372_1 := hx372_1
          have hw372_0 := hx372_0
          obtain rfl : ad369 = ad372 := (by injection e372)
          replace hx372_0 := S.hb HB hx372_0
          replace hx372_1 := S.hb HB hx372_1
          replace hx372_2 := S.hb HB hx372_2
          replace hx372_3 := S.hb HB hx372_3
          replace p372 := eq_true p372
          replace q372 := eq_true q372
          refine S.st (n := 24) (ds := []) #[false, false, false, false, false, false, false, false, false, false, false, false, false, false, false, false, false, false, false, false, false, false, false, false] (fun w_ h_ => have x_ := And.intro (S.q h_ (S.hb HB hw369_0)) (And.intro (S.q h_ (S.hb HB hw369_1)) (And.intro (S.q h_ (S.hb HB hw369_2)) (And.intro (S.q h_ (S.hb HB hw369_3)) (And.intro (S.q h_ (S.hb HB hw371_0)) (And.intro (S.q h_ (S.hb HB hw371_1)) (And.intro (S.q h_ (S.hb HB hw371_2)) (And.intro (S.q h_ (S.hb HB hw371_3)) (And.intro (S.q h_ (S.hb HB hw372_0)) (And.intro (S.q h_ (S.hb HB hw372_1)) (And.intro (S.q h_ (S.hb HB hw372_2)) (S.q h_ (S.hb HB hw372_3)))))))))))); x_) (fun hHeld => ?_); refine with_tabW spec_ArePaths.tab4 spec_ArePaths.bits4 (fun HT_ HW_ => ?_)
          generalize wr.drew = w11 at HB hx369_0 hx369_1 hx369_2 hx369_3 hx371_0 hx371_1 hx371_2 hx371_3 hx372_0 hx372_1 hx372_2 hx372_3 hHeld ⊢
          refine S.pS 0 10 ?_
          refine S.pS 1 11 ?_
          refine S.pS 2 12 ?_
          refine S.tK 3 13 #[true, true, true, true, false, false, false, false, false, false, false, false, false, false, false, false, false, false, false, false, false, false, false, false] ?_
          refine S.oN 4 14 #[true, true, true, true, true, false, false, false, false, false, false, false, false, false, false, false, false, false, false, false, false, false, false, false] (fun K hK => ?_)
          refine S.go Try.func135 #[.agg #[.int .i64 ((rd_T71 l0 x3_1).f0), .int .i64 ((rd_T71 l0 x3_1).f1), .int .i64 ((rd_T71 l0 x3_1).f2), .int .i64 ((rd_T71 l0 x3_1).f3)]] ?_
          with_reducible refine (spec_IsPath.calls ((rd_T71 l0 x3_1).f0) ((rd_T71 l0 x3_1).f1) ((rd_T71 l0 x3_1).f2) ((rd_T71 l0 x3_1).f3) true _ A4.out).mono ?_
          rintro e w12 ⟨rfl, hb⟩
          refine ⟨_, rfl, ?_⟩
          replace HB := S.sA hb
          (try clear hb)
          (try clear hb2)
          (try clear hk)
          (try clear hi)
          refine hK.out _ _ ⟨(S.hb HB hw369_0 :), (S.hb HB hw369_1 :), (S.hb HB hw369_2 :), (S.hb HB hw369_3 :), (S.hb HB hw371_0 :), (S.hb HB hw371_1 :), (S.hb HB hw371_2 :), (S.hb HB hw371_3 :), (S.hb HB hw372_0 :), (S.hb HB hw372_1 :), (S.hb HB hw372_2 :), (S.hb HB hw372_3 :)⟩ (fun hHeld => ?_)
          clear hK K
          refine S.nm 14 ?_
          refine S.pS 5 15 ?_
          refine S.pS 6 16 ?_
          refine S.pS 7 17 ?_
          refine S.pS 8 18 ?_
          refine S.pS 9 19 ?_
          refine S.pS 10 20 ?_
          refine S.pS 11 21 ?_
          refine S.pS 12 22 ?_
          refine S.pS 13 23 ?_
          refine S.pS 14 24 ?_
          refine S.pS 16 26 ?_
          refine S.pS 17 27 ?_
          refine S.pS 18 28 ?_
          refine S.pS 19 29 ?_
          refine S.tK 15 25 #[true, true, true, true, true, true, true, true, true, true, true, true, true, true, true, true, true, true, true, true, false, false, false, false] ?_
          refine S.tK 20 30 #[true, true, true, true, true, true, true, true, true, true, true, true, true, true, true, true, true, true, true, true, true, false, false, false] ?_
          refine S.pS 21 31 ?_
          refine S.pS 22 32 ?_
          refine S.pS 23 33 ?_
          refine done_ (done_of HT_.out (by kernel_rfl)) ?_
          try go_wp2
          go_ret
          exact ⟨by first | rfl | (simp [errW_none, errW_some] <;> rfl) | (simp only [← hji7]; first | rfl | (simp [errW_none, errW_some] <;> rfl)) | (simp [*, errW_none, errW_some] <;> rfl), S.bA⟩
         ·rw [if_neg c10] at H
          have c10b0 : decide (((rd_T71 l0 x3_1).f0) ≤ ((rd_T71 l0 (ji7)).f0)) = false := decide_eq_false c10
          clear c10
          have H' := Aside0.mk H
          clear H
          try go_wp2
          replace HB := Aside0.mk (below_drew1 HB.out)
          have p369 : 0 ≤ (x3_1 : Int) := S.oD
          have q369 : x3_1 < (l0.length : Int) := S.oD
          obtain ⟨ad369, e369, hx369_0, hx369_1, hx369_2, hx369_3⟩ := at_T71 HR0.out x3_1 p369 q369
          have hw369_3 := hx369_3
          have hw369_2 := hx369_2
          have hw369_1 := hx369_1
          have hw369_0 := hx369_0
          cases e369
          replace hx369_0 := S.hb HB hx369_0
          replace hx369_1 := S.hb HB hx369_1
          replace hx369_2 := S.hb HB hx369_2
          replace hx369_3 := S.hb HB hx369_3
          replace p369 := eq_true p369
          replace q369 := eq_true q369
          have p371 : 0 ≤ ((ji7) : Int) := S.oD
          have q371 : (ji7) < (l0.length : Int) := S.oD
          obtain ⟨ad371, e371, hx371_0, hx371_1, hx371_2, hx371_3⟩ := at_T71 HR0.out (ji7) p371 q371
          have hw371_3 := hx371_3
          have hw371_2 := hx371_2
          have hw371_1 := hx371_1
          have hw371_0 := hx371_0
          obtain rfl : ad369 = ad371 := (by injection e371)
          replace hx371_0 := S.hb HB hx371_0
          replace hx371_1 := S.hb HB hx371_1
          replace hx371_2 := S.hb HB hx371_2
          replace hx371_3 := S.hb HB hx371_3
          replace p371 := eq_true p371
          replace q371 := eq_true q371
          have p372 : 0 ≤ (x3_1 : Int) := S.oD
          have q372 : x3_1 < (l0.length : Int) := S.oD
          obtain ⟨ad372, e372, hx372_0, hx372_1, hx372_2, hx372_3⟩ := at_T71 HR0.out x3_1 p372 q372
          have hw372_3 := hx372_3
          have hw372_2 := hx372_2
          have hw372_1 := hx372_1
          have hw372_0 := hx372_0
          obtain rfl : ad369 = ad372 := (by injection e372)
          replace hx372_0 := S.hb HB hx372_0
          replace hx372_1 := S.hb HB hx372_1
          replace hx372_2 := S.hb HB hx372_2
          replace hx372_3 := S.hb HB hx372_3
          replace p372 := eq_true p372
          replace q372 := eq_true q372
          refine S.st (n := 24) (ds := []) #[false, false, false, false, false, false, false, false, false, false, false, false, false, false, false, false, false, false, false, false, false, false, false, false] (fun w_ h_ => have x_ := And.intro (S.q h_ (S.hb HB hw369_0)) (And.intro (S.q h_ (S.hb HB hw369_1)) (And.intro (S.q h_ (S.hb HB hw369_2)) (And.intro (S.q h_ (S.hb HB hw369_3)) (And.intro (S.q h_ (S.hb HB hw371_0)) (And.intro (S.q h_ (S.hb HB hw371_1)) (And.intro (S.q h_ (S.hb HB hw371_2)) (And.intro (S.q h_ (S.hb HB hw371_3)) (And.intro (S.q h_ (S.hb HB hw372_0)) (And.intro (S.q h_ (S.hb HB hw372_1)) (And.intro (S.q h_ (S.hb HB hw372_2)) (S.q h_ (S.hb HB hw372_3)))))))))))); x_) (fun hHeld => ?_); refine with_tabW spec_ArePaths.tab4 spec_ArePaths.bits4 (fun HT_ HW_ => ?_)
          generalize wr.drew = w13 at HB hx369_0 hx369_1 hx369_2 hx369_3 hx371_0 hx371_1 hx371_2 hx371_3 hx372_0 hx372_1 hx372_2 hx372_3 hHeld ⊢
          refine S.pS 0 10 ?_
          refine S.pS 1 11 ?_
          refine S.pS 2 12 ?_
          refine S.tK 3 13 #[true, true, true, true, false, false, false, false, false, false, false, false, false, false, false, false, false, false, false, false, false, false, false, false] ?_
          refine S.oN 4 14 #[true, true, true, true, true, false, false, false, false, false, false, false, false, false, false, false, false, false, false, false, false, false, false, false] (fun K hK => ?_)
          refine S.go Try.func135 #[.agg #[.int .i64 ((rd_T71 l0 x3_1).f0), .int .i64 ((rd_T71 l0 x3_1).f1), .int .i64 ((rd_T71 l0 x3_1).f2), .int .i64 ((rd_T71 l0 x3_1).f3)]] ?_
          with_reducible refine (spec_IsPath.calls ((rd_T71 l0 x3_1).f0) ((rd_T71 l0 x3_1).f1) ((rd_T71 l0 x3_1).f2) ((rd_T71 l0 x3_1).f3) true _ A4.out).mono ?_
          rintro e w14 ⟨rfl, hb⟩
          refine ⟨_, rfl, ?_⟩
          replace HB := S.sA hb
          (try clear hb)
          (try clear hb2)
          (try clear hk)
          (try clear hi)
          refine hK.out _ _ ⟨(S.hb HB hw369_0 :), (S.hb HB hw369_1 :), (S.hb HB hw369_2 :), (S.hb HB hw369_3 :), (S.hb HB hw371_0 :), (S.hb HB hw371_1 :), (S.hb HB hw371_2 :), (S.hb HB hw371_3 :), (S.hb HB hw372_0 :), (S.hb HB hw372_1 :), (S.hb HB hw372_2 :), (S.hb HB hw372_3 :)⟩ (fun hHeld => ?_)
          clear hK K
          refine S.nm 14 ?_
          refine S.pS 5 15 ?_
          refine S.pS 6 16 ?_
          refine S.pS 7 17 ?_
          refine S.pS 8 18 ?_
          refine S.pS 9 19 ?_
          refine S.pS 10 20 ?_
          refine S.pS 11 21 ?_
          refine S.pS 12 22 ?_
          refine S.pS 13 23 ?_
          refine S.pS 14 24 ?_
          refine S.pS 16 26 ?_
          refine S.pS 17 27 ?_
          refine S.pS 18 28 ?_
          refine S.pS 19 29 ?_
          refine S.tK 15 25 #[true, true, true, true, true, true, true, true, true, true, true, true, true, true, true, true, true, true, true, true, false, false, false, false] ?_
          refine S.tK 20 30 #[true, true, true, true, true, true, true, true, true, true, true, true, true, true, true, true, true, true, true, true, true, false, false, false] ?_
          refine S.pS 21 31 ?_
          refine S.pS 22 32 ?_
          refine S.pS 23 33 ?_
          refine done_ (done_of HT_.out (by kernel_rfl)) ?_
          try go_wp2
          go_roundg k1
          case measure => have := HK1.out; omega
          case rel => exact ⟨(wrap64 (x3_1 + 1)), S.eA, H', ⟨by have := HK1.out; omega⟩, ⟨S.bA⟩⟩
        ·rw [if_neg c9] at H
         exact absurd H (by simp)
       ·rw [if_neg c8] at H
        exact absurd H (by simp)
      ·rw [if_neg c6] at H
       have c6b0 : decide (0 < x3_1) = false := decide_eq_false c6
       clear c6
       have H' := Aside0.mk H
       clear H
       try go_wp2
       replace HB := Aside0.mk (below_drew1 HB.out)
       have p369 : 0 ≤ (x3_1 : Int) := S.oD
       have q369 : x3_1 < (l0.length : Int) := S.oD
       obtain ⟨ad369, e369, hx369_0, hx369_1, hx369_2, hx369_3⟩ := at_T71 HR0.out x3_1 p369 q369
       have hw369_3 := hx369_3
       have hw369_2 := hx369_2
       have hw369_1 := hx369_1
       have hw369_0 := hx369_0
       cases e369
       replace hx369_0 := S.hb HB hx369_0
       replace hx369_1 := S.hb HB hx369_1
       replace hx369_2 := S.hb HB hx369_2
       replace hx369_3 := S.hb HB hx369_3
       replace p369 := eq_true p369
       replace q369 := eq_true q369
       refine S.st (n := 24) (ds := []) #[false, false, false, false, false, false, false, false, false, false, false, false, false, false, false, false, false, false, false, false, false, false, false, false] (fun w_ h_ => have x_ := And.intro (S.q h_ (S.hb HB hw369_0)) (And.intro (S.q h_ (S.hb HB hw369_1)) (And.intro (S.q h_ (S.hb HB hw369_2)) (S.q h_ (S.hb HB hw369_3)))); x_) (fun hHeld => ?_); refine with_tabW spec_ArePaths.tab4 spec_ArePaths.bits4 (fun HT_ HW_ => ?_)
       generalize wr.drew = w15 at HB hx369_0 hx369_1 hx369_2 hx369_3 hHeld ⊢
       refine S.pS 0 10 ?_
       refine S.pS 1 11 ?_
       refine S.pS 2 12 ?_
       refine S.tK 3 13 #[true, true, true, true, false, false, false, false, false, false, false, false, false, false, false, false, false, false, false, false, false, false, false, false] ?_
       refine S.oN 4 14 #[true, true, true, true, true, false, false, false, false, false, false, false, false, false, false, false, false, false, false, false, false, false, false, false] (fun K hK => ?_)
       refine S.go Try.func135 #[.agg #[.int .i64 ((rd_T71 l0 x3_1).f0), .int .i64 ((rd_T71 l0 x3_1).f1), .int .i64 ((rd_T71 l0 x3_1).f2), .int .i64 ((rd_T71 l0 x3_1).f3)]] ?_
       with_reducible refine (spec_IsPath.calls ((rd_T71 l0 x3_1).f0) ((rd_T71 l0 x3_1).f1) ((rd_T71 l0 x3_1).f2) ((rd_T71 l0 x3_1).f3) true _ A4.out).mono ?_
       rintro e w16 ⟨rfl, hb⟩
       refine ⟨_, rfl, ?_⟩
       replace HB := S.sA hb
       (try clear hb)
       (try clear hb2)
       (try clear hk)
       (try clear hi)
       refine hK.out _ _ ⟨(S.hb HB hw369_0 :), (S.hb HB hw369_1 :), (S.hb HB hw369_2 :), (S.hb HB hw369_3 :)⟩ (fun hHeld => ?_)
       clear hK K
       refine S.nm 14 ?_
       refine S.pS 5 15 ?_
       refine S.pS 6 16 ?_
       refine S.pS 7 17 ?_
       refine S.pS 8 18 ?_
       refine S.pS 9 19 ?_
       refine S.pU 10 20 ?_
       refine S.pU 11 21 ?_
       refine S.pU 12 22 ?_
       refine S.pU 13 23 ?_
       refine S.pU 14 24 ?_
       refine S.pU 15 25 ?_
       refine S.pU 16 26 ?_
       refine S.pU 17 27 ?_
       refine S.pU 18 28 ?_
       refine S.pU 19 29 ?_
       refine S.pU 20 30 ?_
       refine S.pU 21 31 ?_
       refine S.pS 22 32 ?_
       refine S.pS 23 33 ?_
       refine done_ (done_of HT_.out (by kernel_rfl)) ?_
       try go_wp2
       go_roundg k1
       case measure => have := HK1.out; omega
       case rel => exact ⟨(wrap64 (x3_1 + 1)), S.eA, H', ⟨by have := HK1.out; omega⟩, ⟨S.bA⟩⟩
     ·obtain rfl := Option.some.inj H
      try go_wp2
      replace HB := Aside0.mk (below_drew1 HB.out)
      have p369 : 0 ≤ (x3_1 : Int) := S.oD
      have q369 : x3_1 < (l0.length : Int) := S.oD
      obtain ⟨ad369, e369, hx369_0, hx369_1, hx369_2, hx369_3⟩ := at_T71 HR0.out x3_1 p369 q369
      have hw369_3 := hx369_3
      have hw369_2 := hx369_2
      have hw369_1 := hx369_1
      have hw369_0 := hx369_0
      cases e369
      replace hx369_0 := S.hb HB hx369_0
      replace hx369_1 := S.hb HB hx369_1
      replace hx369_2 := S.hb HB hx369_2
      replace hx369_3 := S.hb HB hx369_3
      replace p369 := eq_true p369
      replace q369 := eq_true q369
      refine S.st (n := 24) (ds := []) #[false, false, false, false, false, false, false, false, false, false, false, false, false, false, false, false, false, false, false, false, false, false, false, false] (fun w_ h_ => have x_ := And.intro (S.q h_ (S.hb HB hw369_0)) (And.intro (S.q h_ (S.hb HB hw369_1)) (And.intro (S.q h_ (S.hb HB hw369_2)) (S.q h_ (S.hb HB hw369_3)))); x_) (fun hHeld => ?_); refine with_tabW spec_ArePaths.tab4 spec_ArePaths.bits4 (fun HT_ HW_ => ?_)
      generalize wr.drew = w17 at HB hx369_0 hx369_1 hx369_2 hx369_3 hHeld ⊢
      refine S.pS 0 10 ?_
      refine S.pS 1 11 ?_
      refine S.pS 2 12 ?_
      refine S.tK 3 13 #[true, true, true, true, false, false, false, false, false, false, false, false, false, false, false, false, false, false, false, false, false, false, false, false] ?_
      refine S.oN 4 14 #[true, true, true, true, true, false, false, false, false, false, false, false, false, false, false, false, false, false, false, false, false, false, false, false] (fun K hK => ?_)
      refine S.go Try.func135 #[.agg #[.int .i64 ((rd_T71 l0 x3_1).f0), .int .i64 ((rd_T71 l0 x3_1).f1), .int .i64 ((rd_T71 l0 x3_1).f2), .int .i64 ((rd_T71 l0 x3_1).f3)]] ?_
      with_reducible refine (spec_IsPath.calls ((rd_T71 l0 x3_1).f0) ((rd_T71 l0 x3_1).f1) ((rd_T71 l0 x3_1).f2) ((rd_T71 l0 x3_1).f3) false _ A4.out).mono ?_
      rintro e w18 ⟨rfl, hb⟩
      refine ⟨_, rfl, ?_⟩
      replace HB := S.sA hb
      (try clear hb)
      (try clear hb2)
      (try clear hk)
      (try clear hi)
      refine hK.out _ _ ⟨(S.hb HB hw369_0 :), (S.hb HB hw369_1 :), (S.hb HB hw369_2 :), (S.hb HB hw369_3 :)⟩ (fun hHeld => ?_)
      clear hK K
      refine S.nm 14 ?_
      refine S.pS 5 15 ?_
      refine S.pS 6 16 ?_
      refine S.pU 7 17 ?_
      refine S.pU 8 18 ?_
      refine S.pU 9 19 ?_
      refine S.pU 10 20 ?_
      refine S.pU 11 21 ?_
      refine S.pU 12 22 ?_
      refine S.pU 13 23 ?_
      refine S.pU 14 24 ?_
      refine S.pU 15 25 ?_
      refine S.pU 16 26 ?_
      refine S.pU 17 27 ?_
      refine S.pU 18 28 ?_
      refine S.pU 19 29 ?_
      refine S.pU 20 30 ?_
      refine S.pU 21 31 ?_
      refine S.pU 22 32 ?_
      refine S.pS 23 33 ?_
      refine done_ (done_of HT_.out (by kernel_rfl)) ?_
      try go_wp2
      go_ret
      exact ⟨S.eW, S.bA⟩
    ·rw [if_neg c3] at H
     exact absurd H (by simp)
   ·obtain rfl := Option.some.inj H
    go_wp2
    go_ret
    exact ⟨S.eW, S.bA⟩
/-! ### spec_IsTogether: function 99 -/
mutual
def spec_IsTogether.l0 : Nat → List (S71) → List Int → Int → Option (Bool)
 | 0, _, _, _ => none
 | k + 1, x0, x1, x5 => if x5 < (x1.length : Int) then (if 0 ≤ x5 then ((spec_FindPath.f k x0 (rd x1 x5)).bind fun t375 => (if t375 < 0 then (spec_IsTogether.j1 k x0 x1 x5 t375 true) else (if x5 > 0 then (if 0 ≤ (wrap64 (x5 - 1)) then (if (wrap64 (x5 - 1)) < (x1.length : Int) then (spec_IsTogether.j1 k x0 x1 x5 t375 (decide ((rd x1 (wrap64 (x5 - 1))) ≥ (rd x1 x5)))) else (none)) else (none)) else (spec_IsTogether.j1 k x0 x1 x5 t375 false)))) else (none)) else ((spec_ArePaths.f k x0).bind fun t373 => (some t373))
def spec_IsTogether.j1 : Nat → List (S71) → List Int → Int → Int → Bool → Option (Bool)
 | 0, _, _, _, _, _ => none
 | k + 1, x0, x1, x5, x6, x37 => if x37 = true then (some false) else (spec_IsTogether.l1 k x0 x1 x5 x6 0)
def spec_IsTogether.l1 : Nat → List (S71) → List Int → Int → Int → Int → Option (Bool)
 | 0, _, _, _, _, _ => none
 | k + 1, x0, x1, x5, x6, x7 => if x7 < x5 then (if 0 ≤ x6 then (if x6 < (x0.length : Int) then (if 0 ≤ x7 then (if x7 < (x1.length : Int) then ((spec_FindPath.f k x0 (rd x1 x7)).bind fun t380 => (if 0 ≤ t380 then (if t380 < (x0.length : Int) then ((spec_Conflict.f k ((rd_T71 x0 x6).f0) ((rd_T71 x0 x6).f1) ((rd_T71 x0 x6).f2) ((rd_T71 x0 x6).f3) ((rd_T71 x0 t380).f0) ((rd_T71 x0 t380).f1) ((rd_T71 x0 t380).f2) ((rd_T71 x0 t380).f3)).bind fun t382 => (if t382 = true then (some false) else (spec_IsTogether.l1 k x0 x1 x5 x6 (wrap64 (x7 + 1))))) else (none)) else (none))) else (none)) else (none)) else (none)) else (none)) else (spec_IsTogether.l0 k x0 x1 (wrap64 (x5 + 1)))
end
def spec_IsTogether.f (k : Nat) (l0 : List (S71)) (l1 : List Int) : Option (Bool) := spec_IsTogether.l0 k l0 l1 0
def spec_IsTogether.T5 : Bool × List (List Nat × List Nat) := (true, [([], []), ([0], [0]), ([1], [1]), ([2], [2]), ([3, 2], [2, 3]), ([4, 2, 2], [2, 4]), ([5], [5]), ([5], [5]), ([7, 5], [5, 7]), ([6, 8, 5], [5, 6, 8]), ([9, 5], [5, 9]), ([5], [5]), ([5], [5]), ([11, 12, 5], [5, 11, 12]), ([13, 5], [5, 13]), ([10, 14, 5], [5, 10, 14]), ([5, 15, 2], [2, 5, 15]), ([2, 16], [2, 16])])
def spec_IsTogether.B5 : List Nat := [0, 1, 3, 7, 15, 31, 63, 63, 191, 511, 1023, 63, 63, 6207, 14399, 32767, 65535, 131071]
theorem spec_IsTogether.tab5 : rtab .any (opsOf Try.f99 5) = spec_IsTogether.T5 := by kernel_rfl
theorem spec_IsTogether.bits5 : waitsOk spec_IsTogether.T5.2 spec_IsTogether.B5 = true := by kernel_rfl
def spec_IsTogether.T10 : Bool × List (List Nat × List Nat) := (true, [([], []), ([], []), ([0, 1], [0, 1]), ([2], [2]), ([], []), ([], []), ([], []), ([], []), ([6, 7], [6, 7]), ([8], [8]), ([5, 9], [5, 9]), ([4, 10], [4, 10]), ([11], [11]), ([3, 12, 10], [3, 12])])
def spec_IsTogether.B10 : List Nat := [0, 0, 3, 7, 0, 0, 0, 0, 192, 448, 992, 2032, 4080, 8191]
theorem spec_IsTogether.tab10 : rtab .any (opsOf Try.f99 10) = spec_IsTogether.T10 := by kernel_rfl
theorem spec_IsTogether.bits10 : waitsOk spec_IsTogether.T10.2 spec_IsTogether.B10 = true := by kernel_rfl
set_option maxHeartbeats 8000000 in
set_option maxRecDepth 100000 in
theorem spec_IsTogether.calls (k : Nat) (A0 : Option Addr) (c0 : Nat) (l0 : List (S71)) (A1 : Option Addr) (c1 : Nat) (l1 : List Int) (r : Bool) (w : World) (hr0 : Kd.C k71 w A0 l0.length l0) (hc0 : l0.length ≤ c0) (hr1 : Kd.C (Kd.int .i64) w A1 l1.length l1) (hc1 : l1.length ≤ c1) (h : spec_IsTogether.f k l0 l1 = some r) :
  Calls Try.prog 99 #[.slice A0 l0.length c0, .slice A1 l1.length c1] w fun e w' => e = .returned (.bool r) ∧ Below w.heap.size w w' := by
 have hu71 := Try.underlying71
 have HR0 := Aside0.mk hr0
 have HC0 := Aside0.mk hc0
 clear hr0 hc0
 have HR1 := Aside0.mk hr1
 have HC1 := Aside0.mk hc1
 clear hr1 hc1
 have HB := Aside0.mk (Below.refl w.heap.size w)
 have H : (spec_IsTogether.l0 k l0 l1 0) = some r := h
 clear h
 have H' := Aside0.mk H
 clear H
 go_enter Try.func99, Try.ntmps99
 go_wp2
 go_loopg [5] k (fun kq v5 w' => ∃ (x5_1 : Int), v5 = .int .i64 x5_1 ∧ Aside0 (spec_IsTogether.l0 kq l0 l1 x5_1 = some r) ∧ Aside0 (kq ≤ k) ∧ Aside0 (Below w.heap.size w w'))
 case atStart => exact ⟨(0), S.eA, H', ⟨Nat.le_refl _⟩, ⟨S.bA⟩⟩
 case round =>
  clear H'
  try clear c1
  obtain ⟨x5_1, rfl, HA, HK1, HB⟩ := hrel
  cases gk with
  | zero => exact absurd HA.out (by simp [spec_IsTogether.l0])
  | succ k1 =>
   have H := HA.out
   clear HA
   simp only [spec_IsTogether.l0] at H
   replace H := S.dc H; rcases H with ⟨H, c3b0⟩ | ⟨H, c3b0⟩
   ·by_cases c4 : 0 ≤ x5_1
    ·rw [if_pos c4] at H
     have c4b0 : decide (0 ≤ x5_1) = true := decide_eq_true c4
     clear c4
     replace H := S.bd H; obtain ⟨t375, A5, H⟩ := H
     (try dsimp only at H)
     have HC6 := Aside0.mk H
     clear H
     have p374 : 0 ≤ (x5_1 : Int) := S.oD
     have q374 : x5_1 < (l1.length : Int) := S.oD
     obtain ⟨ad374, e374, hx374_0⟩ := Kd.at_int HR1.out x5_1 p374 q374
     cases e374
     replace hx374_0 := S.hb HB hx374_0
     replace p374 := eq_true p374
     replace q374 := eq_true q374
     go_upto_region 5 with (first | ((with_reducible refine gate_callee (f := 96) rfl ?_); refine S.gL (some 19) Try.func96 #[.slice A0 l0.length c0, .int .i64 (rd l1 x5_1)] ?_; (with_reducible refine (spec_FindPath.calls k1 _ _ l0 (rd l1 x5_1) t375 _ ?s1 HC0.out A5.out).mono ?_); (case s1 => exact S.cA HR0.out); rintro e w' ⟨rfl, ⟨nd, rfl⟩⟩; refine ⟨_, rfl, ?_⟩))
     have nB_ := Aside0.mk (pw_below_drewN HB.out nd)
     clear HB
     have HB := nB_
     clear nB_
     generalize wr.drewN nd = wq at HB ⊢
     (try simp only [Act.put, List.setIfInBounds_toArray, List.set_cons_zero, List.set_cons_succ])
     go_cut [37] (fun v37 wc => ∃ (kq : Nat) (x37_5 : Bool), v37 = .bool x37_5 ∧ Aside0 (spec_IsTogether.j1 kq l0 l1 x5_1 t375 x37_5 = some r) ∧ Aside0 (kq ≤ k1) ∧ Aside0 (Below w.heap.size w wc))
     case first =>
      have H := HC6.out
      clear HC6
      replace H := S.dc H; rcases H with ⟨H, c7b0⟩ | ⟨H, c7b0⟩
      ·(first | rw [c7b0] | (simp only [i64_w, i32_w]; rw [c7b0]) | skip)
       have H' := Aside0.mk H
       clear H
       try go_wp2
       replace HB := Aside0.mk (below_drew1 HB.out)
       refine start_ (n := 18) (S := fun w' => True) (ds := []) #[false, false, false, false, false, false, false, false, false, false, false, false, false, false, false, false, false, false] (by kernel_rfl) rfl rfl trivial (fun hHeld => ?_); refine with_tabW spec_IsTogether.tab5 spec_IsTogether.bits5 (fun HT_ HW_ => ?_)
       generalize wq.drew = w8 at HB hHeld ⊢
       refine S.pS 0 20 ?_
       refine S.pS 1 21 ?_
       refine S.pS 2 22 ?_
       refine S.pU 3 23 ?_
       refine S.pU 4 24 ?_
       refine S.pU 5 25 ?_
       refine S.pU 6 26 ?_
       refine S.pU 7 27 ?_
       refine S.pU 8 28 ?_
       refine S.pU 9 29 ?_
       refine S.pU 10 30 ?_
       refine S.pU 11 31 ?_
       refine S.pU 12 32 ?_
       refine S.pU 13 33 ?_
       refine S.pU 14 34 ?_
       refine S.pU 15 35 ?_
       refine S.pU 16 36 ?_
       refine S.pS 17 37 ?_
       refine done_ (done_of HT_.out (by kernel_rfl)) ?_
       try go_wp2
       go_meet
       case rel => exact ⟨_, (true), S.eA, H', ⟨by have := HK1.out; first | omega | exact Nat.le_refl _⟩, ⟨S.bA⟩⟩
      ·(first | rw [c7b0] | (simp only [i64_w, i32_w]; rw [c7b0]) | skip)
       by_cases c9 : x5_1 > 0
       ·rw [if_pos c9] at H
        have c9b0 : decide (0 < x5_1) = true := decide_eq_true c9
        clear c9
        obtain ⟨ji10, hji10⟩ : ∃ j_ : Int, (wrap64 (x5_1 - 1)) = j_ := ⟨_, rfl⟩
        replace H : (if 0 ≤ (ji10) then (if (ji10) < (l1.length : Int) then (spec_IsTogether.j1 k1 l0 l1 x5_1 t375 (decide ((rd l1 (ji10)) ≥ (rd l1 x5_1)))) else (none)) else (none)) = some r := by first | (rw [hji10] at H; exact H) | (simp only [hji10] at H ⊢; exact H)
        have hji10w : (IntKind.i64.wrap (x5_1 - 1)) = ji10 := (i64_w _).trans hji10
        by_cases c11 : 0 ≤ (ji10)
        ·rw [if_pos c11] at H
         have c11b0 : decide (0 ≤ (ji10)) = true := decide_eq_true c11
         clear c11
         by_cases c12 : (ji10) < (l1.length : Int)
         ·rw [if_pos c12] at H
          have c12b0 : decide ((ji10) < (l1.length : Int)) = true := decide_eq_true c12
          clear c12
          have H' := Aside0.mk H
          clear H
          try go_wp2
          replace HB := Aside0.mk (below_drew1 HB.out)
          have p376 : 0 ≤ ((ji10) : Int) := S.oD
          have q376 : (ji10) < (l1.length : Int) := S.oD
          obtain ⟨ad376, e376, hx376_0⟩ := Kd.at_int HR1.out (ji10) p376 q376
          have hw376_0 := hx376_0
          obtain rfl : ad374 = ad376 := (by injection e376)
          replace hx376_0 := S.hb HB hx376_0
          replace p376 := eq_true p376
          replace q376 := eq_true q376
          have p377 : 0 ≤ (x5_1 : Int) := S.oD
          have q377 : x5_1 < (l1.length : Int) := S.oD
          obtain ⟨ad377, e377, hx377_0⟩ := Kd.at_int HR1.out x5_1 p377 q377
          have hw377_0 := hx377_0
          obtain rfl : ad374 = ad377 := (by injection e377)
          replace hx377_0 := S.hb HB hx377_0
          replace p377 := eq_true p377
          replace q377 := eq_true q377
          refine S.st (n := 18) (ds := []) #[false, false, false, false, false, false, false, false, false, false, false, false, false, false, false, false, false, false] (fun w_ h_ => have x_ := And.intro (S.q h_ (S.hb HB hw376_0)) (S.q h_ (S.hb HB hw377_0)); x_) (fun hHeld => ?_); refine with_tabW spec_IsTogether.tab5 spec_IsTogether.bits5 (fun HT_ HW_ => ?_)
          generalize wr.drew = w13 at HB hx376_0 hx377_0 hHeld ⊢
          refine S.pS 0 20 ?_
          refine S.pS 1 21 ?_
          refine S.pS 2 22 ?_
          refine S.pS 3 23 ?_
          refine S.pS 4 24 ?_
          refine S.pS 5 25 ?_
          refine S.pS 6 26 ?_
          refine S.pS 7 27 ?_
          refine S.pS 8 28 ?_
          refine S.pS 9 29 ?_
          refine S.pS 11 31 ?_
          refine S.pS 12 32 ?_
          refine S.pS 13 33 ?_
          refine S.tK 10 30 #[true, true, true, true, true, true, true, true, true, true, true, true, true, true, false, false, false, false] ?_
          refine S.tK 14 34 #[true, true, true, true, true, true, true, true, true, true, true, true, true, true, true, false, false, false] ?_
          refine S.pS 15 35 ?_
          refine S.pS 16 36 ?_
          refine S.pS 17 37 ?_
          refine done_ (done_of HT_.out (by kernel_rfl)) ?_
          try go_wp2
          go_meet
          case rel => exact ⟨_, (decide ((rd l1 (ji10)) ≥ (rd l1 x5_1))), (by first | rfl | (simp; done) | (simp only [← hji10] <;> (first | rfl | simp)) | (simp [*]; done)), H', ⟨by have := HK1.out; first | omega | exact Nat.le_refl _⟩, ⟨S.bA⟩⟩
         ·rw [if_neg c12] at H
          exact absurd H (by simp)
        ·rw [if_neg c11] at H
         exact absurd H (by simp)
       ·rw [if_neg c9] at H
        have c9b0 : decide (0 < x5_1) = false := decide_eq_false c9
        clear c9
        have H' := Aside0.mk H
        clear H
        try go_wp2
        replace HB := Aside0.mk (below_drew1 HB.out)
        refine start_ (n := 18) (S := fun w' => True) (ds := []) #[false, false, false, false, false, false, false, false, false, false, false, false, false, false, false, false, false, false] (by kernel_rfl) rfl rfl trivial (fun hHeld => ?_); refine with_tabW spec_IsTogether.tab5 spec_IsTogether.bits5 (fun HT_ HW_ => ?_)
        generalize wq.drew = w14 at HB hHeld ⊢
        refine S.pS 0 20 ?_
        refine S.pS 1 21 ?_
        refine S.pS 2 22 ?_
        refine S.pS 3 23 ?_
        refine S.pS 4 24 ?_
        refine S.pS 5 25 ?_
        refine S.pU 6 26 ?_
        refine S.pU 7 27 ?_
        refine S.pU 8 28 ?_
        refine S.pU 9 29 ?_
        refine S.pU 10 30 ?_
        refine S.pU 11 31 ?_
        refine S.pU 12 32 ?_
        refine S.pU 13 33 ?_
        refine S.pU 14 34 ?_
        refine S.pU 15 35 ?_
        refine S.pS 16 36 ?_
        refine S.pS 17 37 ?_
        refine done_ (done_of HT_.out (by kernel_rfl)) ?_
        try go_wp2
        go_meet
        case rel => exact ⟨_, (false), S.eA, H', ⟨by have := HK1.out; first | omega | exact Nat.le_refl _⟩, ⟨S.bA⟩⟩
     case rest =>
      clear HC6
      try clear c1
      try clear c3
      try clear c3b0
      try clear c4
      try clear c4b0
      try clear hx374_0
      try clear p374
      try clear q374
      obtain ⟨kq, x37_5, rfl, HA, HJ5, HB⟩ := hcut
      cases kq with
      | zero => exact absurd HA.out (by simp [spec_IsTogether.j1])
      | succ kj5 =>
       have H := HA.out
       clear HA
       simp only [spec_IsTogether.j1] at H
       replace H := S.db H; rcases H with ⟨rfl, H⟩ | ⟨rfl, H⟩
       ·obtain rfl := Option.some.inj H
        go_wp2
        go_ret
        exact ⟨S.eW, S.bA⟩
       ·have H' := Aside0.mk H
        clear H
        go_wp2
        go_loopg [7] kj5 (fun kq v7 w' => ∃ (x7_3 : Int), v7 = .int .i64 x7_3 ∧ Aside0 (spec_IsTogether.l1 kq l0 l1 x5_1 t375 x7_3 = some r) ∧ Aside0 (kq ≤ kj5) ∧ Aside0 (Below w.heap.size w w'))
        case atStart => exact ⟨(0), S.eA, H', ⟨Nat.le_refl _⟩, ⟨S.bA⟩⟩
        case round =>
         clear H'
         try clear c1
         try clear c3
         try clear c3b0
         try clear c4
         try clear c4b0
         try clear c15
         try clear hx374_0
         try clear p374
         try clear q374
         obtain ⟨x7_3, rfl, HA, HK3, HB⟩ := hrel
         cases gk with
         | zero => exact absurd HA.out (by simp [spec_IsTogether.l1])
         | succ k3 =>
          have H := HA.out
          clear HA
          simp only [spec_IsTogether.l1] at H
          replace H := S.dc H; rcases H with ⟨H, c16b0⟩ | ⟨H, c16b0⟩
          ·by_cases c17 : 0 ≤ t375
           ·rw [if_pos c17] at H
            have c17b0 : decide (0 ≤ t375) = true := decide_eq_true c17
            clear c17
            by_cases c18 : t375 < (l0.length : Int)
            ·rw [if_pos c18] at H
             have c18b0 : decide (t375 < (l0.length : Int)) = true := decide_eq_true c18
             clear c18
             by_cases c19 : 0 ≤ x7_3
             ·rw [if_pos c19] at H
              have c19b0 : decide (0 ≤ x7_3) = true := decide_eq_true c19
              clear c19
              by_cases c20 : x7_3 < (l1.length : Int)
              ·rw [if_pos c20] at H
               have c20b0 : decide (x7_3 < (l1.length : Int)) = true := decide_eq_true c20
               clear c20
               replace H := S.bd H; obtain ⟨t380, A21, H⟩ := H
               (try dsimp only at H)
               by_cases c22 : 0 ≤ t380
               ·rw [if_pos c22] at H
                have c22b0 : decide (0 ≤ t380) = true := decide_eq_true c22
                clear c22
                by_cases c23 : t380 < (l0.length : Int)
                ·rw [if_pos c23] at H
                 have c23b0 : decide (t380 < (l0.length : Int)) = true := decide_eq_true c23
                 clear c23
                 replace H := S.bd H; obtain ⟨t382, A24, H⟩ := H
                 (try dsimp only at H)
                 replace H := S.db H; rcases H with ⟨rfl, H⟩ | ⟨rfl, H⟩
                 ·obtain rfl := Option.some.inj H
                  try go_wp2
                  replace HB := Aside0.mk (below_drew1 HB.out)
                  have p378 : 0 ≤ (t375 : Int) := S.oD
                  have q378 : t375 < (l0.length : Int) := S.oD
                  obtain ⟨ad378, e378, hx378_0, hx378_1, hx378_2, hx378_3⟩ := at_T71 HR0.out t375 p378 q378
                  have hw378_3 := hx378_3
                  have hw378_2 := hx378_2
                  have hw378_1 := hx378_1
                  have hw378_0 := hx378_0
                  cases e378
                  replace hx378_0 := S.hb HB hx378_0
                  replace hx378_1 := S.hb HB hx378_1
                  replace hx378_2 := S.hb HB hx378_2
                  replace hx378_3 := S.hb HB hx378_3
                  replace p378 := eq_true p378
                  replace q378 := eq_true q378
                  have p379 : 0 ≤ (x7_3 : Int) := S.oD
                  have q379 : x7_3 < (l1.length : Int) := S.oD
                  obtain ⟨ad379, e379, hx379_0⟩ := Kd.at_int HR1.out x7_3 p379 q379
                  have hw379_0 := hx379_0
                  obtain rfl : ad374 = ad379 := (by injection e379)
                  replace hx379_0 := S.hb HB hx379_0
                  replace p379 := eq_true p379
                  replace q379 := eq_true q379
                  have p381 : 0 ≤ (t380 : Int) := S.oD
                  have q381 : t380 < (l0.length : Int) := S.oD
                  obtain ⟨ad381, e381, hx381_0, hx381_1, hx381_2, hx381_3⟩ := at_T71 HR0.out t380 p381 q381
                  have hw381_3 := hx381_3
                  have hw381_2 := hx381_2
                  have hw381_1 := hx381_1
                  have hw381_0 := hx381_0
                  obtain rfl : ad378 = ad381 := (by injection e381)
                  replace hx381_0 := S.hb HB hx381_0
                  replace hx381_1 := S.hb HB hx381_1
                  replace hx381_2 := S.hb HB hx381_2
                  replace hx381_3 := S.hb HB hx381_3
                  replace p381 := eq_true p381
                  replace q381 := eq_true q381
                  refine S.st (n := 14) (ds := []) #[false, false, false, false, false, false, false, false, false, false, false, false, false, false] (fun w_ h_ => have x_ := And.intro (S.q h_ (S.hb HB hw378_0)) (And.intro (S.q h_ (S.hb HB hw378_1)) (And.intro (S.q h_ (S.hb HB hw378_2)) (And.intro (S.q h_ (S.hb HB hw378_3)) (And.intro (S.q h_ (S.hb HB hw379_0)) (And.intro (S.q h_ (S.hb HB hw381_0)) (And.intro (S.q h_ (S.hb HB hw381_1)) (And.intro (S.q h_ (S.hb HB hw381_2)) (S.q h_ (S.hb HB hw381_3))))))))); x_) (fun hHeld => ?_); refine with_tabW spec_IsTogether.tab10 spec_IsTogether.bits10 (fun HT_ HW_ => ?_)
                  generalize wr.drew = w26 at HB hx378_0 hx378_1 hx378_2 hx378_3 hx379_0 hx381_0 hx381_1 hx381_2 hx381_3 hHeld ⊢
                  refine S.pS 0 43 ?_
                  refine S.pS 1 44 ?_
                  refine S.pS 2 45 ?_
                  refine S.pS 4 47 ?_
                  refine S.pS 5 48 ?_
                  refine S.pS 6 49 ?_
                  refine S.pS 7 50 ?_
                  refine S.pS 8 51 ?_
                  refine S.tK 3 46 #[true, true, true, true, true, true, true, true, true, false, false, false, false, false] ?_
                  refine S.tK 9 52 #[true, true, true, true, true, true, true, true, true, true, false, false, false, false] ?_
                  refine S.oN 10 53 #[true, true, true, true, true, true, true, true, true, true, true, false, false, false] (fun K hK => ?_)
                  refine S.go Try.func96 #[.slice (some ad378) l0.length c0, .int .i64 (rd l1 x7_3)] ?_
                  with_reducible refine (spec_FindPath.calls k3 _ _ l0 (rd l1 x7_3) t380 _ ?s1 ?s2 A21.out).mono ?_
                  (case s1 => exact S.cA HR0.out)
                  (case s2 => exact HC0.out)
                  rintro e w' ⟨rfl, ⟨nd, rfl⟩⟩
                  refine ⟨_, rfl, ?_⟩
                  refine hK.out _ _ ⟨(S.hb HB hw378_0 :), (S.hb HB hw378_1 :), (S.hb HB hw378_2 :), (S.hb HB hw378_3 :), (S.hb HB hw379_0 :), (S.hb HB hw381_0 :), (S.hb HB hw381_1 :), (S.hb HB hw381_2 :), (S.hb HB hw381_3 :)⟩ (fun hHeld => ?_)
                  clear hK K
                  refine S.nm 53 ?_
                  refine S.pS 11 54 ?_
                  refine S.tK 12 55 #[true, true, true, true, true, true, true, true, true, true, true, true, true, false] ?_
                  refine S.oN 13 56 #[true, true, true, true, true, true, true, true, true, true, true, true, true, true] (fun K hK => ?_)
                  refine S.go Try.func124 #[.agg #[.int .i64 ((rd_T71 l0 t375).f0), .int .i64 ((rd_T71 l0 t375).f1), .int .i64 ((rd_T71 l0 t375).f2), .int .i64 ((rd_T71 l0 t375).f3)], .agg #[.int .i64 ((rd_T71 l0 t380).f0), .int .i64 ((rd_T71 l0 t380).f1), .int .i64 ((rd_T71 l0 t380).f2), .int .i64 ((rd_T71 l0 t380).f3)]] ?_
                  with_reducible refine (spec_Conflict.calls k3 ((rd_T71 l0 t375).f0) ((rd_T71 l0 t375).f1) ((rd_T71 l0 t375).f2) ((rd_T71 l0 t375).f3) ((rd_T71 l0 t380).f0) ((rd_T71 l0 t380).f1) ((rd_T71 l0 t380).f2) ((rd_T71 l0 t380).f3) true _ A24.out).mono ?_
                  rintro e w27 ⟨rfl, hb⟩
                  refine ⟨_, rfl, ?_⟩
                  replace HB := S.sA hb
                  (try clear hb)
                  (try clear hb2)
                  (try clear hk)
                  (try clear hi)
                  refine hK.out _ _ ⟨(S.hb HB hw378_0 :), (S.hb HB hw378_1 :), (S.hb HB hw378_2 :), (S.hb HB hw378_3 :), (S.hb HB hw379_0 :), (S.hb HB hw381_0 :), (S.hb HB hw381_1 :), (S.hb HB hw381_2 :), (S.hb HB hw381_3 :)⟩ (fun hHeld => ?_)
                  clear hK K
                  refine S.nm 56 ?_
                  refine done_ (done_of HT_.out (by kernel_rfl)) ?_
                  try go_wp2
                  go_ret
                  exact ⟨S.eW, S.bA⟩
                 ·have H' := Aside0.mk H
                  clear H
                  try go_wp2
                  replace HB := Aside0.mk (below_drew1 HB.out)
                  have p378 : 0 ≤ (t375 : Int) := S.oD
                  have q378 : t375 < (l0.length : Int) := S.oD
                  obtain ⟨ad378, e378, hx378_0, hx378_1, hx378_2, hx378_3⟩ := at_T71 HR0.out t375 p378 q378
                  have hw378_3 := hx378_3
                  have hw378_2 := hx378_2
                  have hw378_1 := hx378_1
                  have hw378_0 := hx378_0
                  cases e378
                  replace hx378_0 := S.hb HB hx378_0
                  replace hx378_1 := S.hb HB hx378_1
                  replace hx378_2 := S.hb HB hx378_2
                  replace hx378_3 := S.hb HB hx378_3
                  replace p378 := eq_true p378
                  replace q378 := eq_true q378
                  have p379 : 0 ≤ (x7_3 : Int) := S.oD
                  have q379 : x7_3 < (l1.length : Int) := S.oD
                  obtain ⟨ad379, e379, hx379_0⟩ := Kd.at_int HR1.out x7_3 p379 q379
                  have hw379_0 := hx379_0
                  obtain rfl : ad374 = ad379 := (by injection e379)
                  replace hx379_0 := S.hb HB hx379_0
                  replace p379 := eq_true p379
                  replace q379 := eq_true q379
                  have p381 : 0 ≤ (t380 : Int) := S.oD
                  have q381 : t380 < (l0.length : Int) := S.oD
                  obtain ⟨ad381, e381, hx381_0, hx381_1, hx381_2, hx381_3⟩ := at_T71 HR0.out t380 p381 q381
                  have hw381_3 := hx381_3
                  have hw381_2 := hx381_2
                  have hw381_1 := hx381_1
                  have hw381_0 := hx381_0
                  obtain rfl : ad378 = ad381 := (by injection e381)
                  replace hx381_0 := S.hb HB hx381_0
                  replace hx381_1 := S.hb HB hx381_1
                  replace hx381_2 := S.hb HB hx381_2
                  replace hx381_3 := S.hb HB hx381_3
                  replace p381 := eq_true p381
                  replace q381 := eq_true q381
                  refine S.st (n := 14) (ds := []) #[false, false, false, false, false, false, false, false, false, false, false, false, false, false] (fun w_ h_ => have x_ := And.intro (S.q h_ (S.hb HB hw378_0)) (And.intro (S.q h_ (S.hb HB hw378_1)) (And.intro (S.q h_ (S.hb HB hw378_2)) (And.intro (S.q h_ (S.hb HB hw378_3)) (And.intro (S.q h_ (S.hb HB hw379_0)) (And.intro (S.q h_ (S.hb HB hw381_0)) (And.intro (S.q h_ (S.hb HB hw381_1)) (And.intro (S.q h_ (S.hb HB hw381_2)) (S.q h_ (S.hb HB hw381_3))))))))); x_) (fun hHeld => ?_); refine with_tabW spec_IsTogether.tab10 spec_IsTogether.bits10 (fun HT_ HW_ => ?_)
                  generalize wr.drew = w28 at HB hx378_0 hx378_1 hx378_2 hx378_3 hx379_0 hx381_0 hx381_1 hx381_2 hx381_3 hHeld ⊢
                  refine S.pS 0 43 ?_
                  refine S.pS 1 44 ?_
                  refine S.pS 2 45 ?_
                  refine S.pS 4 47 ?_
                  refine S.pS 5 48 ?_
                  refine S.pS 6 49 ?_
                  refine S.pS 7 50 ?_
                  refine S.pS 8 51 ?_
                  refine S.tK 3 46 #[true, true, true, true, true, true, true, true, true, false, false, false, false, false] ?_
                  refine S.tK 9 52 #[true, true, true, true, true, true, true, true, true, true, false, false, false, false] ?_
                  refine S.oN 10 53 #[true, true, true, true, true, true, true, true, true, true, true, false, false, false] (fun K hK => ?_)
                  refine S.go Try.func96 #[.slice (some ad378) l0.length c0, .int .i64 (rd l1 x7_3)] ?_
                  with_reducible refine (spec_FindPath.calls k3 _ _ l0 (rd l1 x7_3) t380 _ ?s1 ?s2 A21.out).mono ?_
                  (case s1 => exact S.cA HR0.out)
                  (case s2 => exact HC0.out)
                  rintro e w' ⟨rfl, ⟨nd, rfl⟩⟩
                  refine ⟨_, rfl, ?_⟩
                  refine hK.out _ _ ⟨(S.hb HB hw378_0 :), (S.hb HB hw378_1 :), (S.hb HB hw378_2 :), (S.hb HB hw378_3 :), (S.hb HB hw379_0 :), (S.hb HB hw381_0 :), (S.hb HB hw381_1 :), (S.hb HB hw381_2 :), (S.hb HB hw381_3 :)⟩ (fun hHeld => ?_)
                  clear hK K
                  refine S.nm 53 ?_
                  refine S.pS 11 54 ?_
                  refine S.tK 12 55 #[true, true, true, true, true, true, true, true, true, true, true, true, true, false] ?_
                  refine S.oN 13 56 #[true, true, true, true, true, true, true, true, true, true, true, true, true, true] (fun K hK => ?_)
                  refine S.go Try.func124 #[.agg #[.int .i64 ((rd_T71 l0 t375).f0), .int .i64 ((rd_T71 l0 t375).f1), .int .i64 ((rd_T71 l0 t375).f2), .int .i64 ((rd_T71 l0 t375).f3)], .agg #[.int .i64 ((rd_T71 l0 t380).f0), .int .i64 ((rd_T71 l0 t380).f1), .int .i64 ((rd_T71 l0 t380).f2), .int .i64 ((rd_T71 l0 t380).f3)]] ?_
                  with_reducible refine (spec_Conflict.calls k3 ((rd_T71 l0 t375).f0) ((rd_T71 l0 t375).f1) ((rd_T71 l0 t375).f2) ((rd_T71 l0 t375).f3) ((rd_T71 l0 t380).f0) ((rd_T71 l0 t380).f1) ((rd_T71 l0 t380).f2) ((rd_T71 l0 t380).f3) false _ A24.out).mono ?_
                  rintro e w29 ⟨rfl, hb⟩
                  refine ⟨_, rfl, ?_⟩
                  replace HB := S.sA hb
                  (try clear hb)
                  (try clear hb2)
                  (try clear hk)
                  (try clear hi)
                  refine hK.out _ _ ⟨(S.hb HB hw378_0 :), (S.hb HB hw378_1 :), (S.hb HB hw378_2 :), (S.hb HB hw378_3 :), (S.hb HB hw379_0 :), (S.hb HB hw381_0 :), (S.hb HB hw381_1 :), (S.hb HB hw381_2 :), (S.hb HB hw381_3 :)⟩ (fun hHeld => ?_)
                  clear hK K
                  refine S.nm 56 ?_
                  refine done_ (done_of HT_.out (by kernel_rfl)) ?_
                  try go_wp2
                  go_roundg k3
                  case measure => have := HK1.out; have := HJ5.out; have := HK3.out; omega
                  case rel => exact ⟨(wrap64 (x7_3 + 1)), S.eA, H', ⟨by have := HK1.out; have := HJ5.out; have := HK3.out; omega⟩, ⟨S.bA⟩⟩
                ·rw [if_neg c23] at H
                 exact absurd H (by simp)
               ·rw [if_neg c22] at H
                exact absurd H (by simp)
              ·rw [if_neg c20] at H
               exact absurd H (by simp)
             ·rw [if_neg c19] at H
              exact absurd H (by simp)
            ·rw [if_neg c18] at H
             exact absurd H (by simp)
           ·rw [if_neg c17] at H
            exact absurd H (by simp)
          ·have H' := Aside0.mk H
           clear H
           go_wp2
           go_roundg k3
           case measure => have := HK1.out; have := HJ5.out; have := HK3.out; omega
           case rel => exact ⟨(wrap64 (x5_1 + 1)), S.eA, H', ⟨by have := HK1.out; have := HJ5.out; have := HK3.out; omega⟩, ⟨S.bA⟩⟩
    ·rw [if_neg c4] at H
     exact absurd H (by simp)
   ·replace H := Option.bind_eq_some_iff.mp H
    obtain ⟨t373, A300, H⟩ := H
    replace H : (some t373) = some r := H
    have A30 := Aside0.mk A300
    clear A300
    obtain rfl := Option.some.inj H
    go_wp2_with (first | ((with_reducible refine gate_callee (f := 125) rfl ?_); refine S.gL (some 58) Try.func125 #[.slice A0 l0.length c0] ?_; (with_reducible refine (spec_ArePaths.calls k1 _ _ l0 t373 _ ?s1 HC0.out A30.out).mono ?_); (case s1 => exact S.cA HR0.out); rintro e w31 ⟨rfl, hb⟩; refine ⟨_, rfl, ?_⟩; replace HB := S.sA hb; (try clear hb)))
    go_ret
    exact ⟨S.eW, S.bA⟩
end Go.Proofs.Ytjgigmghcfdomaa.PFnWaves
