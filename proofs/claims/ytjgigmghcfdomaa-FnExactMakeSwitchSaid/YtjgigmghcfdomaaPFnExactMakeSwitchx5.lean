/- Printed by a program: what the Go functions compute, as plain Lean functions (.f), and the proofs that the machine's calls come to just that (.calls). -/
import Derived.Test.YtjgigmghcfdomaaPFnExactMakeSwitchx0
import Derived.Test.YtjgigmghcfdomaaPFnExactMakeSwitchx4
namespace Go.Proofs.Ytjgigmghcfdomaa.PFnExactMakeSwitch
open Go.RowKit Go.Proofs.YtjgigmghcfdomaaW.PrintWords Go.Proofs.YtjgigmghcfdomaaW.PrintLast Go.Proofs.YtjgigmghcfdomaaW.PrintMore
attribute [local go_sem] max2_int min2_int max_two min_two max_three min_three max_four min_four   -- for this text's walks alone
set_option linter.unusedVariables false
set_option linter.unusedSimpArgs false

/-! ### spec_Conflict: function 124 -/
def spec_Conflict.j0 : Nat → Bool → Int → Int → Int → Int → Int → Int → Int → Int → Option (Bool)
 | 0, _, _, _, _, _, _, _, _, _ => none
 | k + 1, x5, x173000, x173001, x173002, x173003, x174000, x174001, x174002, x174003 => if x5 = true then (some false) else (if x173001 = 2 then (if x174002 = x173002 then (some true) else (some (x174003 == x173002))) else (if x174001 = 2 then (if x173002 = x174002 then (some true) else (some (x173003 == x174002))) else (if x173002 = x174002 then (some false) else (if x173003 = x174003 then (some true) else ((spec_InPlace.f x173002).bind fun t176 => ((spec_OutPlace.f x173003).bind fun t177 => ((spec_InPlace.f x174002).bind fun t178 => ((spec_OutPlace.f x174003).bind fun t179 => ((spec_Interleave.f k t176 t177 t178 t179).bind fun t180 => (some t180))))))))))
def spec_Conflict.f (k : Nat) (a0_0 : Int) (a0_1 : Int) (a0_2 : Int) (a0_3 : Int) (a1_0 : Int) (a1_1 : Int) (a1_2 : Int) (a1_3 : Int) : Option (Bool) := (spec_IsPath.f a0_0 a0_1 a0_2 a0_3).bind fun t174 => (if t174 = true then ((spec_IsPath.f a1_0 a1_1 a1_2 a1_3).bind fun t175 => (if t175 = true then (if a0_1 = 2 then (spec_Conflict.j0 k (a1_1 == 2) a0_0 a0_1 a0_2 a0_3 a1_0 a1_1 a1_2 a1_3) else (spec_Conflict.j0 k false a0_0 a0_1 a0_2 a0_3 a1_0 a1_1 a1_2 a1_3)) else (spec_Conflict.j0 k true a0_0 a0_1 a0_2 a0_3 a1_0 a1_1 a1_2 a1_3))) else (spec_Conflict.j0 k true a0_0 a0_1 a0_2 a0_3 a1_0 a1_1 a1_2 a1_3))
def spec_Conflict.T11 : Bool × List (List Nat × List Nat) := (true, [([], []), ([0], [0]), ([1], [1]), ([], []), ([3], [3]), ([4, 2], [4]), ([], []), ([6], [6]), ([7, 5], [7]), ([], []), ([9], [9]), ([10, 8], [10]), ([2, 5, 8, 11, 11], [2, 5, 8, 11]), ([12, 12, 0, 1, 2, 3, 4, 5, 6, 7, 8, 9, 10, 11, 12], [12])])
def spec_Conflict.B11 : List Nat := [0, 1, 3, 0, 8, 31, 0, 64, 255, 0, 512, 2047, 4095, 8191]
theorem spec_Conflict.tab11 : rtab .any (opsOf Try.f124 11) = spec_Conflict.T11 := by kernel_rfl
theorem spec_Conflict.bits11 : waitsOk spec_Conflict.T11.2 spec_Conflict.B11 = true := by kernel_rfl
set_option maxHeartbeats 8000000 in
set_option maxRecDepth 100000 in
theorem spec_Conflict.calls (k : Nat) (a0_0 : Int) (a0_1 : Int) (a0_2 : Int) (a0_3 : Int) (a1_0 : Int) (a1_1 : Int) (a1_2 : Int) (a1_3 : Int) (r : Bool) (w : World) (h : spec_Conflict.f k a0_0 a0_1 a0_2 a0_3 a1_0 a1_1 a1_2 a1_3 = some r) :
  Calls Try.prog 124 #[.agg #[.int .i64 a0_0, .int .i64 a0_1, .int .i64 a0_2, .int .i64 a0_3], .agg #[.int .i64 a1_0, .int .i64 a1_1, .int .i64 a1_2, .int .i64 a1_3]] w fun e w' => e = .returned (.bool r) ∧ Below w.heap.size w w' := by
 have hu71 := Try.underlying71
 have HB := Aside0.mk (Below.refl w.heap.size w)
 have H : ((spec_IsPath.f a0_0 a0_1 a0_2 a0_3).bind fun t174 => (if t174 = true then ((spec_IsPath.f a1_0 a1_1 a1_2 a1_3).bind fun t175 => (if t175 = true then (if a0_1 = 2 then (spec_Conflict.j0 k (a1_1 == 2) a0_0 a0_1 a0_2 a0_3 a1_0 a1_1 a1_2 a1_3) else (spec_Conflict.j0 k false a0_0 a0_1 a0_2 a0_3 a1_0 a1_1 a1_2 a1_3)) else (spec_Conflict.j0 k true a0_0 a0_1 a0_2 a0_3 a1_0 a1_1 a1_2 a1_3))) else (spec_Conflict.j0 k true a0_0 a0_1 a0_2 a0_3 a1_0 a1_1 a1_2 a1_3))) = some r := h
 clear h
 have HC3 := Aside0.mk H
 clear H
 go_enter Try.func124, Try.ntmps124
 go_upto_region 1 with (first | ((with_reducible refine gate_dst (N := 2) rfl ?_); refine S.bx 2 (cs := #[.int .i64 a0_0, .int .i64 a0_1, .int .i64 a0_2, .int .i64 a0_3]) (t := 71) ?_; intro gb172 hg w4 hbox hb; have BK172 := Aside0.mk hbox; have GW172 := S.geA hg; have GE172 := S.geA hg; replace HB := S.sA hb; clear hb hbox hg) | ((with_reducible refine gate_dst (N := 3) rfl ?_); refine S.bx 3 (cs := #[.int .i64 a1_0, .int .i64 a1_1, .int .i64 a1_2, .int .i64 a1_3]) (t := 71) ?_; intro gb173 hg w5 hbox hb; have BK173 := Aside0.mk hbox; have GW173 := S.geG hg; have GE173 := S.geG hg; replace HB := S.sG hb; have NB172_173 := S.nl hg BK172; have NB173_172 := S.ng hg BK172; replace BK172 := S.kb BK172 hb; clear hb hbox hg))
 (try simp only [Act.put, List.setIfInBounds_toArray, List.set_cons_zero, List.set_cons_succ])
 go_cut [5] (fun v5 wc => ∃ (kq : Nat) (x5_2 : Bool), v5 = .bool x5_2 ∧ Aside0 (spec_Conflict.j0 kq x5_2 a0_0 a0_1 a0_2 a0_3 a1_0 a1_1 a1_2 a1_3 = some r) ∧ Aside0 (kq ≤ k) ∧ Aside0 (wc.heap[gb172]? = some (.cells #[.int .i64 a0_0, .int .i64 a0_1, .int .i64 a0_2, .int .i64 a0_3] 71 (0, 0))) ∧ Aside0 (wc.heap[gb173]? = some (.cells #[.int .i64 a1_0, .int .i64 a1_1, .int .i64 a1_2, .int .i64 a1_3] 71 (0, 0))) ∧ Aside0 (Below w.heap.size w wc))
 case first =>
  have H := HC3.out
  clear HC3
  replace H := S.bd H; obtain ⟨t174, A6, H⟩ := H
  (try dsimp only at H)
  replace H := S.db H; rcases H with ⟨rfl, H⟩ | ⟨rfl, H⟩
  ·replace H := S.bd H; obtain ⟨t175, A8, H⟩ := H
   (try dsimp only at H)
   replace H := S.db H; rcases H with ⟨rfl, H⟩ | ⟨rfl, H⟩
   ·by_cases c10 : a0_1 = 2
    ·rw [if_pos c10] at H
     have c10b0 : (a0_1 == 2) = true := beq_iff_eq.mpr c10
     have c10b1 : (a0_1 != 2) = false := bne_eq_false_iff_eq.mpr c10
     clear c10
     (first | rw [c10b0] | (simp only [i64_w, i32_w]; rw [c10b0]) | skip)
     have H' := Aside0.mk H
     clear H
     have hnb11 := NB172_173.out
     have hnc11 := NB173_172.out
     obtain ⟨Z12a, Z12b, Z12c, Z12d, Y12a, Y12b, Y12c, Y12d⟩ := S.c4 BK172.out
     go_wp2_with (first | ((with_reducible refine gate_callee (f := 135) rfl ?_); refine S.gL (some 7) Try.func135 #[.agg #[.int .i64 a0_0, .int .i64 a0_1, .int .i64 a0_2, .int .i64 a0_3]] ?_; (with_reducible refine (spec_IsPath.calls a0_0 a0_1 a0_2 a0_3 true _ A6.out).mono ?_); rintro e w13 ⟨rfl, hb⟩; refine ⟨_, rfl, ?_⟩; replace BK172 := S.kb BK172 hb; replace BK173 := S.kb BK173 hb; replace HB := S.sG hb; (try clear hb); obtain ⟨Z14a, Z14b, Z14c, Z14d, Y14a, Y14b, Y14c, Y14d⟩ := S.c4 BK173.out) | (go_at_call 135; (with_reducible refine (spec_IsPath.calls a1_0 a1_1 a1_2 a1_3 true _ A8.out).mono ?_); rintro e w15 ⟨rfl, hb⟩; replace BK172 := S.kb BK172 hb; replace BK173 := S.kb BK173 hb; replace HB := S.sG hb; (try clear hb); obtain ⟨Z16a, Z16b, Z16c, Z16d, Y16a, Y16b, Y16c, Y16d⟩ := S.c4 BK172.out; obtain ⟨Z17a, Z17b, Z17c, Z17d, Y17a, Y17b, Y17c, Y17d⟩ := S.c4 BK173.out))
     go_meet
     case rel => exact ⟨_, ((a1_1 == 2)), S.eA, H', S.le, ⟨S.uB BK172.out⟩, ⟨S.uB BK173.out⟩, ⟨S.bG⟩⟩
    ·rw [if_neg c10] at H
     have c10b0 : (a0_1 == 2) = false := beq_eq_false_iff_ne.mpr c10
     have c10b1 : (a0_1 != 2) = true := bne_iff_ne.mpr c10
     (first | rw [c10b0] | (simp only [i64_w, i32_w]; rw [c10b0]) | skip)
     have H' := Aside0.mk H
     clear H
     have hnb18 := NB172_173.out
     have hnc18 := NB173_172.out
     obtain ⟨Z19a, Z19b, Z19c, Z19d, Y19a, Y19b, Y19c, Y19d⟩ := S.c4 BK172.out
     go_wp2_with (first | ((with_reducible refine gate_callee (f := 135) rfl ?_); refine S.gL (some 7) Try.func135 #[.agg #[.int .i64 a0_0, .int .i64 a0_1, .int .i64 a0_2, .int .i64 a0_3]] ?_; (with_reducible refine (spec_IsPath.calls a0_0 a0_1 a0_2 a0_3 true _ A6.out).mono ?_); rintro e w20 ⟨rfl, hb⟩; refine ⟨_, rfl, ?_⟩; replace BK172 := S.kb BK172 hb; replace BK173 := S.kb BK173 hb; replace HB := S.sG hb; (try clear hb); obtain ⟨Z21a, Z21b, Z21c, Z21d, Y21a, Y21b, Y21c, Y21d⟩ := S.c4 BK173.out) | (go_at_call 135; (with_reducible refine (spec_IsPath.calls a1_0 a1_1 a1_2 a1_3 true _ A8.out).mono ?_); rintro e w22 ⟨rfl, hb⟩; replace BK172 := S.kb BK172 hb; replace BK173 := S.kb BK173 hb; replace HB := S.sG hb; (try clear hb); obtain ⟨Z23a, Z23b, Z23c, Z23d, Y23a, Y23b, Y23c, Y23d⟩ := S.c4 BK172.out))
     go_meet
     case rel => exact ⟨_, (false), S.eA, H', S.le, ⟨S.uB BK172.out⟩, ⟨S.uB BK173.out⟩, ⟨S.bG⟩⟩
   ·have H' := Aside0.mk H
    clear H
    have hnb24 := NB172_173.out
    have hnc24 := NB173_172.out
    obtain ⟨Z25a, Z25b, Z25c, Z25d, Y25a, Y25b, Y25c, Y25d⟩ := S.c4 BK172.out
    go_wp2_with (first | ((with_reducible refine gate_callee (f := 135) rfl ?_); refine S.gL (some 7) Try.func135 #[.agg #[.int .i64 a0_0, .int .i64 a0_1, .int .i64 a0_2, .int .i64 a0_3]] ?_; (with_reducible refine (spec_IsPath.calls a0_0 a0_1 a0_2 a0_3 true _ A6.out).mono ?_); rintro e w26 ⟨rfl, hb⟩; refine ⟨_, rfl, ?_⟩; replace BK172 := S.kb BK172 hb; replace BK173 := S.kb BK173 hb; replace HB := S.sG hb; (try clear hb); obtain ⟨Z27a, Z27b, Z27c, Z27d, Y27a, Y27b, Y27c, Y27d⟩ := S.c4 BK173.out) | (go_at_call 135; (with_reducible refine (spec_IsPath.calls a1_0 a1_1 a1_2 a1_3 false _ A8.out).mono ?_); rintro e w28 ⟨rfl, hb⟩; replace BK172 := S.kb BK172 hb; replace BK173 := S.kb BK173 hb; replace HB := S.sG hb; (try clear hb)))
    go_meet
    case rel => exact ⟨_, (true), S.eA, H', S.le, ⟨S.uB BK172.out⟩, ⟨S.uB BK173.out⟩, ⟨S.bG⟩⟩
  ·have H' := Aside0.mk H
   clear H
   have hnb29 := NB172_173.out
   have hnc29 := NB173_172.out
   obtain ⟨Z30a, Z30b, Z30c, Z30d, Y30a, Y30b, Y30c, Y30d⟩ := S.c4 BK172.out
   go_wp2_with (first | ((with_reducible refine gate_callee (f := 135) rfl ?_); refine S.gL (some 7) Try.func135 #[.agg #[.int .i64 a0_0, .int .i64 a0_1, .int .i64 a0_2, .int .i64 a0_3]] ?_; (with_reducible refine (spec_IsPath.calls a0_0 a0_1 a0_2 a0_3 false _ A6.out).mono ?_); rintro e w31 ⟨rfl, hb⟩; refine ⟨_, rfl, ?_⟩; replace BK172 := S.kb BK172 hb; replace BK173 := S.kb BK173 hb; replace HB := S.sG hb; (try clear hb)))
   go_meet
   case rel => exact ⟨_, (true), S.eA, H', S.le, ⟨S.uB BK172.out⟩, ⟨S.uB BK173.out⟩, ⟨S.bG⟩⟩
 case rest =>
  clear HC3
  obtain ⟨kq, x5_2, rfl, HA, HJ2, BK172, BK173, HB⟩ := hcut
  cases kq with
  | zero => exact absurd HA.out (by simp [spec_Conflict.j0])
  | succ kj2 =>
   have H := HA.out
   clear HA
   simp only [spec_Conflict.j0] at H
   replace H := S.db H; rcases H with ⟨rfl, H⟩ | ⟨rfl, H⟩
   ·obtain rfl := Option.some.inj H
    go_wp2
    go_ret
    exact ⟨S.eW, S.bG⟩
   ·by_cases c33 : a0_1 = 2
    ·rw [if_pos c33] at H
     have c33b0 : (a0_1 == 2) = true := beq_iff_eq.mpr c33
     have c33b1 : (a0_1 != 2) = false := bne_eq_false_iff_eq.mpr c33
     clear c33
     by_cases c34 : a1_2 = a0_2
     ·rw [if_pos c34] at H
      have c34b0 : (a1_2 == a0_2) = true := beq_iff_eq.mpr c34
      have c34b1 : (a1_2 != a0_2) = false := bne_eq_false_iff_eq.mpr c34
      clear c34
      obtain rfl := Option.some.inj H
      have hnb35 := NB172_173.out
      have hnc35 := NB173_172.out
      obtain ⟨Z36a, Z36b, Z36c, Z36d, Y36a, Y36b, Y36c, Y36d⟩ := S.c4 BK172.out
      obtain ⟨Z37a, Z37b, Z37c, Z37d, Y37a, Y37b, Y37c, Y37d⟩ := S.c4 BK173.out
      go_wp2
      go_ret
      exact ⟨S.eW, S.bG⟩
     ·rw [if_neg c34] at H
      have c34b0 : (a1_2 == a0_2) = false := beq_eq_false_iff_ne.mpr c34
      have c34b1 : (a1_2 != a0_2) = true := bne_iff_ne.mpr c34
      obtain rfl := Option.some.inj H
      have hnb38 := NB172_173.out
      have hnc38 := NB173_172.out
      obtain ⟨Z39a, Z39b, Z39c, Z39d, Y39a, Y39b, Y39c, Y39d⟩ := S.c4 BK172.out
      obtain ⟨Z40a, Z40b, Z40c, Z40d, Y40a, Y40b, Y40c, Y40d⟩ := S.c4 BK173.out
      go_wp2
      go_ret
      exact ⟨S.eW, S.bG⟩
    ·rw [if_neg c33] at H
     have c33b0 : (a0_1 == 2) = false := beq_eq_false_iff_ne.mpr c33
     have c33b1 : (a0_1 != 2) = true := bne_iff_ne.mpr c33
     by_cases c41 : a1_1 = 2
     ·rw [if_pos c41] at H
      have c41b0 : (a1_1 == 2) = true := beq_iff_eq.mpr c41
      have c41b1 : (a1_1 != 2) = false := bne_eq_false_iff_eq.mpr c41
      clear c41
      by_cases c42 : a0_2 = a1_2
      ·rw [if_pos c42] at H
       have c42b0 : (a0_2 == a1_2) = true := beq_iff_eq.mpr c42
       have c42b1 : (a0_2 != a1_2) = false := bne_eq_false_iff_eq.mpr c42
       clear c42
       obtain rfl := Option.some.inj H
       have hnb43 := NB172_173.out
       have hnc43 := NB173_172.out
       obtain ⟨Z44a, Z44b, Z44c, Z44d, Y44a, Y44b, Y44c, Y44d⟩ := S.c4 BK172.out
       obtain ⟨Z45a, Z45b, Z45c, Z45d, Y45a, Y45b, Y45c, Y45d⟩ := S.c4 BK173.out
       go_wp2
       go_ret
       exact ⟨S.eW, S.bG⟩
      ·rw [if_neg c42] at H
       have c42b0 : (a0_2 == a1_2) = false := beq_eq_false_iff_ne.mpr c42
       have c42b1 : (a0_2 != a1_2) = true := bne_iff_ne.mpr c42
       obtain rfl := Option.some.inj H
       have hnb46 := NB172_173.out
       have hnc46 := NB173_172.out
       obtain ⟨Z47a, Z47b, Z47c, Z47d, Y47a, Y47b, Y47c, Y47d⟩ := S.c4 BK172.out
       obtain ⟨Z48a, Z48b, Z48c, Z48d, Y48a, Y48b, Y48c, Y48d⟩ := S.c4 BK173.out
       go_wp2
       go_ret
       exact ⟨S.eW, S.bG⟩
     ·rw [if_neg c41] at H
      have c41b0 : (a1_1 == 2) = false := beq_eq_false_iff_ne.mpr c41
      have c41b1 : (a1_1 != 2) = true := bne_iff_ne.mpr c41
      by_cases c49 : a0_2 = a1_2
      ·rw [if_pos c49] at H
       have c49b0 : (a0_2 == a1_2) = true := beq_iff_eq.mpr c49
       have c49b1 : (a0_2 != a1_2) = false := bne_eq_false_iff_eq.mpr c49
       clear c49
       obtain rfl := Option.some.inj H
       have hnb50 := NB172_173.out
       have hnc50 := NB173_172.out
       obtain ⟨Z51a, Z51b, Z51c, Z51d, Y51a, Y51b, Y51c, Y51d⟩ := S.c4 BK172.out
       obtain ⟨Z52a, Z52b, Z52c, Z52d, Y52a, Y52b, Y52c, Y52d⟩ := S.c4 BK173.out
       go_wp2
       go_ret
       exact ⟨S.eW, S.bG⟩
      ·rw [if_neg c49] at H
       have c49b0 : (a0_2 == a1_2) = false := beq_eq_false_iff_ne.mpr c49
       have c49b1 : (a0_2 != a1_2) = true := bne_iff_ne.mpr c49
       by_cases c53 : a0_3 = a1_3
       ·rw [if_pos c53] at H
        have c53b0 : (a0_3 == a1_3) = true := beq_iff_eq.mpr c53
        have c53b1 : (a0_3 != a1_3) = false := bne_eq_false_iff_eq.mpr c53
        clear c53
        obtain rfl := Option.some.inj H
        have hnb54 := NB172_173.out
        have hnc54 := NB173_172.out
        obtain ⟨Z55a, Z55b, Z55c, Z55d, Y55a, Y55b, Y55c, Y55d⟩ := S.c4 BK172.out
        obtain ⟨Z56a, Z56b, Z56c, Z56d, Y56a, Y56b, Y56c, Y56d⟩ := S.c4 BK173.out
        go_wp2
        go_ret
        exact ⟨S.eW, S.bG⟩
       ·rw [if_neg c53] at H
        have c53b0 : (a0_3 == a1_3) = false := beq_eq_false_iff_ne.mpr c53
        have c53b1 : (a0_3 != a1_3) = true := bne_iff_ne.mpr c53
        replace H := S.bd H; obtain ⟨t176, A57, H⟩ := H
        (try dsimp only at H)
        replace H := S.bd H; obtain ⟨t177, A58, H⟩ := H
        (try dsimp only at H)
        replace H := S.bd H; obtain ⟨t178, A59, H⟩ := H
        (try dsimp only at H)
        replace H := S.bd H; obtain ⟨t179, A60, H⟩ := H
        (try dsimp only at H)
        replace H := S.bd H; obtain ⟨t180, A61, H⟩ := H
        (try dsimp only at H)
        obtain rfl := Option.some.inj H
        have hnb62 := NB172_173.out
        have hnc62 := NB173_172.out
        obtain ⟨Z63a, Z63b, Z63c, Z63d, Y63a, Y63b, Y63c, Y63d⟩ := S.c4 BK172.out
        obtain ⟨Z64a, Z64b, Z64c, Z64d, Y64a, Y64b, Y64c, Y64d⟩ := S.c4 BK173.out
        try go_wp2
        replace BK172 := Aside0.mk (blk_drew BK172.out)
        replace BK173 := Aside0.mk (blk_drew BK173.out)
        replace HB := Aside0.mk (below_drew1 HB.out)
        refine S.st (n := 14) (ds := []) #[false, false, false, false, false, false, false, false, false, false, false, false, false, false] (fun w_ h_ => have x_ := S.d4 (S.Q h_ BK172.out) (S.e4 (S.Q h_ BK173.out)); x_) (fun hHeld => ?_); refine with_tabW spec_Conflict.tab11 spec_Conflict.bits11 (fun HT_ HW_ => ?_)
        generalize wc.drew = w65 at BK172 BK173 HB hHeld ⊢
        refine S.pS 0 68 ?_
        refine S.pS 3 71 ?_
        refine S.pS 6 74 ?_
        refine S.pS 9 77 ?_
        refine S.tK 1 69 #[true, true, false, true, false, false, true, false, false, true, false, false, false, false] ?_
        refine S.tK 4 72 #[true, true, false, true, true, false, true, false, false, true, false, false, false, false] ?_
        refine S.tK 7 75 #[true, true, false, true, true, false, true, true, false, true, false, false, false, false] ?_
        refine S.tK 10 78 #[true, true, false, true, true, false, true, true, false, true, true, false, false, false] ?_
        refine S.oN 2 70 #[true, true, true, true, true, false, true, true, false, true, true, false, false, false] (fun K hK => ?_)
        refine S.go Try.func137 #[.int .i64 a0_2] ?_
        with_reducible refine (spec_InPlace.calls a0_2 t176 _ A57.out).mono ?_
        rintro e w' ⟨rfl, ⟨nd, rfl⟩⟩
        refine ⟨_, rfl, ?_⟩
        refine hK.out _ _ (S.d4 BK172.out (S.e4 BK173.out)) (fun hHeld => ?_)
        clear hK K
        refine S.nm 70 ?_
        refine S.oN 5 73 #[true, true, true, true, true, true, true, true, false, true, true, false, false, false] (fun K hK => ?_)
        refine S.go Try.func138 #[.int .i64 a0_3] ?_
        with_reducible refine (spec_OutPlace.calls a0_3 t177 _ A58.out).mono ?_
        rintro e w' ⟨rfl, ⟨nd, rfl⟩⟩
        refine ⟨_, rfl, ?_⟩
        refine hK.out _ _ (S.d4 BK172.out (S.e4 BK173.out)) (fun hHeld => ?_)
        clear hK K
        refine S.nm 73 ?_
        refine S.oN 8 76 #[true, true, true, true, true, true, true, true, true, true, true, false, false, false] (fun K hK => ?_)
        refine S.go Try.func137 #[.int .i64 a1_2] ?_
        with_reducible refine (spec_InPlace.calls a1_2 t178 _ A59.out).mono ?_
        rintro e w' ⟨rfl, ⟨nd, rfl⟩⟩
        refine ⟨_, rfl, ?_⟩
        refine hK.out _ _ (S.d4 BK172.out (S.e4 BK173.out)) (fun hHeld => ?_)
        clear hK K
        refine S.nm 76 ?_
        refine S.oN 11 79 #[true, true, true, true, true, true, true, true, true, true, true, true, false, false] (fun K hK => ?_)
        refine S.go Try.func138 #[.int .i64 a1_3] ?_
        with_reducible refine (spec_OutPlace.calls a1_3 t179 _ A60.out).mono ?_
        rintro e w' ⟨rfl, ⟨nd, rfl⟩⟩
        refine ⟨_, rfl, ?_⟩
        refine hK.out _ _ (S.d4 BK172.out (S.e4 BK173.out)) (fun hHeld => ?_)
        clear hK K
        refine S.nm 79 ?_
        refine S.oN 12 80 #[true, true, true, true, true, true, true, true, true, true, true, true, true, false] (fun K hK => ?_)
        refine S.go Try.func136 #[.int .i64 t176, .int .i64 t177, .int .i64 t178, .int .i64 t179] ?_
        with_reducible refine (spec_Interleave.calls kj2 t176 t177 t178 t179 t180 _ A61.out).mono ?_
        rintro e w66 ⟨rfl, hb⟩
        refine ⟨_, rfl, ?_⟩
        replace BK172 := S.kb BK172 hb
        replace BK173 := S.kb BK173 hb
        replace HB := S.sG hb
        (try clear hb)
        (try clear hb2)
        (try clear hk)
        (try clear hi)
        refine hK.out _ _ (S.d4 BK172.out (S.e4 BK173.out)) (fun hHeld => ?_)
        clear hK K
        refine S.nm 80 ?_
        refine S.pS 13 4 ?_
        refine done_ (done_of HT_.out (by kernel_rfl)) ?_
        try go_wp2
        go_ret
        exact ⟨S.eW, S.bG⟩

end Go.Proofs.Ytjgigmghcfdomaa.PFnExactMakeSwitch
