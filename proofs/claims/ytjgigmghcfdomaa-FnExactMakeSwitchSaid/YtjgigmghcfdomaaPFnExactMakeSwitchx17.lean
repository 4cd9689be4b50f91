/- Printed by a program: what the Go functions compute, as plain Lean functions (.f), and the proofs that the machine's calls come to just that (.calls). -/
import Derived.Test.YtjgigmghcfdomaaPFnExactMakeSwitchx0
import Derived.Test.YtjgigmghcfdomaaPFnExactMakeSwitchx14
import Derived.Test.YtjgigmghcfdomaaPFnExactMakeSwitchx16
namespace Go.Proofs.Ytjgigmghcfdomaa.PFnExactMakeSwitch
open Go.RowKit Go.Proofs.YtjgigmghcfdomaaW.PrintWords Go.Proofs.YtjgigmghcfdomaaW.PrintLast Go.Proofs.YtjgigmghcfdomaaW.PrintMore
attribute [local go_sem] max2_int min2_int max_two min_two max_three min_three max_four min_four   -- for this text's walks alone
set_option linter.unusedVariables false
set_option linter.unusedSimpArgs false

/-! ### impl_Conflict: function 89 -/
def impl_Conflict.j0 : Nat → Bool → Int → Int → Int → Int → Int → Int → Int → Int → Option (Bool)
 | 0, _, _, _, _, _, _, _, _, _ => none
 | k + 1, x22, x340000, x340001, x340002, x340003, x341000, x341001, x341002, x341003 => if x22 = true then (some false) else (if x340001 = 2 then (if x341002 = x340002 then (some true) else (some (x341003 == x340002))) else (if x341001 = 2 then (if x340002 = x341002 then (some true) else (some (x340003 == x341002))) else (if x340002 = x341002 then ((impl_InPlace.f x340002).bind fun t343 => ((impl_OutPlace.f x340003).bind fun t344 => ((impl_InPlace.f x341002).bind fun t345 => ((impl_OutPlace.f x341003).bind fun t346 => ((impl_Interleave.f k t343 t344 t345 t346).bind fun t347 => (some t347)))))) else (if x340003 = x341003 then (some true) else ((impl_InPlace.f x340002).bind fun t348 => ((impl_OutPlace.f x340003).bind fun t349 => ((impl_InPlace.f x341002).bind fun t350 => ((impl_OutPlace.f x341003).bind fun t351 => ((impl_Interleave.f k t348 t349 t350 t351).bind fun t352 => (some t352))))))))))
def impl_Conflict.f (k : Nat) (a0_0 : Int) (a0_1 : Int) (a0_2 : Int) (a0_3 : Int) (a1_0 : Int) (a1_1 : Int) (a1_2 : Int) (a1_3 : Int) : Option (Bool) := (impl_IsPath.f a0_0 a0_1 a0_2 a0_3).bind fun t341 => (if t341 = true then ((impl_IsPath.f a1_0 a1_1 a1_2 a1_3).bind fun t342 => (if t342 = true then (if a0_1 = 2 then (impl_Conflict.j0 k (a1_1 == 2) a0_0 a0_1 a0_2 a0_3 a1_0 a1_1 a1_2 a1_3) else (impl_Conflict.j0 k false a0_0 a0_1 a0_2 a0_3 a1_0 a1_1 a1_2 a1_3)) else (impl_Conflict.j0 k true a0_0 a0_1 a0_2 a0_3 a1_0 a1_1 a1_2 a1_3))) else (impl_Conflict.j0 k true a0_0 a0_1 a0_2 a0_3 a1_0 a1_1 a1_2 a1_3))
def impl_Conflict.T7 : Bool × List (List Nat × List Nat) := (true, [([], []), ([0], [0]), ([], []), ([2], [2]), ([1, 3], [1, 3]), ([4], [4]), ([5], [5]), ([6, 5], [5, 6]), ([5], [5]), ([8, 5], [5, 8]), ([7, 9, 5], [5, 7, 9]), ([5, 10], [5, 10]), ([11, 5], [11]), ([12], [12]), ([13, 12], [12, 13]), ([14, 12, 12], [12, 14]), ([12], [12]), ([16, 12], [12, 16]), ([17, 15, 12], [12, 17]), ([12], [12]), ([19, 12], [12, 19]), ([20, 18, 12], [12, 20]), ([12], [12]), ([22, 12], [12, 22]), ([23, 21, 12], [12, 23]), ([15, 18, 21, 24, 24, 12], [12, 15, 18, 21, 24]), ([12, 25], [12, 25]), ([26, 25, 0, 1, 2, 3, 4, 5, 6, 7, 8, 9, 10, 11, 12, 13, 14, 15, 16, 17, 18, 19, 20, 21, 22, 23, 24, 25, 26], [26])])
def impl_Conflict.B7 : List Nat := [0, 1, 0, 4, 15, 31, 63, 127, 63, 319, 1023, 2047, 4095, 8191, 16383, 32767, 8191, 73727, 262143, 8191, 532479, 2097151, 8191, 4202495, 16777215, 33554431, 67108863, 134217727]
theorem impl_Conflict.tab7 : rtab .any (opsOf Try.f89 7) = impl_Conflict.T7 := by kernel_rfl
theorem impl_Conflict.bits7 : waitsOk impl_Conflict.T7.2 impl_Conflict.B7 = true := by kernel_rfl
set_option maxHeartbeats 8000000 in
set_option maxRecDepth 100000 in
theorem impl_Conflict.calls (k : Nat) (a0_0 : Int) (a0_1 : Int) (a0_2 : Int) (a0_3 : Int) (a1_0 : Int) (a1_1 : Int) (a1_2 : Int) (a1_3 : Int) (r : Bool) (w : World) (h : impl_Conflict.f k a0_0 a0_1 a0_2 a0_3 a1_0 a1_1 a1_2 a1_3 = some r) :
  Calls Try.prog 89 #[.agg #[.int .i64 a0_0, .int .i64 a0_1, .int .i64 a0_2, .int .i64 a0_3], .agg #[.int .i64 a1_0, .int .i64 a1_1, .int .i64 a1_2, .int .i64 a1_3]] w fun e w' => e = .returned (.bool r) ∧ Below w.heap.size w w' := by
 have hu71 := Try.underlying71
 have HB := Aside0.mk (Below.refl w.heap.size w)
 have H : ((impl_IsPath.f a0_0 a0_1 a0_2 a0_3).bind fun t341 => (if t341 = true then ((impl_IsPath.f a1_0 a1_1 a1_2 a1_3).bind fun t342 => (if t342 = true then (if a0_1 = 2 then (impl_Conflict.j0 k (a1_1 == 2) a0_0 a0_1 a0_2 a0_3 a1_0 a1_1 a1_2 a1_3) else (impl_Conflict.j0 k false a0_0 a0_1 a0_2 a0_3 a1_0 a1_1 a1_2 a1_3)) else (impl_Conflict.j0 k true a0_0 a0_1 a0_2 a0_3 a1_0 a1_1 a1_2 a1_3))) else (impl_Conflict.j0 k true a0_0 a0_1 a0_2 a0_3 a1_0 a1_1 a1_2 a1_3))) = some r := h
 clear h
 have HC3 := Aside0.mk H
 clear H
 go_enter Try.func89, Try.ntmps89
 go_upto_region 1 with (first | ((with_reducible refine gate_dst (N := 2) rfl ?_); refine S.bx 2 (cs := #[.int .i64 a0_0, .int .i64 a0_1, .int .i64 a0_2, .int .i64 a0_3]) (t := 71) ?_; intro gb339 hg w4 hbox hb; have BK339 := Aside0.mk hbox; have GW339 := S.geA hg; have GE339 := S.geA hg; replace HB := S.sA hb; clear hb hbox hg) | ((with_reducible refine gate_dst (N := 3) rfl ?_); refine S.bx 3 (cs := #[.int .i64 a1_0, .int .i64 a1_1, .int .i64 a1_2, .int .i64 a1_3]) (t := 71) ?_; intro gb340 hg w5 hbox hb; have BK340 := Aside0.mk hbox; have GW340 := S.geG hg; have GE340 := S.geG hg; replace HB := S.sG hb; have NB339_340 := S.nl hg BK339; have NB340_339 := S.ng hg BK339; replace BK339 := S.kb BK339 hb; clear hb hbox hg))
 (try simp only [Act.put, List.setIfInBounds_toArray, List.set_cons_zero, List.set_cons_succ])
 go_cut [22] (fun v22 wc => ∃ (kq : Nat) (x22_2 : Bool), v22 = .bool x22_2 ∧ Aside0 (impl_Conflict.j0 kq x22_2 a0_0 a0_1 a0_2 a0_3 a1_0 a1_1 a1_2 a1_3 = some r) ∧ Aside0 (kq ≤ k) ∧ Aside0 (wc.heap[gb339]? = some (.cells #[.int .i64 a0_0, .int .i64 a0_1, .int .i64 a0_2, .int .i64 a0_3] 71 (0, 0))) ∧ Aside0 (wc.heap[gb340]? = some (.cells #[.int .i64 a1_0, .int .i64 a1_1, .int .i64 a1_2, .int .i64 a1_3] 71 (0, 0))) ∧ Aside0 (Below w.heap.size w wc))
 case first =>
  have H := HC3.out
  clear HC3
  replace H := S.bd H; obtain ⟨t341, A6, H⟩ := H
  (try dsimp only at H)
  replace H := S.db H; rcases H with ⟨rfl, H⟩ | ⟨rfl, H⟩
  ·replace H := S.bd H; obtain ⟨t342, A8, H⟩ := H
   (try dsimp only at H)
   replace H := S.db H; rcases H with ⟨rfl, H⟩ | ⟨rfl, H⟩
   ·by_cases c10 : a0_1 = 2
    ·rw [if_pos c10] at H
     have c10b0 : (a0_1 == 2) = true := beq_iff_eq.mpr c10
     have c10b1 : (a0_1 != 2) = false := bne_eq_false_iff_eq.mpr c10
     clear c10
     (first | rw [c10b0] | (simp only [i64_w, i32_w]; rw [c10b0]) | skip)
     have H' := Aside0.mk H
     clear H
     have hnb11 := NB339_340.out
     have hnc11 := NB340_339.out
     obtain ⟨Z12a, Z12b, Z12c, Z12d, Y12a, Y12b, Y12c, Y12d⟩ := S.c4 BK339.out
     go_wp2_with (first | ((with_reducible refine gate_callee (f := 117) rfl ?_); refine S.gL (some 6) Try.func117 #[.agg #[.int .i64 a0_0, .int .i64 a0_1, .int .i64 a0_2, .int .i64 a0_3]] ?_; (with_reducible refine (impl_IsPath.calls a0_0 a0_1 a0_2 a0_3 true _ A6.out).mono ?_); rintro e w13 ⟨rfl, hb⟩; refine ⟨_, rfl, ?_⟩; replace BK339 := S.kb BK339 hb; replace BK340 := S.kb BK340 hb; replace HB := S.sG hb; (try clear hb); obtain ⟨Z14a, Z14b, Z14c, Z14d, Y14a, Y14b, Y14c, Y14d⟩ := S.c4 BK340.out) | (go_at_call 117; (with_reducible refine (impl_IsPath.calls a1_0 a1_1 a1_2 a1_3 true _ A8.out).mono ?_); rintro e w15 ⟨rfl, hb⟩; replace BK339 := S.kb BK339 hb; replace BK340 := S.kb BK340 hb; replace HB := S.sG hb; (try clear hb); obtain ⟨Z16a, Z16b, Z16c, Z16d, Y16a, Y16b, Y16c, Y16d⟩ := S.c4 BK339.out; obtain ⟨Z17a, Z17b, Z17c, Z17d, Y17a, Y17b, Y17c, Y17d⟩ := S.c4 BK340.out))
     go_meet
     case rel => exact ⟨_, ((a1_1 == 2)), S.eA, H', S.le, ⟨S.uB BK339.out⟩, ⟨S.uB BK340.out⟩, ⟨S.bG⟩⟩
    ·rw [if_neg c10] at H
     have c10b0 : (a0_1 == 2) = false := beq_eq_false_iff_ne.mpr c10
     have c10b1 : (a0_1 != 2) = true := bne_iff_ne.mpr c10
     (first | rw [c10b0] | (simp only [i64_w, i32_w]; rw [c10b0]) | skip)
     have H' := Aside0.mk H
     clear H
     have hnb18 := NB339_340.out
     have hnc18 := NB340_339.out
     obtain ⟨Z19a, Z19b, Z19c, Z19d, Y19a, Y19b, Y19c, Y19d⟩ := S.c4 BK339.out
     go_wp2_with (first | ((with_reducible refine gate_callee (f := 117) rfl ?_); refine S.gL (some 6) Try.func117 #[.agg #[.int .i64 a0_0, .int .i64 a0_1, .int .i64 a0_2, .int .i64 a0_3]] ?_; (with_reducible refine (impl_IsPath.calls a0_0 a0_1 a0_2 a0_3 true _ A6.out).mono ?_); rintro e w20 ⟨rfl, hb⟩; refine ⟨_, rfl, ?_⟩; replace BK339 := S.kb BK339 hb; replace BK340 := S.kb BK340 hb; replace HB := S.sG hb; (try clear hb); obtain ⟨Z21a, Z21b, Z21c, Z21d, Y21a, Y21b, Y21c, Y21d⟩ := S.c4 BK340.out) | (go_at_call 117; (with_reducible refine (impl_IsPath.calls a1_0 a1_1 a1_2 a1_3 true _ A8.out).mono ?_); rintro e w22 ⟨rfl, hb⟩; replace BK339 := S.kb BK339 hb; replace BK340 := S.kb BK340 hb; replace HB := S.sG hb; (try clear hb); obtain ⟨Z23a, Z23b, Z23c, Z23d, Y23a, Y23b, Y23c, Y23d⟩ := S.c4 BK339.out))
     go_meet
     case rel => exact ⟨_, (false), S.eA, H', S.le, ⟨S.uB BK339.out⟩, ⟨S.uB BK340.out⟩, ⟨S.bG⟩⟩
   ·have H' := Aside0.mk H
    clear H
    have hnb24 := NB339_340.out
    have hnc24 := NB340_339.out
    obtain ⟨Z25a, Z25b, Z25c, Z25d, Y25a, Y25b, Y25c, Y25d⟩ := S.c4 BK339.out
    go_wp2_with (first | ((with_reducible refine gate_callee (f := 117) rfl ?_); refine S.gL (some 6) Try.func117 #[.agg #[.int .i64 a0_0, .int .i64 a0_1, .int .i64 a0_2, .int .i64 a0_3]] ?_; (with_reducible refine (impl_IsPath.calls a0_0 a0_1 a0_2 a0_3 true _ A6.out).mono ?_); rintro e w26 ⟨rfl, hb⟩; refine ⟨_, rfl, ?_⟩; replace BK339 := S.kb BK339 hb; replace BK340 := S.kb BK340 hb; replace HB := S.sG hb; (try clear hb); obtain ⟨Z27a, Z27b, Z27c, Z27d, Y27a, Y27b, Y27c, Y27d⟩ := S.c4 BK340.out) | (go_at_call 117; (with_reducible refine (impl_IsPath.calls a1_0 a1_1 a1_2 a1_3 false _ A8.out).mono ?_); rintro e w28 ⟨rfl, hb⟩; replace BK339 := S.kb BK339 hb; replace BK340 := S.kb BK340 hb; replace HB := S.sG hb; (try clear hb)))
    go_meet
    case rel => exact ⟨_, (true), S.eA, H', S.le, ⟨S.uB BK339.out⟩, ⟨S.uB BK340.out⟩, ⟨S.bG⟩⟩
  ·have H' := Aside0.mk H
   clear H
   have hnb29 := NB339_340.out
   have hnc29 := NB340_339.out
   obtain ⟨Z30a, Z30b, Z30c, Z30d, Y30a, Y30b, Y30c, Y30d⟩ := S.c4 BK339.out
   go_wp2_with (first | ((with_reducible refine gate_callee (f := 117) rfl ?_); refine S.gL (some 6) Try.func117 #[.agg #[.int .i64 a0_0, .int .i64 a0_1, .int .i64 a0_2, .int .i64 a0_3]] ?_; (with_reducible refine (impl_IsPath.calls a0_0 a0_1 a0_2 a0_3 false _ A6.out).mono ?_); rintro e w31 ⟨rfl, hb⟩; refine ⟨_, rfl, ?_⟩; replace BK339 := S.kb BK339 hb; replace BK340 := S.kb BK340 hb; replace HB := S.sG hb; (try clear hb)))
   go_meet
   case rel => exact ⟨_, (true), S.eA, H', S.le, ⟨S.uB BK339.out⟩, ⟨S.uB BK340.out⟩, ⟨S.bG⟩⟩
 case rest =>
  clear HC3
  obtain ⟨kq, x22_2, rfl, HA, HJ2, BK339, BK340, HB⟩ := hcut
  cases kq with
  | zero => exact absurd HA.out (by simp [impl_Conflict.j0])
  | succ kj2 =>
   have H := HA.out
   clear HA
   simp only [impl_Conflict.j0] at H
   replace H := S.db H; rcases H with ⟨rfl, H⟩ | ⟨rfl, H⟩
   ·obtain rfl := Option.some.inj H
    go_wp2
    go_ret
    exact ⟨S.eW, S.bG⟩
   ·by_cases c33 : a0_1 = 2
    ·rw [if_pos c33] at H
     have c33b0 : (a0_1 == 2) = true := beq_iff_eq.mpr c33
     have c33b1 : (a0_1 != 2) = false := bne_eq_false_iff_eq.mpr c33
     clear c33
     by_cases c34 : a1_2 = a0_2
     ·rw [if_pos c34] at H
      have c34b0 : (a1_2 == a0_2) = true := beq_iff_eq.mpr c34
      have c34b1 : (a1_2 != a0_2) = false := bne_eq_false_iff_eq.mpr c34
      clear c34
      obtain rfl := Option.some.inj H
      have hnb35 := NB339_340.out
      have hnc35 := NB340_339.out
      obtain ⟨Z36a, Z36b, Z36c, Z36d, Y36a, Y36b, Y36c, Y36d⟩ := S.c4 BK339.out
      obtain ⟨Z37a, Z37b, Z37c, Z37d, Y37a, Y37b, Y37c, Y37d⟩ := S.c4 BK340.out
      go_wp2
      go_ret
      exact ⟨S.eW, S.bG⟩
     ·rw [if_neg c34] at H
      have c34b0 : (a1_2 == a0_2) = false := beq_eq_false_iff_ne.mpr c34
      have c34b1 : (a1_2 != a0_2) = true := bne_iff_ne.mpr c34
      obtain rfl := Option.some.inj H
      have hnb38 := NB339_340.out
      have hnc38 := NB340_339.out
      obtain ⟨Z39a, Z39b, Z39c, Z39d, Y39a, Y39b, Y39c, Y39d⟩ := S.c4 BK339.out
      obtain ⟨Z40a, Z40b, Z40c, Z40d, Y40a, Y40b, Y40c, Y40d⟩ := S.c4 BK340.out
      go_wp2
      go_ret
      exact ⟨S.eW, S.bG⟩
    ·rw [if_neg c33] at H
     have c33b0 : (a0_1 == 2) = false := beq_eq_false_iff_ne.mpr c33
     have c33b1 : (a0_1 != 2) = true := bne_iff_ne.mpr c33
     by_cases c41 : a1_1 = 2
     ·rw [if_pos c41] at H
      have c41b0 : (a1_1 == 2) = true := beq_iff_eq.mpr c41
      have c41b1 : (a1_1 != 2) = false := bne_eq_false_iff_eq.mpr c41
      clear c41
      by_cases c42 : a0_2 = a1_2
      ·rw [if_pos c42] at H
       have c42b0 : (a0_2 == a1_2) = true := beq_iff_eq.mpr c42
       have c42b1 : (a0_2 != a1_2) = false := bne_eq_false_iff_eq.mpr c42
       clear c42
       obtain rfl := Option.some.inj H
       have hnb43 := NB339_340.out
       have hnc43 := NB340_339.out
       obtain ⟨Z44a, Z44b, Z44c, Z44d, Y44a, Y44b, Y44c, Y44d⟩ := S.c4 BK339.out
       obtain ⟨Z45a, Z45b, Z45c, Z45d, Y45a, Y45b, Y45c, Y45d⟩ := S.c4 BK340.out
       go_wp2
       go_ret
       exact ⟨S.eW, S.bG⟩
      ·rw [if_neg c42] at H
       have c42b0 : (a0_2 == a1_2) = false := beq_eq_false_iff_ne.mpr c42
       have c42b1 : (a0_2 != a1_2) = true := bne_iff_ne.mpr c42
       obtain rfl := Option.some.inj H
       have hnb46 := NB339_340.out
       have hnc46 := NB340_339.out
       obtain ⟨Z47a, Z47b, Z47c, Z47d, Y47a, Y47b, Y47c, Y47d⟩ := S.c4 BK339.out
       obtain ⟨Z48a, Z48b, Z48c, Z48d, Y48a, Y48b, Y48c, Y48d⟩ := S.c4 BK340.out
       go_wp2
       go_ret
       exact ⟨S.eW, S.bG⟩
     ·rw [if_neg c41] at H
      have c41b0 : (a1_1 == 2) = false := beq_eq_false_iff_ne.mpr c41
      have c41b1 : (a1_1 != 2) = true := bne_iff_ne.mpr c41
      by_cases c49 : a0_2 = a1_2
      ·rw [if_pos c49] at H
       have c49b0 : (a0_2 == a1_2) = true := beq_iff_eq.mpr c49
       have c49b1 : (a0_2 != a1_2) = false := bne_eq_false_iff_eq.mpr c49
       clear c49
       replace H := S.bd H; obtain ⟨t343, A50, H⟩ := H
       (try dsimp only at H)
       replace H := S.bd H; obtain ⟨t344, A51, H⟩ := H
       (try dsimp only at H)
       replace H := S.bd H; obtain ⟨t345, A52, H⟩ := H
       (try dsimp only at H)
       replace H := S.bd H; obtain ⟨t346, A53, H⟩ := H
       (try dsimp only at H)
       replace H := S.bd H; obtain ⟨t347, A54, H⟩ := H
       (try dsimp only at H)
       obtain rfl := Option.some.inj H
       have hnb55 := NB339_340.out
       have hnc55 := NB340_339.out
       obtain ⟨Z56a, Z56b, Z56c, Z56d, Y56a, Y56b, Y56c, Y56d⟩ := S.c4 BK339.out
       obtain ⟨Z57a, Z57b, Z57c, Z57d, Y57a, Y57b, Y57c, Y57d⟩ := S.c4 BK340.out
       try go_wp2
       replace BK339 := Aside0.mk (blk_drew BK339.out)
       replace BK340 := Aside0.mk (blk_drew BK340.out)
       replace HB := Aside0.mk (below_drew1 HB.out)
       refine S.st (n := 28) (ds := []) #[false, false, false, false, false, false, false, false, false, false, false, false, false, false, false, false, false, false, false, false, false, false, false, false, false, false, false, false] (fun w_ h_ => have x_ := S.d4 (S.Q h_ BK339.out) (S.e4 (S.Q h_ BK340.out)); x_) (fun hHeld => ?_); refine with_tabW impl_Conflict.tab7 impl_Conflict.bits7 (fun HT_ HW_ => ?_)
       generalize wc.drew = w58 at BK339 BK340 HB hHeld ⊢
       refine S.pS 0 53 ?_
       refine S.pS 2 55 ?_
       refine S.tK 1 54 #[true, true, true, false, false, false, false, false, false, false, false, false, false, false, false, false, false, false, false, false, false, false, false, false, false, false, false, false] ?_
       refine S.tK 3 56 #[true, true, true, true, false, false, false, false, false, false, false, false, false, false, false, false, false, false, false, false, false, false, false, false, false, false, false, false] ?_
       refine S.pS 4 57 ?_
       refine S.pS 5 58 ?_
       refine S.pU 6 59 ?_
       refine S.pU 7 60 ?_
       refine S.pU 8 61 ?_
       refine S.pU 9 62 ?_
       refine S.pU 10 63 ?_
       refine S.pS 11 64 ?_
       refine S.pS 12 65 ?_
       refine S.pS 13 66 ?_
       refine S.pS 16 69 ?_
       refine S.pS 19 72 ?_
       refine S.pS 22 75 ?_
       refine S.tK 14 67 #[true, true, true, true, true, true, true, true, true, true, true, true, true, true, true, false, true, false, false, true, false, false, true, false, false, false, false, false] ?_
       refine S.tK 17 70 #[true, true, true, true, true, true, true, true, true, true, true, true, true, true, true, false, true, true, false, true, false, false, true, false, false, false, false, false] ?_
       refine S.tK 20 73 #[true, true, true, true, true, true, true, true, true, true, true, true, true, true, true, false, true, true, false, true, true, false, true, false, false, false, false, false] ?_
       refine S.tK 23 76 #[true, true, true, true, true, true, true, true, true, true, true, true, true, true, true, false, true, true, false, true, true, false, true, true, false, false, false, false] ?_
       refine S.oN 15 68 #[true, true, true, true, true, true, true, true, true, true, true, true, true, true, true, true, true, true, false, true, true, false, true, true, false, false, false, false] (fun K hK => ?_)
       refine S.go Try.func119 #[.int .i64 a0_2] ?_
       with_reducible refine (impl_InPlace.calls a0_2 t343 _ A50.out).mono ?_
       rintro e w' ⟨rfl, ⟨nd, rfl⟩⟩
       refine ⟨_, rfl, ?_⟩
       refine hK.out _ _ (S.d4 BK339.out (S.e4 BK340.out)) (fun hHeld => ?_)
       clear hK K
       refine S.nm 68 ?_
       refine S.oN 18 71 #[true, true, true, true, true, true, true, true, true, true, true, true, true, true, true, true, true, true, true, true, true, false, true, true, false, false, false, false] (fun K hK => ?_)
       refine S.go Try.func120 #[.int .i64 a0_3] ?_
       with_reducible refine (impl_OutPlace.calls a0_3 t344 _ A51.out).mono ?_
       rintro e w' ⟨rfl, ⟨nd, rfl⟩⟩
       refine ⟨_, rfl, ?_⟩
       refine hK.out _ _ (S.d4 BK339.out (S.e4 BK340.out)) (fun hHeld => ?_)
       clear hK K
       refine S.nm 71 ?_
       refine S.oN 21 74 #[true, true, true, true, true, true, true, true, true, true, true, true, true, true, true, true, true, true, true, true, true, true, true, true, false, false, false, false] (fun K hK => ?_)
       refine S.go Try.func119 #[.int .i64 a1_2] ?_
       with_reducible refine (impl_InPlace.calls a1_2 t345 _ A52.out).mono ?_
       rintro e w' ⟨rfl, ⟨nd, rfl⟩⟩
       refine ⟨_, rfl, ?_⟩
       refine hK.out _ _ (S.d4 BK339.out (S.e4 BK340.out)) (fun hHeld => ?_)
       clear hK K
       refine S.nm 74 ?_
       refine S.oN 24 77 #[true, true, true, true, true, true, true, true, true, true, true, true, true, true, true, true, true, true, true, true, true, true, true, true, true, false, false, false] (fun K hK => ?_)
       refine S.go Try.func120 #[.int .i64 a1_3] ?_
       with_reducible refine (impl_OutPlace.calls a1_3 t346 _ A53.out).mono ?_
       rintro e w' ⟨rfl, ⟨nd, rfl⟩⟩
       refine ⟨_, rfl, ?_⟩
       refine hK.out _ _ (S.d4 BK339.out (S.e4 BK340.out)) (fun hHeld => ?_)
       clear hK K
       refine S.nm 77 ?_
       refine S.oN 25 78 #[true, true, true, true, true, true, true, true, true, true, true, true, true, true, true, true, true, true, true, true, true, true, true, true, true, true, false, false] (fun K hK => ?_)
       refine S.go Try.func118 #[.int .i64 t343, .int .i64 t344, .int .i64 t345, .int .i64 t346] ?_
       with_reducible refine (impl_Interleave.calls kj2 t343 t344 t345 t346 t347 _ A54.out).mono ?_
       rintro e w59 ⟨rfl, hb⟩
       refine ⟨_, rfl, ?_⟩
       replace BK339 := S.kb BK339 hb
       replace BK340 := S.kb BK340 hb
       replace HB := S.sG hb
       (try clear hb)
       (try clear hb2)
       (try clear hk)
       (try clear hi)
       refine hK.out _ _ (S.d4 BK339.out (S.e4 BK340.out)) (fun hHeld => ?_)
       clear hK K
       refine S.nm 78 ?_
       refine S.pS 26 79 ?_
       refine S.pS 27 4 ?_
       refine done_ (done_of HT_.out (by kernel_rfl)) ?_
       try go_wp2
       go_ret
       exact ⟨S.eW, S.bG⟩
      ·rw [if_neg c49] at H
       have c49b0 : (a0_2 == a1_2) = false := beq_eq_false_iff_ne.mpr c49
       have c49b1 : (a0_2 != a1_2) = true := bne_iff_ne.mpr c49
       by_cases c60 : a0_3 = a1_3
       ·rw [if_pos c60] at H
        have c60b0 : (a0_3 == a1_3) = true := beq_iff_eq.mpr c60
        have c60b1 : (a0_3 != a1_3) = false := bne_eq_false_iff_eq.mpr c60
        clear c60
        obtain rfl := Option.some.inj H
        have hnb61 := NB339_340.out
        have hnc61 := NB340_339.out
        obtain ⟨Z62a, Z62b, Z62c, Z62d, Y62a, Y62b, Y62c, Y62d⟩ := S.c4 BK339.out
        obtain ⟨Z63a, Z63b, Z63c, Z63d, Y63a, Y63b, Y63c, Y63d⟩ := S.c4 BK340.out
        try go_wp2
        replace BK339 := Aside0.mk (blk_drew BK339.out)
        replace BK340 := Aside0.mk (blk_drew BK340.out)
        replace HB := Aside0.mk (below_drew1 HB.out)
        refine S.st (n := 28) (ds := []) #[false, false, false, false, false, false, false, false, false, false, false, false, false, false, false, false, false, false, false, false, false, false, false, false, false, false, false, false] (fun w_ h_ => have x_ := S.d4 (S.Q h_ BK339.out) (S.e4 (S.Q h_ BK340.out)); x_) (fun hHeld => ?_); refine with_tabW impl_Conflict.tab7 impl_Conflict.bits7 (fun HT_ HW_ => ?_)
        generalize wc.drew = w64 at BK339 BK340 HB hHeld ⊢
        refine S.pS 0 53 ?_
        refine S.pS 2 55 ?_
        refine S.tK 1 54 #[true, true, true, false, false, false, false, false, false, false, false, false, false, false, false, false, false, false, false, false, false, false, false, false, false, false, false, false] ?_
        refine S.tK 3 56 #[true, true, true, true, false, false, false, false, false, false, false, false, false, false, false, false, false, false, false, false, false, false, false, false, false, false, false, false] ?_
        refine S.pS 4 57 ?_
        refine S.pS 5 58 ?_
        refine S.pS 6 59 ?_
        refine S.pS 8 61 ?_
        refine S.tK 7 60 #[true, true, true, true, true, true, true, true, true, false, false, false, false, false, false, false, false, false, false, false, false, false, false, false, false, false, false, false] ?_
        refine S.tK 9 62 #[true, true, true, true, true, true, true, true, true, true, false, false, false, false, false, false, false, false, false, false, false, false, false, false, false, false, false, false] ?_
        refine S.pS 10 63 ?_
        refine S.pS 11 64 ?_
        refine S.pS 12 65 ?_
        refine S.pU 13 66 ?_
        refine S.pU 14 67 ?_
        refine S.pU 15 68 ?_
        refine S.pU 16 69 ?_
        refine S.pU 17 70 ?_
        refine S.pU 18 71 ?_
        refine S.pU 19 72 ?_
        refine S.pU 20 73 ?_
        refine S.pU 21 74 ?_
        refine S.pU 22 75 ?_
        refine S.pU 23 76 ?_
        refine S.pU 24 77 ?_
        refine S.pU 25 78 ?_
        refine S.pS 26 79 ?_
        refine S.pS 27 4 ?_
        refine done_ (done_of HT_.out (by kernel_rfl)) ?_
        try go_wp2
        go_ret
        exact ⟨S.eW, S.bG⟩
       ·rw [if_neg c60] at H
        have c60b0 : (a0_3 == a1_3) = false := beq_eq_false_iff_ne.mpr c60
        have c60b1 : (a0_3 != a1_3) = true := bne_iff_ne.mpr c60
        replace H := S.bd H; obtain ⟨t348, A65, H⟩ := H
        (try dsimp only at H)
        replace H := S.bd H; obtain ⟨t349, A66, H⟩ := H
        (try dsimp only at H)
        replace H := S.bd H; obtain ⟨t350, A67, H⟩ := H
        (try dsimp only at H)
        replace H := S.bd H; obtain ⟨t351, A68, H⟩ := H
        (try dsimp only at H)
        replace H := S.bd H; obtain ⟨t352, A69, H⟩ := H
        (try dsimp only at H)
        obtain rfl := Option.some.inj H
        have hnb70 := NB339_340.out
        have hnc70 := NB340_339.out
        obtain ⟨Z71a, Z71b, Z71c, Z71d, Y71a, Y71b, Y71c, Y71d⟩ := S.c4 BK339.out
        obtain ⟨Z72a, Z72b, Z72c, Z72d, Y72a, Y72b, Y72c, Y72d⟩ := S.c4 BK340.out
        try go_wp2
        replace BK339 := Aside0.mk (blk_drew BK339.out)
        replace BK340 := Aside0.mk (blk_drew BK340.out)
        replace HB := Aside0.mk (below_drew1 HB.out)
        refine S.st (n := 28) (ds := []) #[false, false, false, false, false, false, false, false, false, false, false, false, false, false, false, false, false, false, false, false, false, false, false, false, false, false, false, false] (fun w_ h_ => have x_ := S.d4 (S.Q h_ BK339.out) (S.e4 (S.Q h_ BK340.out)); x_) (fun hHeld => ?_); refine with_tabW impl_Conflict.tab7 impl_Conflict.bits7 (fun HT_ HW_ => ?_)
        generalize wc.drew = w73 at BK339 BK340 HB hHeld ⊢
        refine S.pS 0 53 ?_
        refine S.pS 2 55 ?_
        refine S.tK 1 54 #[true, true, true, false, false, false, false, false, false, false, false, false, false, false, false, false, false, false, false, false, false, false, false, false, false, false, false, false] ?_
        refine S.tK 3 56 #[true, true, true, true, false, false, false, false, false, false, false, false, false, false, false, false, false, false, false, false, false, false, false, false, false, false, false, false] ?_
        refine S.pS 4 57 ?_
        refine S.pS 5 58 ?_
        refine S.pS 6 59 ?_
        refine S.pS 8 61 ?_
        refine S.tK 7 60 #[true, true, true, true, true, true, true, true, true, false, false, false, false, false, false, false, false, false, false, false, false, false, false, false, false, false, false, false] ?_
        refine S.tK 9 62 #[true, true, true, true, true, true, true, true, true, true, false, false, false, false, false, false, false, false, false, false, false, false, false, false, false, false, false, false] ?_
        refine S.pS 10 63 ?_
        refine S.pS 11 64 ?_
        refine S.pS 12 65 ?_
        refine S.pS 13 66 ?_
        refine S.pS 16 69 ?_
        refine S.pS 19 72 ?_
        refine S.pS 22 75 ?_
        refine S.tK 14 67 #[true, true, true, true, true, true, true, true, true, true, true, true, true, true, true, false, true, false, false, true, false, false, true, false, false, false, false, false] ?_
        refine S.tK 17 70 #[true, true, true, true, true, true, true, true, true, true, true, true, true, true, true, false, true, true, false, true, false, false, true, false, false, false, false, false] ?_
        refine S.tK 20 73 #[true, true, true, true, true, true, true, true, true, true, true, true, true, true, true, false, true, true, false, true, true, false, true, false, false, false, false, false] ?_
        refine S.tK 23 76 #[true, true, true, true, true, true, true, true, true, true, true, true, true, true, true, false, true, true, false, true, true, false, true, true, false, false, false, false] ?_
        refine S.oN 15 68 #[true, true, true, true, true, true, true, true, true, true, true, true, true, true, true, true, true, true, false, true, true, false, true, true, false, false, false, false] (fun K hK => ?_)
        refine S.go Try.func119 #[.int .i64 a0_2] ?_
        with_reducible refine (impl_InPlace.calls a0_2 t348 _ A65.out).mono ?_
        rintro e w' ⟨rfl, ⟨nd, rfl⟩⟩
        refine ⟨_, rfl, ?_⟩
        refine hK.out _ _ (S.d4 BK339.out (S.e4 BK340.out)) (fun hHeld => ?_)
        clear hK K
        refine S.nm 68 ?_
        refine S.oN 18 71 #[true, true, true, true, true, true, true, true, true, true, true, true, true, true, true, true, true, true, true, true, true, false, true, true, false, false, false, false] (fun K hK => ?_)
        refine S.go Try.func120 #[.int .i64 a0_3] ?_
        with_reducible refine (impl_OutPlace.calls a0_3 t349 _ A66.out).mono ?_
        rintro e w' ⟨rfl, ⟨nd, rfl⟩⟩
        refine ⟨_, rfl, ?_⟩
        refine hK.out _ _ (S.d4 BK339.out (S.e4 BK340.out)) (fun hHeld => ?_)
        clear hK K
        refine S.nm 71 ?_
        refine S.oN 21 74 #[true, true, true, true, true, true, true, true, true, true, true, true, true, true, true, true, true, true, true, true, true, true, true, true, false, false, false, false] (fun K hK => ?_)
        refine S.go Try.func119 #[.int .i64 a1_2] ?_
        with_reducible refine (impl_InPlace.calls a1_2 t350 _ A67.out).mono ?_
        rintro e w' ⟨rfl, ⟨nd, rfl⟩⟩
        refine ⟨_, rfl, ?_⟩
        refine hK.out _ _ (S.d4 BK339.out (S.e4 BK340.out)) (fun hHeld => ?_)
        clear hK K
        refine S.nm 74 ?_
        refine S.oN 24 77 #[true, true, true, true, true, true, true, true, true, true, true, true, true, true, true, true, true, true, true, true, true, true, true, true, true, false, false, false] (fun K hK => ?_)
        refine S.go Try.func120 #[.int .i64 a1_3] ?_
        with_reducible refine (impl_OutPlace.calls a1_3 t351 _ A68.out).mono ?_
        rintro e w' ⟨rfl, ⟨nd, rfl⟩⟩
        refine ⟨_, rfl, ?_⟩
        refine hK.out _ _ (S.d4 BK339.out (S.e4 BK340.out)) (fun hHeld => ?_)
        clear hK K
        refine S.nm 77 ?_
        refine S.oN 25 78 #[true, true, true, true, true, true, true, true, true, true, true, true, true, true, true, true, true, true, true, true, true, true, true, true, true, true, false, false] (fun K hK => ?_)
        refine S.go Try.func118 #[.int .i64 t348, .int .i64 t349, .int .i64 t350, .int .i64 t351] ?_
        with_reducible refine (impl_Interleave.calls kj2 t348 t349 t350 t351 t352 _ A69.out).mono ?_
        rintro e w74 ⟨rfl, hb⟩
        refine ⟨_, rfl, ?_⟩
        replace BK339 := S.kb BK339 hb
        replace BK340 := S.kb BK340 hb
        replace HB := S.sG hb
        (try clear hb)
        (try clear hb2)
        (try clear hk)
        (try clear hi)
        refine hK.out _ _ (S.d4 BK339.out (S.e4 BK340.out)) (fun hHeld => ?_)
        clear hK K
        refine S.nm 78 ?_
        refine S.pS 26 79 ?_
        refine S.pS 27 4 ?_
        refine done_ (done_of HT_.out (by kernel_rfl)) ?_
        try go_wp2
        go_ret
        exact ⟨S.eW, S.bG⟩

end Go.Proofs.Ytjgigmghcfdomaa.PFnExactMakeSwitch
