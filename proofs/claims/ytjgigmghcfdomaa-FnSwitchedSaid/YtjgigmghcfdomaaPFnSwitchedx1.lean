/- Printed by a program: what the Go functions compute, as plain Lean functions (.f), and the proofs that the machine's calls come to just that (.calls). -/
import Derived.Test.YtjgigmghcfdomaaPFnSwitchedx0
namespace Go.Proofs.Ytjgigmghcfdomaa.PFnSwitched
open Go.RowKit Go.Proofs.YtjgigmghcfdomaaW.PrintWords Go.Proofs.YtjgigmghcfdomaaW.PrintLast Go.Proofs.YtjgigmghcfdomaaW.PrintMore
attribute [local go_sem] max2_int min2_int max_two min_two max_three min_three max_four min_four   -- for this text's walks alone
set_option linter.unusedVariables false
set_option linter.unusedSimpArgs false
set_option maxHeartbeats 8000000
set_option maxRecDepth 100000
/-! ### impl_Conflict: function 89 -/
def impl_Conflict.j0 : Nat → Bool → Int → Int → Int → Int → Int → Int → Int → Int → Option (Bool)
 | 0, _, _, _, _, _, _, _, _, _ => none
 | k + 1, x22, x123000, x123001, x123002, x123003, x124000, x124001, x124002, x124003 => if x22 = true then (some false) else (if x123001 = 2 then (if x124002 = x123002 then (some true) else (some (x124003 == x123002))) else (if x124001 = 2 then (if x123002 = x124002 then (some true) else (some (x123003 == x124002))) else (if x123002 = x124002 then ((impl_InPlace.f x123002).bind fun t126 => ((impl_OutPlace.f x123003).bind fun t127 => ((impl_InPlace.f x124002).bind fun t128 => ((impl_OutPlace.f x124003).bind fun t129 => ((impl_Interleave.f k t126 t127 t128 t129).bind fun t130 => (some t130)))))) else (if x123003 = x124003 then (some true) else ((impl_InPlace.f x123002).bind fun t131 => ((impl_OutPlace.f x123003).bind fun t132 => ((impl_InPlace.f x124002).bind fun t133 => ((impl_OutPlace.f x124003).bind fun t134 => ((impl_Interleave.f k t131 t132 t133 t134).bind fun t135 => (some t135))))))))))
def impl_Conflict.f (k : Nat) (a0_0 : Int) (a0_1 : Int) (a0_2 : Int) (a0_3 : Int) (a1_0 : Int) (a1_1 : Int) (a1_2 : Int) (a1_3 : Int) : Option (Bool) := (impl_IsPath.f a0_0 a0_1 a0_2 a0_3).bind fun t124 => (if t124 = true then ((impl_IsPath.f a1_0 a1_1 a1_2 a1_3).bind fun t125 => (if t125 = true then (if a0_1 = 2 then (impl_Conflict.j0 k (a1_1 == 2) a0_0 a0_1 a0_2 a0_3 a1_0 a1_1 a1_2 a1_3) else (impl_Conflict.j0 k false a0_0 a0_1 a0_2 a0_3 a1_0 a1_1 a1_2 a1_3)) else (impl_Conflict.j0 k true a0_0 a0_1 a0_2 a0_3 a1_0 a1_1 a1_2 a1_3))) else (impl_Conflict.j0 k true a0_0 a0_1 a0_2 a0_3 a1_0 a1_1 a1_2 a1_3))
def impl_Conflict.T7 : Bool × List (List Nat × List Nat) := (true, [([], []), ([0], [0]), ([], []), ([2], [2]), ([1, 3], [1, 3]), ([4], [4]), ([5], [5]), ([6, 5], [5, 6]), ([5], [5]), ([8, 5], [5, 8]), ([7, 9, 5], [5, 7, 9]), ([5, 10], [5, 10]), ([11, 5], [11]), ([12], [12]), ([13, 12], [12, 13]), ([14, 12, 12], [12, 14]), ([12], [12]), ([16, 12], [12, 16]), ([17, 15, 12], [12, 17]), ([12], [12]), ([19, 12], [12, 19]), ([20, 18, 12], [12, 20]), ([12], [12]), ([22, 12], [12, 22]), ([23, 21, 12], [12, 23]), ([15, 18, 21, 24, 24, 12], [12, 15, 18, 21, 24]), ([12, 25], [12, 25]), ([26, 25, 0, 1, 2, 3, 4, 5, 6, 7, 8, 9, 10, 11, 12, 13, 14, 15, 16, 17, 18, 19, 20, 21, 22, 23, 24, 25, 26], [26])])
def impl_Conflict.B7 : List Nat := [0, 1, 0, 4, 15, 31, 63, 127, 63, 319, 1023, 2047, 4095, 8191, 16383, 32767, 8191, 73727, 262143, 8191, 532479, 2097151, 8191, 4202495, 16777215, 33554431, 67108863, 134217727]
theorem impl_Conflict.tab7 : rtab .any (opsOf Try.f89 7) = impl_Conflict.T7 := by kernel_rfl
theorem impl_Conflict.bits7 : waitsOk impl_Conflict.T7.2 impl_Conflict.B7 = true := by kernel_rfl
theorem impl_Conflict.calls (k : Nat) (a0_0 : Int) (a0_1 : Int) (a0_2 : Int) (a0_3 : Int) (a1_0 : Int) (a1_1 : Int) (a1_2 : Int) (a1_3 : Int) (r : Bool) (w : World) (h : impl_Conflict.f k a0_0 a0_1 a0_2 a0_3 a1_0 a1_1 a1_2 a1_3 = some r) :
  Calls Try.prog 89 #[.agg #[.int .i64 a0_0, .int .i64 a0_1, .int .i64 a0_2, .int .i64 a0_3], .agg #[.int .i64 a1_0, .int .i64 a1_1, .int .i64 a1_2, .int .i64 a1_3]] w fun e w' => e = .returned (.bool r) ∧ Below w.heap.size w w' := by
 have hu71 := Try.underlying71
 have HB := Aside0.mk (Below.refl w.heap.size w)
 have H : ((impl_IsPath.f a0_0 a0_1 a0_2 a0_3).bind fun t124 => (if t124 = true then ((impl_IsPath.f a1_0 a1_1 a1_2 a1_3).bind fun t125 => (if t125 = true then (if a0_1 = 2 then (impl_Conflict.j0 k (a1_1 == 2) a0_0 a0_1 a0_2 a0_3 a1_0 a1_1 a1_2 a1_3) else (impl_Conflict.j0 k false a0_0 a0_1 a0_2 a0_3 a1_0 a1_1 a1_2 a1_3)) else (impl_Conflict.j0 k true a0_0 a0_1 a0_2 a0_3 a1_0 a1_1 a1_2 a1_3))) else (impl_Conflict.j0 k true a0_0 a0_1 a0_2 a0_3 a1_0 a1_1 a1_2 a1_3))) = some r := h
 clear h
 have HC3 := Aside0.mk H
 clear H
 go_enter Try.func89, Try.ntmps89
 go_upto_region 1 with (first | ((with_reducible refine gate_dst (N := 2) rfl ?_); refine S.bx 2 (cs := #[.int .i64 a0_0, .int .i64 a0_1, .int .i64 a0_2, .int .i64 a0_3]) (t := 71) ?_; intro gb122 hg w4 hbox hb; have BK122 := Aside0.mk hbox; have GW122 := S.geA hg; have GE122 := S.geA hg; replace HB := S.sA hb; clear hb hbox hg) | ((with_reducible refine gate_dst (N := 3) rfl ?_); refine S.bx 3 (cs := #[.int .i64 a1_0, .int .i64 a1_1, .int .i64 a1_2, .int .i64 a1_3]) (t := 71) ?_; intro gb123 hg w5 hbox hb; have BK123 := Aside0.mk hbox; have GW123 := S.geG hg; have GE123 := S.geG hg; replace HB := S.sG hb; have NB122_123 := S.nl hg BK122; have NB123_122 := S.ng hg BK122; replace BK122 := S.kb BK122 hb; clear hb hbox hg))
 (try simp only [Act.put, List.setIfInBounds_toArray, List.set_cons_zero, List.set_cons_succ])
 go_cut [22] (fun v22 wc => ∃ (kq : Nat) (x22_2 : Bool), v22 = .bool x22_2 ∧ Aside0 (impl_Conflict.j0 kq x22_2 a0_0 a0_1 a0_2 a0_3 a1_0 a1_1 a1_2 a1_3 = some r) ∧ Aside0 (kq ≤ k) ∧ Aside0 (wc.heap[gb122]? = some (.cells #[.int .i64 a0_0, .int .i64 a0_1, .int .i64 a0_2, .int .i64 a0_3] 71 (0, 0))) ∧ Aside0 (wc.heap[gb123]? = some (.cells #[.int .i64 a1_0, .int .i64 a1_1, .int .i64 a1_2, .int .i64 a1_3] 71 (0, 0))) ∧ Aside0 (Below w.heap.size w wc))
 case first =>
  have H := HC3.out
  clear HC3
  replace H := S.bd H; obtain ⟨t124, A6, H⟩ := H
  (try dsimp only at H)
  replace H := S.db H; rcases H with ⟨rfl, H⟩ | ⟨rfl, H⟩
  ·replace H := S.bd H; obtain ⟨t125, A8, H⟩ := H
   (try dsimp only at H)
   replace H := S.db H; rcases H with ⟨rfl, H⟩ | ⟨rfl, H⟩
   ·by_cases c10 : a0_1 = 2
    ·rw [if_pos c10] at H
     have c10b0 : (a0_1 == 2) = true := beq_iff_eq.mpr c10
     have c10b1 : (a0_1 != 2) = false := bne_eq_false_iff_eq.mpr c10
     clear c10
     (first | rw [c10b0] | (simp only [i64_w, i32_w]; rw [c10b0]) | skip)
     have H' := Aside0.mk H
     clear H
     have hnb11 := NB122_123.out
     have hnc11 := NB123_122.out
     obtain ⟨Z12a, Z12b, Z12c, Z12d, Y12a, Y12b, Y12c, Y12d⟩ := S.c4 BK122.out
     go_wp2_with (first | ((with_reducible refine gate_callee (f := 117) rfl ?_); refine S.gL (some 6) Try.func117 #[.agg #[.int .i64 a0_0, .int .i64 a0_1, .int .i64 a0_2, .int .i64 a0_3]] ?_; (with_reducible refine (impl_IsPath.calls a0_0 a0_1 a0_2 a0_3 true _ A6.out).mono ?_); rintro e w13 ⟨rfl, hb⟩; refine ⟨_, rfl, ?_⟩; replace BK122 := S.kb BK122 hb; replace BK123 := S.kb BK123 hb; replace HB := S.sG hb; (try clear hb); obtain ⟨Z14a, Z14b, Z14c, Z14d, Y14a, Y14b, Y14c, Y14d⟩ := S.c4 BK123.out) | (go_at_call 117; (with_reducible refine (impl_IsPath.calls a1_0 a1_1 a1_2 a1_3 true _ A8.out).mono ?_); rintro e w15 ⟨rfl, hb⟩; replace BK122 := S.kb BK122 hb; replace BK123 := S.kb BK123 hb; replace HB := S.sG hb; (try clear hb); obtain ⟨Z16a, Z16b, Z16c, Z16d, Y16a, Y16b, Y16c, Y16d⟩ := S.c4 BK122.out; obtain ⟨Z17a, Z17b, Z17c, Z17d, Y17a, Y17b, Y17c, Y17d⟩ := S.c4 BK123.out))
     go_meet
     case rel => exact ⟨_, ((a1_1 == 2)), S.eA, H', S.le, ⟨S.uB BK122.out⟩, ⟨S.uB BK123.out⟩, ⟨S.bG⟩⟩
    ·rw [if_neg c10] at H
     have c10b0 : (a0_1 == 2) = false := beq_eq_false_iff_ne.mpr c10
     have c10b1 : (a0_1 != 2) = true := bne_iff_ne.mpr c10
     (first | rw [c10b0] | (simp only [i64_w, i32_w]; rw [c10b0]) | skip)
     have H' := Aside0.mk H
     clear H
     have hnb18 := NB122_123.out
     have hnc18 := NB123_122.out
     obtain ⟨Z19a, Z19b, Z19c, Z19d, Y19a, Y19b, Y19c, Y19d⟩ := S.c4 BK122.out
     go_wp2_with (first | ((with_reducible refine gate_callee (f := 117) rfl ?_); refine S.gL (some 6) Try.func117 #[.agg #[.int .i64 a0_0, .int .i64 a0_1, .int .i64 a0_2, .int .i64 a0_3]] ?_; (with_reducible refine (impl_IsPath.calls a0_0 a0_1 a0_2 a0_3 true _ A6.out).mono ?_); rintro e w20 ⟨rfl, hb⟩; refine ⟨_, rfl, ?_⟩; replace BK122 := S.kb BK122 hb; replace BK123 := S.kb BK123 hb; replace HB := S.sG hb; (try clear hb); obtain ⟨Z21a, Z21b, Z21c, Z21d, Y21a, Y21b, Y21c, Y21d⟩ := S.c4 BK123.out) | (go_at_call 117; (with_reducible refine (impl_IsPath.calls a1_0 a1_1 a1_2 a1_3 true _ A8.out).mono ?_); rintro e w22 ⟨rfl, hb⟩; replace BK122 := S.kb BK122 hb; replace BK123 := S.kb BK123 hb; replace HB := S.sG hb; (try clear hb); obtain ⟨Z23a, Z23b, Z23c, Z23d, Y23a, Y23b, Y23c, Y23d⟩ := S.c4 BK122.out))
     go_meet
     case rel => exact ⟨_, (false), S.eA, H', S.le, ⟨S.uB BK122.out⟩, ⟨S.uB BK123.out⟩, ⟨S.bG⟩⟩
   ·have H' := Aside0.mk H
    clear H
    have hnb24 := NB122_123.out
    have hnc24 := NB123_122.out
    obtain ⟨Z25a, Z25b, Z25c, Z25d, Y25a, Y25b, Y25c, Y25d⟩ := S.c4 BK122.out
    go_wp2_with (first | ((with_reducible refine gate_callee (f := 117) rfl ?_); refine S.gL (some 6) Try.func117 #[.agg #[.int .i64 a0_0, .int .i64 a0_1, .int .i64 a0_2, .int .i64 a0_3]] ?_; (with_reducible refine (impl_IsPath.calls a0_0 a0_1 a0_2 a0_3 true _ A6.out).mono ?_); rintro e w26 ⟨rfl, hb⟩; refine ⟨_, rfl, ?_⟩; replace BK122 := S.kb BK122 hb; replace BK123 := S.kb BK123 hb; replace HB := S.sG hb; (try clear hb); obtain ⟨Z27a, Z27b, Z27c, Z27d, Y27a, Y27b, Y27c, Y27d⟩ := S.c4 BK123.out) | (go_at_call 117; (with_reducible refine (impl_IsPath.calls a1_0 a1_1 a1_2 a1_3 false _ A8.out).mono ?_); rintro e w28 ⟨rfl, hb⟩; replace BK122 := S.kb BK122 hb; replace BK123 := S.kb BK123 hb; replace HB := S.sG hb; (try clear hb)))
    go_meet
    case rel => exact ⟨_, (true), S.eA, H', S.le, ⟨S.uB BK122.out⟩, ⟨S.uB BK123.out⟩, ⟨S.bG⟩⟩
  ·have H' := Aside0.mk H
   clear H
   have hnb29 := NB122_123.out
   have hnc29 := NB123_122.out
   obtain ⟨Z30a, Z30b, Z30c, Z30d, Y30a, Y30b, Y30c, Y30d⟩ := S.c4 BK122.out
   go_wp2_with (first | ((with_reducible refine gate_callee (f := 117) rfl ?_); refine S.gL (some 6) Try.func117 #[.agg #[.int .i64 a0_0, .int .i64 a0_1, .int .i64 a0_2, .int .i64 a0_3]] ?_; (with_reducible refine (impl_IsPath.calls a0_0 a0_1 a0_2 a0_3 false _ A6.out).mono ?_); rintro e w31 ⟨rfl, hb⟩; refine ⟨_, rfl, ?_⟩; replace BK122 := S.kb BK122 hb; replace BK123 := S.kb BK123 hb; replace HB := S.sG hb; (try clear hb)))
   go_meet
   case rel => exact ⟨_, (true), S.eA, H', S.le, ⟨S.uB BK122.out⟩, ⟨S.uB BK123.out⟩, ⟨S.bG⟩⟩
 case rest =>
  clear HC3
  obtain ⟨kq, x22_2, rfl, HA, HJ2, BK122, BK123, HB⟩ := hcut
  cases kq with
  | zero => exact absurd HA.out (by simp [impl_Conflict.j0])
  | succ kj2 =>
   have H := HA.out
   clear HA
   simp only [impl_Conflict.j0] at H
   replace H := S.db H; rcases H with ⟨rfl, H⟩ | ⟨rfl, H⟩
   ·obtain rfl := Option.some.inj H
    go_wp2
    go_ret
    exact ⟨S.eW, S.bG⟩
   ·by_cases c33 : a0_1 = 2
    ·rw [if_pos c33] at H
     have c33b0 : (a0_1 == 2) = true := beq_iff_eq.mpr c33
     have c33b1 : (a0_1 != 2) = false := bne_eq_false_iff_eq.mpr c33
     clear c33
     by_cases c34 : a1_2 = a0_2
     ·rw [if_pos c34] at H
      have c34b0 : (a1_2 == a0_2) = true := beq_iff_eq.mpr c34
      have c34b1 : (a1_2 != a0_2) = false := bne_eq_false_iff_eq.mpr c34
      clear c34
      obtain rfl := Option.some.inj H
      have hnb35 := NB122_123.out
      have hnc35 := NB123_122.out
      obtain ⟨Z36a, Z36b, Z36c, Z36d, Y36a, Y36b, Y36c, Y36d⟩ := S.c4 BK122.out
      obtain ⟨Z37a, Z37b, Z37c, Z37d, Y37a, Y37b, Y37c, Y37d⟩ := S.c4 BK123.out
      go_wp2
      go_ret
      exact ⟨S.eW, S.bG⟩
     ·rw [if_neg c34] at H
      have c34b0 : (a1_2 == a0_2) = false := beq_eq_false_iff_ne.mpr c34
      have c34b1 : (a1_2 != a0_2) = true := bne_iff_ne.mpr c34
      obtain rfl := Option.some.inj H
      have hnb38 := NB122_123.out
      have hnc38 := NB123_122.out
      obtain ⟨Z39a, Z39b, Z39c, Z39d, Y39a, Y39b, Y39c, Y39d⟩ := S.c4 BK122.out
      obtain ⟨Z40a, Z40b, Z40c, Z40d, Y40a, Y40b, Y40c, Y40d⟩ := S.c4 BK123.out
      go_wp2
      go_ret
      exact ⟨S.eW, S.bG⟩
    ·rw [if_neg c33] at H
     have c33b0 : (a0_1 == 2) = false := beq_eq_false_iff_ne.mpr c33
     have c33b1 : (a0_1 != 2) = true := bne_iff_ne.mpr c33
     by_cases c41 : a1_1 = 2
     ·rw [if_pos c41] at H
      have c41b0 : (a1_1 == 2) = true := beq_iff_eq.mpr c41
      have c41b1 : (a1_1 != 2) = false := bne_eq_false_iff_eq.mpr c41
      clear c41
      by_cases c42 : a0_2 = a1_2
      ·rw [if_pos c42] at H
       have c42b0 : (a0_2 == a1_2) = true := beq_iff_eq.mpr c42
       have c42b1 : (a0_2 != a1_2) = false := bne_eq_false_iff_eq.mpr c42
       clear c42
       obtain rfl := Option.some.inj H
       have hnb43 := NB122_123.out
       have hnc43 := NB123_122.out
       obtain ⟨Z44a, Z44b, Z44c, Z44d, Y44a, Y44b, Y44c, Y44d⟩ := S.c4 BK122.out
       obtain ⟨Z45a, Z45b, Z45c, Z45d, Y45a, Y45b, Y45c, Y45d⟩ := S.c4 BK123.out
       go_wp2
       go_ret
       exact ⟨S.eW, S.bG⟩
      ·rw [if_neg c42] at H
       have c42b0 : (a0_2 == a1_2) = false := beq_eq_false_iff_ne.mpr c42
       have c42b1 : (a0_2 != a1_2) = true := bne_iff_ne.mpr c42
       obtain rfl := Option.some.inj H
       have hnb46 := NB122_123.out
       have hnc46 := NB123_122.out
       obtain ⟨Z47a, Z47b, Z47c, Z47d, Y47a, Y47b, Y47c, Y47d⟩ := S.c4 BK122.out
       obtain ⟨Z48a, Z48b, Z48c, Z48d, Y48a, Y48b, Y48c, Y48d⟩ := S.c4 BK123.out
       go_wp2
       go_ret
       exact ⟨S.eW, S.bG⟩
     ·rw [if_neg c41] at H
      have c41b0 : (a1_1 == 2) = false := beq_eq_false_iff_ne.mpr c41
      have c41b1 : (a1_1 != 2) = true := bne_iff_ne.mpr c41
      by_cases c49 : a0_2 = a1_2
      ·rw [if_pos c49] at H
       have c49b0 : (a0_2 == a1_2) = true := beq_iff_eq.mpr c49
       have c49b1 : (a0_2 != a1_2) = false := bne_eq_false_iff_eq.mpr c49
       clear c49
       replace H := S.bd H; obtain ⟨t126, A50, H⟩ := H
       (try dsimp only at H)
       replace H := S.bd H; obtain ⟨t127, A51, H⟩ := H
       (try dsimp only at H)
       replace H := S.bd H; obtain ⟨t128, A52, H⟩ := H
       (try dsimp only at H)
       replace H := S.bd H; obtain ⟨t129, A53, H⟩ := H
       (try dsimp only at H)
       replace H := S.bd H; obtain ⟨t130, A54, H⟩ := H
       (try dsimp only at H)
       obtain rfl := Option.some.inj H
       have hnb55 := NB122_123.out
       have hnc55 := NB123_122.out
       obtain ⟨Z56a, Z56b, Z56c, Z56d, Y56a, Y56b, Y56c, Y56d⟩ := S.c4 BK122.out
       obtain ⟨Z57a, Z57b, Z57c, Z57d, Y57a, Y57b, Y57c, Y57d⟩ := S.c4 BK123.out
       try go_wp2
       replace BK122 := Aside0.mk (blk_drew BK122.out)
       replace BK123 := Aside0.mk (blk_drew BK123.out)
       replace HB := Aside0.mk (below_drew1 HB.out)
       refine S.st (n := 28) (ds := []) #[false, false, false, false, false, false, false, false, false, false, false, false, false, false, false, false, false, false, false, false, false, false, false, false, false, false, false, false] (fun w_ h_ => have x_ := S.d4 (S.Q h_ BK122.out) (S.e4 (S.Q h_ BK123.out)); x_) (fun hHeld => ?_); refine with_tabW impl_Conflict.tab7 impl_Conflict.bits7 (fun HT_ HW_ => ?_)
       generalize wc.drew = w58 at BK122 BK123 HB hHeld ⊢
       refine S.pS 0 53 ?_
       refine S.pS 2 55 ?_
       refine S.tK 1 54 #[true, true, true, false, false, false, false, false, false, false, false, false, false, false, false, false, false, false, false, false, false, false, false, false, false, false, false, false] ?_
       refine S.tK 3 56 #[true, true, true, true, false, false, false, false, false, false, false, false, false, false, false, false, false, false, false, false, false, false, false, false, false, false, false, false] ?_
       refine S.pS 4 57 ?_
       refine S.pS 5 58 ?_
       refine S.pU 6 59 ?_
       refine S.pU 7 60 ?_
       refine S.pU 8 61 ?_
       refine S.pU 9 62 ?_
       refine S.pU 10 63 ?_
       refine S.pS 11 64 ?_
       refine S.pS 12 65 ?_
       refine S.pS 13 66 ?_
       refine S.pS 16 69 ?_
       refine S.pS 19 72 ?_
       refine S.pS 22 75 ?_
       refine S.tK 14 67 #[true, true, true, true, true, true, true, true, true, true, true, true, true, true, true, false, true, false, false, true, false, false, true, false, false, false, false, false] ?_
       refine S.tK 17 70 #[true, true, true, true, true, true, true, true, true, true, true, true, true, true, true, false, true, true, false, true, false, false, true, false, false, false, false, false] ?_
       refine S.tK 20 73 #[true, true, true, true, true, true, true, true, true, true, true, true, true, true, true, false, true, true, false, true, true, false, true, false, false, false, false, false] ?_
       refine S.tK 23 76 #[true, true, true, true, true, true, true, true, true, true, true, true, true, true, true, false, true, true, false, true, true, false, true, true, false, false, false, false] ?_
       refine S.oN 15 68 #[true, true, true, true, true, true, true, true, true, true, true, true, true, true, true, true, true, true, false, true, true, false, true, true, false, false, false, false] (fun K hK => ?_)
       refine S.go Try.func119 #[.int .i64 a0_2] ?_
       with_reducible refine (impl_InPlace.calls a0_2 t126 _ A50.out).mono ?_
       rintro e w' ⟨rfl, ⟨nd, rfl⟩⟩
       refine ⟨_, rfl, ?_⟩
       refine hK.out _ _ (S.d4 BK122.out (S.e4 BK123.out)) (fun hHeld => ?_)
       clear hK K
       refine S.nm 68 ?_
       refine S.oN 18 71 #[true, true, true, true, true, true, true, true, true, true, true, true, true, true, true, true, true, true, true, true, true, false, true, true, false, false, false, false] (fun K hK => ?_)
       refine S.go Try.func120 #[.int .i64 a0_3] ?_
       with_reducible refine (impl_OutPlace.calls a0_3 t127 _ A51.out).mono ?_
       rintro e w' ⟨rfl, ⟨nd, rfl⟩⟩
       refine ⟨_, rfl, ?_⟩
       refine hK.out _ _ (S.d4 BK122.out (S.e4 BK123.out)) (fun hHeld => ?_)
       clear hK K
       refine S.nm 71 ?_
       refine S.oN 21 74 #[true, true, true, true, true, true, true, true, true, true, true, true, true, true, true, true, true, true, true, true, true, true, true, true, false, false, false, false] (fun K hK => ?_)
       refine S.go Try.func119 #[.int .i64 a1_2] ?_
       with_reducible refine (impl_InPlace.calls a1_2 t128 _ A52.out).mono ?_
       rintro e w' ⟨rfl, ⟨nd, rfl⟩⟩
       refine ⟨_, rfl, ?_⟩
       refine hK.out _ _ (S.d4 BK122.out (S.e4 BK123.out)) (fun hHeld => ?_)
       clear hK K
       refine S.nm 74 ?_
       refine S.oN 24 77 #[true, true, true, true, true, true, true, true, true, true, true, true, true, true, true, true, true, true, true, true, true, true, true, true, true, false, false, false] (fun K hK => ?_)
       refine S.go Try.func120 #[.int .i64 a1_3] ?_
       with_reducible refine (impl_OutPlace.calls a1_3 t129 _ A53.out).mono ?_
       rintro e w' ⟨rfl, ⟨nd, rfl⟩⟩
       refine ⟨_, rfl, ?_⟩
       refine hK.out _ _ (S.d4 BK122.out (S.e4 BK123.out)) (fun hHeld => ?_)
       clear hK K
       refine S.nm 77 ?_
       refine S.oN 25 78 #[true, true, true, true, true, true, true, true, true, true, true, true, true, true, true, true, true, true, true, true, true, true, true, true, true, true, false, false] (fun K hK => ?_)
       refine S.go Try.func118 #[.int .i64 t126, .int .i64 t127, .int .i64 t128, .int .i64 t129] ?_
       with_reducible refine (impl_Interleave.calls kj2 t126 t127 t128 t129 t130 _ A54.out).mono ?_
       rintro e w59 ⟨rfl, hb⟩
       refine ⟨_, rfl, ?_⟩
       replace BK122 := S.kb BK122 hb
       replace BK123 := S.kb BK123 hb
       replace HB := S.sG hb
       (try clear hb)
       (try clear hb2)
       (try clear hk)
       (try clear hi)
       refine hK.out _ _ (S.d4 BK122.out (S.e4 BK123.out)) (fun hHeld => ?_)
       clear hK K
       refine S.nm 78 ?_
       refine S.pS 26 79 ?_
       refine S.pS 27 4 ?_
       refine done_ (done_of HT_.out (by kernel_rfl)) ?_
       try go_wp2
       go_ret
       exact ⟨S.eW, S.bG⟩
      ·rw [if_neg c49] at H
       have c49b0 : (a0_2 == a1_2) = false := beq_eq_false_iff_ne.mpr c49
       have c49b1 : (a0_2 != a1_2) = true := bne_iff_ne.mpr c49
       by_cases c60 : a0_3 = a1_3
       ·rw [if_pos c60] at H
        have c60b0 : (a0_3 == a1_3) = true := beq_iff_eq.mpr c60
        have c60b1 : (a0_3 != a1_3) = false := bne_eq_false_iff_eq.mpr c60
        clear c60
        obtain rfl := Option.some.inj H
        have hnb61 := NB122_123.out
        have hnc61 := NB123_122.out
        obtain ⟨Z62a, Z62b, Z62c, Z62d, Y62a, Y62b, Y62c, Y62d⟩ := S.c4 BK122.out
        obtain ⟨Z63a, Z63b, Z63c, Z63d, Y63a, Y63b, Y63c, Y63d⟩ := S.c4 BK123.out
        try go_wp2
        replace BK122 := Aside0.mk (blk_drew BK122.out)
        replace BK123 := Aside0.mk (blk_drew BK123.out)
        replace HB := Aside0.mk (below_drew1 HB.out)
        refine S.st (n := 28) (ds := []) #[false, false, false, false, false, false, false, false, false, false, false, false, false, false, false, false, false, false, false, false, false, false, false, false, false, false, false, false] (fun w_ h_ => have x_ := S.d4 (S.Q h_ BK122.out) (S.e4 (S.Q h_ BK123.out)); x_) (fun hHeld => ?_); refine with_tabW impl_Conflict.tab7 impl_Conflict.bits7 (fun HT_ HW_ => ?_)
        generalize wc.drew = w64 at BK122 BK123 HB hHeld ⊢
        refine S.pS 0 53 ?_
        refine S.pS 2 55 ?_
        refine S.tK 1 54 #[true, true, true, false, false, false, false, false, false, false, false, false, false, false, false, false, false, false, false, false, false, false, false, false, false, false, false, false] ?_
        refine S.tK 3 56 #[true, true, true, true, false, false, false, false, false, false, false, false, false, false, false, false, false, false, false, false, false, false, false, false, false, false, false, false] ?_
        refine S.pS 4 57 ?_
        refine S.pS 5 58 ?_
        refine S.pS 6 59 ?_
        refine S.pS 8 61 ?_
        refine S.tK 7 60 #[true, true, true, true, true, true, true, true, true, false, false, false, false, false, false, false, false, false, false, false, false, false, false, false, false, false, false, false] ?_
        refine S.tK 9 62 #[true, true, true, true, true, true, true, true, true, true, false, false, false, false, false, false, false, false, false, false, false, false, false, false, false, false, false, false] ?_
        refine S.pS 10 63 ?_
        refine S.pS 11 64 ?_
        refine S.pS 12 65 ?_
        refine S.pU 13 66 ?_
        refine S.pU 14 67 ?_
        refine S.pU 15 68 ?_
        refine S.pU 16 69 ?_
        refine S.pU 17 70 ?_
        refine S.pU 18 71 ?_
        refine S.pU 19 72 ?_
        refine S.pU 20 73 ?_
        refine S.pU 21 74 ?_
        refine S.pU 22 75 ?_
        refine S.pU 23 76 ?_
        refine S.pU 24 77 ?_
        refine S.pU 25 78 ?_
        refine S.pS 26 79 ?_
        refine S.pS 27 4 ?_
        refine done_ (done_of HT_.out (by kernel_rfl)) ?_
        try go_wp2
        go_ret
        exact ⟨S.eW, S.bG⟩
       ·rw [if_neg c60] at H
        have c60b0 : (a0_3 == a1_3) = false := beq_eq_false_iff_ne.mpr c60
        have c60b1 : (a0_3 != a1_3) = true := bne_iff_ne.mpr c60
        replace H := S.bd H; obtain ⟨t131, A65, H⟩ := H
        (try dsimp only at H)
        replace H := S.bd H; obtain ⟨t132, A66, H⟩ := H
        (try dsimp only at H)
        replace H := S.bd H; obtain ⟨t133, A67, H⟩ := H
        (try dsimp only at H)
        replace H := S.bd H; obtain ⟨t134, A68, H⟩ := H
        (try dsimp only at H)
        replace H := S.bd H; obtain ⟨t135, A69, H⟩ := H
        (try dsimp only at H)
        obtain rfl := Option.some.inj H
        have hnb70 := NB122_123.out
        have hnc70 := NB123_122.out
        obtain ⟨Z71a, Z71b, Z71c, Z71d, Y71a, Y71b, Y71c, Y71d⟩ := S.c4 BK122.out
        obtain ⟨Z72a, Z72b, Z72c, Z72d, Y72a, Y72b, Y72c, Y72d⟩ := S.c4 BK123.out
        try go_wp2
        replace BK122 := Aside0.mk (blk_drew BK122.out)
        replace BK123 := Aside0.mk (blk_drew BK123.out)
        replace HB := Aside0.mk (below_drew1 HB.out)
        refine S.st (n := 28) (ds := []) #[false, false, false, false, false, false, false, false, false, false, false, false, false, false, false, false, false, false, false, false, false, false, false, false, false, false, false, false] (fun w_ h_ => have x_ := S.d4 (S.Q h_ BK122.out) (S.e4 (S.Q h_ BK123.out)); x_) (fun hHeld => ?_); refine with_tabW impl_Conflict.tab7 impl_Conflict.bits7 (fun HT_ HW_ => ?_)
        generalize wc.drew = w73 at BK122 BK123 HB hHeld ⊢
        refine S.pS 0 53 ?_
        refine S.pS 2 55 ?_
        refine S.tK 1 54 #[true, true, true, false, false, false, false, false, false, false, false, false, false, false, false, false, false, false, false, false, false, false, false, false, false, false, false, false] ?_
        refine S.tK 3 56 #[true, true, true, true, false, false, false, false, false, false, false, false, false, false, false, false, false, false, false, false, false, false, false, false, false, false, false, false] ?_
        refine S.pS 4 57 ?_
        refine S.pS 5 58 ?_
        refine S.pS 6 59 ?_
        refine S.pS 8 61 ?_
        refine S.tK 7 60 #[true, true, true, true, true, true, true, true, true, false, false, false, false, false, false, false, false, false, false, false, false, false, false, false, false, false, false, false] ?_
        refine S.tK 9 62 #[true, true, true, true, true, true, true, true, true, true, false, false, false, false, false, false, false, false, false, false, false, false, false, false, false, false, false, false] ?_
        refine S.pS 10 63 ?_
        refine S.pS 11 64 ?_
        refine S.pS 12 65 ?_
        refine S.pS 13 66 ?_
        refine S.pS 16 69 ?_
        refine S.pS 19 72 ?_
        refine S.pS 22 75 ?_
        refine S.tK 14 67 #[true, true, true, true, true, true, true, true, true, true, true, true, true, true, true, false, true, false, false, true, false, false, true, false, false, false, false, false] ?_
        refine S.tK 17 70 #[true, true, true, true, true, true, true, true, true, true, true, true, true, true, true, false, true, true, false, true, false, false, true, false, false, false, false, false] ?_
        refine S.tK 20 73 #[true, true, true, true, true, true, true, true, true, true, true, true, true, true, true, false, true, true, false, true, true, false, true, false, false, false, false, false] ?_
        refine S.tK 23 76 #[true, true, true, true, true, true, true, true, true, true, true, true, true, true, true, false, true, true, false, true, true, false, true, true, false, false, false, false] ?_
        refine S.oN 15 68 #[true, true, true, true, true, true, true, true, true, true, true, true, true, true, true, true, true, true, false, true, true, false, true, true, false, false, false, false] (fun K hK => ?_)
        refine S.go Try.func119 #[.int .i64 a0_2] ?_
        with_reducible refine (impl_InPlace.calls a0_2 t131 _ A65.out).mono ?_
        rintro e w' ⟨rfl, ⟨nd, rfl⟩⟩
        refine ⟨_, rfl, ?_⟩
        refine hK.out _ _ (S.d4 BK122.out (S.e4 BK123.out)) (fun hHeld => ?_)
        clear hK K
        refine S.nm 68 ?_
        refine S.oN 18 71 #[true, true, true, true, true, true, true, true, true, true, true, true, true, true, true, true, true, true, true, true, true, false, true, true, false, false, false, false] (fun K hK => ?_)
        refine S.go Try.func120 #[.int .i64 a0_3] ?_
        with_reducible refine (impl_OutPlace.calls a0_3 t132 _ A66.out).mono ?_
        rintro e w' ⟨rfl, ⟨nd, rfl⟩⟩
        refine ⟨_, rfl, ?_⟩
        refine hK.out _ _ (S.d4 BK122.out (S.e4 BK123.out)) (fun hHeld => ?_)
        clear hK K
        refine S.nm 71 ?_
        refine S.oN 21 74 #[true, true, true, true, true, true, true, true, true, true, true, true, true, true, true, true, true, true, true, true, true, true, true, true, false, false, false, false] (fun K hK => ?_)
        refine S.go Try.func119 #[.int .i64 a1_2] ?_
        with_reducible refine (impl_InPlace.calls a1_2 t133 _ A67.out).mono ?_
        rintro e w' ⟨rfl, ⟨nd, rfl⟩⟩
        refine ⟨_, rfl, ?_⟩
        refine hK.out _ _ (S.d4 BK122.out (S.e4 BK123.out)) (fun hHeld => ?_)
        clear hK K
        refine S.nm 74 ?_
        refine S.oN 24 77 #[true, true, true, true, true, true, true, true, true, true, true, true, true, true, true, true, true, true, true, true, true, true, true, true, true, false, false, false] (fun K hK => ?_)
        refine S.go Try.func120 #[.int .i64 a1_3] ?_
        with_reducible refine (impl_OutPlace.calls a1_3 t134 _ A68.out).mono ?_
        rintro e w' ⟨rfl, ⟨nd, rfl⟩⟩
        refine ⟨_, rfl, ?_⟩
        refine hK.out _ _ (S.d4 BK122.out (S.e4 BK123.out)) (fun hHeld => ?_)
        clear hK K
        refine S.nm 77 ?_
        refine S.oN 25 78 #[true, true, true, true, true, true, true, true, true, true, true, true, true, true, true, true, true, true, true, true, true, true, true, true, true, true, false, false] (fun K hK => ?_)
        refine S.go Try.func118 #[.int .i64 t131, .int .i64 t132, .int .i64 t133, .int .i64 t134] ?_
        with_reducible refine (impl_Interleave.calls kj2 t131 t132 t133 t134 t135 _ A69.out).mono ?_
        rintro e w74 ⟨rfl, hb⟩
        refine ⟨_, rfl, ?_⟩
        replace BK122 := S.kb BK122 hb
        replace BK123 := S.kb BK123 hb
        replace HB := S.sG hb
        (try clear hb)
        (try clear hb2)
        (try clear hk)
        (try clear hi)
        refine hK.out _ _ (S.d4 BK122.out (S.e4 BK123.out)) (fun hHeld => ?_)
        clear hK K
        refine S.nm 78 ?_
        refine S.pS 26 79 ?_
        refine S.pS 27 4 ?_
        refine done_ (done_of HT_.out (by kernel_rfl)) ?_
        try go_wp2
        go_ret
        exact ⟨S.eW, S.bG⟩
/-! ### impl_IsTogether: function 104 -/
mutual
def impl_IsTogether.l0 : Nat → List (S71) → List Int → List Int → Int → Int → Option (Bool)
 | 0, _, _, _, _, _ => none
 | k + 1, x0, x1, x13, x14, x15 => if x15 < x14 then (if 0 ≤ x15 then (if x15 < (x13.length : Int) then ((impl_FindPath.f x0 (rd x13 x15)).bind fun t138 => (if t138 < 0 then (impl_IsTogether.j1 k x0 x1 x15 t138 x13 x14 x15 true) else (if x15 > 0 then (if 0 ≤ (wrap64 (x15 - 1)) then (if (wrap64 (x15 - 1)) < (x1.length : Int) then (impl_IsTogether.j1 k x0 x1 x15 t138 x13 x14 x15 (decide ((rd x13 x15) ≤ (rd x1 (wrap64 (x15 - 1)))))) else (none)) else (none)) else (impl_IsTogether.j1 k x0 x1 x15 t138 x13 x14 x15 false)))) else (none)) else (none)) else (some true)
def impl_IsTogether.j1 : Nat → List (S71) → List Int → Int → Int → List Int → Int → Int → Bool → Option (Bool)
 | 0, _, _, _, _, _, _, _, _ => none
 | k + 1, x0, x1, x5, x7, x13, x14, x15, x37 => if x37 = true then (some false) else (if 0 ≤ x5 then (if x5 ≤ (x1.length : Int) then (impl_IsTogether.l1 k x0 x1 x7 x13 x14 x15 (x1.take (x5 : Int).toNat) ((x1.take (x5 : Int).toNat).length : Int) 0) else (none)) else (none))
def impl_IsTogether.l1 : Nat → List (S71) → List Int → Int → List Int → Int → Int → List Int → Int → Int → Option (Bool)
 | 0, _, _, _, _, _, _, _, _, _ => none
 | k + 1, x0, x1, x7, x13, x14, x15, x40, x41, x42 => if x42 < x41 then (if 0 ≤ x42 then (if x42 < (x40.length : Int) then (if 0 ≤ x7 then (if x7 < (x0.length : Int) then ((impl_FindPath.f x0 (rd x40 x42)).bind fun t143 => (if 0 ≤ t143 then (if t143 < (x0.length : Int) then ((impl_Conflict.f k ((rd_T71 x0 x7).f0) ((rd_T71 x0 x7).f1) ((rd_T71 x0 x7).f2) ((rd_T71 x0 x7).f3) ((rd_T71 x0 t143).f0) ((rd_T71 x0 t143).f1) ((rd_T71 x0 t143).f2) ((rd_T71 x0 t143).f3)).bind fun t145 => (if t145 = true then (some false) else (impl_IsTogether.l1 k x0 x1 x7 x13 x14 x15 x40 x41 (wrap64 (x42 + 1))))) else (none)) else (none))) else (none)) else (none)) else (none)) else (none)) else (impl_IsTogether.l0 k x0 x1 x13 x14 (wrap64 (x15 + 1)))
end
def impl_IsTogether.f (k : Nat) (l0 : List (S71)) (l1 : List Int) : Option (Bool) := (impl_ArePaths.f k l0).bind fun t136 => (if t136 = true then (impl_IsTogether.l0 k l0 l1 l1 (l1.length : Int) 0) else (some false))
def impl_IsTogether.T12 : Bool × List (List Nat × List Nat) := (true, [([], []), ([], []), ([0, 1], [0, 1]), ([2], [2]), ([], []), ([], []), ([], []), ([5, 6], [5, 6]), ([4, 7], [4, 7]), ([8], [8]), ([3, 9, 7], [3, 9])])
def impl_IsTogether.B12 : List Nat := [0, 0, 3, 7, 0, 0, 0, 96, 240, 496, 1023]
theorem impl_IsTogether.tab12 : rtab .any (opsOf Try.f104 12) = impl_IsTogether.T12 := by kernel_rfl
theorem impl_IsTogether.bits12 : waitsOk impl_IsTogether.T12.2 impl_IsTogether.B12 = true := by kernel_rfl
theorem impl_IsTogether.calls (k : Nat) (A0 : Option Addr) (c0 : Nat) (l0 : List (S71)) (A1 : Option Addr) (c1 : Nat) (l1 : List Int) (r : Bool) (w : World) (hr0 : Kd.C k71 w A0 l0.length l0) (hc0 : l0.length ≤ c0) (hr1 : Kd.C (Kd.int .i64) w A1 l1.length l1) (hc1 : l1.length ≤ c1) (h : impl_IsTogether.f k l0 l1 = some r) :
  Calls Try.prog 104 #[.slice A0 l0.length c0, .slice A1 l1.length c1] w fun e w' => e = .returned (.bool r) ∧ Below w.heap.size w w' := by
 have hu71 := Try.underlying71
 have HR0 := Aside0.mk hr0
 have HC0 := Aside0.mk hc0
 clear hr0 hc0
 have HR1 := Aside0.mk hr1
 have HC1 := Aside0.mk hc1
 clear hr1 hc1
 have HB := Aside0.mk (Below.refl w.heap.size w)
 have H : ((impl_ArePaths.f k l0).bind fun t136 => (if t136 = true then (impl_IsTogether.l0 k l0 l1 l1 (l1.length : Int) 0) else (some false))) = some r := h
 clear h
 replace H := S.bd H; obtain ⟨t136, A3, H⟩ := H
 (try dsimp only at H)
 replace H := S.db H; rcases H with ⟨rfl, H⟩ | ⟨rfl, H⟩
 ·have H' := Aside0.mk H
  clear H
  go_enter Try.func104, Try.ntmps104
  go_wp2_with (first | ((with_reducible refine gate_callee (f := 88) rfl ?_); refine S.gL (some 11) Try.func88 #[.slice A0 l0.length c0] ?_; (with_reducible refine (impl_ArePaths.calls k _ _ l0 true _ ?s1 HC0.out A3.out).mono ?_); (case s1 => exact S.cD HR0.out); rintro e w5 ⟨rfl, hb⟩; refine ⟨_, rfl, ?_⟩; replace HB := S.sA hb; (try clear hb)))
  go_loopg [15] k (fun kq v15 w' => ∃ (x15_1 : Int), v15 = .int .i64 x15_1 ∧ Aside0 (impl_IsTogether.l0 kq l0 l1 l1 (l1.length : Int) x15_1 = some r) ∧ Aside0 (kq ≤ k) ∧ Aside0 (Below w.heap.size w w'))
  case atStart => exact ⟨(0), S.eA, H', ⟨Nat.le_refl _⟩, ⟨S.bA⟩⟩
  case round =>
   clear H'
   try clear c1
   try clear c4
   obtain ⟨x15_1, rfl, HA, HK1, HB⟩ := hrel
   cases gk with
   | zero => exact absurd HA.out (by simp [impl_IsTogether.l0])
   | succ k1 =>
    have H := HA.out
    clear HA
    simp only [impl_IsTogether.l0] at H
    replace H := S.dc H; rcases H with ⟨H, c6b0⟩ | ⟨H, c6b0⟩
    ·by_cases c7 : 0 ≤ x15_1
     ·rw [if_pos c7] at H
      have c7b0 : decide (0 ≤ x15_1) = true := decide_eq_true c7
      clear c7
      by_cases c8 : x15_1 < (l1.length : Int)
      ·rw [if_pos c8] at H
       have c8b0 : decide (x15_1 < (l1.length : Int)) = true := decide_eq_true c8
       clear c8
       replace H := S.bd H; obtain ⟨t138, A9, H⟩ := H
       (try dsimp only at H)
       have HC10 := Aside0.mk H
       clear H
       have p137 : 0 ≤ (x15_1 : Int) := S.oD
       have q137 : x15_1 < (l1.length : Int) := S.oD
       obtain ⟨ad137, e137, hx137_0⟩ := Kd.at_int HR1.out x15_1 p137 q137
       cases e137
       replace hx137_0 := S.hb HB hx137_0
       replace p137 := eq_true p137
       replace q137 := eq_true q137
       go_upto_region 7 with (first | ((with_reducible refine gate_callee (f := 83) rfl ?_); refine S.gL (some 22) Try.func83 #[.slice A0 l0.length c0, .int .i64 (rd l1 x15_1)] ?_; (with_reducible refine (impl_FindPath.calls _ _ l0 (rd l1 x15_1) t138 _ ?s1 HC0.out A9.out).mono ?_); (case s1 => exact S.cA HR0.out); rintro e w11 ⟨rfl, hb⟩; refine ⟨_, rfl, ?_⟩; replace HB := S.sA hb; (try clear hb)))
       (try simp only [Act.put, List.setIfInBounds_toArray, List.set_cons_zero, List.set_cons_succ])
       go_cut [37] (fun v37 wc => ∃ (kq : Nat) (x37_9 : Bool), v37 = .bool x37_9 ∧ Aside0 (impl_IsTogether.j1 kq l0 l1 x15_1 t138 l1 (l1.length : Int) x15_1 x37_9 = some r) ∧ Aside0 (kq ≤ k1) ∧ Aside0 (Below w.heap.size w wc))
       case first =>
        have H := HC10.out
        clear HC10
        replace H := S.dc H; rcases H with ⟨H, c12b0⟩ | ⟨H, c12b0⟩
        ·(first | rw [c12b0] | (simp only [i64_w, i32_w]; rw [c12b0]) | skip)
         have H' := Aside0.mk H
         clear H
         go_wp2
         go_meet
         case rel => exact ⟨_, (true), S.eA, H', ⟨by have := HK1.out; first | omega | exact Nat.le_refl _⟩, ⟨S.bA⟩⟩
        ·(first | rw [c12b0] | (simp only [i64_w, i32_w]; rw [c12b0]) | skip)
         by_cases c13 : x15_1 > 0
         ·rw [if_pos c13] at H
          have c13b0 : decide (0 < x15_1) = true := decide_eq_true c13
          clear c13
          obtain ⟨ji14, hji14⟩ : ∃ j_ : Int, (wrap64 (x15_1 - 1)) = j_ := ⟨_, rfl⟩
          replace H : (if 0 ≤ (ji14) then (if (ji14) < (l1.length : Int) then (impl_IsTogether.j1 k1 l0 l1 x15_1 t138 l1 (l1.length : Int) x15_1 (decide ((rd l1 x15_1) ≤ (rd l1 (ji14))))) else (none)) else (none)) = some r := by first | (rw [hji14] at H; exact H) | (simp only [hji14] at H ⊢; exact H)
          have hji14w : (IntKind.i64.wrap (x15_1 - 1)) = ji14 := (i64_w _).trans hji14
          by_cases c15 : 0 ≤ (ji14)
          ·rw [if_pos c15] at H
           have c15b0 : decide (0 ≤ (ji14)) = true := decide_eq_true c15
           clear c15
           by_cases c16 : (ji14) < (l1.length : Int)
           ·rw [if_pos c16] at H
            have c16b0 : decide ((ji14) < (l1.length : Int)) = true := decide_eq_true c16
            clear c16
            have H' := Aside0.mk H
            clear H
            have p139 : 0 ≤ ((ji14) : Int) := S.oD
            have q139 : (ji14) < (l1.length : Int) := S.oD
            obtain ⟨ad139, e139, hx139_0⟩ := Kd.at_int HR1.out (ji14) p139 q139
            obtain rfl : ad137 = ad139 := (by injection e139)
            replace hx139_0 := S.hb HB hx139_0
            replace p139 := eq_true p139
            replace q139 := eq_true q139
            go_wp2
            go_meet
            case rel => exact ⟨_, (decide ((rd l1 x15_1) ≤ (rd l1 (ji14)))), (by first | rfl | (simp; done) | (simp only [← hji14] <;> (first | rfl | simp)) | (simp [*]; done)), H', ⟨by have := HK1.out; first | omega | exact Nat.le_refl _⟩, ⟨S.bA⟩⟩
           ·rw [if_neg c16] at H
            exact absurd H (by simp)
          ·rw [if_neg c15] at H
           exact absurd H (by simp)
         ·rw [if_neg c13] at H
          have c13b0 : decide (0 < x15_1) = false := decide_eq_false c13
          clear c13
          have H' := Aside0.mk H
          clear H
          go_wp2
          go_meet
          case rel => exact ⟨_, (false), S.eA, H', ⟨by have := HK1.out; first | omega | exact Nat.le_refl _⟩, ⟨S.bA⟩⟩
       case rest =>
        clear HC10
        try clear c1
        try clear c4
        try clear c6
        try clear c6b0
        try clear c7
        try clear c7b0
        try clear c8
        try clear c8b0
        try clear hx137_0
        try clear p137
        try clear q137
        obtain ⟨kq, x37_9, rfl, HA, HJ9, HB⟩ := hcut
        cases kq with
        | zero => exact absurd HA.out (by simp [impl_IsTogether.j1])
        | succ kj9 =>
         have H := HA.out
         clear HA
         simp only [impl_IsTogether.j1] at H
         replace H := S.db H; rcases H with ⟨rfl, H⟩ | ⟨rfl, H⟩
         ·obtain rfl := Option.some.inj H
          go_wp2
          go_ret
          exact ⟨S.eW, S.bA⟩
         ·by_cases c18 : 0 ≤ x15_1
          ·rw [if_pos c18] at H
           have c18b0 := eq_true c18
           have c18b1 : decide (0 ≤ x15_1) = true := decide_eq_true c18
           clear c18
           by_cases c19 : x15_1 ≤ (l1.length : Int)
           ·rw [if_pos c19] at H
            have c19b0 := eq_true c19
            have c19b1 : decide (x15_1 ≤ (l1.length : Int)) = true := decide_eq_true c19
            clear c19
            have H' := Aside0.mk H
            clear H
            obtain ⟨i020, hi020, _, hsz20, _⟩ := info_parts info3
            obtain ⟨hcut20, hA20, hC20⟩ := print_take_of (P := Try.prog) (Value.int .i64) 0 36 3 .i64 Try.underlying36 hi020 hsz20 (some ad137) c1 l1 x15_1 (S.oD) (S.oD) HC1.out
            have HR140 := Aside0.mk (Kd.C_of_reads (h1 := fun _ => rfl) (hA20 _ (Kd.reads_of_C HR1.out)))
            have HC140 := Aside0.mk hC20
            clear hA20 hC20 hi020 hsz20
            generalize l1.take (x15_1 : Int).toNat = yt20 at H' HR140 HC140 hcut20 ⊢
            go_wp2
            go_loopg [42] kj9 (fun kq v42 w' => ∃ (x42_3 : Int), v42 = .int .i64 x42_3 ∧ Aside0 (impl_IsTogether.l1 kq l0 l1 t138 l1 (l1.length : Int) x15_1 yt20 (yt20.length : Int) x42_3 = some r) ∧ Aside0 (kq ≤ kj9) ∧ Aside0 (Below w.heap.size w w'))
            case atStart => exact ⟨(0), S.eA, H', ⟨Nat.le_refl _⟩, ⟨S.bA⟩⟩
            case round =>
             clear H'
             try clear c1
             try clear c4
             try clear c6
             try clear c6b0
             try clear c7
             try clear c7b0
             try clear c8
             try clear c8b0
             try clear c17
             try clear c18
             try clear c18b0
             try clear c18b1
             try clear c19
             try clear c19b0
             try clear c19b1
             try clear hx137_0
             try clear p137
             try clear q137
             obtain ⟨x42_3, rfl, HA, HK3, HB⟩ := hrel
             cases gk with
             | zero => exact absurd HA.out (by simp [impl_IsTogether.l1])
             | succ k3 =>
              have H := HA.out
              clear HA
              simp only [impl_IsTogether.l1] at H
              replace H := S.dc H; rcases H with ⟨H, c21b0⟩ | ⟨H, c21b0⟩
              ·by_cases c22 : 0 ≤ x42_3
               ·rw [if_pos c22] at H
                have c22b0 : decide (0 ≤ x42_3) = true := decide_eq_true c22
                clear c22
                by_cases c23 : x42_3 < (yt20.length : Int)
                ·rw [if_pos c23] at H
                 have c23b0 : decide (x42_3 < (yt20.length : Int)) = true := decide_eq_true c23
                 clear c23
                 by_cases c24 : 0 ≤ t138
                 ·rw [if_pos c24] at H
                  have c24b0 : decide (0 ≤ t138) = true := decide_eq_true c24
                  clear c24
                  by_cases c25 : t138 < (l0.length : Int)
                  ·rw [if_pos c25] at H
                   have c25b0 : decide (t138 < (l0.length : Int)) = true := decide_eq_true c25
                   clear c25
                   replace H := S.bd H; obtain ⟨t143, A26, H⟩ := H
                   (try dsimp only at H)
                   by_cases c27 : 0 ≤ t143
                   ·rw [if_pos c27] at H
                    have c27b0 : decide (0 ≤ t143) = true := decide_eq_true c27
                    clear c27
                    by_cases c28 : t143 < (l0.length : Int)
                    ·rw [if_pos c28] at H
                     have c28b0 : decide (t143 < (l0.length : Int)) = true := decide_eq_true c28
                     clear c28
                     replace H := S.bd H; obtain ⟨t145, A29, H⟩ := H
                     (try dsimp only at H)
                     replace H := S.db H; rcases H with ⟨rfl, H⟩ | ⟨rfl, H⟩
                     ·obtain rfl := Option.some.inj H
                      have p141 : 0 ≤ (x42_3 : Int) := S.oD
                      have q141 : x42_3 < (yt20.length : Int) := S.oD
                      obtain ⟨ad141, e141, hx141_0⟩ := Kd.at_int HR140.out x42_3 p141 q141
                      obtain rfl : ad137 = ad141 := (by injection e141)
                      replace hx141_0 := S.hb HB hx141_0
                      replace p141 := eq_true p141
                      replace q141 := eq_true q141
                      try go_wp2
                      replace HB := Aside0.mk (below_drew1 HB.out)
                      have p142 : 0 ≤ (t138 : Int) := S.oD
                      have q142 : t138 < (l0.length : Int) := S.oD
                      obtain ⟨ad142, e142, hx142_0, hx142_1, hx142_2, hx142_3⟩ := at_T71 HR0.out t138 p142 q142
                      have hw142_3 := hx142_3
                      have hw142_2 := hx142_2
                      have hw142_1 := hx142_1
                      have hw142_0 := hx142_0
                      cases e142
                      replace hx142_0 := S.hb HB hx142_0
                      replace hx142_1 := S.hb HB hx142_1
                      replace hx142_2 := S.hb HB hx142_2
                      replace hx142_3 := S.hb HB hx142_3
                      replace p142 := eq_true p142
                      replace q142 := eq_true q142
                      have p144 : 0 ≤ (t143 : Int) := S.oD
                      have q144 : t143 < (l0.length : Int) := S.oD
                      obtain ⟨ad144, e144, hx144_0, hx144_1, hx144_2, hx144_3⟩ := at_T71 HR0.out t143 p144 q144
                      have hw144_3 := hx144_3
                      have hw144_2 := hx144_2
                      have hw144_1 := hx144_1
                      have hw144_0 := hx144_0
                      obtain rfl : ad142 = ad144 := (by injection e144)
                      replace hx144_0 := S.hb HB hx144_0
                      replace hx144_1 := S.hb HB hx144_1
                      replace hx144_2 := S.hb HB hx144_2
                      replace hx144_3 := S.hb HB hx144_3
                      replace p144 := eq_true p144
                      replace q144 := eq_true q144
                      refine S.st (n := 11) (ds := []) #[false, false, false, false, false, false, false, false, false, false, false] (fun w_ h_ => have x_ := And.intro (S.q h_ (S.hb HB hw142_0)) (And.intro (S.q h_ (S.hb HB hw142_1)) (And.intro (S.q h_ (S.hb HB hw142_2)) (And.intro (S.q h_ (S.hb HB hw142_3)) (And.intro (S.q h_ (S.hb HB hw144_0)) (And.intro (S.q h_ (S.hb HB hw144_1)) (And.intro (S.q h_ (S.hb HB hw144_2)) (S.q h_ (S.hb HB hw144_3)))))))); x_) (fun hHeld => ?_); refine with_tabW impl_IsTogether.tab12 impl_IsTogether.bits12 (fun HT_ HW_ => ?_)
                      generalize wr.drew = w31 at HB hx142_0 hx142_1 hx142_2 hx142_3 hx144_0 hx144_1 hx144_2 hx144_3 hHeld ⊢
                      refine S.pS 0 46 ?_
                      refine S.pS 1 47 ?_
                      refine S.pS 2 48 ?_
                      refine S.pS 4 50 ?_
                      refine S.pS 5 51 ?_
                      refine S.pS 6 52 ?_
                      refine S.tK 3 49 #[true, true, true, true, true, true, true, false, false, false, false] ?_
                      refine S.oN 7 53 #[true, true, true, true, true, true, true, true, false, false, false] (fun K hK => ?_)
                      refine S.go Try.func83 #[.slice (some ad142) l0.length c0, .int .i64 (rd yt20 x42_3)] ?_
                      with_reducible refine (impl_FindPath.calls _ _ l0 (rd yt20 x42_3) t143 _ ?s1 ?s2 A26.out).mono ?_
                      (case s1 => exact S.cA HR0.out)
                      (case s2 => exact HC0.out)
                      rintro e w32 ⟨rfl, hb⟩
                      refine ⟨_, rfl, ?_⟩
                      replace HB := S.sA hb
                      (try clear hb)
                      (try clear hb2)
                      (try clear hk)
                      (try clear hi)
                      refine hK.out _ _ ⟨(S.hb HB hw142_0 :), (S.hb HB hw142_1 :), (S.hb HB hw142_2 :), (S.hb HB hw142_3 :), (S.hb HB hw144_0 :), (S.hb HB hw144_1 :), (S.hb HB hw144_2 :), (S.hb HB hw144_3 :)⟩ (fun hHeld => ?_)
                      clear hK K
                      refine S.nm 53 ?_
                      refine S.pS 8 54 ?_
                      refine S.tK 9 55 #[true, true, true, true, true, true, true, true, true, true, false] ?_
                      refine S.oN 10 56 #[true, true, true, true, true, true, true, true, true, true, true] (fun K hK => ?_)
                      refine S.go Try.func89 #[.agg #[.int .i64 ((rd_T71 l0 t138).f0), .int .i64 ((rd_T71 l0 t138).f1), .int .i64 ((rd_T71 l0 t138).f2), .int .i64 ((rd_T71 l0 t138).f3)], .agg #[.int .i64 ((rd_T71 l0 t143).f0), .int .i64 ((rd_T71 l0 t143).f1), .int .i64 ((rd_T71 l0 t143).f2), .int .i64 ((rd_T71 l0 t143).f3)]] ?_
                      with_reducible refine (impl_Conflict.calls k3 ((rd_T71 l0 t138).f0) ((rd_T71 l0 t138).f1) ((rd_T71 l0 t138).f2) ((rd_T71 l0 t138).f3) ((rd_T71 l0 t143).f0) ((rd_T71 l0 t143).f1) ((rd_T71 l0 t143).f2) ((rd_T71 l0 t143).f3) true _ A29.out).mono ?_
                      rintro e w33 ⟨rfl, hb⟩
                      refine ⟨_, rfl, ?_⟩
                      replace HB := S.sA hb
                      (try clear hb)
                      (try clear hb2)
                      (try clear hk)
                      (try clear hi)
                      refine hK.out _ _ ⟨(S.hb HB hw142_0 :), (S.hb HB hw142_1 :), (S.hb HB hw142_2 :), (S.hb HB hw142_3 :), (S.hb HB hw144_0 :), (S.hb HB hw144_1 :), (S.hb HB hw144_2 :), (S.hb HB hw144_3 :)⟩ (fun hHeld => ?_)
                      clear hK K
                      refine S.nm 56 ?_
                      refine done_ (done_of HT_.out (by kernel_rfl)) ?_
                      try go_wp2
                      go_ret
                      exact ⟨S.eW, S.bA⟩
                     ·have H' := Aside0.mk H
                      clear H
                      have p141 : 0 ≤ (x42_3 : Int) := S.oD
                      have q141 : x42_3 < (yt20.length : Int) := S.oD
                      obtain ⟨ad141, e141, hx141_0⟩ := Kd.at_int HR140.out x42_3 p141 q141
                      obtain rfl : ad137 = ad141 := (by injection e141)
                      replace hx141_0 := S.hb HB hx141_0
                      replace p141 := eq_true p141
                      replace q141 := eq_true q141
                      try go_wp2
                      replace HB := Aside0.mk (below_drew1 HB.out)
                      have p142 : 0 ≤ (t138 : Int) := S.oD
                      have q142 : t138 < (l0.length : Int) := S.oD
                      obtain ⟨ad142, e142, hx142_0, hx142_1, hx142_2, hx142_3⟩ := at_T71 HR0.out t138 p142 q142
                      have hw142_3 := hx142_3
                      have hw142_2 := hx142_2
                      have hw142_1 := hx142_1
                      have hw142_0 := hx142_0
                      cases e142
                      replace hx142_0 := S.hb HB hx142_0
                      replace hx142_1 := S.hb HB hx142_1
                      replace hx142_2 := S.hb HB hx142_2
                      replace hx142_3 := S.hb HB hx142_3
                      replace p142 := eq_true p142
                      replace q142 := eq_true q142
                      have p144 : 0 ≤ (t143 : Int) := S.oD
                      have q144 : t143 < (l0.length : Int) := S.oD
                      obtain ⟨ad144, e144, hx144_0, hx144_1, hx144_2, hx144_3⟩ := at_T71 HR0.out t143 p144 q144
                      have hw144_3 := hx144_3
                      have hw144_2 := hx144_2
                      have hw144_1 := hx144_1
                      have hw144_0 := hx144_0
                      obtain rfl : ad142 = ad144 := (by injection e144)
                      replace hx144_0 := S.hb HB hx144_0
                      replace hx144_1 := S.hb HB hx144_1
                      replace hx144_2 := S.hb HB hx144_2
                      replace hx144_3 := S.hb HB hx144_3
                      replace p144 := eq_true p144
                      replace q144 := eq_true q144
                      refine S.st (n := 11) (ds := []) #[false, false, false, false, false, false, false, false, false, false, false] (fun w_ h_ => have x_ := And.intro (S.q h_ (S.hb HB hw142_0)) (And.intro (S.q h_ (S.hb HB hw142_1)) (And.intro (S.q h_ (S.hb HB hw142_2)) (And.intro (S.q h_ (S.hb HB hw142_3)) (And.intro (S.q h_ (S.hb HB hw144_0)) (And.intro (S.q h_ (S.hb HB hw144_1)) (And.intro (S.q h_ (S.hb HB hw144_2)) (S.q h_ (S.hb HB hw144_3)))))))); x_) (fun hHeld => ?_); refine with_tabW impl_IsTogether.tab12 impl_IsTogether.bits12 (fun HT_ HW_ => ?_)
                      generalize wr.drew = w34 at HB hx142_0 hx142_1 hx142_2 hx142_3 hx144_0 hx144_1 hx144_2 hx144_3 hHeld ⊢
                      refine S.pS 0 46 ?_
                      refine S.pS 1 47 ?_
                      refine S.pS 2 48 ?_
                      refine S.pS 4 50 ?_
                      refine S.pS 5 51 ?_
                      refine S.pS 6 52 ?_
                      refine S.tK 3 49 #[true, true, true, true, true, true, true, false, false, false, false] ?_
                      refine S.oN 7 53 #[true, true, true, true, true, true, true, true, false, false, false] (fun K hK => ?_)
                      refine S.go Try.func83 #[.slice (some ad142) l0.length c0, .int .i64 (rd yt20 x42_3)] ?_
                      with_reducible refine (impl_FindPath.calls _ _ l0 (rd yt20 x42_3) t143 _ ?s1 ?s2 A26.out).mono ?_
                      (case s1 => exact S.cA HR0.out)
                      (case s2 => exact HC0.out)
                      rintro e w35 ⟨rfl, hb⟩
                      refine ⟨_, rfl, ?_⟩
                      replace HB := S.sA hb
                      (try clear hb)
                      (try clear hb2)
                      (try clear hk)
                      (try clear hi)
                      refine hK.out _ _ ⟨(S.hb HB hw142_0 :), (S.hb HB hw142_1 :), (S.hb HB hw142_2 :), (S.hb HB hw142_3 :), (S.hb HB hw144_0 :), (S.hb HB hw144_1 :), (S.hb HB hw144_2 :), (S.hb HB hw144_3 :)⟩ (fun hHeld => ?_)
                      clear hK K
                      refine S.nm 53 ?_
                      refine S.pS 8 54 ?_
                      refine S.tK 9 55 #[true, true, true, true, true, true, true, true, true, true, false] ?_
                      refine S.oN 10 56 #[true, true, true, true, true, true, true, true, true, true, true] (fun K hK => ?_)
                      refine S.go Try.func89 #[.agg #[.int .i64 ((rd_T71 l0 t138).f0), .int .i64 ((rd_T71 l0 t138).f1), .int .i64 ((rd_T71 l0 t138).f2), .int .i64 ((rd_T71 l0 t138).f3)], .agg #[.int .i64 ((rd_T71 l0 t143).f0), .int .i64 ((rd_T71 l0 t143).f1), .int .i64 ((rd_T71 l0 t143).f2), .int .i64 ((rd_T71 l0 t143).f3)]] ?_
                      with_reducible refine (impl_Conflict.calls k3 ((rd_T71 l0 t138).f0) ((rd_T71 l0 t138).f1) ((rd_T71 l0 t138).f2) ((rd_T71 l0 t138).f3) ((rd_T71 l0 t143).f0) ((rd_T71 l0 t143).f1) ((rd_T71 l0 t143).f2) ((rd_T71 l0 t143).f3) false _ A29.out).mono ?_
                      rintro e w36 ⟨rfl, hb⟩
                      refine ⟨_, rfl, ?_⟩
                      replace HB := S.sA hb
                      (try clear hb)
                      (try clear hb2)
                      (try clear hk)
                      (try clear hi)
                      refine hK.out _ _ ⟨(S.hb HB hw142_0 :), (S.hb HB hw142_1 :), (S.hb HB hw142_2 :), (S.hb HB hw142_3 :), (S.hb HB hw144_0 :), (S.hb HB hw144_1 :), (S.hb HB hw144_2 :), (S.hb HB hw144_3 :)⟩ (fun hHeld => ?_)
                      clear hK K
                      refine S.nm 56 ?_
                      refine done_ (done_of HT_.out (by kernel_rfl)) ?_
                      try go_wp2
                      go_roundg k3
                      case measure => have := HK1.out; have := HJ9.out; have := HK3.out; omega
                      case rel => exact ⟨(wrap64 (x42_3 + 1)), S.eA, H', ⟨by have := HK1.out; have := HJ9.out; have := HK3.out; omega⟩, ⟨S.bA⟩⟩
                    ·rw [if_neg c28] at H
                     exact absurd H (by simp)
                   ·rw [if_neg c27] at H
                    exact absurd H (by simp)
                  ·rw [if_neg c25] at H
                   exact absurd H (by simp)
                 ·rw [if_neg c24] at H
                  exact absurd H (by simp)
                ·rw [if_neg c23] at H
                 exact absurd H (by simp)
               ·rw [if_neg c22] at H
                exact absurd H (by simp)
              ·have H' := Aside0.mk H
               clear H
               go_wp2
               go_roundg k3
               case measure => have := HK1.out; have := HJ9.out; have := HK3.out; omega
               case rel => exact ⟨(wrap64 (x15_1 + 1)), S.eA, H', ⟨by have := HK1.out; have := HJ9.out; have := HK3.out; omega⟩, ⟨S.bA⟩⟩
           ·rw [if_neg c19] at H
            exact absurd H (by simp)
          ·rw [if_neg c18] at H
           exact absurd H (by simp)
      ·rw [if_neg c8] at H
       exact absurd H (by simp)
     ·rw [if_neg c7] at H
      exact absurd H (by simp)
    ·obtain rfl := Option.some.inj H
     go_wp2
     go_ret
     exact ⟨S.eW, S.bA⟩
 ·obtain rfl := Option.some.inj H
  go_enter Try.func104, Try.ntmps104
  go_wp2_with (first | ((with_reducible refine gate_callee (f := 88) rfl ?_); refine S.gL (some 11) Try.func88 #[.slice A0 l0.length c0] ?_; (with_reducible refine (impl_ArePaths.calls k _ _ l0 false _ ?s1 HC0.out A3.out).mono ?_); (case s1 => exact S.cD HR0.out); rintro e w37 ⟨rfl, hb⟩; refine ⟨_, rfl, ?_⟩; replace HB := S.sA hb; (try clear hb)))
  go_ret
  exact ⟨S.eW, S.bA⟩
/-! ### impl_LeastGreen: function 105 -/
def impl_LeastGreen.l0 : Nat → List (S71) → List Int → Int → Int → Option (Int)
 | 0, _, _, _, _ => none
 | k + 1, x0, x8, x9, x10 => if x10 < x9 then (if 0 ≤ x10 then (if x10 < (x8.length : Int) then ((impl_FindPath.f x0 (rd x8 x10)).bind fun t147 => (if t147 ≥ 0 then (if 0 ≤ t147 then (if t147 < (x0.length : Int) then (if ((rd_T71 x0 t147).f1) = 2 then (some 7) else (impl_LeastGreen.l0 k x0 x8 x9 (wrap64 (x10 + 1)))) else (none)) else (none)) else (impl_LeastGreen.l0 k x0 x8 x9 (wrap64 (x10 + 1))))) else (none)) else (none)) else (some 5)
def impl_LeastGreen.f (k : Nat) (l0 : List (S71)) (l1 : List Int) : Option (Int) := impl_LeastGreen.l0 k l0 l1 (l1.length : Int) 0
theorem impl_LeastGreen.calls (k : Nat) (A0 : Option Addr) (c0 : Nat) (l0 : List (S71)) (A1 : Option Addr) (c1 : Nat) (l1 : List Int) (r : Int) (w : World) (hr0 : Kd.C k71 w A0 l0.length l0) (hc0 : l0.length ≤ c0) (hr1 : Kd.C (Kd.int .i64) w A1 l1.length l1) (hc1 : l1.length ≤ c1) (h : impl_LeastGreen.f k l0 l1 = some r) :
  Calls Try.prog 105 #[.slice A0 l0.length c0, .slice A1 l1.length c1] w fun e w' => e = .returned (.int .i64 r) ∧ Below w.heap.size w w' := by
 have HR0 := Aside0.mk hr0
 have HC0 := Aside0.mk hc0
 clear hr0 hc0
 have HR1 := Aside0.mk hr1
 have HC1 := Aside0.mk hc1
 clear hr1 hc1
 have HB := Aside0.mk (Below.refl w.heap.size w)
 have H : (impl_LeastGreen.l0 k l0 l1 (l1.length : Int) 0) = some r := h
 clear h
 have H' := Aside0.mk H
 clear H
 go_enter Try.func105, Try.ntmps105
 go_wp2
 go_loopg [10] k (fun kq v10 w' => ∃ (x10_1 : Int), v10 = .int .i64 x10_1 ∧ Aside0 (impl_LeastGreen.l0 kq l0 l1 (l1.length : Int) x10_1 = some r) ∧ Aside0 (kq ≤ k) ∧ Aside0 (Below w.heap.size w w'))
 case atStart => exact ⟨(0), S.eA, H', ⟨Nat.le_refl _⟩, ⟨S.bA⟩⟩
 case round =>
  clear H'
  try clear c1
  obtain ⟨x10_1, rfl, HA, HK1, HB⟩ := hrel
  cases gk with
  | zero => exact absurd HA.out (by simp [impl_LeastGreen.l0])
  | succ k1 =>
   have H := HA.out
   clear HA
   simp only [impl_LeastGreen.l0] at H
   replace H := S.dc H; rcases H with ⟨H, c3b0⟩ | ⟨H, c3b0⟩
   ·by_cases c4 : 0 ≤ x10_1
    ·rw [if_pos c4] at H
     have c4b0 : decide (0 ≤ x10_1) = true := decide_eq_true c4
     clear c4
     by_cases c5 : x10_1 < (l1.length : Int)
     ·rw [if_pos c5] at H
      have c5b0 : decide (x10_1 < (l1.length : Int)) = true := decide_eq_true c5
      clear c5
      replace H := S.bd H; obtain ⟨t147, A6, H⟩ := H
      (try dsimp only at H)
      by_cases c7 : t147 ≥ 0
      ·rw [if_pos c7] at H
       have c7b0 : decide (0 ≤ t147) = true := decide_eq_true c7
       clear c7
       by_cases c8 : 0 ≤ t147
       ·rw [if_pos c8] at H
        have c8b0 : decide (0 ≤ t147) = true := decide_eq_true c8
        clear c8
        by_cases c9 : t147 < (l0.length : Int)
        ·rw [if_pos c9] at H
         have c9b0 : decide (t147 < (l0.length : Int)) = true := decide_eq_true c9
         clear c9
         by_cases c10 : ((rd_T71 l0 t147).f1) = 2
         ·rw [if_pos c10] at H
          have c10b0 : (((rd_T71 l0 t147).f1) == 2) = true := beq_iff_eq.mpr c10
          have c10b1 : (((rd_T71 l0 t147).f1) != 2) = false := bne_eq_false_iff_eq.mpr c10
          clear c10
          obtain rfl := Option.some.inj H
          have p146 : 0 ≤ (x10_1 : Int) := S.oD
          have q146 : x10_1 < (l1.length : Int) := S.oD
          obtain ⟨ad146, e146, hx146_0⟩ := Kd.at_int HR1.out x10_1 p146 q146
          cases e146
          replace hx146_0 := S.hb HB hx146_0
          replace p146 := eq_true p146
          replace q146 := eq_true q146
          go_wp2_with (first | ((with_reducible refine gate_callee (f := 83) rfl ?_); refine S.gL (some 16) Try.func83 #[.slice A0 l0.length c0, .int .i64 (rd l1 x10_1)] ?_; (with_reducible refine (impl_FindPath.calls _ _ l0 (rd l1 x10_1) t147 _ ?s1 HC0.out A6.out).mono ?_); (case s1 => exact S.cA HR0.out); rintro e w11 ⟨rfl, hb⟩; refine ⟨_, rfl, ?_⟩; replace HB := S.sA hb; (try clear hb); have p148 : 0 ≤ (t147 : Int) := S.oD; have q148 : t147 < (l0.length : Int) := S.oD; obtain ⟨ad148, e148, hx148_0, hx148_1, hx148_2, hx148_3⟩ := at_T71 HR0.out t147 p148 q148; cases e148; replace hx148_0 := S.hb HB hx148_0; replace hx148_1 := S.hb HB hx148_1; replace hx148_2 := S.hb HB hx148_2; replace hx148_3 := S.hb HB hx148_3; replace p148 := eq_true p148; replace q148 := eq_true q148))
          go_ret
          exact ⟨S.eW, S.bA⟩
         ·rw [if_neg c10] at H
          have c10b0 : (((rd_T71 l0 t147).f1) == 2) = false := beq_eq_false_iff_ne.mpr c10
          have c10b1 : (((rd_T71 l0 t147).f1) != 2) = true := bne_iff_ne.mpr c10
          have H' := Aside0.mk H
          clear H
          have p146 : 0 ≤ (x10_1 : Int) := S.oD
          have q146 : x10_1 < (l1.length : Int) := S.oD
          obtain ⟨ad146, e146, hx146_0⟩ := Kd.at_int HR1.out x10_1 p146 q146
          cases e146
          replace hx146_0 := S.hb HB hx146_0
          replace p146 := eq_true p146
          replace q146 := eq_true q146
          go_wp2_with (first | ((with_reducible refine gate_callee (f := 83) rfl ?_); refine S.gL (some 16) Try.func83 #[.slice A0 l0.length c0, .int .i64 (rd l1 x10_1)] ?_; (with_reducible refine (impl_FindPath.calls _ _ l0 (rd l1 x10_1) t147 _ ?s1 HC0.out A6.out).mono ?_); (case s1 => exact S.cA HR0.out); rintro e w12 ⟨rfl, hb⟩; refine ⟨_, rfl, ?_⟩; replace HB := S.sA hb; (try clear hb); have p148 : 0 ≤ (t147 : Int) := S.oD; have q148 : t147 < (l0.length : Int) := S.oD; obtain ⟨ad148, e148, hx148_0, hx148_1, hx148_2, hx148_3⟩ := at_T71 HR0.out t147 p148 q148; cases e148; replace hx148_0 := S.hb HB hx148_0; replace hx148_1 := S.hb HB hx148_1; replace hx148_2 := S.hb HB hx148_2; replace hx148_3 := S.hb HB hx148_3; replace p148 := eq_true p148; replace q148 := eq_true q148))
          go_roundg k1
          case measure => have := HK1.out; omega
          case rel => exact ⟨(wrap64 (x10_1 + 1)), S.eA, H', ⟨by have := HK1.out; omega⟩, ⟨S.bA⟩⟩
        ·rw [if_neg c9] at H
         exact absurd H (by simp)
       ·rw [if_neg c8] at H
        exact absurd H (by simp)
      ·rw [if_neg c7] at H
       have c7b0 : decide (0 ≤ t147) = false := decide_eq_false c7
       clear c7
       have H' := Aside0.mk H
       clear H
       have p146 : 0 ≤ (x10_1 : Int) := S.oD
       have q146 : x10_1 < (l1.length : Int) := S.oD
       obtain ⟨ad146, e146, hx146_0⟩ := Kd.at_int HR1.out x10_1 p146 q146
       cases e146
       replace hx146_0 := S.hb HB hx146_0
       replace p146 := eq_true p146
       replace q146 := eq_true q146
       go_wp2_with (first | ((with_reducible refine gate_callee (f := 83) rfl ?_); refine S.gL (some 16) Try.func83 #[.slice A0 l0.length c0, .int .i64 (rd l1 x10_1)] ?_; (with_reducible refine (impl_FindPath.calls _ _ l0 (rd l1 x10_1) t147 _ ?s1 HC0.out A6.out).mono ?_); (case s1 => exact S.cA HR0.out); rintro e w13 ⟨rfl, hb⟩; refine ⟨_, rfl, ?_⟩; replace HB := S.sA hb; (try clear hb)))
       go_roundg k1
       case measure => have := HK1.out; omega
       case rel => exact ⟨(wrap64 (x10_1 + 1)), S.eA, H', ⟨by have := HK1.out; omega⟩, ⟨S.bA⟩⟩
     ·rw [if_neg c5] at H
      exact absurd H (by simp)
    ·rw [if_neg c4] at H
     exact absurd H (by simp)
   ·obtain rfl := Option.some.inj H
    go_wp2
    go_ret
    exact ⟨S.eW, S.bA⟩

-- NOT PRINTED: function 146 (slices_IndexFunc_int_int)

-- NOT PRINTED: function 140 (slices_ContainsFunc_int_int)

/-! ### impl_isCovered: function 127 -/
theorem impl_isCovered.has (x : List Int) (id : Int) (hl : x.length ≤ 9223372036854775807) : ∃ k, slices_Contains_int_int.f k x id = some (decide (id ∈ x)) := by
 have key : ∀ (d i : Nat), i + d = x.length → ∃ (k : Nat) (m : Int), slices_Index_int_int.l0 k x id (x.length : Int) (i : Int) = some m ∧ decide (m ≥ 0) = decide (id ∈ x.drop i) := by
  intro d
  induction d with
  | zero =>
   intro i hi
   refine ⟨1, -1, ?_, by simp [List.drop_eq_nil_of_le (show x.length ≤ i by omega)]⟩
   simp only [slices_Index_int_int.l0, show ¬ (i : Int) < (x.length : Int) by omega, if_false]
  | succ d ih =>
   intro i hi
   obtain ⟨k, m, hk, he⟩ := ih (i + 1) (by omega)
   rw [show ((i + 1 : Nat) : Int) = (i : Int) + 1 by omega] at hk
   have hi2 : i < x.length := by omega
   have hr : rd x (i : Int) = x[i] := by simp [rd, hi2]
   have hw : wrap64 ((i : Int) + 1) = (i : Int) + 1 := by unfold wrap64; omega
   by_cases h1 : id = x[i]
   ·refine ⟨k + 1, (i : Int), ?_, by rw [List.drop_eq_getElem_cons hi2]; exact (decide_eq_true (show (i : Int) ≥ 0 by omega)).trans (decide_eq_true (h1 ▸ List.mem_cons_self)).symm⟩
    simp only [slices_Index_int_int.l0, show (i : Int) < (x.length : Int) by omega, show (0 : Int) ≤ (i : Int) by omega, if_true, hr, if_pos h1]
   ·refine ⟨k + 1, m, ?_, by rw [he, List.drop_eq_getElem_cons hi2]; exact decide_eq_decide.2 ⟨List.mem_cons_of_mem _, fun h => (List.mem_cons.1 h).resolve_left h1⟩⟩
    simp only [slices_Index_int_int.l0, show (i : Int) < (x.length : Int) by omega, show (0 : Int) ≤ (i : Int) by omega, if_true, hr, if_neg h1, hw]
    exact hk
 obtain ⟨k, m, hk, he⟩ := key x.length 0 (by omega)
 rw [List.drop_zero] at he
 refine ⟨k, ?_⟩
 unfold slices_Contains_int_int.f slices_Index_int_int.f
 rw [show slices_Index_int_int.l0 k x id (x.length : Int) 0 = some m from hk, Option.bind_some, he]
theorem impl_isCovered.pred (a1 : Int) (B1 : Nat) (w : World) (hB1 : B1 < w.heap.size) (hcB1 : w.cell? ⟨B1, 0, none⟩ = some (.int .i64 a1)) :
  ∀ (W : World) (A : Option Addr) (c : Nat) (x : List Int), Below w.heap.size w W → Kd.C (Kd.int .i64) W A x.length x → x.length ≤ c → Calls Try.prog 141 (#[.slice A x.length c] ++ #[.pointer (some ⟨B1, 0, none⟩)]) W fun e w' => e = .returned (.bool (decide (a1 ∈ x))) ∧ Below w.heap.size w w' := fun W A c x hb hC hc => by
 have cB1 : W.cell? ⟨B1, 0, none⟩ = some (.int .i64 a1) := (hb.cell (p := ⟨B1, 0, none⟩) hB1).trans hcB1
 obtain ⟨k, hk⟩ := impl_isCovered.has x a1 hC.2.1
 have HK := Aside0.mk hk
 have HC := Aside0.mk hC
 have Hc := Aside0.mk hc
 have hB2 := Aside0.mk hb
 clear hb hcB1 hk hC hc
 generalize decide (a1 ∈ x) = r at HK ⊢
 show Calls Try.prog 141 #[.slice A x.length c, .pointer (some ⟨B1, 0, none⟩)] W _
 go_enter Try.func141, Try.ntmps141
 go_wp2_with (first | (go_at_call 73; refine (slices_Contains_int_int.calls k A c x a1 r _ ?s1 Hc.out HK.out).mono ?_; (case s1 => repeat (first | exact HC.out | (with_reducible refine Kd.C_alloc ?_ _) | (with_reducible refine Kd.C_drewN ?_ _) | (with_reducible refine Kd.C_drew ?_))); rintro e w' ⟨rfl, ⟨nd, rfl⟩⟩))
 go_ret
 exact ⟨rfl, by repeat (first | (with_reducible first | exact hB2.out | apply below_alloc | apply pw_below_drewN | apply below_drew1) | exact hB2.out)⟩
theorem impl_isCovered.idx (p : List Int → Bool) (g : Nat) (lb : Array Value) (eg : ∀ args w, (callFunc g args).run Try.prog w = .ok (.enter g args) w) (A0 : Option Addr) (c0 : Nat) (l0 : List (List Int)) (w : World)
  (hp : ∀ (W : World) (A : Option Addr) (c : Nat) (x : List Int), Below w.heap.size w W → Kd.C (Kd.int .i64) W A x.length x → x.length ≤ c → Calls Try.prog g (#[.slice A x.length c] ++ lb) W fun e w' => e = .returned (.bool (p x)) ∧ Below w.heap.size w w')
  (hr0 : Kd.C (Kd.slice 3 (Kd.int .i64)) w A0 l0.length l0) (hc0 : l0.length ≤ c0) :
  Calls Try.prog 146 #[.slice A0 l0.length c0, .func (.func g) #[] lb] w fun e w' => e = .returned (.int .i64 (Go.Proofs.Ytjgigmghcfdomaa.Hnd.fidx p l0 0)) ∧ Below w.heap.size w w' := by
 have hbig : l0.length ≤ 9223372036854775807 := hr0.2.1
 have HR0 := Aside0.mk hr0
 have HP := Aside0.mk hp
 clear hr0 hp
 go_enter Try.func146, Try.ntmps146
 go_wp2
 go_loopg [5, 8] l0.length (fun gg _ s8 wr => ∃ kk : Nat, kk ≤ l0.length ∧ l0.length - kk ≤ gg ∧ s8 = .int .i64 kk ∧ Aside0 (Below w.heap.size w wr) ∧ Aside0 (Go.Proofs.Ytjgigmghcfdomaa.Hnd.fidx p l0 0 = Go.Proofs.Ytjgigmghcfdomaa.Hnd.fidx p (l0.drop kk) kk))
 case atStart => exact ⟨0, Nat.zero_le _, by omega, rfl, ⟨Below.refl _ w⟩, ⟨by simp⟩⟩
 case round =>
  obtain ⟨kk, hkk, hg, rfl, BW, A⟩ := hrel
  by_cases hlt : kk < l0.length
  ·have hltz : (kk : Int) < (l0.length : Int) := by omega
   obtain ⟨ad116, A1, c1, e116, hx0, hl1, hC1⟩ := at_L2 HR0.out (kk : Int) (by omega) hltz
   cases e116
   simp only [Int.toNat_natCast] at hx0
   replace hx0 := (BW.out.cell (World.block_lt_of_cell? w _ hx0)).trans hx0
   have hcall := HP.out wr A1 c1 (rd_L2 l0 (kk : Int)) BW.out (Kd.C_below hC1 BW.out) hl1
   have hq0 : rd_L2 l0 (kk : Int) = l0[kk] := by simp [rd_L2, hlt]
   have E : Aside0 (Go.Proofs.Ytjgigmghcfdomaa.Hnd.fidx p l0 0 = if p (rd_L2 l0 (kk : Int)) = true then (kk : Int) else Go.Proofs.Ytjgigmghcfdomaa.Hnd.fidx p (l0.drop (kk + 1)) (kk + 1)) := ⟨by rw [A.out, List.drop_eq_getElem_cons hlt, hq0]; rfl⟩
   clear A hq0 hl1 hC1
   generalize rd_L2 l0 (kk : Int) = y at hx0 hcall E
   cases hq : p y with
   | true =>
    rw [hq] at hcall
    go_wp2_with (fail)
    refine hcall.mono ?_
    rintro e w' ⟨rfl, hb'⟩
    clear hcall
    dsimp only
    go_wp2_with (fail)
    go_ret
    exact ⟨by rw [E.out, if_pos hq]; rfl, hb'⟩
   | false =>
    rw [hq] at hcall
    go_wp2_with (fail)
    refine hcall.mono ?_
    rintro e w' ⟨rfl, hb'⟩
    clear hcall
    dsimp only
    go_wp2_with (fail)
    go_roundg (l0.length - (kk + 1))
    case measure => omega
    case rel => exact ⟨kk + 1, by omega, by omega, by go_num, ⟨hb'⟩, ⟨by rw [E.out, hq]; rfl⟩⟩
  ·have hltz : ¬ (kk : Int) < (l0.length : Int) := by omega
   have hkn : kk = l0.length := by omega
   have E : Aside0 (Go.Proofs.Ytjgigmghcfdomaa.Hnd.fidx p l0 0 = -1) := ⟨by rw [A.out, hkn, List.drop_length]; rfl⟩
   clear A
   subst hkn
   go_wp2
   go_ret
   exact ⟨by rw [E.out]; rfl, BW.out⟩
theorem impl_isCovered.cont (p : List Int → Bool) (g : Nat) (lb : Array Value) (eg : ∀ args w, (callFunc g args).run Try.prog w = .ok (.enter g args) w) (A0 : Option Addr) (c0 : Nat) (l0 : List (List Int)) (w : World)
  (hp : ∀ (W : World) (A : Option Addr) (c : Nat) (x : List Int), Below w.heap.size w W → Kd.C (Kd.int .i64) W A x.length x → x.length ≤ c → Calls Try.prog g (#[.slice A x.length c] ++ lb) W fun e w' => e = .returned (.bool (p x)) ∧ Below w.heap.size w w')
  (hr0 : Kd.C (Kd.slice 3 (Kd.int .i64)) w A0 l0.length l0) (hc0 : l0.length ≤ c0) :
  Calls Try.prog 140 #[.slice A0 l0.length c0, .func (.func g) #[] lb] w fun e w' => e = .returned (.bool (decide (0 ≤ Go.Proofs.Ytjgigmghcfdomaa.Hnd.fidx p l0 0))) ∧ Below w.heap.size w w' := by
 have hcon := impl_isCovered.idx p g lb eg A0 c0 l0 w hp hr0 hc0
 generalize Go.Proofs.Ytjgigmghcfdomaa.Hnd.fidx p l0 0 = q at hcon ⊢
 clear hr0 eg hp
 go_enter Try.func140, Try.ntmps140
 go_wp2_with (fail)
 refine hcon.mono ?_
 rintro e w' ⟨rfl, hb'⟩
 have HB' := Aside0.mk hb'
 clear hcon hb'
 dsimp only
 go_wp2_with (fail)
 go_ret
 exact ⟨by first | rfl | simp, HB'.out⟩
def impl_isCovered.f (l0 : List (List Int)) (a1 : Int) : Option (Bool) := some (decide (0 ≤ Go.Proofs.Ytjgigmghcfdomaa.Hnd.fidx (fun x => decide (a1 ∈ x)) l0 0))
set_option maxHeartbeats 8000000 in
theorem impl_isCovered.calls (A0 : Option Addr) (c0 : Nat) (l0 : List (List Int)) (a1 : Int) (r : Bool) (w : World) (hr0 : Kd.C (Kd.slice 3 (Kd.int .i64)) w A0 l0.length l0) (hc0 : l0.length ≤ c0) (h : impl_isCovered.f l0 a1 = some r) :
  Calls Try.prog 127 #[.slice A0 l0.length c0, .int .i64 a1] w fun e w' => e = .returned (.bool r) ∧ Below w.heap.size w w' := by
 obtain rfl := Option.some.inj h
 clear h
 have eg : ∀ args w, (callFunc 141 args).run Try.prog w = .ok (.enter 141 args) w := Go.Proofs.Ytjgigmghcfdomaa.Hnd.enters_fn Try.func141 (by kernel_rfl) rfl
 have hB1 : Below w.heap.size w (w.alloc (.cells #[.int .i64 a1] 3)) := (Below.refl _ w).alloc (Nat.le_refl _) _
 have hcon := impl_isCovered.cont (fun x => decide (a1 ∈ x)) 141 #[.pointer (some ⟨w.heap.size, 0, none⟩)] eg A0 c0 l0 (w.alloc (.cells #[.int .i64 a1] 3)) (impl_isCovered.pred a1 w.heap.size _ (by simp) (by simp)) (Kd.C_below hr0 hB1) hc0
 generalize decide (0 ≤ Go.Proofs.Ytjgigmghcfdomaa.Hnd.fidx (fun x => decide (a1 ∈ x)) l0 0) = r at hcon ⊢
 clear hr0 eg
 have HB1 := Aside0.mk hB1
 clear hB1
 go_enter Try.func127, Try.ntmps127
 go_wp2_with (fail)
 refine hcon.mono ?_
 rintro e w' ⟨rfl, hb'⟩
 clear hcon
 dsimp only
 go_wp2_with (fail)
 go_ret
 exact ⟨rfl, HB1.out.trans (hb'.mono (by simp))⟩

/-! ### impl_Covers: function 106 -/
mutual
def impl_Covers.l0 : Nat → List (S71) → List (List Int) → List (List Int) → Int → Int → Option (Bool)
 | 0, _, _, _, _, _ => none
 | k + 1, x0, x1, x12, x13, x14 => if x14 < x13 then (if 0 ≤ x14 then (if x14 < (x12.length : Int) then ((impl_IsTogether.f k x0 (rd_L2 x12 x14)).bind fun t151 => (if t151 = true then (impl_Covers.l0 k x0 x1 x12 x13 (wrap64 (x14 + 1))) else (some false))) else (none)) else (none)) else (impl_Covers.l1 k x1 x0 (x0.length : Int) 0)
def impl_Covers.l1 : Nat → List (List Int) → List (S71) → Int → Int → Option (Bool)
 | 0, _, _, _, _ => none
 | k + 1, x1, x23, x24, x25 => if x25 < x24 then (if 0 ≤ x25 then (if x25 < (x23.length : Int) then ((impl_isCovered.f x1 ((rd_T71 x23 x25).f0)).bind fun t154 => (if t154 = true then (impl_Covers.l1 k x1 x23 x24 (wrap64 (x25 + 1))) else (some false))) else (none)) else (none)) else (some true)
end
def impl_Covers.f (k : Nat) (l0 : List (S71)) (l1 : List (List Int)) : Option (Bool) := (impl_ArePaths.f k l0).bind fun t149 => (if t149 = true then (impl_Covers.l0 k l0 l1 l1 (l1.length : Int) 0) else (some false))
theorem impl_Covers.calls (k : Nat) (A0 : Option Addr) (c0 : Nat) (l0 : List (S71)) (A1 : Option Addr) (c1 : Nat) (l1 : List (List Int)) (r : Bool) (w : World) (hr0 : Kd.C k71 w A0 l0.length l0) (hc0 : l0.length ≤ c0) (hr1 : Kd.C (Kd.slice 3 (Kd.int .i64)) w A1 l1.length l1) (hc1 : l1.length ≤ c1) (h : impl_Covers.f k l0 l1 = some r) :
  Calls Try.prog 106 #[.slice A0 l0.length c0, .slice A1 l1.length c1] w fun e w' => e = .returned (.bool r) ∧ Below w.heap.size w w' := by
 have hu71 := Try.underlying71
 have HR0 := Aside0.mk hr0
 have HC0 := Aside0.mk hc0
 clear hr0 hc0
 have HR1 := Aside0.mk hr1
 have HC1 := Aside0.mk hc1
 clear hr1 hc1
 have HB := Aside0.mk (Below.refl w.heap.size w)
 have H : ((impl_ArePaths.f k l0).bind fun t149 => (if t149 = true then (impl_Covers.l0 k l0 l1 l1 (l1.length : Int) 0) else (some false))) = some r := h
 clear h
 replace H := S.bd H; obtain ⟨t149, A3, H⟩ := H
 (try dsimp only at H)
 replace H := S.db H; rcases H with ⟨rfl, H⟩ | ⟨rfl, H⟩
 ·have H' := Aside0.mk H
  clear H
  go_enter Try.func106, Try.ntmps106
  go_wp2_with (first | ((with_reducible refine gate_callee (f := 88) rfl ?_); refine S.gL (some 10) Try.func88 #[.slice A0 l0.length c0] ?_; (with_reducible refine (impl_ArePaths.calls k _ _ l0 true _ ?s1 HC0.out A3.out).mono ?_); (case s1 => exact S.cD HR0.out); rintro e w5 ⟨rfl, hb⟩; refine ⟨_, rfl, ?_⟩; replace HB := S.sA hb; (try clear hb)))
  go_loopg [14] k (fun kq v14 w' => ∃ (x14_1 : Int), v14 = .int .i64 x14_1 ∧ Aside0 (impl_Covers.l0 kq l0 l1 l1 (l1.length : Int) x14_1 = some r) ∧ Aside0 (kq ≤ k) ∧ Aside0 (Below w.heap.size w w'))
  case atStart => exact ⟨(0), S.eA, H', ⟨Nat.le_refl _⟩, ⟨S.bA⟩⟩
  case round =>
   clear H'
   try clear c1
   try clear c4
   obtain ⟨x14_1, rfl, HA, HK1, HB⟩ := hrel
   cases gk with
   | zero => exact absurd HA.out (by simp [impl_Covers.l0])
   | succ k1 =>
    have H := HA.out
    clear HA
    simp only [impl_Covers.l0] at H
    replace H := S.dc H; rcases H with ⟨H, c6b0⟩ | ⟨H, c6b0⟩
    ·by_cases c7 : 0 ≤ x14_1
     ·rw [if_pos c7] at H
      have c7b0 : decide (0 ≤ x14_1) = true := decide_eq_true c7
      clear c7
      by_cases c8 : x14_1 < (l1.length : Int)
      ·rw [if_pos c8] at H
       have c8b0 : decide (x14_1 < (l1.length : Int)) = true := decide_eq_true c8
       clear c8
       replace H := S.bd H; obtain ⟨t151, A9, H⟩ := H
       (try dsimp only at H)
       replace H := S.db H; rcases H with ⟨rfl, H⟩ | ⟨rfl, H⟩
       ·have H' := Aside0.mk H
        clear H
        have p150 : 0 ≤ (x14_1 : Int) := S.oD
        have q150 : x14_1 < (l1.length : Int) := S.oD
        obtain ⟨ad150, A150_0, c150_0, e150, hx150_0, hl150_0, hi150_0⟩ := at_L2 HR1.out x14_1 p150 q150
        cases e150
        replace hx150_0 := S.hb HB hx150_0
        have HR150_0 := Aside0.mk hi150_0
        have HC150_0 := Aside0.mk hl150_0
        clear hi150_0 hl150_0
        replace p150 := eq_true p150
        replace q150 := eq_true q150
        go_wp2_with (first | ((with_reducible refine gate_callee (f := 104) rfl ?_); refine S.gL (some 20) Try.func104 #[.slice A0 l0.length c0, .slice A150_0 (rd_L2 l1 x14_1).length c150_0] ?_; (with_reducible refine (impl_IsTogether.calls k1 _ _ l0 _ _ (rd_L2 l1 x14_1) true _ ?s1 HC0.out ?s3 HC150_0.out A9.out).mono ?_); (case s1 => exact S.cA HR0.out); (case s3 => exact S.cA HR150_0.out); rintro e w11 ⟨rfl, hb⟩; refine ⟨_, rfl, ?_⟩; replace HB := S.sA hb; (try clear hb)))
        go_roundg k1
        case measure => have := HK1.out; omega
        case rel => exact ⟨(wrap64 (x14_1 + 1)), S.eA, H', ⟨by have := HK1.out; omega⟩, ⟨S.bA⟩⟩
       ·obtain rfl := Option.some.inj H
        have p150 : 0 ≤ (x14_1 : Int) := S.oD
        have q150 : x14_1 < (l1.length : Int) := S.oD
        obtain ⟨ad150, A150_0, c150_0, e150, hx150_0, hl150_0, hi150_0⟩ := at_L2 HR1.out x14_1 p150 q150
        cases e150
        replace hx150_0 := S.hb HB hx150_0
        have HR150_0 := Aside0.mk hi150_0
        have HC150_0 := Aside0.mk hl150_0
        clear hi150_0 hl150_0
        replace p150 := eq_true p150
        replace q150 := eq_true q150
        go_wp2_with (first | ((with_reducible refine gate_callee (f := 104) rfl ?_); refine S.gL (some 20) Try.func104 #[.slice A0 l0.length c0, .slice A150_0 (rd_L2 l1 x14_1).length c150_0] ?_; (with_reducible refine (impl_IsTogether.calls k1 _ _ l0 _ _ (rd_L2 l1 x14_1) false _ ?s1 HC0.out ?s3 HC150_0.out A9.out).mono ?_); (case s1 => exact S.cA HR0.out); (case s3 => exact S.cA HR150_0.out); rintro e w12 ⟨rfl, hb⟩; refine ⟨_, rfl, ?_⟩; replace HB := S.sA hb; (try clear hb)))
        go_ret
        exact ⟨S.eW, S.bA⟩
      ·rw [if_neg c8] at H
       exact absurd H (by simp)
     ·rw [if_neg c7] at H
      exact absurd H (by simp)
    ·have H' := Aside0.mk H
     clear H
     go_wp2
     go_loopg [25] k1 (fun kq v25 w' => ∃ (x25_2 : Int), v25 = .int .i64 x25_2 ∧ Aside0 (impl_Covers.l1 kq l1 l0 (l0.length : Int) x25_2 = some r) ∧ Aside0 (kq ≤ k1) ∧ Aside0 (Below w.heap.size w w'))
     case atStart => exact ⟨(0), S.eA, H', ⟨Nat.le_refl _⟩, ⟨S.bA⟩⟩
     case round =>
      clear H'
      try clear c1
      try clear c4
      try clear c6
      try clear c6b0
      obtain ⟨x25_2, rfl, HA, HK2, HB⟩ := hrel
      cases gk with
      | zero => exact absurd HA.out (by simp [impl_Covers.l1])
      | succ k2 =>
       have H := HA.out
       clear HA
       simp only [impl_Covers.l1] at H
       replace H := S.dc H; rcases H with ⟨H, c13b0⟩ | ⟨H, c13b0⟩
       ·by_cases c14 : 0 ≤ x25_2
        ·rw [if_pos c14] at H
         have c14b0 : decide (0 ≤ x25_2) = true := decide_eq_true c14
         clear c14
         by_cases c15 : x25_2 < (l0.length : Int)
         ·rw [if_pos c15] at H
          have c15b0 : decide (x25_2 < (l0.length : Int)) = true := decide_eq_true c15
          clear c15
          replace H := S.bd H; obtain ⟨t154, A16, H⟩ := H
          (try dsimp only at H)
          replace H := S.db H; rcases H with ⟨rfl, H⟩ | ⟨rfl, H⟩
          ·have H' := Aside0.mk H
           clear H
           have p152 : 0 ≤ (x25_2 : Int) := S.oD
           have q152 : x25_2 < (l0.length : Int) := S.oD
           obtain ⟨ad152, e152, hx152_0, hx152_1, hx152_2, hx152_3⟩ := at_T71 HR0.out x25_2 p152 q152
           cases e152
           replace hx152_0 := S.hb HB hx152_0
           replace hx152_1 := S.hb HB hx152_1
           replace hx152_2 := S.hb HB hx152_2
           replace hx152_3 := S.hb HB hx152_3
           replace p152 := eq_true p152
           replace q152 := eq_true q152
           go_wp2_with (first | ((with_reducible refine gate_dst (N := 8) rfl ?_); refine S.bx 8 (cs := #[.int .i64 0, .int .i64 0, .int .i64 0, .int .i64 0]) (t := 71) ?_; intro gb153 hg w18 hbox hb; have BK153 := Aside0.mk hbox; have GW153 := S.geA hg; have GE153 := S.geA hg; replace HB := S.sA hb; clear hb hbox hg; obtain ⟨Z19a, Z19b, Z19c, Z19d, Y19a, Y19b, Y19c, Y19d⟩ := S.c4 BK153.out) | ((with_reducible refine gate_callee (f := 127) rfl ?_); refine S.gL (some 32) Try.func127 #[.slice A1 l1.length c1, .int .i64 ((rd_T71 l0 x25_2).f0)] ?_; (with_reducible refine (impl_isCovered.calls _ _ l1 ((rd_T71 l0 x25_2).f0) true _ ?s1 HC1.out A16.out).mono ?_); (case s1 => exact Kd.C_below HR1.out S.bG); rintro e w20 ⟨rfl, hb⟩; refine ⟨_, rfl, ?_⟩; replace BK153 := S.kp4 BK153 hb; replace HB := S.sG hb; (try clear hb)))
           go_roundg k2
           case measure => have := HK1.out; have := HK2.out; omega
           case rel => exact ⟨(wrap64 (x25_2 + 1)), S.eA, H', ⟨by have := HK1.out; have := HK2.out; omega⟩, ⟨S.bG⟩⟩
          ·obtain rfl := Option.some.inj H
           have p152 : 0 ≤ (x25_2 : Int) := S.oD
           have q152 : x25_2 < (l0.length : Int) := S.oD
           obtain ⟨ad152, e152, hx152_0, hx152_1, hx152_2, hx152_3⟩ := at_T71 HR0.out x25_2 p152 q152
           cases e152
           replace hx152_0 := S.hb HB hx152_0
           replace hx152_1 := S.hb HB hx152_1
           replace hx152_2 := S.hb HB hx152_2
           replace hx152_3 := S.hb HB hx152_3
           replace p152 := eq_true p152
           replace q152 := eq_true q152
           go_wp2_with (first | ((with_reducible refine gate_dst (N := 8) rfl ?_); refine S.bx 8 (cs := #[.int .i64 0, .int .i64 0, .int .i64 0, .int .i64 0]) (t := 71) ?_; intro gb153 hg w21 hbox hb; have BK153 := Aside0.mk hbox; have GW153 := S.geA hg; have GE153 := S.geA hg; replace HB := S.sA hb; clear hb hbox hg; obtain ⟨Z22a, Z22b, Z22c, Z22d, Y22a, Y22b, Y22c, Y22d⟩ := S.c4 BK153.out) | ((with_reducible refine gate_callee (f := 127) rfl ?_); refine S.gL (some 32) Try.func127 #[.slice A1 l1.length c1, .int .i64 ((rd_T71 l0 x25_2).f0)] ?_; (with_reducible refine (impl_isCovered.calls _ _ l1 ((rd_T71 l0 x25_2).f0) false _ ?s1 HC1.out A16.out).mono ?_); (case s1 => exact Kd.C_below HR1.out S.bG); rintro e w23 ⟨rfl, hb⟩; refine ⟨_, rfl, ?_⟩; replace BK153 := S.kp4 BK153 hb; replace HB := S.sG hb; (try clear hb)))
           go_ret
           exact ⟨S.eW, S.bG⟩
         ·rw [if_neg c15] at H
          exact absurd H (by simp)
        ·rw [if_neg c14] at H
         exact absurd H (by simp)
       ·obtain rfl := Option.some.inj H
        go_wp2
        go_ret
        exact ⟨S.eW, S.bA⟩
 ·obtain rfl := Option.some.inj H
  go_enter Try.func106, Try.ntmps106
  go_wp2_with (first | ((with_reducible refine gate_callee (f := 88) rfl ?_); refine S.gL (some 10) Try.func88 #[.slice A0 l0.length c0] ?_; (with_reducible refine (impl_ArePaths.calls k _ _ l0 false _ ?s1 HC0.out A3.out).mono ?_); (case s1 => exact S.cD HR0.out); rintro e w24 ⟨rfl, hb⟩; refine ⟨_, rfl, ?_⟩; replace HB := S.sA hb; (try clear hb)))
  go_ret
  exact ⟨S.eW, S.bA⟩
end Go.Proofs.Ytjgigmghcfdomaa.PFnSwitched
