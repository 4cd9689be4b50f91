/- Printed by a program: what the Go functions compute, as plain Lean functions (.f), and the proofs that the machine's calls come to just that (.calls). -/
import Derived.Test.YtopchlafmfgpnaaPFnExactCutForx0
import Derived.Test.YtopchlafmfgpnaaPFnExactCutForx3
import Derived.Test.YtopchlafmfgpnaaPFnExactCutForx7
import Derived.Test.YtopchlafmfgpnaaPFnExactCutForx9
namespace Go.Proofs.Ytopchlafmfgpnaa.PFnExactCutFor
open Go.RowKit Go.Proofs.YtopchlafmfgpnaaW.PrintWords Go.Proofs.YtopchlafmfgpnaaW.PrintLast Go.Proofs.YtopchlafmfgpnaaW.PrintMore
attribute [local go_sem] max2_int min2_int max_two min_two max_three min_three max_four min_four   -- for this text's walks alone
set_option linter.unusedVariables false
set_option linter.unusedSimpArgs false

/-! ### spec_IsControl: function 76 -/
def spec_IsControl.j0 : Nat → List (S52) → Bool → List Int → Int → List Int → Int → Option (Bool)
 | 0, _, _, _, _, _, _ => none
 | k + 1, x0, x28, x223000, x223001, x223002, x223003 => if x28 = true then (some false) else (if (x223002.length : Int) = 0 then (some (x223003 == 0)) else ((spec_ClearBetween.f k x0 x223000 x223002).bind fun t226 => ((spec_l1In.f x223003 1 t226).bind fun t227 => (some t227))))
def spec_IsControl.f (k : Nat) (l0 : List (S52)) (l1_0 : List Int) (a1_1 : Int) (l1_2 : List Int) (a1_3 : Int) : Option (Bool) := if (l1_0.length : Int) = 0 then (spec_IsControl.j0 k l0 true l1_0 a1_1 l1_2 a1_3) else ((spec_IsTogether.f k l0 l1_0).bind fun t223 => (if t223 = true then ((spec_IsTogether.f k l0 l1_2).bind fun t224 => (if t224 = true then ((spec_l1In.f a1_1 0 1000000).bind fun t225 => (spec_IsControl.j0 k l0 (!t225) l1_0 a1_1 l1_2 a1_3)) else (spec_IsControl.j0 k l0 true l1_0 a1_1 l1_2 a1_3))) else (spec_IsControl.j0 k l0 true l1_0 a1_1 l1_2 a1_3)))
def spec_IsControl.T5 : Bool × List (List Nat × List Nat) := (true, [([], []), ([0], [0]), ([], []), ([], []), ([3], [3]), ([], []), ([5], [5]), ([2, 4, 6], [2, 4, 6]), ([1, 7, 7], [1, 7]), ([8, 8, 0, 1, 2, 3, 4, 5, 6, 7, 8], [8])])
def spec_IsControl.B5 : List Nat := [0, 1, 0, 0, 8, 0, 32, 124, 255, 511]
theorem spec_IsControl.tab5 : rtab .any (opsOf Try.f76 5) = spec_IsControl.T5 := by kernel_rfl
theorem spec_IsControl.bits5 : waitsOk spec_IsControl.T5.2 spec_IsControl.B5 = true := by kernel_rfl
set_option maxHeartbeats 8000000 in
set_option maxRecDepth 100000 in
theorem spec_IsControl.calls (k : Nat) (A0 : Option Addr) (c0 : Nat) (l0 : List (S52)) (A1_0 : Option Addr) (c1_0 : Nat) (l1_0 : List Int) (a1_1 : Int) (A1_2 : Option Addr) (c1_2 : Nat) (l1_2 : List Int) (a1_3 : Int) (r : Bool) (w : World) (hr0 : Kd.C k52 w A0 l0.length l0) (hc0 : l0.length ≤ c0) (hr1_0 : Kd.C (Kd.int .i64) w A1_0 l1_0.length l1_0) (hc1_0 : l1_0.length ≤ c1_0) (hr1_2 : Kd.C (Kd.int .i64) w A1_2 l1_2.length l1_2) (hc1_2 : l1_2.length ≤ c1_2) (h : spec_IsControl.f k l0 l1_0 a1_1 l1_2 a1_3 = some r) :
  Calls Try.prog 76 #[.slice A0 l0.length c0, .agg #[.slice A1_0 l1_0.length c1_0, .int .i64 a1_1, .slice A1_2 l1_2.length c1_2, .int .i64 a1_3]] w fun e w' => e = .returned (.bool r) ∧ Below w.heap.size w w' := by
 have hu60 := Try.underlying60
 have HR0 := Aside0.mk hr0
 have HC0 := Aside0.mk hc0
 clear hr0 hc0
 have HR1_0 := Aside0.mk hr1_0
 have HC1_0 := Aside0.mk hc1_0
 clear hr1_0 hc1_0
 have HR1_2 := Aside0.mk hr1_2
 have HC1_2 := Aside0.mk hc1_2
 clear hr1_2 hc1_2
 have HB := Aside0.mk (Below.refl w.heap.size w)
 have H : (if (l1_0.length : Int) = 0 then (spec_IsControl.j0 k l0 true l1_0 a1_1 l1_2 a1_3) else ((spec_IsTogether.f k l0 l1_0).bind fun t223 => (if t223 = true then ((spec_IsTogether.f k l0 l1_2).bind fun t224 => (if t224 = true then ((spec_l1In.f a1_1 0 1000000).bind fun t225 => (spec_IsControl.j0 k l0 (!t225) l1_0 a1_1 l1_2 a1_3)) else (spec_IsControl.j0 k l0 true l1_0 a1_1 l1_2 a1_3))) else (spec_IsControl.j0 k l0 true l1_0 a1_1 l1_2 a1_3)))) = some r := h
 clear h
 have HC3 := Aside0.mk H
 clear H
 go_enter Try.func76, Try.ntmps76
 go_upto_region 1 with (first | ((with_reducible refine gate_dst (N := 3) rfl ?_); refine S.bx 3 (cs := #[.slice A1_0 l1_0.length c1_0, .int .i64 a1_1, .slice A1_2 l1_2.length c1_2, .int .i64 a1_3]) (t := 60) ?_; intro gb222 hg w4 hbox hb; have BK222 := Aside0.mk hbox; have GW222 := S.geA hg; have GE222 := S.geA hg; replace HB := S.sA hb; clear hb hbox hg))
 (try simp only [Act.put, List.setIfInBounds_toArray, List.set_cons_zero, List.set_cons_succ])
 go_cut [28] (fun v28 wc => ∃ (kq : Nat) (x28_2 : Bool), v28 = .bool x28_2 ∧ Aside0 (spec_IsControl.j0 kq l0 x28_2 l1_0 a1_1 l1_2 a1_3 = some r) ∧ Aside0 (kq ≤ k) ∧ Aside0 (wc.heap[gb222]? = some (.cells #[(.slice A1_0 l1_0.length c1_0), .int .i64 a1_1, (.slice A1_2 l1_2.length c1_2), .int .i64 a1_3] 60 (0, 0))) ∧ Aside0 (Below w.heap.size w wc))
 case first =>
  have H := HC3.out
  clear HC3
  by_cases c5 : (l1_0.length : Int) = 0
  ·rw [if_pos c5] at H
   have c5b0 : ((l1_0.length : Int) == 0) = true := beq_iff_eq.mpr c5
   have c5b1 : ((l1_0.length : Int) != 0) = false := bne_eq_false_iff_eq.mpr c5
   clear c5
   (first | rw [c5b0] | (simp only [i64_w, i32_w]; rw [c5b0]) | skip)
   have H' := Aside0.mk H
   clear H
   obtain ⟨Z6a, Z6b, Z6c, Z6d, Y6a, Y6b, Y6c, Y6d⟩ := S.c4 BK222.out
   go_wp2
   go_meet
   case rel => exact ⟨_, (true), S.eA, H', S.le, ⟨S.uB BK222.out⟩, ⟨S.bG⟩⟩
  ·rw [if_neg c5] at H
   have c5b0 : ((l1_0.length : Int) == 0) = false := beq_eq_false_iff_ne.mpr c5
   have c5b1 : ((l1_0.length : Int) != 0) = true := bne_iff_ne.mpr c5
   have c5b2 : ¬ (l1_0 = []) := fun h_ => c5 (by rw [h_]; rfl)
   (first | rw [c5b0] | (simp only [i64_w, i32_w]; rw [c5b0]) | skip)
   replace H := S.bd H; obtain ⟨t223, A7, H⟩ := H
   (try dsimp only at H)
   replace H := S.db H; rcases H with ⟨rfl, H⟩ | ⟨rfl, H⟩
   ·replace H := S.bd H; obtain ⟨t224, A9, H⟩ := H
    (try dsimp only at H)
    replace H := S.db H; rcases H with ⟨rfl, H⟩ | ⟨rfl, H⟩
    ·replace H := S.bd H; obtain ⟨t225, A11, H⟩ := H
     (try dsimp only at H)
     have H' := Aside0.mk H
     clear H
     obtain ⟨Z12a, Z12b, Z12c, Z12d, Y12a, Y12b, Y12c, Y12d⟩ := S.c4 BK222.out
     go_wp2_with (first | (go_at_call 107; (with_reducible refine (spec_IsTogether.calls k _ _ l0 _ _ l1_0 true _ ?s1 HC0.out ?s3 HC1_0.out A7.out).mono ?_); (case s1 => exact S.cA HR0.out); (case s3 => exact S.cA HR1_0.out); rintro e w13 ⟨rfl, hb⟩; replace BK222 := S.kb BK222 hb; replace HB := S.sG hb; (try clear hb); obtain ⟨Z14a, Z14b, Z14c, Z14d, Y14a, Y14b, Y14c, Y14d⟩ := S.c4 BK222.out) | (go_at_call 107; (with_reducible refine (spec_IsTogether.calls k _ _ l0 _ _ l1_2 true _ ?s1 HC0.out ?s3 HC1_2.out A9.out).mono ?_); (case s1 => exact S.cA HR0.out); (case s3 => exact S.cA HR1_2.out); rintro e w15 ⟨rfl, hb⟩; replace BK222 := S.kb BK222 hb; replace HB := S.sG hb; (try clear hb); obtain ⟨Z16a, Z16b, Z16c, Z16d, Y16a, Y16b, Y16c, Y16d⟩ := S.c4 BK222.out) | (go_at_call 108; (with_reducible refine (spec_l1In.calls a1_1 0 1000000 t225 _ A11.out).mono ?_); rintro e w' ⟨rfl, ⟨nd, rfl⟩⟩))
     go_meet
     case rel => exact ⟨_, (!t225), S.eA, H', S.le, ⟨S.uB BK222.out⟩, ⟨S.bG⟩⟩
    ·have H' := Aside0.mk H
     clear H
     obtain ⟨Z17a, Z17b, Z17c, Z17d, Y17a, Y17b, Y17c, Y17d⟩ := S.c4 BK222.out
     go_wp2_with (first | (go_at_call 107; (with_reducible refine (spec_IsTogether.calls k _ _ l0 _ _ l1_0 true _ ?s1 HC0.out ?s3 HC1_0.out A7.out).mono ?_); (case s1 => exact S.cA HR0.out); (case s3 => exact S.cA HR1_0.out); rintro e w18 ⟨rfl, hb⟩; replace BK222 := S.kb BK222 hb; replace HB := S.sG hb; (try clear hb); obtain ⟨Z19a, Z19b, Z19c, Z19d, Y19a, Y19b, Y19c, Y19d⟩ := S.c4 BK222.out) | (go_at_call 107; (with_reducible refine (spec_IsTogether.calls k _ _ l0 _ _ l1_2 false _ ?s1 HC0.out ?s3 HC1_2.out A9.out).mono ?_); (case s1 => exact S.cA HR0.out); (case s3 => exact S.cA HR1_2.out); rintro e w20 ⟨rfl, hb⟩; replace BK222 := S.kb BK222 hb; replace HB := S.sG hb; (try clear hb)))
     go_meet
     case rel => exact ⟨_, (true), S.eA, H', S.le, ⟨S.uB BK222.out⟩, ⟨S.bG⟩⟩
   ·have H' := Aside0.mk H
    clear H
    obtain ⟨Z21a, Z21b, Z21c, Z21d, Y21a, Y21b, Y21c, Y21d⟩ := S.c4 BK222.out
    go_wp2_with (first | (go_at_call 107; (with_reducible refine (spec_IsTogether.calls k _ _ l0 _ _ l1_0 false _ ?s1 HC0.out ?s3 HC1_0.out A7.out).mono ?_); (case s1 => exact S.cA HR0.out); (case s3 => exact S.cA HR1_0.out); rintro e w22 ⟨rfl, hb⟩; replace BK222 := S.kb BK222 hb; replace HB := S.sG hb; (try clear hb)))
    go_meet
    case rel => exact ⟨_, (true), S.eA, H', S.le, ⟨S.uB BK222.out⟩, ⟨S.bG⟩⟩
 case rest =>
  clear HC3
  obtain ⟨kq, x28_2, rfl, HA, HJ2, BK222, HB⟩ := hcut
  cases kq with
  | zero => exact absurd HA.out (by simp [spec_IsControl.j0])
  | succ kj2 =>
   have H := HA.out
   clear HA
   simp only [spec_IsControl.j0] at H
   replace H := S.db H; rcases H with ⟨rfl, H⟩ | ⟨rfl, H⟩
   ·obtain rfl := Option.some.inj H
    go_wp2
    go_ret
    exact ⟨S.eW, S.bG⟩
   ·by_cases c24 : (l1_2.length : Int) = 0
    ·rw [if_pos c24] at H
     have c24b0 : ((l1_2.length : Int) == 0) = true := beq_iff_eq.mpr c24
     have c24b1 : ((l1_2.length : Int) != 0) = false := bne_eq_false_iff_eq.mpr c24
     clear c24
     obtain rfl := Option.some.inj H
     obtain ⟨Z25a, Z25b, Z25c, Z25d, Y25a, Y25b, Y25c, Y25d⟩ := S.c4 BK222.out
     go_wp2
     go_ret
     exact ⟨S.eW, S.bG⟩
    ·rw [if_neg c24] at H
     have c24b0 : ((l1_2.length : Int) == 0) = false := beq_eq_false_iff_ne.mpr c24
     have c24b1 : ((l1_2.length : Int) != 0) = true := bne_iff_ne.mpr c24
     have c24b2 : ¬ (l1_2 = []) := fun h_ => c24 (by rw [h_]; rfl)
     replace H := S.bd H; obtain ⟨t226, A26, H⟩ := H
     (try dsimp only at H)
     replace H := S.bd H; obtain ⟨t227, A27, H⟩ := H
     (try dsimp only at H)
     obtain rfl := Option.some.inj H
     obtain ⟨Z28a, Z28b, Z28c, Z28d, Y28a, Y28b, Y28c, Y28d⟩ := S.c4 BK222.out
     try go_wp2
     replace BK222 := Aside0.mk (blk_drew BK222.out)
     replace HB := Aside0.mk (below_drew1 HB.out)
     refine S.st (n := 10) (ds := []) #[false, false, false, false, false, false, false, false, false, false] (fun w_ h_ => have x_ := S.e4 (S.Q h_ BK222.out); x_) (fun hHeld => ?_); refine with_tabW spec_IsControl.tab5 spec_IsControl.bits5 (fun HT_ HW_ => ?_)
     generalize wc.drew = w29 at BK222 HB hHeld ⊢
     refine S.pS 0 36 ?_
     refine S.pS 2 38 ?_
     refine S.pS 3 39 ?_
     refine S.pS 5 41 ?_
     refine S.tK 1 37 #[true, true, true, true, false, true, false, false, false, false] ?_
     refine S.tK 4 40 #[true, true, true, true, true, true, false, false, false, false] ?_
     refine S.tK 6 42 #[true, true, true, true, true, true, true, false, false, false] ?_
     refine S.oN 7 43 #[true, true, true, true, true, true, true, true, false, false] (fun K hK => ?_)
     refine S.go Try.func86 #[.slice A0 l0.length c0, .slice A1_0 l1_0.length c1_0, .slice A1_2 l1_2.length c1_2] ?_
     with_reducible refine (spec_ClearBetween.calls kj2 _ _ l0 _ _ l1_0 _ _ l1_2 t226 _ ?s1 ?s2 ?s3 ?s4 ?s5 ?s6 A26.out).mono ?_
     (case s1 => exact S.cA HR0.out)
     (case s2 => exact HC0.out)
     (case s3 => exact S.cA HR1_0.out)
     (case s4 => exact HC1_0.out)
     (case s5 => exact S.cA HR1_2.out)
     (case s6 => exact HC1_2.out)
     rintro e w30 ⟨rfl, hb⟩
     refine ⟨_, rfl, ?_⟩
     replace BK222 := S.kb BK222 hb
     replace HB := S.sG hb
     (try clear hb)
     (try clear hb2)
     (try clear hk)
     (try clear hi)
     refine hK.out _ _ (S.e4 BK222.out) (fun hHeld => ?_)
     clear hK K
     refine S.nm 43 ?_
     refine S.oN 8 44 #[true, true, true, true, true, true, true, true, true, false] (fun K hK => ?_)
     refine S.go Try.func108 #[.int .i64 a1_3, .int .i64 1, .int .i64 t226] ?_
     with_reducible refine (spec_l1In.calls a1_3 1 t226 t227 _ A27.out).mono ?_
     rintro e w' ⟨rfl, ⟨nd, rfl⟩⟩
     refine ⟨_, rfl, ?_⟩
     refine hK.out _ _ (S.e4 BK222.out) (fun hHeld => ?_)
     clear hK K
     refine S.nm 44 ?_
     refine S.pS 9 4 ?_
     refine done_ (done_of HT_.out (by kernel_rfl)) ?_
     try go_wp2
     go_ret
     exact ⟨S.eW, S.bG⟩

/-! ### spec_CanCut: function 34 -/
def spec_CanCut.f (k : Nat) (l0 : List (S52)) (l1_0 : List Int) (a1_1 : Int) (l1_2 : List Int) (a1_3 : Int) : Option (Bool) := (spec_LeastGreen.f k l0 l1_0).bind fun t229 => (if t229 = 7 then ((spec_IsControl.f k l0 l1_0 a1_1 l1_2 a1_3).bind fun t230 => (if t230 = true then (if (l1_2.length : Int) = 0 then (some (decide (a1_1 ≥ 7))) else (some false)) else (some false))) else ((spec_IsControl.f k l0 l1_0 a1_1 l1_2 a1_3).bind fun t231 => (if t231 = true then (if (l1_2.length : Int) = 0 then (some (decide (a1_1 ≥ 4))) else (some false)) else (some false))))
set_option maxHeartbeats 8000000 in
set_option maxRecDepth 100000 in
theorem spec_CanCut.calls (k : Nat) (A0 : Option Addr) (c0 : Nat) (l0 : List (S52)) (A1_0 : Option Addr) (c1_0 : Nat) (l1_0 : List Int) (a1_1 : Int) (A1_2 : Option Addr) (c1_2 : Nat) (l1_2 : List Int) (a1_3 : Int) (r : Bool) (w : World) (hr0 : Kd.C k52 w A0 l0.length l0) (hc0 : l0.length ≤ c0) (hr1_0 : Kd.C (Kd.int .i64) w A1_0 l1_0.length l1_0) (hc1_0 : l1_0.length ≤ c1_0) (hr1_2 : Kd.C (Kd.int .i64) w A1_2 l1_2.length l1_2) (hc1_2 : l1_2.length ≤ c1_2) (h : spec_CanCut.f k l0 l1_0 a1_1 l1_2 a1_3 = some r) :
  Calls Try.prog 34 #[.slice A0 l0.length c0, .agg #[.slice A1_0 l1_0.length c1_0, .int .i64 a1_1, .slice A1_2 l1_2.length c1_2, .int .i64 a1_3]] w fun e w' => e = .returned (.bool r) ∧ Below w.heap.size w w' := by
 have hu60 := Try.underlying60
 have HR0 := Aside0.mk hr0
 have HC0 := Aside0.mk hc0
 clear hr0 hc0
 have HR1_0 := Aside0.mk hr1_0
 have HC1_0 := Aside0.mk hc1_0
 clear hr1_0 hc1_0
 have HR1_2 := Aside0.mk hr1_2
 have HC1_2 := Aside0.mk hc1_2
 clear hr1_2 hc1_2
 have HB := Aside0.mk (Below.refl w.heap.size w)
 have H : ((spec_LeastGreen.f k l0 l1_0).bind fun t229 => (if t229 = 7 then ((spec_IsControl.f k l0 l1_0 a1_1 l1_2 a1_3).bind fun t230 => (if t230 = true then (if (l1_2.length : Int) = 0 then (some (decide (a1_1 ≥ 7))) else (some false)) else (some false))) else ((spec_IsControl.f k l0 l1_0 a1_1 l1_2 a1_3).bind fun t231 => (if t231 = true then (if (l1_2.length : Int) = 0 then (some (decide (a1_1 ≥ 4))) else (some false)) else (some false))))) = some r := h
 clear h
 replace H := S.bd H; obtain ⟨t229, A3, H⟩ := H
 (try dsimp only at H)
 by_cases c4 : t229 = 7
 ·rw [if_pos c4] at H
  have c4b0 : (t229 == 7) = true := beq_iff_eq.mpr c4
  have c4b1 : (t229 != 7) = false := bne_eq_false_iff_eq.mpr c4
  clear c4
  replace H := S.bd H; obtain ⟨t230, A5, H⟩ := H
  (try dsimp only at H)
  replace H := S.db H; rcases H with ⟨rfl, H⟩ | ⟨rfl, H⟩
  ·by_cases c7 : (l1_2.length : Int) = 0
   ·rw [if_pos c7] at H
    have c7b0 : ((l1_2.length : Int) == 0) = true := beq_iff_eq.mpr c7
    have c7b1 : ((l1_2.length : Int) != 0) = false := bne_eq_false_iff_eq.mpr c7
    clear c7
    obtain rfl := Option.some.inj H
    go_enter Try.func34, Try.ntmps34
    go_wp2_with (first | ((with_reducible refine gate_dst (N := 3) rfl ?_); (try (refine gate_guard (by rfl) ?_; dsimp only)); refine S.bx 3 (cs := #[.slice A1_0 l1_0.length c1_0, .int .i64 a1_1, .slice A1_2 l1_2.length c1_2, .int .i64 a1_3]) (t := 60) ?_; intro gb228 hg w8 hbox hb; have BK228 := Aside0.mk hbox; have GW228 := S.geA hg; have GE228 := S.geA hg; replace HB := S.sA hb; clear hb hbox hg; obtain ⟨Z9a, Z9b, Z9c, Z9d, Y9a, Y9b, Y9c, Y9d⟩ := S.c4 BK228.out) | ((with_reducible refine gate_callee (f := 75) rfl ?_); refine S.gL (some 9) Try.func75 #[.slice A0 l0.length c0, .slice A1_0 l1_0.length c1_0] ?_; (with_reducible refine (spec_LeastGreen.calls k _ _ l0 _ _ l1_0 t229 _ ?s1 HC0.out ?s3 HC1_0.out A3.out).mono ?_); (case s1 => exact S.cA HR0.out); (case s3 => exact S.cA HR1_0.out); rintro e w' ⟨rfl, ⟨nd, rfl⟩⟩; refine ⟨_, rfl, ?_⟩) | ((with_reducible refine gate_callee (f := 76) rfl ?_); refine S.gL (some 13) Try.func76 #[.slice A0 l0.length c0, .agg #[.slice A1_0 l1_0.length c1_0, .int .i64 a1_1, .slice A1_2 l1_2.length c1_2, .int .i64 a1_3]] ?_; (with_reducible refine (spec_IsControl.calls k _ _ l0 _ _ l1_0 a1_1 _ _ l1_2 a1_3 true _ ?s1 HC0.out ?s3 HC1_0.out ?s5 HC1_2.out A5.out).mono ?_); (case s1 => repeat (first | exact (Kd.C_below HR0.out S.bG) | (with_reducible refine Kd.C_alloc ?_ _) | (with_reducible refine Kd.C_drewN ?_ _) | (with_reducible refine Kd.C_drew ?_))); (case s3 => repeat (first | exact (Kd.C_below HR1_0.out S.bG) | (with_reducible refine Kd.C_alloc ?_ _) | (with_reducible refine Kd.C_drewN ?_ _) | (with_reducible refine Kd.C_drew ?_))); (case s5 => repeat (first | exact (Kd.C_below HR1_2.out S.bG) | (with_reducible refine Kd.C_alloc ?_ _) | (with_reducible refine Kd.C_drewN ?_ _) | (with_reducible refine Kd.C_drew ?_))); rintro e w10 ⟨rfl, hb⟩; refine ⟨_, rfl, ?_⟩; replace BK228 := S.kb BK228 hb; replace HB := S.sG hb; (try clear hb); obtain ⟨Z11a, Z11b, Z11c, Z11d, Y11a, Y11b, Y11c, Y11d⟩ := S.c4 BK228.out))
    go_ret
    exact ⟨S.eW, S.bG⟩
   ·rw [if_neg c7] at H
    have c7b0 : ((l1_2.length : Int) == 0) = false := beq_eq_false_iff_ne.mpr c7
    have c7b1 : ((l1_2.length : Int) != 0) = true := bne_iff_ne.mpr c7
    have c7b2 : ¬ (l1_2 = []) := fun h_ => c7 (by rw [h_]; rfl)
    obtain rfl := Option.some.inj H
    go_enter Try.func34, Try.ntmps34
    go_wp2_with (first | ((with_reducible refine gate_dst (N := 3) rfl ?_); (try (refine gate_guard (by rfl) ?_; dsimp only)); refine S.bx 3 (cs := #[.slice A1_0 l1_0.length c1_0, .int .i64 a1_1, .slice A1_2 l1_2.length c1_2, .int .i64 a1_3]) (t := 60) ?_; intro gb228 hg w12 hbox hb; have BK228 := Aside0.mk hbox; have GW228 := S.geA hg; have GE228 := S.geA hg; replace HB := S.sA hb; clear hb hbox hg; obtain ⟨Z13a, Z13b, Z13c, Z13d, Y13a, Y13b, Y13c, Y13d⟩ := S.c4 BK228.out) | ((with_reducible refine gate_callee (f := 75) rfl ?_); refine S.gL (some 9) Try.func75 #[.slice A0 l0.length c0, .slice A1_0 l1_0.length c1_0] ?_; (with_reducible refine (spec_LeastGreen.calls k _ _ l0 _ _ l1_0 t229 _ ?s1 HC0.out ?s3 HC1_0.out A3.out).mono ?_); (case s1 => exact S.cA HR0.out); (case s3 => exact S.cA HR1_0.out); rintro e w' ⟨rfl, ⟨nd, rfl⟩⟩; refine ⟨_, rfl, ?_⟩) | ((with_reducible refine gate_callee (f := 76) rfl ?_); refine S.gL (some 13) Try.func76 #[.slice A0 l0.length c0, .agg #[.slice A1_0 l1_0.length c1_0, .int .i64 a1_1, .slice A1_2 l1_2.length c1_2, .int .i64 a1_3]] ?_; (with_reducible refine (spec_IsControl.calls k _ _ l0 _ _ l1_0 a1_1 _ _ l1_2 a1_3 true _ ?s1 HC0.out ?s3 HC1_0.out ?s5 HC1_2.out A5.out).mono ?_); (case s1 => repeat (first | exact (Kd.C_below HR0.out S.bG) | (with_reducible refine Kd.C_alloc ?_ _) | (with_reducible refine Kd.C_drewN ?_ _) | (with_reducible refine Kd.C_drew ?_))); (case s3 => repeat (first | exact (Kd.C_below HR1_0.out S.bG) | (with_reducible refine Kd.C_alloc ?_ _) | (with_reducible refine Kd.C_drewN ?_ _) | (with_reducible refine Kd.C_drew ?_))); (case s5 => repeat (first | exact (Kd.C_below HR1_2.out S.bG) | (with_reducible refine Kd.C_alloc ?_ _) | (with_reducible refine Kd.C_drewN ?_ _) | (with_reducible refine Kd.C_drew ?_))); rintro e w14 ⟨rfl, hb⟩; refine ⟨_, rfl, ?_⟩; replace BK228 := S.kb BK228 hb; replace HB := S.sG hb; (try clear hb); obtain ⟨Z15a, Z15b, Z15c, Z15d, Y15a, Y15b, Y15c, Y15d⟩ := S.c4 BK228.out))
    go_ret
    exact ⟨S.eW, S.bG⟩
  ·obtain rfl := Option.some.inj H
   go_enter Try.func34, Try.ntmps34
   go_wp2_with (first | ((with_reducible refine gate_dst (N := 3) rfl ?_); (try (refine gate_guard (by rfl) ?_; dsimp only)); refine S.bx 3 (cs := #[.slice A1_0 l1_0.length c1_0, .int .i64 a1_1, .slice A1_2 l1_2.length c1_2, .int .i64 a1_3]) (t := 60) ?_; intro gb228 hg w16 hbox hb; have BK228 := Aside0.mk hbox; have GW228 := S.geA hg; have GE228 := S.geA hg; replace HB := S.sA hb; clear hb hbox hg; obtain ⟨Z17a, Z17b, Z17c, Z17d, Y17a, Y17b, Y17c, Y17d⟩ := S.c4 BK228.out) | ((with_reducible refine gate_callee (f := 75) rfl ?_); refine S.gL (some 9) Try.func75 #[.slice A0 l0.length c0, .slice A1_0 l1_0.length c1_0] ?_; (with_reducible refine (spec_LeastGreen.calls k _ _ l0 _ _ l1_0 t229 _ ?s1 HC0.out ?s3 HC1_0.out A3.out).mono ?_); (case s1 => exact S.cA HR0.out); (case s3 => exact S.cA HR1_0.out); rintro e w' ⟨rfl, ⟨nd, rfl⟩⟩; refine ⟨_, rfl, ?_⟩) | ((with_reducible refine gate_callee (f := 76) rfl ?_); refine S.gL (some 13) Try.func76 #[.slice A0 l0.length c0, .agg #[.slice A1_0 l1_0.length c1_0, .int .i64 a1_1, .slice A1_2 l1_2.length c1_2, .int .i64 a1_3]] ?_; (with_reducible refine (spec_IsControl.calls k _ _ l0 _ _ l1_0 a1_1 _ _ l1_2 a1_3 false _ ?s1 HC0.out ?s3 HC1_0.out ?s5 HC1_2.out A5.out).mono ?_); (case s1 => repeat (first | exact (Kd.C_below HR0.out S.bG) | (with_reducible refine Kd.C_alloc ?_ _) | (with_reducible refine Kd.C_drewN ?_ _) | (with_reducible refine Kd.C_drew ?_))); (case s3 => repeat (first | exact (Kd.C_below HR1_0.out S.bG) | (with_reducible refine Kd.C_alloc ?_ _) | (with_reducible refine Kd.C_drewN ?_ _) | (with_reducible refine Kd.C_drew ?_))); (case s5 => repeat (first | exact (Kd.C_below HR1_2.out S.bG) | (with_reducible refine Kd.C_alloc ?_ _) | (with_reducible refine Kd.C_drewN ?_ _) | (with_reducible refine Kd.C_drew ?_))); rintro e w18 ⟨rfl, hb⟩; refine ⟨_, rfl, ?_⟩; replace BK228 := S.kb BK228 hb; replace HB := S.sG hb; (try clear hb)))
   go_ret
   exact ⟨S.eW, S.bG⟩
 ·rw [if_neg c4] at H
  have c4b0 : (t229 == 7) = false := beq_eq_false_iff_ne.mpr c4
  have c4b1 : (t229 != 7) = true := bne_iff_ne.mpr c4
  replace H := S.bd H; obtain ⟨t231, A19, H⟩ := H
  (try dsimp only at H)
  replace H := S.db H; rcases H with ⟨rfl, H⟩ | ⟨rfl, H⟩
  ·by_cases c21 : (l1_2.length : Int) = 0
   ·rw [if_pos c21] at H
    have c21b0 : ((l1_2.length : Int) == 0) = true := beq_iff_eq.mpr c21
    have c21b1 : ((l1_2.length : Int) != 0) = false := bne_eq_false_iff_eq.mpr c21
    clear c21
    obtain rfl := Option.some.inj H
    go_enter Try.func34, Try.ntmps34
    go_wp2_with (first | ((with_reducible refine gate_dst (N := 3) rfl ?_); (try (refine gate_guard (by rfl) ?_; dsimp only)); refine S.bx 3 (cs := #[.slice A1_0 l1_0.length c1_0, .int .i64 a1_1, .slice A1_2 l1_2.length c1_2, .int .i64 a1_3]) (t := 60) ?_; intro gb228 hg w22 hbox hb; have BK228 := Aside0.mk hbox; have GW228 := S.geA hg; have GE228 := S.geA hg; replace HB := S.sA hb; clear hb hbox hg; obtain ⟨Z23a, Z23b, Z23c, Z23d, Y23a, Y23b, Y23c, Y23d⟩ := S.c4 BK228.out) | ((with_reducible refine gate_callee (f := 75) rfl ?_); refine S.gL (some 9) Try.func75 #[.slice A0 l0.length c0, .slice A1_0 l1_0.length c1_0] ?_; (with_reducible refine (spec_LeastGreen.calls k _ _ l0 _ _ l1_0 t229 _ ?s1 HC0.out ?s3 HC1_0.out A3.out).mono ?_); (case s1 => exact S.cA HR0.out); (case s3 => exact S.cA HR1_0.out); rintro e w' ⟨rfl, ⟨nd, rfl⟩⟩; refine ⟨_, rfl, ?_⟩) | ((with_reducible refine gate_callee (f := 76) rfl ?_); refine S.gL (some 13) Try.func76 #[.slice A0 l0.length c0, .agg #[.slice A1_0 l1_0.length c1_0, .int .i64 a1_1, .slice A1_2 l1_2.length c1_2, .int .i64 a1_3]] ?_; (with_reducible refine (spec_IsControl.calls k _ _ l0 _ _ l1_0 a1_1 _ _ l1_2 a1_3 true _ ?s1 HC0.out ?s3 HC1_0.out ?s5 HC1_2.out A19.out).mono ?_); (case s1 => repeat (first | exact (Kd.C_below HR0.out S.bG) | (with_reducible refine Kd.C_alloc ?_ _) | (with_reducible refine Kd.C_drewN ?_ _) | (with_reducible refine Kd.C_drew ?_))); (case s3 => repeat (first | exact (Kd.C_below HR1_0.out S.bG) | (with_reducible refine Kd.C_alloc ?_ _) | (with_reducible refine Kd.C_drewN ?_ _) | (with_reducible refine Kd.C_drew ?_))); (case s5 => repeat (first | exact (Kd.C_below HR1_2.out S.bG) | (with_reducible refine Kd.C_alloc ?_ _) | (with_reducible refine Kd.C_drewN ?_ _) | (with_reducible refine Kd.C_drew ?_))); rintro e w24 ⟨rfl, hb⟩; refine ⟨_, rfl, ?_⟩; replace BK228 := S.kb BK228 hb; replace HB := S.sG hb; (try clear hb); obtain ⟨Z25a, Z25b, Z25c, Z25d, Y25a, Y25b, Y25c, Y25d⟩ := S.c4 BK228.out))
    go_ret
    exact ⟨S.eW, S.bG⟩
   ·rw [if_neg c21] at H
    have c21b0 : ((l1_2.length : Int) == 0) = false := beq_eq_false_iff_ne.mpr c21
    have c21b1 : ((l1_2.length : Int) != 0) = true := bne_iff_ne.mpr c21
    have c21b2 : ¬ (l1_2 = []) := fun h_ => c21 (by rw [h_]; rfl)
    obtain rfl := Option.some.inj H
    go_enter Try.func34, Try.ntmps34
    go_wp2_with (first | ((with_reducible refine gate_dst (N := 3) rfl ?_); (try (refine gate_guard (by rfl) ?_; dsimp only)); refine S.bx 3 (cs := #[.slice A1_0 l1_0.length c1_0, .int .i64 a1_1, .slice A1_2 l1_2.length c1_2, .int .i64 a1_3]) (t := 60) ?_; intro gb228 hg w26 hbox hb; have BK228 := Aside0.mk hbox; have GW228 := S.geA hg; have GE228 := S.geA hg; replace HB := S.sA hb; clear hb hbox hg; obtain ⟨Z27a, Z27b, Z27c, Z27d, Y27a, Y27b, Y27c, Y27d⟩ := S.c4 BK228.out) | ((with_reducible refine gate_callee (f := 75) rfl ?_); refine S.gL (some 9) Try.func75 #[.slice A0 l0.length c0, .slice A1_0 l1_0.length c1_0] ?_; (with_reducible refine (spec_LeastGreen.calls k _ _ l0 _ _ l1_0 t229 _ ?s1 HC0.out ?s3 HC1_0.out A3.out).mono ?_); (case s1 => exact S.cA HR0.out); (case s3 => exact S.cA HR1_0.out); rintro e w' ⟨rfl, ⟨nd, rfl⟩⟩; refine ⟨_, rfl, ?_⟩) | ((with_reducible refine gate_callee (f := 76) rfl ?_); refine S.gL (some 13) Try.func76 #[.slice A0 l0.length c0, .agg #[.slice A1_0 l1_0.length c1_0, .int .i64 a1_1, .slice A1_2 l1_2.length c1_2, .int .i64 a1_3]] ?_; (with_reducible refine (spec_IsControl.calls k _ _ l0 _ _ l1_0 a1_1 _ _ l1_2 a1_3 true _ ?s1 HC0.out ?s3 HC1_0.out ?s5 HC1_2.out A19.out).mono ?_); (case s1 => repeat (first | exact (Kd.C_below HR0.out S.bG) | (with_reducible refine Kd.C_alloc ?_ _) | (with_reducible refine Kd.C_drewN ?_ _) | (with_reducible refine Kd.C_drew ?_))); (case s3 => repeat (first | exact (Kd.C_below HR1_0.out S.bG) | (with_reducible refine Kd.C_alloc ?_ _) | (with_reducible refine Kd.C_drewN ?_ _) | (with_reducible refine Kd.C_drew ?_))); (case s5 => repeat (first | exact (Kd.C_below HR1_2.out S.bG) | (with_reducible refine Kd.C_alloc ?_ _) | (with_reducible refine Kd.C_drewN ?_ _) | (with_reducible refine Kd.C_drew ?_))); rintro e w28 ⟨rfl, hb⟩; refine ⟨_, rfl, ?_⟩; replace BK228 := S.kb BK228 hb; replace HB := S.sG hb; (try clear hb); obtain ⟨Z29a, Z29b, Z29c, Z29d, Y29a, Y29b, Y29c, Y29d⟩ := S.c4 BK228.out))
    go_ret
    exact ⟨S.eW, S.bG⟩
  ·obtain rfl := Option.some.inj H
   go_enter Try.func34, Try.ntmps34
   go_wp2_with (first | ((with_reducible refine gate_dst (N := 3) rfl ?_); (try (refine gate_guard (by rfl) ?_; dsimp only)); refine S.bx 3 (cs := #[.slice A1_0 l1_0.length c1_0, .int .i64 a1_1, .slice A1_2 l1_2.length c1_2, .int .i64 a1_3]) (t := 60) ?_; intro gb228 hg w30 hbox hb; have BK228 := Aside0.mk hbox; have GW228 := S.geA hg; have GE228 := S.geA hg; replace HB := S.sA hb; clear hb hbox hg; obtain ⟨Z31a, Z31b, Z31c, Z31d, Y31a, Y31b, Y31c, Y31d⟩ := S.c4 BK228.out) | ((with_reducible refine gate_callee (f := 75) rfl ?_); refine S.gL (some 9) Try.func75 #[.slice A0 l0.length c0, .slice A1_0 l1_0.length c1_0] ?_; (with_reducible refine (spec_LeastGreen.calls k _ _ l0 _ _ l1_0 t229 _ ?s1 HC0.out ?s3 HC1_0.out A3.out).mono ?_); (case s1 => exact S.cA HR0.out); (case s3 => exact S.cA HR1_0.out); rintro e w' ⟨rfl, ⟨nd, rfl⟩⟩; refine ⟨_, rfl, ?_⟩) | ((with_reducible refine gate_callee (f := 76) rfl ?_); refine S.gL (some 13) Try.func76 #[.slice A0 l0.length c0, .agg #[.slice A1_0 l1_0.length c1_0, .int .i64 a1_1, .slice A1_2 l1_2.length c1_2, .int .i64 a1_3]] ?_; (with_reducible refine (spec_IsControl.calls k _ _ l0 _ _ l1_0 a1_1 _ _ l1_2 a1_3 false _ ?s1 HC0.out ?s3 HC1_0.out ?s5 HC1_2.out A19.out).mono ?_); (case s1 => repeat (first | exact (Kd.C_below HR0.out S.bG) | (with_reducible refine Kd.C_alloc ?_ _) | (with_reducible refine Kd.C_drewN ?_ _) | (with_reducible refine Kd.C_drew ?_))); (case s3 => repeat (first | exact (Kd.C_below HR1_0.out S.bG) | (with_reducible refine Kd.C_alloc ?_ _) | (with_reducible refine Kd.C_drewN ?_ _) | (with_reducible refine Kd.C_drew ?_))); (case s5 => repeat (first | exact (Kd.C_below HR1_2.out S.bG) | (with_reducible refine Kd.C_alloc ?_ _) | (with_reducible refine Kd.C_drewN ?_ _) | (with_reducible refine Kd.C_drew ?_))); rintro e w32 ⟨rfl, hb⟩; refine ⟨_, rfl, ?_⟩; replace BK228 := S.kb BK228 hb; replace HB := S.sG hb; (try clear hb)))
   go_ret
   exact ⟨S.eW, S.bG⟩

end Go.Proofs.Ytopchlafmfgpnaa.PFnExactCutFor
