/- Printed by a program: what the Go functions compute, as plain Lean functions (.f), and the proofs that the machine's calls come to just that (.calls). -/
import Derived.Test.YtopchlafmfgpnaaPFnExactCutForx0
import Derived.Test.YtopchlafmfgpnaaPFnExactCutForx12
import Derived.Test.YtopchlafmfgpnaaPFnExactCutForx16
import Derived.Test.YtopchlafmfgpnaaPFnExactCutForx18
namespace Go.Proofs.Ytopchlafmfgpnaa.PFnExactCutFor
open Go.RowKit Go.Proofs.YtopchlafmfgpnaaW.PrintWords Go.Proofs.YtopchlafmfgpnaaW.PrintLast Go.Proofs.YtopchlafmfgpnaaW.PrintMore
attribute [local go_sem] max2_int min2_int max_two min_two max_three min_three max_four min_four   -- for this text's walks alone
set_option linter.unusedVariables false
set_option linter.unusedSimpArgs false

/-! ### impl_IsControl: function 54 -/
def impl_IsControl.j0 : Nat → List (S52) → Bool → List Int → Int → List Int → Int → Option (Bool)
 | 0, _, _, _, _, _, _ => none
 | k + 1, x0, x28, x342000, x342001, x342002, x342003 => if x28 = true then (some false) else (if (x342002.length : Int) = 0 then (some (x342003 == 0)) else ((impl_ClearBetween.f k x0 x342000 x342002).bind fun t345 => ((impl_InRange.f x342003 1 t345).bind fun t346 => (some t346))))
def impl_IsControl.f (k : Nat) (l0 : List (S52)) (l1_0 : List Int) (a1_1 : Int) (l1_2 : List Int) (a1_3 : Int) : Option (Bool) := (impl_IsTogether.f k l0 l1_0).bind fun t342 => (if t342 = true then ((impl_IsTogether.f k l0 l1_2).bind fun t343 => (if t343 = true then (if (l1_0.length : Int) = 0 then (impl_IsControl.j0 k l0 true l1_0 a1_1 l1_2 a1_3) else ((impl_InRange.f a1_1 0 1000000).bind fun t344 => (impl_IsControl.j0 k l0 (!t344) l1_0 a1_1 l1_2 a1_3))) else (impl_IsControl.j0 k l0 true l1_0 a1_1 l1_2 a1_3))) else (impl_IsControl.j0 k l0 true l1_0 a1_1 l1_2 a1_3))
def impl_IsControl.T5 : Bool × List (List Nat × List Nat) := (true, [([], []), ([0], [0]), ([], []), ([], []), ([3], [3]), ([], []), ([5], [5]), ([2, 4, 6], [2, 4, 6]), ([1, 7, 7], [1, 7]), ([8, 8, 0, 1, 2, 3, 4, 5, 6, 7, 8], [8])])
def impl_IsControl.B5 : List Nat := [0, 1, 0, 0, 8, 0, 32, 124, 255, 511]
theorem impl_IsControl.tab5 : rtab .any (opsOf Try.f54 5) = impl_IsControl.T5 := by kernel_rfl
theorem impl_IsControl.bits5 : waitsOk impl_IsControl.T5.2 impl_IsControl.B5 = true := by kernel_rfl
set_option maxHeartbeats 8000000 in
set_option maxRecDepth 100000 in
theorem impl_IsControl.calls (k : Nat) (A0 : Option Addr) (c0 : Nat) (l0 : List (S52)) (A1_0 : Option Addr) (c1_0 : Nat) (l1_0 : List Int) (a1_1 : Int) (A1_2 : Option Addr) (c1_2 : Nat) (l1_2 : List Int) (a1_3 : Int) (r : Bool) (w : World) (hr0 : Kd.C k52 w A0 l0.length l0) (hc0 : l0.length ≤ c0) (hr1_0 : Kd.C (Kd.int .i64) w A1_0 l1_0.length l1_0) (hc1_0 : l1_0.length ≤ c1_0) (hr1_2 : Kd.C (Kd.int .i64) w A1_2 l1_2.length l1_2) (hc1_2 : l1_2.length ≤ c1_2) (h : impl_IsControl.f k l0 l1_0 a1_1 l1_2 a1_3 = some r) :
  Calls Try.prog 54 #[.slice A0 l0.length c0, .agg #[.slice A1_0 l1_0.length c1_0, .int .i64 a1_1, .slice A1_2 l1_2.length c1_2, .int .i64 a1_3]] w fun e w' => e = .returned (.bool r) ∧ Below w.heap.size w w' := by
 have hu60 := Try.underlying60
 have HR0 := Aside0.mk hr0
 have HC0 := Aside0.mk hc0
 clear hr0 hc0
 have HR1_0 := Aside0.mk hr1_0
 have HC1_0 := Aside0.mk hc1_0
 clear hr1_0 hc1_0
 have HR1_2 := Aside0.mk hr1_2
 have HC1_2 := Aside0.mk hc1_2
 clear hr1_2 hc1_2
 have HB := Aside0.mk (Below.refl w.heap.size w)
 have H : ((impl_IsTogether.f k l0 l1_0).bind fun t342 => (if t342 = true then ((impl_IsTogether.f k l0 l1_2).bind fun t343 => (if t343 = true then (if (l1_0.length : Int) = 0 then (impl_IsControl.j0 k l0 true l1_0 a1_1 l1_2 a1_3) else ((impl_InRange.f a1_1 0 1000000).bind fun t344 => (impl_IsControl.j0 k l0 (!t344) l1_0 a1_1 l1_2 a1_3))) else (impl_IsControl.j0 k l0 true l1_0 a1_1 l1_2 a1_3))) else (impl_IsControl.j0 k l0 true l1_0 a1_1 l1_2 a1_3))) = some r := h
 clear h
 have HC3 := Aside0.mk H
 clear H
 go_enter Try.func54, Try.ntmps54
 go_upto_region 1 with (first | ((with_reducible refine gate_dst (N := 3) rfl ?_); (try (refine gate_guard (by rfl) ?_; dsimp only)); refine S.bx 3 (cs := #[.slice A1_0 l1_0.length c1_0, .int .i64 a1_1, .slice A1_2 l1_2.length c1_2, .int .i64 a1_3]) (t := 60) ?_; intro gb341 hg w4 hbox hb; have BK341 := Aside0.mk hbox; have GW341 := S.geA hg; have GE341 := S.geA hg; replace HB := S.sA hb; clear hb hbox hg))
 (try simp only [Act.put, List.setIfInBounds_toArray, List.set_cons_zero, List.set_cons_succ])
 go_cut [28] (fun v28 wc => ∃ (kq : Nat) (x28_2 : Bool), v28 = .bool x28_2 ∧ Aside0 (impl_IsControl.j0 kq l0 x28_2 l1_0 a1_1 l1_2 a1_3 = some r) ∧ Aside0 (kq ≤ k) ∧ Aside0 (wc.heap[gb341]? = some (.cells #[(.slice A1_0 l1_0.length c1_0), .int .i64 a1_1, (.slice A1_2 l1_2.length c1_2), .int .i64 a1_3] 60 (0, 0))) ∧ Aside0 (Below w.heap.size w wc))
 case first =>
  have H := HC3.out
  clear HC3
  replace H := S.bd H; obtain ⟨t342, A5, H⟩ := H
  (try dsimp only at H)
  replace H := S.db H; rcases H with ⟨rfl, H⟩ | ⟨rfl, H⟩
  ·replace H := S.bd H; obtain ⟨t343, A7, H⟩ := H
   (try dsimp only at H)
   replace H := S.db H; rcases H with ⟨rfl, H⟩ | ⟨rfl, H⟩
   ·by_cases c9 : (l1_0.length : Int) = 0
    ·rw [if_pos c9] at H
     have c9b0 : ((l1_0.length : Int) == 0) = true := beq_iff_eq.mpr c9
     have c9b1 : ((l1_0.length : Int) != 0) = false := bne_eq_false_iff_eq.mpr c9
     clear c9
     (first | rw [c9b0] | (simp only [i64_w, i32_w]; rw [c9b0]) | skip)
     have H' := Aside0.mk H
     clear H
     obtain ⟨Z10a, Z10b, Z10c, Z10d, Y10a, Y10b, Y10c, Y10d⟩ := S.c4 BK341.out
     go_wp2_with (first | ((with_reducible refine gate_callee (f := 95) rfl ?_); refine S.gL (some 8) Try.func95 #[.slice A0 l0.length c0, .slice A1_0 l1_0.length c1_0] ?_; (with_reducible refine (impl_IsTogether.calls k _ _ l0 _ _ l1_0 true _ ?s1 HC0.out ?s3 HC1_0.out A5.out).mono ?_); (case s1 => exact S.cA HR0.out); (case s3 => exact S.cA HR1_0.out); rintro e w11 ⟨rfl, hb⟩; refine ⟨_, rfl, ?_⟩; replace BK341 := S.kb BK341 hb; replace HB := S.sG hb; (try clear hb); obtain ⟨Z12a, Z12b, Z12c, Z12d, Y12a, Y12b, Y12c, Y12d⟩ := S.c4 BK341.out) | (go_at_call 95; (with_reducible refine (impl_IsTogether.calls k _ _ l0 _ _ l1_2 true _ ?s1 HC0.out ?s3 HC1_2.out A7.out).mono ?_); (case s1 => exact S.cA HR0.out); (case s3 => exact S.cA HR1_2.out); rintro e w13 ⟨rfl, hb⟩; replace BK341 := S.kb BK341 hb; replace HB := S.sG hb; (try clear hb); obtain ⟨Z14a, Z14b, Z14c, Z14d, Y14a, Y14b, Y14c, Y14d⟩ := S.c4 BK341.out))
     go_meet
     case rel => exact ⟨_, (true), S.eA, H', S.le, ⟨S.uB BK341.out⟩, ⟨S.bG⟩⟩
    ·rw [if_neg c9] at H
     have c9b0 : ((l1_0.length : Int) == 0) = false := beq_eq_false_iff_ne.mpr c9
     have c9b1 : ((l1_0.length : Int) != 0) = true := bne_iff_ne.mpr c9
     have c9b2 : ¬ (l1_0 = []) := fun h_ => c9 (by rw [h_]; rfl)
     (first | rw [c9b0] | (simp only [i64_w, i32_w]; rw [c9b0]) | skip)
     replace H := S.bd H; obtain ⟨t344, A15, H⟩ := H
     (try dsimp only at H)
     have H' := Aside0.mk H
     clear H
     obtain ⟨Z16a, Z16b, Z16c, Z16d, Y16a, Y16b, Y16c, Y16d⟩ := S.c4 BK341.out
     go_wp2_with (first | ((with_reducible refine gate_callee (f := 95) rfl ?_); refine S.gL (some 8) Try.func95 #[.slice A0 l0.length c0, .slice A1_0 l1_0.length c1_0] ?_; (with_reducible refine (impl_IsTogether.calls k _ _ l0 _ _ l1_0 true _ ?s1 HC0.out ?s3 HC1_0.out A5.out).mono ?_); (case s1 => exact S.cA HR0.out); (case s3 => exact S.cA HR1_0.out); rintro e w17 ⟨rfl, hb⟩; refine ⟨_, rfl, ?_⟩; replace BK341 := S.kb BK341 hb; replace HB := S.sG hb; (try clear hb); obtain ⟨Z18a, Z18b, Z18c, Z18d, Y18a, Y18b, Y18c, Y18d⟩ := S.c4 BK341.out) | (go_at_call 95; (with_reducible refine (impl_IsTogether.calls k _ _ l0 _ _ l1_2 true _ ?s1 HC0.out ?s3 HC1_2.out A7.out).mono ?_); (case s1 => exact S.cA HR0.out); (case s3 => exact S.cA HR1_2.out); rintro e w19 ⟨rfl, hb⟩; replace BK341 := S.kb BK341 hb; replace HB := S.sG hb; (try clear hb); obtain ⟨Z20a, Z20b, Z20c, Z20d, Y20a, Y20b, Y20c, Y20d⟩ := S.c4 BK341.out) | (go_at_call 96; (with_reducible refine (impl_InRange.calls a1_1 0 1000000 t344 _ A15.out).mono ?_); rintro e w' ⟨rfl, ⟨nd, rfl⟩⟩))
     go_meet
     case rel => exact ⟨_, (!t344), S.eA, H', S.le, ⟨S.uB BK341.out⟩, ⟨S.bG⟩⟩
   ·have H' := Aside0.mk H
    clear H
    obtain ⟨Z21a, Z21b, Z21c, Z21d, Y21a, Y21b, Y21c, Y21d⟩ := S.c4 BK341.out
    go_wp2_with (first | ((with_reducible refine gate_callee (f := 95) rfl ?_); refine S.gL (some 8) Try.func95 #[.slice A0 l0.length c0, .slice A1_0 l1_0.length c1_0] ?_; (with_reducible refine (impl_IsTogether.calls k _ _ l0 _ _ l1_0 true _ ?s1 HC0.out ?s3 HC1_0.out A5.out).mono ?_); (case s1 => exact S.cA HR0.out); (case s3 => exact S.cA HR1_0.out); rintro e w22 ⟨rfl, hb⟩; refine ⟨_, rfl, ?_⟩; replace BK341 := S.kb BK341 hb; replace HB := S.sG hb; (try clear hb); obtain ⟨Z23a, Z23b, Z23c, Z23d, Y23a, Y23b, Y23c, Y23d⟩ := S.c4 BK341.out) | (go_at_call 95; (with_reducible refine (impl_IsTogether.calls k _ _ l0 _ _ l1_2 false _ ?s1 HC0.out ?s3 HC1_2.out A7.out).mono ?_); (case s1 => exact S.cA HR0.out); (case s3 => exact S.cA HR1_2.out); rintro e w24 ⟨rfl, hb⟩; replace BK341 := S.kb BK341 hb; replace HB := S.sG hb; (try clear hb)))
    go_meet
    case rel => exact ⟨_, (true), S.eA, H', S.le, ⟨S.uB BK341.out⟩, ⟨S.bG⟩⟩
  ·have H' := Aside0.mk H
   clear H
   obtain ⟨Z25a, Z25b, Z25c, Z25d, Y25a, Y25b, Y25c, Y25d⟩ := S.c4 BK341.out
   go_wp2_with (first | ((with_reducible refine gate_callee (f := 95) rfl ?_); refine S.gL (some 8) Try.func95 #[.slice A0 l0.length c0, .slice A1_0 l1_0.length c1_0] ?_; (with_reducible refine (impl_IsTogether.calls k _ _ l0 _ _ l1_0 false _ ?s1 HC0.out ?s3 HC1_0.out A5.out).mono ?_); (case s1 => exact S.cA HR0.out); (case s3 => exact S.cA HR1_0.out); rintro e w26 ⟨rfl, hb⟩; refine ⟨_, rfl, ?_⟩; replace BK341 := S.kb BK341 hb; replace HB := S.sG hb; (try clear hb)))
   go_meet
   case rel => exact ⟨_, (true), S.eA, H', S.le, ⟨S.uB BK341.out⟩, ⟨S.bG⟩⟩
 case rest =>
  clear HC3
  obtain ⟨kq, x28_2, rfl, HA, HJ2, BK341, HB⟩ := hcut
  cases kq with
  | zero => exact absurd HA.out (by simp [impl_IsControl.j0])
  | succ kj2 =>
   have H := HA.out
   clear HA
   simp only [impl_IsControl.j0] at H
   replace H := S.db H; rcases H with ⟨rfl, H⟩ | ⟨rfl, H⟩
   ·obtain rfl := Option.some.inj H
    go_wp2
    go_ret
    exact ⟨S.eW, S.bG⟩
   ·by_cases c28 : (l1_2.length : Int) = 0
    ·rw [if_pos c28] at H
     have c28b0 : ((l1_2.length : Int) == 0) = true := beq_iff_eq.mpr c28
     have c28b1 : ((l1_2.length : Int) != 0) = false := bne_eq_false_iff_eq.mpr c28
     clear c28
     obtain rfl := Option.some.inj H
     obtain ⟨Z29a, Z29b, Z29c, Z29d, Y29a, Y29b, Y29c, Y29d⟩ := S.c4 BK341.out
     go_wp2
     go_ret
     exact ⟨S.eW, S.bG⟩
    ·rw [if_neg c28] at H
     have c28b0 : ((l1_2.length : Int) == 0) = false := beq_eq_false_iff_ne.mpr c28
     have c28b1 : ((l1_2.length : Int) != 0) = true := bne_iff_ne.mpr c28
     have c28b2 : ¬ (l1_2 = []) := fun h_ => c28 (by rw [h_]; rfl)
     replace H := S.bd H; obtain ⟨t345, A30, H⟩ := H
     (try dsimp only at H)
     replace H := S.bd H; obtain ⟨t346, A31, H⟩ := H
     (try dsimp only at H)
     obtain rfl := Option.some.inj H
     obtain ⟨Z32a, Z32b, Z32c, Z32d, Y32a, Y32b, Y32c, Y32d⟩ := S.c4 BK341.out
     try go_wp2
     replace BK341 := Aside0.mk (blk_drew BK341.out)
     replace HB := Aside0.mk (below_drew1 HB.out)
     refine S.st (n := 10) (ds := []) #[false, false, false, false, false, false, false, false, false, false] (fun w_ h_ => have x_ := S.e4 (S.Q h_ BK341.out); x_) (fun hHeld => ?_); refine with_tabW impl_IsControl.tab5 impl_IsControl.bits5 (fun HT_ HW_ => ?_)
     generalize wc.drew = w33 at BK341 HB hHeld ⊢
     refine S.pS 0 36 ?_
     refine S.pS 2 38 ?_
     refine S.pS 3 39 ?_
     refine S.pS 5 41 ?_
     refine S.tK 1 37 #[true, true, true, true, false, true, false, false, false, false] ?_
     refine S.tK 4 40 #[true, true, true, true, true, true, false, false, false, false] ?_
     refine S.tK 6 42 #[true, true, true, true, true, true, true, false, false, false] ?_
     refine S.oN 7 43 #[true, true, true, true, true, true, true, true, false, false] (fun K hK => ?_)
     refine S.go Try.func89 #[.slice A0 l0.length c0, .slice A1_0 l1_0.length c1_0, .slice A1_2 l1_2.length c1_2] ?_
     with_reducible refine (impl_ClearBetween.calls kj2 _ _ l0 _ _ l1_0 _ _ l1_2 t345 _ ?s1 ?s2 ?s3 ?s4 ?s5 ?s6 A30.out).mono ?_
     (case s1 => exact S.cA HR0.out)
     (case s2 => exact HC0.out)
     (case s3 => exact S.cA HR1_0.out)
     (case s4 => exact HC1_0.out)
     (case s5 => exact S.cA HR1_2.out)
     (case s6 => exact HC1_2.out)
     rintro e w34 ⟨rfl, hb⟩
     refine ⟨_, rfl, ?_⟩
     replace BK341 := S.kb BK341 hb
     replace HB := S.sG hb
     (try clear hb)
     (try clear hb2)
     (try clear hk)
     (try clear hi)
     refine hK.out _ _ (S.e4 BK341.out) (fun hHeld => ?_)
     clear hK K
     refine S.nm 43 ?_
     refine S.oN 8 44 #[true, true, true, true, true, true, true, true, true, false] (fun K hK => ?_)
     refine S.go Try.func96 #[.int .i64 a1_3, .int .i64 1, .int .i64 t345] ?_
     with_reducible refine (impl_InRange.calls a1_3 1 t345 t346 _ A31.out).mono ?_
     rintro e w' ⟨rfl, ⟨nd, rfl⟩⟩
     refine ⟨_, rfl, ?_⟩
     refine hK.out _ _ (S.e4 BK341.out) (fun hHeld => ?_)
     clear hK K
     refine S.nm 44 ?_
     refine S.pS 9 4 ?_
     refine done_ (done_of HT_.out (by kernel_rfl)) ?_
     try go_wp2
     go_ret
     exact ⟨S.eW, S.bG⟩

/-! ### impl_LeastGreen: function 77 -/
def impl_LeastGreen.l0 : Nat → List (S52) → List Int → Int → Int → Option (Int)
 | 0, _, _, _, _ => none
 | k + 1, x0, x8, x9, x10 => if x10 < x9 then (if 0 ≤ x10 then (if x10 < (x8.length : Int) then ((impl_FindPath.f x0 (rd x8 x10)).bind fun t348 => (if t348 ≥ 0 then (if 0 ≤ t348 then (if t348 < (x0.length : Int) then (if ((rd_T52 x0 t348).f1) = 2 then (some 7) else (impl_LeastGreen.l0 k x0 x8 x9 (wrap64 (x10 + 1)))) else (none)) else (none)) else (impl_LeastGreen.l0 k x0 x8 x9 (wrap64 (x10 + 1))))) else (none)) else (none)) else (some 5)
def impl_LeastGreen.f (k : Nat) (l0 : List (S52)) (l1 : List Int) : Option (Int) := impl_LeastGreen.l0 k l0 l1 (l1.length : Int) 0
set_option maxHeartbeats 8000000 in
set_option maxRecDepth 100000 in
theorem impl_LeastGreen.calls (k : Nat) (A0 : Option Addr) (c0 : Nat) (l0 : List (S52)) (A1 : Option Addr) (c1 : Nat) (l1 : List Int) (r : Int) (w : World) (hr0 : Kd.C k52 w A0 l0.length l0) (hc0 : l0.length ≤ c0) (hr1 : Kd.C (Kd.int .i64) w A1 l1.length l1) (hc1 : l1.length ≤ c1) (h : impl_LeastGreen.f k l0 l1 = some r) :
  Calls Try.prog 77 #[.slice A0 l0.length c0, .slice A1 l1.length c1] w fun e w' => e = .returned (.int .i64 r) ∧ Below w.heap.size w w' := by
 have HR0 := Aside0.mk hr0
 have HC0 := Aside0.mk hc0
 clear hr0 hc0
 have HR1 := Aside0.mk hr1
 have HC1 := Aside0.mk hc1
 clear hr1 hc1
 have HB := Aside0.mk (Below.refl w.heap.size w)
 have H : (impl_LeastGreen.l0 k l0 l1 (l1.length : Int) 0) = some r := h
 clear h
 have H' := Aside0.mk H
 clear H
 go_enter Try.func77, Try.ntmps77
 go_wp2
 go_loopg [10] k (fun kq v10 w' => ∃ (x10_1 : Int), v10 = .int .i64 x10_1 ∧ Aside0 (impl_LeastGreen.l0 kq l0 l1 (l1.length : Int) x10_1 = some r) ∧ Aside0 (kq ≤ k) ∧ Aside0 (Below w.heap.size w w'))
 case atStart => exact ⟨(0), S.eA, H', ⟨Nat.le_refl _⟩, ⟨S.bA⟩⟩
 case round =>
  clear H'
  try clear c1
  obtain ⟨x10_1, rfl, HA, HK1, HB⟩ := hrel
  cases gk with
  | zero => exact absurd HA.out (by simp [impl_LeastGreen.l0])
  | succ k1 =>
   have H := HA.out
   clear HA
   simp only [impl_LeastGreen.l0] at H
   replace H := S.dc H; rcases H with ⟨H, c3b0⟩ | ⟨H, c3b0⟩
   ·by_cases c4 : 0 ≤ x10_1
    ·rw [if_pos c4] at H
     have c4b0 : decide (0 ≤ x10_1) = true := decide_eq_true c4
     clear c4
     by_cases c5 : x10_1 < (l1.length : Int)
     ·rw [if_pos c5] at H
      have c5b0 : decide (x10_1 < (l1.length : Int)) = true := decide_eq_true c5
      clear c5
      replace H := S.bd H; obtain ⟨t348, A6, H⟩ := H
      (try dsimp only at H)
      by_cases c7 : t348 ≥ 0
      ·rw [if_pos c7] at H
       have c7b0 : decide (0 ≤ t348) = true := decide_eq_true c7
       clear c7
       by_cases c8 : 0 ≤ t348
       ·rw [if_pos c8] at H
        have c8b0 : decide (0 ≤ t348) = true := decide_eq_true c8
        clear c8
        by_cases c9 : t348 < (l0.length : Int)
        ·rw [if_pos c9] at H
         have c9b0 : decide (t348 < (l0.length : Int)) = true := decide_eq_true c9
         clear c9
         by_cases c10 : ((rd_T52 l0 t348).f1) = 2
         ·rw [if_pos c10] at H
          have c10b0 : (((rd_T52 l0 t348).f1) == 2) = true := beq_iff_eq.mpr c10
          have c10b1 : (((rd_T52 l0 t348).f1) != 2) = false := bne_eq_false_iff_eq.mpr c10
          clear c10
          obtain rfl := Option.some.inj H
          have p347 : 0 ≤ (x10_1 : Int) := S.oD
          have q347 : x10_1 < (l1.length : Int) := S.oD
          obtain ⟨ad347, e347, hx347_0⟩ := Kd.at_int HR1.out x10_1 p347 q347
          cases e347
          replace hx347_0 := S.hb HB hx347_0
          replace p347 := eq_true p347
          replace q347 := eq_true q347
          go_wp2_with (first | ((with_reducible refine gate_callee (f := 91) rfl ?_); refine S.gL (some 16) Try.func91 #[.slice A0 l0.length c0, .int .i64 (rd l1 x10_1)] ?_; (with_reducible refine (impl_FindPath.calls _ _ l0 (rd l1 x10_1) t348 _ ?s1 HC0.out A6.out).mono ?_); (case s1 => exact S.cA HR0.out); rintro e w11 ⟨rfl, hb⟩; refine ⟨_, rfl, ?_⟩; replace HB := S.sA hb; (try clear hb); have p349 : 0 ≤ (t348 : Int) := S.oD; have q349 : t348 < (l0.length : Int) := S.oD; obtain ⟨ad349, e349, hx349_0, hx349_1, hx349_2, hx349_3⟩ := at_T52 HR0.out t348 p349 q349; cases e349; replace hx349_0 := S.hb HB hx349_0; replace hx349_1 := S.hb HB hx349_1; replace hx349_2 := S.hb HB hx349_2; replace hx349_3 := S.hb HB hx349_3; replace p349 := eq_true p349; replace q349 := eq_true q349))
          go_ret
          exact ⟨S.eW, S.bA⟩
         ·rw [if_neg c10] at H
          have c10b0 : (((rd_T52 l0 t348).f1) == 2) = false := beq_eq_false_iff_ne.mpr c10
          have c10b1 : (((rd_T52 l0 t348).f1) != 2) = true := bne_iff_ne.mpr c10
          have H' := Aside0.mk H
          clear H
          have p347 : 0 ≤ (x10_1 : Int) := S.oD
          have q347 : x10_1 < (l1.length : Int) := S.oD
          obtain ⟨ad347, e347, hx347_0⟩ := Kd.at_int HR1.out x10_1 p347 q347
          cases e347
          replace hx347_0 := S.hb HB hx347_0
          replace p347 := eq_true p347
          replace q347 := eq_true q347
          go_wp2_with (first | ((with_reducible refine gate_callee (f := 91) rfl ?_); refine S.gL (some 16) Try.func91 #[.slice A0 l0.length c0, .int .i64 (rd l1 x10_1)] ?_; (with_reducible refine (impl_FindPath.calls _ _ l0 (rd l1 x10_1) t348 _ ?s1 HC0.out A6.out).mono ?_); (case s1 => exact S.cA HR0.out); rintro e w12 ⟨rfl, hb⟩; refine ⟨_, rfl, ?_⟩; replace HB := S.sA hb; (try clear hb); have p349 : 0 ≤ (t348 : Int) := S.oD; have q349 : t348 < (l0.length : Int) := S.oD; obtain ⟨ad349, e349, hx349_0, hx349_1, hx349_2, hx349_3⟩ := at_T52 HR0.out t348 p349 q349; cases e349; replace hx349_0 := S.hb HB hx349_0; replace hx349_1 := S.hb HB hx349_1; replace hx349_2 := S.hb HB hx349_2; replace hx349_3 := S.hb HB hx349_3; replace p349 := eq_true p349; replace q349 := eq_true q349))
          go_roundg k1
          case measure => have := HK1.out; omega
          case rel => exact ⟨(wrap64 (x10_1 + 1)), S.eA, H', ⟨by have := HK1.out; omega⟩, ⟨S.bA⟩⟩
        ·rw [if_neg c9] at H
         exact absurd H (by simp)
       ·rw [if_neg c8] at H
        exact absurd H (by simp)
      ·rw [if_neg c7] at H
       have c7b0 : decide (0 ≤ t348) = false := decide_eq_false c7
       clear c7
       have H' := Aside0.mk H
       clear H
       have p347 : 0 ≤ (x10_1 : Int) := S.oD
       have q347 : x10_1 < (l1.length : Int) := S.oD
       obtain ⟨ad347, e347, hx347_0⟩ := Kd.at_int HR1.out x10_1 p347 q347
       cases e347
       replace hx347_0 := S.hb HB hx347_0
       replace p347 := eq_true p347
       replace q347 := eq_true q347
       go_wp2_with (first | ((with_reducible refine gate_callee (f := 91) rfl ?_); refine S.gL (some 16) Try.func91 #[.slice A0 l0.length c0, .int .i64 (rd l1 x10_1)] ?_; (with_reducible refine (impl_FindPath.calls _ _ l0 (rd l1 x10_1) t348 _ ?s1 HC0.out A6.out).mono ?_); (case s1 => exact S.cA HR0.out); rintro e w13 ⟨rfl, hb⟩; refine ⟨_, rfl, ?_⟩; replace HB := S.sA hb; (try clear hb)))
       go_roundg k1
       case measure => have := HK1.out; omega
       case rel => exact ⟨(wrap64 (x10_1 + 1)), S.eA, H', ⟨by have := HK1.out; omega⟩, ⟨S.bA⟩⟩
     ·rw [if_neg c5] at H
      exact absurd H (by simp)
    ·rw [if_neg c4] at H
     exact absurd H (by simp)
   ·obtain rfl := Option.some.inj H
    go_wp2
    go_ret
    exact ⟨S.eW, S.bA⟩

/-! ### impl_CanCut: function 36 -/
def impl_CanCut.j0 : Nat → List (S52) → Bool → List Int → Int → List Int → Int → Option (Bool)
 | 0, _, _, _, _, _, _ => none
 | k + 1, x0, x15, x351000, x351001, x351002, x351003 => if x15 = true then (some false) else ((impl_LeastGreen.f k x0 x351000).bind fun t352 => (if t352 = 7 then (some (decide (x351001 ≥ 7))) else (some (decide (x351001 ≥ 4)))))
def impl_CanCut.f (k : Nat) (l0 : List (S52)) (l1_0 : List Int) (a1_1 : Int) (l1_2 : List Int) (a1_3 : Int) : Option (Bool) := (impl_IsControl.f k l0 l1_0 a1_1 l1_2 a1_3).bind fun t351 => (if t351 = true then (impl_CanCut.j0 k l0 (decide ((l1_2.length : Int) > 0)) l1_0 a1_1 l1_2 a1_3) else (impl_CanCut.j0 k l0 true l1_0 a1_1 l1_2 a1_3))
set_option maxHeartbeats 8000000 in
set_option maxRecDepth 100000 in
theorem impl_CanCut.calls (k : Nat) (A0 : Option Addr) (c0 : Nat) (l0 : List (S52)) (A1_0 : Option Addr) (c1_0 : Nat) (l1_0 : List Int) (a1_1 : Int) (A1_2 : Option Addr) (c1_2 : Nat) (l1_2 : List Int) (a1_3 : Int) (r : Bool) (w : World) (hr0 : Kd.C k52 w A0 l0.length l0) (hc0 : l0.length ≤ c0) (hr1_0 : Kd.C (Kd.int .i64) w A1_0 l1_0.length l1_0) (hc1_0 : l1_0.length ≤ c1_0) (hr1_2 : Kd.C (Kd.int .i64) w A1_2 l1_2.length l1_2) (hc1_2 : l1_2.length ≤ c1_2) (h : impl_CanCut.f k l0 l1_0 a1_1 l1_2 a1_3 = some r) :
  Calls Try.prog 36 #[.slice A0 l0.length c0, .agg #[.slice A1_0 l1_0.length c1_0, .int .i64 a1_1, .slice A1_2 l1_2.length c1_2, .int .i64 a1_3]] w fun e w' => e = .returned (.bool r) ∧ Below w.heap.size w w' := by
 have hu60 := Try.underlying60
 have HR0 := Aside0.mk hr0
 have HC0 := Aside0.mk hc0
 clear hr0 hc0
 have HR1_0 := Aside0.mk hr1_0
 have HC1_0 := Aside0.mk hc1_0
 clear hr1_0 hc1_0
 have HR1_2 := Aside0.mk hr1_2
 have HC1_2 := Aside0.mk hc1_2
 clear hr1_2 hc1_2
 have HB := Aside0.mk (Below.refl w.heap.size w)
 have H : ((impl_IsControl.f k l0 l1_0 a1_1 l1_2 a1_3).bind fun t351 => (if t351 = true then (impl_CanCut.j0 k l0 (decide ((l1_2.length : Int) > 0)) l1_0 a1_1 l1_2 a1_3) else (impl_CanCut.j0 k l0 true l1_0 a1_1 l1_2 a1_3))) = some r := h
 clear h
 have HC3 := Aside0.mk H
 clear H
 go_enter Try.func36, Try.ntmps36
 go_upto_region 1 with (first | ((with_reducible refine gate_dst (N := 3) rfl ?_); (try (refine gate_guard (by rfl) ?_; dsimp only)); refine S.bx 3 (cs := #[.slice A1_0 l1_0.length c1_0, .int .i64 a1_1, .slice A1_2 l1_2.length c1_2, .int .i64 a1_3]) (t := 60) ?_; intro gb350 hg w4 hbox hb; have BK350 := Aside0.mk hbox; have GW350 := S.geA hg; have GE350 := S.geA hg; replace HB := S.sA hb; clear hb hbox hg))
 (try simp only [Act.put, List.setIfInBounds_toArray, List.set_cons_zero, List.set_cons_succ])
 go_cut [15] (fun v15 wc => ∃ (kq : Nat) (x15_2 : Bool), v15 = .bool x15_2 ∧ Aside0 (impl_CanCut.j0 kq l0 x15_2 l1_0 a1_1 l1_2 a1_3 = some r) ∧ Aside0 (kq ≤ k) ∧ Aside0 (wc.heap[gb350]? = some (.cells #[(.slice A1_0 l1_0.length c1_0), .int .i64 a1_1, (.slice A1_2 l1_2.length c1_2), .int .i64 a1_3] 60 (0, 0))) ∧ Aside0 (Below w.heap.size w wc))
 case first =>
  have H := HC3.out
  clear HC3
  replace H := S.bd H; obtain ⟨t351, A5, H⟩ := H
  (try dsimp only at H)
  replace H := S.db H; rcases H with ⟨rfl, H⟩ | ⟨rfl, H⟩
  ·have H' := Aside0.mk H
   clear H
   obtain ⟨Z7a, Z7b, Z7c, Z7d, Y7a, Y7b, Y7c, Y7d⟩ := S.c4 BK350.out
   go_wp2_with (first | ((with_reducible refine gate_callee (f := 54) rfl ?_); refine S.gL (some 8) Try.func54 #[.slice A0 l0.length c0, .agg #[.slice A1_0 l1_0.length c1_0, .int .i64 a1_1, .slice A1_2 l1_2.length c1_2, .int .i64 a1_3]] ?_; (with_reducible refine (impl_IsControl.calls k _ _ l0 _ _ l1_0 a1_1 _ _ l1_2 a1_3 true _ ?s1 HC0.out ?s3 HC1_0.out ?s5 HC1_2.out A5.out).mono ?_); (case s1 => exact S.cA HR0.out); (case s3 => exact S.cA HR1_0.out); (case s5 => exact S.cA HR1_2.out); rintro e w8 ⟨rfl, hb⟩; refine ⟨_, rfl, ?_⟩; replace BK350 := S.kb BK350 hb; replace HB := S.sG hb; (try clear hb); obtain ⟨Z9a, Z9b, Z9c, Z9d, Y9a, Y9b, Y9c, Y9d⟩ := S.c4 BK350.out))
   go_meet
   case rel => exact ⟨_, (decide ((l1_2.length : Int) > 0)), S.eA, H', S.le, ⟨S.uB BK350.out⟩, ⟨S.bG⟩⟩
  ·have H' := Aside0.mk H
   clear H
   obtain ⟨Z10a, Z10b, Z10c, Z10d, Y10a, Y10b, Y10c, Y10d⟩ := S.c4 BK350.out
   go_wp2_with (first | ((with_reducible refine gate_callee (f := 54) rfl ?_); refine S.gL (some 8) Try.func54 #[.slice A0 l0.length c0, .agg #[.slice A1_0 l1_0.length c1_0, .int .i64 a1_1, .slice A1_2 l1_2.length c1_2, .int .i64 a1_3]] ?_; (with_reducible refine (impl_IsControl.calls k _ _ l0 _ _ l1_0 a1_1 _ _ l1_2 a1_3 false _ ?s1 HC0.out ?s3 HC1_0.out ?s5 HC1_2.out A5.out).mono ?_); (case s1 => exact S.cA HR0.out); (case s3 => exact S.cA HR1_0.out); (case s5 => exact S.cA HR1_2.out); rintro e w11 ⟨rfl, hb⟩; refine ⟨_, rfl, ?_⟩; replace BK350 := S.kb BK350 hb; replace HB := S.sG hb; (try clear hb)))
   go_meet
   case rel => exact ⟨_, (true), S.eA, H', S.le, ⟨S.uB BK350.out⟩, ⟨S.bG⟩⟩
 case rest =>
  clear HC3
  obtain ⟨kq, x15_2, rfl, HA, HJ2, BK350, HB⟩ := hcut
  cases kq with
  | zero => exact absurd HA.out (by simp [impl_CanCut.j0])
  | succ kj2 =>
   have H := HA.out
   clear HA
   simp only [impl_CanCut.j0] at H
   replace H := S.db H; rcases H with ⟨rfl, H⟩ | ⟨rfl, H⟩
   ·obtain rfl := Option.some.inj H
    go_wp2
    go_ret
    exact ⟨S.eW, S.bG⟩
   ·replace H := S.bd H; obtain ⟨t352, A13, H⟩ := H
    (try dsimp only at H)
    by_cases c14 : t352 = 7
    ·rw [if_pos c14] at H
     have c14b0 : (t352 == 7) = true := beq_iff_eq.mpr c14
     have c14b1 : (t352 != 7) = false := bne_eq_false_iff_eq.mpr c14
     clear c14
     obtain rfl := Option.some.inj H
     obtain ⟨Z15a, Z15b, Z15c, Z15d, Y15a, Y15b, Y15c, Y15d⟩ := S.c4 BK350.out
     go_wp2_with (first | ((with_reducible refine gate_callee (f := 77) rfl ?_); refine S.gL (some 19) Try.func77 #[.slice A0 l0.length c0, .slice A1_0 l1_0.length c1_0] ?_; (with_reducible refine (impl_LeastGreen.calls kj2 _ _ l0 _ _ l1_0 t352 _ ?s1 HC0.out ?s3 HC1_0.out A13.out).mono ?_); (case s1 => exact S.cA HR0.out); (case s3 => exact S.cA HR1_0.out); rintro e w16 ⟨rfl, hb⟩; refine ⟨_, rfl, ?_⟩; replace BK350 := S.kb BK350 hb; replace HB := S.sG hb; (try clear hb); obtain ⟨Z17a, Z17b, Z17c, Z17d, Y17a, Y17b, Y17c, Y17d⟩ := S.c4 BK350.out))
     go_ret
     exact ⟨S.eW, S.bG⟩
    ·rw [if_neg c14] at H
     have c14b0 : (t352 == 7) = false := beq_eq_false_iff_ne.mpr c14
     have c14b1 : (t352 != 7) = true := bne_iff_ne.mpr c14
     obtain rfl := Option.some.inj H
     obtain ⟨Z18a, Z18b, Z18c, Z18d, Y18a, Y18b, Y18c, Y18d⟩ := S.c4 BK350.out
     go_wp2_with (first | ((with_reducible refine gate_callee (f := 77) rfl ?_); refine S.gL (some 19) Try.func77 #[.slice A0 l0.length c0, .slice A1_0 l1_0.length c1_0] ?_; (with_reducible refine (impl_LeastGreen.calls kj2 _ _ l0 _ _ l1_0 t352 _ ?s1 HC0.out ?s3 HC1_0.out A13.out).mono ?_); (case s1 => exact S.cA HR0.out); (case s3 => exact S.cA HR1_0.out); rintro e w19 ⟨rfl, hb⟩; refine ⟨_, rfl, ?_⟩; replace BK350 := S.kb BK350 hb; replace HB := S.sG hb; (try clear hb); obtain ⟨Z20a, Z20b, Z20c, Z20d, Y20a, Y20b, Y20c, Y20d⟩ := S.c4 BK350.out))
     go_ret
     exact ⟨S.eW, S.bG⟩

/-! ### slices_Clone_int_int: function 116 -/
def slices_Clone_int_int.f (l0 : List (Int)) : Option (List (Int)) := if l0.length < 17592186044416 then some l0 else none
set_option maxHeartbeats 8000000 in
set_option maxRecDepth 100000 in
theorem slices_Clone_int_int.calls (A0 : Option Addr) (c0 : Nat) (l0 : List (Int)) (r : List (Int)) (w : World) (hr0 : Kd.C (Kd.int .i64) w A0 l0.length l0) (hc0 : l0.length ≤ c0) (h : slices_Clone_int_int.f l0 = some r) :
  Calls Try.prog 116 #[.slice A0 l0.length c0] w fun e w' => ∃ v0_ : Value, e = .returned (v0_) ∧ Kd.R (Kd.int .i64) 3 w' w.heap.size (fun _ => True) v0_ r ∧ Below w.heap.size w w' := by
 unfold slices_Clone_int_int.f at h
 by_cases hl : l0.length < 17592186044416
 ·rw [if_pos hl] at h
  obtain rfl := Option.some.inj h
  clear h
  have HB := Aside0.mk (Below.refl w.heap.size w)
  cases A0 with
  | none =>
   obtain rfl : l0 = [] := Go.Proofs.Ytopchlafmfgpnaa.Hnd.nil_of hr0
   clear hr0 hc0 hl
   have hE : ∀ W, (binOp .eql 24 (.slice none 0 c0) (.slice none 0 0)).run Try.prog W = .ok (.bool true) W := fun W => run_eql_slice_nil W 24 3 none 0 c0 Try.underlying24
   go_enter Try.func116, Try.ntmps116
   go_wp2
   go_ret
   exact ⟨_, rfl, Kd.R_nil _ _ _ _ _, HB.out⟩
  | some ad =>
   have HR0 := Aside0.mk hr0
   have HL := Aside0.mk hl
   clear hr0 hc0 hl
   obtain ⟨y, hy⟩ : ∃ y : List (Int), y = [] := ⟨_, rfl⟩
   have Ny := Aside0.mk hy
   obtain ⟨z, hz⟩ : ∃ z : List (Int), z = y ++ l0 := ⟨_, rfl⟩
   have Nz := Aside0.mk hz
   have Nz2 : Aside0 (z = l0) := ⟨by rw [hz, hy]; rfl⟩
   clear hy hz
   have hE : ∀ W, (binOp .eql 24 (.slice (some ad) l0.length c0) (.slice none 0 0)).run Try.prog W = .ok (.bool false) W := fun W => run_eql_slice_nil W 24 3 (some ad) _ c0 Try.underlying24
   go_enter Try.func116, Try.ntmps116
   go_wp2_with (first | ((with_reducible refine gate_dst (N := 5) rfl ?_); refine Kd.R_lit (Kd.int .i64) _ 3 ?hg (N := 5) ?hd (xs := ([] : List (Int))) (inner := []) (ok := fun _ => True) (okp := fun _ => True) ?hr ?hp (fun _ hk => hk) trivial (Below.refl _ _) (Nat.le_refl _) (by simp) ?_; (case hd => rfl); (case hg => rfl); (case hr => first | (go_simp; done) | (go_simp; rfl)); (case hp => exact (Reps.none _ _)); intro v110 w6 ho7 hb hg_ hnew_; clear hg_ hnew_; rw [← Ny.out] at ho7; have HO111 := Aside0.mk (Kd.R_lower ho7 (below_size (by exact HB.out))); replace HB := Aside0.mk (below_step (by exact HB.out) hb); clear hb ho7) | ((with_reducible refine gate_builtin (b := .append) (xs := #[.tmp 5, .tmp 6]) rfl ?_); at_builtin; refine Kd.R_append_rows (Kd.int .i64) (w0 := w) w.heap.size rfl (.tmp 5) (.tmp 6) 24 3 (.int .i64 0) 8 rfl Try.underlying24 info3 rfl (by decide) (by omega) v110 y l0 _ _ _ (fun _ => True) (fun _ => False) rfl rfl ?aO ?aR (fun _ _ h => h) (fun _ h => h.elim) ?aF ?aB ?aS ?aL ?_; (case aR => exact (Kd.C_below HR0.out HB.out)); (case aB => exact HB.out); (case aF => exact (fun _ _ => trivial)); (case aO => exact HO111.out); (case aS => exact (below_size HB.out)); (case aL => have := HL.out; have hy := Ny.out; subst hy; simp; omega); intro v113 w8 ho hb hg hat; rw [← Nz.out] at ho; have n0_ := Aside0.mk (hb); have n1_ := Aside0.mk (ho); clear HB; clear HO111; have HB := n0_; have HO114 := n1_; clear n0_ n1_; clear ho hb hg hat))
   go_ret
   exact ⟨_, rfl, by rw [← Nz2.out]; exact HO114.out, HB.out⟩
 ·rw [if_neg hl] at h
  exact absurd h (by simp)

end Go.Proofs.Ytopchlafmfgpnaa.PFnExactCutFor
