/- Printed by a program: what the Go functions compute, as plain Lean functions (.f), and the proofs that the machine's calls come to just that (.calls). -/
import Derived.Test.YtjgigmghcfdomaaPFnExactWindowOfx0
import Derived.Test.YtjgigmghcfdomaaPFnExactWindowOfx1
import Derived.Test.YtjgigmghcfdomaaPFnExactWindowOfx21
import Derived.Test.YtjgigmghcfdomaaPFnExactWindowOfx22
import Derived.Test.YtjgigmghcfdomaaPFnExactWindowOfx23
namespace Go.Proofs.Ytjgigmghcfdomaa.PFnExactWindowOf
open Go.RowKit Go.Proofs.YtjgigmghcfdomaaW.PrintWords Go.Proofs.YtjgigmghcfdomaaW.PrintLast Go.Proofs.YtjgigmghcfdomaaW.PrintMore
attribute [local go_sem] max2_int min2_int max_two min_two max_three min_three max_four min_four   -- for this text's walks alone
set_option linter.unusedVariables false
set_option linter.unusedSimpArgs false

/-! ### impl_shown: function 84 -/
mutual
def impl_shown.j0 : Nat → List (S85) → Int → Int → Bool → Int → Int → Int → Int → Option (Int)
 | 0, _, _, _, _, _, _, _, _ => none
 | k + 1, x1, x9, x10, x30, x388000, x388001, x388002, x388003 => if x30 = true then (some 0) else (if 0 ≤ x9 then (if x9 < (x1.length : Int) then (if x10 < ((rd_T85 x1 x9).f1) then (impl_shown.j1 k x1 x9 x10 true x388000 x388001 x388002 x388003) else ((impl_nextStage.f x1 x9).bind fun t393 => ((slices_Contains_int_int.f k t393 x388000).bind fun t396 => (impl_shown.j1 k x1 x9 x10 t396 x388000 x388001 x388002 x388003)))) else (none)) else (none))
def impl_shown.j1 : Nat → List (S85) → Int → Int → Bool → Int → Int → Int → Int → Option (Int)
 | 0, _, _, _, _, _, _, _, _ => none
 | k + 1, x1, x9, x10, x31, x388000, x388001, x388002, x388003 => if x31 = true then (some 1) else (if 0 ≤ x9 then (if x9 < (x1.length : Int) then ((impl_ClearOf.f x388000 x388001 x388002 x388003).bind fun t398 => (if x10 < (wrap64 (((rd_T85 x1 x9).f1) + t398)) then (some 2) else (some 0))) else (none)) else (none))
end
def impl_shown.f (k : Nat) (l0 : List (S71)) (l1 : List (S85)) (a2 : Int) (a3_0 : Int) (a3_1 : Int) (a3_2 : Int) (a3_3 : Int) : Option (Int) := (impl_PartAt.f k l0 l1 a2).bind fun bt388 => (if bt388.1 < 0 then (impl_shown.j0 k l1 bt388.1 bt388.2 true a3_0 a3_1 a3_2 a3_3) else (if 0 ≤ bt388.1 then (if bt388.1 < (l1.length : Int) then ((slices_Contains_int_int.f k ((rd_T85 l1 bt388.1).f0) a3_0).bind fun t391 => (impl_shown.j0 k l1 bt388.1 bt388.2 (!t391) a3_0 a3_1 a3_2 a3_3)) else (none)) else (none)))
def impl_shown.T2 : Bool × List (List Nat × List Nat) := (true, [([], []), ([0], [0]), ([1], [1]), ([2], [2]), ([2], [2]), ([3, 4, 2], [2, 3, 4]), ([5, 2], [2, 5]), ([6, 2], [2, 6]), ([2], [2]), ([8, 2], [2, 8]), ([7, 9, 2, 2], [2, 7, 9]), ([10, 2], [2, 10]), ([2, 11], [2, 11])])
def impl_shown.B2 : List Nat := [0, 1, 3, 7, 7, 31, 63, 127, 7, 263, 1023, 2047, 4095]
theorem impl_shown.tab2 : rtab .any (opsOf Try.f84 2) = impl_shown.T2 := by kernel_rfl
theorem impl_shown.bits2 : waitsOk impl_shown.T2.2 impl_shown.B2 = true := by kernel_rfl
def impl_shown.T4 : Bool × List (List Nat × List Nat) := (true, [([], []), ([], []), ([], []), ([1, 2], [1, 2]), ([3], [3]), ([4], [4]), ([0, 5], [0, 5]), ([6], [6]), ([7], [7]), ([7], [7]), ([8, 9, 7, 7], [7, 8, 9]), ([7], [7]), ([11, 7], [7, 11]), ([10, 12, 10, 7], [7, 10, 12]), ([7, 13], [7, 13]), ([14, 13], [14])])
def impl_shown.B4 : List Nat := [0, 0, 0, 6, 14, 30, 63, 127, 255, 255, 1023, 255, 2303, 8191, 16383, 32767]
theorem impl_shown.tab4 : rtab .any (opsOf Try.f84 4) = impl_shown.T4 := by kernel_rfl
theorem impl_shown.bits4 : waitsOk impl_shown.T4.2 impl_shown.B4 = true := by kernel_rfl
def impl_shown.T6 : Bool × List (List Nat × List Nat) := (true, [([], []), ([], []), ([], []), ([1, 2], [1, 2]), ([3], [3]), ([4], [4]), ([], []), ([6], [6]), ([5, 7], [5, 7]), ([0, 8], [0, 8]), ([9, 7], [9])])
def impl_shown.B6 : List Nat := [0, 0, 0, 6, 14, 30, 0, 64, 254, 511, 1023]
theorem impl_shown.tab6 : rtab .any (opsOf Try.f84 6) = impl_shown.T6 := by kernel_rfl
theorem impl_shown.bits6 : waitsOk impl_shown.T6.2 impl_shown.B6 = true := by kernel_rfl
set_option maxHeartbeats 8000000 in
set_option maxRecDepth 100000 in
theorem impl_shown.calls (k : Nat) (A0 : Option Addr) (c0 : Nat) (l0 : List (S71)) (A1 : Option Addr) (c1 : Nat) (l1 : List (S85)) (a2 : Int) (a3_0 : Int) (a3_1 : Int) (a3_2 : Int) (a3_3 : Int) (r : Int) (w : World) (hr0 : Kd.C k71 w A0 l0.length l0) (hc0 : l0.length ≤ c0) (hr1 : Kd.C k85 w A1 l1.length l1) (hc1 : l1.length ≤ c1) (h : impl_shown.f k l0 l1 a2 a3_0 a3_1 a3_2 a3_3 = some r) :
  Calls Try.prog 84 #[.slice A0 l0.length c0, .slice A1 l1.length c1, .int .i64 a2, .agg #[.int .i64 a3_0, .int .i64 a3_1, .int .i64 a3_2, .int .i64 a3_3]] w fun e w' => e = .returned (.int .i64 r) ∧ Below w.heap.size w w' := by
 have hu71 := Try.underlying71
 have HR0 := Aside0.mk hr0
 have HC0 := Aside0.mk hc0
 clear hr0 hc0
 have HR1 := Aside0.mk hr1
 have HC1 := Aside0.mk hc1
 clear hr1 hc1
 have HB := Aside0.mk (Below.refl w.heap.size w)
 have H : ((impl_PartAt.f k l0 l1 a2).bind fun bt388 => (if bt388.1 < 0 then (impl_shown.j0 k l1 bt388.1 bt388.2 true a3_0 a3_1 a3_2 a3_3) else (if 0 ≤ bt388.1 then (if bt388.1 < (l1.length : Int) then ((slices_Contains_int_int.f k ((rd_T85 l1 bt388.1).f0) a3_0).bind fun t391 => (impl_shown.j0 k l1 bt388.1 bt388.2 (!t391) a3_0 a3_1 a3_2 a3_3)) else (none)) else (none)))) = some r := h
 clear h
 replace H := S.bd H; obtain ⟨⟨t388, t389⟩, A5, H⟩ := H
 (try dsimp only at H)
 have HC6 := Aside0.mk H
 clear H
 go_enter Try.func84, Try.ntmps84
 go_upto_region 2 with (first | ((with_reducible refine gate_dst (N := 7) rfl ?_); refine S.bx 7 (cs := #[.int .i64 a3_0, .int .i64 a3_1, .int .i64 a3_2, .int .i64 a3_3]) (t := 71) ?_; intro gb387 hg w7 hbox hb; have BK387 := Aside0.mk hbox; have GW387 := S.geA hg; have GE387 := S.geA hg; replace HB := S.sA hb; clear hb hbox hg) | ((with_reducible refine gate_callee (f := 113) rfl ?_); refine S.gL (some 15) Try.func113 #[.slice A0 l0.length c0, .slice A1 l1.length c1, .int .i64 a2] ?_; (with_reducible refine (impl_PartAt.calls k _ _ l0 _ _ l1 a2 t388 t389 _ ?s1 HC0.out ?s3 HC1.out A5.out).mono ?_); (case s1 => exact S.cA HR0.out); (case s3 => exact S.cA HR1.out); rintro e w8 ⟨rfl, hb⟩; refine ⟨_, rfl, ?_⟩; replace BK387 := S.kb BK387 hb; replace HB := S.sG hb; (try clear hb)))
 (try simp only [Act.put, List.setIfInBounds_toArray, List.set_cons_zero, List.set_cons_succ])
 go_cut [30] (fun v30 wc => ∃ (kq : Nat) (x30_5 : Bool), v30 = .bool x30_5 ∧ Aside0 (impl_shown.j0 kq l1 t388 t389 x30_5 a3_0 a3_1 a3_2 a3_3 = some r) ∧ Aside0 (kq ≤ k) ∧ Aside0 (wc.heap[gb387]? = some (.cells #[.int .i64 a3_0, .int .i64 a3_1, .int .i64 a3_2, .int .i64 a3_3] 71 (0, 0))) ∧ Aside0 (Below w.heap.size w wc))
 case first =>
  have H := HC6.out
  clear HC6
  replace H := S.dc H; rcases H with ⟨H, c9b0⟩ | ⟨H, c9b0⟩
  ·(first | rw [c9b0] | (simp only [i64_w, i32_w]; rw [c9b0]) | skip)
   have H' := Aside0.mk H
   clear H
   try go_wp2
   replace BK387 := Aside0.mk (blk_drew BK387.out)
   replace HB := Aside0.mk (below_drew1 HB.out)
   refine start_ (n := 13) (S := fun w' => True) (ds := []) #[false, false, false, false, false, false, false, false, false, false, false, false, false] (by kernel_rfl) rfl rfl trivial (fun hHeld => ?_); refine with_tabW impl_shown.tab2 impl_shown.bits2 (fun HT_ HW_ => ?_)
   generalize w8.drew = w10 at BK387 HB hHeld ⊢
   refine S.pS 0 18 ?_
   refine S.pS 1 19 ?_
   refine S.pS 2 20 ?_
   refine S.pU 3 21 ?_
   refine S.pU 4 22 ?_
   refine S.pU 5 23 ?_
   refine S.pU 6 24 ?_
   refine S.pU 7 25 ?_
   refine S.pU 8 26 ?_
   refine S.pU 9 27 ?_
   refine S.pU 10 28 ?_
   refine S.pU 11 29 ?_
   refine S.pS 12 30 ?_
   refine done_ (done_of HT_.out (by kernel_rfl)) ?_
   try go_wp2
   go_meet
   case rel => exact ⟨_, (true), S.eA, H', S.le, ⟨S.uB BK387.out⟩, ⟨S.bG⟩⟩
  ·(first | rw [c9b0] | (simp only [i64_w, i32_w]; rw [c9b0]) | skip)
   by_cases c11 : 0 ≤ t388
   ·rw [if_pos c11] at H
    have c11b0 : decide (0 ≤ t388) = true := decide_eq_true c11
    clear c11
    by_cases c12 : t388 < (l1.length : Int)
    ·rw [if_pos c12] at H
     have c12b0 : decide (t388 < (l1.length : Int)) = true := decide_eq_true c12
     clear c12
     replace H := S.bd H; obtain ⟨t391, A13, H⟩ := H
     (try dsimp only at H)
     have H' := Aside0.mk H
     clear H
     try go_wp2
     replace BK387 := Aside0.mk (blk_drew BK387.out)
     replace HB := Aside0.mk (below_drew1 HB.out)
     have p390 : 0 ≤ (t388 : Int) := S.oD
     have q390 : t388 < (l1.length : Int) := S.oD
     obtain ⟨ad390, A390_0, c390_0, e390, hx390_0, hx390_1, hl390_0, hi390_0⟩ := at_T85 HR1.out t388 p390 q390
     have hw390_1 := hx390_1
     have hw390_0 := hx390_0
     cases e390
     replace hx390_0 := S.hb HB hx390_0
     replace hx390_1 := S.hb HB hx390_1
     have HR390_0 := Aside0.mk hi390_0
     have HC390_0 := Aside0.mk hl390_0
     clear hi390_0 hl390_0
     replace p390 := eq_true p390
     replace q390 := eq_true q390
     refine S.st (n := 13) (ds := []) #[false, false, false, false, false, false, false, false, false, false, false, false, false] (fun w_ h_ => have x_ := S.d4 (S.Q h_ BK387.out) (And.intro (S.q h_ (S.hb HB hw390_0)) (S.q h_ (S.hb HB hw390_1))); x_) (fun hHeld => ?_); refine with_tabW impl_shown.tab2 impl_shown.bits2 (fun HT_ HW_ => ?_)
     generalize w8.drew = w14 at BK387 HB HR390_0 hx390_0 hx390_1 hHeld ⊢
     refine S.pS 0 18 ?_
     refine S.pS 1 19 ?_
     refine S.pS 2 20 ?_
     refine S.pS 3 21 ?_
     refine S.pS 4 22 ?_
     refine S.pS 5 23 ?_
     refine S.pS 6 24 ?_
     refine S.pS 8 26 ?_
     refine S.tK 7 25 #[true, true, true, true, true, true, true, true, true, false, false, false, false] ?_
     refine S.tK 9 27 #[true, true, true, true, true, true, true, true, true, true, false, false, false] ?_
     refine S.oN 10 28 #[true, true, true, true, true, true, true, true, true, true, true, false, false] (fun K hK => ?_)
     refine S.go Try.func73 #[.slice A390_0 ((rd_T85 l1 t388).f0).length c390_0, .int .i64 a3_0] ?_
     with_reducible refine (slices_Contains_int_int.calls k _ _ ((rd_T85 l1 t388).f0) a3_0 t391 _ ?s1 ?s2 A13.out).mono ?_
     (case s1 => exact S.cA HR390_0.out)
     (case s2 => exact HC390_0.out)
     rintro e w' ⟨rfl, ⟨nd, rfl⟩⟩
     refine ⟨_, rfl, ?_⟩
     refine hK.out _ _ (S.d4 BK387.out (And.intro ((S.hb HB hw390_0 :)) ((S.hb HB hw390_1 :)))) (fun hHeld => ?_)
     clear hK K
     refine S.nm 28 ?_
     refine S.pS 11 29 ?_
     refine S.pS 12 30 ?_
     refine done_ (done_of HT_.out (by kernel_rfl)) ?_
     try go_wp2
     go_meet
     case rel => exact ⟨_, (!t391), S.eA, H', S.le, ⟨S.uB BK387.out⟩, ⟨S.bG⟩⟩
    ·rw [if_neg c12] at H
     exact absurd H (by simp)
   ·rw [if_neg c11] at H
    exact absurd H (by simp)
 case rest =>
  clear HC6
  try clear c1
  obtain ⟨kq, x30_5, rfl, HA, HJ5, BK387, HB⟩ := hcut
  cases kq with
  | zero => exact absurd HA.out (by simp [impl_shown.j0])
  | succ kj5 =>
   have H := HA.out
   clear HA
   simp only [impl_shown.j0] at H
   replace H := S.db H; rcases H with ⟨rfl, H⟩ | ⟨rfl, H⟩
   ·obtain rfl := Option.some.inj H
    go_wp2
    go_ret
    exact ⟨S.eW, S.bG⟩
   ·have HC16 := Aside0.mk H
    clear H
    go_upto_region 4 with (fail)
    go_cut [31] (fun v31 wc => ∃ (kq : Nat) (x31_15 : Bool), v31 = .bool x31_15 ∧ Aside0 (impl_shown.j1 kq l1 t388 t389 x31_15 a3_0 a3_1 a3_2 a3_3 = some r) ∧ Aside0 (kq ≤ kj5) ∧ Aside0 (wc.heap[gb387]? = some (.cells #[.int .i64 a3_0, .int .i64 a3_1, .int .i64 a3_2, .int .i64 a3_3] 71 (0, 0))) ∧ Aside0 (Below w.heap.size w wc))
    case first =>
     have H := HC16.out
     clear HC16
     by_cases c17 : 0 ≤ t388
     ·rw [if_pos c17] at H
      have c17b0 : decide (0 ≤ t388) = true := decide_eq_true c17
      clear c17
      (first | rw [c17b0] | (simp only [i64_w, i32_w]; rw [c17b0]) | skip)
      by_cases c18 : t388 < (l1.length : Int)
      ·rw [if_pos c18] at H
       have c18b0 : decide (t388 < (l1.length : Int)) = true := decide_eq_true c18
       clear c18
       replace H := S.dc H; rcases H with ⟨H, c19b0⟩ | ⟨H, c19b0⟩
       ·have H' := Aside0.mk H
        clear H
        try go_wp2
        replace BK387 := Aside0.mk (blk_drew BK387.out)
        replace HB := Aside0.mk (below_drew1 HB.out)
        have p392 : 0 ≤ (t388 : Int) := S.oD
        have q392 : t388 < (l1.length : Int) := S.oD
        obtain ⟨ad392, A392_0, c392_0, e392, hx392_0, hx392_1, hl392_0, hi392_0⟩ := at_T85 HR1.out t388 p392 q392
        have hw392_1 := hx392_1
        have hw392_0 := hx392_0
        cases e392
        replace hx392_0 := S.hb HB hx392_0
        replace hx392_1 := S.hb HB hx392_1
        have HR392_0 := Aside0.mk hi392_0
        have HC392_0 := Aside0.mk hl392_0
        clear hi392_0 hl392_0
        replace p392 := eq_true p392
        replace q392 := eq_true q392
        refine S.st (n := 16) (ds := []) #[false, false, false, false, false, false, false, false, false, false, false, false, false, false, false, false] (fun w_ h_ => have x_ := And.intro (S.q h_ (S.hb HB hw392_0)) (S.q h_ (S.hb HB hw392_1)); x_) (fun hHeld => ?_); refine with_tabW impl_shown.tab4 impl_shown.bits4 (fun HT_ HW_ => ?_)
        generalize wc.drew = w20 at BK387 HB HR392_0 hx392_0 hx392_1 hHeld ⊢
        refine S.pS 0 32 ?_
        refine S.pS 1 33 ?_
        refine S.pS 2 34 ?_
        refine S.pS 3 35 ?_
        refine S.pS 4 36 ?_
        refine S.tK 5 37 #[true, true, true, true, true, true, false, false, false, false, false, false, false, false, false, false] ?_
        refine S.pS 6 38 ?_
        refine S.pS 7 39 ?_
        refine S.pU 8 40 ?_
        refine S.pU 9 41 ?_
        refine S.pU 10 42 ?_
        refine S.pU 11 43 ?_
        refine S.pU 12 44 ?_
        refine S.pU 13 45 ?_
        refine S.pS 14 46 ?_
        refine S.pS 15 31 ?_
        refine done_ (done_of HT_.out (by kernel_rfl)) ?_
        try go_wp2
        go_meet
        case rel => exact ⟨_, (true), S.eA, H', ⟨by have := HJ5.out; first | omega | exact Nat.le_refl _⟩, ⟨S.uB BK387.out⟩, ⟨S.bG⟩⟩
       ·replace H := Option.bind_eq_some_iff.mp H
        obtain ⟨t393, A210, H⟩ := H
        replace H : ((slices_Contains_int_int.f kj5 t393 a3_0).bind fun t396 => (impl_shown.j1 kj5 l1 t388 t389 t396 a3_0 a3_1 a3_2 a3_3)) = some r := H
        have A21 := Aside0.mk A210
        clear A210
        replace H := S.bd H; obtain ⟨t396, A22, H⟩ := H
        (try dsimp only at H)
        have H' := Aside0.mk H
        clear H
        try go_wp2
        replace BK387 := Aside0.mk (blk_drew BK387.out)
        replace HB := Aside0.mk (below_drew1 HB.out)
        have p392 : 0 ≤ (t388 : Int) := S.oD
        have q392 : t388 < (l1.length : Int) := S.oD
        obtain ⟨ad392, A392_0, c392_0, e392, hx392_0, hx392_1, hl392_0, hi392_0⟩ := at_T85 HR1.out t388 p392 q392
        have hw392_1 := hx392_1
        have hw392_0 := hx392_0
        cases e392
        replace hx392_0 := S.hb HB hx392_0
        replace hx392_1 := S.hb HB hx392_1
        have HR392_0 := Aside0.mk hi392_0
        have HC392_0 := Aside0.mk hl392_0
        clear hi392_0 hl392_0
        replace p392 := eq_true p392
        replace q392 := eq_true q392
        refine S.st (n := 16) (ds := []) #[false, false, false, false, false, false, false, false, false, false, false, false, false, false, false, false] (fun w_ h_ => have x_ := S.d4 (S.Q h_ BK387.out) (And.intro (S.q h_ (S.hb HB hw392_0)) (S.q h_ (S.hb HB hw392_1))); x_) (fun hHeld => ?_); refine with_tabW impl_shown.tab4 impl_shown.bits4 (fun HT_ HW_ => ?_)
        generalize wc.drew = w23 at BK387 HB HR392_0 hx392_0 hx392_1 hHeld ⊢
        refine S.pS 0 32 ?_
        refine S.pS 1 33 ?_
        refine S.pS 2 34 ?_
        refine S.pS 3 35 ?_
        refine S.pS 4 36 ?_
        refine S.tK 5 37 #[true, true, true, true, true, true, false, false, false, false, false, false, false, false, false, false] ?_
        refine S.pS 6 38 ?_
        refine S.pS 7 39 ?_
        refine S.pS 8 40 ?_
        refine S.pS 9 41 ?_
        refine S.pS 11 43 ?_
        refine S.tK 12 44 #[true, true, true, true, true, true, true, true, true, true, false, true, true, false, false, false] ?_
        refine S.oN 10 42 #[true, true, true, true, true, true, true, true, true, true, true, true, true, false, false, false] (fun K hK => ?_)
        refine S.go Try.func110 #[.slice (some ad392) l1.length c1, .int .i64 t388] ?_
        with_reducible refine (impl_nextStage.calls (fun k_ => k_ < w.heap.size) _ _ l1 t388 t393 _ ?s1 A21.out).mono ?_
        (case s1 => exact Kd.V_mk HC1.out (Kd.F_below (Kd.C_F k85_heap HR1.out) S.bG))
        rintro e w24 ⟨v394, rfl, ho0, hb⟩
        refine ⟨_, rfl, ?_⟩
        have HO395 := Aside0.mk (Kd.V_lower (Kd.V_mono (ok' := fun k_ => k_ ≠ gb387) ho0 (fun k_ hk_ => Or.elim hk_ (fun hs_ => fun e_ => Nat.not_le.2 hs_ (by rw [e_]; exact GW387.out)) (fun hn_ => (Kd.freshB (g := gb387) (o := .cells #[.int .i64 a3_0, .int .i64 a3_1, .int .i64 a3_2, .int .i64 a3_3] 71 (0, 0)) (S.uB BK387.out) k_ hn_)))) (below_size S.bG))
        replace BK387 := S.kb BK387 hb
        replace HB := S.sG hb
        (try clear hb)
        (try clear hb2)
        (try clear hk)
        (try clear hi)
        (try clear ho0)
        obtain ⟨Ao25, co25, eo25⟩ := Kd.V_slice HO395.out
        (first | subst eo25 | (injection eo25 with f1_ f2_ f3_; have f4_ := f1_.symm; have f5_ := f3_.symm; clear f1_ f2_ f3_; subst f4_; subst f5_))
        refine hK.out _ _ (S.d4 BK387.out (And.intro ((S.hb HB hw392_0 :)) ((S.hb HB hw392_1 :)))) (fun hHeld => ?_)
        clear hK K
        refine S.nm 42 ?_
        refine S.oN 13 45 #[true, true, true, true, true, true, true, true, true, true, true, true, true, true, false, false] (fun K hK => ?_)
        refine S.go Try.func73 #[.slice Ao25 t393.length co25, .int .i64 a3_0] ?_
        with_reducible refine (slices_Contains_int_int.calls kj5 _ _ t393 a3_0 t396 _ ?s1 ?s2 A22.out).mono ?_
        (case s1 => repeat (first | exact (Kd.V_reads' HO395.out).2.2 | (with_reducible refine Kd.C_alloc ?_ _) | (with_reducible refine Kd.C_drewN ?_ _) | (with_reducible refine Kd.C_drew ?_)))
        (case s2 => exact (Kd.V_reads' HO395.out).2.1)
        rintro e w' ⟨rfl, ⟨nd, rfl⟩⟩
        refine ⟨_, rfl, ?_⟩
        refine hK.out _ _ (S.d4 BK387.out (And.intro ((S.hb HB hw392_0 :)) ((S.hb HB hw392_1 :)))) (fun hHeld => ?_)
        clear hK K
        refine S.nm 45 ?_
        refine S.pS 14 46 ?_
        refine S.pS 15 31 ?_
        refine done_ (done_of HT_.out (by kernel_rfl)) ?_
        try go_wp2
        go_meet
        case rel => exact ⟨_, (t396), S.eA, H', ⟨by have := HJ5.out; first | omega | exact Nat.le_refl _⟩, ⟨S.uB BK387.out⟩, ⟨S.bG⟩⟩
      ·rw [if_neg c18] at H
       exact absurd H (by simp)
     ·rw [if_neg c17] at H
      exact absurd H (by simp)
    case rest =>
     clear HC16
     try clear c1
     try clear c15
     obtain ⟨kq, x31_15, rfl, HA, HJ15, BK387, HB⟩ := hcut
     cases kq with
     | zero => exact absurd HA.out (by simp [impl_shown.j1])
     | succ kj15 =>
      have H := HA.out
      clear HA
      simp only [impl_shown.j1] at H
      replace H := S.db H; rcases H with ⟨rfl, H⟩ | ⟨rfl, H⟩
      ·obtain rfl := Option.some.inj H
       go_wp2
       go_ret
       exact ⟨S.eW, S.bG⟩
      ·by_cases c27 : 0 ≤ t388
       ·rw [if_pos c27] at H
        have c27b0 : decide (0 ≤ t388) = true := decide_eq_true c27
        clear c27
        by_cases c28 : t388 < (l1.length : Int)
        ·rw [if_pos c28] at H
         have c28b0 : decide (t388 < (l1.length : Int)) = true := decide_eq_true c28
         clear c28
         replace H := S.bd H; obtain ⟨t398, A29, H⟩ := H
         (try dsimp only at H)
         replace H := S.dc H; rcases H with ⟨H, c30b0⟩ | ⟨H, c30b0⟩
         ·obtain rfl := Option.some.inj H
          try go_wp2
          replace BK387 := Aside0.mk (blk_drew BK387.out)
          replace HB := Aside0.mk (below_drew1 HB.out)
          have p397 : 0 ≤ (t388 : Int) := S.oD
          have q397 : t388 < (l1.length : Int) := S.oD
          obtain ⟨ad397, A397_0, c397_0, e397, hx397_0, hx397_1, hl397_0, hi397_0⟩ := at_T85 HR1.out t388 p397 q397
          have hw397_1 := hx397_1
          have hw397_0 := hx397_0
          cases e397
          replace hx397_0 := S.hb HB hx397_0
          replace hx397_1 := S.hb HB hx397_1
          have HR397_0 := Aside0.mk hi397_0
          have HC397_0 := Aside0.mk hl397_0
          clear hi397_0 hl397_0
          replace p397 := eq_true p397
          replace q397 := eq_true q397
          refine S.st (n := 11) (ds := []) #[false, false, false, false, false, false, false, false, false, false, false] (fun w_ h_ => have x_ := S.d4 (S.Q h_ BK387.out) (And.intro (S.q h_ (S.hb HB hw397_0)) (S.q h_ (S.hb HB hw397_1))); x_) (fun hHeld => ?_); refine with_tabW impl_shown.tab6 impl_shown.bits6 (fun HT_ HW_ => ?_)
          generalize wc.drew = w31 at BK387 HB HR397_0 hx397_0 hx397_1 hHeld ⊢
          refine S.pS 0 48 ?_
          refine S.pS 1 49 ?_
          refine S.pS 2 50 ?_
          refine S.pS 3 51 ?_
          refine S.pS 4 52 ?_
          refine S.tK 5 53 #[true, true, true, true, true, true, false, false, false, false, false] ?_
          refine S.tK 6 54 #[true, true, true, true, true, true, true, false, false, false, false] ?_
          refine S.oN 7 55 #[true, true, true, true, true, true, true, true, false, false, false] (fun K hK => ?_)
          refine S.go Try.func114 #[.agg #[.int .i64 a3_0, .int .i64 a3_1, .int .i64 a3_2, .int .i64 a3_3]] ?_
          with_reducible refine (impl_ClearOf.calls a3_0 a3_1 a3_2 a3_3 t398 _ A29.out).mono ?_
          rintro e w32 ⟨rfl, hb⟩
          refine ⟨_, rfl, ?_⟩
          replace BK387 := S.kb BK387 hb
          replace HB := S.sG hb
          (try clear hb)
          (try clear hb2)
          (try clear hk)
          (try clear hi)
          refine hK.out _ _ (S.d4 BK387.out (And.intro ((S.hb HB hw397_0 :)) ((S.hb HB hw397_1 :)))) (fun hHeld => ?_)
          clear hK K
          refine S.nm 55 ?_
          refine S.pS 8 56 ?_
          refine S.pS 9 57 ?_
          refine S.pS 10 47 ?_
          refine done_ (done_of HT_.out (by kernel_rfl)) ?_
          try go_wp2
          go_ret
          exact ⟨S.eW, S.bG⟩
         ·obtain rfl := Option.some.inj H
          try go_wp2
          replace BK387 := Aside0.mk (blk_drew BK387.out)
          replace HB := Aside0.mk (below_drew1 HB.out)
          have p397 : 0 ≤ (t388 : Int) := S.oD
          have q397 : t388 < (l1.length : Int) := S.oD
          obtain ⟨ad397, A397_0, c397_0, e397, hx397_0, hx397_1, hl397_0, hi397_0⟩ := at_T85 HR1.out t388 p397 q397
          have hw397_1 := hx397_1
          have hw397_0 := hx397_0
          cases e397
          replace hx397_0 := S.hb HB hx397_0
          replace hx397_1 := S.hb HB hx397_1
          have HR397_0 := Aside0.mk hi397_0
          have HC397_0 := Aside0.mk hl397_0
          clear hi397_0 hl397_0
          replace p397 := eq_true p397
          replace q397 := eq_true q397
          refine S.st (n := 11) (ds := []) #[false, false, false, false, false, false, false, false, false, false, false] (fun w_ h_ => have x_ := S.d4 (S.Q h_ BK387.out) (And.intro (S.q h_ (S.hb HB hw397_0)) (S.q h_ (S.hb HB hw397_1))); x_) (fun hHeld => ?_); refine with_tabW impl_shown.tab6 impl_shown.bits6 (fun HT_ HW_ => ?_)
          generalize wc.drew = w33 at BK387 HB HR397_0 hx397_0 hx397_1 hHeld ⊢
          refine S.pS 0 48 ?_
          refine S.pS 1 49 ?_
          refine S.pS 2 50 ?_
          refine S.pS 3 51 ?_
          refine S.pS 4 52 ?_
          refine S.tK 5 53 #[true, true, true, true, true, true, false, false, false, false, false] ?_
          refine S.tK 6 54 #[true, true, true, true, true, true, true, false, false, false, false] ?_
          refine S.oN 7 55 #[true, true, true, true, true, true, true, true, false, false, false] (fun K hK => ?_)
          refine S.go Try.func114 #[.agg #[.int .i64 a3_0, .int .i64 a3_1, .int .i64 a3_2, .int .i64 a3_3]] ?_
          with_reducible refine (impl_ClearOf.calls a3_0 a3_1 a3_2 a3_3 t398 _ A29.out).mono ?_
          rintro e w34 ⟨rfl, hb⟩
          refine ⟨_, rfl, ?_⟩
          replace BK387 := S.kb BK387 hb
          replace HB := S.sG hb
          (try clear hb)
          (try clear hb2)
          (try clear hk)
          (try clear hi)
          refine hK.out _ _ (S.d4 BK387.out (And.intro ((S.hb HB hw397_0 :)) ((S.hb HB hw397_1 :)))) (fun hHeld => ?_)
          clear hK K
          refine S.nm 55 ?_
          refine S.pS 8 56 ?_
          refine S.pS 9 57 ?_
          refine S.pS 10 47 ?_
          refine done_ (done_of HT_.out (by kernel_rfl)) ?_
          try go_wp2
          go_ret
          exact ⟨S.eW, S.bG⟩
        ·rw [if_neg c28] at H
         exact absurd H (by simp)
       ·rw [if_neg c27] at H
        exact absurd H (by simp)

end Go.Proofs.Ytjgigmghcfdomaa.PFnExactWindowOf
