/- Printed by a program: what the Go functions compute, as plain Lean functions (.f), and the proofs that the machine's calls come to just that (.calls). -/
import Derived.Test.YtjgigmghcfdomaaPFnExactLightAfterx0
import Derived.Test.YtjgigmghcfdomaaPFnExactLightAfterx1
import Derived.Test.YtjgigmghcfdomaaPFnExactLightAfterx7
import Derived.Test.YtjgigmghcfdomaaPFnExactLightAfterx9
namespace Go.Proofs.Ytjgigmghcfdomaa.PFnExactLightAfter
open Go.RowKit Go.Proofs.YtjgigmghcfdomaaW.PrintWords Go.Proofs.YtjgigmghcfdomaaW.PrintLast Go.Proofs.YtjgigmghcfdomaaW.PrintMore
attribute [local go_sem] max2_int min2_int max_two min_two max_three min_three max_four min_four   -- for this text's walks alone
set_option linter.unusedVariables false
set_option linter.unusedSimpArgs false

/-! ### spec_l8Long: function 103 -/
def spec_l8Long.f (k : Nat) (l0 : List (S71)) (l1 : List (S85)) (a2 : Int) : Option (Int) := if 0 ≤ a2 then (if a2 < (l1.length : Int) then (if (l1.length : Int) = 0 then (none) else (if 0 ≤ (Int.tmod (wrap64 (a2 + 1)) (l1.length : Int)) then (if (Int.tmod (wrap64 (a2 + 1)) (l1.length : Int)) < (l1.length : Int) then ((spec_ClearBetween.f k l0 ((rd_T85 l1 a2).f0) ((rd_T85 l1 (Int.tmod (wrap64 (a2 + 1)) (l1.length : Int))).f0)).bind fun t210 => (some (wrap64 (((rd_T85 l1 a2).f1) + t210)))) else (none)) else (none))) else (none)) else (none)
def spec_l8Long.T1 : Bool × List (List Nat × List Nat) := (true, [([], []), ([], []), ([0, 1], [0, 1]), ([2], [2]), ([3], [3]), ([], []), ([], []), ([], []), ([6, 7], [6, 7]), ([8], [8]), ([9], [9]), ([], []), ([], []), ([12], [12]), ([], []), ([14], [14]), ([13, 15], [13, 15]), ([11, 16], [11, 16]), ([17], [17]), ([18], [18]), ([5, 10, 19], [5, 10, 19]), ([4, 20], [4, 20]), ([21, 20, 0, 1, 2, 3, 4, 5, 6, 7, 8, 9, 10, 11, 12, 13, 14, 15, 16, 17, 18, 19, 20, 21], [21])])
def spec_l8Long.B1 : List Nat := [0, 0, 3, 7, 15, 0, 0, 0, 192, 448, 960, 0, 0, 4096, 0, 16384, 61440, 129024, 260096, 522240, 1048544, 2097151, 4194303]
theorem spec_l8Long.tab1 : rtab .any (opsOf Try.f103 1) = spec_l8Long.T1 := by kernel_rfl
theorem spec_l8Long.bits1 : waitsOk spec_l8Long.T1.2 spec_l8Long.B1 = true := by kernel_rfl
set_option maxHeartbeats 8000000 in
set_option maxRecDepth 100000 in
theorem spec_l8Long.calls (k : Nat) (A0 : Option Addr) (c0 : Nat) (l0 : List (S71)) (A1 : Option Addr) (c1 : Nat) (l1 : List (S85)) (a2 : Int) (r : Int) (w : World) (hr0 : Kd.C k71 w A0 l0.length l0) (hc0 : l0.length ≤ c0) (hr1 : Kd.C k85 w A1 l1.length l1) (hc1 : l1.length ≤ c1) (h : spec_l8Long.f k l0 l1 a2 = some r) :
  Calls Try.prog 103 #[.slice A0 l0.length c0, .slice A1 l1.length c1, .int .i64 a2] w fun e w' => e = .returned (.int .i64 r) ∧ Below w.heap.size w w' := by
 have HR0 := Aside0.mk hr0
 have HC0 := Aside0.mk hc0
 clear hr0 hc0
 have HR1 := Aside0.mk hr1
 have HC1 := Aside0.mk hc1
 clear hr1 hc1
 have HB := Aside0.mk (Below.refl w.heap.size w)
 have H : (if 0 ≤ a2 then (if a2 < (l1.length : Int) then (if (l1.length : Int) = 0 then (none) else (if 0 ≤ (Int.tmod (wrap64 (a2 + 1)) (l1.length : Int)) then (if (Int.tmod (wrap64 (a2 + 1)) (l1.length : Int)) < (l1.length : Int) then ((spec_ClearBetween.f k l0 ((rd_T85 l1 a2).f0) ((rd_T85 l1 (Int.tmod (wrap64 (a2 + 1)) (l1.length : Int))).f0)).bind fun t210 => (some (wrap64 (((rd_T85 l1 a2).f1) + t210)))) else (none)) else (none))) else (none)) else (none)) = some r := h
 clear h
 by_cases c4 : 0 ≤ a2
 ·rw [if_pos c4] at H
  have c4b0 : decide (0 ≤ a2) = true := decide_eq_true c4
  clear c4
  by_cases c5 : a2 < (l1.length : Int)
  ·rw [if_pos c5] at H
   have c5b0 : decide (a2 < (l1.length : Int)) = true := decide_eq_true c5
   clear c5
   by_cases c6 : (l1.length : Int) = 0
   ·rw [if_pos c6] at H
    exact absurd H (by simp)
   ·rw [if_neg c6] at H
    have c6b0 : ((l1.length : Int) == 0) = false := beq_eq_false_iff_ne.mpr c6
    have c6b1 : ((l1.length : Int) != 0) = true := bne_iff_ne.mpr c6
    have c6b2 : ¬ (l1 = []) := fun h_ => c6 (by rw [h_]; rfl)
    obtain ⟨ji7, hji7⟩ : ∃ j_ : Int, (Int.tmod (wrap64 (a2 + 1)) (l1.length : Int)) = j_ := ⟨_, rfl⟩
    replace H : (if 0 ≤ (ji7) then (if (ji7) < (l1.length : Int) then ((spec_ClearBetween.f k l0 ((rd_T85 l1 a2).f0) ((rd_T85 l1 (ji7)).f0)).bind fun t210 => (some (wrap64 (((rd_T85 l1 a2).f1) + t210)))) else (none)) else (none)) = some r := by first | (rw [hji7] at H; exact H) | (simp only [hji7] at H ⊢; exact H)
    by_cases c8 : 0 ≤ (ji7)
    ·rw [if_pos c8] at H
     have c8b0 : decide (0 ≤ (ji7)) = true := decide_eq_true c8
     clear c8
     by_cases c9 : (ji7) < (l1.length : Int)
     ·rw [if_pos c9] at H
      have c9b0 : decide ((ji7) < (l1.length : Int)) = true := decide_eq_true c9
      clear c9
      replace H := S.bd H; obtain ⟨t210, A10, H⟩ := H
      (try dsimp only at H)
      obtain rfl := Option.some.inj H
      go_enter Try.func103, Try.ntmps103
      try go_wp2
      replace HB := Aside0.mk (below_drew1 HB.out)
      have p207 : 0 ≤ (a2 : Int) := S.oD
      have q207 : a2 < (l1.length : Int) := S.oD
      obtain ⟨ad207, A207_0, c207_0, e207, hx207_0, hx207_1, hl207_0, hi207_0⟩ := at_T85 HR1.out a2 p207 q207
      have hw207_1 := hx207_1
      have hw207_0 := hx207_0
      cases e207
      replace hx207_0 := S.hb HB hx207_0
      replace hx207_1 := S.hb HB hx207_1
      have HR207_0 := Aside0.mk hi207_0
      have HC207_0 := Aside0.mk hl207_0
      clear hi207_0 hl207_0
      replace p207 := eq_true p207
      replace q207 := eq_true q207
      have p208 : 0 ≤ (a2 : Int) := S.oD
      have q208 : a2 < (l1.length : Int) := S.oD
      obtain ⟨ad208, A208_0, c208_0, e208, hx208_0, hx208_1, hl208_0, hi208_0⟩ := at_T85 HR1.out a2 p208 q208
      have hw208_1 := hx208_1
      have hw208_0 := hx208_0
      obtain rfl : ad207 = ad208 := (by injection e208)
      replace hx208_0 := S.hb HB hx208_0
      replace hx208_1 := S.hb HB hx208_1
      have HR208_0 := Aside0.mk hi208_0
      have HC208_0 := Aside0.mk hl208_0
      clear hi208_0 hl208_0
      replace p208 := eq_true p208
      replace q208 := eq_true q208
      have ea_ := Option.some.inj (hx207_0.symm.trans hx208_0)
      injection ea_ with ea_ en_ ec_
      subst ea_
      subst ec_
      clear en_
      have p209 : 0 ≤ ((ji7) : Int) := S.oD
      have q209 : (ji7) < (l1.length : Int) := S.oD
      obtain ⟨ad209, A209_0, c209_0, e209, hx209_0, hx209_1, hl209_0, hi209_0⟩ := at_T85 HR1.out (ji7) p209 q209
      have hw209_1 := hx209_1
      have hw209_0 := hx209_0
      obtain rfl : ad207 = ad209 := (by injection e209)
      replace hx209_0 := S.hb HB hx209_0
      replace hx209_1 := S.hb HB hx209_1
      have HR209_0 := Aside0.mk hi209_0
      have HC209_0 := Aside0.mk hl209_0
      clear hi209_0 hl209_0
      replace p209 := eq_true p209
      replace q209 := eq_true q209
      refine S.st (n := 23) (ds := []) #[false, false, false, false, false, false, false, false, false, false, false, false, false, false, false, false, false, false, false, false, false, false, false] (fun w_ h_ => have x_ := And.intro (S.q h_ (S.hb HB hw207_0)) (And.intro (S.q h_ (S.hb HB hw207_1)) (And.intro (S.q h_ (S.hb HB hw208_0)) (And.intro (S.q h_ (S.hb HB hw208_1)) (And.intro (S.q h_ (S.hb HB hw209_0)) (S.q h_ (S.hb HB hw209_1)))))); x_) (fun hHeld => ?_); refine with_tabW spec_l8Long.tab1 spec_l8Long.bits1 (fun HT_ HW_ => ?_)
      generalize w.drew = w11 at HB HR207_0 HR208_0 HR209_0 hx207_0 hx207_1 hx208_0 hx208_1 hx209_0 hx209_1 hHeld ⊢
      refine S.pS 0 7 ?_
      refine S.pS 1 8 ?_
      refine S.pS 2 9 ?_
      refine S.pS 3 10 ?_
      refine S.pS 5 12 ?_
      refine S.pS 6 13 ?_
      refine S.pS 7 14 ?_
      refine S.pS 8 15 ?_
      refine S.pS 9 16 ?_
      refine S.pS 11 18 ?_
      refine S.pS 12 19 ?_
      refine S.pS 13 20 ?_
      refine S.pS 14 21 ?_
      refine S.pS 15 22 ?_
      refine S.pS 16 23 ?_
      refine S.pS 17 24 ?_
      refine S.pS 18 25 ?_
      refine S.tK 4 11 #[true, true, true, true, true, true, true, true, true, true, false, true, true, true, true, true, true, true, true, false, false, false, false] ?_
      refine S.tK 10 17 #[true, true, true, true, true, true, true, true, true, true, true, true, true, true, true, true, true, true, true, false, false, false, false] ?_
      refine S.tK 19 26 #[true, true, true, true, true, true, true, true, true, true, true, true, true, true, true, true, true, true, true, true, false, false, false] ?_
      refine S.oN 20 27 #[true, true, true, true, true, true, true, true, true, true, true, true, true, true, true, true, true, true, true, true, true, false, false] (fun K hK => ?_)
      refine goes_ Try.func126 (by kernel_rfl) rfl #[.slice A0 l0.length c0, .slice A207_0 ((rd_T85 l1 a2).f0).length c207_0, .slice A209_0 ((rd_T85 l1 (ji7)).f0).length c209_0] (by rfl) rfl rfl (by (try simp only [List.map_toArray, List.map_cons, List.map_nil]); first | done | (simp only [hji7]; rfl) | rfl | (simp only [List.length_drop, List.length_take]; rfl)) ?_
      with_reducible refine (spec_ClearBetween.calls k _ _ l0 _ _ ((rd_T85 l1 a2).f0) _ _ ((rd_T85 l1 (ji7)).f0) t210 _ ?s1 ?s2 ?s3 ?s4 ?s5 ?s6 A10.out).mono ?_
      (case s1 => exact S.cA HR0.out)
      (case s2 => exact HC0.out)
      (case s3 => exact S.cA HR208_0.out)
      (case s4 => exact HC208_0.out)
      (case s5 => exact S.cA HR209_0.out)
      (case s6 => exact HC209_0.out)
      rintro e w12 ⟨rfl, hb⟩
      refine ⟨_, rfl, ?_⟩
      replace HB := S.sA hb
      (try clear hb)
      (try clear hb2)
      (try clear hk)
      (try clear hi)
      refine hK.out _ _ ⟨(S.hb HB hw207_0 :), (S.hb HB hw207_1 :), (S.hb HB hw208_0 :), (S.hb HB hw208_1 :), (S.hb HB hw209_0 :), (S.hb HB hw209_1 :)⟩ (fun hHeld => ?_)
      clear hK K
      refine S.nm 27 ?_
      refine S.pS 21 28 ?_
      refine S.pS 22 6 ?_
      refine done_ (done_of HT_.out (by kernel_rfl)) ?_
      try go_wp2
      go_ret
      exact ⟨by first | rfl | (simp [errW_none, errW_some] <;> rfl) | (simp only [← hji7]; first | rfl | (simp [errW_none, errW_some] <;> rfl)) | (simp [*, errW_none, errW_some] <;> rfl), S.bA⟩
     ·rw [if_neg c9] at H
      exact absurd H (by simp)
    ·rw [if_neg c8] at H
     exact absurd H (by simp)
  ·rw [if_neg c5] at H
   exact absurd H (by simp)
 ·rw [if_neg c4] at H
  exact absurd H (by simp)

/-! ### spec_Cycle: function 71 -/
def spec_Cycle.l0 : Nat → List (S71) → List (S85) → Int → Int → Option (Int)
 | 0, _, _, _, _ => none
 | k + 1, x0, x1, x5, x6 => if x6 < (x1.length : Int) then ((spec_IsPlan.f k x0 x1).bind fun t211 => (if t211 = true then ((spec_l8Long.f k x0 x1 x6).bind fun t212 => (spec_Cycle.l0 k x0 x1 (wrap64 (x5 + t212)) (wrap64 (x6 + 1)))) else (some x5))) else (some x5)
def spec_Cycle.f (k : Nat) (l0 : List (S71)) (l1 : List (S85)) : Option (Int) := spec_Cycle.l0 k l0 l1 0 0
set_option maxHeartbeats 8000000 in
set_option maxRecDepth 100000 in
theorem spec_Cycle.calls (k : Nat) (A0 : Option Addr) (c0 : Nat) (l0 : List (S71)) (A1 : Option Addr) (c1 : Nat) (l1 : List (S85)) (r : Int) (w : World) (hr0 : Kd.C k71 w A0 l0.length l0) (hc0 : l0.length ≤ c0) (hr1 : Kd.C k85 w A1 l1.length l1) (hc1 : l1.length ≤ c1) (h : spec_Cycle.f k l0 l1 = some r) :
  Calls Try.prog 71 #[.slice A0 l0.length c0, .slice A1 l1.length c1] w fun e w' => e = .returned (.int .i64 r) ∧ Below w.heap.size w w' := by
 have HR0 := Aside0.mk hr0
 have HC0 := Aside0.mk hc0
 clear hr0 hc0
 have HR1 := Aside0.mk hr1
 have HC1 := Aside0.mk hc1
 clear hr1 hc1
 have HB := Aside0.mk (Below.refl w.heap.size w)
 have H : (spec_Cycle.l0 k l0 l1 0 0) = some r := h
 clear h
 have H' := Aside0.mk H
 clear H
 go_enter Try.func71, Try.ntmps71
 go_wp2
 go_loopg [5, 6] k (fun kq v5 v6 w' => ∃ (x5_1 : Int) (x6_1 : Int), v5 = .int .i64 x5_1 ∧ v6 = .int .i64 x6_1 ∧ Aside0 (spec_Cycle.l0 kq l0 l1 x5_1 x6_1 = some r) ∧ Aside0 (kq ≤ k) ∧ Aside0 (Below w.heap.size w w'))
 case atStart => exact ⟨(0), (0), S.eA, S.eA, H', ⟨Nat.le_refl _⟩, ⟨S.bA⟩⟩
 case round =>
  clear H'
  try clear c1
  obtain ⟨x5_1, x6_1, rfl, rfl, HA, HK1, HB⟩ := hrel
  cases gk with
  | zero => exact absurd HA.out (by simp [spec_Cycle.l0])
  | succ k1 =>
   have H := HA.out
   clear HA
   simp only [spec_Cycle.l0] at H
   replace H := S.dc H; rcases H with ⟨H, c3b0⟩ | ⟨H, c3b0⟩
   ·replace H := Option.bind_eq_some_iff.mp H
    obtain ⟨t211, A40, H⟩ := H
    replace H : (if t211 = true then ((spec_l8Long.f k1 l0 l1 x6_1).bind fun t212 => (spec_Cycle.l0 k1 l0 l1 (wrap64 (x5_1 + t212)) (wrap64 (x6_1 + 1)))) else (some x5_1)) = some r := H
    have A4 := Aside0.mk A40
    clear A40
    replace H := S.db H; rcases H with ⟨rfl, H⟩ | ⟨rfl, H⟩
    ·replace H := S.bd H; obtain ⟨t212, A6, H⟩ := H
     (try dsimp only at H)
     have H' := Aside0.mk H
     clear H
     go_wp2_with (first | (go_at_call 65; (with_reducible refine (spec_IsPlan.calls k1 _ _ l0 _ _ l1 true _ ?s1 HC0.out ?s3 HC1.out A4.out).mono ?_); (case s1 => exact S.cA HR0.out); (case s3 => exact S.cA HR1.out); rintro e w7 ⟨rfl, hb⟩; replace HB := S.sA hb; (try clear hb)) | ((with_reducible refine gate_callee (f := 103) rfl ?_); refine S.gL (some 22) Try.func103 #[.slice A0 l0.length c0, .slice A1 l1.length c1, .int .i64 x6_1] ?_; (with_reducible refine (spec_l8Long.calls k1 _ _ l0 _ _ l1 x6_1 t212 _ ?s1 HC0.out ?s3 HC1.out A6.out).mono ?_); (case s1 => exact S.cA HR0.out); (case s3 => exact S.cA HR1.out); rintro e w8 ⟨rfl, hb⟩; refine ⟨_, rfl, ?_⟩; replace HB := S.sA hb; (try clear hb)))
     go_roundg k1
     case measure => have := HK1.out; omega
     case rel => exact ⟨(wrap64 (x5_1 + t212)), (wrap64 (x6_1 + 1)), S.eA, S.eA, H', ⟨by have := HK1.out; omega⟩, ⟨S.bA⟩⟩
    ·obtain rfl := Option.some.inj H
     go_wp2_with (first | (go_at_call 65; (with_reducible refine (spec_IsPlan.calls k1 _ _ l0 _ _ l1 false _ ?s1 HC0.out ?s3 HC1.out A4.out).mono ?_); (case s1 => exact S.cA HR0.out); (case s3 => exact S.cA HR1.out); rintro e w9 ⟨rfl, hb⟩; replace HB := S.sA hb; (try clear hb)))
     go_ret
     exact ⟨S.eW, S.bA⟩
   ·obtain rfl := Option.some.inj H
    go_wp2
    go_ret
    exact ⟨S.eW, S.bA⟩

/-! ### spec_PartAt: function 95 -/
mutual
def spec_PartAt.j0 : Nat → List (S71) → List (S85) → Int → Bool → Option (Int × Int)
 | 0, _, _, _, _ => none
 | k + 1, x0, x1, x2, x19 => if x19 = true then (some ((-1), 0)) else ((spec_Cycle.f k x0 x1).bind fun t215 => (if t215 = 0 then (none) else (spec_PartAt.l0 k x0 x1 (Int.tmod x2 t215) 0)))
def spec_PartAt.l0 : Nat → List (S71) → List (S85) → Int → Int → Option (Int × Int)
 | 0, _, _, _, _ => none
 | k + 1, x0, x1, x8, x9 => (spec_l8Long.f k x0 x1 x9).bind fun t216 => (if x8 < t216 then (some (x9, x8)) else (spec_PartAt.l0 k x0 x1 (wrap64 (x8 - t216)) (wrap64 (x9 + 1))))
end
def spec_PartAt.f (k : Nat) (l0 : List (S71)) (l1 : List (S85)) (a2 : Int) : Option (Int × Int) := (spec_IsPlan.f k l0 l1).bind fun t213 => (if t213 = true then ((spec_l1In.f a2 0 1000000).bind fun t214 => (spec_PartAt.j0 k l0 l1 a2 (!t214))) else (spec_PartAt.j0 k l0 l1 a2 true))
set_option maxHeartbeats 8000000 in
set_option maxRecDepth 100000 in
theorem spec_PartAt.calls (k : Nat) (A0 : Option Addr) (c0 : Nat) (l0 : List (S71)) (A1 : Option Addr) (c1 : Nat) (l1 : List (S85)) (a2 : Int) (r1 : Int) (r2 : Int) (w : World) (hr0 : Kd.C k71 w A0 l0.length l0) (hc0 : l0.length ≤ c0) (hr1 : Kd.C k85 w A1 l1.length l1) (hc1 : l1.length ≤ c1) (h : spec_PartAt.f k l0 l1 a2 = some (r1, r2)) :
  Calls Try.prog 95 #[.slice A0 l0.length c0, .slice A1 l1.length c1, .int .i64 a2] w fun e w' => e = .returned (.tuple #[.int .i64 r1, .int .i64 r2]) ∧ Below w.heap.size w w' := by
 have HR0 := Aside0.mk hr0
 have HC0 := Aside0.mk hc0
 clear hr0 hc0
 have HR1 := Aside0.mk hr1
 have HC1 := Aside0.mk hc1
 clear hr1 hc1
 have HB := Aside0.mk (Below.refl w.heap.size w)
 have H : ((spec_IsPlan.f k l0 l1).bind fun t213 => (if t213 = true then ((spec_l1In.f a2 0 1000000).bind fun t214 => (spec_PartAt.j0 k l0 l1 a2 (!t214))) else (spec_PartAt.j0 k l0 l1 a2 true))) = some (r1, r2) := h
 clear h
 have HC4 := Aside0.mk H
 clear H
 go_enter Try.func95, Try.ntmps95
 go_upto_region 1 with (fail)
 go_cut [19] (fun v19 wc => ∃ (kq : Nat) (x19_3 : Bool), v19 = .bool x19_3 ∧ Aside0 (spec_PartAt.j0 kq l0 l1 a2 x19_3 = some (r1, r2)) ∧ Aside0 (kq ≤ k) ∧ Aside0 (Below w.heap.size w wc))
 case first =>
  have H := HC4.out
  clear HC4
  replace H := S.bd H; obtain ⟨t213, A5, H⟩ := H
  (try dsimp only at H)
  replace H := S.db H; rcases H with ⟨rfl, H⟩ | ⟨rfl, H⟩
  ·replace H := S.bd H; obtain ⟨t214, A7, H⟩ := H
   (try dsimp only at H)
   have H' := Aside0.mk H
   clear H
   go_wp2_with (first | ((with_reducible refine gate_callee (f := 65) rfl ?_); refine S.gL (some 13) Try.func65 #[.slice A0 l0.length c0, .slice A1 l1.length c1] ?_; (with_reducible refine (spec_IsPlan.calls k _ _ l0 _ _ l1 true _ ?s1 HC0.out ?s3 HC1.out A5.out).mono ?_); (case s1 => exact S.cA HR0.out); (case s3 => exact S.cA HR1.out); rintro e w8 ⟨rfl, hb⟩; refine ⟨_, rfl, ?_⟩; replace HB := S.sA hb; (try clear hb)) | (go_at_call 58; (with_reducible refine (spec_l1In.calls a2 0 1000000 t214 _ A7.out).mono ?_); rintro e w' ⟨rfl, ⟨nd, rfl⟩⟩))
   go_meet
   case rel => exact ⟨_, (!t214), S.eA, H', S.le, ⟨S.bA⟩⟩
  ·have H' := Aside0.mk H
   clear H
   go_wp2_with (first | ((with_reducible refine gate_callee (f := 65) rfl ?_); refine S.gL (some 13) Try.func65 #[.slice A0 l0.length c0, .slice A1 l1.length c1] ?_; (with_reducible refine (spec_IsPlan.calls k _ _ l0 _ _ l1 false _ ?s1 HC0.out ?s3 HC1.out A5.out).mono ?_); (case s1 => exact S.cA HR0.out); (case s3 => exact S.cA HR1.out); rintro e w9 ⟨rfl, hb⟩; refine ⟨_, rfl, ?_⟩; replace HB := S.sA hb; (try clear hb)))
   go_meet
   case rel => exact ⟨_, (true), S.eA, H', S.le, ⟨S.bA⟩⟩
 case rest =>
  clear HC4
  try clear c1
  obtain ⟨kq, x19_3, rfl, HA, HJ3, HB⟩ := hcut
  cases kq with
  | zero => exact absurd HA.out (by simp [spec_PartAt.j0])
  | succ kj3 =>
   have H := HA.out
   clear HA
   simp only [spec_PartAt.j0] at H
   replace H := S.db H; rcases H with ⟨rfl, H⟩ | ⟨rfl, H⟩
   ·simp only [Option.some.injEq, Prod.mk.injEq] at H
    obtain ⟨rfl, rfl⟩ := H
    go_wp2
    go_ret2
    exact ⟨S.eW, S.bA⟩
   ·replace H := S.bd H; obtain ⟨t215, A11, H⟩ := H
    (try dsimp only at H)
    by_cases c12 : t215 = 0
    ·rw [if_pos c12] at H
     exact absurd H (by simp)
    ·rw [if_neg c12] at H
     have c12b0 : (t215 == 0) = false := beq_eq_false_iff_ne.mpr c12
     have c12b1 : (t215 != 0) = true := bne_iff_ne.mpr c12
     have H' := Aside0.mk H
     clear H
     go_wp2_with (first | ((with_reducible refine gate_callee (f := 71) rfl ?_); refine S.gL (some 23) Try.func71 #[.slice A0 l0.length c0, .slice A1 l1.length c1] ?_; (with_reducible refine (spec_Cycle.calls kj3 _ _ l0 _ _ l1 t215 _ ?s1 HC0.out ?s3 HC1.out A11.out).mono ?_); (case s1 => exact S.cA HR0.out); (case s3 => exact S.cA HR1.out); rintro e w13 ⟨rfl, hb⟩; refine ⟨_, rfl, ?_⟩; replace HB := S.sA hb; (try clear hb)))
     go_loopg [8, 9] kj3 (fun kq v8 v9 w' => ∃ (x8_2 : Int) (x9_2 : Int), v8 = .int .i64 x8_2 ∧ v9 = .int .i64 x9_2 ∧ Aside0 (spec_PartAt.l0 kq l0 l1 x8_2 x9_2 = some (r1, r2)) ∧ Aside0 (kq ≤ kj3) ∧ Aside0 (Below w.heap.size w w'))
     case atStart => exact ⟨(Int.tmod a2 t215), (0), S.eA, S.eA, H', ⟨Nat.le_refl _⟩, ⟨S.bA⟩⟩
     case round =>
      clear H'
      try clear c1
      try clear c10
      try clear c12
      try clear c12b0
      try clear c12b1
      obtain ⟨x8_2, x9_2, rfl, rfl, HA, HK2, HB⟩ := hrel
      cases gk with
      | zero => exact absurd HA.out (by simp [spec_PartAt.l0])
      | succ k2 =>
       have H := HA.out
       clear HA
       simp only [spec_PartAt.l0] at H
       replace H := S.bd H; obtain ⟨t216, A14, H⟩ := H
       (try dsimp only at H)
       replace H := S.dc H; rcases H with ⟨H, c15b0⟩ | ⟨H, c15b0⟩
       ·simp only [Option.some.injEq, Prod.mk.injEq] at H
        obtain ⟨rfl, rfl⟩ := H
        go_wp2_with (first | ((with_reducible refine gate_callee (f := 103) rfl ?_); refine S.gL (some 30) Try.func103 #[.slice A0 l0.length c0, .slice A1 l1.length c1, .int .i64 x9_2] ?_; (with_reducible refine (spec_l8Long.calls k2 _ _ l0 _ _ l1 x9_2 t216 _ ?s1 HC0.out ?s3 HC1.out A14.out).mono ?_); (case s1 => exact S.cA HR0.out); (case s3 => exact S.cA HR1.out); rintro e w16 ⟨rfl, hb⟩; refine ⟨_, rfl, ?_⟩; replace HB := S.sA hb; (try clear hb)))
        go_ret2
        exact ⟨S.eW, S.bA⟩
       ·have H' := Aside0.mk H
        clear H
        go_wp2_with (first | ((with_reducible refine gate_callee (f := 103) rfl ?_); refine S.gL (some 30) Try.func103 #[.slice A0 l0.length c0, .slice A1 l1.length c1, .int .i64 x9_2] ?_; (with_reducible refine (spec_l8Long.calls k2 _ _ l0 _ _ l1 x9_2 t216 _ ?s1 HC0.out ?s3 HC1.out A14.out).mono ?_); (case s1 => exact S.cA HR0.out); (case s3 => exact S.cA HR1.out); rintro e w17 ⟨rfl, hb⟩; refine ⟨_, rfl, ?_⟩; replace HB := S.sA hb; (try clear hb)))
        go_roundg k2
        case measure => have := HJ3.out; have := HK2.out; omega
        case rel => exact ⟨(wrap64 (x8_2 - t216)), (wrap64 (x9_2 + 1)), S.eA, S.eA, H', ⟨by have := HJ3.out; have := HK2.out; omega⟩, ⟨S.bA⟩⟩

end Go.Proofs.Ytjgigmghcfdomaa.PFnExactLightAfter
