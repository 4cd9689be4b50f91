/- Printed by a program: what the Go functions compute, as plain Lean functions (.f), and the proofs that the machine's calls come to just that (.calls). -/
import Derived.Test.YtopchlafmfgpnaaPFnExactStepSirenx0
import Derived.Test.YtopchlafmfgpnaaPFnExactStepSirenx1
import Derived.Test.YtopchlafmfgpnaaPFnExactStepSirenx2
import Derived.Test.YtopchlafmfgpnaaPFnExactStepSirenx3
import Derived.Test.YtopchlafmfgpnaaPFnExactStepSirenx12
import Derived.Test.YtopchlafmfgpnaaPFnExactStepSirenx20
namespace Go.Proofs.Ytopchlafmfgpnaa.PFnExactStepSiren
open Go.RowKit Go.Proofs.YtopchlafmfgpnaaW.PrintWords Go.Proofs.YtopchlafmfgpnaaW.PrintLast Go.Proofs.YtopchlafmfgpnaaW.PrintMore
attribute [local go_sem] max2_int min2_int max_two min_two max_three min_three max_four min_four   -- for this text's walks alone
set_option linter.unusedVariables false
set_option linter.unusedSimpArgs false

/-! ### laws_FnExactStepSiren: function 9 -/
mutual
def laws_FnExactStepSiren.j0 : Nat → List (S84) → Int → Int → List Int → Int → List Int → Int → Option (Bool)
 | 0, _, _, _, _, _, _, _ => none
 | k + 1, x0, x2, x7, x460000, x460001, x460002, x460003 => (laws_szControl.f x460000 x460001 x460002 x460003 x7).bind fun t461 => (if t461 < 0 then (some true) else (laws_FnExactStepSiren.j1 k x0 x2 x460000 x460001 x460002 x460003))
def laws_FnExactStepSiren.j1 : Nat → List (S84) → Int → List Int → Int → List Int → Int → Option (Bool)
 | 0, _, _, _, _, _, _ => none
 | k + 1, x0, x2, x460000, x460001, x460002, x460003 => (laws_toPathS.f k x0).bind fun t462 => ((laws_toControl.f k x460000 x460001 x460002 x460003).bind fun bt465 => ((spec_StepSiren.f k t462 bt465.1 bt465.2.1 bt465.2.2.1 bt465.2.2.2 x2).bind fun bt473 => ((laws_toPathS.f k x0).bind fun t482 => ((laws_toControl.f k x460000 x460001 x460002 x460003).bind fun bt485 => ((impl_StepSiren.f k t482 bt485.1 bt485.2.1 bt485.2.2.1 bt485.2.2.2 x2).bind fun bt494 => ((laws_eqControl.f k bt494.1 bt494.2.1 bt494.2.2.1 bt494.2.2.2 bt473.1 bt473.2.1 bt473.2.2.1 bt473.2.2.2).bind fun t503 => (if t503 = true then (laws_FnExactStepSiren.j2 k x0 x2 t482 x460000 x460001 x460002 x460003 bt473.1 bt473.2.1 bt473.2.2.1 bt473.2.2.2 bt485.1 bt485.2.1 bt485.2.2.1 bt485.2.2.2 bt494.1 bt494.2.1 bt494.2.2.1 bt494.2.2.2) else (some false))))))))
def laws_FnExactStepSiren.j2 : Nat → List (S84) → Int → List (S52) → List Int → Int → List Int → Int → List Int → Int → List Int → Int → List Int → Int → List Int → Int → List Int → Int → List Int → Int → Option (Bool)
 | 0, _, _, _, _, _, _, _, _, _, _, _, _, _, _, _, _, _, _, _ => none
 | k + 1, x0, x2, x9, x460000, x460001, x460002, x460003, x482000, x482001, x482002, x482003, x494000, x494001, x494002, x494003, x503000, x503001, x503002, x503003 => (laws_toPathS.f k x0).bind fun t504 => ((laws_eqPathS.f k x9 t504).bind fun t507 => (if t507 = true then (laws_FnExactStepSiren.j3 k x0 x2 x9 x460000 x460001 x460002 x460003 x482000 x482001 x482002 x482003 x494000 x494001 x494002 x494003 x503000 x503001 x503002 x503003) else (some false)))
def laws_FnExactStepSiren.j3 : Nat → List (S84) → Int → List (S52) → List Int → Int → List Int → Int → List Int → Int → List Int → Int → List Int → Int → List Int → Int → List Int → Int → List Int → Int → Option (Bool)
 | 0, _, _, _, _, _, _, _, _, _, _, _, _, _, _, _, _, _, _, _ => none
 | k + 1, x0, x2, x9, x460000, x460001, x460002, x460003, x482000, x482001, x482002, x482003, x494000, x494001, x494002, x494003, x503000, x503001, x503002, x503003 => (laws_toControl.f k x460000 x460001 x460002 x460003).bind fun bt508 => ((laws_eqControl.f k x494000 x494001 x494002 x494003 bt508.1 bt508.2.1 bt508.2.2.1 bt508.2.2.2).bind fun t516 => (if t516 = true then (laws_FnExactStepSiren.j4 k x0 x2 x9 x460000 x460001 x460002 x460003 x482000 x482001 x482002 x482003 x494000 x494001 x494002 x494003 x503000 x503001 x503002 x503003) else (some false)))
def laws_FnExactStepSiren.j4 : Nat → List (S84) → Int → List (S52) → List Int → Int → List Int → Int → List Int → Int → List Int → Int → List Int → Int → List Int → Int → List Int → Int → List Int → Int → Option (Bool)
 | 0, _, _, _, _, _, _, _, _, _, _, _, _, _, _, _, _, _, _, _ => none
 | k + 1, x0, x2, x9, x460000, x460001, x460002, x460003, x482000, x482001, x482002, x482003, x494000, x494001, x494002, x494003, x503000, x503001, x503002, x503003 => (laws_markPathS.f k x9 1).bind fun bt517 => ((laws_markControl.f k x494000 x494001 x494002 x494003 bt517.1).bind fun bt519 => (if bt519.1 < 0 then (laws_FnExactStepSiren.j5 k x0 x2 true x460000 x460001 x460002 x460003 x482000 x482001 x482002 x482003 x503000 x503001 x503002 x503003) else ((laws_eqControl.f k x503000 x503001 x503002 x503003 x482000 x482001 x482002 x482003).bind fun t522 => (laws_FnExactStepSiren.j5 k x0 x2 (!t522) x460000 x460001 x460002 x460003 x482000 x482001 x482002 x482003 x503000 x503001 x503002 x503003))))
def laws_FnExactStepSiren.j5 : Nat → List (S84) → Int → Bool → List Int → Int → List Int → Int → List Int → Int → List Int → Int → List Int → Int → List Int → Int → Option (Bool)
 | 0, _, _, _, _, _, _, _, _, _, _, _, _, _, _, _ => none
 | k + 1, x0, x2, x67, x460000, x460001, x460002, x460003, x482000, x482001, x482002, x482003, x503000, x503001, x503002, x503003 => if x67 = true then (some false) else (laws_FnExactStepSiren.j6 k x0 x2 x460000 x460001 x460002 x460003 x482000 x482001 x482002 x482003 x503000 x503001 x503002 x503003)
def laws_FnExactStepSiren.j6 : Nat → List (S84) → Int → List Int → Int → List Int → Int → List Int → Int → List Int → Int → List Int → Int → List Int → Int → Option (Bool)
 | 0, _, _, _, _, _, _, _, _, _, _, _, _, _, _ => none
 | k + 1, x0, x2, x460000, x460001, x460002, x460003, x482000, x482001, x482002, x482003, x503000, x503001, x503002, x503003 => (laws_markControl.f k x503000 x503001 x503002 x503003 1).bind fun bt523 => ((laws_heldControl.f k bt523.2.1 x503001 bt523.2.2 x503003 1).bind fun t526 => (if t526 < 0 then (some false) else (laws_FnExactStepSiren.j7 k x0 x2 bt523.1 t526 x460000 x460001 x460002 x460003 x482000 x482001 x482002 x482003 bt523.2.1 x503001 bt523.2.2 x503003)))
def laws_FnExactStepSiren.j7 : Nat → List (S84) → Int → Int → Int → List Int → Int → List Int → Int → List Int → Int → List Int → Int → List Int → Int → List Int → Int → Option (Bool)
 | 0, _, _, _, _, _, _, _, _, _, _, _, _, _, _, _, _ => none
 | k + 1, x0, x2, x13, x14, x460000, x460001, x460002, x460003, x482000, x482001, x482002, x482003, x503000, x503001, x503002, x503003 => if x14 = x13 then (laws_FnExactStepSiren.j8 k x0 x2 x13 x460000 x460001 x460002 x460003 x482000 x482001 x482002 x482003 x503000 x503001 x503002 x503003) else (some false)
def laws_FnExactStepSiren.j8 : Nat → List (S84) → Int → Int → List Int → Int → List Int → Int → List Int → Int → List Int → Int → List Int → Int → List Int → Int → Option (Bool)
 | 0, _, _, _, _, _, _, _, _, _, _, _, _, _, _, _ => none
 | k + 1, x0, x2, x13, x460000, x460001, x460002, x460003, x482000, x482001, x482002, x482003, x503000, x503001, x503002, x503003 => (laws_toPathS.f k x0).bind fun t527 => ((laws_toControl.f k x460000 x460001 x460002 x460003).bind fun bt530 => ((impl_StepSiren.f k t527 bt530.1 bt530.2.1 bt530.2.2.1 bt530.2.2.2 x2).bind fun bt538 => ((laws_eqControl.f k bt538.1 bt538.2.1 bt538.2.2.1 bt538.2.2.2 x482000 x482001 x482002 x482003).bind fun t547 => (if t547 = true then (laws_FnExactStepSiren.j9 k x13 x503000 x503001 x503002 x503003) else (some false)))))
def laws_FnExactStepSiren.j9 : Nat → Int → List Int → Int → List Int → Int → Option (Bool)
 | 0, _, _, _, _, _ => none
 | k + 1, x13, x503000, x503001, x503002, x503003 => (laws_heldControl.f k x503000 x503001 x503002 x503003 1).bind fun t548 => (if t548 < 0 then (some false) else (if t548 = x13 then (some true) else (some false)))
end
def laws_FnExactStepSiren.f (k : Nat) (l0 : List (S84)) (l1_0 : List Int) (a1_1 : Int) (l1_2 : List Int) (a1_3 : Int) (a2 : Int) : Option (Bool) := (laws_szPathS.f l0 1048576).bind fun t460 => (if t460 < 0 then (some true) else (laws_FnExactStepSiren.j0 k l0 a2 t460 l1_0 a1_1 l1_2 a1_3))
def laws_FnExactStepSiren.T8 : Bool × List (List Nat × List Nat) := (true, [([], []), ([0], [0]), ([], []), ([2, 1], [2]), ([], []), ([1, 3, 4, 3], [1, 3, 4]), ([], []), ([6, 5, 5, 0, 1, 2, 3, 4, 5, 6], [5, 6])])
def laws_FnExactStepSiren.B8 : List Nat := [0, 1, 0, 7, 0, 31, 0, 127]
theorem laws_FnExactStepSiren.tab8 : rtab .any (opsOf Try.f9 8) = laws_FnExactStepSiren.T8 := by kernel_rfl
theorem laws_FnExactStepSiren.bits8 : waitsOk laws_FnExactStepSiren.T8.2 laws_FnExactStepSiren.B8 = true := by kernel_rfl
def laws_FnExactStepSiren.T31 : Bool × List (List Nat × List Nat) := (true, [([], []), ([0], [0]), ([], []), ([2, 1], [2]), ([], []), ([1, 3, 4, 3], [1, 3, 4]), ([], []), ([6, 5, 5, 0, 1, 2, 3, 4, 5, 6], [5, 6])])
def laws_FnExactStepSiren.B31 : List Nat := [0, 1, 0, 7, 0, 31, 0, 127]
theorem laws_FnExactStepSiren.tab31 : rtab .any (opsOf Try.f9 31) = laws_FnExactStepSiren.T31 := by kernel_rfl
theorem laws_FnExactStepSiren.bits31 : waitsOk laws_FnExactStepSiren.T31.2 laws_FnExactStepSiren.B31 = true := by kernel_rfl
set_option maxHeartbeats 8000000 in
set_option maxRecDepth 100000 in
theorem laws_FnExactStepSiren.calls (k : Nat) (A0 : Option Addr) (c0 : Nat) (l0 : List (S84)) (A1_0 : Option Addr) (c1_0 : Nat) (l1_0 : List Int) (a1_1 : Int) (A1_2 : Option Addr) (c1_2 : Nat) (l1_2 : List Int) (a1_3 : Int) (a2 : Int) (r : Bool) (w : World) (hr0 : Kd.C k84 w A0 l0.length l0) (hc0 : l0.length ≤ c0) (hr1_0 : Kd.C (Kd.int .i64) w A1_0 l1_0.length l1_0) (hc1_0 : l1_0.length ≤ c1_0) (hr1_2 : Kd.C (Kd.int .i64) w A1_2 l1_2.length l1_2) (hc1_2 : l1_2.length ≤ c1_2) (h : laws_FnExactStepSiren.f k l0 l1_0 a1_1 l1_2 a1_3 a2 = some r) :
  Calls Try.prog 9 #[.slice A0 l0.length c0, .agg #[.slice A1_0 l1_0.length c1_0, .int .i64 a1_1, .slice A1_2 l1_2.length c1_2, .int .i64 a1_3], .int .i64 a2] w fun e w' => e = .returned (.bool r) ∧ Below w.heap.size w w' := by
 have hu57 := Try.underlying57
 have hu60 := Try.underlying60
 have HR0 := Aside0.mk hr0
 have HC0 := Aside0.mk hc0
 clear hr0 hc0
 have HR1_0 := Aside0.mk hr1_0
 have HC1_0 := Aside0.mk hc1_0
 clear hr1_0 hc1_0
 have HR1_2 := Aside0.mk hr1_2
 have HC1_2 := Aside0.mk hc1_2
 clear hr1_2 hc1_2
 have HB := Aside0.mk (Below.refl w.heap.size w)
 have H : ((laws_szPathS.f l0 1048576).bind fun t460 => (if t460 < 0 then (some true) else (laws_FnExactStepSiren.j0 k l0 a2 t460 l1_0 a1_1 l1_2 a1_3))) = some r := h
 clear h
 replace H := S.bd H; obtain ⟨t460, A4, H⟩ := H
 (try dsimp only at H)
 have HC5 := Aside0.mk H
 clear H
 go_enter Try.func9, Try.ntmps9
 go_upto_if 20 with (first | ((with_reducible refine gate_dst (N := 4) rfl ?_); refine S.bx 4 (cs := #[.slice A1_0 l1_0.length c1_0, .int .i64 a1_1, .slice A1_2 l1_2.length c1_2, .int .i64 a1_3]) (t := 57) ?_; intro gb459 hg w6 hbox hb; have BK459 := Aside0.mk hbox; have GW459 := S.geA hg; have GE459 := S.geA hg; replace HB := S.sA hb; clear hb hbox hg) | ((with_reducible refine gate_callee (f := 11) rfl ?_); refine S.gL (some 18) Try.func11 #[.slice A0 l0.length c0, .int .i64 1048576] ?_; (with_reducible refine (laws_szPathS.calls _ _ l0 1048576 t460 _ ?s1 HC0.out A4.out).mono ?_); (case s1 => exact S.cA HR0.out); rintro e w' ⟨rfl, ⟨nd, rfl⟩⟩; refine ⟨_, rfl, ?_⟩))
 (try simp only [Act.put, List.setIfInBounds_toArray, List.set_cons_zero, List.set_cons_succ])
 go_cut [] (fun wc => ∃ (kq : Nat), Aside0 (laws_FnExactStepSiren.j0 kq l0 a2 t460 l1_0 a1_1 l1_2 a1_3 = some r) ∧ Aside0 (kq ≤ k) ∧ Aside0 (wc.heap[gb459]? = some (.cells #[(.slice A1_0 l1_0.length c1_0), .int .i64 a1_1, (.slice A1_2 l1_2.length c1_2), .int .i64 a1_3] 57 (0, 0))) ∧ Aside0 (Below w.heap.size w wc))
 case first =>
  have H := HC5.out
  clear HC5
  replace H := S.dc H; rcases H with ⟨H, c7b0⟩ | ⟨H, c7b0⟩
  ·(first | rw [c7b0] | (simp only [i64_w, i32_w]; rw [c7b0]) | skip)
   obtain rfl := Option.some.inj H
   go_wp2
   go_ret
   exact ⟨S.eW, S.bG⟩
  ·(first | rw [c7b0] | (simp only [i64_w, i32_w]; rw [c7b0]) | skip)
   have H' := Aside0.mk H
   clear H
   go_wp2
   go_meet
   case rel => exact ⟨_, H', S.le, ⟨S.uB BK459.out⟩, ⟨S.bG⟩⟩
 case rest =>
  clear HC5
  obtain ⟨kq, HA, HJ4, BK459, HB⟩ := hcut
  cases kq with
  | zero => exact absurd HA.out (by simp [laws_FnExactStepSiren.j0])
  | succ kj4 =>
   have H := HA.out
   clear HA
   simp only [laws_FnExactStepSiren.j0] at H
   replace H := S.bd H; obtain ⟨t461, A8, H⟩ := H
   (try dsimp only at H)
   have HC9 := Aside0.mk H
   clear H
   obtain ⟨Z10a, Z10b, Z10c, Z10d, Y10a, Y10b, Y10c, Y10d⟩ := S.c4 BK459.out
   go_upto_if 25 with (first | ((with_reducible refine gate_callee (f := 33) rfl ?_); refine S.gL (some 23) Try.func33 #[.agg #[.slice A1_0 l1_0.length c1_0, .int .i64 a1_1, .slice A1_2 l1_2.length c1_2, .int .i64 a1_3], .int .i64 t460] ?_; (with_reducible refine (laws_szControl.calls _ _ l1_0 a1_1 _ _ l1_2 a1_3 t460 t461 _ ?s1 HC1_0.out ?s3 HC1_2.out A8.out).mono ?_); (case s1 => exact S.cA HR1_0.out); (case s3 => exact S.cA HR1_2.out); rintro e w11 ⟨rfl, hb⟩; refine ⟨_, rfl, ?_⟩; replace BK459 := S.kb BK459 hb; replace HB := S.sG hb; (try clear hb)))
   (try simp only [Act.put, List.setIfInBounds_toArray, List.set_cons_zero, List.set_cons_succ])
   go_cut [] (fun wc => ∃ (kq : Nat), Aside0 (laws_FnExactStepSiren.j1 kq l0 a2 l1_0 a1_1 l1_2 a1_3 = some r) ∧ Aside0 (kq ≤ kj4) ∧ Aside0 (wc.heap[gb459]? = some (.cells #[(.slice A1_0 l1_0.length c1_0), .int .i64 a1_1, (.slice A1_2 l1_2.length c1_2), .int .i64 a1_3] 57 (0, 0))) ∧ Aside0 (Below w.heap.size w wc))
   case first =>
    have H := HC9.out
    clear HC9
    replace H := S.dc H; rcases H with ⟨H, c12b0⟩ | ⟨H, c12b0⟩
    ·(first | rw [c12b0] | (simp only [i64_w, i32_w]; rw [c12b0]) | skip)
     obtain rfl := Option.some.inj H
     go_wp2
     go_ret
     exact ⟨S.eW, S.bG⟩
    ·(first | rw [c12b0] | (simp only [i64_w, i32_w]; rw [c12b0]) | skip)
     have H' := Aside0.mk H
     clear H
     go_wp2
     go_meet
     case rel => exact ⟨_, H', ⟨by have := HJ4.out; first | omega | exact Nat.le_refl _⟩, ⟨S.uB BK459.out⟩, ⟨S.bG⟩⟩
   case rest =>
    clear HC9
    try clear Z10a
    try clear Z10b
    try clear Z10c
    try clear Z10d
    try clear Y10a
    try clear Y10b
    try clear Y10c
    try clear Y10d
    obtain ⟨kq, HA, HJ8, BK459, HB⟩ := hcut
    cases kq with
    | zero => exact absurd HA.out (by simp [laws_FnExactStepSiren.j1])
    | succ kj8 =>
     have H := HA.out
     clear HA
     simp only [laws_FnExactStepSiren.j1] at H
     replace H := S.bd H; obtain ⟨t462, A13, H⟩ := H
     (try dsimp only at H)
     replace H := S.bd H; obtain ⟨⟨t465, t468, t469, t472⟩, A14, H⟩ := H
     (try dsimp only at H)
     replace H := S.bd H; obtain ⟨⟨t473, t476, t477, t480⟩, A15, H⟩ := H
     (try dsimp only at H)
     replace H := S.bd H; obtain ⟨t482, A16, H⟩ := H
     (try dsimp only at H)
     replace H := S.bd H; obtain ⟨⟨t485, t488, t489, t492⟩, A17, H⟩ := H
     (try dsimp only at H)
     replace H := S.bd H; obtain ⟨⟨t494, t497, t498, t501⟩, A18, H⟩ := H
     (try dsimp only at H)
     replace H := S.bd H; obtain ⟨t503, A19, H⟩ := H
     (try dsimp only at H)
     have HC20 := Aside0.mk H
     clear H
     try go_wp2
     replace BK459 := Aside0.mk (blk_drew BK459.out)
     replace HB := Aside0.mk (below_drew1 HB.out)
     refine S.st (n := 8) (ds := []) #[false, false, false, false, false, false, false, false] (fun w_ h_ => have x_ := S.e4 (S.Q h_ BK459.out); x_) (fun hHeld => ?_); refine with_tabW laws_FnExactStepSiren.tab8 laws_FnExactStepSiren.bits8 (fun HT_ HW_ => ?_)
     generalize wc.drew = w21 at BK459 HB hHeld ⊢
     refine S.pS 0 26 ?_
     refine S.pS 4 30 ?_
     refine S.tK 2 28 #[true, false, true, false, true, false, false, false] ?_
     refine join_ (σ := Value × Value × Value × Value × Value × Nat) 1 #[true, true, true, true, true, true, true, false] (fun s_ => [(27, s_.1), (29, .agg #[s_.2.1, .int .i64 t468, s_.2.2.1, .int .i64 t472]), (31, .agg #[s_.2.2.2.1, .int .i64 t476, s_.2.2.2.2.1, .int .i64 t480]), (8, .pointer (some ⟨s_.2.2.2.2.2, 0, none⟩))]) (fun s_ w' => (w'.cell? ⟨gb459, 0, none⟩ = some (.slice A1_0 l1_0.length c1_0) ∧ w'.cell? ⟨gb459, 1, none⟩ = some (.int .i64 a1_1) ∧ w'.cell? ⟨gb459, 2, none⟩ = some (.slice A1_2 l1_2.length c1_2) ∧ w'.cell? ⟨gb459, 3, none⟩ = some (.int .i64 a1_3)) ∧ (Kd.R k52 52 w' w.heap.size (fun _ => True) s_.1 t462) ∧ (Kd.R (Kd.int .i64) 3 w' w.heap.size (fun k_ => some k_ ≠ (s_.2.2.1 : Value).ownBlock ∧ some k_ ≠ (s_.2.2.2.1 : Value).ownBlock ∧ some k_ ≠ (s_.2.2.2.2.1 : Value).ownBlock) s_.2.1 t465) ∧ (Kd.R (Kd.int .i64) 3 w' w.heap.size (fun k_ => some k_ ≠ (s_.2.1 : Value).ownBlock ∧ some k_ ≠ (s_.2.2.2.1 : Value).ownBlock ∧ some k_ ≠ (s_.2.2.2.2.1 : Value).ownBlock) s_.2.2.1 t469) ∧ (Kd.R (Kd.int .i64) 3 w' w.heap.size (fun k_ => some k_ ≠ (s_.2.1 : Value).ownBlock ∧ some k_ ≠ (s_.2.2.1 : Value).ownBlock ∧ some k_ ≠ (s_.2.2.2.2.1 : Value).ownBlock) s_.2.2.2.1 t473) ∧ (Kd.R (Kd.int .i64) 3 w' w.heap.size (fun k_ => some k_ ≠ (s_.2.1 : Value).ownBlock ∧ some k_ ≠ (s_.2.2.1 : Value).ownBlock ∧ some k_ ≠ (s_.2.2.2.1 : Value).ownBlock) s_.2.2.2.2.1 t477) ∧ (w'.heap[gb459]? = some (.cells #[.slice A1_0 l1_0.length c1_0, .int .i64 a1_1, .slice A1_2 l1_2.length c1_2, .int .i64 a1_3] 57 (0, 0))) ∧ (w'.heap[s_.2.2.2.2.2]? = some (.cells #[.slice none 0 0, .int .i64 0, .slice none 0 0, .int .i64 0] 60 (0, 0))) ∧ (w.heap.size ≤ s_.2.2.2.2.2) ∧ (w.heap.size ≤ s_.2.2.2.2.2) ∧ (gb459 ≠ s_.2.2.2.2.2) ∧ (s_.2.2.2.2.2 ≠ gb459) ∧ (Below w.heap.size w w')) ?_ ?_
     rotate_left
     ·intro hCont
      refine two_ (i := 1) (j := 6) (Ni := some 27) (Nj := some 8) #[true, true, true, false, true, false, false, false] #[true, false, true, false, true, false, true, false] rfl rfl rfl rfl (two_of HT_.out (by kernel_rfl)) (by decide) (by decide) (fun K hK => ?_) (fun K hK => ?_)
      ·skip
       refine S.go Try.func14 #[.slice A0 l0.length c0] ?_
       with_reducible refine (laws_toPathS.calls kj8 _ _ l0 t462 _ ?s1 ?s2 A13.out).mono ?_
       (case s1 => exact S.cA HR0.out)
       (case s2 => exact HC0.out)
       rintro e w22 ⟨v463, rfl, ho0, hb⟩
       refine ⟨_, rfl, ?_⟩
       have HO464 := S.lwG ho0
       replace BK459 := S.kb BK459 hb
       replace HB := S.sG hb
       (try clear hb)
       (try clear hb2)
       (try clear hk)
       (try clear hi)
       (try clear ho0)
       refine hK.out _ _ (S.e4 BK459.out) (fun hHeld => ?_)
       clear hK K
       refine S.nm 27 ?_
       refine two_ (i := 3) (j := 6) (Ni := some 29) (Nj := some 8) #[true, true, true, true, true, false, false, false] #[true, true, true, false, true, false, true, false] rfl rfl rfl rfl (two_of HT_.out (by kernel_rfl)) (by decide) (by decide) (fun K hK => ?_) (fun K hK => ?_)
       ·skip
        refine S.go Try.func35 #[.agg #[.slice A1_0 l1_0.length c1_0, .int .i64 a1_1, .slice A1_2 l1_2.length c1_2, .int .i64 a1_3]] ?_
        with_reducible refine (laws_toControl.calls kj8 _ _ l1_0 a1_1 _ _ l1_2 a1_3 t465 t468 t469 t472 _ ?s1 ?s2 ?s3 ?s4 A14.out).mono ?_
        (case s1 => exact S.cA HR1_0.out)
        (case s2 => exact HC1_0.out)
        (case s3 => exact S.cA HR1_2.out)
        (case s4 => exact HC1_2.out)
        rintro e w23 ⟨v466, v470, rfl, ho0, ho1, hb⟩
        refine ⟨_, rfl, ?_⟩
        replace HO464 := S.rb HO464 hb
        have HO467 := S.lwG ho0
        have HO471 := S.lwG ho1
        replace BK459 := S.kb BK459 hb
        replace HB := S.sG hb
        (try clear hb)
        (try clear hb2)
        (try clear hk)
        (try clear hi)
        (try clear ho0)
        (try clear ho1)
        obtain ⟨Ao24, co24, eo24⟩ := Kd.R_slice HO464.out
        (first | subst eo24 | (injection eo24 with f1_ f2_ f3_; have f4_ := f1_.symm; have f5_ := f3_.symm; clear f1_ f2_ f3_; subst f4_; subst f5_))
        obtain ⟨Ao25, co25, eo25⟩ := Kd.R_slice HO467.out
        (first | subst eo25 | (injection eo25 with f1_ f2_ f3_; have f4_ := f1_.symm; have f5_ := f3_.symm; clear f1_ f2_ f3_; subst f4_; subst f5_))
        obtain ⟨Ao26, co26, eo26⟩ := Kd.R_slice HO471.out
        (first | subst eo26 | (injection eo26 with f1_ f2_ f3_; have f4_ := f1_.symm; have f5_ := f3_.symm; clear f1_ f2_ f3_; subst f4_; subst f5_))
        refine hK.out _ _ (S.e4 BK459.out) (fun hHeld => ?_)
        clear hK K
        refine S.nm 29 ?_
        refine two_ (i := 5) (j := 6) (Ni := some 31) (Nj := some 8) #[true, true, true, true, true, true, false, false] #[true, true, true, true, true, false, true, false] rfl rfl rfl rfl (two_of HT_.out (by kernel_rfl)) (by decide) (by decide) (fun K hK => ?_) (fun K hK => ?_)
        ·skip
         refine S.go Try.func47 #[.slice Ao24 t462.length co24, .agg #[.slice Ao25 t465.length co25, .int .i64 t468, .slice Ao26 t469.length co26, .int .i64 t472], .int .i64 a2] ?_
         with_reducible refine (spec_StepSiren.calls kj8 _ _ t462 _ _ t465 t468 _ _ t469 t472 a2 t473 t476 t477 t480 _ ?s1 ?s2 ?s3 ?s4 ?s5 ?s6 A15.out).mono ?_
         (case s1 => exact S.rd HO464)
         (case s2 => exact S.rl HO464)
         (case s3 => exact S.rd HO467)
         (case s4 => exact S.rl HO467)
         (case s5 => exact S.rd HO471)
         (case s6 => exact S.rl HO471)
         rintro e w27 ⟨v474, v478, rfl, ho0, ho1, hb⟩
         refine ⟨_, rfl, ?_⟩
         replace HO464 := S.rb HO464 hb
         have HO475 := Aside0.mk (Kd.R_lower (Kd.R_new' (Kd.R_new' ho0 (Kd.R_lt (S.uR HO467.out))) (Kd.R_lt (S.uR HO471.out))) (below_size S.bG))
         have HO479 := Aside0.mk (Kd.R_lower (Kd.R_new' (Kd.R_new' ho1 (Kd.R_lt (S.uR HO467.out))) (Kd.R_lt (S.uR HO471.out))) (below_size S.bG))
         replace HO467 := Aside0.mk (Kd.R_mono (Kd.R_told (Kd.R_told (Kd.R_old (S.uR HO467.out) hb) (Kd.R_base ho0)) (Kd.R_base ho1)) (fun _ h_ => h_.1))
         replace HO471 := Aside0.mk (Kd.R_mono (Kd.R_told (Kd.R_told (Kd.R_old (S.uR HO471.out) hb) (Kd.R_base ho0)) (Kd.R_base ho1)) (fun _ h_ => h_.1))
         replace BK459 := S.kb BK459 hb
         replace HB := S.sG hb
         (try clear hb)
         (try clear hb2)
         (try clear hk)
         (try clear hi)
         (try clear ho0)
         (try clear ho1)
         refine hK.out _ _ (S.e4 BK459.out) (fun hHeld => ?_)
         clear hK K
         refine S.nm 31 ?_
         refine S.oN 6 8 #[true, true, true, true, true, true, true, false] (fun K hK => ?_)
         refine box_step ?hg (N := 8) ?hd (cs := #[.slice none 0 0, .int .i64 0, .slice none 0 0, .int .i64 0]) (t := 60) ?hr ?_; (case hd => rfl); (case hg => rfl); (case hr => first | (go_simp; done) | (go_simp; rfl))
         intro gb481 hg w28 hbox hb
         replace HO464 := S.rb HO464 hb
         replace HO467 := S.rb HO467 hb
         replace HO471 := S.rb HO471 hb
         replace HO475 := S.rb HO475 hb
         replace HO479 := S.rb HO479 hb
         have BK481 := Aside0.mk hbox
         have GW481 := S.geG hg
         have GE481 := S.geG hg
         replace HB := S.sG hb
         have NB459_481 := S.nl hg BK459
         have NB481_459 := S.ng hg BK459
         replace BK459 := S.kb BK459 hb
         clear hb hbox hg
         refine hK.out _ _ (S.e4 BK459.out) (fun hHeld => ?_)
         clear hK K
         refine S.nm 8 ?_
         exact norm_ (by simp only [putAll, Act.put, List.setIfInBounds_toArray, List.set_cons_zero, List.set_cons_succ]) (hCont (.slice Ao24 t462.length co24, .slice Ao25 t465.length co25, .slice Ao26 t469.length co26, v474, v478, gb481) _ ⟨hHeld, (S.uR HO464.out), (by (with_reducible repeat (first | apply Kd.R_alloc | apply Kd.R_drewN | apply Kd.R_drew)); exact Kd.R_mono HO467.out (fun _ hk => ⟨hk.1.1, ⟨hk.1.2, hk.2⟩⟩)), (by (with_reducible repeat (first | apply Kd.R_alloc | apply Kd.R_drewN | apply Kd.R_drew)); exact Kd.R_mono HO471.out (fun _ hk => ⟨hk.1.1, ⟨hk.1.2, hk.2⟩⟩)), (by (with_reducible repeat (first | apply Kd.R_alloc | apply Kd.R_drewN | apply Kd.R_drew)); exact Kd.R_mono HO475.out (fun _ hk => ⟨hk.1.2, ⟨hk.2, hk.1.1⟩⟩)), (by (with_reducible repeat (first | apply Kd.R_alloc | apply Kd.R_drewN | apply Kd.R_drew)); exact Kd.R_mono HO479.out (fun _ hk => ⟨hk.1.2, ⟨hk.2, hk.1.1⟩⟩)), (S.uB BK459.out), (S.uB BK481.out), GW481.out, GE481.out, NB459_481.out, NB481_459.out, S.bG⟩)
        ·skip
         refine box_step ?hg (N := 8) ?hd (cs := #[.slice none 0 0, .int .i64 0, .slice none 0 0, .int .i64 0]) (t := 60) ?hr ?_; (case hd => rfl); (case hg => rfl); (case hr => first | (go_simp; done) | (go_simp; rfl))
         intro gb481 hg w24 hbox hb
         replace HO464 := S.rb HO464 hb
         replace HO467 := S.rb HO467 hb
         replace HO471 := S.rb HO471 hb
         have BK481 := Aside0.mk hbox
         have GW481 := S.geG hg
         have GE481 := S.geG hg
         replace HB := S.sG hb
         have NB459_481 := S.nl hg BK459
         have NB481_459 := S.ng hg BK459
         replace BK459 := S.kb BK459 hb
         clear hb hbox hg
         obtain ⟨Ao25, co25, eo25⟩ := Kd.R_slice HO464.out
         (first | subst eo25 | (injection eo25 with f1_ f2_ f3_; have f4_ := f1_.symm; have f5_ := f3_.symm; clear f1_ f2_ f3_; subst f4_; subst f5_))
         obtain ⟨Ao26, co26, eo26⟩ := Kd.R_slice HO467.out
         (first | subst eo26 | (injection eo26 with f1_ f2_ f3_; have f4_ := f1_.symm; have f5_ := f3_.symm; clear f1_ f2_ f3_; subst f4_; subst f5_))
         obtain ⟨Ao27, co27, eo27⟩ := Kd.R_slice HO471.out
         (first | subst eo27 | (injection eo27 with f1_ f2_ f3_; have f4_ := f1_.symm; have f5_ := f3_.symm; clear f1_ f2_ f3_; subst f4_; subst f5_))
         refine hK.out _ _ (S.e4 BK459.out) (fun hHeld => ?_)
         clear hK K
         refine S.nm 8 ?_
         refine S.oN 5 31 #[true, true, true, true, true, true, true, false] (fun K hK => ?_)
         refine S.go Try.func47 #[.slice Ao25 t462.length co25, .agg #[.slice Ao26 t465.length co26, .int .i64 t468, .slice Ao27 t469.length co27, .int .i64 t472], .int .i64 a2] ?_
         with_reducible refine (spec_StepSiren.calls kj8 _ _ t462 _ _ t465 t468 _ _ t469 t472 a2 t473 t476 t477 t480 _ ?s1 ?s2 ?s3 ?s4 ?s5 ?s6 A15.out).mono ?_
         (case s1 => exact S.rd HO464)
         (case s2 => exact S.rl HO464)
         (case s3 => exact S.rd HO467)
         (case s4 => exact S.rl HO467)
         (case s5 => exact S.rd HO471)
         (case s6 => exact S.rl HO471)
         rintro e w28 ⟨v474, v478, rfl, ho0, ho1, hb⟩
         refine ⟨_, rfl, ?_⟩
         replace HO464 := S.rb HO464 hb
         have HO475 := Aside0.mk (Kd.R_lower (Kd.R_new' (Kd.R_new' ho0 (Kd.R_lt (S.uR HO467.out))) (Kd.R_lt (S.uR HO471.out))) (below_size S.bG))
         have HO479 := Aside0.mk (Kd.R_lower (Kd.R_new' (Kd.R_new' ho1 (Kd.R_lt (S.uR HO467.out))) (Kd.R_lt (S.uR HO471.out))) (below_size S.bG))
         replace HO467 := Aside0.mk (Kd.R_mono (Kd.R_told (Kd.R_told (Kd.R_old (S.uR HO467.out) hb) (Kd.R_base ho0)) (Kd.R_base ho1)) (fun _ h_ => h_.1))
         replace HO471 := Aside0.mk (Kd.R_mono (Kd.R_told (Kd.R_told (Kd.R_old (S.uR HO471.out) hb) (Kd.R_base ho0)) (Kd.R_base ho1)) (fun _ h_ => h_.1))
         replace BK459 := S.kb BK459 hb
         replace BK481 := S.kb BK481 hb
         replace HB := S.sG hb
         (try clear hb)
         (try clear hb2)
         (try clear hk)
         (try clear hi)
         (try clear ho0)
         (try clear ho1)
         refine hK.out _ _ (S.e4 BK459.out) (fun hHeld => ?_)
         clear hK K
         refine S.nm 31 ?_
         exact norm_ (by simp only [putAll, Act.put, List.setIfInBounds_toArray, List.set_cons_zero, List.set_cons_succ]) (hCont (.slice Ao25 t462.length co25, .slice Ao26 t465.length co26, .slice Ao27 t469.length co27, v474, v478, gb481) _ ⟨hHeld, (S.uR HO464.out), (by (with_reducible repeat (first | apply Kd.R_alloc | apply Kd.R_drewN | apply Kd.R_drew)); exact Kd.R_mono HO467.out (fun _ hk => ⟨hk.1.1, ⟨hk.1.2, hk.2⟩⟩)), (by (with_reducible repeat (first | apply Kd.R_alloc | apply Kd.R_drewN | apply Kd.R_drew)); exact Kd.R_mono HO471.out (fun _ hk => ⟨hk.1.1, ⟨hk.1.2, hk.2⟩⟩)), (by (with_reducible repeat (first | apply Kd.R_alloc | apply Kd.R_drewN | apply Kd.R_drew)); exact Kd.R_mono HO475.out (fun _ hk => ⟨hk.1.2, ⟨hk.2, hk.1.1⟩⟩)), (by (with_reducible repeat (first | apply Kd.R_alloc | apply Kd.R_drewN | apply Kd.R_drew)); exact Kd.R_mono HO479.out (fun _ hk => ⟨hk.1.2, ⟨hk.2, hk.1.1⟩⟩)), (S.uB BK459.out), (S.uB BK481.out), GW481.out, GE481.out, NB459_481.out, NB481_459.out, S.bG⟩)
       ·skip
        refine box_step ?hg (N := 8) ?hd (cs := #[.slice none 0 0, .int .i64 0, .slice none 0 0, .int .i64 0]) (t := 60) ?hr ?_; (case hd => rfl); (case hg => rfl); (case hr => first | (go_simp; done) | (go_simp; rfl))
        intro gb481 hg w23 hbox hb
        replace HO464 := S.rb HO464 hb
        have BK481 := Aside0.mk hbox
        have GW481 := S.geG hg
        have GE481 := S.geG hg
        replace HB := S.sG hb
        have NB459_481 := S.nl hg BK459
        have NB481_459 := S.ng hg BK459
        replace BK459 := S.kb BK459 hb
        clear hb hbox hg
        refine hK.out _ _ (S.e4 BK459.out) (fun hHeld => ?_)
        clear hK K
        refine S.nm 8 ?_
        refine S.oN 3 29 #[true, true, true, true, true, false, true, false] (fun K hK => ?_)
        refine S.go Try.func35 #[.agg #[.slice A1_0 l1_0.length c1_0, .int .i64 a1_1, .slice A1_2 l1_2.length c1_2, .int .i64 a1_3]] ?_
        with_reducible refine (laws_toControl.calls kj8 _ _ l1_0 a1_1 _ _ l1_2 a1_3 t465 t468 t469 t472 _ ?s1 ?s2 ?s3 ?s4 A14.out).mono ?_
        (case s1 => exact S.cA HR1_0.out)
        (case s2 => exact HC1_0.out)
        (case s3 => exact S.cA HR1_2.out)
        (case s4 => exact HC1_2.out)
        rintro e w24 ⟨v466, v470, rfl, ho0, ho1, hb⟩
        refine ⟨_, rfl, ?_⟩
        replace HO464 := S.rb HO464 hb
        have HO467 := S.lwG ho0
        have HO471 := S.lwG ho1
        replace BK459 := S.kb BK459 hb
        replace BK481 := S.kb BK481 hb
        replace HB := S.sG hb
        (try clear hb)
        (try clear hb2)
        (try clear hk)
        (try clear hi)
        (try clear ho0)
        (try clear ho1)
        obtain ⟨Ao25, co25, eo25⟩ := Kd.R_slice HO464.out
        (first | subst eo25 | (injection eo25 with f1_ f2_ f3_; have f4_ := f1_.symm; have f5_ := f3_.symm; clear f1_ f2_ f3_; subst f4_; subst f5_))
        obtain ⟨Ao26, co26, eo26⟩ := Kd.R_slice HO467.out
        (first | subst eo26 | (injection eo26 with f1_ f2_ f3_; have f4_ := f1_.symm; have f5_ := f3_.symm; clear f1_ f2_ f3_; subst f4_; subst f5_))
        obtain ⟨Ao27, co27, eo27⟩ := Kd.R_slice HO471.out
        (first | subst eo27 | (injection eo27 with f1_ f2_ f3_; have f4_ := f1_.symm; have f5_ := f3_.symm; clear f1_ f2_ f3_; subst f4_; subst f5_))
        refine hK.out _ _ (S.e4 BK459.out) (fun hHeld => ?_)
        clear hK K
        refine S.nm 29 ?_
        refine S.oN 5 31 #[true, true, true, true, true, true, true, false] (fun K hK => ?_)
        refine S.go Try.func47 #[.slice Ao25 t462.length co25, .agg #[.slice Ao26 t465.length co26, .int .i64 t468, .slice Ao27 t469.length co27, .int .i64 t472], .int .i64 a2] ?_
        with_reducible refine (spec_StepSiren.calls kj8 _ _ t462 _ _ t465 t468 _ _ t469 t472 a2 t473 t476 t477 t480 _ ?s1 ?s2 ?s3 ?s4 ?s5 ?s6 A15.out).mono ?_
        (case s1 => exact S.rd HO464)
        (case s2 => exact S.rl HO464)
        (case s3 => exact S.rd HO467)
        (case s4 => exact S.rl HO467)
        (case s5 => exact S.rd HO471)
        (case s6 => exact S.rl HO471)
        rintro e w28 ⟨v474, v478, rfl, ho0, ho1, hb⟩
        refine ⟨_, rfl, ?_⟩
        replace HO464 := S.rb HO464 hb
        have HO475 := Aside0.mk (Kd.R_lower (Kd.R_new' (Kd.R_new' ho0 (Kd.R_lt (S.uR HO467.out))) (Kd.R_lt (S.uR HO471.out))) (below_size S.bG))
        have HO479 := Aside0.mk (Kd.R_lower (Kd.R_new' (Kd.R_new' ho1 (Kd.R_lt (S.uR HO467.out))) (Kd.R_lt (S.uR HO471.out))) (below_size S.bG))
        replace HO467 := Aside0.mk (Kd.R_mono (Kd.R_told (Kd.R_told (Kd.R_old (S.uR HO467.out) hb) (Kd.R_base ho0)) (Kd.R_base ho1)) (fun _ h_ => h_.1))
        replace HO471 := Aside0.mk (Kd.R_mono (Kd.R_told (Kd.R_told (Kd.R_old (S.uR HO471.out) hb) (Kd.R_base ho0)) (Kd.R_base ho1)) (fun _ h_ => h_.1))
        replace BK459 := S.kb BK459 hb
        replace BK481 := S.kb BK481 hb
        replace HB := S.sG hb
        (try clear hb)
        (try clear hb2)
        (try clear hk)
        (try clear hi)
        (try clear ho0)
        (try clear ho1)
        refine hK.out _ _ (S.e4 BK459.out) (fun hHeld => ?_)
        clear hK K
        refine S.nm 31 ?_
        exact norm_ (by simp only [putAll, Act.put, List.setIfInBounds_toArray, List.set_cons_zero, List.set_cons_succ]) (hCont (.slice Ao25 t462.length co25, .slice Ao26 t465.length co26, .slice Ao27 t469.length co27, v474, v478, gb481) _ ⟨hHeld, (S.uR HO464.out), (by (with_reducible repeat (first | apply Kd.R_alloc | apply Kd.R_drewN | apply Kd.R_drew)); exact Kd.R_mono HO467.out (fun _ hk => ⟨hk.1.1, ⟨hk.1.2, hk.2⟩⟩)), (by (with_reducible repeat (first | apply Kd.R_alloc | apply Kd.R_drewN | apply Kd.R_drew)); exact Kd.R_mono HO471.out (fun _ hk => ⟨hk.1.1, ⟨hk.1.2, hk.2⟩⟩)), (by (with_reducible repeat (first | apply Kd.R_alloc | apply Kd.R_drewN | apply Kd.R_drew)); exact Kd.R_mono HO475.out (fun _ hk => ⟨hk.1.2, ⟨hk.2, hk.1.1⟩⟩)), (by (with_reducible repeat (first | apply Kd.R_alloc | apply Kd.R_drewN | apply Kd.R_drew)); exact Kd.R_mono HO479.out (fun _ hk => ⟨hk.1.2, ⟨hk.2, hk.1.1⟩⟩)), (S.uB BK459.out), (S.uB BK481.out), GW481.out, GE481.out, NB459_481.out, NB481_459.out, S.bG⟩)
      ·skip
       refine box_step ?hg (N := 8) ?hd (cs := #[.slice none 0 0, .int .i64 0, .slice none 0 0, .int .i64 0]) (t := 60) ?hr ?_; (case hd => rfl); (case hg => rfl); (case hr => first | (go_simp; done) | (go_simp; rfl))
       intro gb481 hg w22 hbox hb
       have BK481 := Aside0.mk hbox
       have GW481 := S.geG hg
       have GE481 := S.geG hg
       replace HB := S.sG hb
       have NB459_481 := S.nl hg BK459
       have NB481_459 := S.ng hg BK459
       replace BK459 := S.kb BK459 hb
       clear hb hbox hg
       refine hK.out _ _ (S.e4 BK459.out) (fun hHeld => ?_)
       clear hK K
       refine S.nm 8 ?_
       refine S.oN 1 27 #[true, true, true, false, true, false, true, false] (fun K hK => ?_)
       refine S.go Try.func14 #[.slice A0 l0.length c0] ?_
       with_reducible refine (laws_toPathS.calls kj8 _ _ l0 t462 _ ?s1 ?s2 A13.out).mono ?_
       (case s1 => exact S.cA HR0.out)
       (case s2 => exact HC0.out)
       rintro e w23 ⟨v463, rfl, ho0, hb⟩
       refine ⟨_, rfl, ?_⟩
       have HO464 := S.lwG ho0
       replace BK459 := S.kb BK459 hb
       replace BK481 := S.kb BK481 hb
       replace HB := S.sG hb
       (try clear hb)
       (try clear hb2)
       (try clear hk)
       (try clear hi)
       (try clear ho0)
       refine hK.out _ _ (S.e4 BK459.out) (fun hHeld => ?_)
       clear hK K
       refine S.nm 27 ?_
       refine S.oN 3 29 #[true, true, true, true, true, false, true, false] (fun K hK => ?_)
       refine S.go Try.func35 #[.agg #[.slice A1_0 l1_0.length c1_0, .int .i64 a1_1, .slice A1_2 l1_2.length c1_2, .int .i64 a1_3]] ?_
       with_reducible refine (laws_toControl.calls kj8 _ _ l1_0 a1_1 _ _ l1_2 a1_3 t465 t468 t469 t472 _ ?s1 ?s2 ?s3 ?s4 A14.out).mono ?_
       (case s1 => exact S.cA HR1_0.out)
       (case s2 => exact HC1_0.out)
       (case s3 => exact S.cA HR1_2.out)
       (case s4 => exact HC1_2.out)
       rintro e w24 ⟨v466, v470, rfl, ho0, ho1, hb⟩
       refine ⟨_, rfl, ?_⟩
       replace HO464 := S.rb HO464 hb
       have HO467 := S.lwG ho0
       have HO471 := S.lwG ho1
       replace BK459 := S.kb BK459 hb
       replace BK481 := S.kb BK481 hb
       replace HB := S.sG hb
       (try clear hb)
       (try clear hb2)
       (try clear hk)
       (try clear hi)
       (try clear ho0)
       (try clear ho1)
       obtain ⟨Ao25, co25, eo25⟩ := Kd.R_slice HO464.out
       (first | subst eo25 | (injection eo25 with f1_ f2_ f3_; have f4_ := f1_.symm; have f5_ := f3_.symm; clear f1_ f2_ f3_; subst f4_; subst f5_))
       obtain ⟨Ao26, co26, eo26⟩ := Kd.R_slice HO467.out
       (first | subst eo26 | (injection eo26 with f1_ f2_ f3_; have f4_ := f1_.symm; have f5_ := f3_.symm; clear f1_ f2_ f3_; subst f4_; subst f5_))
       obtain ⟨Ao27, co27, eo27⟩ := Kd.R_slice HO471.out
       (first | subst eo27 | (injection eo27 with f1_ f2_ f3_; have f4_ := f1_.symm; have f5_ := f3_.symm; clear f1_ f2_ f3_; subst f4_; subst f5_))
       refine hK.out _ _ (S.e4 BK459.out) (fun hHeld => ?_)
       clear hK K
       refine S.nm 29 ?_
       refine S.oN 5 31 #[true, true, true, true, true, true, true, false] (fun K hK => ?_)
       refine S.go Try.func47 #[.slice Ao25 t462.length co25, .agg #[.slice Ao26 t465.length co26, .int .i64 t468, .slice Ao27 t469.length co27, .int .i64 t472], .int .i64 a2] ?_
       with_reducible refine (spec_StepSiren.calls kj8 _ _ t462 _ _ t465 t468 _ _ t469 t472 a2 t473 t476 t477 t480 _ ?s1 ?s2 ?s3 ?s4 ?s5 ?s6 A15.out).mono ?_
       (case s1 => exact S.rd HO464)
       (case s2 => exact S.rl HO464)
       (case s3 => exact S.rd HO467)
       (case s4 => exact S.rl HO467)
       (case s5 => exact S.rd HO471)
       (case s6 => exact S.rl HO471)
       rintro e w28 ⟨v474, v478, rfl, ho0, ho1, hb⟩
       refine ⟨_, rfl, ?_⟩
       replace HO464 := S.rb HO464 hb
       have HO475 := Aside0.mk (Kd.R_lower (Kd.R_new' (Kd.R_new' ho0 (Kd.R_lt (S.uR HO467.out))) (Kd.R_lt (S.uR HO471.out))) (below_size S.bG))
       have HO479 := Aside0.mk (Kd.R_lower (Kd.R_new' (Kd.R_new' ho1 (Kd.R_lt (S.uR HO467.out))) (Kd.R_lt (S.uR HO471.out))) (below_size S.bG))
       replace HO467 := Aside0.mk (Kd.R_mono (Kd.R_told (Kd.R_told (Kd.R_old (S.uR HO467.out) hb) (Kd.R_base ho0)) (Kd.R_base ho1)) (fun _ h_ => h_.1))
       replace HO471 := Aside0.mk (Kd.R_mono (Kd.R_told (Kd.R_told (Kd.R_old (S.uR HO471.out) hb) (Kd.R_base ho0)) (Kd.R_base ho1)) (fun _ h_ => h_.1))
       replace BK459 := S.kb BK459 hb
       replace BK481 := S.kb BK481 hb
       replace HB := S.sG hb
       (try clear hb)
       (try clear hb2)
       (try clear hk)
       (try clear hi)
       (try clear ho0)
       (try clear ho1)
       refine hK.out _ _ (S.e4 BK459.out) (fun hHeld => ?_)
       clear hK K
       refine S.nm 31 ?_
       exact norm_ (by simp only [putAll, Act.put, List.setIfInBounds_toArray, List.set_cons_zero, List.set_cons_succ]) (hCont (.slice Ao25 t462.length co25, .slice Ao26 t465.length co26, .slice Ao27 t469.length co27, v474, v478, gb481) _ ⟨hHeld, (S.uR HO464.out), (by (with_reducible repeat (first | apply Kd.R_alloc | apply Kd.R_drewN | apply Kd.R_drew)); exact Kd.R_mono HO467.out (fun _ hk => ⟨hk.1.1, ⟨hk.1.2, hk.2⟩⟩)), (by (with_reducible repeat (first | apply Kd.R_alloc | apply Kd.R_drewN | apply Kd.R_drew)); exact Kd.R_mono HO471.out (fun _ hk => ⟨hk.1.1, ⟨hk.1.2, hk.2⟩⟩)), (by (with_reducible repeat (first | apply Kd.R_alloc | apply Kd.R_drewN | apply Kd.R_drew)); exact Kd.R_mono HO475.out (fun _ hk => ⟨hk.1.2, ⟨hk.2, hk.1.1⟩⟩)), (by (with_reducible repeat (first | apply Kd.R_alloc | apply Kd.R_drewN | apply Kd.R_drew)); exact Kd.R_mono HO479.out (fun _ hk => ⟨hk.1.2, ⟨hk.2, hk.1.1⟩⟩)), (S.uB BK459.out), (S.uB BK481.out), GW481.out, GE481.out, NB459_481.out, NB481_459.out, S.bG⟩)
     rintro ⟨v463, v466, v470, v474, v478, gb481⟩ w29 ⟨hS_, h0_, h1_, h2_, h3_, h4_, h5_, h6_, h7_, h8_, h9_, h10_, h11_⟩
     have n0_ : Aside0 (Kd.R k52 52 w29 w.heap.size (fun _ => True) v463 t462) := ⟨h0_⟩
     have n1_ : Aside0 (Kd.R (Kd.int .i64) 3 w29 w.heap.size (fun k_ => S.N k_ v470 ∧ S.N k_ v474 ∧ S.N k_ v478) v466 t465) := ⟨h1_⟩
     have n2_ : Aside0 (Kd.R (Kd.int .i64) 3 w29 w.heap.size (fun k_ => S.N k_ v466 ∧ S.N k_ v474 ∧ S.N k_ v478) v470 t469) := ⟨h2_⟩
     have n3_ : Aside0 (Kd.R (Kd.int .i64) 3 w29 w.heap.size (fun k_ => S.N k_ v466 ∧ S.N k_ v470 ∧ S.N k_ v478) v474 t473) := ⟨h3_⟩
     have n4_ : Aside0 (Kd.R (Kd.int .i64) 3 w29 w.heap.size (fun k_ => S.N k_ v466 ∧ S.N k_ v470 ∧ S.N k_ v474) v478 t477) := ⟨h4_⟩
     have n5_ : Aside0 (w29.heap[gb459]? = some (.cells #[.slice A1_0 l1_0.length c1_0, .int .i64 a1_1, .slice A1_2 l1_2.length c1_2, .int .i64 a1_3] 57 (0, 0))) := ⟨h5_⟩
     have n6_ : Aside0 (w29.heap[gb481]? = some (.cells #[.slice none 0 0, .int .i64 0, .slice none 0 0, .int .i64 0] 60 (0, 0))) := ⟨h6_⟩
     have n7_ : Aside0 (w.heap.size ≤ gb481) := ⟨h7_⟩
     have n8_ : Aside0 (w.heap.size ≤ gb481) := ⟨h8_⟩
     have n9_ : Aside0 (gb459 ≠ gb481) := ⟨h9_⟩
     have n10_ : Aside0 (gb481 ≠ gb459) := ⟨h10_⟩
     have n11_ : Aside0 (Below w.heap.size w w29) := ⟨h11_⟩
     clear BK459
     clear HB
     clear h0_ h1_ h2_ h3_ h4_ h5_ h6_ h7_ h8_ h9_ h10_ h11_
     have HO464 := n0_
     have HO467 := n1_
     have HO471 := n2_
     have HO475 := n3_
     have HO479 := n4_
     have BK459 := n5_
     have BK481 := n6_
     have GW481 := n7_
     have GE481 := n8_
     have NB459_481 := n9_
     have NB481_459 := n10_
     have HB := n11_
     clear n0_ n1_ n2_ n3_ n4_ n5_ n6_ n7_ n8_ n9_ n10_ n11_
     have hHeld : w29.cell? ⟨gb459, 0, none⟩ = some (.slice A1_0 l1_0.length c1_0) ∧ w29.cell? ⟨gb459, 1, none⟩ = some (.int .i64 a1_1) ∧ w29.cell? ⟨gb459, 2, none⟩ = some (.slice A1_2 l1_2.length c1_2) ∧ w29.cell? ⟨gb459, 3, none⟩ = some (.int .i64 a1_3) := hS_
     obtain ⟨Ao30, co30, eo30⟩ := Kd.R_slice HO475.out
     (first | subst eo30 | (injection eo30 with f1_ f2_ f3_; have f4_ := f1_.symm; have f5_ := f3_.symm; clear f1_ f2_ f3_; subst f4_; subst f5_))
     obtain ⟨Ao33, co33, eo33⟩ := Kd.R_slice HO479.out
     (first | subst eo33 | (injection eo33 with f1_ f2_ f3_; have f4_ := f1_.symm; have f5_ := f3_.symm; clear f1_ f2_ f3_; subst f4_; subst f5_))
     refine norm_ (a' := ?_) ?_ ?_
     rotate_left
     ·simp only [putAll, Act.put, List.setIfInBounds_toArray, List.set_cons_zero, List.set_cons_succ]
      rfl
     refine one_ (i := 7) (N := none) #[true, true, true, true, true, true, true, true] rfl rfl (one_of HT_.out (by kernel_rfl)) (by decide) (fun K hK => ?_)
     have hs31 : w29.cell? ⟨gb481, 0, none⟩ = some (.slice none 0 0) := (blk_cell BK481.out 0).trans rfl
     have hfs31 := blk_frozen BK481.out 0
     have hns31_0 := NB459_481.out
     have hms31_0 := NB481_459.out
     have hs32 : w29.cell? ⟨gb481, 1, none⟩ = some (.int .i64 0) := (blk_cell BK481.out 1).trans rfl
     have hfs32 := blk_frozen BK481.out 1
     have hns32_0 := NB459_481.out
     have hms32_0 := NB481_459.out
     have hs34 : w29.cell? ⟨gb481, 2, none⟩ = some (.slice none 0 0) := (blk_cell BK481.out 2).trans rfl
     have hfs34 := blk_frozen BK481.out 2
     have hns34_0 := NB459_481.out
     have hms34_0 := NB481_459.out
     have hs35 : w29.cell? ⟨gb481, 3, none⟩ = some (.int .i64 0) := (blk_cell BK481.out 3).trans rfl
     have hfs35 := blk_frozen BK481.out 3
     have hns35_0 := NB459_481.out
     have hms35_0 := NB481_459.out
     refine skip_ (w1 := ?_) (by rfl) rfl ?_ ?_
     rotate_left
     ·go_simp
      rfl
     refine hK.out _ _ ⟨((cell_far (p := ⟨gb481, _, none⟩) NB459_481.out _).trans (((cell_far (p := ⟨gb481, _, none⟩) NB459_481.out _).trans (((cell_far (p := ⟨gb481, _, none⟩) NB459_481.out _).trans (((cell_far (p := ⟨gb481, _, none⟩) NB459_481.out _).trans (hHeld.1)))))))), ((cell_far (p := ⟨gb481, _, none⟩) NB459_481.out _).trans (((cell_far (p := ⟨gb481, _, none⟩) NB459_481.out _).trans (((cell_far (p := ⟨gb481, _, none⟩) NB459_481.out _).trans (((cell_far (p := ⟨gb481, _, none⟩) NB459_481.out _).trans (hHeld.2.1)))))))), ((cell_far (p := ⟨gb481, _, none⟩) NB459_481.out _).trans (((cell_far (p := ⟨gb481, _, none⟩) NB459_481.out _).trans (((cell_far (p := ⟨gb481, _, none⟩) NB459_481.out _).trans (((cell_far (p := ⟨gb481, _, none⟩) NB459_481.out _).trans (hHeld.2.2.1)))))))), ((cell_far (p := ⟨gb481, _, none⟩) NB459_481.out _).trans (((cell_far (p := ⟨gb481, _, none⟩) NB459_481.out _).trans (((cell_far (p := ⟨gb481, _, none⟩) NB459_481.out _).trans (((cell_far (p := ⟨gb481, _, none⟩) NB459_481.out _).trans (hHeld.2.2.2))))))))⟩ (fun hHeld => ?_)
     clear hK K
     refine done_ (done_of HT_.out (by kernel_rfl)) ?_
     go_upto_if 43 with (first | ((with_reducible refine gate_callee (f := 14) rfl ?_); refine S.gL (some 33) Try.func14 #[.slice A0 l0.length c0] ?_; (with_reducible refine (laws_toPathS.calls kj8 _ _ l0 t482 _ ?s1 HC0.out A16.out).mono ?_); (case s1 => exact Kd.C_below HR0.out S.bG); rintro e w36 ⟨v483, rfl, ho0, hb⟩; refine ⟨_, rfl, ?_⟩; replace HO467 := Aside0.mk (Kd.R_below (S.G4 HO467 BK481) hb); replace HO471 := Aside0.mk (Kd.R_below (S.G4 HO471 BK481) hb); replace HO475 := Aside0.mk (Kd.R_below (S.G4 HO475 BK481) hb); replace HO479 := Aside0.mk (Kd.R_below (S.G4 HO479 BK481) hb); have HO484 := Aside0.mk (Kd.R_lower (Kd.R_new' ho0 (Kd.R_lt (S.G4 HO464 BK481))) (below_size S.bG)); replace HO464 := Aside0.mk (Kd.R_elder' (S.G4 HO464 BK481) (Kd.R_base ho0) hb); replace BK459 := S.kf BK459 NB459_481 hb; replace BK481 := S.kp4 BK481 hb; replace HB := S.sG hb; (try clear hb); (try clear ho0); have hnb37 := NB459_481.out; have hnc37 := NB481_459.out; obtain ⟨Z38a, Z38b, Z38c, Z38d, Y38a, Y38b, Y38c, Y38d⟩ := S.c4 BK459.out) | ((with_reducible refine gate_callee (f := 35) rfl ?_); refine S.gL (some 35) Try.func35 #[.agg #[.slice A1_0 l1_0.length c1_0, .int .i64 a1_1, .slice A1_2 l1_2.length c1_2, .int .i64 a1_3]] ?_; (with_reducible refine (laws_toControl.calls kj8 _ _ l1_0 a1_1 _ _ l1_2 a1_3 t485 t488 t489 t492 _ ?s1 HC1_0.out ?s3 HC1_2.out A17.out).mono ?_); (case s1 => exact S.cA HR1_0.out); (case s3 => exact S.cA HR1_2.out); rintro e w39 ⟨v486, v490, rfl, ho0, ho1, hb⟩; refine ⟨_, rfl, ?_⟩; replace HO464 := S.rb HO464 hb; replace HO484 := S.rb HO484 hb; have HO487 := Aside0.mk (Kd.R_lower (Kd.R_new' (Kd.R_new' (Kd.R_new' (Kd.R_new' ho0 (Kd.R_lt (S.uR HO467.out))) (Kd.R_lt (S.uR HO471.out))) (Kd.R_lt (S.uR HO475.out))) (Kd.R_lt (S.uR HO479.out))) (below_size S.bG)); have HO491 := Aside0.mk (Kd.R_lower (Kd.R_new' (Kd.R_new' (Kd.R_new' (Kd.R_new' ho1 (Kd.R_lt (S.uR HO467.out))) (Kd.R_lt (S.uR HO471.out))) (Kd.R_lt (S.uR HO475.out))) (Kd.R_lt (S.uR HO479.out))) (below_size S.bG)); replace HO467 := Aside0.mk (Kd.R_mono (Kd.R_told (Kd.R_told (Kd.R_old (S.uR HO467.out) hb) (Kd.R_base ho0)) (Kd.R_base ho1)) (fun _ h_ => h_.1)); replace HO471 := Aside0.mk (Kd.R_mono (Kd.R_told (Kd.R_told (Kd.R_old (S.uR HO471.out) hb) (Kd.R_base ho0)) (Kd.R_base ho1)) (fun _ h_ => h_.1)); replace HO475 := Aside0.mk (Kd.R_mono (Kd.R_told (Kd.R_told (Kd.R_old (S.uR HO475.out) hb) (Kd.R_base ho0)) (Kd.R_base ho1)) (fun _ h_ => h_.1)); replace HO479 := Aside0.mk (Kd.R_mono (Kd.R_told (Kd.R_told (Kd.R_old (S.uR HO479.out) hb) (Kd.R_base ho0)) (Kd.R_base ho1)) (fun _ h_ => h_.1)); replace BK459 := S.kb BK459 hb; replace BK481 := S.kb BK481 hb; replace HB := S.sG hb; (try clear hb); (try clear ho0); (try clear ho1)) | ((with_reducible refine gate_dst (N := 10) rfl ?_); refine S.bx 10 (cs := #[.slice none 0 0, .int .i64 0, .slice none 0 0, .int .i64 0]) (t := 60) ?_; intro gb493 hg w40 hbox hb; replace HO464 := S.rb HO464 hb; replace HO467 := S.rb HO467 hb; replace HO471 := S.rb HO471 hb; replace HO475 := S.rb HO475 hb; replace HO479 := S.rb HO479 hb; replace HO484 := S.rb HO484 hb; replace HO487 := S.rb HO487 hb; replace HO491 := S.rb HO491 hb; have BK493 := Aside0.mk hbox; have GW493 := S.geG hg; have GE493 := S.geG hg; replace HB := S.sG hb; have NB459_493 := S.nl hg BK459; have NB493_459 := S.ng hg BK459; replace BK459 := S.kb BK459 hb; have NB481_493 := S.nl hg BK481; have NB493_481 := S.ng hg BK481; replace BK481 := S.kb BK481 hb; clear hb hbox hg; obtain ⟨Ao41, co41, eo41⟩ := Kd.R_slice HO487.out; subst eo41; have hnb42 := NB493_459.out; have hnc42 := NB459_493.out; have hnb43 := NB493_481.out; have hnc43 := NB481_493.out; obtain ⟨Z44a, Z44b, Z44c, Z44d, Y44a, Y44b, Y44c, Y44d⟩ := S.c4 BK493.out; obtain ⟨Ao45, co45, eo45⟩ := Kd.R_slice HO491.out; subst eo45; obtain ⟨Ao46, co46, eo46⟩ := Kd.R_slice HO484.out; subst eo46) | ((with_reducible refine gate_callee (f := 48) rfl ?_); refine S.gL (some 39) Try.func48 #[.slice Ao46 t482.length co46, .agg #[.slice Ao41 t485.length co41, .int .i64 t488, .slice Ao45 t489.length co45, .int .i64 t492], .int .i64 a2] ?_; (with_reducible refine (impl_StepSiren.calls kj8 _ _ t482 _ _ t485 t488 _ _ t489 t492 a2 t494 t497 t498 t501 _ ?s1 (S.rl HO484) ?s3 (S.rl HO487) ?s5 (S.rl HO491) A18.out).mono ?_); (case s1 => exact S.rc4 HO484 BK493); (case s3 => exact S.rc4 HO487 BK493); (case s5 => exact S.rc4 HO491 BK493); rintro e w47 ⟨v495, v499, rfl, ho0, ho1, hb⟩; refine ⟨_, rfl, ?_⟩; replace HO464 := Aside0.mk (Kd.R_below (S.G4 HO464 BK493) hb); replace HO484 := Aside0.mk (Kd.R_below (S.G4 HO484 BK493) hb); have HO496 := Aside0.mk (Kd.R_lower (Kd.R_new' (Kd.R_new' (Kd.R_new' (Kd.R_new' (Kd.R_new' (Kd.R_new' ho0 (Kd.R_lt (S.G4 HO467 BK493))) (Kd.R_lt (S.G4 HO471 BK493))) (Kd.R_lt (S.G4 HO475 BK493))) (Kd.R_lt (S.G4 HO479 BK493))) (Kd.R_lt (S.G4 HO487 BK493))) (Kd.R_lt (S.G4 HO491 BK493))) (below_size S.bG)); have HO500 := Aside0.mk (Kd.R_lower (Kd.R_new' (Kd.R_new' (Kd.R_new' (Kd.R_new' (Kd.R_new' (Kd.R_new' ho1 (Kd.R_lt (S.G4 HO467 BK493))) (Kd.R_lt (S.G4 HO471 BK493))) (Kd.R_lt (S.G4 HO475 BK493))) (Kd.R_lt (S.G4 HO479 BK493))) (Kd.R_lt (S.G4 HO487 BK493))) (Kd.R_lt (S.G4 HO491 BK493))) (below_size S.bG)); replace HO467 := Aside0.mk (Kd.R_mono (Kd.R_told (Kd.R_told (Kd.R_old (S.G4 HO467 BK493) hb) (Kd.R_base ho0)) (Kd.R_base ho1)) (fun _ h_ => h_.1)); replace HO471 := Aside0.mk (Kd.R_mono (Kd.R_told (Kd.R_told (Kd.R_old (S.G4 HO471 BK493) hb) (Kd.R_base ho0)) (Kd.R_base ho1)) (fun _ h_ => h_.1)); replace HO475 := Aside0.mk (Kd.R_mono (Kd.R_told (Kd.R_told (Kd.R_old (S.G4 HO475 BK493) hb) (Kd.R_base ho0)) (Kd.R_base ho1)) (fun _ h_ => h_.1)); replace HO479 := Aside0.mk (Kd.R_mono (Kd.R_told (Kd.R_told (Kd.R_old (S.G4 HO479 BK493) hb) (Kd.R_base ho0)) (Kd.R_base ho1)) (fun _ h_ => h_.1)); replace HO487 := Aside0.mk (Kd.R_mono (Kd.R_told (Kd.R_told (Kd.R_old (S.G4 HO487 BK493) hb) (Kd.R_base ho0)) (Kd.R_base ho1)) (fun _ h_ => h_.1)); replace HO491 := Aside0.mk (Kd.R_mono (Kd.R_told (Kd.R_told (Kd.R_old (S.G4 HO491 BK493) hb) (Kd.R_base ho0)) (Kd.R_base ho1)) (fun _ h_ => h_.1)); replace BK459 := S.kf BK459 NB459_493 hb; replace BK481 := S.kf BK481 NB481_493 hb; replace BK493 := S.kp4 BK493 hb; replace HB := S.sG hb; (try clear hb); (try clear ho0); (try clear ho1)) | ((with_reducible refine gate_dst (N := 11) rfl ?_); refine S.bx 11 (cs := #[.slice none 0 0, .int .i64 0, .slice none 0 0, .int .i64 0]) (t := 60) ?_; intro gb502 hg w48 hbox hb; replace HO464 := S.rb HO464 hb; replace HO467 := S.rb HO467 hb; replace HO471 := S.rb HO471 hb; replace HO475 := S.rb HO475 hb; replace HO479 := S.rb HO479 hb; replace HO484 := S.rb HO484 hb; replace HO487 := S.rb HO487 hb; replace HO491 := S.rb HO491 hb; replace HO496 := S.rb HO496 hb; replace HO500 := S.rb HO500 hb; have BK502 := Aside0.mk hbox; have GW502 := S.geG hg; have GE502 := S.geG hg; replace HB := S.sG hb; have NB459_502 := S.nl hg BK459; have NB502_459 := S.ng hg BK459; replace BK459 := S.kb BK459 hb; have NB481_502 := S.nl hg BK481; have NB502_481 := S.ng hg BK481; replace BK481 := S.kb BK481 hb; have NB493_502 := S.nl hg BK493; have NB502_493 := S.ng hg BK493; replace BK493 := S.kb BK493 hb; clear hb hbox hg; obtain ⟨Ao49, co49, eo49⟩ := Kd.R_slice HO496.out; subst eo49; have hnb50 := NB502_459.out; have hnc50 := NB459_502.out; have hnb51 := NB502_481.out; have hnc51 := NB481_502.out; have hnb52 := NB502_493.out; have hnc52 := NB493_502.out; obtain ⟨Z53a, Z53b, Z53c, Z53d, Y53a, Y53b, Y53c, Y53d⟩ := S.c4 BK502.out; obtain ⟨Ao54, co54, eo54⟩ := Kd.R_slice HO500.out; subst eo54; obtain ⟨Z55a, Z55b, Z55c, Z55d, Y55a, Y55b, Y55c, Y55d⟩ := S.c4 BK481.out) | ((with_reducible refine gate_callee (f := 37) rfl ?_); refine S.gL (some 42) Try.func37 #[.agg #[.slice Ao49 t494.length co49, .int .i64 t497, .slice Ao54 t498.length co54, .int .i64 t501], .agg #[.slice Ao30 t473.length co30, .int .i64 t476, .slice Ao33 t477.length co33, .int .i64 t480]] ?_; (with_reducible refine (laws_eqControl.calls kj8 _ _ t494 t497 _ _ t498 t501 _ _ t473 t476 _ _ t477 t480 t503 _ ?s1 (S.rl HO496) ?s3 (S.rl HO500) ?s5 (S.rl HO475) ?s7 (S.rl HO479) A19.out).mono ?_); (case s1 => refine (Kd.R_reads' (e := 3) (base := w.heap.size) (ok := fun k_ => ((((((S.N k_ (.slice Ao54 t498.length co54) ∧ S.N k_ v466) ∧ S.N k_ v470) ∧ S.N k_ (.slice Ao30 t473.length co30)) ∧ S.N k_ (.slice Ao33 t477.length co33)) ∧ S.N k_ (.slice Ao41 t485.length co41)) ∧ S.N k_ (.slice Ao45 t489.length co45))) (n := t494.length) (c := co49) ?_).2.2; exact (S.G4 HO496 BK502)); (case s3 => refine (Kd.R_reads' (e := 3) (base := w.heap.size) (ok := fun k_ => ((((((S.N k_ (.slice Ao49 t494.length co49) ∧ S.N k_ v466) ∧ S.N k_ v470) ∧ S.N k_ (.slice Ao30 t473.length co30)) ∧ S.N k_ (.slice Ao33 t477.length co33)) ∧ S.N k_ (.slice Ao41 t485.length co41)) ∧ S.N k_ (.slice Ao45 t489.length co45))) (n := t498.length) (c := co54) ?_).2.2; exact (S.G4 HO500 BK502)); (case s5 => refine (Kd.R_reads' (e := 3) (base := w.heap.size) (ok := fun k_ => (((((S.N k_ v466 ∧ (S.N k_ v470 ∧ S.N k_ (.slice Ao33 t477.length co33))) ∧ S.N k_ (.slice Ao41 t485.length co41)) ∧ S.N k_ (.slice Ao45 t489.length co45)) ∧ S.N k_ (.slice Ao49 t494.length co49)) ∧ S.N k_ (.slice Ao54 t498.length co54))) (n := t473.length) (c := co30) ?_).2.2; exact (S.G4 HO475 BK502)); (case s7 => refine (Kd.R_reads' (e := 3) (base := w.heap.size) (ok := fun k_ => (((((S.N k_ v466 ∧ (S.N k_ v470 ∧ S.N k_ (.slice Ao30 t473.length co30))) ∧ S.N k_ (.slice Ao41 t485.length co41)) ∧ S.N k_ (.slice Ao45 t489.length co45)) ∧ S.N k_ (.slice Ao49 t494.length co49)) ∧ S.N k_ (.slice Ao54 t498.length co54))) (n := t477.length) (c := co33) ?_).2.2; exact (S.G4 HO479 BK502)); rintro e w56 ⟨rfl, hb⟩; refine ⟨_, rfl, ?_⟩; replace HO464 := Aside0.mk (Kd.R_below (S.G4 HO464 BK502) hb); replace HO467 := Aside0.mk (Kd.R_below (S.G4 HO467 BK502) hb); replace HO471 := Aside0.mk (Kd.R_below (S.G4 HO471 BK502) hb); replace HO475 := Aside0.mk (Kd.R_below (S.G4 HO475 BK502) hb); replace HO479 := Aside0.mk (Kd.R_below (S.G4 HO479 BK502) hb); replace HO484 := Aside0.mk (Kd.R_below (S.G4 HO484 BK502) hb); replace HO487 := Aside0.mk (Kd.R_below (S.G4 HO487 BK502) hb); replace HO491 := Aside0.mk (Kd.R_below (S.G4 HO491 BK502) hb); replace HO496 := Aside0.mk (Kd.R_below (S.G4 HO496 BK502) hb); replace HO500 := Aside0.mk (Kd.R_below (S.G4 HO500 BK502) hb); replace BK459 := S.kf BK459 NB459_502 hb; replace BK481 := S.kf BK481 NB481_502 hb; replace BK493 := S.kf BK493 NB493_502 hb; replace BK502 := S.kp4 BK502 hb; replace HB := S.sG hb; (try clear hb)))
     (try simp only [Act.put, List.setIfInBounds_toArray, List.set_cons_zero, List.set_cons_succ])
     go_cut [] (fun wc => ∃ (kq : Nat), Aside0 (laws_FnExactStepSiren.j2 kq l0 a2 t482 l1_0 a1_1 l1_2 a1_3 t473 t476 t477 t480 t485 t488 t489 t492 t494 t497 t498 t501 = some r) ∧ Aside0 (kq ≤ kj8) ∧ Aside0 (Kd.R k52 52 wc w.heap.size (fun _ => True) (.slice Ao46 t482.length co46) t482) ∧ Aside0 (Kd.R (Kd.int .i64) 3 wc w.heap.size (fun k_ => some k_ ≠ ((.slice Ao33 t477.length co33) : Value).ownBlock ∧ some k_ ≠ ((.slice Ao41 t485.length co41) : Value).ownBlock ∧ some k_ ≠ ((.slice Ao45 t489.length co45) : Value).ownBlock ∧ some k_ ≠ ((.slice Ao49 t494.length co49) : Value).ownBlock ∧ some k_ ≠ ((.slice Ao54 t498.length co54) : Value).ownBlock) (.slice Ao30 t473.length co30) t473) ∧ Aside0 (Kd.R (Kd.int .i64) 3 wc w.heap.size (fun k_ => some k_ ≠ ((.slice Ao30 t473.length co30) : Value).ownBlock ∧ some k_ ≠ ((.slice Ao41 t485.length co41) : Value).ownBlock ∧ some k_ ≠ ((.slice Ao45 t489.length co45) : Value).ownBlock ∧ some k_ ≠ ((.slice Ao49 t494.length co49) : Value).ownBlock ∧ some k_ ≠ ((.slice Ao54 t498.length co54) : Value).ownBlock) (.slice Ao33 t477.length co33) t477) ∧ Aside0 (Kd.R (Kd.int .i64) 3 wc w.heap.size (fun k_ => some k_ ≠ ((.slice Ao30 t473.length co30) : Value).ownBlock ∧ some k_ ≠ ((.slice Ao33 t477.length co33) : Value).ownBlock ∧ some k_ ≠ ((.slice Ao45 t489.length co45) : Value).ownBlock ∧ some k_ ≠ ((.slice Ao49 t494.length co49) : Value).ownBlock ∧ some k_ ≠ ((.slice Ao54 t498.length co54) : Value).ownBlock) (.slice Ao41 t485.length co41) t485) ∧ Aside0 (Kd.R (Kd.int .i64) 3 wc w.heap.size (fun k_ => some k_ ≠ ((.slice Ao30 t473.length co30) : Value).ownBlock ∧ some k_ ≠ ((.slice Ao33 t477.length co33) : Value).ownBlock ∧ some k_ ≠ ((.slice Ao41 t485.length co41) : Value).ownBlock ∧ some k_ ≠ ((.slice Ao49 t494.length co49) : Value).ownBlock ∧ some k_ ≠ ((.slice Ao54 t498.length co54) : Value).ownBlock) (.slice Ao45 t489.length co45) t489) ∧ Aside0 (Kd.R (Kd.int .i64) 3 wc w.heap.size (fun k_ => some k_ ≠ ((.slice Ao30 t473.length co30) : Value).ownBlock ∧ some k_ ≠ ((.slice Ao33 t477.length co33) : Value).ownBlock ∧ some k_ ≠ ((.slice Ao41 t485.length co41) : Value).ownBlock ∧ some k_ ≠ ((.slice Ao45 t489.length co45) : Value).ownBlock ∧ some k_ ≠ ((.slice Ao54 t498.length co54) : Value).ownBlock) (.slice Ao49 t494.length co49) t494) ∧ Aside0 (Kd.R (Kd.int .i64) 3 wc w.heap.size (fun k_ => some k_ ≠ ((.slice Ao30 t473.length co30) : Value).ownBlock ∧ some k_ ≠ ((.slice Ao33 t477.length co33) : Value).ownBlock ∧ some k_ ≠ ((.slice Ao41 t485.length co41) : Value).ownBlock ∧ some k_ ≠ ((.slice Ao45 t489.length co45) : Value).ownBlock ∧ some k_ ≠ ((.slice Ao49 t494.length co49) : Value).ownBlock) (.slice Ao54 t498.length co54) t498) ∧ Aside0 (wc.heap[gb459]? = some (.cells #[(.slice A1_0 l1_0.length c1_0), .int .i64 a1_1, (.slice A1_2 l1_2.length c1_2), .int .i64 a1_3] 57 (0, 0))) ∧ Aside0 (wc.heap[gb481]? = some (.cells #[(.slice Ao30 t473.length co30), .int .i64 t476, (.slice Ao33 t477.length co33), .int .i64 t480] 60 (0, 0))) ∧ Aside0 (wc.heap[gb493]? = some (.cells #[(.slice Ao41 t485.length co41), .int .i64 t488, (.slice Ao45 t489.length co45), .int .i64 t492] 60 (0, 0))) ∧ Aside0 (wc.heap[gb502]? = some (.cells #[(.slice Ao49 t494.length co49), .int .i64 t497, (.slice Ao54 t498.length co54), .int .i64 t501] 60 (0, 0))) ∧ Aside0 (Below w.heap.size w wc))
     case first =>
      have H := HC20.out
      clear HC20
      replace H := S.db H; rcases H with ⟨rfl, H⟩ | ⟨rfl, H⟩
      ·have H' := Aside0.mk H
       clear H
       go_wp2
       go_meet
       case rel => exact ⟨_, H', ⟨by have := HJ4.out; have := HJ8.out; first | omega | exact Nat.le_refl _⟩, ⟨by (with_reducible repeat (first | apply Kd.R_alloc | apply Kd.R_drewN | apply Kd.R_drew)); exact Kd.R_mono HO484.out (fun _ hk => trivial)⟩, ⟨by (with_reducible repeat (first | apply Kd.R_alloc | apply Kd.R_drewN | apply Kd.R_drew)); exact Kd.R_mono HO475.out (fun _ hk => ⟨hk.1.1.1.1.2.2, ⟨hk.1.1.1.2, ⟨hk.1.1.2, ⟨hk.1.2, hk.2⟩⟩⟩⟩)⟩, ⟨by (with_reducible repeat (first | apply Kd.R_alloc | apply Kd.R_drewN | apply Kd.R_drew)); exact Kd.R_mono HO479.out (fun _ hk => ⟨hk.1.1.1.1.2.2, ⟨hk.1.1.1.2, ⟨hk.1.1.2, ⟨hk.1.2, hk.2⟩⟩⟩⟩)⟩, ⟨by (with_reducible repeat (first | apply Kd.R_alloc | apply Kd.R_drewN | apply Kd.R_drew)); exact Kd.R_mono HO487.out (fun _ hk => ⟨hk.1.1.1.2, ⟨hk.1.1.2, ⟨hk.1.1.1.1.1.1, ⟨hk.1.2, hk.2⟩⟩⟩⟩)⟩, ⟨by (with_reducible repeat (first | apply Kd.R_alloc | apply Kd.R_drewN | apply Kd.R_drew)); exact Kd.R_mono HO491.out (fun _ hk => ⟨hk.1.1.1.2, ⟨hk.1.1.2, ⟨hk.1.1.1.1.1.1, ⟨hk.1.2, hk.2⟩⟩⟩⟩)⟩, ⟨by (with_reducible repeat (first | apply Kd.R_alloc | apply Kd.R_drewN | apply Kd.R_drew)); exact Kd.R_mono HO496.out (fun _ hk => ⟨hk.1.1.1.2, ⟨hk.1.1.2, ⟨hk.1.2, ⟨hk.2, hk.1.1.1.1.1.1⟩⟩⟩⟩)⟩, ⟨by (with_reducible repeat (first | apply Kd.R_alloc | apply Kd.R_drewN | apply Kd.R_drew)); exact Kd.R_mono HO500.out (fun _ hk => ⟨hk.1.1.1.2, ⟨hk.1.1.2, ⟨hk.1.2, ⟨hk.2, hk.1.1.1.1.1.1⟩⟩⟩⟩)⟩, ⟨S.uB BK459.out⟩, ⟨S.uB BK481.out⟩, ⟨S.uB BK493.out⟩, ⟨S.uB BK502.out⟩, ⟨S.bG⟩⟩
      ·obtain rfl := Option.some.inj H
       go_wp2
       go_ret
       exact ⟨S.eW, S.bG⟩
     case rest =>
      clear HC20
      try clear Z38a
      try clear Z38b
      try clear Z38c
      try clear Z38d
      try clear Z44a
      try clear Z44b
      try clear Z44c
      try clear Z44d
      try clear Z53a
      try clear Z53b
      try clear Z53c
      try clear Z53d
      try clear Z55a
      try clear Z55b
      try clear Z55c
      try clear Z55d
      try clear Y38a
      try clear Y38b
      try clear Y38c
      try clear Y38d
      try clear Y44a
      try clear Y44b
      try clear Y44c
      try clear Y44d
      try clear Y53a
      try clear Y53b
      try clear Y53c
      try clear Y53d
      try clear Y55a
      try clear Y55b
      try clear Y55c
      try clear Y55d
      obtain ⟨kq, HA, HJ19, HO_9, HO_482000, HO_482002, HO_494000, HO_494002, HO_503000, HO_503002, BK459, BK481, BK493, BK502, HB⟩ := hcut
      cases kq with
      | zero => exact absurd HA.out (by simp [laws_FnExactStepSiren.j2])
      | succ kj19 =>
       have H := HA.out
       clear HA
       simp only [laws_FnExactStepSiren.j2] at H
       replace H := S.bd H; obtain ⟨t504, A58, H⟩ := H
       (try dsimp only at H)
       replace H := S.bd H; obtain ⟨t507, A59, H⟩ := H
       (try dsimp only at H)
       have HC60 := Aside0.mk H
       clear H
       go_upto_if 48 with (first | ((with_reducible refine gate_callee (f := 14) rfl ?_); refine S.gL (some 46) Try.func14 #[.slice A0 l0.length c0] ?_; (with_reducible refine (laws_toPathS.calls kj19 _ _ l0 t504 _ ?s1 HC0.out A58.out).mono ?_); (case s1 => exact S.cA HR0.out); rintro e w61 ⟨v505, rfl, ho0, hb⟩; refine ⟨_, rfl, ?_⟩; replace HO_482000 := S.rb HO_482000 hb; replace HO_482002 := S.rb HO_482002 hb; replace HO_494000 := S.rb HO_494000 hb; replace HO_494002 := S.rb HO_494002 hb; replace HO_503000 := S.rb HO_503000 hb; replace HO_503002 := S.rb HO_503002 hb; have HO506 := S.rnG ho0 HO_9; replace HO_9 := S.re HO_9 ho0 hb; replace BK459 := S.kb BK459 hb; replace BK481 := S.kb BK481 hb; replace BK493 := S.kb BK493 hb; replace BK502 := S.kb BK502 hb; replace HB := S.sG hb; (try clear hb); (try clear ho0); obtain ⟨Ao62, co62, eo62⟩ := Kd.R_slice HO506.out; subst eo62) | ((with_reducible refine gate_callee (f := 19) rfl ?_); refine S.gL (some 47) Try.func19 #[.slice Ao46 t482.length co46, .slice Ao62 t504.length co62] ?_; (with_reducible refine (laws_eqPathS.calls kj19 _ _ t482 _ _ t504 t507 _ ?s1 (S.rl HO_9) ?s3 (S.rl HO506) A59.out).mono ?_); (case s1 => exact S.rd HO_9); (case s3 => exact S.rd HO506); rintro e w63 ⟨rfl, hb⟩; refine ⟨_, rfl, ?_⟩; replace HO_9 := S.rb HO_9 hb; replace HO_482000 := S.rb HO_482000 hb; replace HO_482002 := S.rb HO_482002 hb; replace HO_494000 := S.rb HO_494000 hb; replace HO_494002 := S.rb HO_494002 hb; replace HO_503000 := S.rb HO_503000 hb; replace HO_503002 := S.rb HO_503002 hb; replace HO506 := S.rb HO506 hb; replace BK459 := S.kb BK459 hb; replace BK481 := S.kb BK481 hb; replace BK493 := S.kb BK493 hb; replace BK502 := S.kb BK502 hb; replace HB := S.sG hb; (try clear hb)))
       (try simp only [Act.put, List.setIfInBounds_toArray, List.set_cons_zero, List.set_cons_succ])
       go_cut [] (fun wc => ∃ (kq : Nat), Aside0 (laws_FnExactStepSiren.j3 kq l0 a2 t482 l1_0 a1_1 l1_2 a1_3 t473 t476 t477 t480 t485 t488 t489 t492 t494 t497 t498 t501 = some r) ∧ Aside0 (kq ≤ kj19) ∧ Aside0 (Kd.R k52 52 wc w.heap.size (fun _ => True) (.slice Ao46 t482.length co46) t482) ∧ Aside0 (Kd.R (Kd.int .i64) 3 wc w.heap.size (fun k_ => some k_ ≠ ((.slice Ao33 t477.length co33) : Value).ownBlock ∧ some k_ ≠ ((.slice Ao41 t485.length co41) : Value).ownBlock ∧ some k_ ≠ ((.slice Ao45 t489.length co45) : Value).ownBlock ∧ some k_ ≠ ((.slice Ao49 t494.length co49) : Value).ownBlock ∧ some k_ ≠ ((.slice Ao54 t498.length co54) : Value).ownBlock) (.slice Ao30 t473.length co30) t473) ∧ Aside0 (Kd.R (Kd.int .i64) 3 wc w.heap.size (fun k_ => some k_ ≠ ((.slice Ao30 t473.length co30) : Value).ownBlock ∧ some k_ ≠ ((.slice Ao41 t485.length co41) : Value).ownBlock ∧ some k_ ≠ ((.slice Ao45 t489.length co45) : Value).ownBlock ∧ some k_ ≠ ((.slice Ao49 t494.length co49) : Value).ownBlock ∧ some k_ ≠ ((.slice Ao54 t498.length co54) : Value).ownBlock) (.slice Ao33 t477.length co33) t477) ∧ Aside0 (Kd.R (Kd.int .i64) 3 wc w.heap.size (fun k_ => some k_ ≠ ((.slice Ao30 t473.length co30) : Value).ownBlock ∧ some k_ ≠ ((.slice Ao33 t477.length co33) : Value).ownBlock ∧ some k_ ≠ ((.slice Ao45 t489.length co45) : Value).ownBlock ∧ some k_ ≠ ((.slice Ao49 t494.length co49) : Value).ownBlock ∧ some k_ ≠ ((.slice Ao54 t498.length co54) : Value).ownBlock) (.slice Ao41 t485.length co41) t485) ∧ Aside0 (Kd.R (Kd.int .i64) 3 wc w.heap.size (fun k_ => some k_ ≠ ((.slice Ao30 t473.length co30) : Value).ownBlock ∧ some k_ ≠ ((.slice Ao33 t477.length co33) : Value).ownBlock ∧ some k_ ≠ ((.slice Ao41 t485.length co41) : Value).ownBlock ∧ some k_ ≠ ((.slice Ao49 t494.length co49) : Value).ownBlock ∧ some k_ ≠ ((.slice Ao54 t498.length co54) : Value).ownBlock) (.slice Ao45 t489.length co45) t489) ∧ Aside0 (Kd.R (Kd.int .i64) 3 wc w.heap.size (fun k_ => some k_ ≠ ((.slice Ao30 t473.length co30) : Value).ownBlock ∧ some k_ ≠ ((.slice Ao33 t477.length co33) : Value).ownBlock ∧ some k_ ≠ ((.slice Ao41 t485.length co41) : Value).ownBlock ∧ some k_ ≠ ((.slice Ao45 t489.length co45) : Value).ownBlock ∧ some k_ ≠ ((.slice Ao54 t498.length co54) : Value).ownBlock) (.slice Ao49 t494.length co49) t494) ∧ Aside0 (Kd.R (Kd.int .i64) 3 wc w.heap.size (fun k_ => some k_ ≠ ((.slice Ao30 t473.length co30) : Value).ownBlock ∧ some k_ ≠ ((.slice Ao33 t477.length co33) : Value).ownBlock ∧ some k_ ≠ ((.slice Ao41 t485.length co41) : Value).ownBlock ∧ some k_ ≠ ((.slice Ao45 t489.length co45) : Value).ownBlock ∧ some k_ ≠ ((.slice Ao49 t494.length co49) : Value).ownBlock) (.slice Ao54 t498.length co54) t498) ∧ Aside0 (wc.heap[gb459]? = some (.cells #[(.slice A1_0 l1_0.length c1_0), .int .i64 a1_1, (.slice A1_2 l1_2.length c1_2), .int .i64 a1_3] 57 (0, 0))) ∧ Aside0 (wc.heap[gb481]? = some (.cells #[(.slice Ao30 t473.length co30), .int .i64 t476, (.slice Ao33 t477.length co33), .int .i64 t480] 60 (0, 0))) ∧ Aside0 (wc.heap[gb493]? = some (.cells #[(.slice Ao41 t485.length co41), .int .i64 t488, (.slice Ao45 t489.length co45), .int .i64 t492] 60 (0, 0))) ∧ Aside0 (wc.heap[gb502]? = some (.cells #[(.slice Ao49 t494.length co49), .int .i64 t497, (.slice Ao54 t498.length co54), .int .i64 t501] 60 (0, 0))) ∧ Aside0 (Below w.heap.size w wc))
       case first =>
        have H := HC60.out
        clear HC60
        replace H := S.db H; rcases H with ⟨rfl, H⟩ | ⟨rfl, H⟩
        ·have H' := Aside0.mk H
         clear H
         go_wp2
         go_meet
         case rel => exact ⟨_, H', ⟨by have := HJ4.out; have := HJ8.out; have := HJ19.out; first | omega | exact Nat.le_refl _⟩, ⟨by (with_reducible repeat (first | apply Kd.R_alloc | apply Kd.R_drewN | apply Kd.R_drew)); exact Kd.R_mono HO_9.out (fun _ hk => trivial)⟩, ⟨S.uR HO_482000.out⟩, ⟨S.uR HO_482002.out⟩, ⟨S.uR HO_494000.out⟩, ⟨S.uR HO_494002.out⟩, ⟨S.uR HO_503000.out⟩, ⟨S.uR HO_503002.out⟩, ⟨S.uB BK459.out⟩, ⟨S.uB BK481.out⟩, ⟨S.uB BK493.out⟩, ⟨S.uB BK502.out⟩, ⟨S.bG⟩⟩
        ·obtain rfl := Option.some.inj H
         go_wp2
         go_ret
         exact ⟨S.eW, S.bG⟩
       case rest =>
        clear HC60
        try clear Z38a
        try clear Z38b
        try clear Z38c
        try clear Z38d
        try clear Z44a
        try clear Z44b
        try clear Z44c
        try clear Z44d
        try clear Z53a
        try clear Z53b
        try clear Z53c
        try clear Z53d
        try clear Z55a
        try clear Z55b
        try clear Z55c
        try clear Z55d
        try clear Y38a
        try clear Y38b
        try clear Y38c
        try clear Y38d
        try clear Y44a
        try clear Y44b
        try clear Y44c
        try clear Y44d
        try clear Y53a
        try clear Y53b
        try clear Y53c
        try clear Y53d
        try clear Y55a
        try clear Y55b
        try clear Y55c
        try clear Y55d
        obtain ⟨kq, HA, HJ59, HO_9, HO_482000, HO_482002, HO_494000, HO_494002, HO_503000, HO_503002, BK459, BK481, BK493, BK502, HB⟩ := hcut
        cases kq with
        | zero => exact absurd HA.out (by simp [laws_FnExactStepSiren.j3])
        | succ kj59 =>
         have H := HA.out
         clear HA
         simp only [laws_FnExactStepSiren.j3] at H
         replace H := S.bd H; obtain ⟨⟨t508, t511, t512, t515⟩, A65, H⟩ := H
         (try dsimp only at H)
         replace H := S.bd H; obtain ⟨t516, A66, H⟩ := H
         (try dsimp only at H)
         have HC67 := Aside0.mk H
         clear H
         try go_wp2
         replace HO_9 := S.dr HO_9
         replace HO_482000 := S.dr HO_482000
         replace HO_482002 := S.dr HO_482002
         replace HO_494000 := S.dr HO_494000
         replace HO_494002 := S.dr HO_494002
         replace HO_503000 := S.dr HO_503000
         replace HO_503002 := S.dr HO_503002
         replace BK459 := Aside0.mk (blk_drew BK459.out)
         replace BK481 := Aside0.mk (blk_drew BK481.out)
         replace BK493 := Aside0.mk (blk_drew BK493.out)
         replace BK502 := Aside0.mk (blk_drew BK502.out)
         replace HB := Aside0.mk (below_drew1 HB.out)
         refine start_ (n := 5) (S := fun w' => w'.cell? ⟨gb493, 0, none⟩ = some (.slice Ao41 t485.length co41) ∧ w'.cell? ⟨gb493, 1, none⟩ = some (.int .i64 t488) ∧ w'.cell? ⟨gb493, 2, none⟩ = some (.slice Ao45 t489.length co45) ∧ w'.cell? ⟨gb493, 3, none⟩ = some (.int .i64 t492) ∧ w'.cell? ⟨gb459, 0, none⟩ = some (.slice A1_0 l1_0.length c1_0) ∧ w'.cell? ⟨gb459, 1, none⟩ = some (.int .i64 a1_1) ∧ w'.cell? ⟨gb459, 2, none⟩ = some (.slice A1_2 l1_2.length c1_2) ∧ w'.cell? ⟨gb459, 3, none⟩ = some (.int .i64 a1_3)) (ds := []) #[false, false, false, false, false] (by kernel_rfl) rfl rfl ⟨(blk_cell BK493.out 0).trans rfl, (blk_cell BK493.out 1).trans rfl, (blk_cell BK493.out 2).trans rfl, (blk_cell BK493.out 3).trans rfl, (blk_cell BK459.out 0).trans rfl, (blk_cell BK459.out 1).trans rfl, (blk_cell BK459.out 2).trans rfl, (blk_cell BK459.out 3).trans rfl⟩ (fun hHeld => ?_)
         generalize wc.drew = w68 at HO_9 HO_482000 HO_482002 HO_494000 HO_494002 HO_503000 HO_503002 BK459 BK481 BK493 BK502 HB hHeld ⊢
         refine take_ (i := 0) (N := some 49) (v := ?_) (a' := ?_) #[true, false, false, false, false] rfl rfl (by kernel_rfl) (fun _ _ _ h => h) (Or.inl ⟨by rfl, ?_⟩) hHeld ?_ ?_
         rotate_left
         ·rintro w' ⟨s0, s1, s2, s3, s4, s5, s6, s7⟩
          go_simp
          with_reducible rfl
         rotate_left
         ·simp only [Act.put, List.setIfInBounds_toArray, List.set_cons_zero, List.set_cons_succ, i64_w, i32_w]
          rfl
         refine take_ (i := 1) (N := some 50) (v := ?_) (a' := ?_) #[true, true, false, false, false] rfl rfl (by kernel_rfl) (fun _ _ _ h => h) (Or.inl ⟨by rfl, ?_⟩) hHeld ?_ ?_
         rotate_left
         ·rintro w' ⟨s0, s1, s2, s3, s4, s5, s6, s7⟩
          go_simp
          with_reducible rfl
         rotate_left
         ·simp only [Act.put, List.setIfInBounds_toArray, List.set_cons_zero, List.set_cons_succ, i64_w, i32_w]
          rfl
         refine one_ (i := 2) (N := some 51) #[true, true, true, false, false] rfl rfl (by kernel_rfl) (by decide) (fun K hK => ?_)
         refine S.go Try.func35 #[.agg #[.slice A1_0 l1_0.length c1_0, .int .i64 a1_1, .slice A1_2 l1_2.length c1_2, .int .i64 a1_3]] ?_
         with_reducible refine (laws_toControl.calls kj59 _ _ l1_0 a1_1 _ _ l1_2 a1_3 t508 t511 t512 t515 _ ?s1 ?s2 ?s3 ?s4 A65.out).mono ?_
         (case s1 => exact S.cA HR1_0.out)
         (case s2 => exact HC1_0.out)
         (case s3 => exact S.cA HR1_2.out)
         (case s4 => exact HC1_2.out)
         rintro e w69 ⟨v509, v513, rfl, ho0, ho1, hb⟩
         refine ⟨_, rfl, ?_⟩
         replace HO_9 := S.rb HO_9 hb
         have HO510 := Aside0.mk (Kd.R_lower (Kd.R_new' (Kd.R_new' (Kd.R_new' (Kd.R_new' (Kd.R_new' (Kd.R_new' ho0 (Kd.R_lt (S.uR HO_482000.out))) (Kd.R_lt (S.uR HO_482002.out))) (Kd.R_lt (S.uR HO_494000.out))) (Kd.R_lt (S.uR HO_494002.out))) (Kd.R_lt (S.uR HO_503000.out))) (Kd.R_lt (S.uR HO_503002.out))) (below_size S.bG))
         have HO514 := Aside0.mk (Kd.R_lower (Kd.R_new' (Kd.R_new' (Kd.R_new' (Kd.R_new' (Kd.R_new' (Kd.R_new' ho1 (Kd.R_lt (S.uR HO_482000.out))) (Kd.R_lt (S.uR HO_482002.out))) (Kd.R_lt (S.uR HO_494000.out))) (Kd.R_lt (S.uR HO_494002.out))) (Kd.R_lt (S.uR HO_503000.out))) (Kd.R_lt (S.uR HO_503002.out))) (below_size S.bG))
         replace HO_482000 := Aside0.mk (Kd.R_mono (Kd.R_told (Kd.R_told (Kd.R_old (S.uR HO_482000.out) hb) (Kd.R_base ho0)) (Kd.R_base ho1)) (fun _ h_ => h_.1))
         replace HO_482002 := Aside0.mk (Kd.R_mono (Kd.R_told (Kd.R_told (Kd.R_old (S.uR HO_482002.out) hb) (Kd.R_base ho0)) (Kd.R_base ho1)) (fun _ h_ => h_.1))
         replace HO_494000 := Aside0.mk (Kd.R_mono (Kd.R_told (Kd.R_told (Kd.R_old (S.uR HO_494000.out) hb) (Kd.R_base ho0)) (Kd.R_base ho1)) (fun _ h_ => h_.1))
         replace HO_494002 := Aside0.mk (Kd.R_mono (Kd.R_told (Kd.R_told (Kd.R_old (S.uR HO_494002.out) hb) (Kd.R_base ho0)) (Kd.R_base ho1)) (fun _ h_ => h_.1))
         replace HO_503000 := Aside0.mk (Kd.R_mono (Kd.R_told (Kd.R_told (Kd.R_old (S.uR HO_503000.out) hb) (Kd.R_base ho0)) (Kd.R_base ho1)) (fun _ h_ => h_.1))
         replace HO_503002 := Aside0.mk (Kd.R_mono (Kd.R_told (Kd.R_told (Kd.R_old (S.uR HO_503002.out) hb) (Kd.R_base ho0)) (Kd.R_base ho1)) (fun _ h_ => h_.1))
         replace BK459 := S.kb BK459 hb
         replace BK481 := S.kb BK481 hb
         replace BK493 := S.kb BK493 hb
         replace BK502 := S.kb BK502 hb
         replace HB := S.sG hb
         (try clear hb)
         (try clear hb2)
         (try clear hk)
         (try clear hi)
         (try clear ho0)
         (try clear ho1)
         obtain ⟨Ao70, co70, eo70⟩ := Kd.R_slice HO510.out
         (first | subst eo70 | (injection eo70 with f1_ f2_ f3_; have f4_ := f1_.symm; have f5_ := f3_.symm; clear f1_ f2_ f3_; subst f4_; subst f5_))
         obtain ⟨Ao71, co71, eo71⟩ := Kd.R_slice HO514.out
         (first | subst eo71 | (injection eo71 with f1_ f2_ f3_; have f4_ := f1_.symm; have f5_ := f3_.symm; clear f1_ f2_ f3_; subst f4_; subst f5_))
         refine hK.out _ _ (S.d4 BK493.out (S.e4 BK459.out)) (fun hHeld => ?_)
         clear hK K
         refine S.nm 51 ?_
         refine one_ (i := 3) (N := some 52) #[true, true, true, true, false] rfl rfl (by kernel_rfl) (by decide) (fun K hK => ?_)
         refine S.go Try.func37 #[.agg #[.slice Ao41 t485.length co41, .int .i64 t488, .slice Ao45 t489.length co45, .int .i64 t492], .agg #[.slice Ao70 t508.length co70, .int .i64 t511, .slice Ao71 t512.length co71, .int .i64 t515]] ?_
         with_reducible refine (laws_eqControl.calls kj59 _ _ t485 t488 _ _ t489 t492 _ _ t508 t511 _ _ t512 t515 t516 _ ?s1 ?s2 ?s3 ?s4 ?s5 ?s6 ?s7 ?s8 A66.out).mono ?_
         (case s1 => exact S.rd HO_494000)
         (case s2 => exact S.rl HO_494000)
         (case s3 => exact S.rd HO_494002)
         (case s4 => exact S.rl HO_494002)
         (case s5 => exact S.rd HO510)
         (case s6 => exact S.rl HO510)
         (case s7 => exact S.rd HO514)
         (case s8 => exact S.rl HO514)
         rintro e w72 ⟨rfl, hb⟩
         refine ⟨_, rfl, ?_⟩
         replace HO_9 := S.rb HO_9 hb
         replace HO_482000 := S.rb HO_482000 hb
         replace HO_482002 := S.rb HO_482002 hb
         replace HO_494000 := S.rb HO_494000 hb
         replace HO_494002 := S.rb HO_494002 hb
         replace HO_503000 := S.rb HO_503000 hb
         replace HO_503002 := S.rb HO_503002 hb
         replace HO510 := S.rb HO510 hb
         replace HO514 := S.rb HO514 hb
         replace BK459 := S.kb BK459 hb
         replace BK481 := S.kb BK481 hb
         replace BK493 := S.kb BK493 hb
         replace BK502 := S.kb BK502 hb
         replace HB := S.sG hb
         (try clear hb)
         (try clear hb2)
         (try clear hk)
         (try clear hi)
         refine hK.out _ _ (S.d4 BK493.out (S.e4 BK459.out)) (fun hHeld => ?_)
         clear hK K
         refine S.nm 52 ?_
         refine pure_ (i := 4) (N := some 53) (v := ?_) (a' := ?_) #[true, true, true, true, true] rfl rfl (by kernel_rfl) (fun _ _ _ h => h) (Or.inl ⟨by rfl, ?_⟩) ?_ ?_
         rotate_left
         ·intro w'
          go_simp
          with_reducible rfl
         rotate_left
         ·simp only [Act.put, List.setIfInBounds_toArray, List.set_cons_zero, List.set_cons_succ, i64_w, i32_w]
          rfl
         refine done_ (by kernel_rfl) ?_
         go_upto_if 53 with (fail)
         go_cut [] (fun wc => ∃ (kq : Nat), Aside0 (laws_FnExactStepSiren.j4 kq l0 a2 t482 l1_0 a1_1 l1_2 a1_3 t473 t476 t477 t480 t485 t488 t489 t492 t494 t497 t498 t501 = some r) ∧ Aside0 (kq ≤ kj59) ∧ Aside0 (Kd.R k52 52 wc w.heap.size (fun _ => True) (.slice Ao46 t482.length co46) t482) ∧ Aside0 (Kd.R (Kd.int .i64) 3 wc w.heap.size (fun k_ => some k_ ≠ ((.slice Ao33 t477.length co33) : Value).ownBlock ∧ some k_ ≠ ((.slice Ao41 t485.length co41) : Value).ownBlock ∧ some k_ ≠ ((.slice Ao45 t489.length co45) : Value).ownBlock ∧ some k_ ≠ ((.slice Ao49 t494.length co49) : Value).ownBlock ∧ some k_ ≠ ((.slice Ao54 t498.length co54) : Value).ownBlock) (.slice Ao30 t473.length co30) t473) ∧ Aside0 (Kd.R (Kd.int .i64) 3 wc w.heap.size (fun k_ => some k_ ≠ ((.slice Ao30 t473.length co30) : Value).ownBlock ∧ some k_ ≠ ((.slice Ao41 t485.length co41) : Value).ownBlock ∧ some k_ ≠ ((.slice Ao45 t489.length co45) : Value).ownBlock ∧ some k_ ≠ ((.slice Ao49 t494.length co49) : Value).ownBlock ∧ some k_ ≠ ((.slice Ao54 t498.length co54) : Value).ownBlock) (.slice Ao33 t477.length co33) t477) ∧ Aside0 (Kd.R (Kd.int .i64) 3 wc w.heap.size (fun k_ => some k_ ≠ ((.slice Ao30 t473.length co30) : Value).ownBlock ∧ some k_ ≠ ((.slice Ao33 t477.length co33) : Value).ownBlock ∧ some k_ ≠ ((.slice Ao45 t489.length co45) : Value).ownBlock ∧ some k_ ≠ ((.slice Ao49 t494.length co49) : Value).ownBlock ∧ some k_ ≠ ((.slice Ao54 t498.length co54) : Value).ownBlock) (.slice Ao41 t485.length co41) t485) ∧ Aside0 (Kd.R (Kd.int .i64) 3 wc w.heap.size (fun k_ => some k_ ≠ ((.slice Ao30 t473.length co30) : Value).ownBlock ∧ some k_ ≠ ((.slice Ao33 t477.length co33) : Value).ownBlock ∧ some k_ ≠ ((.slice Ao41 t485.length co41) : Value).ownBlock ∧ some k_ ≠ ((.slice Ao49 t494.length co49) : Value).ownBlock ∧ some k_ ≠ ((.slice Ao54 t498.length co54) : Value).ownBlock) (.slice Ao45 t489.length co45) t489) ∧ Aside0 (Kd.R (Kd.int .i64) 3 wc w.heap.size (fun k_ => some k_ ≠ ((.slice Ao30 t473.length co30) : Value).ownBlock ∧ some k_ ≠ ((.slice Ao33 t477.length co33) : Value).ownBlock ∧ some k_ ≠ ((.slice Ao41 t485.length co41) : Value).ownBlock ∧ some k_ ≠ ((.slice Ao45 t489.length co45) : Value).ownBlock ∧ some k_ ≠ ((.slice Ao54 t498.length co54) : Value).ownBlock) (.slice Ao49 t494.length co49) t494) ∧ Aside0 (Kd.R (Kd.int .i64) 3 wc w.heap.size (fun k_ => some k_ ≠ ((.slice Ao30 t473.length co30) : Value).ownBlock ∧ some k_ ≠ ((.slice Ao33 t477.length co33) : Value).ownBlock ∧ some k_ ≠ ((.slice Ao41 t485.length co41) : Value).ownBlock ∧ some k_ ≠ ((.slice Ao45 t489.length co45) : Value).ownBlock ∧ some k_ ≠ ((.slice Ao49 t494.length co49) : Value).ownBlock) (.slice Ao54 t498.length co54) t498) ∧ Aside0 (wc.heap[gb459]? = some (.cells #[(.slice A1_0 l1_0.length c1_0), .int .i64 a1_1, (.slice A1_2 l1_2.length c1_2), .int .i64 a1_3] 57 (0, 0))) ∧ Aside0 (wc.heap[gb481]? = some (.cells #[(.slice Ao30 t473.length co30), .int .i64 t476, (.slice Ao33 t477.length co33), .int .i64 t480] 60 (0, 0))) ∧ Aside0 (wc.heap[gb493]? = some (.cells #[(.slice Ao41 t485.length co41), .int .i64 t488, (.slice Ao45 t489.length co45), .int .i64 t492] 60 (0, 0))) ∧ Aside0 (wc.heap[gb502]? = some (.cells #[(.slice Ao49 t494.length co49), .int .i64 t497, (.slice Ao54 t498.length co54), .int .i64 t501] 60 (0, 0))) ∧ Aside0 (Below w.heap.size w wc))
         case first =>
          have H := HC67.out
          clear HC67
          replace H := S.db H; rcases H with ⟨rfl, H⟩ | ⟨rfl, H⟩
          ·have H' := Aside0.mk H
           clear H
           go_wp2
           go_meet
           case rel => exact ⟨_, H', ⟨by have := HJ4.out; have := HJ8.out; have := HJ19.out; have := HJ59.out; first | omega | exact Nat.le_refl _⟩, ⟨S.uR HO_9.out⟩, ⟨by (with_reducible repeat (first | apply Kd.R_alloc | apply Kd.R_drewN | apply Kd.R_drew)); exact Kd.R_mono HO_482000.out (fun _ hk => ⟨hk.1.1.1, ⟨hk.1.1.2.1, ⟨hk.1.1.2.2.1, ⟨hk.1.1.2.2.2.1, hk.1.1.2.2.2.2⟩⟩⟩⟩)⟩, ⟨by (with_reducible repeat (first | apply Kd.R_alloc | apply Kd.R_drewN | apply Kd.R_drew)); exact Kd.R_mono HO_482002.out (fun _ hk => ⟨hk.1.1.1, ⟨hk.1.1.2.1, ⟨hk.1.1.2.2.1, ⟨hk.1.1.2.2.2.1, hk.1.1.2.2.2.2⟩⟩⟩⟩)⟩, ⟨by (with_reducible repeat (first | apply Kd.R_alloc | apply Kd.R_drewN | apply Kd.R_drew)); exact Kd.R_mono HO_494000.out (fun _ hk => ⟨hk.1.1.1, ⟨hk.1.1.2.1, ⟨hk.1.1.2.2.1, ⟨hk.1.1.2.2.2.1, hk.1.1.2.2.2.2⟩⟩⟩⟩)⟩, ⟨by (with_reducible repeat (first | apply Kd.R_alloc | apply Kd.R_drewN | apply Kd.R_drew)); exact Kd.R_mono HO_494002.out (fun _ hk => ⟨hk.1.1.1, ⟨hk.1.1.2.1, ⟨hk.1.1.2.2.1, ⟨hk.1.1.2.2.2.1, hk.1.1.2.2.2.2⟩⟩⟩⟩)⟩, ⟨by (with_reducible repeat (first | apply Kd.R_alloc | apply Kd.R_drewN | apply Kd.R_drew)); exact Kd.R_mono HO_503000.out (fun _ hk => ⟨hk.1.1.1, ⟨hk.1.1.2.1, ⟨hk.1.1.2.2.1, ⟨hk.1.1.2.2.2.1, hk.1.1.2.2.2.2⟩⟩⟩⟩)⟩, ⟨by (with_reducible repeat (first | apply Kd.R_alloc | apply Kd.R_drewN | apply Kd.R_drew)); exact Kd.R_mono HO_503002.out (fun _ hk => ⟨hk.1.1.1, ⟨hk.1.1.2.1, ⟨hk.1.1.2.2.1, ⟨hk.1.1.2.2.2.1, hk.1.1.2.2.2.2⟩⟩⟩⟩)⟩, ⟨S.uB BK459.out⟩, ⟨S.uB BK481.out⟩, ⟨S.uB BK493.out⟩, ⟨S.uB BK502.out⟩, ⟨S.bG⟩⟩
          ·obtain rfl := Option.some.inj H
           go_wp2
           go_ret
           exact ⟨S.eW, S.bG⟩
         case rest =>
          clear HC67
          try clear Z38a
          try clear Z38b
          try clear Z38c
          try clear Z38d
          try clear Z44a
          try clear Z44b
          try clear Z44c
          try clear Z44d
          try clear Z53a
          try clear Z53b
          try clear Z53c
          try clear Z53d
          try clear Z55a
          try clear Z55b
          try clear Z55c
          try clear Z55d
          try clear Y38a
          try clear Y38b
          try clear Y38c
          try clear Y38d
          try clear Y44a
          try clear Y44b
          try clear Y44c
          try clear Y44d
          try clear Y53a
          try clear Y53b
          try clear Y53c
          try clear Y53d
          try clear Y55a
          try clear Y55b
          try clear Y55c
          try clear Y55d
          obtain ⟨kq, HA, HJ66, HO_9, HO_482000, HO_482002, HO_494000, HO_494002, HO_503000, HO_503002, BK459, BK481, BK493, BK502, HB⟩ := hcut
          cases kq with
          | zero => exact absurd HA.out (by simp [laws_FnExactStepSiren.j4])
          | succ kj66 =>
           have H := HA.out
           clear HA
           simp only [laws_FnExactStepSiren.j4] at H
           replace H := S.bd H; obtain ⟨⟨t517, t518⟩, A74, H⟩ := H
           (try dsimp only at H)
           replace H := S.bd H; obtain ⟨⟨t519, t520, t521⟩, A75, H⟩ := H
           (try dsimp only at H)
           have HC76 := Aside0.mk H
           clear H
           go_upto_region 21 with (first | ((with_reducible refine gate_callee (f := 21) rfl ?_); refine S.gL (some 56) Try.func21 #[.slice Ao46 t482.length co46, .int .i64 1] ?_; (with_reducible refine (laws_markPathS.calls kj66 (fun k_ => some k_ = (.slice Ao46 t482.length co46 : Value).ownBlock) (.slice Ao46 t482.length co46) t482 1 t517 t518 w _ ?s1 ?s2 A74.out).mono ?_); (case s1 => exact S.bG); (case s2 => exact Kd.R_tight rfl HO_9.out); rintro e w77 ⟨rfl, hy0, hb, hkp⟩; refine ⟨_, rfl, ?_⟩; replace HO_482000 := Aside0.mk (Kd.R_mono (ok' := fun k_ => S.N k_ (.slice Ao33 t477.length co33) ∧ S.N k_ (.slice Ao41 t485.length co41) ∧ S.N k_ (.slice Ao45 t489.length co45) ∧ S.N k_ (.slice Ao49 t494.length co49) ∧ S.N k_ (.slice Ao54 t498.length co54)) (Kd.R_keptB ((Kd.R_apart' HO_482000.out (Kd.R_typed HO_9.out) (by decide))) hkp (fun k_ hk_ hs_ => (hk_.2) hs_)) (fun k_ hk_ => ⟨hk_.1.1.1, hk_.1.1.2.1, hk_.1.1.2.2.1, hk_.1.1.2.2.2.1, hk_.1.1.2.2.2.2⟩)); replace HO_482002 := Aside0.mk (Kd.R_mono (ok' := fun k_ => S.N k_ (.slice Ao30 t473.length co30) ∧ S.N k_ (.slice Ao41 t485.length co41) ∧ S.N k_ (.slice Ao45 t489.length co45) ∧ S.N k_ (.slice Ao49 t494.length co49) ∧ S.N k_ (.slice Ao54 t498.length co54)) (Kd.R_keptB ((Kd.R_apart' HO_482002.out (Kd.R_typed HO_9.out) (by decide))) hkp (fun k_ hk_ hs_ => (hk_.2) hs_)) (fun k_ hk_ => ⟨hk_.1.1.1, hk_.1.1.2.1, hk_.1.1.2.2.1, hk_.1.1.2.2.2.1, hk_.1.1.2.2.2.2⟩)); replace HO_494000 := Aside0.mk (Kd.R_mono (ok' := fun k_ => S.N k_ (.slice Ao30 t473.length co30) ∧ S.N k_ (.slice Ao33 t477.length co33) ∧ S.N k_ (.slice Ao45 t489.length co45) ∧ S.N k_ (.slice Ao49 t494.length co49) ∧ S.N k_ (.slice Ao54 t498.length co54)) (Kd.R_keptB ((Kd.R_apart' HO_494000.out (Kd.R_typed HO_9.out) (by decide))) hkp (fun k_ hk_ hs_ => (hk_.2) hs_)) (fun k_ hk_ => ⟨hk_.1.1.1, hk_.1.1.2.1, hk_.1.1.2.2.1, hk_.1.1.2.2.2.1, hk_.1.1.2.2.2.2⟩)); replace HO_494002 := Aside0.mk (Kd.R_mono (ok' := fun k_ => S.N k_ (.slice Ao30 t473.length co30) ∧ S.N k_ (.slice Ao33 t477.length co33) ∧ S.N k_ (.slice Ao41 t485.length co41) ∧ S.N k_ (.slice Ao49 t494.length co49) ∧ S.N k_ (.slice Ao54 t498.length co54)) (Kd.R_keptB ((Kd.R_apart' HO_494002.out (Kd.R_typed HO_9.out) (by decide))) hkp (fun k_ hk_ hs_ => (hk_.2) hs_)) (fun k_ hk_ => ⟨hk_.1.1.1, hk_.1.1.2.1, hk_.1.1.2.2.1, hk_.1.1.2.2.2.1, hk_.1.1.2.2.2.2⟩)); replace HO_503000 := Aside0.mk (Kd.R_mono (ok' := fun k_ => S.N k_ (.slice Ao30 t473.length co30) ∧ S.N k_ (.slice Ao33 t477.length co33) ∧ S.N k_ (.slice Ao41 t485.length co41) ∧ S.N k_ (.slice Ao45 t489.length co45) ∧ S.N k_ (.slice Ao54 t498.length co54)) (Kd.R_keptB ((Kd.R_apart' HO_503000.out (Kd.R_typed HO_9.out) (by decide))) hkp (fun k_ hk_ hs_ => (hk_.2) hs_)) (fun k_ hk_ => ⟨hk_.1.1.1, hk_.1.1.2.1, hk_.1.1.2.2.1, hk_.1.1.2.2.2.1, hk_.1.1.2.2.2.2⟩)); replace HO_503002 := Aside0.mk (Kd.R_mono (ok' := fun k_ => S.N k_ (.slice Ao30 t473.length co30) ∧ S.N k_ (.slice Ao33 t477.length co33) ∧ S.N k_ (.slice Ao41 t485.length co41) ∧ S.N k_ (.slice Ao45 t489.length co45) ∧ S.N k_ (.slice Ao49 t494.length co49)) (Kd.R_keptB ((Kd.R_apart' HO_503002.out (Kd.R_typed HO_9.out) (by decide))) hkp (fun k_ hk_ hs_ => (hk_.2) hs_)) (fun k_ hk_ => ⟨hk_.1.1.1, hk_.1.1.2.1, hk_.1.1.2.2.1, hk_.1.1.2.2.2.1, hk_.1.1.2.2.2.2⟩)); replace BK459 := Aside0.mk (blk_kept (S.uB BK459.out) hkp (fun hs_ => (fun e_ => (Kd.R_ne HO_9.out BK459.out (by decide)) e_) hs_)); replace BK481 := Aside0.mk (blk_kept (S.uB BK481.out) hkp (fun hs_ => (fun e_ => (Kd.R_ne HO_9.out BK481.out (by decide)) e_) hs_)); replace BK493 := Aside0.mk (blk_kept (S.uB BK493.out) hkp (fun hs_ => (fun e_ => (Kd.R_ne HO_9.out BK493.out (by decide)) e_) hs_)); replace BK502 := Aside0.mk (blk_kept (S.uB BK502.out) hkp (fun hs_ => (fun e_ => (Kd.R_ne HO_9.out BK502.out (by decide)) e_) hs_)); replace HO_9 := Aside0.mk (Kd.R_reok rfl hy0 (fun k_ e_ => HO_9.out.1 k_ e_)); replace HB := Aside0.mk (hb); (try clear hb); (try clear hkp); (try clear hy0); have hnb78 := NB493_459.out; have hnc78 := NB459_493.out; have hnb79 := NB493_481.out; have hnc79 := NB481_493.out; have hnb80 := NB493_502.out; have hnc80 := NB502_493.out; obtain ⟨Z81a, Z81b, Z81c, Z81d, Y81a, Y81b, Y81c, Y81d⟩ := S.c4 BK493.out) | ((with_reducible refine gate_callee (f := 43) rfl ?_); refine S.gL (some 59) Try.func43 #[.agg #[.slice Ao41 t485.length co41, .int .i64 t488, .slice Ao45 t489.length co45, .int .i64 t492], .int .i64 t517] ?_; (with_reducible refine (laws_markControl.calls kj66 (fun k_ => some k_ = (.slice Ao41 t485.length co41 : Value).ownBlock) (.slice Ao41 t485.length co41) t485 t488 (fun k_ => some k_ = (.slice Ao45 t489.length co45 : Value).ownBlock) (.slice Ao45 t489.length co45) t489 t492 t517 t519 t520 t521 w _ ?s1 ?s2 ?s3 ?s4 ?s5 A75.out).mono ?_); (case s1 => exact S.bG); (case s2 => exact Kd.R_tight rfl HO_494000.out); (case s3 => exact fun k_ e_ => (HO_494000.out.1 k_ e_.symm).2.2.1); (case s4 => exact Kd.R_tight rfl HO_494002.out); (case s5 => exact fun k_ e_ => (HO_494002.out.1 k_ e_.symm).2.2.1); rintro e w82 ⟨rfl, hy0, hy1, hb, hkp⟩; refine ⟨_, rfl, ?_⟩; replace HO_9 := Aside0.mk (Kd.R_mono (ok' := fun k_ => True) (Kd.R_keptB ((Kd.R_apart' (Kd.R_apart' HO_9.out (Kd.R_typed HO_494000.out) (by decide)) (Kd.R_typed HO_494002.out) (by decide))) hkp (fun k_ hk_ hs_ => Or.elim hs_ (fun e_ => (hk_.1.2) e_) (fun e_ => (hk_.2) e_))) (fun k_ hk_ => trivial)); replace HO_482000 := Aside0.mk (Kd.R_mono (ok' := fun k_ => S.N k_ (.slice Ao33 t477.length co33) ∧ S.N k_ (.slice Ao41 t485.length co41) ∧ S.N k_ (.slice Ao45 t489.length co45) ∧ S.N k_ (.slice Ao49 t494.length co49) ∧ S.N k_ (.slice Ao54 t498.length co54)) (Kd.R_keptB (HO_482000.out) hkp (fun k_ hk_ hs_ => Or.elim hs_ (fun e_ => (hk_.2.1) e_) (fun e_ => (hk_.2.2.1) e_))) (fun k_ hk_ => ⟨hk_.1.1, hk_.1.2.1, hk_.1.2.2.1, hk_.1.2.2.2.1, hk_.1.2.2.2.2⟩)); replace HO_482002 := Aside0.mk (Kd.R_mono (ok' := fun k_ => S.N k_ (.slice Ao30 t473.length co30) ∧ S.N k_ (.slice Ao41 t485.length co41) ∧ S.N k_ (.slice Ao45 t489.length co45) ∧ S.N k_ (.slice Ao49 t494.length co49) ∧ S.N k_ (.slice Ao54 t498.length co54)) (Kd.R_keptB (HO_482002.out) hkp (fun k_ hk_ hs_ => Or.elim hs_ (fun e_ => (hk_.2.1) e_) (fun e_ => (hk_.2.2.1) e_))) (fun k_ hk_ => ⟨hk_.1.1, hk_.1.2.1, hk_.1.2.2.1, hk_.1.2.2.2.1, hk_.1.2.2.2.2⟩)); replace HO_503000 := Aside0.mk (Kd.R_mono (ok' := fun k_ => S.N k_ (.slice Ao30 t473.length co30) ∧ S.N k_ (.slice Ao33 t477.length co33) ∧ S.N k_ (.slice Ao41 t485.length co41) ∧ S.N k_ (.slice Ao45 t489.length co45) ∧ S.N k_ (.slice Ao54 t498.length co54)) (Kd.R_keptB (HO_503000.out) hkp (fun k_ hk_ hs_ => Or.elim hs_ (fun e_ => (hk_.2.2.1) e_) (fun e_ => (hk_.2.2.2.1) e_))) (fun k_ hk_ => ⟨hk_.1.1, hk_.1.2.1, hk_.1.2.2.1, hk_.1.2.2.2.1, hk_.1.2.2.2.2⟩)); replace HO_503002 := Aside0.mk (Kd.R_mono (ok' := fun k_ => S.N k_ (.slice Ao30 t473.length co30) ∧ S.N k_ (.slice Ao33 t477.length co33) ∧ S.N k_ (.slice Ao41 t485.length co41) ∧ S.N k_ (.slice Ao45 t489.length co45) ∧ S.N k_ (.slice Ao49 t494.length co49)) (Kd.R_keptB (HO_503002.out) hkp (fun k_ hk_ hs_ => Or.elim hs_ (fun e_ => (hk_.2.2.1) e_) (fun e_ => (hk_.2.2.2.1) e_))) (fun k_ hk_ => ⟨hk_.1.1, hk_.1.2.1, hk_.1.2.2.1, hk_.1.2.2.2.1, hk_.1.2.2.2.2⟩)); replace BK459 := Aside0.mk (blk_kept (S.uB BK459.out) hkp (fun hs_ => Or.elim hs_ (fun e_ => (fun e_ => (Kd.R_ne HO_494000.out BK459.out (by decide)) e_) e_) (fun e_ => (fun e_ => (Kd.R_ne HO_494002.out BK459.out (by decide)) e_) e_))); replace BK481 := Aside0.mk (blk_kept (S.uB BK481.out) hkp (fun hs_ => Or.elim hs_ (fun e_ => (fun e_ => (Kd.R_ne HO_494000.out BK481.out (by decide)) e_) e_) (fun e_ => (fun e_ => (Kd.R_ne HO_494002.out BK481.out (by decide)) e_) e_))); replace BK493 := Aside0.mk (blk_kept (S.uB BK493.out) hkp (fun hs_ => Or.elim hs_ (fun e_ => (fun e_ => (Kd.R_ne HO_494000.out BK493.out (by decide)) e_) e_) (fun e_ => (fun e_ => (Kd.R_ne HO_494002.out BK493.out (by decide)) e_) e_))); replace BK502 := Aside0.mk (blk_kept (S.uB BK502.out) hkp (fun hs_ => Or.elim hs_ (fun e_ => (fun e_ => (Kd.R_ne HO_494000.out BK502.out (by decide)) e_) e_) (fun e_ => (fun e_ => (Kd.R_ne HO_494002.out BK502.out (by decide)) e_) e_))); replace HO_494000 := Aside0.mk (Kd.R_reok rfl hy0 (fun k_ e_ => HO_494000.out.1 k_ e_)); replace HO_494002 := Aside0.mk (Kd.R_reok rfl hy1 (fun k_ e_ => HO_494002.out.1 k_ e_)); replace HB := Aside0.mk (hb); (try clear hb); (try clear hkp); (try clear hy0); (try clear hy1)))
           (try simp only [Act.put, List.setIfInBounds_toArray, List.set_cons_zero, List.set_cons_succ])
           go_cut [67] (fun v67 wc => ∃ (kq : Nat) (x67_75 : Bool), v67 = .bool x67_75 ∧ Aside0 (laws_FnExactStepSiren.j5 kq l0 a2 x67_75 l1_0 a1_1 l1_2 a1_3 t473 t476 t477 t480 t494 t497 t498 t501 = some r) ∧ Aside0 (kq ≤ kj66) ∧ Aside0 (Kd.R (Kd.int .i64) 3 wc w.heap.size (fun k_ => some k_ ≠ ((.slice Ao33 t477.length co33) : Value).ownBlock ∧ some k_ ≠ ((.slice Ao41 t485.length co41) : Value).ownBlock ∧ some k_ ≠ ((.slice Ao45 t489.length co45) : Value).ownBlock ∧ some k_ ≠ ((.slice Ao49 t494.length co49) : Value).ownBlock ∧ some k_ ≠ ((.slice Ao54 t498.length co54) : Value).ownBlock) (.slice Ao30 t473.length co30) t473) ∧ Aside0 (Kd.R (Kd.int .i64) 3 wc w.heap.size (fun k_ => some k_ ≠ ((.slice Ao30 t473.length co30) : Value).ownBlock ∧ some k_ ≠ ((.slice Ao41 t485.length co41) : Value).ownBlock ∧ some k_ ≠ ((.slice Ao45 t489.length co45) : Value).ownBlock ∧ some k_ ≠ ((.slice Ao49 t494.length co49) : Value).ownBlock ∧ some k_ ≠ ((.slice Ao54 t498.length co54) : Value).ownBlock) (.slice Ao33 t477.length co33) t477) ∧ Aside0 (Kd.R (Kd.int .i64) 3 wc w.heap.size (fun k_ => some k_ ≠ ((.slice Ao30 t473.length co30) : Value).ownBlock ∧ some k_ ≠ ((.slice Ao33 t477.length co33) : Value).ownBlock ∧ some k_ ≠ ((.slice Ao45 t489.length co45) : Value).ownBlock ∧ some k_ ≠ ((.slice Ao49 t494.length co49) : Value).ownBlock ∧ some k_ ≠ ((.slice Ao54 t498.length co54) : Value).ownBlock) (.slice Ao41 t485.length co41) t520) ∧ Aside0 (Kd.R (Kd.int .i64) 3 wc w.heap.size (fun k_ => some k_ ≠ ((.slice Ao30 t473.length co30) : Value).ownBlock ∧ some k_ ≠ ((.slice Ao33 t477.length co33) : Value).ownBlock ∧ some k_ ≠ ((.slice Ao41 t485.length co41) : Value).ownBlock ∧ some k_ ≠ ((.slice Ao49 t494.length co49) : Value).ownBlock ∧ some k_ ≠ ((.slice Ao54 t498.length co54) : Value).ownBlock) (.slice Ao45 t489.length co45) t521) ∧ Aside0 (Kd.R (Kd.int .i64) 3 wc w.heap.size (fun k_ => some k_ ≠ ((.slice Ao30 t473.length co30) : Value).ownBlock ∧ some k_ ≠ ((.slice Ao33 t477.length co33) : Value).ownBlock ∧ some k_ ≠ ((.slice Ao41 t485.length co41) : Value).ownBlock ∧ some k_ ≠ ((.slice Ao45 t489.length co45) : Value).ownBlock ∧ some k_ ≠ ((.slice Ao54 t498.length co54) : Value).ownBlock) (.slice Ao49 t494.length co49) t494) ∧ Aside0 (Kd.R (Kd.int .i64) 3 wc w.heap.size (fun k_ => some k_ ≠ ((.slice Ao30 t473.length co30) : Value).ownBlock ∧ some k_ ≠ ((.slice Ao33 t477.length co33) : Value).ownBlock ∧ some k_ ≠ ((.slice Ao41 t485.length co41) : Value).ownBlock ∧ some k_ ≠ ((.slice Ao45 t489.length co45) : Value).ownBlock ∧ some k_ ≠ ((.slice Ao49 t494.length co49) : Value).ownBlock) (.slice Ao54 t498.length co54) t498) ∧ Aside0 (wc.heap[gb459]? = some (.cells #[(.slice A1_0 l1_0.length c1_0), .int .i64 a1_1, (.slice A1_2 l1_2.length c1_2), .int .i64 a1_3] 57 (0, 0))) ∧ Aside0 (wc.heap[gb481]? = some (.cells #[(.slice Ao30 t473.length co30), .int .i64 t476, (.slice Ao33 t477.length co33), .int .i64 t480] 60 (0, 0))) ∧ Aside0 (wc.heap[gb493]? = some (.cells #[(.slice Ao41 t485.length co41), .int .i64 t488, (.slice Ao45 t489.length co45), .int .i64 t492] 60 (0, 0))) ∧ Aside0 (wc.heap[gb502]? = some (.cells #[(.slice Ao49 t494.length co49), .int .i64 t497, (.slice Ao54 t498.length co54), .int .i64 t501] 60 (0, 0))) ∧ Aside0 (Below w.heap.size w wc))
           case first =>
            have H := HC76.out
            clear HC76
            replace H := S.dc H; rcases H with ⟨H, c83b0⟩ | ⟨H, c83b0⟩
            ·(first | rw [c83b0] | (simp only [i64_w, i32_w]; rw [c83b0]) | skip)
             have H' := Aside0.mk H
             clear H
             go_wp2
             go_meet
             case rel => exact ⟨_, (true), S.eA, H', ⟨by have := HJ4.out; have := HJ8.out; have := HJ19.out; have := HJ59.out; have := HJ66.out; first | omega | exact Nat.le_refl _⟩, ⟨S.uR HO_482000.out⟩, ⟨S.uR HO_482002.out⟩, ⟨S.uR HO_494000.out⟩, ⟨S.uR HO_494002.out⟩, ⟨S.uR HO_503000.out⟩, ⟨S.uR HO_503002.out⟩, ⟨S.uB BK459.out⟩, ⟨S.uB BK481.out⟩, ⟨S.uB BK493.out⟩, ⟨S.uB BK502.out⟩, ⟨S.bG⟩⟩
            ·(first | rw [c83b0] | (simp only [i64_w, i32_w]; rw [c83b0]) | skip)
             replace H := S.bd H; obtain ⟨t522, A84, H⟩ := H
             (try dsimp only at H)
             have H' := Aside0.mk H
             clear H
             have hnb85 := NB502_459.out
             have hnc85 := NB459_502.out
             have hnb86 := NB502_481.out
             have hnc86 := NB481_502.out
             have hnb87 := NB502_493.out
             have hnc87 := NB493_502.out
             obtain ⟨Z88a, Z88b, Z88c, Z88d, Y88a, Y88b, Y88c, Y88d⟩ := S.c4 BK502.out
             have hnb89 := NB481_459.out
             have hnc89 := NB459_481.out
             have hnb90 := NB481_493.out
             have hnc90 := NB493_481.out
             obtain ⟨Z91a, Z91b, Z91c, Z91d, Y91a, Y91b, Y91c, Y91d⟩ := S.c4 BK481.out
             go_wp2_with (first | (go_at_call 37; (with_reducible refine (laws_eqControl.calls kj66 _ _ t494 t497 _ _ t498 t501 _ _ t473 t476 _ _ t477 t480 t522 _ ?s1 (S.rl HO_503000) ?s3 (S.rl HO_503002) ?s5 (S.rl HO_482000) ?s7 (S.rl HO_482002) A84.out).mono ?_); (case s1 => exact S.rd HO_503000); (case s3 => exact S.rd HO_503002); (case s5 => exact S.rd HO_482000); (case s7 => exact S.rd HO_482002); rintro e w92 ⟨rfl, hb⟩; replace HO_9 := S.rb HO_9 hb; replace HO_482000 := S.rb HO_482000 hb; replace HO_482002 := S.rb HO_482002 hb; replace HO_494000 := S.rb HO_494000 hb; replace HO_494002 := S.rb HO_494002 hb; replace HO_503000 := S.rb HO_503000 hb; replace HO_503002 := S.rb HO_503002 hb; replace BK459 := S.kb BK459 hb; replace BK481 := S.kb BK481 hb; replace BK493 := S.kb BK493 hb; replace BK502 := S.kb BK502 hb; replace HB := S.sG hb; (try clear hb)))
             go_meet
             case rel => exact ⟨_, (!t522), S.eA, H', ⟨by have := HJ4.out; have := HJ8.out; have := HJ19.out; have := HJ59.out; have := HJ66.out; first | omega | exact Nat.le_refl _⟩, ⟨S.uR HO_482000.out⟩, ⟨S.uR HO_482002.out⟩, ⟨S.uR HO_494000.out⟩, ⟨S.uR HO_494002.out⟩, ⟨S.uR HO_503000.out⟩, ⟨S.uR HO_503002.out⟩, ⟨S.uB BK459.out⟩, ⟨S.uB BK481.out⟩, ⟨S.uB BK493.out⟩, ⟨S.uB BK502.out⟩, ⟨S.bG⟩⟩
           case rest =>
            clear HC76
            try clear Z38a
            try clear Z38b
            try clear Z38c
            try clear Z38d
            try clear Z44a
            try clear Z44b
            try clear Z44c
            try clear Z44d
            try clear Z53a
            try clear Z53b
            try clear Z53c
            try clear Z53d
            try clear Z55a
            try clear Z55b
            try clear Z55c
            try clear Z55d
            try clear Z81a
            try clear Z81b
            try clear Z81c
            try clear Z81d
            try clear Y38a
            try clear Y38b
            try clear Y38c
            try clear Y38d
            try clear Y44a
            try clear Y44b
            try clear Y44c
            try clear Y44d
            try clear Y53a
            try clear Y53b
            try clear Y53c
            try clear Y53d
            try clear Y55a
            try clear Y55b
            try clear Y55c
            try clear Y55d
            try clear Y81a
            try clear Y81b
            try clear Y81c
            try clear Y81d
            obtain ⟨kq, x67_75, rfl, HA, HJ75, HO_482000, HO_482002, HO_494000, HO_494002, HO_503000, HO_503002, BK459, BK481, BK493, BK502, HB⟩ := hcut
            have hl494000_75 := (Kd.R_reads' HO_494000.out).1
            rw [hl494000_75] at HO_494000
            (try simp only [hl494000_75])
            (try simp only [hl494000_75] at BK459)
            (try simp only [hl494000_75] at BK481)
            (try simp only [hl494000_75] at BK493)
            (try simp only [hl494000_75] at BK502)
            (try simp only [hl494000_75] at HO_482000)
            (try simp only [hl494000_75] at HO_482002)
            (try simp only [hl494000_75] at HO_494002)
            (try simp only [hl494000_75] at HO_503000)
            (try simp only [hl494000_75] at HO_503002)
            have hl494002_75 := (Kd.R_reads' HO_494002.out).1
            rw [hl494002_75] at HO_494002
            (try simp only [hl494002_75])
            (try simp only [hl494002_75] at BK459)
            (try simp only [hl494002_75] at BK481)
            (try simp only [hl494002_75] at BK493)
            (try simp only [hl494002_75] at BK502)
            (try simp only [hl494002_75] at HO_482000)
            (try simp only [hl494002_75] at HO_482002)
            (try simp only [hl494002_75] at HO_494000)
            (try simp only [hl494002_75] at HO_503000)
            (try simp only [hl494002_75] at HO_503002)
            cases kq with
            | zero => exact absurd HA.out (by simp [laws_FnExactStepSiren.j5])
            | succ kj75 =>
             have H := HA.out
             clear HA
             simp only [laws_FnExactStepSiren.j5] at H
             have HC93 := Aside0.mk H
             clear H
             go_upto_if 67 with (fail)
             go_cut [] (fun wc => ∃ (kq : Nat), Aside0 (laws_FnExactStepSiren.j6 kq l0 a2 l1_0 a1_1 l1_2 a1_3 t473 t476 t477 t480 t494 t497 t498 t501 = some r) ∧ Aside0 (kq ≤ kj75) ∧ Aside0 (Kd.R (Kd.int .i64) 3 wc w.heap.size (fun k_ => some k_ ≠ ((.slice Ao33 t477.length co33) : Value).ownBlock ∧ some k_ ≠ ((.slice Ao41 t520.length co41) : Value).ownBlock ∧ some k_ ≠ ((.slice Ao45 t521.length co45) : Value).ownBlock ∧ some k_ ≠ ((.slice Ao49 t494.length co49) : Value).ownBlock ∧ some k_ ≠ ((.slice Ao54 t498.length co54) : Value).ownBlock) (.slice Ao30 t473.length co30) t473) ∧ Aside0 (Kd.R (Kd.int .i64) 3 wc w.heap.size (fun k_ => some k_ ≠ ((.slice Ao30 t473.length co30) : Value).ownBlock ∧ some k_ ≠ ((.slice Ao41 t520.length co41) : Value).ownBlock ∧ some k_ ≠ ((.slice Ao45 t521.length co45) : Value).ownBlock ∧ some k_ ≠ ((.slice Ao49 t494.length co49) : Value).ownBlock ∧ some k_ ≠ ((.slice Ao54 t498.length co54) : Value).ownBlock) (.slice Ao33 t477.length co33) t477) ∧ Aside0 (Kd.R (Kd.int .i64) 3 wc w.heap.size (fun k_ => some k_ ≠ ((.slice Ao30 t473.length co30) : Value).ownBlock ∧ some k_ ≠ ((.slice Ao33 t477.length co33) : Value).ownBlock ∧ some k_ ≠ ((.slice Ao45 t521.length co45) : Value).ownBlock ∧ some k_ ≠ ((.slice Ao49 t494.length co49) : Value).ownBlock ∧ some k_ ≠ ((.slice Ao54 t498.length co54) : Value).ownBlock) (.slice Ao41 t520.length co41) t520) ∧ Aside0 (Kd.R (Kd.int .i64) 3 wc w.heap.size (fun k_ => some k_ ≠ ((.slice Ao30 t473.length co30) : Value).ownBlock ∧ some k_ ≠ ((.slice Ao33 t477.length co33) : Value).ownBlock ∧ some k_ ≠ ((.slice Ao41 t520.length co41) : Value).ownBlock ∧ some k_ ≠ ((.slice Ao49 t494.length co49) : Value).ownBlock ∧ some k_ ≠ ((.slice Ao54 t498.length co54) : Value).ownBlock) (.slice Ao45 t521.length co45) t521) ∧ Aside0 (Kd.R (Kd.int .i64) 3 wc w.heap.size (fun k_ => some k_ ≠ ((.slice Ao30 t473.length co30) : Value).ownBlock ∧ some k_ ≠ ((.slice Ao33 t477.length co33) : Value).ownBlock ∧ some k_ ≠ ((.slice Ao41 t520.length co41) : Value).ownBlock ∧ some k_ ≠ ((.slice Ao45 t521.length co45) : Value).ownBlock ∧ some k_ ≠ ((.slice Ao54 t498.length co54) : Value).ownBlock) (.slice Ao49 t494.length co49) t494) ∧ Aside0 (Kd.R (Kd.int .i64) 3 wc w.heap.size (fun k_ => some k_ ≠ ((.slice Ao30 t473.length co30) : Value).ownBlock ∧ some k_ ≠ ((.slice Ao33 t477.length co33) : Value).ownBlock ∧ some k_ ≠ ((.slice Ao41 t520.length co41) : Value).ownBlock ∧ some k_ ≠ ((.slice Ao45 t521.length co45) : Value).ownBlock ∧ some k_ ≠ ((.slice Ao49 t494.length co49) : Value).ownBlock) (.slice Ao54 t498.length co54) t498) ∧ Aside0 (wc.heap[gb459]? = some (.cells #[(.slice A1_0 l1_0.length c1_0), .int .i64 a1_1, (.slice A1_2 l1_2.length c1_2), .int .i64 a1_3] 57 (0, 0))) ∧ Aside0 (wc.heap[gb481]? = some (.cells #[(.slice Ao30 t473.length co30), .int .i64 t476, (.slice Ao33 t477.length co33), .int .i64 t480] 60 (0, 0))) ∧ Aside0 (wc.heap[gb493]? = some (.cells #[(.slice Ao41 t520.length co41), .int .i64 t488, (.slice Ao45 t521.length co45), .int .i64 t492] 60 (0, 0))) ∧ Aside0 (wc.heap[gb502]? = some (.cells #[(.slice Ao49 t494.length co49), .int .i64 t497, (.slice Ao54 t498.length co54), .int .i64 t501] 60 (0, 0))) ∧ Aside0 (Below w.heap.size w wc))
             case first =>
              have H := HC93.out
              clear HC93
              replace H := S.db H; rcases H with ⟨rfl, H⟩ | ⟨rfl, H⟩
              ·obtain rfl := Option.some.inj H
               go_wp2
               go_ret
               exact ⟨S.eW, S.bG⟩
              ·have H' := Aside0.mk H
               clear H
               go_wp2
               go_meet
               case rel => exact ⟨_, H', ⟨by have := HJ4.out; have := HJ8.out; have := HJ19.out; have := HJ59.out; have := HJ66.out; have := HJ75.out; first | omega | exact Nat.le_refl _⟩, ⟨by (try simp only [hl494000_75]); (try simp only [hl494002_75]); (with_reducible repeat (first | apply Kd.R_alloc | apply Kd.R_drewN | apply Kd.R_drew)); exact HO_482000.out⟩, ⟨by (try simp only [hl494000_75]); (try simp only [hl494002_75]); (with_reducible repeat (first | apply Kd.R_alloc | apply Kd.R_drewN | apply Kd.R_drew)); exact HO_482002.out⟩, ⟨by (try simp only [hl494000_75]); (try simp only [hl494002_75]); (with_reducible repeat (first | apply Kd.R_alloc | apply Kd.R_drewN | apply Kd.R_drew)); exact HO_494000.out⟩, ⟨by (try simp only [hl494000_75]); (try simp only [hl494002_75]); (with_reducible repeat (first | apply Kd.R_alloc | apply Kd.R_drewN | apply Kd.R_drew)); exact HO_494002.out⟩, ⟨by (try simp only [hl494000_75]); (try simp only [hl494002_75]); (with_reducible repeat (first | apply Kd.R_alloc | apply Kd.R_drewN | apply Kd.R_drew)); exact HO_503000.out⟩, ⟨by (try simp only [hl494000_75]); (try simp only [hl494002_75]); (with_reducible repeat (first | apply Kd.R_alloc | apply Kd.R_drewN | apply Kd.R_drew)); exact HO_503002.out⟩, ⟨by (try simp only [hl494000_75]); (try simp only [hl494002_75]); (with_reducible repeat (first | refine blk_drewN ?_ _ | refine blk_drew ?_ | refine blk_alloc ?_ _)); exact BK459.out⟩, ⟨by (try simp only [hl494000_75]); (try simp only [hl494002_75]); (with_reducible repeat (first | refine blk_drewN ?_ _ | refine blk_drew ?_ | refine blk_alloc ?_ _)); exact BK481.out⟩, ⟨by (try simp only [hl494000_75]); (try simp only [hl494002_75]); (with_reducible repeat (first | refine blk_drewN ?_ _ | refine blk_drew ?_ | refine blk_alloc ?_ _)); exact BK493.out⟩, ⟨by (try simp only [hl494000_75]); (try simp only [hl494002_75]); (with_reducible repeat (first | refine blk_drewN ?_ _ | refine blk_drew ?_ | refine blk_alloc ?_ _)); exact BK502.out⟩, ⟨S.bG⟩⟩
             case rest =>
              clear HC93
              try clear Z38a
              try clear Z38b
              try clear Z38c
              try clear Z38d
              try clear Z44a
              try clear Z44b
              try clear Z44c
              try clear Z44d
              try clear Z53a
              try clear Z53b
              try clear Z53c
              try clear Z53d
              try clear Z55a
              try clear Z55b
              try clear Z55c
              try clear Z55d
              try clear Z81a
              try clear Z81b
              try clear Z81c
              try clear Z81d
              try clear Y38a
              try clear Y38b
              try clear Y38c
              try clear Y38d
              try clear Y44a
              try clear Y44b
              try clear Y44c
              try clear Y44d
              try clear Y53a
              try clear Y53b
              try clear Y53c
              try clear Y53d
              try clear Y55a
              try clear Y55b
              try clear Y55c
              try clear Y55d
              try clear Y81a
              try clear Y81b
              try clear Y81c
              try clear Y81d
              obtain ⟨kq, HA, HJ92, HO_482000, HO_482002, HO_494000, HO_494002, HO_503000, HO_503002, BK459, BK481, BK493, BK502, HB⟩ := hcut
              cases kq with
              | zero => exact absurd HA.out (by simp [laws_FnExactStepSiren.j6])
              | succ kj92 =>
               have H := HA.out
               clear HA
               simp only [laws_FnExactStepSiren.j6] at H
               replace H := S.bd H; obtain ⟨⟨t523, t524, t525⟩, A95, H⟩ := H
               (try dsimp only at H)
               replace H := S.bd H; obtain ⟨t526, A96, H⟩ := H
               (try dsimp only at H)
               have HC97 := Aside0.mk H
               clear H
               have hnb98 := NB502_459.out
               have hnc98 := NB459_502.out
               have hnb99 := NB502_481.out
               have hnc99 := NB481_502.out
               have hnb100 := NB502_493.out
               have hnc100 := NB493_502.out
               obtain ⟨Z101a, Z101b, Z101c, Z101d, Y101a, Y101b, Y101c, Y101d⟩ := S.c4 BK502.out
               go_upto_if 75 with (first | ((with_reducible refine gate_callee (f := 43) rfl ?_); refine S.gL (some 70) Try.func43 #[.agg #[.slice Ao49 t494.length co49, .int .i64 t497, .slice Ao54 t498.length co54, .int .i64 t501], .int .i64 1] ?_; (with_reducible refine (laws_markControl.calls kj92 (fun k_ => some k_ = (.slice Ao49 t494.length co49 : Value).ownBlock) (.slice Ao49 t494.length co49) t494 t497 (fun k_ => some k_ = (.slice Ao54 t498.length co54 : Value).ownBlock) (.slice Ao54 t498.length co54) t498 t501 1 t523 t524 t525 w _ ?s1 ?s2 ?s3 ?s4 ?s5 A95.out).mono ?_); (case s1 => exact S.bG); (case s2 => exact Kd.R_tight rfl HO_503000.out); (case s3 => exact fun k_ e_ => (HO_503000.out.1 k_ e_.symm).2.2.2.2); (case s4 => exact Kd.R_tight rfl HO_503002.out); (case s5 => exact fun k_ e_ => (HO_503002.out.1 k_ e_.symm).2.2.2.2); rintro e w102 ⟨rfl, hy0, hy1, hb, hkp⟩; refine ⟨_, rfl, ?_⟩; replace HO_482000 := Aside0.mk (Kd.R_mono (ok' := fun k_ => S.N k_ (.slice Ao33 t477.length co33) ∧ S.N k_ (.slice Ao41 t520.length co41) ∧ S.N k_ (.slice Ao45 t521.length co45) ∧ S.N k_ (.slice Ao49 t494.length co49) ∧ S.N k_ (.slice Ao54 t498.length co54)) (Kd.R_keptB (HO_482000.out) hkp (fun k_ hk_ hs_ => Or.elim hs_ (fun e_ => (hk_.2.2.2.1) e_) (fun e_ => (hk_.2.2.2.2) e_))) (fun k_ hk_ => ⟨hk_.1.1, hk_.1.2.1, hk_.1.2.2.1, hk_.1.2.2.2.1, hk_.1.2.2.2.2⟩)); replace HO_482002 := Aside0.mk (Kd.R_mono (ok' := fun k_ => S.N k_ (.slice Ao30 t473.length co30) ∧ S.N k_ (.slice Ao41 t520.length co41) ∧ S.N k_ (.slice Ao45 t521.length co45) ∧ S.N k_ (.slice Ao49 t494.length co49) ∧ S.N k_ (.slice Ao54 t498.length co54)) (Kd.R_keptB (HO_482002.out) hkp (fun k_ hk_ hs_ => Or.elim hs_ (fun e_ => (hk_.2.2.2.1) e_) (fun e_ => (hk_.2.2.2.2) e_))) (fun k_ hk_ => ⟨hk_.1.1, hk_.1.2.1, hk_.1.2.2.1, hk_.1.2.2.2.1, hk_.1.2.2.2.2⟩)); replace HO_494000 := Aside0.mk (Kd.R_mono (ok' := fun k_ => S.N k_ (.slice Ao30 t473.length co30) ∧ S.N k_ (.slice Ao33 t477.length co33) ∧ S.N k_ (.slice Ao45 t521.length co45) ∧ S.N k_ (.slice Ao49 t494.length co49) ∧ S.N k_ (.slice Ao54 t498.length co54)) (Kd.R_keptB (HO_494000.out) hkp (fun k_ hk_ hs_ => Or.elim hs_ (fun e_ => (hk_.2.2.2.1) e_) (fun e_ => (hk_.2.2.2.2) e_))) (fun k_ hk_ => ⟨hk_.1.1, hk_.1.2.1, hk_.1.2.2.1, hk_.1.2.2.2.1, hk_.1.2.2.2.2⟩)); replace HO_494002 := Aside0.mk (Kd.R_mono (ok' := fun k_ => S.N k_ (.slice Ao30 t473.length co30) ∧ S.N k_ (.slice Ao33 t477.length co33) ∧ S.N k_ (.slice Ao41 t520.length co41) ∧ S.N k_ (.slice Ao49 t494.length co49) ∧ S.N k_ (.slice Ao54 t498.length co54)) (Kd.R_keptB (HO_494002.out) hkp (fun k_ hk_ hs_ => Or.elim hs_ (fun e_ => (hk_.2.2.2.1) e_) (fun e_ => (hk_.2.2.2.2) e_))) (fun k_ hk_ => ⟨hk_.1.1, hk_.1.2.1, hk_.1.2.2.1, hk_.1.2.2.2.1, hk_.1.2.2.2.2⟩)); replace BK459 := Aside0.mk (blk_kept (S.uB BK459.out) hkp (fun hs_ => Or.elim hs_ (fun e_ => (fun e_ => (Kd.R_ne HO_503000.out BK459.out (by decide)) e_) e_) (fun e_ => (fun e_ => (Kd.R_ne HO_503002.out BK459.out (by decide)) e_) e_))); replace BK481 := Aside0.mk (blk_kept (S.uB BK481.out) hkp (fun hs_ => Or.elim hs_ (fun e_ => (fun e_ => (Kd.R_ne HO_503000.out BK481.out (by decide)) e_) e_) (fun e_ => (fun e_ => (Kd.R_ne HO_503002.out BK481.out (by decide)) e_) e_))); replace BK493 := Aside0.mk (blk_kept (S.uB BK493.out) hkp (fun hs_ => Or.elim hs_ (fun e_ => (fun e_ => (Kd.R_ne HO_503000.out BK493.out (by decide)) e_) e_) (fun e_ => (fun e_ => (Kd.R_ne HO_503002.out BK493.out (by decide)) e_) e_))); replace BK502 := Aside0.mk (blk_kept (S.uB BK502.out) hkp (fun hs_ => Or.elim hs_ (fun e_ => (fun e_ => (Kd.R_ne HO_503000.out BK502.out (by decide)) e_) e_) (fun e_ => (fun e_ => (Kd.R_ne HO_503002.out BK502.out (by decide)) e_) e_))); replace HO_503000 := Aside0.mk (Kd.R_reok rfl hy0 (fun k_ e_ => HO_503000.out.1 k_ e_)); replace HO_503002 := Aside0.mk (Kd.R_reok rfl hy1 (fun k_ e_ => HO_503002.out.1 k_ e_)); replace HB := Aside0.mk (hb); (try clear hb); (try clear hkp); (try clear hy0); (try clear hy1); obtain ⟨Z103a, Z103b, Z103c, Z103d, Y103a, Y103b, Y103c, Y103d⟩ := S.c4 BK502.out) | ((with_reducible refine gate_callee (f := 44) rfl ?_); refine goesL_ (some 73) rfl rfl Try.func44 (by kernel_rfl) rfl #[.agg #[.slice Ao49 t524.length co49, .int .i64 t497, .slice Ao54 t525.length co54, .int .i64 t501], .int .i64 1] rfl (by (try simp only [List.map_toArray, List.map_cons, List.map_nil]); first | done | (rw [show t524.length = t494.length from (Kd.R_reads' HO_503000.out).1.symm, show t525.length = t498.length from (Kd.R_reads' HO_503002.out).1.symm] <;> rfl) | rfl | (simp only [List.length_drop, List.length_take]; rfl)) ?_; (with_reducible refine (laws_heldControl.calls kj92 _ _ t524 t497 _ _ t525 t501 1 t526 _ ?s1 ?s2 ?s3 ?s4 A96.out).mono ?_); (case s1 => exact S.rd HO_503000); (case s2 => rw [show t524.length = t494.length from (Kd.R_reads' HO_503000.out).1.symm]; exact S.rl HO_503000); (case s3 => exact S.rd HO_503002); (case s4 => rw [show t525.length = t498.length from (Kd.R_reads' HO_503002.out).1.symm]; exact S.rl HO_503002); rintro e w104 ⟨rfl, hb⟩; refine ⟨_, rfl, ?_⟩; replace HO_482000 := S.rb HO_482000 hb; replace HO_482002 := S.rb HO_482002 hb; replace HO_494000 := S.rb HO_494000 hb; replace HO_494002 := S.rb HO_494002 hb; replace HO_503000 := S.rb HO_503000 hb; replace HO_503002 := S.rb HO_503002 hb; replace BK459 := S.kb BK459 hb; replace BK481 := S.kb BK481 hb; replace BK493 := S.kb BK493 hb; replace BK502 := S.kb BK502 hb; replace HB := S.sG hb; (try clear hb)))
               (try simp only [Act.put, List.setIfInBounds_toArray, List.set_cons_zero, List.set_cons_succ])
               go_cut [] (fun wc => ∃ (kq : Nat), Aside0 (laws_FnExactStepSiren.j7 kq l0 a2 t523 t526 l1_0 a1_1 l1_2 a1_3 t473 t476 t477 t480 t524 t497 t525 t501 = some r) ∧ Aside0 (kq ≤ kj92) ∧ Aside0 (Kd.R (Kd.int .i64) 3 wc w.heap.size (fun k_ => some k_ ≠ ((.slice Ao33 t477.length co33) : Value).ownBlock ∧ some k_ ≠ ((.slice Ao41 t520.length co41) : Value).ownBlock ∧ some k_ ≠ ((.slice Ao45 t521.length co45) : Value).ownBlock ∧ some k_ ≠ ((.slice Ao49 t494.length co49) : Value).ownBlock ∧ some k_ ≠ ((.slice Ao54 t498.length co54) : Value).ownBlock) (.slice Ao30 t473.length co30) t473) ∧ Aside0 (Kd.R (Kd.int .i64) 3 wc w.heap.size (fun k_ => some k_ ≠ ((.slice Ao30 t473.length co30) : Value).ownBlock ∧ some k_ ≠ ((.slice Ao41 t520.length co41) : Value).ownBlock ∧ some k_ ≠ ((.slice Ao45 t521.length co45) : Value).ownBlock ∧ some k_ ≠ ((.slice Ao49 t494.length co49) : Value).ownBlock ∧ some k_ ≠ ((.slice Ao54 t498.length co54) : Value).ownBlock) (.slice Ao33 t477.length co33) t477) ∧ Aside0 (Kd.R (Kd.int .i64) 3 wc w.heap.size (fun k_ => some k_ ≠ ((.slice Ao30 t473.length co30) : Value).ownBlock ∧ some k_ ≠ ((.slice Ao33 t477.length co33) : Value).ownBlock ∧ some k_ ≠ ((.slice Ao45 t521.length co45) : Value).ownBlock ∧ some k_ ≠ ((.slice Ao49 t494.length co49) : Value).ownBlock ∧ some k_ ≠ ((.slice Ao54 t498.length co54) : Value).ownBlock) (.slice Ao41 t520.length co41) t520) ∧ Aside0 (Kd.R (Kd.int .i64) 3 wc w.heap.size (fun k_ => some k_ ≠ ((.slice Ao30 t473.length co30) : Value).ownBlock ∧ some k_ ≠ ((.slice Ao33 t477.length co33) : Value).ownBlock ∧ some k_ ≠ ((.slice Ao41 t520.length co41) : Value).ownBlock ∧ some k_ ≠ ((.slice Ao49 t494.length co49) : Value).ownBlock ∧ some k_ ≠ ((.slice Ao54 t498.length co54) : Value).ownBlock) (.slice Ao45 t521.length co45) t521) ∧ Aside0 (Kd.R (Kd.int .i64) 3 wc w.heap.size (fun k_ => some k_ ≠ ((.slice Ao30 t473.length co30) : Value).ownBlock ∧ some k_ ≠ ((.slice Ao33 t477.length co33) : Value).ownBlock ∧ some k_ ≠ ((.slice Ao41 t520.length co41) : Value).ownBlock ∧ some k_ ≠ ((.slice Ao45 t521.length co45) : Value).ownBlock ∧ some k_ ≠ ((.slice Ao54 t498.length co54) : Value).ownBlock) (.slice Ao49 t494.length co49) t524) ∧ Aside0 (Kd.R (Kd.int .i64) 3 wc w.heap.size (fun k_ => some k_ ≠ ((.slice Ao30 t473.length co30) : Value).ownBlock ∧ some k_ ≠ ((.slice Ao33 t477.length co33) : Value).ownBlock ∧ some k_ ≠ ((.slice Ao41 t520.length co41) : Value).ownBlock ∧ some k_ ≠ ((.slice Ao45 t521.length co45) : Value).ownBlock ∧ some k_ ≠ ((.slice Ao49 t494.length co49) : Value).ownBlock) (.slice Ao54 t498.length co54) t525) ∧ Aside0 (wc.heap[gb459]? = some (.cells #[(.slice A1_0 l1_0.length c1_0), .int .i64 a1_1, (.slice A1_2 l1_2.length c1_2), .int .i64 a1_3] 57 (0, 0))) ∧ Aside0 (wc.heap[gb481]? = some (.cells #[(.slice Ao30 t473.length co30), .int .i64 t476, (.slice Ao33 t477.length co33), .int .i64 t480] 60 (0, 0))) ∧ Aside0 (wc.heap[gb493]? = some (.cells #[(.slice Ao41 t520.length co41), .int .i64 t488, (.slice Ao45 t521.length co45), .int .i64 t492] 60 (0, 0))) ∧ Aside0 (wc.heap[gb502]? = some (.cells #[(.slice Ao49 t494.length co49), .int .i64 t497, (.slice Ao54 t498.length co54), .int .i64 t501] 60 (0, 0))) ∧ Aside0 (Below w.heap.size w wc))
               case first =>
                have H := HC97.out
                clear HC97
                replace H := S.dc H; rcases H with ⟨H, c105b0⟩ | ⟨H, c105b0⟩
                ·(first | rw [c105b0] | (simp only [i64_w, i32_w]; rw [c105b0]) | skip)
                 obtain rfl := Option.some.inj H
                 go_wp2
                 go_ret
                 exact ⟨S.eW, S.bG⟩
                ·(first | rw [c105b0] | (simp only [i64_w, i32_w]; rw [c105b0]) | skip)
                 have H' := Aside0.mk H
                 clear H
                 go_wp2
                 go_meet
                 case rel => exact ⟨_, H', ⟨by have := HJ4.out; have := HJ8.out; have := HJ19.out; have := HJ59.out; have := HJ66.out; have := HJ75.out; have := HJ92.out; first | omega | exact Nat.le_refl _⟩, ⟨by (try simp only [hl494000_75]); (try simp only [hl494002_75]); (with_reducible repeat (first | apply Kd.R_alloc | apply Kd.R_drewN | apply Kd.R_drew)); exact HO_482000.out⟩, ⟨by (try simp only [hl494000_75]); (try simp only [hl494002_75]); (with_reducible repeat (first | apply Kd.R_alloc | apply Kd.R_drewN | apply Kd.R_drew)); exact HO_482002.out⟩, ⟨by (try simp only [hl494000_75]); (try simp only [hl494002_75]); (with_reducible repeat (first | apply Kd.R_alloc | apply Kd.R_drewN | apply Kd.R_drew)); exact HO_494000.out⟩, ⟨by (try simp only [hl494000_75]); (try simp only [hl494002_75]); (with_reducible repeat (first | apply Kd.R_alloc | apply Kd.R_drewN | apply Kd.R_drew)); exact HO_494002.out⟩, ⟨by (try simp only [hl494000_75]); (try simp only [hl494002_75]); (with_reducible repeat (first | apply Kd.R_alloc | apply Kd.R_drewN | apply Kd.R_drew)); exact HO_503000.out⟩, ⟨by (try simp only [hl494000_75]); (try simp only [hl494002_75]); (with_reducible repeat (first | apply Kd.R_alloc | apply Kd.R_drewN | apply Kd.R_drew)); exact HO_503002.out⟩, ⟨by (try simp only [hl494000_75]); (try simp only [hl494002_75]); (with_reducible repeat (first | refine blk_drewN ?_ _ | refine blk_drew ?_ | refine blk_alloc ?_ _)); exact BK459.out⟩, ⟨by (try simp only [hl494000_75]); (try simp only [hl494002_75]); (with_reducible repeat (first | refine blk_drewN ?_ _ | refine blk_drew ?_ | refine blk_alloc ?_ _)); exact BK481.out⟩, ⟨by (try simp only [hl494000_75]); (try simp only [hl494002_75]); (with_reducible repeat (first | refine blk_drewN ?_ _ | refine blk_drew ?_ | refine blk_alloc ?_ _)); exact BK493.out⟩, ⟨by (try simp only [hl494000_75]); (try simp only [hl494002_75]); (with_reducible repeat (first | refine blk_drewN ?_ _ | refine blk_drew ?_ | refine blk_alloc ?_ _)); exact BK502.out⟩, ⟨S.bG⟩⟩
               case rest =>
                clear HC97
                try clear Z101a
                try clear Z101b
                try clear Z101c
                try clear Z101d
                try clear Z103a
                try clear Z103b
                try clear Z103c
                try clear Z103d
                try clear Z38a
                try clear Z38b
                try clear Z38c
                try clear Z38d
                try clear Z44a
                try clear Z44b
                try clear Z44c
                try clear Z44d
                try clear Z53a
                try clear Z53b
                try clear Z53c
                try clear Z53d
                try clear Z55a
                try clear Z55b
                try clear Z55c
                try clear Z55d
                try clear Z81a
                try clear Z81b
                try clear Z81c
                try clear Z81d
                try clear Y101a
                try clear Y101b
                try clear Y101c
                try clear Y101d
                try clear Y103a
                try clear Y103b
                try clear Y103c
                try clear Y103d
                try clear Y38a
                try clear Y38b
                try clear Y38c
                try clear Y38d
                try clear Y44a
                try clear Y44b
                try clear Y44c
                try clear Y44d
                try clear Y53a
                try clear Y53b
                try clear Y53c
                try clear Y53d
                try clear Y55a
                try clear Y55b
                try clear Y55c
                try clear Y55d
                try clear Y81a
                try clear Y81b
                try clear Y81c
                try clear Y81d
                obtain ⟨kq, HA, HJ96, HO_482000, HO_482002, HO_494000, HO_494002, HO_503000, HO_503002, BK459, BK481, BK493, BK502, HB⟩ := hcut
                have hl503000_96 := (Kd.R_reads' HO_503000.out).1
                rw [hl503000_96] at HO_503000
                (try simp only [hl503000_96])
                (try simp only [hl503000_96] at BK459)
                (try simp only [hl503000_96] at BK481)
                (try simp only [hl503000_96] at BK493)
                (try simp only [hl503000_96] at BK502)
                (try simp only [hl503000_96] at HO_482000)
                (try simp only [hl503000_96] at HO_482002)
                (try simp only [hl503000_96] at HO_494000)
                (try simp only [hl503000_96] at HO_494002)
                (try simp only [hl503000_96] at HO_503002)
                have hl503002_96 := (Kd.R_reads' HO_503002.out).1
                rw [hl503002_96] at HO_503002
                (try simp only [hl503002_96])
                (try simp only [hl503002_96] at BK459)
                (try simp only [hl503002_96] at BK481)
                (try simp only [hl503002_96] at BK493)
                (try simp only [hl503002_96] at BK502)
                (try simp only [hl503002_96] at HO_482000)
                (try simp only [hl503002_96] at HO_482002)
                (try simp only [hl503002_96] at HO_494000)
                (try simp only [hl503002_96] at HO_494002)
                (try simp only [hl503002_96] at HO_503000)
                cases kq with
                | zero => exact absurd HA.out (by simp [laws_FnExactStepSiren.j7])
                | succ kj96 =>
                 have H := HA.out
                 clear HA
                 simp only [laws_FnExactStepSiren.j7] at H
                 have HC106 := Aside0.mk H
                 clear H
                 go_upto_if 78 with (fail)
                 go_cut [] (fun wc => ∃ (kq : Nat), Aside0 (laws_FnExactStepSiren.j8 kq l0 a2 t523 l1_0 a1_1 l1_2 a1_3 t473 t476 t477 t480 t524 t497 t525 t501 = some r) ∧ Aside0 (kq ≤ kj96) ∧ Aside0 (Kd.R (Kd.int .i64) 3 wc w.heap.size (fun k_ => some k_ ≠ ((.slice Ao33 t477.length co33) : Value).ownBlock ∧ some k_ ≠ ((.slice Ao41 t520.length co41) : Value).ownBlock ∧ some k_ ≠ ((.slice Ao45 t521.length co45) : Value).ownBlock ∧ some k_ ≠ ((.slice Ao49 t524.length co49) : Value).ownBlock ∧ some k_ ≠ ((.slice Ao54 t525.length co54) : Value).ownBlock) (.slice Ao30 t473.length co30) t473) ∧ Aside0 (Kd.R (Kd.int .i64) 3 wc w.heap.size (fun k_ => some k_ ≠ ((.slice Ao30 t473.length co30) : Value).ownBlock ∧ some k_ ≠ ((.slice Ao41 t520.length co41) : Value).ownBlock ∧ some k_ ≠ ((.slice Ao45 t521.length co45) : Value).ownBlock ∧ some k_ ≠ ((.slice Ao49 t524.length co49) : Value).ownBlock ∧ some k_ ≠ ((.slice Ao54 t525.length co54) : Value).ownBlock) (.slice Ao33 t477.length co33) t477) ∧ Aside0 (Kd.R (Kd.int .i64) 3 wc w.heap.size (fun k_ => some k_ ≠ ((.slice Ao30 t473.length co30) : Value).ownBlock ∧ some k_ ≠ ((.slice Ao33 t477.length co33) : Value).ownBlock ∧ some k_ ≠ ((.slice Ao45 t521.length co45) : Value).ownBlock ∧ some k_ ≠ ((.slice Ao49 t524.length co49) : Value).ownBlock ∧ some k_ ≠ ((.slice Ao54 t525.length co54) : Value).ownBlock) (.slice Ao41 t520.length co41) t520) ∧ Aside0 (Kd.R (Kd.int .i64) 3 wc w.heap.size (fun k_ => some k_ ≠ ((.slice Ao30 t473.length co30) : Value).ownBlock ∧ some k_ ≠ ((.slice Ao33 t477.length co33) : Value).ownBlock ∧ some k_ ≠ ((.slice Ao41 t520.length co41) : Value).ownBlock ∧ some k_ ≠ ((.slice Ao49 t524.length co49) : Value).ownBlock ∧ some k_ ≠ ((.slice Ao54 t525.length co54) : Value).ownBlock) (.slice Ao45 t521.length co45) t521) ∧ Aside0 (Kd.R (Kd.int .i64) 3 wc w.heap.size (fun k_ => some k_ ≠ ((.slice Ao30 t473.length co30) : Value).ownBlock ∧ some k_ ≠ ((.slice Ao33 t477.length co33) : Value).ownBlock ∧ some k_ ≠ ((.slice Ao41 t520.length co41) : Value).ownBlock ∧ some k_ ≠ ((.slice Ao45 t521.length co45) : Value).ownBlock ∧ some k_ ≠ ((.slice Ao54 t525.length co54) : Value).ownBlock) (.slice Ao49 t524.length co49) t524) ∧ Aside0 (Kd.R (Kd.int .i64) 3 wc w.heap.size (fun k_ => some k_ ≠ ((.slice Ao30 t473.length co30) : Value).ownBlock ∧ some k_ ≠ ((.slice Ao33 t477.length co33) : Value).ownBlock ∧ some k_ ≠ ((.slice Ao41 t520.length co41) : Value).ownBlock ∧ some k_ ≠ ((.slice Ao45 t521.length co45) : Value).ownBlock ∧ some k_ ≠ ((.slice Ao49 t524.length co49) : Value).ownBlock) (.slice Ao54 t525.length co54) t525) ∧ Aside0 (wc.heap[gb459]? = some (.cells #[(.slice A1_0 l1_0.length c1_0), .int .i64 a1_1, (.slice A1_2 l1_2.length c1_2), .int .i64 a1_3] 57 (0, 0))) ∧ Aside0 (wc.heap[gb481]? = some (.cells #[(.slice Ao30 t473.length co30), .int .i64 t476, (.slice Ao33 t477.length co33), .int .i64 t480] 60 (0, 0))) ∧ Aside0 (wc.heap[gb493]? = some (.cells #[(.slice Ao41 t520.length co41), .int .i64 t488, (.slice Ao45 t521.length co45), .int .i64 t492] 60 (0, 0))) ∧ Aside0 (wc.heap[gb502]? = some (.cells #[(.slice Ao49 t524.length co49), .int .i64 t497, (.slice Ao54 t525.length co54), .int .i64 t501] 60 (0, 0))) ∧ Aside0 (Below w.heap.size w wc))
                 case first =>
                  have H := HC106.out
                  clear HC106
                  by_cases c107 : t526 = t523
                  ·rw [if_pos c107] at H
                   have c107b0 : (t526 == t523) = true := beq_iff_eq.mpr c107
                   have c107b1 : (t526 != t523) = false := bne_eq_false_iff_eq.mpr c107
                   clear c107
                   (first | rw [c107b0] | (simp only [i64_w, i32_w]; rw [c107b0]) | skip)
                   have H' := Aside0.mk H
                   clear H
                   go_wp2
                   go_meet
                   case rel => exact ⟨_, H', ⟨by have := HJ4.out; have := HJ8.out; have := HJ19.out; have := HJ59.out; have := HJ66.out; have := HJ75.out; have := HJ92.out; have := HJ96.out; first | omega | exact Nat.le_refl _⟩, ⟨by (try simp only [hl494000_75]); (try simp only [hl494002_75]); (try simp only [hl503000_96]); (try simp only [hl503002_96]); (with_reducible repeat (first | apply Kd.R_alloc | apply Kd.R_drewN | apply Kd.R_drew)); exact HO_482000.out⟩, ⟨by (try simp only [hl494000_75]); (try simp only [hl494002_75]); (try simp only [hl503000_96]); (try simp only [hl503002_96]); (with_reducible repeat (first | apply Kd.R_alloc | apply Kd.R_drewN | apply Kd.R_drew)); exact HO_482002.out⟩, ⟨by (try simp only [hl494000_75]); (try simp only [hl494002_75]); (try simp only [hl503000_96]); (try simp only [hl503002_96]); (with_reducible repeat (first | apply Kd.R_alloc | apply Kd.R_drewN | apply Kd.R_drew)); exact HO_494000.out⟩, ⟨by (try simp only [hl494000_75]); (try simp only [hl494002_75]); (try simp only [hl503000_96]); (try simp only [hl503002_96]); (with_reducible repeat (first | apply Kd.R_alloc | apply Kd.R_drewN | apply Kd.R_drew)); exact HO_494002.out⟩, ⟨by (try simp only [hl494000_75]); (try simp only [hl494002_75]); (try simp only [hl503000_96]); (try simp only [hl503002_96]); (with_reducible repeat (first | apply Kd.R_alloc | apply Kd.R_drewN | apply Kd.R_drew)); exact HO_503000.out⟩, ⟨by (try simp only [hl494000_75]); (try simp only [hl494002_75]); (try simp only [hl503000_96]); (try simp only [hl503002_96]); (with_reducible repeat (first | apply Kd.R_alloc | apply Kd.R_drewN | apply Kd.R_drew)); exact HO_503002.out⟩, ⟨by (try simp only [hl494000_75]); (try simp only [hl494002_75]); (try simp only [hl503000_96]); (try simp only [hl503002_96]); (with_reducible repeat (first | refine blk_drewN ?_ _ | refine blk_drew ?_ | refine blk_alloc ?_ _)); exact BK459.out⟩, ⟨by (try simp only [hl494000_75]); (try simp only [hl494002_75]); (try simp only [hl503000_96]); (try simp only [hl503002_96]); (with_reducible repeat (first | refine blk_drewN ?_ _ | refine blk_drew ?_ | refine blk_alloc ?_ _)); exact BK481.out⟩, ⟨by (try simp only [hl494000_75]); (try simp only [hl494002_75]); (try simp only [hl503000_96]); (try simp only [hl503002_96]); (with_reducible repeat (first | refine blk_drewN ?_ _ | refine blk_drew ?_ | refine blk_alloc ?_ _)); exact BK493.out⟩, ⟨by (try simp only [hl494000_75]); (try simp only [hl494002_75]); (try simp only [hl503000_96]); (try simp only [hl503002_96]); (with_reducible repeat (first | refine blk_drewN ?_ _ | refine blk_drew ?_ | refine blk_alloc ?_ _)); exact BK502.out⟩, ⟨S.bG⟩⟩
                  ·rw [if_neg c107] at H
                   have c107b0 : (t526 == t523) = false := beq_eq_false_iff_ne.mpr c107
                   have c107b1 : (t526 != t523) = true := bne_iff_ne.mpr c107
                   (first | rw [c107b0] | (simp only [i64_w, i32_w]; rw [c107b0]) | skip)
                   obtain rfl := Option.some.inj H
                   go_wp2
                   go_ret
                   exact ⟨S.eW, S.bG⟩
                 case rest =>
                  clear HC106
                  try clear Z101a
                  try clear Z101b
                  try clear Z101c
                  try clear Z101d
                  try clear Z103a
                  try clear Z103b
                  try clear Z103c
                  try clear Z103d
                  try clear Z38a
                  try clear Z38b
                  try clear Z38c
                  try clear Z38d
                  try clear Z44a
                  try clear Z44b
                  try clear Z44c
                  try clear Z44d
                  try clear Z53a
                  try clear Z53b
                  try clear Z53c
                  try clear Z53d
                  try clear Z55a
                  try clear Z55b
                  try clear Z55c
                  try clear Z55d
                  try clear Z81a
                  try clear Z81b
                  try clear Z81c
                  try clear Z81d
                  try clear Y101a
                  try clear Y101b
                  try clear Y101c
                  try clear Y101d
                  try clear Y103a
                  try clear Y103b
                  try clear Y103c
                  try clear Y103d
                  try clear Y38a
                  try clear Y38b
                  try clear Y38c
                  try clear Y38d
                  try clear Y44a
                  try clear Y44b
                  try clear Y44c
                  try clear Y44d
                  try clear Y53a
                  try clear Y53b
                  try clear Y53c
                  try clear Y53d
                  try clear Y55a
                  try clear Y55b
                  try clear Y55c
                  try clear Y55d
                  try clear Y81a
                  try clear Y81b
                  try clear Y81c
                  try clear Y81d
                  obtain ⟨kq, HA, HJ105, HO_482000, HO_482002, HO_494000, HO_494002, HO_503000, HO_503002, BK459, BK481, BK493, BK502, HB⟩ := hcut
                  cases kq with
                  | zero => exact absurd HA.out (by simp [laws_FnExactStepSiren.j8])
                  | succ kj105 =>
                   have H := HA.out
                   clear HA
                   simp only [laws_FnExactStepSiren.j8] at H
                   replace H := S.bd H; obtain ⟨t527, A108, H⟩ := H
                   (try dsimp only at H)
                   replace H := S.bd H; obtain ⟨⟨t530, t533, t534, t537⟩, A109, H⟩ := H
                   (try dsimp only at H)
                   replace H := S.bd H; obtain ⟨⟨t538, t541, t542, t545⟩, A110, H⟩ := H
                   (try dsimp only at H)
                   replace H := S.bd H; obtain ⟨t547, A111, H⟩ := H
                   (try dsimp only at H)
                   have HC112 := Aside0.mk H
                   clear H
                   try go_wp2
                   replace HO_482000 := S.dr HO_482000
                   replace HO_482002 := S.dr HO_482002
                   replace HO_494000 := S.dr HO_494000
                   replace HO_494002 := S.dr HO_494002
                   replace HO_503000 := S.dr HO_503000
                   replace HO_503002 := S.dr HO_503002
                   replace BK459 := Aside0.mk (blk_drew BK459.out)
                   replace BK481 := Aside0.mk (blk_drew BK481.out)
                   replace BK493 := Aside0.mk (blk_drew BK493.out)
                   replace BK502 := Aside0.mk (blk_drew BK502.out)
                   replace HB := Aside0.mk (below_drew1 HB.out)
                   refine S.st (n := 8) (ds := []) #[false, false, false, false, false, false, false, false] (fun w_ h_ => have x_ := S.e4 (S.Q h_ BK459.out); x_) (fun hHeld => ?_); refine with_tabW laws_FnExactStepSiren.tab31 laws_FnExactStepSiren.bits31 (fun HT_ HW_ => ?_)
                   generalize wc.drew = w113 at HO_482000 HO_482002 HO_494000 HO_494002 HO_503000 HO_503002 BK459 BK481 BK493 BK502 HB hHeld ⊢
                   refine S.pS 0 79 ?_
                   refine S.pS 4 83 ?_
                   refine S.tK 2 81 #[true, false, true, false, true, false, false, false] ?_
                   refine join_ (σ := Value × Value × Value × Value × Value × Nat) 1 #[true, true, true, true, true, true, true, false] (fun s_ => [(80, s_.1), (82, .agg #[s_.2.1, .int .i64 t533, s_.2.2.1, .int .i64 t537]), (84, .agg #[s_.2.2.2.1, .int .i64 t541, s_.2.2.2.2.1, .int .i64 t545]), (15, .pointer (some ⟨s_.2.2.2.2.2, 0, none⟩))]) (fun s_ w' => (w'.cell? ⟨gb459, 0, none⟩ = some (.slice A1_0 l1_0.length c1_0) ∧ w'.cell? ⟨gb459, 1, none⟩ = some (.int .i64 a1_1) ∧ w'.cell? ⟨gb459, 2, none⟩ = some (.slice A1_2 l1_2.length c1_2) ∧ w'.cell? ⟨gb459, 3, none⟩ = some (.int .i64 a1_3)) ∧ (Kd.R k52 52 w' w.heap.size (fun _ => True) s_.1 t527) ∧ (Kd.R (Kd.int .i64) 3 w' w.heap.size (fun k_ => some k_ ≠ (s_.2.2.1 : Value).ownBlock ∧ some k_ ≠ (s_.2.2.2.1 : Value).ownBlock ∧ some k_ ≠ (s_.2.2.2.2.1 : Value).ownBlock ∧ S.N k_ (.slice Ao30 t473.length co30) ∧ S.N k_ (.slice Ao33 t477.length co33) ∧ S.N k_ (.slice Ao41 t520.length co41) ∧ S.N k_ (.slice Ao45 t521.length co45) ∧ S.N k_ (.slice Ao49 t524.length co49) ∧ S.N k_ (.slice Ao54 t525.length co54)) s_.2.1 t530) ∧ (Kd.R (Kd.int .i64) 3 w' w.heap.size (fun k_ => some k_ ≠ (s_.2.1 : Value).ownBlock ∧ some k_ ≠ (s_.2.2.2.1 : Value).ownBlock ∧ some k_ ≠ (s_.2.2.2.2.1 : Value).ownBlock ∧ S.N k_ (.slice Ao30 t473.length co30) ∧ S.N k_ (.slice Ao33 t477.length co33) ∧ S.N k_ (.slice Ao41 t520.length co41) ∧ S.N k_ (.slice Ao45 t521.length co45) ∧ S.N k_ (.slice Ao49 t524.length co49) ∧ S.N k_ (.slice Ao54 t525.length co54)) s_.2.2.1 t534) ∧ (Kd.R (Kd.int .i64) 3 w' w.heap.size (fun k_ => some k_ ≠ (s_.2.1 : Value).ownBlock ∧ some k_ ≠ (s_.2.2.1 : Value).ownBlock ∧ some k_ ≠ (s_.2.2.2.2.1 : Value).ownBlock ∧ S.N k_ (.slice Ao30 t473.length co30) ∧ S.N k_ (.slice Ao33 t477.length co33) ∧ S.N k_ (.slice Ao41 t520.length co41) ∧ S.N k_ (.slice Ao45 t521.length co45) ∧ S.N k_ (.slice Ao49 t524.length co49) ∧ S.N k_ (.slice Ao54 t525.length co54)) s_.2.2.2.1 t538) ∧ (Kd.R (Kd.int .i64) 3 w' w.heap.size (fun k_ => some k_ ≠ (s_.2.1 : Value).ownBlock ∧ some k_ ≠ (s_.2.2.1 : Value).ownBlock ∧ some k_ ≠ (s_.2.2.2.1 : Value).ownBlock ∧ S.N k_ (.slice Ao30 t473.length co30) ∧ S.N k_ (.slice Ao33 t477.length co33) ∧ S.N k_ (.slice Ao41 t520.length co41) ∧ S.N k_ (.slice Ao45 t521.length co45) ∧ S.N k_ (.slice Ao49 t524.length co49) ∧ S.N k_ (.slice Ao54 t525.length co54)) s_.2.2.2.2.1 t542) ∧ (Kd.R (Kd.int .i64) 3 w' w.heap.size (fun k_ => some k_ ≠ (s_.2.1 : Value).ownBlock ∧ some k_ ≠ (s_.2.2.1 : Value).ownBlock ∧ some k_ ≠ (s_.2.2.2.1 : Value).ownBlock ∧ some k_ ≠ (s_.2.2.2.2.1 : Value).ownBlock ∧ S.N k_ (.slice Ao33 t477.length co33) ∧ S.N k_ (.slice Ao41 t520.length co41) ∧ S.N k_ (.slice Ao45 t521.length co45) ∧ S.N k_ (.slice Ao49 t524.length co49) ∧ S.N k_ (.slice Ao54 t525.length co54)) (.slice Ao30 t473.length co30) t473) ∧ (Kd.R (Kd.int .i64) 3 w' w.heap.size (fun k_ => some k_ ≠ (s_.2.1 : Value).ownBlock ∧ some k_ ≠ (s_.2.2.1 : Value).ownBlock ∧ some k_ ≠ (s_.2.2.2.1 : Value).ownBlock ∧ some k_ ≠ (s_.2.2.2.2.1 : Value).ownBlock ∧ S.N k_ (.slice Ao30 t473.length co30) ∧ S.N k_ (.slice Ao41 t520.length co41) ∧ S.N k_ (.slice Ao45 t521.length co45) ∧ S.N k_ (.slice Ao49 t524.length co49) ∧ S.N k_ (.slice Ao54 t525.length co54)) (.slice Ao33 t477.length co33) t477) ∧ (Kd.R (Kd.int .i64) 3 w' w.heap.size (fun k_ => some k_ ≠ (s_.2.1 : Value).ownBlock ∧ some k_ ≠ (s_.2.2.1 : Value).ownBlock ∧ some k_ ≠ (s_.2.2.2.1 : Value).ownBlock ∧ some k_ ≠ (s_.2.2.2.2.1 : Value).ownBlock ∧ S.N k_ (.slice Ao30 t473.length co30) ∧ S.N k_ (.slice Ao33 t477.length co33) ∧ S.N k_ (.slice Ao45 t521.length co45) ∧ S.N k_ (.slice Ao49 t524.length co49) ∧ S.N k_ (.slice Ao54 t525.length co54)) (.slice Ao41 t520.length co41) t520) ∧ (Kd.R (Kd.int .i64) 3 w' w.heap.size (fun k_ => some k_ ≠ (s_.2.1 : Value).ownBlock ∧ some k_ ≠ (s_.2.2.1 : Value).ownBlock ∧ some k_ ≠ (s_.2.2.2.1 : Value).ownBlock ∧ some k_ ≠ (s_.2.2.2.2.1 : Value).ownBlock ∧ S.N k_ (.slice Ao30 t473.length co30) ∧ S.N k_ (.slice Ao33 t477.length co33) ∧ S.N k_ (.slice Ao41 t520.length co41) ∧ S.N k_ (.slice Ao49 t524.length co49) ∧ S.N k_ (.slice Ao54 t525.length co54)) (.slice Ao45 t521.length co45) t521) ∧ (Kd.R (Kd.int .i64) 3 w' w.heap.size (fun k_ => some k_ ≠ (s_.2.1 : Value).ownBlock ∧ some k_ ≠ (s_.2.2.1 : Value).ownBlock ∧ some k_ ≠ (s_.2.2.2.1 : Value).ownBlock ∧ some k_ ≠ (s_.2.2.2.2.1 : Value).ownBlock ∧ S.N k_ (.slice Ao30 t473.length co30) ∧ S.N k_ (.slice Ao33 t477.length co33) ∧ S.N k_ (.slice Ao41 t520.length co41) ∧ S.N k_ (.slice Ao45 t521.length co45) ∧ S.N k_ (.slice Ao54 t525.length co54)) (.slice Ao49 t524.length co49) t524) ∧ (Kd.R (Kd.int .i64) 3 w' w.heap.size (fun k_ => some k_ ≠ (s_.2.1 : Value).ownBlock ∧ some k_ ≠ (s_.2.2.1 : Value).ownBlock ∧ some k_ ≠ (s_.2.2.2.1 : Value).ownBlock ∧ some k_ ≠ (s_.2.2.2.2.1 : Value).ownBlock ∧ S.N k_ (.slice Ao30 t473.length co30) ∧ S.N k_ (.slice Ao33 t477.length co33) ∧ S.N k_ (.slice Ao41 t520.length co41) ∧ S.N k_ (.slice Ao45 t521.length co45) ∧ S.N k_ (.slice Ao49 t524.length co49)) (.slice Ao54 t525.length co54) t525) ∧ (w'.heap[gb459]? = some (.cells #[.slice A1_0 l1_0.length c1_0, .int .i64 a1_1, .slice A1_2 l1_2.length c1_2, .int .i64 a1_3] 57 (0, 0))) ∧ (w'.heap[gb481]? = some (.cells #[.slice Ao30 t473.length co30, .int .i64 t476, .slice Ao33 t477.length co33, .int .i64 t480] 60 (0, 0))) ∧ (w'.heap[gb493]? = some (.cells #[.slice Ao41 t520.length co41, .int .i64 t488, .slice Ao45 t521.length co45, .int .i64 t492] 60 (0, 0))) ∧ (w'.heap[gb502]? = some (.cells #[.slice Ao49 t524.length co49, .int .i64 t497, .slice Ao54 t525.length co54, .int .i64 t501] 60 (0, 0))) ∧ (w'.heap[s_.2.2.2.2.2]? = some (.cells #[.slice none 0 0, .int .i64 0, .slice none 0 0, .int .i64 0] 60 (0, 0))) ∧ (w.heap.size ≤ s_.2.2.2.2.2) ∧ (w.heap.size ≤ s_.2.2.2.2.2) ∧ (gb459 ≠ s_.2.2.2.2.2) ∧ (s_.2.2.2.2.2 ≠ gb459) ∧ (gb481 ≠ s_.2.2.2.2.2) ∧ (s_.2.2.2.2.2 ≠ gb481) ∧ (gb493 ≠ s_.2.2.2.2.2) ∧ (s_.2.2.2.2.2 ≠ gb493) ∧ (gb502 ≠ s_.2.2.2.2.2) ∧ (s_.2.2.2.2.2 ≠ gb502) ∧ (Below w.heap.size w w')) ?_ ?_
                   rotate_left
                   ·intro hCont
                    refine two_ (i := 1) (j := 6) (Ni := some 80) (Nj := some 15) #[true, true, true, false, true, false, false, false] #[true, false, true, false, true, false, true, false] rfl rfl rfl rfl (two_of HT_.out (by kernel_rfl)) (by decide) (by decide) (fun K hK => ?_) (fun K hK => ?_)
                    ·skip
                     refine S.go Try.func14 #[.slice A0 l0.length c0] ?_
                     with_reducible refine (laws_toPathS.calls kj105 _ _ l0 t527 _ ?s1 ?s2 A108.out).mono ?_
                     (case s1 => exact S.cA HR0.out)
                     (case s2 => exact HC0.out)
                     rintro e w114 ⟨v528, rfl, ho0, hb⟩
                     refine ⟨_, rfl, ?_⟩
                     replace HO_482000 := S.rb HO_482000 hb
                     replace HO_482002 := S.rb HO_482002 hb
                     replace HO_494000 := S.rb HO_494000 hb
                     replace HO_494002 := S.rb HO_494002 hb
                     replace HO_503000 := S.rb HO_503000 hb
                     replace HO_503002 := S.rb HO_503002 hb
                     have HO529 := S.lwG ho0
                     replace BK459 := S.kb BK459 hb
                     replace BK481 := S.kb BK481 hb
                     replace BK493 := S.kb BK493 hb
                     replace BK502 := S.kb BK502 hb
                     replace HB := S.sG hb
                     (try clear hb)
                     (try clear hb2)
                     (try clear hk)
                     (try clear hi)
                     (try clear ho0)
                     refine hK.out _ _ (S.e4 BK459.out) (fun hHeld => ?_)
                     clear hK K
                     refine S.nm 80 ?_
                     refine two_ (i := 3) (j := 6) (Ni := some 82) (Nj := some 15) #[true, true, true, true, true, false, false, false] #[true, true, true, false, true, false, true, false] rfl rfl rfl rfl (two_of HT_.out (by kernel_rfl)) (by decide) (by decide) (fun K hK => ?_) (fun K hK => ?_)
                     ·skip
                      refine S.go Try.func35 #[.agg #[.slice A1_0 l1_0.length c1_0, .int .i64 a1_1, .slice A1_2 l1_2.length c1_2, .int .i64 a1_3]] ?_
                      with_reducible refine (laws_toControl.calls kj105 _ _ l1_0 a1_1 _ _ l1_2 a1_3 t530 t533 t534 t537 _ ?s1 ?s2 ?s3 ?s4 A109.out).mono ?_
                      (case s1 => exact S.cA HR1_0.out)
                      (case s2 => exact HC1_0.out)
                      (case s3 => exact S.cA HR1_2.out)
                      (case s4 => exact HC1_2.out)
                      rintro e w115 ⟨v531, v535, rfl, ho0, ho1, hb⟩
                      refine ⟨_, rfl, ?_⟩
                      replace HO529 := S.rb HO529 hb
                      have HO532 := Aside0.mk (Kd.R_lower (Kd.R_new' (Kd.R_new' (Kd.R_new' (Kd.R_new' (Kd.R_new' (Kd.R_new' ho0 (Kd.R_lt (S.uR HO_482000.out))) (Kd.R_lt (S.uR HO_482002.out))) (Kd.R_lt (S.uR HO_494000.out))) (Kd.R_lt (S.uR HO_494002.out))) (Kd.R_lt (S.uR HO_503000.out))) (Kd.R_lt (S.uR HO_503002.out))) (below_size S.bG))
                      have HO536 := Aside0.mk (Kd.R_lower (Kd.R_new' (Kd.R_new' (Kd.R_new' (Kd.R_new' (Kd.R_new' (Kd.R_new' ho1 (Kd.R_lt (S.uR HO_482000.out))) (Kd.R_lt (S.uR HO_482002.out))) (Kd.R_lt (S.uR HO_494000.out))) (Kd.R_lt (S.uR HO_494002.out))) (Kd.R_lt (S.uR HO_503000.out))) (Kd.R_lt (S.uR HO_503002.out))) (below_size S.bG))
                      replace HO_482000 := Aside0.mk (Kd.R_mono (Kd.R_told (Kd.R_told (Kd.R_old (S.uR HO_482000.out) hb) (Kd.R_base ho0)) (Kd.R_base ho1)) (fun _ h_ => h_.1))
                      replace HO_482002 := Aside0.mk (Kd.R_mono (Kd.R_told (Kd.R_told (Kd.R_old (S.uR HO_482002.out) hb) (Kd.R_base ho0)) (Kd.R_base ho1)) (fun _ h_ => h_.1))
                      replace HO_494000 := Aside0.mk (Kd.R_mono (Kd.R_told (Kd.R_told (Kd.R_old (S.uR HO_494000.out) hb) (Kd.R_base ho0)) (Kd.R_base ho1)) (fun _ h_ => h_.1))
                      replace HO_494002 := Aside0.mk (Kd.R_mono (Kd.R_told (Kd.R_told (Kd.R_old (S.uR HO_494002.out) hb) (Kd.R_base ho0)) (Kd.R_base ho1)) (fun _ h_ => h_.1))
                      replace HO_503000 := Aside0.mk (Kd.R_mono (Kd.R_told (Kd.R_told (Kd.R_old (S.uR HO_503000.out) hb) (Kd.R_base ho0)) (Kd.R_base ho1)) (fun _ h_ => h_.1))
                      replace HO_503002 := Aside0.mk (Kd.R_mono (Kd.R_told (Kd.R_told (Kd.R_old (S.uR HO_503002.out) hb) (Kd.R_base ho0)) (Kd.R_base ho1)) (fun _ h_ => h_.1))
                      replace BK459 := S.kb BK459 hb
                      replace BK481 := S.kb BK481 hb
                      replace BK493 := S.kb BK493 hb
                      replace BK502 := S.kb BK502 hb
                      replace HB := S.sG hb
                      (try clear hb)
                      (try clear hb2)
                      (try clear hk)
                      (try clear hi)
                      (try clear ho0)
                      (try clear ho1)
                      obtain ⟨Ao116, co116, eo116⟩ := Kd.R_slice HO529.out
                      (first | subst eo116 | (injection eo116 with f1_ f2_ f3_; have f4_ := f1_.symm; have f5_ := f3_.symm; clear f1_ f2_ f3_; subst f4_; subst f5_))
                      obtain ⟨Ao117, co117, eo117⟩ := Kd.R_slice HO532.out
                      (first | subst eo117 | (injection eo117 with f1_ f2_ f3_; have f4_ := f1_.symm; have f5_ := f3_.symm; clear f1_ f2_ f3_; subst f4_; subst f5_))
                      obtain ⟨Ao118, co118, eo118⟩ := Kd.R_slice HO536.out
                      (first | subst eo118 | (injection eo118 with f1_ f2_ f3_; have f4_ := f1_.symm; have f5_ := f3_.symm; clear f1_ f2_ f3_; subst f4_; subst f5_))
                      refine hK.out _ _ (S.e4 BK459.out) (fun hHeld => ?_)
                      clear hK K
                      refine S.nm 82 ?_
                      refine two_ (i := 5) (j := 6) (Ni := some 84) (Nj := some 15) #[true, true, true, true, true, true, false, false] #[true, true, true, true, true, false, true, false] rfl rfl rfl rfl (two_of HT_.out (by kernel_rfl)) (by decide) (by decide) (fun K hK => ?_) (fun K hK => ?_)
                      ·skip
                       refine S.go Try.func48 #[.slice Ao116 t527.length co116, .agg #[.slice Ao117 t530.length co117, .int .i64 t533, .slice Ao118 t534.length co118, .int .i64 t537], .int .i64 a2] ?_
                       with_reducible refine (impl_StepSiren.calls kj105 _ _ t527 _ _ t530 t533 _ _ t534 t537 a2 t538 t541 t542 t545 _ ?s1 ?s2 ?s3 ?s4 ?s5 ?s6 A110.out).mono ?_
                       (case s1 => exact S.rd HO529)
                       (case s2 => exact S.rl HO529)
                       (case s3 => exact S.rd HO532)
                       (case s4 => exact S.rl HO532)
                       (case s5 => exact S.rd HO536)
                       (case s6 => exact S.rl HO536)
                       rintro e w119 ⟨v539, v543, rfl, ho0, ho1, hb⟩
                       refine ⟨_, rfl, ?_⟩
                       replace HO529 := S.rb HO529 hb
                       have HO540 := Aside0.mk (Kd.R_lower (Kd.R_new' (Kd.R_new' (Kd.R_new' (Kd.R_new' (Kd.R_new' (Kd.R_new' (Kd.R_new' (Kd.R_new' ho0 (Kd.R_lt (S.uR HO_482000.out))) (Kd.R_lt (S.uR HO_482002.out))) (Kd.R_lt (S.uR HO_494000.out))) (Kd.R_lt (S.uR HO_494002.out))) (Kd.R_lt (S.uR HO_503000.out))) (Kd.R_lt (S.uR HO_503002.out))) (Kd.R_lt (S.uR HO532.out))) (Kd.R_lt (S.uR HO536.out))) (below_size S.bG))
                       have HO544 := Aside0.mk (Kd.R_lower (Kd.R_new' (Kd.R_new' (Kd.R_new' (Kd.R_new' (Kd.R_new' (Kd.R_new' (Kd.R_new' (Kd.R_new' ho1 (Kd.R_lt (S.uR HO_482000.out))) (Kd.R_lt (S.uR HO_482002.out))) (Kd.R_lt (S.uR HO_494000.out))) (Kd.R_lt (S.uR HO_494002.out))) (Kd.R_lt (S.uR HO_503000.out))) (Kd.R_lt (S.uR HO_503002.out))) (Kd.R_lt (S.uR HO532.out))) (Kd.R_lt (S.uR HO536.out))) (below_size S.bG))
                       replace HO_482000 := Aside0.mk (Kd.R_mono (Kd.R_told (Kd.R_told (Kd.R_old (S.uR HO_482000.out) hb) (Kd.R_base ho0)) (Kd.R_base ho1)) (fun _ h_ => h_.1))
                       replace HO_482002 := Aside0.mk (Kd.R_mono (Kd.R_told (Kd.R_told (Kd.R_old (S.uR HO_482002.out) hb) (Kd.R_base ho0)) (Kd.R_base ho1)) (fun _ h_ => h_.1))
                       replace HO_494000 := Aside0.mk (Kd.R_mono (Kd.R_told (Kd.R_told (Kd.R_old (S.uR HO_494000.out) hb) (Kd.R_base ho0)) (Kd.R_base ho1)) (fun _ h_ => h_.1))
                       replace HO_494002 := Aside0.mk (Kd.R_mono (Kd.R_told (Kd.R_told (Kd.R_old (S.uR HO_494002.out) hb) (Kd.R_base ho0)) (Kd.R_base ho1)) (fun _ h_ => h_.1))
                       replace HO_503000 := Aside0.mk (Kd.R_mono (Kd.R_told (Kd.R_told (Kd.R_old (S.uR HO_503000.out) hb) (Kd.R_base ho0)) (Kd.R_base ho1)) (fun _ h_ => h_.1))
                       replace HO_503002 := Aside0.mk (Kd.R_mono (Kd.R_told (Kd.R_told (Kd.R_old (S.uR HO_503002.out) hb) (Kd.R_base ho0)) (Kd.R_base ho1)) (fun _ h_ => h_.1))
                       replace HO532 := Aside0.mk (Kd.R_mono (Kd.R_told (Kd.R_told (Kd.R_old (S.uR HO532.out) hb) (Kd.R_base ho0)) (Kd.R_base ho1)) (fun _ h_ => h_.1))
                       replace HO536 := Aside0.mk (Kd.R_mono (Kd.R_told (Kd.R_told (Kd.R_old (S.uR HO536.out) hb) (Kd.R_base ho0)) (Kd.R_base ho1)) (fun _ h_ => h_.1))
                       replace BK459 := S.kb BK459 hb
                       replace BK481 := S.kb BK481 hb
                       replace BK493 := S.kb BK493 hb
                       replace BK502 := S.kb BK502 hb
                       replace HB := S.sG hb
                       (try clear hb)
                       (try clear hb2)
                       (try clear hk)
                       (try clear hi)
                       (try clear ho0)
                       (try clear ho1)
                       refine hK.out _ _ (S.e4 BK459.out) (fun hHeld => ?_)
                       clear hK K
                       refine S.nm 84 ?_
                       refine S.oN 6 15 #[true, true, true, true, true, true, true, false] (fun K hK => ?_)
                       refine box_step ?hg (N := 15) ?hd (cs := #[.slice none 0 0, .int .i64 0, .slice none 0 0, .int .i64 0]) (t := 60) ?hr ?_; (case hd => rfl); (case hg => rfl); (case hr => first | (go_simp; done) | (go_simp; rfl))
                       intro gb546 hg w120 hbox hb
                       replace HO_482000 := S.rb HO_482000 hb
                       replace HO_482002 := S.rb HO_482002 hb
                       replace HO_494000 := S.rb HO_494000 hb
                       replace HO_494002 := S.rb HO_494002 hb
                       replace HO_503000 := S.rb HO_503000 hb
                       replace HO_503002 := S.rb HO_503002 hb
                       replace HO529 := S.rb HO529 hb
                       replace HO532 := S.rb HO532 hb
                       replace HO536 := S.rb HO536 hb
                       replace HO540 := S.rb HO540 hb
                       replace HO544 := S.rb HO544 hb
                       have BK546 := Aside0.mk hbox
                       have GW546 := S.geG hg
                       have GE546 := S.geG hg
                       replace HB := S.sG hb
                       have NB459_546 := S.nl hg BK459
                       have NB546_459 := S.ng hg BK459
                       replace BK459 := S.kb BK459 hb
                       have NB481_546 := S.nl hg BK481
                       have NB546_481 := S.ng hg BK481
                       replace BK481 := S.kb BK481 hb
                       have NB493_546 := S.nl hg BK493
                       have NB546_493 := S.ng hg BK493
                       replace BK493 := S.kb BK493 hb
                       have NB502_546 := S.nl hg BK502
                       have NB546_502 := S.ng hg BK502
                       replace BK502 := S.kb BK502 hb
                       clear hb hbox hg
                       refine hK.out _ _ (S.e4 BK459.out) (fun hHeld => ?_)
                       clear hK K
                       refine S.nm 15 ?_
                       exact norm_ (by simp only [putAll, Act.put, List.setIfInBounds_toArray, List.set_cons_zero, List.set_cons_succ]) (hCont (.slice Ao116 t527.length co116, .slice Ao117 t530.length co117, .slice Ao118 t534.length co118, v539, v543, gb546) _ ⟨hHeld, (S.uR HO529.out), (by (with_reducible repeat (first | apply Kd.R_alloc | apply Kd.R_drewN | apply Kd.R_drew)); exact Kd.R_mono HO532.out (fun _ hk => ⟨hk.1.1.1.1.1.1.1.1, ⟨hk.1.2, ⟨hk.2, ⟨hk.1.1.1.1.1.1.1.2, ⟨hk.1.1.1.1.1.1.2, ⟨hk.1.1.1.1.1.2, ⟨hk.1.1.1.1.2, ⟨hk.1.1.1.2, hk.1.1.2⟩⟩⟩⟩⟩⟩⟩⟩)), (by (with_reducible repeat (first | apply Kd.R_alloc | apply Kd.R_drewN | apply Kd.R_drew)); exact Kd.R_mono HO536.out (fun _ hk => ⟨hk.1.1.1.1.1.1.1.1, ⟨hk.1.2, ⟨hk.2, ⟨hk.1.1.1.1.1.1.1.2, ⟨hk.1.1.1.1.1.1.2, ⟨hk.1.1.1.1.1.2, ⟨hk.1.1.1.1.2, ⟨hk.1.1.1.2, hk.1.1.2⟩⟩⟩⟩⟩⟩⟩⟩)), (by (with_reducible repeat (first | apply Kd.R_alloc | apply Kd.R_drewN | apply Kd.R_drew)); exact Kd.R_mono HO540.out (fun _ hk => ⟨hk.1.2, ⟨hk.2, ⟨hk.1.1.1.1.1.1.1.1, ⟨hk.1.1.1.1.1.1.1.2, ⟨hk.1.1.1.1.1.1.2, ⟨hk.1.1.1.1.1.2, ⟨hk.1.1.1.1.2, ⟨hk.1.1.1.2, hk.1.1.2⟩⟩⟩⟩⟩⟩⟩⟩)), (by (with_reducible repeat (first | apply Kd.R_alloc | apply Kd.R_drewN | apply Kd.R_drew)); exact Kd.R_mono HO544.out (fun _ hk => ⟨hk.1.2, ⟨hk.2, ⟨hk.1.1.1.1.1.1.1.1, ⟨hk.1.1.1.1.1.1.1.2, ⟨hk.1.1.1.1.1.1.2, ⟨hk.1.1.1.1.1.2, ⟨hk.1.1.1.1.2, ⟨hk.1.1.1.2, hk.1.1.2⟩⟩⟩⟩⟩⟩⟩⟩)), (by (with_reducible repeat (first | apply Kd.R_alloc | apply Kd.R_drewN | apply Kd.R_drew)); exact Kd.R_mono HO_482000.out (fun _ hk => ⟨hk.1.1.1.2, ⟨hk.1.1.2, ⟨hk.1.2, ⟨hk.2, ⟨hk.1.1.1.1.1, ⟨hk.1.1.1.1.2.1, ⟨hk.1.1.1.1.2.2.1, ⟨hk.1.1.1.1.2.2.2.1, hk.1.1.1.1.2.2.2.2⟩⟩⟩⟩⟩⟩⟩⟩)), (by (with_reducible repeat (first | apply Kd.R_alloc | apply Kd.R_drewN | apply Kd.R_drew)); exact Kd.R_mono HO_482002.out (fun _ hk => ⟨hk.1.1.1.2, ⟨hk.1.1.2, ⟨hk.1.2, ⟨hk.2, ⟨hk.1.1.1.1.1, ⟨hk.1.1.1.1.2.1, ⟨hk.1.1.1.1.2.2.1, ⟨hk.1.1.1.1.2.2.2.1, hk.1.1.1.1.2.2.2.2⟩⟩⟩⟩⟩⟩⟩⟩)), (by (with_reducible repeat (first | apply Kd.R_alloc | apply Kd.R_drewN | apply Kd.R_drew)); exact Kd.R_mono HO_494000.out (fun _ hk => ⟨hk.1.1.1.2, ⟨hk.1.1.2, ⟨hk.1.2, ⟨hk.2, ⟨hk.1.1.1.1.1, ⟨hk.1.1.1.1.2.1, ⟨hk.1.1.1.1.2.2.1, ⟨hk.1.1.1.1.2.2.2.1, hk.1.1.1.1.2.2.2.2⟩⟩⟩⟩⟩⟩⟩⟩)), (by (with_reducible repeat (first | apply Kd.R_alloc | apply Kd.R_drewN | apply Kd.R_drew)); exact Kd.R_mono HO_494002.out (fun _ hk => ⟨hk.1.1.1.2, ⟨hk.1.1.2, ⟨hk.1.2, ⟨hk.2, ⟨hk.1.1.1.1.1, ⟨hk.1.1.1.1.2.1, ⟨hk.1.1.1.1.2.2.1, ⟨hk.1.1.1.1.2.2.2.1, hk.1.1.1.1.2.2.2.2⟩⟩⟩⟩⟩⟩⟩⟩)), (by (with_reducible repeat (first | apply Kd.R_alloc | apply Kd.R_drewN | apply Kd.R_drew)); exact Kd.R_mono HO_503000.out (fun _ hk => ⟨hk.1.1.1.2, ⟨hk.1.1.2, ⟨hk.1.2, ⟨hk.2, ⟨hk.1.1.1.1.1, ⟨hk.1.1.1.1.2.1, ⟨hk.1.1.1.1.2.2.1, ⟨hk.1.1.1.1.2.2.2.1, hk.1.1.1.1.2.2.2.2⟩⟩⟩⟩⟩⟩⟩⟩)), (by (with_reducible repeat (first | apply Kd.R_alloc | apply Kd.R_drewN | apply Kd.R_drew)); exact Kd.R_mono HO_503002.out (fun _ hk => ⟨hk.1.1.1.2, ⟨hk.1.1.2, ⟨hk.1.2, ⟨hk.2, ⟨hk.1.1.1.1.1, ⟨hk.1.1.1.1.2.1, ⟨hk.1.1.1.1.2.2.1, ⟨hk.1.1.1.1.2.2.2.1, hk.1.1.1.1.2.2.2.2⟩⟩⟩⟩⟩⟩⟩⟩)), (S.uB BK459.out), (S.uB BK481.out), (S.uB BK493.out), (S.uB BK502.out), (S.uB BK546.out), GW546.out, GE546.out, NB459_546.out, NB546_459.out, NB481_546.out, NB546_481.out, NB493_546.out, NB546_493.out, NB502_546.out, NB546_502.out, S.bG⟩)
                      ·skip
                       refine box_step ?hg (N := 15) ?hd (cs := #[.slice none 0 0, .int .i64 0, .slice none 0 0, .int .i64 0]) (t := 60) ?hr ?_; (case hd => rfl); (case hg => rfl); (case hr => first | (go_simp; done) | (go_simp; rfl))
                       intro gb546 hg w116 hbox hb
                       replace HO_482000 := S.rb HO_482000 hb
                       replace HO_482002 := S.rb HO_482002 hb
                       replace HO_494000 := S.rb HO_494000 hb
                       replace HO_494002 := S.rb HO_494002 hb
                       replace HO_503000 := S.rb HO_503000 hb
                       replace HO_503002 := S.rb HO_503002 hb
                       replace HO529 := S.rb HO529 hb
                       replace HO532 := S.rb HO532 hb
                       replace HO536 := S.rb HO536 hb
                       have BK546 := Aside0.mk hbox
                       have GW546 := S.geG hg
                       have GE546 := S.geG hg
                       replace HB := S.sG hb
                       have NB459_546 := S.nl hg BK459
                       have NB546_459 := S.ng hg BK459
                       replace BK459 := S.kb BK459 hb
                       have NB481_546 := S.nl hg BK481
                       have NB546_481 := S.ng hg BK481
                       replace BK481 := S.kb BK481 hb
                       have NB493_546 := S.nl hg BK493
                       have NB546_493 := S.ng hg BK493
                       replace BK493 := S.kb BK493 hb
                       have NB502_546 := S.nl hg BK502
                       have NB546_502 := S.ng hg BK502
                       replace BK502 := S.kb BK502 hb
                       clear hb hbox hg
                       obtain ⟨Ao117, co117, eo117⟩ := Kd.R_slice HO529.out
                       (first | subst eo117 | (injection eo117 with f1_ f2_ f3_; have f4_ := f1_.symm; have f5_ := f3_.symm; clear f1_ f2_ f3_; subst f4_; subst f5_))
                       obtain ⟨Ao118, co118, eo118⟩ := Kd.R_slice HO532.out
                       (first | subst eo118 | (injection eo118 with f1_ f2_ f3_; have f4_ := f1_.symm; have f5_ := f3_.symm; clear f1_ f2_ f3_; subst f4_; subst f5_))
                       obtain ⟨Ao119, co119, eo119⟩ := Kd.R_slice HO536.out
                       (first | subst eo119 | (injection eo119 with f1_ f2_ f3_; have f4_ := f1_.symm; have f5_ := f3_.symm; clear f1_ f2_ f3_; subst f4_; subst f5_))
                       refine hK.out _ _ (S.e4 BK459.out) (fun hHeld => ?_)
                       clear hK K
                       refine S.nm 15 ?_
                       refine S.oN 5 84 #[true, true, true, true, true, true, true, false] (fun K hK => ?_)
                       refine S.go Try.func48 #[.slice Ao117 t527.length co117, .agg #[.slice Ao118 t530.length co118, .int .i64 t533, .slice Ao119 t534.length co119, .int .i64 t537], .int .i64 a2] ?_
                       with_reducible refine (impl_StepSiren.calls kj105 _ _ t527 _ _ t530 t533 _ _ t534 t537 a2 t538 t541 t542 t545 _ ?s1 ?s2 ?s3 ?s4 ?s5 ?s6 A110.out).mono ?_
                       (case s1 => exact S.rd HO529)
                       (case s2 => exact S.rl HO529)
                       (case s3 => exact S.rd HO532)
                       (case s4 => exact S.rl HO532)
                       (case s5 => exact S.rd HO536)
                       (case s6 => exact S.rl HO536)
                       rintro e w120 ⟨v539, v543, rfl, ho0, ho1, hb⟩
                       refine ⟨_, rfl, ?_⟩
                       replace HO529 := S.rb HO529 hb
                       have HO540 := Aside0.mk (Kd.R_lower (Kd.R_new' (Kd.R_new' (Kd.R_new' (Kd.R_new' (Kd.R_new' (Kd.R_new' (Kd.R_new' (Kd.R_new' ho0 (Kd.R_lt (S.uR HO_482000.out))) (Kd.R_lt (S.uR HO_482002.out))) (Kd.R_lt (S.uR HO_494000.out))) (Kd.R_lt (S.uR HO_494002.out))) (Kd.R_lt (S.uR HO_503000.out))) (Kd.R_lt (S.uR HO_503002.out))) (Kd.R_lt (S.uR HO532.out))) (Kd.R_lt (S.uR HO536.out))) (below_size S.bG))
                       have HO544 := Aside0.mk (Kd.R_lower (Kd.R_new' (Kd.R_new' (Kd.R_new' (Kd.R_new' (Kd.R_new' (Kd.R_new' (Kd.R_new' (Kd.R_new' ho1 (Kd.R_lt (S.uR HO_482000.out))) (Kd.R_lt (S.uR HO_482002.out))) (Kd.R_lt (S.uR HO_494000.out))) (Kd.R_lt (S.uR HO_494002.out))) (Kd.R_lt (S.uR HO_503000.out))) (Kd.R_lt (S.uR HO_503002.out))) (Kd.R_lt (S.uR HO532.out))) (Kd.R_lt (S.uR HO536.out))) (below_size S.bG))
                       replace HO_482000 := Aside0.mk (Kd.R_mono (Kd.R_told (Kd.R_told (Kd.R_old (S.uR HO_482000.out) hb) (Kd.R_base ho0)) (Kd.R_base ho1)) (fun _ h_ => h_.1))
                       replace HO_482002 := Aside0.mk (Kd.R_mono (Kd.R_told (Kd.R_told (Kd.R_old (S.uR HO_482002.out) hb) (Kd.R_base ho0)) (Kd.R_base ho1)) (fun _ h_ => h_.1))
                       replace HO_494000 := Aside0.mk (Kd.R_mono (Kd.R_told (Kd.R_told (Kd.R_old (S.uR HO_494000.out) hb) (Kd.R_base ho0)) (Kd.R_base ho1)) (fun _ h_ => h_.1))
                       replace HO_494002 := Aside0.mk (Kd.R_mono (Kd.R_told (Kd.R_told (Kd.R_old (S.uR HO_494002.out) hb) (Kd.R_base ho0)) (Kd.R_base ho1)) (fun _ h_ => h_.1))
                       replace HO_503000 := Aside0.mk (Kd.R_mono (Kd.R_told (Kd.R_told (Kd.R_old (S.uR HO_503000.out) hb) (Kd.R_base ho0)) (Kd.R_base ho1)) (fun _ h_ => h_.1))
                       replace HO_503002 := Aside0.mk (Kd.R_mono (Kd.R_told (Kd.R_told (Kd.R_old (S.uR HO_503002.out) hb) (Kd.R_base ho0)) (Kd.R_base ho1)) (fun _ h_ => h_.1))
                       replace HO532 := Aside0.mk (Kd.R_mono (Kd.R_told (Kd.R_told (Kd.R_old (S.uR HO532.out) hb) (Kd.R_base ho0)) (Kd.R_base ho1)) (fun _ h_ => h_.1))
                       replace HO536 := Aside0.mk (Kd.R_mono (Kd.R_told (Kd.R_told (Kd.R_old (S.uR HO536.out) hb) (Kd.R_base ho0)) (Kd.R_base ho1)) (fun _ h_ => h_.1))
                       replace BK459 := S.kb BK459 hb
                       replace BK481 := S.kb BK481 hb
                       replace BK493 := S.kb BK493 hb
                       replace BK502 := S.kb BK502 hb
                       replace BK546 := S.kb BK546 hb
                       replace HB := S.sG hb
                       (try clear hb)
                       (try clear hb2)
                       (try clear hk)
                       (try clear hi)
                       (try clear ho0)
                       (try clear ho1)
                       refine hK.out _ _ (S.e4 BK459.out) (fun hHeld => ?_)
                       clear hK K
                       refine S.nm 84 ?_
                       exact norm_ (by simp only [putAll, Act.put, List.setIfInBounds_toArray, List.set_cons_zero, List.set_cons_succ]) (hCont (.slice Ao117 t527.length co117, .slice Ao118 t530.length co118, .slice Ao119 t534.length co119, v539, v543, gb546) _ ⟨hHeld, (S.uR HO529.out), (by (with_reducible repeat (first | apply Kd.R_alloc | apply Kd.R_drewN | apply Kd.R_drew)); exact Kd.R_mono HO532.out (fun _ hk => ⟨hk.1.1.1.1.1.1.1.1, ⟨hk.1.2, ⟨hk.2, ⟨hk.1.1.1.1.1.1.1.2, ⟨hk.1.1.1.1.1.1.2, ⟨hk.1.1.1.1.1.2, ⟨hk.1.1.1.1.2, ⟨hk.1.1.1.2, hk.1.1.2⟩⟩⟩⟩⟩⟩⟩⟩)), (by (with_reducible repeat (first | apply Kd.R_alloc | apply Kd.R_drewN | apply Kd.R_drew)); exact Kd.R_mono HO536.out (fun _ hk => ⟨hk.1.1.1.1.1.1.1.1, ⟨hk.1.2, ⟨hk.2, ⟨hk.1.1.1.1.1.1.1.2, ⟨hk.1.1.1.1.1.1.2, ⟨hk.1.1.1.1.1.2, ⟨hk.1.1.1.1.2, ⟨hk.1.1.1.2, hk.1.1.2⟩⟩⟩⟩⟩⟩⟩⟩)), (by (with_reducible repeat (first | apply Kd.R_alloc | apply Kd.R_drewN | apply Kd.R_drew)); exact Kd.R_mono HO540.out (fun _ hk => ⟨hk.1.2, ⟨hk.2, ⟨hk.1.1.1.1.1.1.1.1, ⟨hk.1.1.1.1.1.1.1.2, ⟨hk.1.1.1.1.1.1.2, ⟨hk.1.1.1.1.1.2, ⟨hk.1.1.1.1.2, ⟨hk.1.1.1.2, hk.1.1.2⟩⟩⟩⟩⟩⟩⟩⟩)), (by (with_reducible repeat (first | apply Kd.R_alloc | apply Kd.R_drewN | apply Kd.R_drew)); exact Kd.R_mono HO544.out (fun _ hk => ⟨hk.1.2, ⟨hk.2, ⟨hk.1.1.1.1.1.1.1.1, ⟨hk.1.1.1.1.1.1.1.2, ⟨hk.1.1.1.1.1.1.2, ⟨hk.1.1.1.1.1.2, ⟨hk.1.1.1.1.2, ⟨hk.1.1.1.2, hk.1.1.2⟩⟩⟩⟩⟩⟩⟩⟩)), (by (with_reducible repeat (first | apply Kd.R_alloc | apply Kd.R_drewN | apply Kd.R_drew)); exact Kd.R_mono HO_482000.out (fun _ hk => ⟨hk.1.1.1.2, ⟨hk.1.1.2, ⟨hk.1.2, ⟨hk.2, ⟨hk.1.1.1.1.1, ⟨hk.1.1.1.1.2.1, ⟨hk.1.1.1.1.2.2.1, ⟨hk.1.1.1.1.2.2.2.1, hk.1.1.1.1.2.2.2.2⟩⟩⟩⟩⟩⟩⟩⟩)), (by (with_reducible repeat (first | apply Kd.R_alloc | apply Kd.R_drewN | apply Kd.R_drew)); exact Kd.R_mono HO_482002.out (fun _ hk => ⟨hk.1.1.1.2, ⟨hk.1.1.2, ⟨hk.1.2, ⟨hk.2, ⟨hk.1.1.1.1.1, ⟨hk.1.1.1.1.2.1, ⟨hk.1.1.1.1.2.2.1, ⟨hk.1.1.1.1.2.2.2.1, hk.1.1.1.1.2.2.2.2⟩⟩⟩⟩⟩⟩⟩⟩)), (by (with_reducible repeat (first | apply Kd.R_alloc | apply Kd.R_drewN | apply Kd.R_drew)); exact Kd.R_mono HO_494000.out (fun _ hk => ⟨hk.1.1.1.2, ⟨hk.1.1.2, ⟨hk.1.2, ⟨hk.2, ⟨hk.1.1.1.1.1, ⟨hk.1.1.1.1.2.1, ⟨hk.1.1.1.1.2.2.1, ⟨hk.1.1.1.1.2.2.2.1, hk.1.1.1.1.2.2.2.2⟩⟩⟩⟩⟩⟩⟩⟩)), (by (with_reducible repeat (first | apply Kd.R_alloc | apply Kd.R_drewN | apply Kd.R_drew)); exact Kd.R_mono HO_494002.out (fun _ hk => ⟨hk.1.1.1.2, ⟨hk.1.1.2, ⟨hk.1.2, ⟨hk.2, ⟨hk.1.1.1.1.1, ⟨hk.1.1.1.1.2.1, ⟨hk.1.1.1.1.2.2.1, ⟨hk.1.1.1.1.2.2.2.1, hk.1.1.1.1.2.2.2.2⟩⟩⟩⟩⟩⟩⟩⟩)), (by (with_reducible repeat (first | apply Kd.R_alloc | apply Kd.R_drewN | apply Kd.R_drew)); exact Kd.R_mono HO_503000.out (fun _ hk => ⟨hk.1.1.1.2, ⟨hk.1.1.2, ⟨hk.1.2, ⟨hk.2, ⟨hk.1.1.1.1.1, ⟨hk.1.1.1.1.2.1, ⟨hk.1.1.1.1.2.2.1, ⟨hk.1.1.1.1.2.2.2.1, hk.1.1.1.1.2.2.2.2⟩⟩⟩⟩⟩⟩⟩⟩)), (by (with_reducible repeat (first | apply Kd.R_alloc | apply Kd.R_drewN | apply Kd.R_drew)); exact Kd.R_mono HO_503002.out (fun _ hk => ⟨hk.1.1.1.2, ⟨hk.1.1.2, ⟨hk.1.2, ⟨hk.2, ⟨hk.1.1.1.1.1, ⟨hk.1.1.1.1.2.1, ⟨hk.1.1.1.1.2.2.1, ⟨hk.1.1.1.1.2.2.2.1, hk.1.1.1.1.2.2.2.2⟩⟩⟩⟩⟩⟩⟩⟩)), (S.uB BK459.out), (S.uB BK481.out), (S.uB BK493.out), (S.uB BK502.out), (S.uB BK546.out), GW546.out, GE546.out, NB459_546.out, NB546_459.out, NB481_546.out, NB546_481.out, NB493_546.out, NB546_493.out, NB502_546.out, NB546_502.out, S.bG⟩)
                     ·skip
                      refine box_step ?hg (N := 15) ?hd (cs := #[.slice none 0 0, .int .i64 0, .slice none 0 0, .int .i64 0]) (t := 60) ?hr ?_; (case hd => rfl); (case hg => rfl); (case hr => first | (go_simp; done) | (go_simp; rfl))
                      intro gb546 hg w115 hbox hb
                      replace HO_482000 := S.rb HO_482000 hb
                      replace HO_482002 := S.rb HO_482002 hb
                      replace HO_494000 := S.rb HO_494000 hb
                      replace HO_494002 := S.rb HO_494002 hb
                      replace HO_503000 := S.rb HO_503000 hb
                      replace HO_503002 := S.rb HO_503002 hb
                      replace HO529 := S.rb HO529 hb
                      have BK546 := Aside0.mk hbox
                      have GW546 := S.geG hg
                      have GE546 := S.geG hg
                      replace HB := S.sG hb
                      have NB459_546 := S.nl hg BK459
                      have NB546_459 := S.ng hg BK459
                      replace BK459 := S.kb BK459 hb
                      have NB481_546 := S.nl hg BK481
                      have NB546_481 := S.ng hg BK481
                      replace BK481 := S.kb BK481 hb
                      have NB493_546 := S.nl hg BK493
                      have NB546_493 := S.ng hg BK493
                      replace BK493 := S.kb BK493 hb
                      have NB502_546 := S.nl hg BK502
                      have NB546_502 := S.ng hg BK502
                      replace BK502 := S.kb BK502 hb
                      clear hb hbox hg
                      refine hK.out _ _ (S.e4 BK459.out) (fun hHeld => ?_)
                      clear hK K
                      refine S.nm 15 ?_
                      refine S.oN 3 82 #[true, true, true, true, true, false, true, false] (fun K hK => ?_)
                      refine S.go Try.func35 #[.agg #[.slice A1_0 l1_0.length c1_0, .int .i64 a1_1, .slice A1_2 l1_2.length c1_2, .int .i64 a1_3]] ?_
                      with_reducible refine (laws_toControl.calls kj105 _ _ l1_0 a1_1 _ _ l1_2 a1_3 t530 t533 t534 t537 _ ?s1 ?s2 ?s3 ?s4 A109.out).mono ?_
                      (case s1 => exact S.cA HR1_0.out)
                      (case s2 => exact HC1_0.out)
                      (case s3 => exact S.cA HR1_2.out)
                      (case s4 => exact HC1_2.out)
                      rintro e w116 ⟨v531, v535, rfl, ho0, ho1, hb⟩
                      refine ⟨_, rfl, ?_⟩
                      replace HO529 := S.rb HO529 hb
                      have HO532 := Aside0.mk (Kd.R_lower (Kd.R_new' (Kd.R_new' (Kd.R_new' (Kd.R_new' (Kd.R_new' (Kd.R_new' ho0 (Kd.R_lt (S.uR HO_482000.out))) (Kd.R_lt (S.uR HO_482002.out))) (Kd.R_lt (S.uR HO_494000.out))) (Kd.R_lt (S.uR HO_494002.out))) (Kd.R_lt (S.uR HO_503000.out))) (Kd.R_lt (S.uR HO_503002.out))) (below_size S.bG))
                      have HO536 := Aside0.mk (Kd.R_lower (Kd.R_new' (Kd.R_new' (Kd.R_new' (Kd.R_new' (Kd.R_new' (Kd.R_new' ho1 (Kd.R_lt (S.uR HO_482000.out))) (Kd.R_lt (S.uR HO_482002.out))) (Kd.R_lt (S.uR HO_494000.out))) (Kd.R_lt (S.uR HO_494002.out))) (Kd.R_lt (S.uR HO_503000.out))) (Kd.R_lt (S.uR HO_503002.out))) (below_size S.bG))
                      replace HO_482000 := Aside0.mk (Kd.R_mono (Kd.R_told (Kd.R_told (Kd.R_old (S.uR HO_482000.out) hb) (Kd.R_base ho0)) (Kd.R_base ho1)) (fun _ h_ => h_.1))
                      replace HO_482002 := Aside0.mk (Kd.R_mono (Kd.R_told (Kd.R_told (Kd.R_old (S.uR HO_482002.out) hb) (Kd.R_base ho0)) (Kd.R_base ho1)) (fun _ h_ => h_.1))
                      replace HO_494000 := Aside0.mk (Kd.R_mono (Kd.R_told (Kd.R_told (Kd.R_old (S.uR HO_494000.out) hb) (Kd.R_base ho0)) (Kd.R_base ho1)) (fun _ h_ => h_.1))
                      replace HO_494002 := Aside0.mk (Kd.R_mono (Kd.R_told (Kd.R_told (Kd.R_old (S.uR HO_494002.out) hb) (Kd.R_base ho0)) (Kd.R_base ho1)) (fun _ h_ => h_.1))
                      replace HO_503000 := Aside0.mk (Kd.R_mono (Kd.R_told (Kd.R_told (Kd.R_old (S.uR HO_503000.out) hb) (Kd.R_base ho0)) (Kd.R_base ho1)) (fun _ h_ => h_.1))
                      replace HO_503002 := Aside0.mk (Kd.R_mono (Kd.R_told (Kd.R_told (Kd.R_old (S.uR HO_503002.out) hb) (Kd.R_base ho0)) (Kd.R_base ho1)) (fun _ h_ => h_.1))
                      replace BK459 := S.kb BK459 hb
                      replace BK481 := S.kb BK481 hb
                      replace BK493 := S.kb BK493 hb
                      replace BK502 := S.kb BK502 hb
                      replace BK546 := S.kb BK546 hb
                      replace HB := S.sG hb
                      (try clear hb)
                      (try clear hb2)
                      (try clear hk)
                      (try clear hi)
                      (try clear ho0)
                      (try clear ho1)
                      obtain ⟨Ao117, co117, eo117⟩ := Kd.R_slice HO529.out
                      (first | subst eo117 | (injection eo117 with f1_ f2_ f3_; have f4_ := f1_.symm; have f5_ := f3_.symm; clear f1_ f2_ f3_; subst f4_; subst f5_))
                      obtain ⟨Ao118, co118, eo118⟩ := Kd.R_slice HO532.out
                      (first | subst eo118 | (injection eo118 with f1_ f2_ f3_; have f4_ := f1_.symm; have f5_ := f3_.symm; clear f1_ f2_ f3_; subst f4_; subst f5_))
                      obtain ⟨Ao119, co119, eo119⟩ := Kd.R_slice HO536.out
                      (first | subst eo119 | (injection eo119 with f1_ f2_ f3_; have f4_ := f1_.symm; have f5_ := f3_.symm; clear f1_ f2_ f3_; subst f4_; subst f5_))
                      refine hK.out _ _ (S.e4 BK459.out) (fun hHeld => ?_)
                      clear hK K
                      refine S.nm 82 ?_
                      refine S.oN 5 84 #[true, true, true, true, true, true, true, false] (fun K hK => ?_)
                      refine S.go Try.func48 #[.slice Ao117 t527.length co117, .agg #[.slice Ao118 t530.length co118, .int .i64 t533, .slice Ao119 t534.length co119, .int .i64 t537], .int .i64 a2] ?_
                      with_reducible refine (impl_StepSiren.calls kj105 _ _ t527 _ _ t530 t533 _ _ t534 t537 a2 t538 t541 t542 t545 _ ?s1 ?s2 ?s3 ?s4 ?s5 ?s6 A110.out).mono ?_
                      (case s1 => exact S.rd HO529)
                      (case s2 => exact S.rl HO529)
                      (case s3 => exact S.rd HO532)
                      (case s4 => exact S.rl HO532)
                      (case s5 => exact S.rd HO536)
                      (case s6 => exact S.rl HO536)
                      rintro e w120 ⟨v539, v543, rfl, ho0, ho1, hb⟩
                      refine ⟨_, rfl, ?_⟩
                      replace HO529 := S.rb HO529 hb
                      have HO540 := Aside0.mk (Kd.R_lower (Kd.R_new' (Kd.R_new' (Kd.R_new' (Kd.R_new' (Kd.R_new' (Kd.R_new' (Kd.R_new' (Kd.R_new' ho0 (Kd.R_lt (S.uR HO_482000.out))) (Kd.R_lt (S.uR HO_482002.out))) (Kd.R_lt (S.uR HO_494000.out))) (Kd.R_lt (S.uR HO_494002.out))) (Kd.R_lt (S.uR HO_503000.out))) (Kd.R_lt (S.uR HO_503002.out))) (Kd.R_lt (S.uR HO532.out))) (Kd.R_lt (S.uR HO536.out))) (below_size S.bG))
                      have HO544 := Aside0.mk (Kd.R_lower (Kd.R_new' (Kd.R_new' (Kd.R_new' (Kd.R_new' (Kd.R_new' (Kd.R_new' (Kd.R_new' (Kd.R_new' ho1 (Kd.R_lt (S.uR HO_482000.out))) (Kd.R_lt (S.uR HO_482002.out))) (Kd.R_lt (S.uR HO_494000.out))) (Kd.R_lt (S.uR HO_494002.out))) (Kd.R_lt (S.uR HO_503000.out))) (Kd.R_lt (S.uR HO_503002.out))) (Kd.R_lt (S.uR HO532.out))) (Kd.R_lt (S.uR HO536.out))) (below_size S.bG))
                      replace HO_482000 := Aside0.mk (Kd.R_mono (Kd.R_told (Kd.R_told (Kd.R_old (S.uR HO_482000.out) hb) (Kd.R_base ho0)) (Kd.R_base ho1)) (fun _ h_ => h_.1))
                      replace HO_482002 := Aside0.mk (Kd.R_mono (Kd.R_told (Kd.R_told (Kd.R_old (S.uR HO_482002.out) hb) (Kd.R_base ho0)) (Kd.R_base ho1)) (fun _ h_ => h_.1))
                      replace HO_494000 := Aside0.mk (Kd.R_mono (Kd.R_told (Kd.R_told (Kd.R_old (S.uR HO_494000.out) hb) (Kd.R_base ho0)) (Kd.R_base ho1)) (fun _ h_ => h_.1))
                      replace HO_494002 := Aside0.mk (Kd.R_mono (Kd.R_told (Kd.R_told (Kd.R_old (S.uR HO_494002.out) hb) (Kd.R_base ho0)) (Kd.R_base ho1)) (fun _ h_ => h_.1))
                      replace HO_503000 := Aside0.mk (Kd.R_mono (Kd.R_told (Kd.R_told (Kd.R_old (S.uR HO_503000.out) hb) (Kd.R_base ho0)) (Kd.R_base ho1)) (fun _ h_ => h_.1))
                      replace HO_503002 := Aside0.mk (Kd.R_mono (Kd.R_told (Kd.R_told (Kd.R_old (S.uR HO_503002.out) hb) (Kd.R_base ho0)) (Kd.R_base ho1)) (fun _ h_ => h_.1))
                      replace HO532 := Aside0.mk (Kd.R_mono (Kd.R_told (Kd.R_told (Kd.R_old (S.uR HO532.out) hb) (Kd.R_base ho0)) (Kd.R_base ho1)) (fun _ h_ => h_.1))
                      replace HO536 := Aside0.mk (Kd.R_mono (Kd.R_told (Kd.R_told (Kd.R_old (S.uR HO536.out) hb) (Kd.R_base ho0)) (Kd.R_base ho1)) (fun _ h_ => h_.1))
                      replace BK459 := S.kb BK459 hb
                      replace BK481 := S.kb BK481 hb
                      replace BK493 := S.kb BK493 hb
                      replace BK502 := S.kb BK502 hb
                      replace BK546 := S.kb BK546 hb
                      replace HB := S.sG hb
                      (try clear hb)
                      (try clear hb2)
                      (try clear hk)
                      (try clear hi)
                      (try clear ho0)
                      (try clear ho1)
                      refine hK.out _ _ (S.e4 BK459.out) (fun hHeld => ?_)
                      clear hK K
                      refine S.nm 84 ?_
                      exact norm_ (by simp only [putAll, Act.put, List.setIfInBounds_toArray, List.set_cons_zero, List.set_cons_succ]) (hCont (.slice Ao117 t527.length co117, .slice Ao118 t530.length co118, .slice Ao119 t534.length co119, v539, v543, gb546) _ ⟨hHeld, (S.uR HO529.out), (by (with_reducible repeat (first | apply Kd.R_alloc | apply Kd.R_drewN | apply Kd.R_drew)); exact Kd.R_mono HO532.out (fun _ hk => ⟨hk.1.1.1.1.1.1.1.1, ⟨hk.1.2, ⟨hk.2, ⟨hk.1.1.1.1.1.1.1.2, ⟨hk.1.1.1.1.1.1.2, ⟨hk.1.1.1.1.1.2, ⟨hk.1.1.1.1.2, ⟨hk.1.1.1.2, hk.1.1.2⟩⟩⟩⟩⟩⟩⟩⟩)), (by (with_reducible repeat (first | apply Kd.R_alloc | apply Kd.R_drewN | apply Kd.R_drew)); exact Kd.R_mono HO536.out (fun _ hk => ⟨hk.1.1.1.1.1.1.1.1, ⟨hk.1.2, ⟨hk.2, ⟨hk.1.1.1.1.1.1.1.2, ⟨hk.1.1.1.1.1.1.2, ⟨hk.1.1.1.1.1.2, ⟨hk.1.1.1.1.2, ⟨hk.1.1.1.2, hk.1.1.2⟩⟩⟩⟩⟩⟩⟩⟩)), (by (with_reducible repeat (first | apply Kd.R_alloc | apply Kd.R_drewN | apply Kd.R_drew)); exact Kd.R_mono HO540.out (fun _ hk => ⟨hk.1.2, ⟨hk.2, ⟨hk.1.1.1.1.1.1.1.1, ⟨hk.1.1.1.1.1.1.1.2, ⟨hk.1.1.1.1.1.1.2, ⟨hk.1.1.1.1.1.2, ⟨hk.1.1.1.1.2, ⟨hk.1.1.1.2, hk.1.1.2⟩⟩⟩⟩⟩⟩⟩⟩)), (by (with_reducible repeat (first | apply Kd.R_alloc | apply Kd.R_drewN | apply Kd.R_drew)); exact Kd.R_mono HO544.out (fun _ hk => ⟨hk.1.2, ⟨hk.2, ⟨hk.1.1.1.1.1.1.1.1, ⟨hk.1.1.1.1.1.1.1.2, ⟨hk.1.1.1.1.1.1.2, ⟨hk.1.1.1.1.1.2, ⟨hk.1.1.1.1.2, ⟨hk.1.1.1.2, hk.1.1.2⟩⟩⟩⟩⟩⟩⟩⟩)), (by (with_reducible repeat (first | apply Kd.R_alloc | apply Kd.R_drewN | apply Kd.R_drew)); exact Kd.R_mono HO_482000.out (fun _ hk => ⟨hk.1.1.1.2, ⟨hk.1.1.2, ⟨hk.1.2, ⟨hk.2, ⟨hk.1.1.1.1.1, ⟨hk.1.1.1.1.2.1, ⟨hk.1.1.1.1.2.2.1, ⟨hk.1.1.1.1.2.2.2.1, hk.1.1.1.1.2.2.2.2⟩⟩⟩⟩⟩⟩⟩⟩)), (by (with_reducible repeat (first | apply Kd.R_alloc | apply Kd.R_drewN | apply Kd.R_drew)); exact Kd.R_mono HO_482002.out (fun _ hk => ⟨hk.1.1.1.2, ⟨hk.1.1.2, ⟨hk.1.2, ⟨hk.2, ⟨hk.1.1.1.1.1, ⟨hk.1.1.1.1.2.1, ⟨hk.1.1.1.1.2.2.1, ⟨hk.1.1.1.1.2.2.2.1, hk.1.1.1.1.2.2.2.2⟩⟩⟩⟩⟩⟩⟩⟩)), (by (with_reducible repeat (first | apply Kd.R_alloc | apply Kd.R_drewN | apply Kd.R_drew)); exact Kd.R_mono HO_494000.out (fun _ hk => ⟨hk.1.1.1.2, ⟨hk.1.1.2, ⟨hk.1.2, ⟨hk.2, ⟨hk.1.1.1.1.1, ⟨hk.1.1.1.1.2.1, ⟨hk.1.1.1.1.2.2.1, ⟨hk.1.1.1.1.2.2.2.1, hk.1.1.1.1.2.2.2.2⟩⟩⟩⟩⟩⟩⟩⟩)), (by (with_reducible repeat (first | apply Kd.R_alloc | apply Kd.R_drewN | apply Kd.R_drew)); exact Kd.R_mono HO_494002.out (fun _ hk => ⟨hk.1.1.1.2, ⟨hk.1.1.2, ⟨hk.1.2, ⟨hk.2, ⟨hk.1.1.1.1.1, ⟨hk.1.1.1.1.2.1, ⟨hk.1.1.1.1.2.2.1, ⟨hk.1.1.1.1.2.2.2.1, hk.1.1.1.1.2.2.2.2⟩⟩⟩⟩⟩⟩⟩⟩)), (by (with_reducible repeat (first | apply Kd.R_alloc | apply Kd.R_drewN | apply Kd.R_drew)); exact Kd.R_mono HO_503000.out (fun _ hk => ⟨hk.1.1.1.2, ⟨hk.1.1.2, ⟨hk.1.2, ⟨hk.2, ⟨hk.1.1.1.1.1, ⟨hk.1.1.1.1.2.1, ⟨hk.1.1.1.1.2.2.1, ⟨hk.1.1.1.1.2.2.2.1, hk.1.1.1.1.2.2.2.2⟩⟩⟩⟩⟩⟩⟩⟩)), (by (with_reducible repeat (first | apply Kd.R_alloc | apply Kd.R_drewN | apply Kd.R_drew)); exact Kd.R_mono HO_503002.out (fun _ hk => ⟨hk.1.1.1.2, ⟨hk.1.1.2, ⟨hk.1.2, ⟨hk.2, ⟨hk.1.1.1.1.1, ⟨hk.1.1.1.1.2.1, ⟨hk.1.1.1.1.2.2.1, ⟨hk.1.1.1.1.2.2.2.1, hk.1.1.1.1.2.2.2.2⟩⟩⟩⟩⟩⟩⟩⟩)), (S.uB BK459.out), (S.uB BK481.out), (S.uB BK493.out), (S.uB BK502.out), (S.uB BK546.out), GW546.out, GE546.out, NB459_546.out, NB546_459.out, NB481_546.out, NB546_481.out, NB493_546.out, NB546_493.out, NB502_546.out, NB546_502.out, S.bG⟩)
                    ·skip
                     refine box_step ?hg (N := 15) ?hd (cs := #[.slice none 0 0, .int .i64 0, .slice none 0 0, .int .i64 0]) (t := 60) ?hr ?_; (case hd => rfl); (case hg => rfl); (case hr => first | (go_simp; done) | (go_simp; rfl))
                     intro gb546 hg w114 hbox hb
                     replace HO_482000 := S.rb HO_482000 hb
                     replace HO_482002 := S.rb HO_482002 hb
                     replace HO_494000 := S.rb HO_494000 hb
                     replace HO_494002 := S.rb HO_494002 hb
                     replace HO_503000 := S.rb HO_503000 hb
                     replace HO_503002 := S.rb HO_503002 hb
                     have BK546 := Aside0.mk hbox
                     have GW546 := S.geG hg
                     have GE546 := S.geG hg
                     replace HB := S.sG hb
                     have NB459_546 := S.nl hg BK459
                     have NB546_459 := S.ng hg BK459
                     replace BK459 := S.kb BK459 hb
                     have NB481_546 := S.nl hg BK481
                     have NB546_481 := S.ng hg BK481
                     replace BK481 := S.kb BK481 hb
                     have NB493_546 := S.nl hg BK493
                     have NB546_493 := S.ng hg BK493
                     replace BK493 := S.kb BK493 hb
                     have NB502_546 := S.nl hg BK502
                     have NB546_502 := S.ng hg BK502
                     replace BK502 := S.kb BK502 hb
                     clear hb hbox hg
                     refine hK.out _ _ (S.e4 BK459.out) (fun hHeld => ?_)
                     clear hK K
                     refine S.nm 15 ?_
                     refine S.oN 1 80 #[true, true, true, false, true, false, true, false] (fun K hK => ?_)
                     refine S.go Try.func14 #[.slice A0 l0.length c0] ?_
                     with_reducible refine (laws_toPathS.calls kj105 _ _ l0 t527 _ ?s1 ?s2 A108.out).mono ?_
                     (case s1 => exact S.cA HR0.out)
                     (case s2 => exact HC0.out)
                     rintro e w115 ⟨v528, rfl, ho0, hb⟩
                     refine ⟨_, rfl, ?_⟩
                     replace HO_482000 := S.rb HO_482000 hb
                     replace HO_482002 := S.rb HO_482002 hb
                     replace HO_494000 := S.rb HO_494000 hb
                     replace HO_494002 := S.rb HO_494002 hb
                     replace HO_503000 := S.rb HO_503000 hb
                     replace HO_503002 := S.rb HO_503002 hb
                     have HO529 := S.lwG ho0
                     replace BK459 := S.kb BK459 hb
                     replace BK481 := S.kb BK481 hb
                     replace BK493 := S.kb BK493 hb
                     replace BK502 := S.kb BK502 hb
                     replace BK546 := S.kb BK546 hb
                     replace HB := S.sG hb
                     (try clear hb)
                     (try clear hb2)
                     (try clear hk)
                     (try clear hi)
                     (try clear ho0)
                     refine hK.out _ _ (S.e4 BK459.out) (fun hHeld => ?_)
                     clear hK K
                     refine S.nm 80 ?_
                     refine S.oN 3 82 #[true, true, true, true, true, false, true, false] (fun K hK => ?_)
                     refine S.go Try.func35 #[.agg #[.slice A1_0 l1_0.length c1_0, .int .i64 a1_1, .slice A1_2 l1_2.length c1_2, .int .i64 a1_3]] ?_
                     with_reducible refine (laws_toControl.calls kj105 _ _ l1_0 a1_1 _ _ l1_2 a1_3 t530 t533 t534 t537 _ ?s1 ?s2 ?s3 ?s4 A109.out).mono ?_
                     (case s1 => exact S.cA HR1_0.out)
                     (case s2 => exact HC1_0.out)
                     (case s3 => exact S.cA HR1_2.out)
                     (case s4 => exact HC1_2.out)
                     rintro e w116 ⟨v531, v535, rfl, ho0, ho1, hb⟩
                     refine ⟨_, rfl, ?_⟩
                     replace HO529 := S.rb HO529 hb
                     have HO532 := Aside0.mk (Kd.R_lower (Kd.R_new' (Kd.R_new' (Kd.R_new' (Kd.R_new' (Kd.R_new' (Kd.R_new' ho0 (Kd.R_lt (S.uR HO_482000.out))) (Kd.R_lt (S.uR HO_482002.out))) (Kd.R_lt (S.uR HO_494000.out))) (Kd.R_lt (S.uR HO_494002.out))) (Kd.R_lt (S.uR HO_503000.out))) (Kd.R_lt (S.uR HO_503002.out))) (below_size S.bG))
                     have HO536 := Aside0.mk (Kd.R_lower (Kd.R_new' (Kd.R_new' (Kd.R_new' (Kd.R_new' (Kd.R_new' (Kd.R_new' ho1 (Kd.R_lt (S.uR HO_482000.out))) (Kd.R_lt (S.uR HO_482002.out))) (Kd.R_lt (S.uR HO_494000.out))) (Kd.R_lt (S.uR HO_494002.out))) (Kd.R_lt (S.uR HO_503000.out))) (Kd.R_lt (S.uR HO_503002.out))) (below_size S.bG))
                     replace HO_482000 := Aside0.mk (Kd.R_mono (Kd.R_told (Kd.R_told (Kd.R_old (S.uR HO_482000.out) hb) (Kd.R_base ho0)) (Kd.R_base ho1)) (fun _ h_ => h_.1))
                     replace HO_482002 := Aside0.mk (Kd.R_mono (Kd.R_told (Kd.R_told (Kd.R_old (S.uR HO_482002.out) hb) (Kd.R_base ho0)) (Kd.R_base ho1)) (fun _ h_ => h_.1))
                     replace HO_494000 := Aside0.mk (Kd.R_mono (Kd.R_told (Kd.R_told (Kd.R_old (S.uR HO_494000.out) hb) (Kd.R_base ho0)) (Kd.R_base ho1)) (fun _ h_ => h_.1))
                     replace HO_494002 := Aside0.mk (Kd.R_mono (Kd.R_told (Kd.R_told (Kd.R_old (S.uR HO_494002.out) hb) (Kd.R_base ho0)) (Kd.R_base ho1)) (fun _ h_ => h_.1))
                     replace HO_503000 := Aside0.mk (Kd.R_mono (Kd.R_told (Kd.R_told (Kd.R_old (S.uR HO_503000.out) hb) (Kd.R_base ho0)) (Kd.R_base ho1)) (fun _ h_ => h_.1))
                     replace HO_503002 := Aside0.mk (Kd.R_mono (Kd.R_told (Kd.R_told (Kd.R_old (S.uR HO_503002.out) hb) (Kd.R_base ho0)) (Kd.R_base ho1)) (fun _ h_ => h_.1))
                     replace BK459 := S.kb BK459 hb
                     replace BK481 := S.kb BK481 hb
                     replace BK493 := S.kb BK493 hb
                     replace BK502 := S.kb BK502 hb
                     replace BK546 := S.kb BK546 hb
                     replace HB := S.sG hb
                     (try clear hb)
                     (try clear hb2)
                     (try clear hk)
                     (try clear hi)
                     (try clear ho0)
                     (try clear ho1)
                     obtain ⟨Ao117, co117, eo117⟩ := Kd.R_slice HO529.out
                     (first | subst eo117 | (injection eo117 with f1_ f2_ f3_; have f4_ := f1_.symm; have f5_ := f3_.symm; clear f1_ f2_ f3_; subst f4_; subst f5_))
                     obtain ⟨Ao118, co118, eo118⟩ := Kd.R_slice HO532.out
                     (first | subst eo118 | (injection eo118 with f1_ f2_ f3_; have f4_ := f1_.symm; have f5_ := f3_.symm; clear f1_ f2_ f3_; subst f4_; subst f5_))
                     obtain ⟨Ao119, co119, eo119⟩ := Kd.R_slice HO536.out
                     (first | subst eo119 | (injection eo119 with f1_ f2_ f3_; have f4_ := f1_.symm; have f5_ := f3_.symm; clear f1_ f2_ f3_; subst f4_; subst f5_))
                     refine hK.out _ _ (S.e4 BK459.out) (fun hHeld => ?_)
                     clear hK K
                     refine S.nm 82 ?_
                     refine S.oN 5 84 #[true, true, true, true, true, true, true, false] (fun K hK => ?_)
                     refine S.go Try.func48 #[.slice Ao117 t527.length co117, .agg #[.slice Ao118 t530.length co118, .int .i64 t533, .slice Ao119 t534.length co119, .int .i64 t537], .int .i64 a2] ?_
                     with_reducible refine (impl_StepSiren.calls kj105 _ _ t527 _ _ t530 t533 _ _ t534 t537 a2 t538 t541 t542 t545 _ ?s1 ?s2 ?s3 ?s4 ?s5 ?s6 A110.out).mono ?_
                     (case s1 => exact S.rd HO529)
                     (case s2 => exact S.rl HO529)
                     (case s3 => exact S.rd HO532)
                     (case s4 => exact S.rl HO532)
                     (case s5 => exact S.rd HO536)
                     (case s6 => exact S.rl HO536)
                     rintro e w120 ⟨v539, v543, rfl, ho0, ho1, hb⟩
                     refine ⟨_, rfl, ?_⟩
                     replace HO529 := S.rb HO529 hb
                     have HO540 := Aside0.mk (Kd.R_lower (Kd.R_new' (Kd.R_new' (Kd.R_new' (Kd.R_new' (Kd.R_new' (Kd.R_new' (Kd.R_new' (Kd.R_new' ho0 (Kd.R_lt (S.uR HO_482000.out))) (Kd.R_lt (S.uR HO_482002.out))) (Kd.R_lt (S.uR HO_494000.out))) (Kd.R_lt (S.uR HO_494002.out))) (Kd.R_lt (S.uR HO_503000.out))) (Kd.R_lt (S.uR HO_503002.out))) (Kd.R_lt (S.uR HO532.out))) (Kd.R_lt (S.uR HO536.out))) (below_size S.bG))
                     have HO544 := Aside0.mk (Kd.R_lower (Kd.R_new' (Kd.R_new' (Kd.R_new' (Kd.R_new' (Kd.R_new' (Kd.R_new' (Kd.R_new' (Kd.R_new' ho1 (Kd.R_lt (S.uR HO_482000.out))) (Kd.R_lt (S.uR HO_482002.out))) (Kd.R_lt (S.uR HO_494000.out))) (Kd.R_lt (S.uR HO_494002.out))) (Kd.R_lt (S.uR HO_503000.out))) (Kd.R_lt (S.uR HO_503002.out))) (Kd.R_lt (S.uR HO532.out))) (Kd.R_lt (S.uR HO536.out))) (below_size S.bG))
                     replace HO_482000 := Aside0.mk (Kd.R_mono (Kd.R_told (Kd.R_told (Kd.R_old (S.uR HO_482000.out) hb) (Kd.R_base ho0)) (Kd.R_base ho1)) (fun _ h_ => h_.1))
                     replace HO_482002 := Aside0.mk (Kd.R_mono (Kd.R_told (Kd.R_told (Kd.R_old (S.uR HO_482002.out) hb) (Kd.R_base ho0)) (Kd.R_base ho1)) (fun _ h_ => h_.1))
                     replace HO_494000 := Aside0.mk (Kd.R_mono (Kd.R_told (Kd.R_told (Kd.R_old (S.uR HO_494000.out) hb) (Kd.R_base ho0)) (Kd.R_base ho1)) (fun _ h_ => h_.1))
                     replace HO_494002 := Aside0.mk (Kd.R_mono (Kd.R_told (Kd.R_told (Kd.R_old (S.uR HO_494002.out) hb) (Kd.R_base ho0)) (Kd.R_base ho1)) (fun _ h_ => h_.1))
                     replace HO_503000 := Aside0.mk (Kd.R_mono (Kd.R_told (Kd.R_told (Kd.R_old (S.uR HO_503000.out) hb) (Kd.R_base ho0)) (Kd.R_base ho1)) (fun _ h_ => h_.1))
                     replace HO_503002 := Aside0.mk (Kd.R_mono (Kd.R_told (Kd.R_told (Kd.R_old (S.uR HO_503002.out) hb) (Kd.R_base ho0)) (Kd.R_base ho1)) (fun _ h_ => h_.1))
                     replace HO532 := Aside0.mk (Kd.R_mono (Kd.R_told (Kd.R_told (Kd.R_old (S.uR HO532.out) hb) (Kd.R_base ho0)) (Kd.R_base ho1)) (fun _ h_ => h_.1))
                     replace HO536 := Aside0.mk (Kd.R_mono (Kd.R_told (Kd.R_told (Kd.R_old (S.uR HO536.out) hb) (Kd.R_base ho0)) (Kd.R_base ho1)) (fun _ h_ => h_.1))
                     replace BK459 := S.kb BK459 hb
                     replace BK481 := S.kb BK481 hb
                     replace BK493 := S.kb BK493 hb
                     replace BK502 := S.kb BK502 hb
                     replace BK546 := S.kb BK546 hb
                     replace HB := S.sG hb
                     (try clear hb)
                     (try clear hb2)
                     (try clear hk)
                     (try clear hi)
                     (try clear ho0)
                     (try clear ho1)
                     refine hK.out _ _ (S.e4 BK459.out) (fun hHeld => ?_)
                     clear hK K
                     refine S.nm 84 ?_
                     exact norm_ (by simp only [putAll, Act.put, List.setIfInBounds_toArray, List.set_cons_zero, List.set_cons_succ]) (hCont (.slice Ao117 t527.length co117, .slice Ao118 t530.length co118, .slice Ao119 t534.length co119, v539, v543, gb546) _ ⟨hHeld, (S.uR HO529.out), (by (with_reducible repeat (first | apply Kd.R_alloc | apply Kd.R_drewN | apply Kd.R_drew)); exact Kd.R_mono HO532.out (fun _ hk => ⟨hk.1.1.1.1.1.1.1.1, ⟨hk.1.2, ⟨hk.2, ⟨hk.1.1.1.1.1.1.1.2, ⟨hk.1.1.1.1.1.1.2, ⟨hk.1.1.1.1.1.2, ⟨hk.1.1.1.1.2, ⟨hk.1.1.1.2, hk.1.1.2⟩⟩⟩⟩⟩⟩⟩⟩)), (by (with_reducible repeat (first | apply Kd.R_alloc | apply Kd.R_drewN | apply Kd.R_drew)); exact Kd.R_mono HO536.out (fun _ hk => ⟨hk.1.1.1.1.1.1.1.1, ⟨hk.1.2, ⟨hk.2, ⟨hk.1.1.1.1.1.1.1.2, ⟨hk.1.1.1.1.1.1.2, ⟨hk.1.1.1.1.1.2, ⟨hk.1.1.1.1.2, ⟨hk.1.1.1.2, hk.1.1.2⟩⟩⟩⟩⟩⟩⟩⟩)), (by (with_reducible repeat (first | apply Kd.R_alloc | apply Kd.R_drewN | apply Kd.R_drew)); exact Kd.R_mono HO540.out (fun _ hk => ⟨hk.1.2, ⟨hk.2, ⟨hk.1.1.1.1.1.1.1.1, ⟨hk.1.1.1.1.1.1.1.2, ⟨hk.1.1.1.1.1.1.2, ⟨hk.1.1.1.1.1.2, ⟨hk.1.1.1.1.2, ⟨hk.1.1.1.2, hk.1.1.2⟩⟩⟩⟩⟩⟩⟩⟩)), (by (with_reducible repeat (first | apply Kd.R_alloc | apply Kd.R_drewN | apply Kd.R_drew)); exact Kd.R_mono HO544.out (fun _ hk => ⟨hk.1.2, ⟨hk.2, ⟨hk.1.1.1.1.1.1.1.1, ⟨hk.1.1.1.1.1.1.1.2, ⟨hk.1.1.1.1.1.1.2, ⟨hk.1.1.1.1.1.2, ⟨hk.1.1.1.1.2, ⟨hk.1.1.1.2, hk.1.1.2⟩⟩⟩⟩⟩⟩⟩⟩)), (by (with_reducible repeat (first | apply Kd.R_alloc | apply Kd.R_drewN | apply Kd.R_drew)); exact Kd.R_mono HO_482000.out (fun _ hk => ⟨hk.1.1.1.2, ⟨hk.1.1.2, ⟨hk.1.2, ⟨hk.2, ⟨hk.1.1.1.1.1, ⟨hk.1.1.1.1.2.1, ⟨hk.1.1.1.1.2.2.1, ⟨hk.1.1.1.1.2.2.2.1, hk.1.1.1.1.2.2.2.2⟩⟩⟩⟩⟩⟩⟩⟩)), (by (with_reducible repeat (first | apply Kd.R_alloc | apply Kd.R_drewN | apply Kd.R_drew)); exact Kd.R_mono HO_482002.out (fun _ hk => ⟨hk.1.1.1.2, ⟨hk.1.1.2, ⟨hk.1.2, ⟨hk.2, ⟨hk.1.1.1.1.1, ⟨hk.1.1.1.1.2.1, ⟨hk.1.1.1.1.2.2.1, ⟨hk.1.1.1.1.2.2.2.1, hk.1.1.1.1.2.2.2.2⟩⟩⟩⟩⟩⟩⟩⟩)), (by (with_reducible repeat (first | apply Kd.R_alloc | apply Kd.R_drewN | apply Kd.R_drew)); exact Kd.R_mono HO_494000.out (fun _ hk => ⟨hk.1.1.1.2, ⟨hk.1.1.2, ⟨hk.1.2, ⟨hk.2, ⟨hk.1.1.1.1.1, ⟨hk.1.1.1.1.2.1, ⟨hk.1.1.1.1.2.2.1, ⟨hk.1.1.1.1.2.2.2.1, hk.1.1.1.1.2.2.2.2⟩⟩⟩⟩⟩⟩⟩⟩)), (by (with_reducible repeat (first | apply Kd.R_alloc | apply Kd.R_drewN | apply Kd.R_drew)); exact Kd.R_mono HO_494002.out (fun _ hk => ⟨hk.1.1.1.2, ⟨hk.1.1.2, ⟨hk.1.2, ⟨hk.2, ⟨hk.1.1.1.1.1, ⟨hk.1.1.1.1.2.1, ⟨hk.1.1.1.1.2.2.1, ⟨hk.1.1.1.1.2.2.2.1, hk.1.1.1.1.2.2.2.2⟩⟩⟩⟩⟩⟩⟩⟩)), (by (with_reducible repeat (first | apply Kd.R_alloc | apply Kd.R_drewN | apply Kd.R_drew)); exact Kd.R_mono HO_503000.out (fun _ hk => ⟨hk.1.1.1.2, ⟨hk.1.1.2, ⟨hk.1.2, ⟨hk.2, ⟨hk.1.1.1.1.1, ⟨hk.1.1.1.1.2.1, ⟨hk.1.1.1.1.2.2.1, ⟨hk.1.1.1.1.2.2.2.1, hk.1.1.1.1.2.2.2.2⟩⟩⟩⟩⟩⟩⟩⟩)), (by (with_reducible repeat (first | apply Kd.R_alloc | apply Kd.R_drewN | apply Kd.R_drew)); exact Kd.R_mono HO_503002.out (fun _ hk => ⟨hk.1.1.1.2, ⟨hk.1.1.2, ⟨hk.1.2, ⟨hk.2, ⟨hk.1.1.1.1.1, ⟨hk.1.1.1.1.2.1, ⟨hk.1.1.1.1.2.2.1, ⟨hk.1.1.1.1.2.2.2.1, hk.1.1.1.1.2.2.2.2⟩⟩⟩⟩⟩⟩⟩⟩)), (S.uB BK459.out), (S.uB BK481.out), (S.uB BK493.out), (S.uB BK502.out), (S.uB BK546.out), GW546.out, GE546.out, NB459_546.out, NB546_459.out, NB481_546.out, NB546_481.out, NB493_546.out, NB546_493.out, NB502_546.out, NB546_502.out, S.bG⟩)
                   rintro ⟨v528, v531, v535, v539, v543, gb546⟩ w121 ⟨hS_, h0_, h1_, h2_, h3_, h4_, h5_, h6_, h7_, h8_, h9_, h10_, h11_, h12_, h13_, h14_, h15_, h16_, h17_, h18_, h19_, h20_, h21_, h22_, h23_, h24_, h25_, h26_⟩
                   have n0_ : Aside0 (Kd.R k52 52 w121 w.heap.size (fun _ => True) v528 t527) := ⟨h0_⟩
                   have n1_ : Aside0 (Kd.R (Kd.int .i64) 3 w121 w.heap.size (fun k_ => S.N k_ v535 ∧ S.N k_ v539 ∧ S.N k_ v543 ∧ S.N k_ (.slice Ao30 t473.length co30) ∧ S.N k_ (.slice Ao33 t477.length co33) ∧ S.N k_ (.slice Ao41 t520.length co41) ∧ S.N k_ (.slice Ao45 t521.length co45) ∧ S.N k_ (.slice Ao49 t524.length co49) ∧ S.N k_ (.slice Ao54 t525.length co54)) v531 t530) := ⟨h1_⟩
                   have n2_ : Aside0 (Kd.R (Kd.int .i64) 3 w121 w.heap.size (fun k_ => S.N k_ v531 ∧ S.N k_ v539 ∧ S.N k_ v543 ∧ S.N k_ (.slice Ao30 t473.length co30) ∧ S.N k_ (.slice Ao33 t477.length co33) ∧ S.N k_ (.slice Ao41 t520.length co41) ∧ S.N k_ (.slice Ao45 t521.length co45) ∧ S.N k_ (.slice Ao49 t524.length co49) ∧ S.N k_ (.slice Ao54 t525.length co54)) v535 t534) := ⟨h2_⟩
                   have n3_ : Aside0 (Kd.R (Kd.int .i64) 3 w121 w.heap.size (fun k_ => S.N k_ v531 ∧ S.N k_ v535 ∧ S.N k_ v543 ∧ S.N k_ (.slice Ao30 t473.length co30) ∧ S.N k_ (.slice Ao33 t477.length co33) ∧ S.N k_ (.slice Ao41 t520.length co41) ∧ S.N k_ (.slice Ao45 t521.length co45) ∧ S.N k_ (.slice Ao49 t524.length co49) ∧ S.N k_ (.slice Ao54 t525.length co54)) v539 t538) := ⟨h3_⟩
                   have n4_ : Aside0 (Kd.R (Kd.int .i64) 3 w121 w.heap.size (fun k_ => S.N k_ v531 ∧ S.N k_ v535 ∧ S.N k_ v539 ∧ S.N k_ (.slice Ao30 t473.length co30) ∧ S.N k_ (.slice Ao33 t477.length co33) ∧ S.N k_ (.slice Ao41 t520.length co41) ∧ S.N k_ (.slice Ao45 t521.length co45) ∧ S.N k_ (.slice Ao49 t524.length co49) ∧ S.N k_ (.slice Ao54 t525.length co54)) v543 t542) := ⟨h4_⟩
                   have n5_ : Aside0 (Kd.R (Kd.int .i64) 3 w121 w.heap.size (fun k_ => S.N k_ v531 ∧ S.N k_ v535 ∧ S.N k_ v539 ∧ S.N k_ v543 ∧ S.N k_ (.slice Ao33 t477.length co33) ∧ S.N k_ (.slice Ao41 t520.length co41) ∧ S.N k_ (.slice Ao45 t521.length co45) ∧ S.N k_ (.slice Ao49 t524.length co49) ∧ S.N k_ (.slice Ao54 t525.length co54)) (.slice Ao30 t473.length co30) t473) := ⟨h5_⟩
                   have n6_ : Aside0 (Kd.R (Kd.int .i64) 3 w121 w.heap.size (fun k_ => S.N k_ v531 ∧ S.N k_ v535 ∧ S.N k_ v539 ∧ S.N k_ v543 ∧ S.N k_ (.slice Ao30 t473.length co30) ∧ S.N k_ (.slice Ao41 t520.length co41) ∧ S.N k_ (.slice Ao45 t521.length co45) ∧ S.N k_ (.slice Ao49 t524.length co49) ∧ S.N k_ (.slice Ao54 t525.length co54)) (.slice Ao33 t477.length co33) t477) := ⟨h6_⟩
                   have n7_ : Aside0 (Kd.R (Kd.int .i64) 3 w121 w.heap.size (fun k_ => S.N k_ v531 ∧ S.N k_ v535 ∧ S.N k_ v539 ∧ S.N k_ v543 ∧ S.N k_ (.slice Ao30 t473.length co30) ∧ S.N k_ (.slice Ao33 t477.length co33) ∧ S.N k_ (.slice Ao45 t521.length co45) ∧ S.N k_ (.slice Ao49 t524.length co49) ∧ S.N k_ (.slice Ao54 t525.length co54)) (.slice Ao41 t520.length co41) t520) := ⟨h7_⟩
                   have n8_ : Aside0 (Kd.R (Kd.int .i64) 3 w121 w.heap.size (fun k_ => S.N k_ v531 ∧ S.N k_ v535 ∧ S.N k_ v539 ∧ S.N k_ v543 ∧ S.N k_ (.slice Ao30 t473.length co30) ∧ S.N k_ (.slice Ao33 t477.length co33) ∧ S.N k_ (.slice Ao41 t520.length co41) ∧ S.N k_ (.slice Ao49 t524.length co49) ∧ S.N k_ (.slice Ao54 t525.length co54)) (.slice Ao45 t521.length co45) t521) := ⟨h8_⟩
                   have n9_ : Aside0 (Kd.R (Kd.int .i64) 3 w121 w.heap.size (fun k_ => S.N k_ v531 ∧ S.N k_ v535 ∧ S.N k_ v539 ∧ S.N k_ v543 ∧ S.N k_ (.slice Ao30 t473.length co30) ∧ S.N k_ (.slice Ao33 t477.length co33) ∧ S.N k_ (.slice Ao41 t520.length co41) ∧ S.N k_ (.slice Ao45 t521.length co45) ∧ S.N k_ (.slice Ao54 t525.length co54)) (.slice Ao49 t524.length co49) t524) := ⟨h9_⟩
                   have n10_ : Aside0 (Kd.R (Kd.int .i64) 3 w121 w.heap.size (fun k_ => S.N k_ v531 ∧ S.N k_ v535 ∧ S.N k_ v539 ∧ S.N k_ v543 ∧ S.N k_ (.slice Ao30 t473.length co30) ∧ S.N k_ (.slice Ao33 t477.length co33) ∧ S.N k_ (.slice Ao41 t520.length co41) ∧ S.N k_ (.slice Ao45 t521.length co45) ∧ S.N k_ (.slice Ao49 t524.length co49)) (.slice Ao54 t525.length co54) t525) := ⟨h10_⟩
                   have n11_ : Aside0 (w121.heap[gb459]? = some (.cells #[.slice A1_0 l1_0.length c1_0, .int .i64 a1_1, .slice A1_2 l1_2.length c1_2, .int .i64 a1_3] 57 (0, 0))) := ⟨h11_⟩
                   have n12_ : Aside0 (w121.heap[gb481]? = some (.cells #[.slice Ao30 t473.length co30, .int .i64 t476, .slice Ao33 t477.length co33, .int .i64 t480] 60 (0, 0))) := ⟨h12_⟩
                   have n13_ : Aside0 (w121.heap[gb493]? = some (.cells #[.slice Ao41 t520.length co41, .int .i64 t488, .slice Ao45 t521.length co45, .int .i64 t492] 60 (0, 0))) := ⟨h13_⟩
                   have n14_ : Aside0 (w121.heap[gb502]? = some (.cells #[.slice Ao49 t524.length co49, .int .i64 t497, .slice Ao54 t525.length co54, .int .i64 t501] 60 (0, 0))) := ⟨h14_⟩
                   have n15_ : Aside0 (w121.heap[gb546]? = some (.cells #[.slice none 0 0, .int .i64 0, .slice none 0 0, .int .i64 0] 60 (0, 0))) := ⟨h15_⟩
                   have n16_ : Aside0 (w.heap.size ≤ gb546) := ⟨h16_⟩
                   have n17_ : Aside0 (w.heap.size ≤ gb546) := ⟨h17_⟩
                   have n18_ : Aside0 (gb459 ≠ gb546) := ⟨h18_⟩
                   have n19_ : Aside0 (gb546 ≠ gb459) := ⟨h19_⟩
                   have n20_ : Aside0 (gb481 ≠ gb546) := ⟨h20_⟩
                   have n21_ : Aside0 (gb546 ≠ gb481) := ⟨h21_⟩
                   have n22_ : Aside0 (gb493 ≠ gb546) := ⟨h22_⟩
                   have n23_ : Aside0 (gb546 ≠ gb493) := ⟨h23_⟩
                   have n24_ : Aside0 (gb502 ≠ gb546) := ⟨h24_⟩
                   have n25_ : Aside0 (gb546 ≠ gb502) := ⟨h25_⟩
                   have n26_ : Aside0 (Below w.heap.size w w121) := ⟨h26_⟩
                   clear HO_482000
                   clear HO_482002
                   clear HO_494000
                   clear HO_494002
                   clear HO_503000
                   clear HO_503002
                   clear BK459
                   clear BK481
                   clear BK493
                   clear BK502
                   clear HB
                   clear h0_ h1_ h2_ h3_ h4_ h5_ h6_ h7_ h8_ h9_ h10_ h11_ h12_ h13_ h14_ h15_ h16_ h17_ h18_ h19_ h20_ h21_ h22_ h23_ h24_ h25_ h26_
                   have HO529 := n0_
                   have HO532 := n1_
                   have HO536 := n2_
                   have HO540 := n3_
                   have HO544 := n4_
                   have HO_482000 := n5_
                   have HO_482002 := n6_
                   have HO_494000 := n7_
                   have HO_494002 := n8_
                   have HO_503000 := n9_
                   have HO_503002 := n10_
                   have BK459 := n11_
                   have BK481 := n12_
                   have BK493 := n13_
                   have BK502 := n14_
                   have BK546 := n15_
                   have GW546 := n16_
                   have GE546 := n17_
                   have NB459_546 := n18_
                   have NB546_459 := n19_
                   have NB481_546 := n20_
                   have NB546_481 := n21_
                   have NB493_546 := n22_
                   have NB546_493 := n23_
                   have NB502_546 := n24_
                   have NB546_502 := n25_
                   have HB := n26_
                   clear n0_ n1_ n2_ n3_ n4_ n5_ n6_ n7_ n8_ n9_ n10_ n11_ n12_ n13_ n14_ n15_ n16_ n17_ n18_ n19_ n20_ n21_ n22_ n23_ n24_ n25_ n26_
                   have hHeld : w121.cell? ⟨gb459, 0, none⟩ = some (.slice A1_0 l1_0.length c1_0) ∧ w121.cell? ⟨gb459, 1, none⟩ = some (.int .i64 a1_1) ∧ w121.cell? ⟨gb459, 2, none⟩ = some (.slice A1_2 l1_2.length c1_2) ∧ w121.cell? ⟨gb459, 3, none⟩ = some (.int .i64 a1_3) := hS_
                   obtain ⟨Ao122, co122, eo122⟩ := Kd.R_slice HO540.out
                   (first | subst eo122 | (injection eo122 with f1_ f2_ f3_; have f4_ := f1_.symm; have f5_ := f3_.symm; clear f1_ f2_ f3_; subst f4_; subst f5_))
                   obtain ⟨Ao125, co125, eo125⟩ := Kd.R_slice HO544.out
                   (first | subst eo125 | (injection eo125 with f1_ f2_ f3_; have f4_ := f1_.symm; have f5_ := f3_.symm; clear f1_ f2_ f3_; subst f4_; subst f5_))
                   refine norm_ (a' := ?_) ?_ ?_
                   rotate_left
                   ·simp only [putAll, Act.put, List.setIfInBounds_toArray, List.set_cons_zero, List.set_cons_succ]
                    rfl
                   refine one_ (i := 7) (N := none) #[true, true, true, true, true, true, true, true] rfl rfl (one_of HT_.out (by kernel_rfl)) (by decide) (fun K hK => ?_)
                   have hs123 : w121.cell? ⟨gb546, 0, none⟩ = some (.slice none 0 0) := (blk_cell BK546.out 0).trans rfl
                   have hfs123 := blk_frozen BK546.out 0
                   have hns123_0 := NB459_546.out
                   have hns123_1 := NB481_546.out
                   have hns123_2 := NB493_546.out
                   have hns123_3 := NB502_546.out
                   have hms123_0 := NB546_459.out
                   have hms123_1 := NB546_481.out
                   have hms123_2 := NB546_493.out
                   have hms123_3 := NB546_502.out
                   have hs124 : w121.cell? ⟨gb546, 1, none⟩ = some (.int .i64 0) := (blk_cell BK546.out 1).trans rfl
                   have hfs124 := blk_frozen BK546.out 1
                   have hns124_0 := NB459_546.out
                   have hns124_1 := NB481_546.out
                   have hns124_2 := NB493_546.out
                   have hns124_3 := NB502_546.out
                   have hms124_0 := NB546_459.out
                   have hms124_1 := NB546_481.out
                   have hms124_2 := NB546_493.out
                   have hms124_3 := NB546_502.out
                   have hs126 : w121.cell? ⟨gb546, 2, none⟩ = some (.slice none 0 0) := (blk_cell BK546.out 2).trans rfl
                   have hfs126 := blk_frozen BK546.out 2
                   have hns126_0 := NB459_546.out
                   have hns126_1 := NB481_546.out
                   have hns126_2 := NB493_546.out
                   have hns126_3 := NB502_546.out
                   have hms126_0 := NB546_459.out
                   have hms126_1 := NB546_481.out
                   have hms126_2 := NB546_493.out
                   have hms126_3 := NB546_502.out
                   have hs127 : w121.cell? ⟨gb546, 3, none⟩ = some (.int .i64 0) := (blk_cell BK546.out 3).trans rfl
                   have hfs127 := blk_frozen BK546.out 3
                   have hns127_0 := NB459_546.out
                   have hns127_1 := NB481_546.out
                   have hns127_2 := NB493_546.out
                   have hns127_3 := NB502_546.out
                   have hms127_0 := NB546_459.out
                   have hms127_1 := NB546_481.out
                   have hms127_2 := NB546_493.out
                   have hms127_3 := NB546_502.out
                   refine skip_ (w1 := ?_) (by rfl) rfl ?_ ?_
                   rotate_left
                   ·go_simp
                    rfl
                   refine hK.out _ _ ⟨((cell_far (p := ⟨gb546, _, none⟩) NB459_546.out _).trans (((cell_far (p := ⟨gb546, _, none⟩) NB459_546.out _).trans (((cell_far (p := ⟨gb546, _, none⟩) NB459_546.out _).trans (((cell_far (p := ⟨gb546, _, none⟩) NB459_546.out _).trans (hHeld.1)))))))), ((cell_far (p := ⟨gb546, _, none⟩) NB459_546.out _).trans (((cell_far (p := ⟨gb546, _, none⟩) NB459_546.out _).trans (((cell_far (p := ⟨gb546, _, none⟩) NB459_546.out _).trans (((cell_far (p := ⟨gb546, _, none⟩) NB459_546.out _).trans (hHeld.2.1)))))))), ((cell_far (p := ⟨gb546, _, none⟩) NB459_546.out _).trans (((cell_far (p := ⟨gb546, _, none⟩) NB459_546.out _).trans (((cell_far (p := ⟨gb546, _, none⟩) NB459_546.out _).trans (((cell_far (p := ⟨gb546, _, none⟩) NB459_546.out _).trans (hHeld.2.2.1)))))))), ((cell_far (p := ⟨gb546, _, none⟩) NB459_546.out _).trans (((cell_far (p := ⟨gb546, _, none⟩) NB459_546.out _).trans (((cell_far (p := ⟨gb546, _, none⟩) NB459_546.out _).trans (((cell_far (p := ⟨gb546, _, none⟩) NB459_546.out _).trans (hHeld.2.2.2))))))))⟩ (fun hHeld => ?_)
                   clear hK K
                   refine done_ (done_of HT_.out (by kernel_rfl)) ?_
                   have hnb128 := NB546_459.out
                   have hnc128 := NB459_546.out
                   have hnb129 := NB546_481.out
                   have hnc129 := NB481_546.out
                   have hnb130 := NB546_493.out
                   have hnc130 := NB493_546.out
                   have hnb131 := NB546_502.out
                   have hnc131 := NB502_546.out
                   obtain ⟨Z132a, Z132b, Z132c, Z132d, Y132a, Y132b, Y132c, Y132d⟩ := S.c4 BK546.out
                   have hnb133 := NB481_459.out
                   have hnc133 := NB459_481.out
                   have hnb134 := NB481_493.out
                   have hnc134 := NB493_481.out
                   have hnb135 := NB481_502.out
                   have hnc135 := NB502_481.out
                   obtain ⟨Z136a, Z136b, Z136c, Z136d, Y136a, Y136b, Y136c, Y136d⟩ := S.c4 BK481.out
                   go_upto_if 88 with (first | ((with_reducible refine gate_callee (f := 37) rfl ?_); refine S.gL (some 87) Try.func37 #[.agg #[.slice Ao122 t538.length co122, .int .i64 t541, .slice Ao125 t542.length co125, .int .i64 t545], .agg #[.slice Ao30 t473.length co30, .int .i64 t476, .slice Ao33 t477.length co33, .int .i64 t480]] ?_; (with_reducible refine (laws_eqControl.calls kj105 _ _ t538 t541 _ _ t542 t545 _ _ t473 t476 _ _ t477 t480 t547 _ ?s1 (S.rl HO540) ?s3 (S.rl HO544) ?s5 (S.rl HO_482000) ?s7 (S.rl HO_482002) A111.out).mono ?_); (case s1 => refine (Kd.R_reads' (e := 3) (base := w.heap.size) (ok := fun k_ => (S.N k_ v531 ∧ (S.N k_ v535 ∧ (S.N k_ (.slice Ao125 t542.length co125) ∧ (S.N k_ (.slice Ao30 t473.length co30) ∧ (S.N k_ (.slice Ao33 t477.length co33) ∧ (S.N k_ (.slice Ao41 t520.length co41) ∧ (S.N k_ (.slice Ao45 t521.length co45) ∧ (S.N k_ (.slice Ao49 t524.length co49) ∧ S.N k_ (.slice Ao54 t525.length co54)))))))))) (n := t538.length) (c := co122) ?_).2.2; exact (S.G4 HO540 BK546)); (case s3 => refine (Kd.R_reads' (e := 3) (base := w.heap.size) (ok := fun k_ => (S.N k_ v531 ∧ (S.N k_ v535 ∧ (S.N k_ (.slice Ao122 t538.length co122) ∧ (S.N k_ (.slice Ao30 t473.length co30) ∧ (S.N k_ (.slice Ao33 t477.length co33) ∧ (S.N k_ (.slice Ao41 t520.length co41) ∧ (S.N k_ (.slice Ao45 t521.length co45) ∧ (S.N k_ (.slice Ao49 t524.length co49) ∧ S.N k_ (.slice Ao54 t525.length co54)))))))))) (n := t542.length) (c := co125) ?_).2.2; exact (S.G4 HO544 BK546)); (case s5 => refine (Kd.R_reads' (e := 3) (base := w.heap.size) (ok := fun k_ => (S.N k_ v531 ∧ (S.N k_ v535 ∧ (S.N k_ (.slice Ao122 t538.length co122) ∧ (S.N k_ (.slice Ao125 t542.length co125) ∧ (S.N k_ (.slice Ao33 t477.length co33) ∧ (S.N k_ (.slice Ao41 t520.length co41) ∧ (S.N k_ (.slice Ao45 t521.length co45) ∧ (S.N k_ (.slice Ao49 t524.length co49) ∧ S.N k_ (.slice Ao54 t525.length co54)))))))))) (n := t473.length) (c := co30) ?_).2.2; exact (S.G4 HO_482000 BK546)); (case s7 => refine (Kd.R_reads' (e := 3) (base := w.heap.size) (ok := fun k_ => (S.N k_ v531 ∧ (S.N k_ v535 ∧ (S.N k_ (.slice Ao122 t538.length co122) ∧ (S.N k_ (.slice Ao125 t542.length co125) ∧ (S.N k_ (.slice Ao30 t473.length co30) ∧ (S.N k_ (.slice Ao41 t520.length co41) ∧ (S.N k_ (.slice Ao45 t521.length co45) ∧ (S.N k_ (.slice Ao49 t524.length co49) ∧ S.N k_ (.slice Ao54 t525.length co54)))))))))) (n := t477.length) (c := co33) ?_).2.2; exact (S.G4 HO_482002 BK546)); rintro e w137 ⟨rfl, hb⟩; refine ⟨_, rfl, ?_⟩; replace HO_482000 := Aside0.mk (Kd.R_below (S.G4 HO_482000 BK546) hb); replace HO_482002 := Aside0.mk (Kd.R_below (S.G4 HO_482002 BK546) hb); replace HO_494000 := Aside0.mk (Kd.R_below (S.G4 HO_494000 BK546) hb); replace HO_494002 := Aside0.mk (Kd.R_below (S.G4 HO_494002 BK546) hb); replace HO_503000 := Aside0.mk (Kd.R_below (S.G4 HO_503000 BK546) hb); replace HO_503002 := Aside0.mk (Kd.R_below (S.G4 HO_503002 BK546) hb); replace HO529 := Aside0.mk (Kd.R_below (S.G4 HO529 BK546) hb); replace HO532 := Aside0.mk (Kd.R_below (S.G4 HO532 BK546) hb); replace HO536 := Aside0.mk (Kd.R_below (S.G4 HO536 BK546) hb); replace HO540 := Aside0.mk (Kd.R_below (S.G4 HO540 BK546) hb); replace HO544 := Aside0.mk (Kd.R_below (S.G4 HO544 BK546) hb); replace BK459 := S.kf BK459 NB459_546 hb; replace BK481 := S.kf BK481 NB481_546 hb; replace BK493 := S.kf BK493 NB493_546 hb; replace BK502 := S.kf BK502 NB502_546 hb; replace BK546 := S.kp4 BK546 hb; replace HB := S.sG hb; (try clear hb)))
                   (try simp only [Act.put, List.setIfInBounds_toArray, List.set_cons_zero, List.set_cons_succ])
                   go_cut [] (fun wc => ∃ (kq : Nat), Aside0 (laws_FnExactStepSiren.j9 kq t523 t524 t497 t525 t501 = some r) ∧ Aside0 (kq ≤ kj105) ∧ Aside0 (Kd.R (Kd.int .i64) 3 wc w.heap.size (fun k_ => some k_ ≠ ((.slice Ao33 t477.length co33) : Value).ownBlock ∧ some k_ ≠ ((.slice Ao41 t520.length co41) : Value).ownBlock ∧ some k_ ≠ ((.slice Ao45 t521.length co45) : Value).ownBlock ∧ some k_ ≠ ((.slice Ao49 t524.length co49) : Value).ownBlock ∧ some k_ ≠ ((.slice Ao54 t525.length co54) : Value).ownBlock ∧ some k_ ≠ ((.slice Ao122 t538.length co122) : Value).ownBlock ∧ some k_ ≠ ((.slice Ao125 t542.length co125) : Value).ownBlock) (.slice Ao30 t473.length co30) t473) ∧ Aside0 (Kd.R (Kd.int .i64) 3 wc w.heap.size (fun k_ => some k_ ≠ ((.slice Ao30 t473.length co30) : Value).ownBlock ∧ some k_ ≠ ((.slice Ao41 t520.length co41) : Value).ownBlock ∧ some k_ ≠ ((.slice Ao45 t521.length co45) : Value).ownBlock ∧ some k_ ≠ ((.slice Ao49 t524.length co49) : Value).ownBlock ∧ some k_ ≠ ((.slice Ao54 t525.length co54) : Value).ownBlock ∧ some k_ ≠ ((.slice Ao122 t538.length co122) : Value).ownBlock ∧ some k_ ≠ ((.slice Ao125 t542.length co125) : Value).ownBlock) (.slice Ao33 t477.length co33) t477) ∧ Aside0 (Kd.R (Kd.int .i64) 3 wc w.heap.size (fun k_ => some k_ ≠ ((.slice Ao30 t473.length co30) : Value).ownBlock ∧ some k_ ≠ ((.slice Ao33 t477.length co33) : Value).ownBlock ∧ some k_ ≠ ((.slice Ao45 t521.length co45) : Value).ownBlock ∧ some k_ ≠ ((.slice Ao49 t524.length co49) : Value).ownBlock ∧ some k_ ≠ ((.slice Ao54 t525.length co54) : Value).ownBlock ∧ some k_ ≠ ((.slice Ao122 t538.length co122) : Value).ownBlock ∧ some k_ ≠ ((.slice Ao125 t542.length co125) : Value).ownBlock) (.slice Ao41 t520.length co41) t520) ∧ Aside0 (Kd.R (Kd.int .i64) 3 wc w.heap.size (fun k_ => some k_ ≠ ((.slice Ao30 t473.length co30) : Value).ownBlock ∧ some k_ ≠ ((.slice Ao33 t477.length co33) : Value).ownBlock ∧ some k_ ≠ ((.slice Ao41 t520.length co41) : Value).ownBlock ∧ some k_ ≠ ((.slice Ao49 t524.length co49) : Value).ownBlock ∧ some k_ ≠ ((.slice Ao54 t525.length co54) : Value).ownBlock ∧ some k_ ≠ ((.slice Ao122 t538.length co122) : Value).ownBlock ∧ some k_ ≠ ((.slice Ao125 t542.length co125) : Value).ownBlock) (.slice Ao45 t521.length co45) t521) ∧ Aside0 (Kd.R (Kd.int .i64) 3 wc w.heap.size (fun k_ => some k_ ≠ ((.slice Ao30 t473.length co30) : Value).ownBlock ∧ some k_ ≠ ((.slice Ao33 t477.length co33) : Value).ownBlock ∧ some k_ ≠ ((.slice Ao41 t520.length co41) : Value).ownBlock ∧ some k_ ≠ ((.slice Ao45 t521.length co45) : Value).ownBlock ∧ some k_ ≠ ((.slice Ao54 t525.length co54) : Value).ownBlock ∧ some k_ ≠ ((.slice Ao122 t538.length co122) : Value).ownBlock ∧ some k_ ≠ ((.slice Ao125 t542.length co125) : Value).ownBlock) (.slice Ao49 t524.length co49) t524) ∧ Aside0 (Kd.R (Kd.int .i64) 3 wc w.heap.size (fun k_ => some k_ ≠ ((.slice Ao30 t473.length co30) : Value).ownBlock ∧ some k_ ≠ ((.slice Ao33 t477.length co33) : Value).ownBlock ∧ some k_ ≠ ((.slice Ao41 t520.length co41) : Value).ownBlock ∧ some k_ ≠ ((.slice Ao45 t521.length co45) : Value).ownBlock ∧ some k_ ≠ ((.slice Ao49 t524.length co49) : Value).ownBlock ∧ some k_ ≠ ((.slice Ao122 t538.length co122) : Value).ownBlock ∧ some k_ ≠ ((.slice Ao125 t542.length co125) : Value).ownBlock) (.slice Ao54 t525.length co54) t525) ∧ Aside0 (Kd.R (Kd.int .i64) 3 wc w.heap.size (fun k_ => some k_ ≠ ((.slice Ao30 t473.length co30) : Value).ownBlock ∧ some k_ ≠ ((.slice Ao33 t477.length co33) : Value).ownBlock ∧ some k_ ≠ ((.slice Ao41 t520.length co41) : Value).ownBlock ∧ some k_ ≠ ((.slice Ao45 t521.length co45) : Value).ownBlock ∧ some k_ ≠ ((.slice Ao49 t524.length co49) : Value).ownBlock ∧ some k_ ≠ ((.slice Ao54 t525.length co54) : Value).ownBlock ∧ some k_ ≠ ((.slice Ao125 t542.length co125) : Value).ownBlock) (.slice Ao122 t538.length co122) t538) ∧ Aside0 (Kd.R (Kd.int .i64) 3 wc w.heap.size (fun k_ => some k_ ≠ ((.slice Ao30 t473.length co30) : Value).ownBlock ∧ some k_ ≠ ((.slice Ao33 t477.length co33) : Value).ownBlock ∧ some k_ ≠ ((.slice Ao41 t520.length co41) : Value).ownBlock ∧ some k_ ≠ ((.slice Ao45 t521.length co45) : Value).ownBlock ∧ some k_ ≠ ((.slice Ao49 t524.length co49) : Value).ownBlock ∧ some k_ ≠ ((.slice Ao54 t525.length co54) : Value).ownBlock ∧ some k_ ≠ ((.slice Ao122 t538.length co122) : Value).ownBlock) (.slice Ao125 t542.length co125) t542) ∧ Aside0 (wc.heap[gb459]? = some (.cells #[(.slice A1_0 l1_0.length c1_0), .int .i64 a1_1, (.slice A1_2 l1_2.length c1_2), .int .i64 a1_3] 57 (0, 0))) ∧ Aside0 (wc.heap[gb481]? = some (.cells #[(.slice Ao30 t473.length co30), .int .i64 t476, (.slice Ao33 t477.length co33), .int .i64 t480] 60 (0, 0))) ∧ Aside0 (wc.heap[gb493]? = some (.cells #[(.slice Ao41 t520.length co41), .int .i64 t488, (.slice Ao45 t521.length co45), .int .i64 t492] 60 (0, 0))) ∧ Aside0 (wc.heap[gb502]? = some (.cells #[(.slice Ao49 t524.length co49), .int .i64 t497, (.slice Ao54 t525.length co54), .int .i64 t501] 60 (0, 0))) ∧ Aside0 (wc.heap[gb546]? = some (.cells #[(.slice Ao122 t538.length co122), .int .i64 t541, (.slice Ao125 t542.length co125), .int .i64 t545] 60 (0, 0))) ∧ Aside0 (Below w.heap.size w wc))
                   case first =>
                    have H := HC112.out
                    clear HC112
                    replace H := S.db H; rcases H with ⟨rfl, H⟩ | ⟨rfl, H⟩
                    ·have H' := Aside0.mk H
                     clear H
                     go_wp2
                     go_meet
                     case rel => exact ⟨_, H', ⟨by have := HJ4.out; have := HJ8.out; have := HJ19.out; have := HJ59.out; have := HJ66.out; have := HJ75.out; have := HJ92.out; have := HJ96.out; have := HJ105.out; first | omega | exact Nat.le_refl _⟩, ⟨by (try simp only [hl494000_75]); (try simp only [hl494002_75]); (try simp only [hl503000_96]); (try simp only [hl503002_96]); (with_reducible repeat (first | apply Kd.R_alloc | apply Kd.R_drewN | apply Kd.R_drew)); exact Kd.R_mono HO_482000.out (fun _ hk => ⟨hk.2.2.2.2.1, ⟨hk.2.2.2.2.2.1, ⟨hk.2.2.2.2.2.2.1, ⟨hk.2.2.2.2.2.2.2.1, ⟨hk.2.2.2.2.2.2.2.2, ⟨hk.2.2.1, hk.2.2.2.1⟩⟩⟩⟩⟩⟩)⟩, ⟨by (try simp only [hl494000_75]); (try simp only [hl494002_75]); (try simp only [hl503000_96]); (try simp only [hl503002_96]); (with_reducible repeat (first | apply Kd.R_alloc | apply Kd.R_drewN | apply Kd.R_drew)); exact Kd.R_mono HO_482002.out (fun _ hk => ⟨hk.2.2.2.2.1, ⟨hk.2.2.2.2.2.1, ⟨hk.2.2.2.2.2.2.1, ⟨hk.2.2.2.2.2.2.2.1, ⟨hk.2.2.2.2.2.2.2.2, ⟨hk.2.2.1, hk.2.2.2.1⟩⟩⟩⟩⟩⟩)⟩, ⟨by (try simp only [hl494000_75]); (try simp only [hl494002_75]); (try simp only [hl503000_96]); (try simp only [hl503002_96]); (with_reducible repeat (first | apply Kd.R_alloc | apply Kd.R_drewN | apply Kd.R_drew)); exact Kd.R_mono HO_494000.out (fun _ hk => ⟨hk.2.2.2.2.1, ⟨hk.2.2.2.2.2.1, ⟨hk.2.2.2.2.2.2.1, ⟨hk.2.2.2.2.2.2.2.1, ⟨hk.2.2.2.2.2.2.2.2, ⟨hk.2.2.1, hk.2.2.2.1⟩⟩⟩⟩⟩⟩)⟩, ⟨by (try simp only [hl494000_75]); (try simp only [hl494002_75]); (try simp only [hl503000_96]); (try simp only [hl503002_96]); (with_reducible repeat (first | apply Kd.R_alloc | apply Kd.R_drewN | apply Kd.R_drew)); exact Kd.R_mono HO_494002.out (fun _ hk => ⟨hk.2.2.2.2.1, ⟨hk.2.2.2.2.2.1, ⟨hk.2.2.2.2.2.2.1, ⟨hk.2.2.2.2.2.2.2.1, ⟨hk.2.2.2.2.2.2.2.2, ⟨hk.2.2.1, hk.2.2.2.1⟩⟩⟩⟩⟩⟩)⟩, ⟨by (try simp only [hl494000_75]); (try simp only [hl494002_75]); (try simp only [hl503000_96]); (try simp only [hl503002_96]); (with_reducible repeat (first | apply Kd.R_alloc | apply Kd.R_drewN | apply Kd.R_drew)); exact Kd.R_mono HO_503000.out (fun _ hk => ⟨hk.2.2.2.2.1, ⟨hk.2.2.2.2.2.1, ⟨hk.2.2.2.2.2.2.1, ⟨hk.2.2.2.2.2.2.2.1, ⟨hk.2.2.2.2.2.2.2.2, ⟨hk.2.2.1, hk.2.2.2.1⟩⟩⟩⟩⟩⟩)⟩, ⟨by (try simp only [hl494000_75]); (try simp only [hl494002_75]); (try simp only [hl503000_96]); (try simp only [hl503002_96]); (with_reducible repeat (first | apply Kd.R_alloc | apply Kd.R_drewN | apply Kd.R_drew)); exact Kd.R_mono HO_503002.out (fun _ hk => ⟨hk.2.2.2.2.1, ⟨hk.2.2.2.2.2.1, ⟨hk.2.2.2.2.2.2.1, ⟨hk.2.2.2.2.2.2.2.1, ⟨hk.2.2.2.2.2.2.2.2, ⟨hk.2.2.1, hk.2.2.2.1⟩⟩⟩⟩⟩⟩)⟩, ⟨by (try simp only [hl494000_75]); (try simp only [hl494002_75]); (try simp only [hl503000_96]); (try simp only [hl503002_96]); (with_reducible repeat (first | apply Kd.R_alloc | apply Kd.R_drewN | apply Kd.R_drew)); exact Kd.R_mono HO540.out (fun _ hk => ⟨hk.2.2.2.1, ⟨hk.2.2.2.2.1, ⟨hk.2.2.2.2.2.1, ⟨hk.2.2.2.2.2.2.1, ⟨hk.2.2.2.2.2.2.2.1, ⟨hk.2.2.2.2.2.2.2.2, hk.2.2.1⟩⟩⟩⟩⟩⟩)⟩, ⟨by (try simp only [hl494000_75]); (try simp only [hl494002_75]); (try simp only [hl503000_96]); (try simp only [hl503002_96]); (with_reducible repeat (first | apply Kd.R_alloc | apply Kd.R_drewN | apply Kd.R_drew)); exact Kd.R_mono HO544.out (fun _ hk => ⟨hk.2.2.2.1, ⟨hk.2.2.2.2.1, ⟨hk.2.2.2.2.2.1, ⟨hk.2.2.2.2.2.2.1, ⟨hk.2.2.2.2.2.2.2.1, ⟨hk.2.2.2.2.2.2.2.2, hk.2.2.1⟩⟩⟩⟩⟩⟩)⟩, ⟨by (try simp only [hl494000_75]); (try simp only [hl494002_75]); (try simp only [hl503000_96]); (try simp only [hl503002_96]); (with_reducible repeat (first | refine blk_drewN ?_ _ | refine blk_drew ?_ | refine blk_alloc ?_ _)); exact BK459.out⟩, ⟨by (try simp only [hl494000_75]); (try simp only [hl494002_75]); (try simp only [hl503000_96]); (try simp only [hl503002_96]); (with_reducible repeat (first | refine blk_drewN ?_ _ | refine blk_drew ?_ | refine blk_alloc ?_ _)); exact BK481.out⟩, ⟨by (try simp only [hl494000_75]); (try simp only [hl494002_75]); (try simp only [hl503000_96]); (try simp only [hl503002_96]); (with_reducible repeat (first | refine blk_drewN ?_ _ | refine blk_drew ?_ | refine blk_alloc ?_ _)); exact BK493.out⟩, ⟨by (try simp only [hl494000_75]); (try simp only [hl494002_75]); (try simp only [hl503000_96]); (try simp only [hl503002_96]); (with_reducible repeat (first | refine blk_drewN ?_ _ | refine blk_drew ?_ | refine blk_alloc ?_ _)); exact BK502.out⟩, ⟨by (try simp only [hl494000_75]); (try simp only [hl494002_75]); (try simp only [hl503000_96]); (try simp only [hl503002_96]); (with_reducible repeat (first | refine blk_drewN ?_ _ | refine blk_drew ?_ | refine blk_alloc ?_ _)); exact BK546.out⟩, ⟨S.bG⟩⟩
                    ·obtain rfl := Option.some.inj H
                     go_wp2
                     go_ret
                     exact ⟨S.eW, S.bG⟩
                   case rest =>
                    clear HC112
                    try clear Z132a
                    try clear Z132b
                    try clear Z132c
                    try clear Z132d
                    try clear Z136a
                    try clear Z136b
                    try clear Z136c
                    try clear Z136d
                    try clear Y132a
                    try clear Y132b
                    try clear Y132c
                    try clear Y132d
                    try clear Y136a
                    try clear Y136b
                    try clear Y136c
                    try clear Y136d
                    obtain ⟨kq, HA, HJ111, HO_482000, HO_482002, HO_494000, HO_494002, HO_503000, HO_503002, HO_547000, HO_547002, BK459, BK481, BK493, BK502, BK546, HB⟩ := hcut
                    cases kq with
                    | zero => exact absurd HA.out (by simp [laws_FnExactStepSiren.j9])
                    | succ kj111 =>
                     have H := HA.out
                     clear HA
                     simp only [laws_FnExactStepSiren.j9] at H
                     replace H := S.bd H; obtain ⟨t548, A139, H⟩ := H
                     (try dsimp only at H)
                     replace H := S.dc H; rcases H with ⟨H, c140b0⟩ | ⟨H, c140b0⟩
                     ·obtain rfl := Option.some.inj H
                      have hnb141 := NB502_459.out
                      have hnc141 := NB459_502.out
                      have hnb142 := NB502_481.out
                      have hnc142 := NB481_502.out
                      have hnb143 := NB502_493.out
                      have hnc143 := NB493_502.out
                      have hnb144 := NB502_546.out
                      have hnc144 := NB546_502.out
                      obtain ⟨Z145a, Z145b, Z145c, Z145d, Y145a, Y145b, Y145c, Y145d⟩ := S.c4 BK502.out
                      go_wp2_with (first | ((with_reducible refine gate_callee (f := 44) rfl ?_); refine S.gL (some 91) Try.func44 #[.agg #[.slice Ao49 t524.length co49, .int .i64 t497, .slice Ao54 t525.length co54, .int .i64 t501], .int .i64 1] ?_; (with_reducible refine (laws_heldControl.calls kj111 _ _ t524 t497 _ _ t525 t501 1 t548 _ ?s1 (S.rl HO_503000) ?s3 (S.rl HO_503002) A139.out).mono ?_); (case s1 => exact S.rd HO_503000); (case s3 => exact S.rd HO_503002); rintro e w146 ⟨rfl, hb⟩; refine ⟨_, rfl, ?_⟩; replace HO_482000 := S.rb HO_482000 hb; replace HO_482002 := S.rb HO_482002 hb; replace HO_494000 := S.rb HO_494000 hb; replace HO_494002 := S.rb HO_494002 hb; replace HO_503000 := S.rb HO_503000 hb; replace HO_503002 := S.rb HO_503002 hb; replace HO_547000 := S.rb HO_547000 hb; replace HO_547002 := S.rb HO_547002 hb; replace BK459 := S.kb BK459 hb; replace BK481 := S.kb BK481 hb; replace BK493 := S.kb BK493 hb; replace BK502 := S.kb BK502 hb; replace BK546 := S.kb BK546 hb; replace HB := S.sG hb; (try clear hb)))
                      go_ret
                      exact ⟨S.eW, S.bG⟩
                     ·by_cases c147 : t548 = t523
                      ·rw [if_pos c147] at H
                       have c147b0 : (t548 == t523) = true := beq_iff_eq.mpr c147
                       have c147b1 : (t548 != t523) = false := bne_eq_false_iff_eq.mpr c147
                       clear c147
                       obtain rfl := Option.some.inj H
                       have hnb148 := NB502_459.out
                       have hnc148 := NB459_502.out
                       have hnb149 := NB502_481.out
                       have hnc149 := NB481_502.out
                       have hnb150 := NB502_493.out
                       have hnc150 := NB493_502.out
                       have hnb151 := NB502_546.out
                       have hnc151 := NB546_502.out
                       obtain ⟨Z152a, Z152b, Z152c, Z152d, Y152a, Y152b, Y152c, Y152d⟩ := S.c4 BK502.out
                       go_wp2_with (first | ((with_reducible refine gate_callee (f := 44) rfl ?_); refine S.gL (some 91) Try.func44 #[.agg #[.slice Ao49 t524.length co49, .int .i64 t497, .slice Ao54 t525.length co54, .int .i64 t501], .int .i64 1] ?_; (with_reducible refine (laws_heldControl.calls kj111 _ _ t524 t497 _ _ t525 t501 1 t548 _ ?s1 (S.rl HO_503000) ?s3 (S.rl HO_503002) A139.out).mono ?_); (case s1 => exact S.rd HO_503000); (case s3 => exact S.rd HO_503002); rintro e w153 ⟨rfl, hb⟩; refine ⟨_, rfl, ?_⟩; replace HO_482000 := S.rb HO_482000 hb; replace HO_482002 := S.rb HO_482002 hb; replace HO_494000 := S.rb HO_494000 hb; replace HO_494002 := S.rb HO_494002 hb; replace HO_503000 := S.rb HO_503000 hb; replace HO_503002 := S.rb HO_503002 hb; replace HO_547000 := S.rb HO_547000 hb; replace HO_547002 := S.rb HO_547002 hb; replace BK459 := S.kb BK459 hb; replace BK481 := S.kb BK481 hb; replace BK493 := S.kb BK493 hb; replace BK502 := S.kb BK502 hb; replace BK546 := S.kb BK546 hb; replace HB := S.sG hb; (try clear hb)))
                       go_ret
                       exact ⟨S.eW, S.bG⟩
                      ·rw [if_neg c147] at H
                       have c147b0 : (t548 == t523) = false := beq_eq_false_iff_ne.mpr c147
                       have c147b1 : (t548 != t523) = true := bne_iff_ne.mpr c147
                       obtain rfl := Option.some.inj H
                       have hnb154 := NB502_459.out
                       have hnc154 := NB459_502.out
                       have hnb155 := NB502_481.out
                       have hnc155 := NB481_502.out
                       have hnb156 := NB502_493.out
                       have hnc156 := NB493_502.out
                       have hnb157 := NB502_546.out
                       have hnc157 := NB546_502.out
                       obtain ⟨Z158a, Z158b, Z158c, Z158d, Y158a, Y158b, Y158c, Y158d⟩ := S.c4 BK502.out
                       go_wp2_with (first | ((with_reducible refine gate_callee (f := 44) rfl ?_); refine S.gL (some 91) Try.func44 #[.agg #[.slice Ao49 t524.length co49, .int .i64 t497, .slice Ao54 t525.length co54, .int .i64 t501], .int .i64 1] ?_; (with_reducible refine (laws_heldControl.calls kj111 _ _ t524 t497 _ _ t525 t501 1 t548 _ ?s1 (S.rl HO_503000) ?s3 (S.rl HO_503002) A139.out).mono ?_); (case s1 => exact S.rd HO_503000); (case s3 => exact S.rd HO_503002); rintro e w159 ⟨rfl, hb⟩; refine ⟨_, rfl, ?_⟩; replace HO_482000 := S.rb HO_482000 hb; replace HO_482002 := S.rb HO_482002 hb; replace HO_494000 := S.rb HO_494000 hb; replace HO_494002 := S.rb HO_494002 hb; replace HO_503000 := S.rb HO_503000 hb; replace HO_503002 := S.rb HO_503002 hb; replace HO_547000 := S.rb HO_547000 hb; replace HO_547002 := S.rb HO_547002 hb; replace BK459 := S.kb BK459 hb; replace BK481 := S.kb BK481 hb; replace BK493 := S.kb BK493 hb; replace BK502 := S.kb BK502 hb; replace BK546 := S.kb BK546 hb; replace HB := S.sG hb; (try clear hb)))
                       go_ret
                       exact ⟨S.eW, S.bG⟩

end Go.Proofs.Ytopchlafmfgpnaa.PFnExactStepSiren
