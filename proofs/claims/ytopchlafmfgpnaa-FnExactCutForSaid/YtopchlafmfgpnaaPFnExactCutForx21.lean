/- Printed by a program: what the Go functions compute, as plain Lean functions (.f), and the proofs that the machine's calls come to just that (.calls). -/
import Derived.Test.YtopchlafmfgpnaaPFnExactCutForx0
import Derived.Test.YtopchlafmfgpnaaPFnExactCutForx1
import Derived.Test.YtopchlafmfgpnaaPFnExactCutForx2
import Derived.Test.YtopchlafmfgpnaaPFnExactCutForx11
import Derived.Test.YtopchlafmfgpnaaPFnExactCutForx20
namespace Go.Proofs.Ytopchlafmfgpnaa.PFnExactCutFor
open Go.RowKit Go.Proofs.YtopchlafmfgpnaaW.PrintWords Go.Proofs.YtopchlafmfgpnaaW.PrintLast Go.Proofs.YtopchlafmfgpnaaW.PrintMore
attribute [local go_sem] max2_int min2_int max_two min_two max_three min_three max_four min_four   -- for this text's walks alone
set_option linter.unusedVariables false
set_option linter.unusedSimpArgs false

/-! ### laws_FnExactCutFor: function 7 -/
mutual
def laws_FnExactCutFor.j0 : Nat → List (S84) → Int → Bool → List (S52) → Bool → Bool → List Int → Int → List Int → Int → List Int → Int → List Int → Int → List Int → Int → List Int → Int → List Int → Int → List Int → Int → Option (Bool)
 | 0, _, _, _, _, _, _, _, _, _, _, _, _, _, _, _, _, _, _, _, _, _, _ => none
 | k + 1, x0, x2, x9, x10, x13, x57, x392000, x392001, x392002, x392003, x415000, x415001, x415002, x415003, x427000, x427001, x427002, x427003, x437000, x437001, x437002, x437003 => if x57 = true then (some false) else ((laws_toPathS.f k x0).bind fun t438 => ((laws_eqPathS.f k x10 t438).bind fun t441 => (if t441 = true then ((laws_toControl.f k x392000 x392001 x392002 x392003).bind fun bt442 => ((laws_eqControl.f k x427000 x427001 x427002 x427003 bt442.1 bt442.2.1 bt442.2.2.1 bt442.2.2.2).bind fun t450 => (if t450 = true then ((laws_markPathS.f k x10 1).bind fun bt451 => ((laws_markControl.f k x427000 x427001 x427002 x427003 bt451.1).bind fun bt453 => (if bt453.1 < 0 then (laws_FnExactCutFor.j1 k x0 x2 x9 true x392000 x392001 x392002 x392003 x415000 x415001 x415002 x415003 x437000 x437001 x437002 x437003) else ((laws_eqControl.f k x437000 x437001 x437002 x437003 x415000 x415001 x415002 x415003).bind fun t456 => (if t456 = true then (laws_FnExactCutFor.j1 k x0 x2 x9 (x13 != x9) x392000 x392001 x392002 x392003 x415000 x415001 x415002 x415003 x437000 x437001 x437002 x437003) else (laws_FnExactCutFor.j1 k x0 x2 x9 true x392000 x392001 x392002 x392003 x415000 x415001 x415002 x415003 x437000 x437001 x437002 x437003)))))) else (some false)))) else (some false))))
def laws_FnExactCutFor.j1 : Nat → List (S84) → Int → Bool → Bool → List Int → Int → List Int → Int → List Int → Int → List Int → Int → List Int → Int → List Int → Int → Option (Bool)
 | 0, _, _, _, _, _, _, _, _, _, _, _, _, _, _, _, _ => none
 | k + 1, x0, x2, x9, x86, x392000, x392001, x392002, x392003, x415000, x415001, x415002, x415003, x437000, x437001, x437002, x437003 => if x86 = true then (some false) else ((laws_markControl.f k x437000 x437001 x437002 x437003 1).bind fun bt457 => ((laws_heldControl.f k bt457.2.1 x437001 bt457.2.2 x437003 1).bind fun t460 => (if t460 < 0 then (some false) else (if t460 = bt457.1 then ((laws_toPathS.f k x0).bind fun t461 => ((laws_toControl.f k x392000 x392001 x392002 x392003).bind fun bt464 => ((impl_CutFor.f k t461 bt464.1 bt464.2.1 bt464.2.2.1 bt464.2.2.2 x2).bind fun bt472 => ((laws_eqControl.f k bt472.1 bt472.2.1 bt472.2.2.1 bt472.2.2.2.1 x415000 x415001 x415002 x415003).bind fun t482 => (if t482 = true then (laws_FnExactCutFor.j2 k bt457.1 (bt472.2.2.2.2 != x9) bt457.2.1 x437001 bt457.2.2 x437003) else (laws_FnExactCutFor.j2 k bt457.1 true bt457.2.1 x437001 bt457.2.2 x437003)))))) else (some false)))))
def laws_FnExactCutFor.j2 : Nat → Int → Bool → List Int → Int → List Int → Int → Option (Bool)
 | 0, _, _, _, _, _, _ => none
 | k + 1, x15, x115, x437000, x437001, x437002, x437003 => if x115 = true then (some false) else ((laws_heldControl.f k x437000 x437001 x437002 x437003 1).bind fun t483 => (if t483 < 0 then (some false) else (if t483 = x15 then (some true) else (some false))))
end
def laws_FnExactCutFor.f (k : Nat) (l0 : List (S84)) (l1_0 : List Int) (a1_1 : Int) (l1_2 : List Int) (a1_3 : Int) (a2 : Int) : Option (Bool) := (laws_szPathS.f l0 1048576).bind fun t392 => (if t392 < 0 then (some true) else ((laws_szControl.f l1_0 a1_1 l1_2 a1_3 t392).bind fun t393 => (if t393 < 0 then (some true) else ((laws_toPathS.f k l0).bind fun t394 => ((laws_toControl.f k l1_0 a1_1 l1_2 a1_3).bind fun bt397 => ((spec_CutFor.f k t394 bt397.1 bt397.2.1 bt397.2.2.1 bt397.2.2.2 a2).bind fun bt405 => ((laws_toPathS.f k l0).bind fun t415 => ((laws_toControl.f k l1_0 a1_1 l1_2 a1_3).bind fun bt418 => ((impl_CutFor.f k t415 bt418.1 bt418.2.1 bt418.2.2.1 bt418.2.2.2 a2).bind fun bt427 => ((laws_eqControl.f k bt427.1 bt427.2.1 bt427.2.2.1 bt427.2.2.2.1 bt405.1 bt405.2.1 bt405.2.2.1 bt405.2.2.2.1).bind fun t437 => (if t437 = true then (laws_FnExactCutFor.j0 k l0 a2 bt405.2.2.2.2 t415 bt427.2.2.2.2 (bt427.2.2.2.2 != bt405.2.2.2.2) l1_0 a1_1 l1_2 a1_3 bt405.1 bt405.2.1 bt405.2.2.1 bt405.2.2.2.1 bt418.1 bt418.2.1 bt418.2.2.1 bt418.2.2.2 bt427.1 bt427.2.1 bt427.2.2.1 bt427.2.2.2.1) else (laws_FnExactCutFor.j0 k l0 a2 bt405.2.2.2.2 t415 bt427.2.2.2.2 true l1_0 a1_1 l1_2 a1_3 bt405.1 bt405.2.1 bt405.2.2.1 bt405.2.2.2.1 bt418.1 bt418.2.1 bt418.2.2.1 bt418.2.2.2 bt427.1 bt427.2.1 bt427.2.2.1 bt427.2.2.2.1))))))))))))
def laws_FnExactCutFor.T8 : Bool × List (List Nat × List Nat) := (true, [([], []), ([0], [0]), ([], []), ([2, 1], [2]), ([], []), ([1, 3, 4, 3], [1, 3, 4]), ([5], [5]), ([6], [6]), ([6], [6]), ([], []), ([9, 7, 5, 0, 1, 2, 3, 4, 5, 6, 7, 9], [7, 9]), ([8, 10, 0, 1, 2, 3, 4, 5, 6, 7, 8, 9, 10], [8])])
def laws_FnExactCutFor.B8 : List Nat := [0, 1, 0, 7, 0, 31, 63, 127, 127, 0, 767, 2047]
theorem laws_FnExactCutFor.tab8 : rtab .any (opsOf Try.f7 8) = laws_FnExactCutFor.T8 := by kernel_rfl
theorem laws_FnExactCutFor.bits8 : waitsOk laws_FnExactCutFor.T8.2 laws_FnExactCutFor.B8 = true := by kernel_rfl
def laws_FnExactCutFor.T31 : Bool × List (List Nat × List Nat) := (true, [([], []), ([0], [0]), ([], []), ([2, 1], [2]), ([], []), ([1, 3, 4, 3], [1, 3, 4]), ([5], [5]), ([6], [6]), ([6], [6]), ([], []), ([9, 7, 5, 0, 1, 2, 3, 4, 5, 6, 7, 9], [7, 9]), ([8, 10, 0, 1, 2, 3, 4, 5, 6, 7, 8, 9, 10], [8])])
def laws_FnExactCutFor.B31 : List Nat := [0, 1, 0, 7, 0, 31, 63, 127, 127, 0, 767, 2047]
theorem laws_FnExactCutFor.tab31 : rtab .any (opsOf Try.f7 31) = laws_FnExactCutFor.T31 := by kernel_rfl
theorem laws_FnExactCutFor.bits31 : waitsOk laws_FnExactCutFor.T31.2 laws_FnExactCutFor.B31 = true := by kernel_rfl
set_option maxHeartbeats 8000000 in
set_option maxRecDepth 100000 in
theorem laws_FnExactCutFor.calls (k : Nat) (A0 : Option Addr) (c0 : Nat) (l0 : List (S84)) (A1_0 : Option Addr) (c1_0 : Nat) (l1_0 : List Int) (a1_1 : Int) (A1_2 : Option Addr) (c1_2 : Nat) (l1_2 : List Int) (a1_3 : Int) (a2 : Int) (r : Bool) (w : World) (hr0 : Kd.C k84 w A0 l0.length l0) (hc0 : l0.length ≤ c0) (hr1_0 : Kd.C (Kd.int .i64) w A1_0 l1_0.length l1_0) (hc1_0 : l1_0.length ≤ c1_0) (hr1_2 : Kd.C (Kd.int .i64) w A1_2 l1_2.length l1_2) (hc1_2 : l1_2.length ≤ c1_2) (h : laws_FnExactCutFor.f k l0 l1_0 a1_1 l1_2 a1_3 a2 = some r) :
  Calls Try.prog 7 #[.slice A0 l0.length c0, .agg #[.slice A1_0 l1_0.length c1_0, .int .i64 a1_1, .slice A1_2 l1_2.length c1_2, .int .i64 a1_3], .int .i64 a2] w fun e w' => e = .returned (.bool r) ∧ Below w.heap.size w w' := by
 have hu57 := Try.underlying57
 have hu60 := Try.underlying60
 have HR0 := Aside0.mk hr0
 have HC0 := Aside0.mk hc0
 clear hr0 hc0
 have HR1_0 := Aside0.mk hr1_0
 have HC1_0 := Aside0.mk hc1_0
 clear hr1_0 hc1_0
 have HR1_2 := Aside0.mk hr1_2
 have HC1_2 := Aside0.mk hc1_2
 clear hr1_2 hc1_2
 have HB := Aside0.mk (Below.refl w.heap.size w)
 have H : ((laws_szPathS.f l0 1048576).bind fun t392 => (if t392 < 0 then (some true) else ((laws_szControl.f l1_0 a1_1 l1_2 a1_3 t392).bind fun t393 => (if t393 < 0 then (some true) else ((laws_toPathS.f k l0).bind fun t394 => ((laws_toControl.f k l1_0 a1_1 l1_2 a1_3).bind fun bt397 => ((spec_CutFor.f k t394 bt397.1 bt397.2.1 bt397.2.2.1 bt397.2.2.2 a2).bind fun bt405 => ((laws_toPathS.f k l0).bind fun t415 => ((laws_toControl.f k l1_0 a1_1 l1_2 a1_3).bind fun bt418 => ((impl_CutFor.f k t415 bt418.1 bt418.2.1 bt418.2.2.1 bt418.2.2.2 a2).bind fun bt427 => ((laws_eqControl.f k bt427.1 bt427.2.1 bt427.2.2.1 bt427.2.2.2.1 bt405.1 bt405.2.1 bt405.2.2.1 bt405.2.2.2.1).bind fun t437 => (if t437 = true then (laws_FnExactCutFor.j0 k l0 a2 bt405.2.2.2.2 t415 bt427.2.2.2.2 (bt427.2.2.2.2 != bt405.2.2.2.2) l1_0 a1_1 l1_2 a1_3 bt405.1 bt405.2.1 bt405.2.2.1 bt405.2.2.2.1 bt418.1 bt418.2.1 bt418.2.2.1 bt418.2.2.2 bt427.1 bt427.2.1 bt427.2.2.1 bt427.2.2.2.1) else (laws_FnExactCutFor.j0 k l0 a2 bt405.2.2.2.2 t415 bt427.2.2.2.2 true l1_0 a1_1 l1_2 a1_3 bt405.1 bt405.2.1 bt405.2.2.1 bt405.2.2.2.1 bt418.1 bt418.2.1 bt418.2.2.1 bt418.2.2.2 bt427.1 bt427.2.1 bt427.2.2.1 bt427.2.2.2.1))))))))))))) = some r := h
 clear h
 replace H := S.bd H; obtain ⟨t392, A4, H⟩ := H
 (try dsimp only at H)
 replace H := S.dc H; rcases H with ⟨H, c5b0⟩ | ⟨H, c5b0⟩
 ·obtain rfl := Option.some.inj H
  go_enter Try.func7, Try.ntmps7
  go_wp2_with (first | ((with_reducible refine gate_dst (N := 4) rfl ?_); refine S.bx 4 (cs := #[.slice A1_0 l1_0.length c1_0, .int .i64 a1_1, .slice A1_2 l1_2.length c1_2, .int .i64 a1_3]) (t := 57) ?_; intro gb391 hg w6 hbox hb; have BK391 := Aside0.mk hbox; have GW391 := S.geA hg; have GE391 := S.geA hg; replace HB := S.sA hb; clear hb hbox hg) | ((with_reducible refine gate_callee (f := 11) rfl ?_); refine S.gL (some 21) Try.func11 #[.slice A0 l0.length c0, .int .i64 1048576] ?_; (with_reducible refine (laws_szPathS.calls _ _ l0 1048576 t392 _ ?s1 HC0.out A4.out).mono ?_); (case s1 => exact S.cA HR0.out); rintro e w' ⟨rfl, ⟨nd, rfl⟩⟩; refine ⟨_, rfl, ?_⟩))
  go_ret
  exact ⟨S.eW, S.bG⟩
 ·replace H := Option.bind_eq_some_iff.mp H
  obtain ⟨t393, A70, H⟩ := H
  replace H : (if t393 < 0 then (some true) else ((laws_toPathS.f k l0).bind fun t394 => ((laws_toControl.f k l1_0 a1_1 l1_2 a1_3).bind fun bt397 => ((spec_CutFor.f k t394 bt397.1 bt397.2.1 bt397.2.2.1 bt397.2.2.2 a2).bind fun bt405 => ((laws_toPathS.f k l0).bind fun t415 => ((laws_toControl.f k l1_0 a1_1 l1_2 a1_3).bind fun bt418 => ((impl_CutFor.f k t415 bt418.1 bt418.2.1 bt418.2.2.1 bt418.2.2.2 a2).bind fun bt427 => ((laws_eqControl.f k bt427.1 bt427.2.1 bt427.2.2.1 bt427.2.2.2.1 bt405.1 bt405.2.1 bt405.2.2.1 bt405.2.2.2.1).bind fun t437 => (if t437 = true then (laws_FnExactCutFor.j0 k l0 a2 bt405.2.2.2.2 t415 bt427.2.2.2.2 (bt427.2.2.2.2 != bt405.2.2.2.2) l1_0 a1_1 l1_2 a1_3 bt405.1 bt405.2.1 bt405.2.2.1 bt405.2.2.2.1 bt418.1 bt418.2.1 bt418.2.2.1 bt418.2.2.2 bt427.1 bt427.2.1 bt427.2.2.1 bt427.2.2.2.1) else (laws_FnExactCutFor.j0 k l0 a2 bt405.2.2.2.2 t415 bt427.2.2.2.2 true l1_0 a1_1 l1_2 a1_3 bt405.1 bt405.2.1 bt405.2.2.1 bt405.2.2.2.1 bt418.1 bt418.2.1 bt418.2.2.1 bt418.2.2.2 bt427.1 bt427.2.1 bt427.2.2.1 bt427.2.2.2.1)))))))))) = some r := H
  have A7 := Aside0.mk A70
  clear A70
  replace H := S.dc H; rcases H with ⟨H, c8b0⟩ | ⟨H, c8b0⟩
  ·obtain rfl := Option.some.inj H
   go_enter Try.func7, Try.ntmps7
   go_wp2_with (first | ((with_reducible refine gate_dst (N := 4) rfl ?_); refine S.bx 4 (cs := #[.slice A1_0 l1_0.length c1_0, .int .i64 a1_1, .slice A1_2 l1_2.length c1_2, .int .i64 a1_3]) (t := 57) ?_; intro gb391 hg w9 hbox hb; have BK391 := Aside0.mk hbox; have GW391 := S.geA hg; have GE391 := S.geA hg; replace HB := S.sA hb; clear hb hbox hg) | ((with_reducible refine gate_callee (f := 11) rfl ?_); refine S.gL (some 21) Try.func11 #[.slice A0 l0.length c0, .int .i64 1048576] ?_; (with_reducible refine (laws_szPathS.calls _ _ l0 1048576 t392 _ ?s1 HC0.out A4.out).mono ?_); (case s1 => exact S.cA HR0.out); rintro e w' ⟨rfl, ⟨nd, rfl⟩⟩; refine ⟨_, rfl, ?_⟩; obtain ⟨Z10a, Z10b, Z10c, Z10d, Y10a, Y10b, Y10c, Y10d⟩ := S.c4 BK391.out) | ((with_reducible refine gate_callee (f := 33) rfl ?_); refine S.gL (some 26) Try.func33 #[.agg #[.slice A1_0 l1_0.length c1_0, .int .i64 a1_1, .slice A1_2 l1_2.length c1_2, .int .i64 a1_3], .int .i64 t392] ?_; (with_reducible refine (laws_szControl.calls _ _ l1_0 a1_1 _ _ l1_2 a1_3 t392 t393 _ ?s1 HC1_0.out ?s3 HC1_2.out A7.out).mono ?_); (case s1 => repeat (first | exact (Kd.C_below HR1_0.out S.bG) | (with_reducible refine Kd.C_alloc ?_ _) | (with_reducible refine Kd.C_drewN ?_ _) | (with_reducible refine Kd.C_drew ?_))); (case s3 => repeat (first | exact (Kd.C_below HR1_2.out S.bG) | (with_reducible refine Kd.C_alloc ?_ _) | (with_reducible refine Kd.C_drewN ?_ _) | (with_reducible refine Kd.C_drew ?_))); rintro e w11 ⟨rfl, hb⟩; refine ⟨_, rfl, ?_⟩; replace BK391 := S.kb BK391 hb; replace HB := S.sG hb; (try clear hb)))
   go_ret
   exact ⟨S.eW, S.bG⟩
  ·replace H := Option.bind_eq_some_iff.mp H
   obtain ⟨t394, A120, H⟩ := H
   replace H : ((laws_toControl.f k l1_0 a1_1 l1_2 a1_3).bind fun bt397 => ((spec_CutFor.f k t394 bt397.1 bt397.2.1 bt397.2.2.1 bt397.2.2.2 a2).bind fun bt405 => ((laws_toPathS.f k l0).bind fun t415 => ((laws_toControl.f k l1_0 a1_1 l1_2 a1_3).bind fun bt418 => ((impl_CutFor.f k t415 bt418.1 bt418.2.1 bt418.2.2.1 bt418.2.2.2 a2).bind fun bt427 => ((laws_eqControl.f k bt427.1 bt427.2.1 bt427.2.2.1 bt427.2.2.2.1 bt405.1 bt405.2.1 bt405.2.2.1 bt405.2.2.2.1).bind fun t437 => (if t437 = true then (laws_FnExactCutFor.j0 k l0 a2 bt405.2.2.2.2 t415 bt427.2.2.2.2 (bt427.2.2.2.2 != bt405.2.2.2.2) l1_0 a1_1 l1_2 a1_3 bt405.1 bt405.2.1 bt405.2.2.1 bt405.2.2.2.1 bt418.1 bt418.2.1 bt418.2.2.1 bt418.2.2.2 bt427.1 bt427.2.1 bt427.2.2.1 bt427.2.2.2.1) else (laws_FnExactCutFor.j0 k l0 a2 bt405.2.2.2.2 t415 bt427.2.2.2.2 true l1_0 a1_1 l1_2 a1_3 bt405.1 bt405.2.1 bt405.2.2.1 bt405.2.2.2.1 bt418.1 bt418.2.1 bt418.2.2.1 bt418.2.2.2 bt427.1 bt427.2.1 bt427.2.2.1 bt427.2.2.2.1)))))))) = some r := H
   have A12 := Aside0.mk A120
   clear A120
   replace H := S.bd H; obtain ⟨⟨t397, t400, t401, t404⟩, A13, H⟩ := H
   (try dsimp only at H)
   replace H := S.bd H; obtain ⟨⟨t405, t408, t409, t412, t413⟩, A14, H⟩ := H
   (try dsimp only at H)
   replace H := S.bd H; obtain ⟨t415, A15, H⟩ := H
   (try dsimp only at H)
   replace H := S.bd H; obtain ⟨⟨t418, t421, t422, t425⟩, A16, H⟩ := H
   (try dsimp only at H)
   replace H := S.bd H; obtain ⟨⟨t427, t430, t431, t434, t435⟩, A17, H⟩ := H
   (try dsimp only at H)
   have HC18 := Aside0.mk H
   clear H
   go_enter Try.func7, Try.ntmps7
   try go_wp2_with (first | ((with_reducible refine gate_dst (N := 4) rfl ?_); refine S.bx 4 (cs := #[.slice A1_0 l1_0.length c1_0, .int .i64 a1_1, .slice A1_2 l1_2.length c1_2, .int .i64 a1_3]) (t := 57) ?_; intro gb391 hg w19 hbox hb; have BK391 := Aside0.mk hbox; have GW391 := S.geA hg; have GE391 := S.geA hg; replace HB := S.sA hb; clear hb hbox hg) | ((with_reducible refine gate_callee (f := 11) rfl ?_); refine S.gL (some 21) Try.func11 #[.slice A0 l0.length c0, .int .i64 1048576] ?_; (with_reducible refine (laws_szPathS.calls _ _ l0 1048576 t392 _ ?s1 HC0.out A4.out).mono ?_); (case s1 => exact S.cA HR0.out); rintro e w' ⟨rfl, ⟨nd, rfl⟩⟩; refine ⟨_, rfl, ?_⟩; (try (rw [drewN_self w19]; generalize hq_ : World.drewN w19 _ = w19; have n0_ : Aside0 (w19.heap[gb391]? = some (.cells #[.slice A1_0 l1_0.length c1_0, .int .i64 a1_1, .slice A1_2 l1_2.length c1_2, .int .i64 a1_3] 57 (0, 0))) := ⟨by rw [← hq_]; exact (S.uB BK391.out)⟩; have n1_ : Aside0 (Below w.heap.size w w19) := ⟨by rw [← hq_]; exact S.bG⟩; clear BK391 HB hq_; have BK391 := n0_; have HB := n1_; clear n0_ n1_)); obtain ⟨Z20a, Z20b, Z20c, Z20d, Y20a, Y20b, Y20c, Y20d⟩ := S.c4 BK391.out) | ((with_reducible refine gate_callee (f := 33) rfl ?_); refine S.gL (some 26) Try.func33 #[.agg #[.slice A1_0 l1_0.length c1_0, .int .i64 a1_1, .slice A1_2 l1_2.length c1_2, .int .i64 a1_3], .int .i64 t392] ?_; (with_reducible refine (laws_szControl.calls _ _ l1_0 a1_1 _ _ l1_2 a1_3 t392 t393 _ ?s1 HC1_0.out ?s3 HC1_2.out A7.out).mono ?_); (case s1 => exact S.cA HR1_0.out); (case s3 => exact S.cA HR1_2.out); rintro e w21 ⟨rfl, hb⟩; refine ⟨_, rfl, ?_⟩; replace BK391 := S.kb BK391 hb; replace HB := S.sG hb; (try clear hb)))
   replace BK391 := Aside0.mk (blk_drew BK391.out)
   replace HB := Aside0.mk (below_drew1 HB.out)
   refine S.st (n := 12) (ds := []) #[false, false, false, false, false, false, false, false, false, false, false, false] (fun w_ h_ => have x_ := S.e4 (S.Q h_ BK391.out); x_) (fun hHeld => ?_); refine with_tabW laws_FnExactCutFor.tab8 laws_FnExactCutFor.bits8 (fun HT_ HW_ => ?_)
   generalize w21.drew = w22 at BK391 HB hHeld ⊢
   refine S.pS 0 30 ?_
   refine S.pS 4 34 ?_
   refine S.tK 2 32 #[true, false, true, false, true, false, false, false, false, false, false, false] ?_
   refine join_ (σ := Value × Value × Value × Value × Value × Nat) 2 #[true, true, true, true, true, true, true, true, true, true, false, false] (fun s_ => [(31, s_.1), (33, .agg #[s_.2.1, .int .i64 t400, s_.2.2.1, .int .i64 t404]), (35, .tuple #[.agg #[s_.2.2.2.1, .int .i64 t408, s_.2.2.2.2.1, .int .i64 t412], .bool t413]), (8, .pointer (some ⟨s_.2.2.2.2.2, 0, none⟩)), (29, .tuple #[.agg #[s_.2.2.2.1, .int .i64 t408, s_.2.2.2.2.1, .int .i64 t412], .bool t413]), (36, .agg #[s_.2.2.2.1, .int .i64 t408, s_.2.2.2.2.1, .int .i64 t412]), (37, .bool t413)]) (fun s_ w' => (w'.cell? ⟨gb391, 0, none⟩ = some (.slice A1_0 l1_0.length c1_0) ∧ w'.cell? ⟨gb391, 1, none⟩ = some (.int .i64 a1_1) ∧ w'.cell? ⟨gb391, 2, none⟩ = some (.slice A1_2 l1_2.length c1_2) ∧ w'.cell? ⟨gb391, 3, none⟩ = some (.int .i64 a1_3)) ∧ (Kd.R k52 52 w' w.heap.size (fun _ => True) s_.1 t394) ∧ (Kd.R (Kd.int .i64) 3 w' w.heap.size (fun k_ => some k_ ≠ (s_.2.2.1 : Value).ownBlock ∧ some k_ ≠ (s_.2.2.2.1 : Value).ownBlock ∧ some k_ ≠ (s_.2.2.2.2.1 : Value).ownBlock) s_.2.1 t397) ∧ (Kd.R (Kd.int .i64) 3 w' w.heap.size (fun k_ => some k_ ≠ (s_.2.1 : Value).ownBlock ∧ some k_ ≠ (s_.2.2.2.1 : Value).ownBlock ∧ some k_ ≠ (s_.2.2.2.2.1 : Value).ownBlock) s_.2.2.1 t401) ∧ (Kd.R (Kd.int .i64) 3 w' w.heap.size (fun k_ => some k_ ≠ (s_.2.1 : Value).ownBlock ∧ some k_ ≠ (s_.2.2.1 : Value).ownBlock ∧ some k_ ≠ (s_.2.2.2.2.1 : Value).ownBlock) s_.2.2.2.1 t405) ∧ (Kd.R (Kd.int .i64) 3 w' w.heap.size (fun k_ => some k_ ≠ (s_.2.1 : Value).ownBlock ∧ some k_ ≠ (s_.2.2.1 : Value).ownBlock ∧ some k_ ≠ (s_.2.2.2.1 : Value).ownBlock) s_.2.2.2.2.1 t409) ∧ (w'.heap[gb391]? = some (.cells #[.slice A1_0 l1_0.length c1_0, .int .i64 a1_1, .slice A1_2 l1_2.length c1_2, .int .i64 a1_3] 57 (0, 0))) ∧ (w'.heap[s_.2.2.2.2.2]? = some (.cells #[.slice none 0 0, .int .i64 0, .slice none 0 0, .int .i64 0] 60 (0, 0))) ∧ (w.heap.size ≤ s_.2.2.2.2.2) ∧ (w.heap.size ≤ s_.2.2.2.2.2) ∧ (gb391 ≠ s_.2.2.2.2.2) ∧ (s_.2.2.2.2.2 ≠ gb391) ∧ (Below w.heap.size w w')) ?_ ?_
   rotate_left
   ·intro hCont
    refine two_ (i := 1) (j := 9) (Ni := some 31) (Nj := some 8) #[true, true, true, false, true, false, false, false, false, false, false, false] #[true, false, true, false, true, false, false, false, false, true, false, false] rfl rfl rfl rfl (two_of HT_.out (by kernel_rfl)) (by decide) (by decide) (fun K hK => ?_) (fun K hK => ?_)
    ·skip
     refine S.go Try.func14 #[.slice A0 l0.length c0] ?_
     with_reducible refine (laws_toPathS.calls k _ _ l0 t394 _ ?s1 ?s2 A12.out).mono ?_
     (case s1 => exact S.cA HR0.out)
     (case s2 => exact HC0.out)
     rintro e w23 ⟨v395, rfl, ho0, hb⟩
     refine ⟨_, rfl, ?_⟩
     have HO396 := S.lwG ho0
     replace BK391 := S.kb BK391 hb
     replace HB := S.sG hb
     (try clear hb)
     (try clear hb2)
     (try clear hk)
     (try clear hi)
     (try clear ho0)
     refine hK.out _ _ (S.e4 BK391.out) (fun hHeld => ?_)
     clear hK K
     refine S.nm 31 ?_
     refine two_ (i := 3) (j := 9) (Ni := some 33) (Nj := some 8) #[true, true, true, true, true, false, false, false, false, false, false, false] #[true, true, true, false, true, false, false, false, false, true, false, false] rfl rfl rfl rfl (two_of HT_.out (by kernel_rfl)) (by decide) (by decide) (fun K hK => ?_) (fun K hK => ?_)
     ·skip
      refine S.go Try.func35 #[.agg #[.slice A1_0 l1_0.length c1_0, .int .i64 a1_1, .slice A1_2 l1_2.length c1_2, .int .i64 a1_3]] ?_
      with_reducible refine (laws_toControl.calls k _ _ l1_0 a1_1 _ _ l1_2 a1_3 t397 t400 t401 t404 _ ?s1 ?s2 ?s3 ?s4 A13.out).mono ?_
      (case s1 => exact S.cA HR1_0.out)
      (case s2 => exact HC1_0.out)
      (case s3 => exact S.cA HR1_2.out)
      (case s4 => exact HC1_2.out)
      rintro e w24 ⟨v398, v402, rfl, ho0, ho1, hb⟩
      refine ⟨_, rfl, ?_⟩
      replace HO396 := S.rb HO396 hb
      have HO399 := S.lwG ho0
      have HO403 := S.lwG ho1
      replace BK391 := S.kb BK391 hb
      replace HB := S.sG hb
      (try clear hb)
      (try clear hb2)
      (try clear hk)
      (try clear hi)
      (try clear ho0)
      (try clear ho1)
      obtain ⟨Ao25, co25, eo25⟩ := Kd.R_slice HO396.out
      (first | subst eo25 | (injection eo25 with f1_ f2_ f3_; have f4_ := f1_.symm; have f5_ := f3_.symm; clear f1_ f2_ f3_; subst f4_; subst f5_))
      obtain ⟨Ao26, co26, eo26⟩ := Kd.R_slice HO399.out
      (first | subst eo26 | (injection eo26 with f1_ f2_ f3_; have f4_ := f1_.symm; have f5_ := f3_.symm; clear f1_ f2_ f3_; subst f4_; subst f5_))
      obtain ⟨Ao27, co27, eo27⟩ := Kd.R_slice HO403.out
      (first | subst eo27 | (injection eo27 with f1_ f2_ f3_; have f4_ := f1_.symm; have f5_ := f3_.symm; clear f1_ f2_ f3_; subst f4_; subst f5_))
      refine hK.out _ _ (S.e4 BK391.out) (fun hHeld => ?_)
      clear hK K
      refine S.nm 33 ?_
      refine two_ (i := 5) (j := 9) (Ni := some 35) (Nj := some 8) #[true, true, true, true, true, true, false, false, false, false, false, false] #[true, true, true, true, true, false, false, false, false, true, false, false] rfl rfl rfl rfl (two_of HT_.out (by kernel_rfl)) (by decide) (by decide) (fun K hK => ?_) (fun K hK => ?_)
      ·skip
       refine S.go Try.func41 #[.slice Ao25 t394.length co25, .agg #[.slice Ao26 t397.length co26, .int .i64 t400, .slice Ao27 t401.length co27, .int .i64 t404], .int .i64 a2] ?_
       with_reducible refine (spec_CutFor.calls k _ _ t394 _ _ t397 t400 _ _ t401 t404 a2 t405 t408 t409 t412 t413 _ ?s1 ?s2 ?s3 ?s4 ?s5 ?s6 A14.out).mono ?_
       (case s1 => exact S.rd HO396)
       (case s2 => exact S.rl HO396)
       (case s3 => exact S.rd HO399)
       (case s4 => exact S.rl HO399)
       (case s5 => exact S.rd HO403)
       (case s6 => exact S.rl HO403)
       rintro e w28 ⟨v406, v410, rfl, ho0, ho1, hb⟩
       refine ⟨_, rfl, ?_⟩
       replace HO396 := S.rb HO396 hb
       have HO407 := Aside0.mk (Kd.R_lower (Kd.R_new' (Kd.R_new' ho0 (Kd.R_lt (S.uR HO399.out))) (Kd.R_lt (S.uR HO403.out))) (below_size S.bG))
       have HO411 := Aside0.mk (Kd.R_lower (Kd.R_new' (Kd.R_new' ho1 (Kd.R_lt (S.uR HO399.out))) (Kd.R_lt (S.uR HO403.out))) (below_size S.bG))
       replace HO399 := Aside0.mk (Kd.R_mono (Kd.R_told (Kd.R_told (Kd.R_old (S.uR HO399.out) hb) (Kd.R_base ho0)) (Kd.R_base ho1)) (fun _ h_ => h_.1))
       replace HO403 := Aside0.mk (Kd.R_mono (Kd.R_told (Kd.R_told (Kd.R_old (S.uR HO403.out) hb) (Kd.R_base ho0)) (Kd.R_base ho1)) (fun _ h_ => h_.1))
       replace BK391 := S.kb BK391 hb
       replace HB := S.sG hb
       (try clear hb)
       (try clear hb2)
       (try clear hk)
       (try clear hi)
       (try clear ho0)
       (try clear ho1)
       refine hK.out _ _ (S.e4 BK391.out) (fun hHeld => ?_)
       clear hK K
       refine S.nm 35 ?_
       refine S.pS 6 29 ?_
       refine S.pS 7 36 ?_
       refine S.pS 8 37 ?_
       refine S.oN 9 8 #[true, true, true, true, true, true, true, true, true, true, false, false] (fun K hK => ?_)
       refine box_step ?hg (N := 8) ?hd (cs := #[.slice none 0 0, .int .i64 0, .slice none 0 0, .int .i64 0]) (t := 60) ?hr ?_; (case hd => rfl); (case hg => rfl); (case hr => first | (go_simp; done) | (go_simp; rfl))
       intro gb414 hg w29 hbox hb
       replace HO396 := S.rb HO396 hb
       replace HO399 := S.rb HO399 hb
       replace HO403 := S.rb HO403 hb
       replace HO407 := S.rb HO407 hb
       replace HO411 := S.rb HO411 hb
       have BK414 := Aside0.mk hbox
       have GW414 := S.geG hg
       have GE414 := S.geG hg
       replace HB := S.sG hb
       have NB391_414 := S.nl hg BK391
       have NB414_391 := S.ng hg BK391
       replace BK391 := S.kb BK391 hb
       clear hb hbox hg
       refine hK.out _ _ (S.e4 BK391.out) (fun hHeld => ?_)
       clear hK K
       refine S.nm 8 ?_
       exact norm_ (by simp only [putAll, Act.put, List.setIfInBounds_toArray, List.set_cons_zero, List.set_cons_succ]) (hCont (.slice Ao25 t394.length co25, .slice Ao26 t397.length co26, .slice Ao27 t401.length co27, v406, v410, gb414) _ ⟨hHeld, (S.uR HO396.out), (by (with_reducible repeat (first | apply Kd.R_alloc | apply Kd.R_drewN | apply Kd.R_drew)); exact Kd.R_mono HO399.out (fun _ hk => ⟨hk.1.1, ⟨hk.1.2, hk.2⟩⟩)), (by (with_reducible repeat (first | apply Kd.R_alloc | apply Kd.R_drewN | apply Kd.R_drew)); exact Kd.R_mono HO403.out (fun _ hk => ⟨hk.1.1, ⟨hk.1.2, hk.2⟩⟩)), (by (with_reducible repeat (first | apply Kd.R_alloc | apply Kd.R_drewN | apply Kd.R_drew)); exact Kd.R_mono HO407.out (fun _ hk => ⟨hk.1.2, ⟨hk.2, hk.1.1⟩⟩)), (by (with_reducible repeat (first | apply Kd.R_alloc | apply Kd.R_drewN | apply Kd.R_drew)); exact Kd.R_mono HO411.out (fun _ hk => ⟨hk.1.2, ⟨hk.2, hk.1.1⟩⟩)), (S.uB BK391.out), (S.uB BK414.out), GW414.out, GE414.out, NB391_414.out, NB414_391.out, S.bG⟩)
      ·skip
       refine box_step ?hg (N := 8) ?hd (cs := #[.slice none 0 0, .int .i64 0, .slice none 0 0, .int .i64 0]) (t := 60) ?hr ?_; (case hd => rfl); (case hg => rfl); (case hr => first | (go_simp; done) | (go_simp; rfl))
       intro gb414 hg w25 hbox hb
       replace HO396 := S.rb HO396 hb
       replace HO399 := S.rb HO399 hb
       replace HO403 := S.rb HO403 hb
       have BK414 := Aside0.mk hbox
       have GW414 := S.geG hg
       have GE414 := S.geG hg
       replace HB := S.sG hb
       have NB391_414 := S.nl hg BK391
       have NB414_391 := S.ng hg BK391
       replace BK391 := S.kb BK391 hb
       clear hb hbox hg
       obtain ⟨Ao26, co26, eo26⟩ := Kd.R_slice HO396.out
       (first | subst eo26 | (injection eo26 with f1_ f2_ f3_; have f4_ := f1_.symm; have f5_ := f3_.symm; clear f1_ f2_ f3_; subst f4_; subst f5_))
       obtain ⟨Ao27, co27, eo27⟩ := Kd.R_slice HO399.out
       (first | subst eo27 | (injection eo27 with f1_ f2_ f3_; have f4_ := f1_.symm; have f5_ := f3_.symm; clear f1_ f2_ f3_; subst f4_; subst f5_))
       obtain ⟨Ao28, co28, eo28⟩ := Kd.R_slice HO403.out
       (first | subst eo28 | (injection eo28 with f1_ f2_ f3_; have f4_ := f1_.symm; have f5_ := f3_.symm; clear f1_ f2_ f3_; subst f4_; subst f5_))
       refine hK.out _ _ (S.e4 BK391.out) (fun hHeld => ?_)
       clear hK K
       refine S.nm 8 ?_
       refine S.oN 5 35 #[true, true, true, true, true, true, false, false, false, true, false, false] (fun K hK => ?_)
       refine S.go Try.func41 #[.slice Ao26 t394.length co26, .agg #[.slice Ao27 t397.length co27, .int .i64 t400, .slice Ao28 t401.length co28, .int .i64 t404], .int .i64 a2] ?_
       with_reducible refine (spec_CutFor.calls k _ _ t394 _ _ t397 t400 _ _ t401 t404 a2 t405 t408 t409 t412 t413 _ ?s1 ?s2 ?s3 ?s4 ?s5 ?s6 A14.out).mono ?_
       (case s1 => exact S.rd HO396)
       (case s2 => exact S.rl HO396)
       (case s3 => exact S.rd HO399)
       (case s4 => exact S.rl HO399)
       (case s5 => exact S.rd HO403)
       (case s6 => exact S.rl HO403)
       rintro e w29 ⟨v406, v410, rfl, ho0, ho1, hb⟩
       refine ⟨_, rfl, ?_⟩
       replace HO396 := S.rb HO396 hb
       have HO407 := Aside0.mk (Kd.R_lower (Kd.R_new' (Kd.R_new' ho0 (Kd.R_lt (S.uR HO399.out))) (Kd.R_lt (S.uR HO403.out))) (below_size S.bG))
       have HO411 := Aside0.mk (Kd.R_lower (Kd.R_new' (Kd.R_new' ho1 (Kd.R_lt (S.uR HO399.out))) (Kd.R_lt (S.uR HO403.out))) (below_size S.bG))
       replace HO399 := Aside0.mk (Kd.R_mono (Kd.R_told (Kd.R_told (Kd.R_old (S.uR HO399.out) hb) (Kd.R_base ho0)) (Kd.R_base ho1)) (fun _ h_ => h_.1))
       replace HO403 := Aside0.mk (Kd.R_mono (Kd.R_told (Kd.R_told (Kd.R_old (S.uR HO403.out) hb) (Kd.R_base ho0)) (Kd.R_base ho1)) (fun _ h_ => h_.1))
       replace BK391 := S.kb BK391 hb
       replace BK414 := S.kb BK414 hb
       replace HB := S.sG hb
       (try clear hb)
       (try clear hb2)
       (try clear hk)
       (try clear hi)
       (try clear ho0)
       (try clear ho1)
       refine hK.out _ _ (S.e4 BK391.out) (fun hHeld => ?_)
       clear hK K
       refine S.nm 35 ?_
       refine S.pS 6 29 ?_
       refine S.pS 7 36 ?_
       refine S.pS 8 37 ?_
       exact norm_ (by simp only [putAll, Act.put, List.setIfInBounds_toArray, List.set_cons_zero, List.set_cons_succ]) (hCont (.slice Ao26 t394.length co26, .slice Ao27 t397.length co27, .slice Ao28 t401.length co28, v406, v410, gb414) _ ⟨hHeld, (S.uR HO396.out), (by (with_reducible repeat (first | apply Kd.R_alloc | apply Kd.R_drewN | apply Kd.R_drew)); exact Kd.R_mono HO399.out (fun _ hk => ⟨hk.1.1, ⟨hk.1.2, hk.2⟩⟩)), (by (with_reducible repeat (first | apply Kd.R_alloc | apply Kd.R_drewN | apply Kd.R_drew)); exact Kd.R_mono HO403.out (fun _ hk => ⟨hk.1.1, ⟨hk.1.2, hk.2⟩⟩)), (by (with_reducible repeat (first | apply Kd.R_alloc | apply Kd.R_drewN | apply Kd.R_drew)); exact Kd.R_mono HO407.out (fun _ hk => ⟨hk.1.2, ⟨hk.2, hk.1.1⟩⟩)), (by (with_reducible repeat (first | apply Kd.R_alloc | apply Kd.R_drewN | apply Kd.R_drew)); exact Kd.R_mono HO411.out (fun _ hk => ⟨hk.1.2, ⟨hk.2, hk.1.1⟩⟩)), (S.uB BK391.out), (S.uB BK414.out), GW414.out, GE414.out, NB391_414.out, NB414_391.out, S.bG⟩)
     ·skip
      refine box_step ?hg (N := 8) ?hd (cs := #[.slice none 0 0, .int .i64 0, .slice none 0 0, .int .i64 0]) (t := 60) ?hr ?_; (case hd => rfl); (case hg => rfl); (case hr => first | (go_simp; done) | (go_simp; rfl))
      intro gb414 hg w24 hbox hb
      replace HO396 := S.rb HO396 hb
      have BK414 := Aside0.mk hbox
      have GW414 := S.geG hg
      have GE414 := S.geG hg
      replace HB := S.sG hb
      have NB391_414 := S.nl hg BK391
      have NB414_391 := S.ng hg BK391
      replace BK391 := S.kb BK391 hb
      clear hb hbox hg
      refine hK.out _ _ (S.e4 BK391.out) (fun hHeld => ?_)
      clear hK K
      refine S.nm 8 ?_
      refine S.oN 3 33 #[true, true, true, true, true, false, false, false, false, true, false, false] (fun K hK => ?_)
      refine S.go Try.func35 #[.agg #[.slice A1_0 l1_0.length c1_0, .int .i64 a1_1, .slice A1_2 l1_2.length c1_2, .int .i64 a1_3]] ?_
      with_reducible refine (laws_toControl.calls k _ _ l1_0 a1_1 _ _ l1_2 a1_3 t397 t400 t401 t404 _ ?s1 ?s2 ?s3 ?s4 A13.out).mono ?_
      (case s1 => exact S.cA HR1_0.out)
      (case s2 => exact HC1_0.out)
      (case s3 => exact S.cA HR1_2.out)
      (case s4 => exact HC1_2.out)
      rintro e w25 ⟨v398, v402, rfl, ho0, ho1, hb⟩
      refine ⟨_, rfl, ?_⟩
      replace HO396 := S.rb HO396 hb
      have HO399 := S.lwG ho0
      have HO403 := S.lwG ho1
      replace BK391 := S.kb BK391 hb
      replace BK414 := S.kb BK414 hb
      replace HB := S.sG hb
      (try clear hb)
      (try clear hb2)
      (try clear hk)
      (try clear hi)
      (try clear ho0)
      (try clear ho1)
      obtain ⟨Ao26, co26, eo26⟩ := Kd.R_slice HO396.out
      (first | subst eo26 | (injection eo26 with f1_ f2_ f3_; have f4_ := f1_.symm; have f5_ := f3_.symm; clear f1_ f2_ f3_; subst f4_; subst f5_))
      obtain ⟨Ao27, co27, eo27⟩ := Kd.R_slice HO399.out
      (first | subst eo27 | (injection eo27 with f1_ f2_ f3_; have f4_ := f1_.symm; have f5_ := f3_.symm; clear f1_ f2_ f3_; subst f4_; subst f5_))
      obtain ⟨Ao28, co28, eo28⟩ := Kd.R_slice HO403.out
      (first | subst eo28 | (injection eo28 with f1_ f2_ f3_; have f4_ := f1_.symm; have f5_ := f3_.symm; clear f1_ f2_ f3_; subst f4_; subst f5_))
      refine hK.out _ _ (S.e4 BK391.out) (fun hHeld => ?_)
      clear hK K
      refine S.nm 33 ?_
      refine S.oN 5 35 #[true, true, true, true, true, true, false, false, false, true, false, false] (fun K hK => ?_)
      refine S.go Try.func41 #[.slice Ao26 t394.length co26, .agg #[.slice Ao27 t397.length co27, .int .i64 t400, .slice Ao28 t401.length co28, .int .i64 t404], .int .i64 a2] ?_
      with_reducible refine (spec_CutFor.calls k _ _ t394 _ _ t397 t400 _ _ t401 t404 a2 t405 t408 t409 t412 t413 _ ?s1 ?s2 ?s3 ?s4 ?s5 ?s6 A14.out).mono ?_
      (case s1 => exact S.rd HO396)
      (case s2 => exact S.rl HO396)
      (case s3 => exact S.rd HO399)
      (case s4 => exact S.rl HO399)
      (case s5 => exact S.rd HO403)
      (case s6 => exact S.rl HO403)
      rintro e w29 ⟨v406, v410, rfl, ho0, ho1, hb⟩
      refine ⟨_, rfl, ?_⟩
      replace HO396 := S.rb HO396 hb
      have HO407 := Aside0.mk (Kd.R_lower (Kd.R_new' (Kd.R_new' ho0 (Kd.R_lt (S.uR HO399.out))) (Kd.R_lt (S.uR HO403.out))) (below_size S.bG))
      have HO411 := Aside0.mk (Kd.R_lower (Kd.R_new' (Kd.R_new' ho1 (Kd.R_lt (S.uR HO399.out))) (Kd.R_lt (S.uR HO403.out))) (below_size S.bG))
      replace HO399 := Aside0.mk (Kd.R_mono (Kd.R_told (Kd.R_told (Kd.R_old (S.uR HO399.out) hb) (Kd.R_base ho0)) (Kd.R_base ho1)) (fun _ h_ => h_.1))
      replace HO403 := Aside0.mk (Kd.R_mono (Kd.R_told (Kd.R_told (Kd.R_old (S.uR HO403.out) hb) (Kd.R_base ho0)) (Kd.R_base ho1)) (fun _ h_ => h_.1))
      replace BK391 := S.kb BK391 hb
      replace BK414 := S.kb BK414 hb
      replace HB := S.sG hb
      (try clear hb)
      (try clear hb2)
      (try clear hk)
      (try clear hi)
      (try clear ho0)
      (try clear ho1)
      refine hK.out _ _ (S.e4 BK391.out) (fun hHeld => ?_)
      clear hK K
      refine S.nm 35 ?_
      refine S.pS 6 29 ?_
      refine S.pS 7 36 ?_
      refine S.pS 8 37 ?_
      exact norm_ (by simp only [putAll, Act.put, List.setIfInBounds_toArray, List.set_cons_zero, List.set_cons_succ]) (hCont (.slice Ao26 t394.length co26, .slice Ao27 t397.length co27, .slice Ao28 t401.length co28, v406, v410, gb414) _ ⟨hHeld, (S.uR HO396.out), (by (with_reducible repeat (first | apply Kd.R_alloc | apply Kd.R_drewN | apply Kd.R_drew)); exact Kd.R_mono HO399.out (fun _ hk => ⟨hk.1.1, ⟨hk.1.2, hk.2⟩⟩)), (by (with_reducible repeat (first | apply Kd.R_alloc | apply Kd.R_drewN | apply Kd.R_drew)); exact Kd.R_mono HO403.out (fun _ hk => ⟨hk.1.1, ⟨hk.1.2, hk.2⟩⟩)), (by (with_reducible repeat (first | apply Kd.R_alloc | apply Kd.R_drewN | apply Kd.R_drew)); exact Kd.R_mono HO407.out (fun _ hk => ⟨hk.1.2, ⟨hk.2, hk.1.1⟩⟩)), (by (with_reducible repeat (first | apply Kd.R_alloc | apply Kd.R_drewN | apply Kd.R_drew)); exact Kd.R_mono HO411.out (fun _ hk => ⟨hk.1.2, ⟨hk.2, hk.1.1⟩⟩)), (S.uB BK391.out), (S.uB BK414.out), GW414.out, GE414.out, NB391_414.out, NB414_391.out, S.bG⟩)
    ·skip
     refine box_step ?hg (N := 8) ?hd (cs := #[.slice none 0 0, .int .i64 0, .slice none 0 0, .int .i64 0]) (t := 60) ?hr ?_; (case hd => rfl); (case hg => rfl); (case hr => first | (go_simp; done) | (go_simp; rfl))
     intro gb414 hg w23 hbox hb
     have BK414 := Aside0.mk hbox
     have GW414 := S.geG hg
     have GE414 := S.geG hg
     replace HB := S.sG hb
     have NB391_414 := S.nl hg BK391
     have NB414_391 := S.ng hg BK391
     replace BK391 := S.kb BK391 hb
     clear hb hbox hg
     refine hK.out _ _ (S.e4 BK391.out) (fun hHeld => ?_)
     clear hK K
     refine S.nm 8 ?_
     refine S.oN 1 31 #[true, true, true, false, true, false, false, false, false, true, false, false] (fun K hK => ?_)
     refine S.go Try.func14 #[.slice A0 l0.length c0] ?_
     with_reducible refine (laws_toPathS.calls k _ _ l0 t394 _ ?s1 ?s2 A12.out).mono ?_
     (case s1 => exact S.cA HR0.out)
     (case s2 => exact HC0.out)
     rintro e w24 ⟨v395, rfl, ho0, hb⟩
     refine ⟨_, rfl, ?_⟩
     have HO396 := S.lwG ho0
     replace BK391 := S.kb BK391 hb
     replace BK414 := S.kb BK414 hb
     replace HB := S.sG hb
     (try clear hb)
     (try clear hb2)
     (try clear hk)
     (try clear hi)
     (try clear ho0)
     refine hK.out _ _ (S.e4 BK391.out) (fun hHeld => ?_)
     clear hK K
     refine S.nm 31 ?_
     refine S.oN 3 33 #[true, true, true, true, true, false, false, false, false, true, false, false] (fun K hK => ?_)
     refine S.go Try.func35 #[.agg #[.slice A1_0 l1_0.length c1_0, .int .i64 a1_1, .slice A1_2 l1_2.length c1_2, .int .i64 a1_3]] ?_
     with_reducible refine (laws_toControl.calls k _ _ l1_0 a1_1 _ _ l1_2 a1_3 t397 t400 t401 t404 _ ?s1 ?s2 ?s3 ?s4 A13.out).mono ?_
     (case s1 => exact S.cA HR1_0.out)
     (case s2 => exact HC1_0.out)
     (case s3 => exact S.cA HR1_2.out)
     (case s4 => exact HC1_2.out)
     rintro e w25 ⟨v398, v402, rfl, ho0, ho1, hb⟩
     refine ⟨_, rfl, ?_⟩
     replace HO396 := S.rb HO396 hb
     have HO399 := S.lwG ho0
     have HO403 := S.lwG ho1
     replace BK391 := S.kb BK391 hb
     replace BK414 := S.kb BK414 hb
     replace HB := S.sG hb
     (try clear hb)
     (try clear hb2)
     (try clear hk)
     (try clear hi)
     (try clear ho0)
     (try clear ho1)
     obtain ⟨Ao26, co26, eo26⟩ := Kd.R_slice HO396.out
     (first | subst eo26 | (injection eo26 with f1_ f2_ f3_; have f4_ := f1_.symm; have f5_ := f3_.symm; clear f1_ f2_ f3_; subst f4_; subst f5_))
     obtain ⟨Ao27, co27, eo27⟩ := Kd.R_slice HO399.out
     (first | subst eo27 | (injection eo27 with f1_ f2_ f3_; have f4_ := f1_.symm; have f5_ := f3_.symm; clear f1_ f2_ f3_; subst f4_; subst f5_))
     obtain ⟨Ao28, co28, eo28⟩ := Kd.R_slice HO403.out
     (first | subst eo28 | (injection eo28 with f1_ f2_ f3_; have f4_ := f1_.symm; have f5_ := f3_.symm; clear f1_ f2_ f3_; subst f4_; subst f5_))
     refine hK.out _ _ (S.e4 BK391.out) (fun hHeld => ?_)
     clear hK K
     refine S.nm 33 ?_
     refine S.oN 5 35 #[true, true, true, true, true, true, false, false, false, true, false, false] (fun K hK => ?_)
     refine S.go Try.func41 #[.slice Ao26 t394.length co26, .agg #[.slice Ao27 t397.length co27, .int .i64 t400, .slice Ao28 t401.length co28, .int .i64 t404], .int .i64 a2] ?_
     with_reducible refine (spec_CutFor.calls k _ _ t394 _ _ t397 t400 _ _ t401 t404 a2 t405 t408 t409 t412 t413 _ ?s1 ?s2 ?s3 ?s4 ?s5 ?s6 A14.out).mono ?_
     (case s1 => exact S.rd HO396)
     (case s2 => exact S.rl HO396)
     (case s3 => exact S.rd HO399)
     (case s4 => exact S.rl HO399)
     (case s5 => exact S.rd HO403)
     (case s6 => exact S.rl HO403)
     rintro e w29 ⟨v406, v410, rfl, ho0, ho1, hb⟩
     refine ⟨_, rfl, ?_⟩
     replace HO396 := S.rb HO396 hb
     have HO407 := Aside0.mk (Kd.R_lower (Kd.R_new' (Kd.R_new' ho0 (Kd.R_lt (S.uR HO399.out))) (Kd.R_lt (S.uR HO403.out))) (below_size S.bG))
     have HO411 := Aside0.mk (Kd.R_lower (Kd.R_new' (Kd.R_new' ho1 (Kd.R_lt (S.uR HO399.out))) (Kd.R_lt (S.uR HO403.out))) (below_size S.bG))
     replace HO399 := Aside0.mk (Kd.R_mono (Kd.R_told (Kd.R_told (Kd.R_old (S.uR HO399.out) hb) (Kd.R_base ho0)) (Kd.R_base ho1)) (fun _ h_ => h_.1))
     replace HO403 := Aside0.mk (Kd.R_mono (Kd.R_told (Kd.R_told (Kd.R_old (S.uR HO403.out) hb) (Kd.R_base ho0)) (Kd.R_base ho1)) (fun _ h_ => h_.1))
     replace BK391 := S.kb BK391 hb
     replace BK414 := S.kb BK414 hb
     replace HB := S.sG hb
     (try clear hb)
     (try clear hb2)
     (try clear hk)
     (try clear hi)
     (try clear ho0)
     (try clear ho1)
     refine hK.out _ _ (S.e4 BK391.out) (fun hHeld => ?_)
     clear hK K
     refine S.nm 35 ?_
     refine S.pS 6 29 ?_
     refine S.pS 7 36 ?_
     refine S.pS 8 37 ?_
     exact norm_ (by simp only [putAll, Act.put, List.setIfInBounds_toArray, List.set_cons_zero, List.set_cons_succ]) (hCont (.slice Ao26 t394.length co26, .slice Ao27 t397.length co27, .slice Ao28 t401.length co28, v406, v410, gb414) _ ⟨hHeld, (S.uR HO396.out), (by (with_reducible repeat (first | apply Kd.R_alloc | apply Kd.R_drewN | apply Kd.R_drew)); exact Kd.R_mono HO399.out (fun _ hk => ⟨hk.1.1, ⟨hk.1.2, hk.2⟩⟩)), (by (with_reducible repeat (first | apply Kd.R_alloc | apply Kd.R_drewN | apply Kd.R_drew)); exact Kd.R_mono HO403.out (fun _ hk => ⟨hk.1.1, ⟨hk.1.2, hk.2⟩⟩)), (by (with_reducible repeat (first | apply Kd.R_alloc | apply Kd.R_drewN | apply Kd.R_drew)); exact Kd.R_mono HO407.out (fun _ hk => ⟨hk.1.2, ⟨hk.2, hk.1.1⟩⟩)), (by (with_reducible repeat (first | apply Kd.R_alloc | apply Kd.R_drewN | apply Kd.R_drew)); exact Kd.R_mono HO411.out (fun _ hk => ⟨hk.1.2, ⟨hk.2, hk.1.1⟩⟩)), (S.uB BK391.out), (S.uB BK414.out), GW414.out, GE414.out, NB391_414.out, NB414_391.out, S.bG⟩)
   rintro ⟨v395, v398, v402, v406, v410, gb414⟩ w30 ⟨hS_, h0_, h1_, h2_, h3_, h4_, h5_, h6_, h7_, h8_, h9_, h10_, h11_⟩
   have n0_ : Aside0 (Kd.R k52 52 w30 w.heap.size (fun _ => True) v395 t394) := ⟨h0_⟩
   have n1_ : Aside0 (Kd.R (Kd.int .i64) 3 w30 w.heap.size (fun k_ => S.N k_ v402 ∧ S.N k_ v406 ∧ S.N k_ v410) v398 t397) := ⟨h1_⟩
   have n2_ : Aside0 (Kd.R (Kd.int .i64) 3 w30 w.heap.size (fun k_ => S.N k_ v398 ∧ S.N k_ v406 ∧ S.N k_ v410) v402 t401) := ⟨h2_⟩
   have n3_ : Aside0 (Kd.R (Kd.int .i64) 3 w30 w.heap.size (fun k_ => S.N k_ v398 ∧ S.N k_ v402 ∧ S.N k_ v410) v406 t405) := ⟨h3_⟩
   have n4_ : Aside0 (Kd.R (Kd.int .i64) 3 w30 w.heap.size (fun k_ => S.N k_ v398 ∧ S.N k_ v402 ∧ S.N k_ v406) v410 t409) := ⟨h4_⟩
   have n5_ : Aside0 (w30.heap[gb391]? = some (.cells #[.slice A1_0 l1_0.length c1_0, .int .i64 a1_1, .slice A1_2 l1_2.length c1_2, .int .i64 a1_3] 57 (0, 0))) := ⟨h5_⟩
   have n6_ : Aside0 (w30.heap[gb414]? = some (.cells #[.slice none 0 0, .int .i64 0, .slice none 0 0, .int .i64 0] 60 (0, 0))) := ⟨h6_⟩
   have n7_ : Aside0 (w.heap.size ≤ gb414) := ⟨h7_⟩
   have n8_ : Aside0 (w.heap.size ≤ gb414) := ⟨h8_⟩
   have n9_ : Aside0 (gb391 ≠ gb414) := ⟨h9_⟩
   have n10_ : Aside0 (gb414 ≠ gb391) := ⟨h10_⟩
   have n11_ : Aside0 (Below w.heap.size w w30) := ⟨h11_⟩
   clear BK391
   clear HB
   clear h0_ h1_ h2_ h3_ h4_ h5_ h6_ h7_ h8_ h9_ h10_ h11_
   have HO396 := n0_
   have HO399 := n1_
   have HO403 := n2_
   have HO407 := n3_
   have HO411 := n4_
   have BK391 := n5_
   have BK414 := n6_
   have GW414 := n7_
   have GE414 := n8_
   have NB391_414 := n9_
   have NB414_391 := n10_
   have HB := n11_
   clear n0_ n1_ n2_ n3_ n4_ n5_ n6_ n7_ n8_ n9_ n10_ n11_
   have hHeld : w30.cell? ⟨gb391, 0, none⟩ = some (.slice A1_0 l1_0.length c1_0) ∧ w30.cell? ⟨gb391, 1, none⟩ = some (.int .i64 a1_1) ∧ w30.cell? ⟨gb391, 2, none⟩ = some (.slice A1_2 l1_2.length c1_2) ∧ w30.cell? ⟨gb391, 3, none⟩ = some (.int .i64 a1_3) := hS_
   obtain ⟨Ao31, co31, eo31⟩ := Kd.R_slice HO407.out
   (first | subst eo31 | (injection eo31 with f1_ f2_ f3_; have f4_ := f1_.symm; have f5_ := f3_.symm; clear f1_ f2_ f3_; subst f4_; subst f5_))
   obtain ⟨Ao34, co34, eo34⟩ := Kd.R_slice HO411.out
   (first | subst eo34 | (injection eo34 with f1_ f2_ f3_; have f4_ := f1_.symm; have f5_ := f3_.symm; clear f1_ f2_ f3_; subst f4_; subst f5_))
   refine norm_ (a' := ?_) ?_ ?_
   rotate_left
   ·simp only [putAll, Act.put, List.setIfInBounds_toArray, List.set_cons_zero, List.set_cons_succ]
    rfl
   refine one_ (i := 10) (N := none) #[true, true, true, true, true, true, true, true, true, true, true, false] rfl rfl (one_of HT_.out (by kernel_rfl)) (by decide) (fun K hK => ?_)
   have hs32 : w30.cell? ⟨gb414, 0, none⟩ = some (.slice none 0 0) := (blk_cell BK414.out 0).trans rfl
   have hfs32 := blk_frozen BK414.out 0
   have hns32_0 := NB391_414.out
   have hms32_0 := NB414_391.out
   have hs33 : w30.cell? ⟨gb414, 1, none⟩ = some (.int .i64 0) := (blk_cell BK414.out 1).trans rfl
   have hfs33 := blk_frozen BK414.out 1
   have hns33_0 := NB391_414.out
   have hms33_0 := NB414_391.out
   have hs35 : w30.cell? ⟨gb414, 2, none⟩ = some (.slice none 0 0) := (blk_cell BK414.out 2).trans rfl
   have hfs35 := blk_frozen BK414.out 2
   have hns35_0 := NB391_414.out
   have hms35_0 := NB414_391.out
   have hs36 : w30.cell? ⟨gb414, 3, none⟩ = some (.int .i64 0) := (blk_cell BK414.out 3).trans rfl
   have hfs36 := blk_frozen BK414.out 3
   have hns36_0 := NB391_414.out
   have hms36_0 := NB414_391.out
   refine skip_ (w1 := ?_) (by rfl) rfl ?_ ?_
   rotate_left
   ·go_simp
    rfl
   refine hK.out _ _ ⟨((cell_far (p := ⟨gb414, _, none⟩) NB391_414.out _).trans (((cell_far (p := ⟨gb414, _, none⟩) NB391_414.out _).trans (((cell_far (p := ⟨gb414, _, none⟩) NB391_414.out _).trans (((cell_far (p := ⟨gb414, _, none⟩) NB391_414.out _).trans (hHeld.1)))))))), ((cell_far (p := ⟨gb414, _, none⟩) NB391_414.out _).trans (((cell_far (p := ⟨gb414, _, none⟩) NB391_414.out _).trans (((cell_far (p := ⟨gb414, _, none⟩) NB391_414.out _).trans (((cell_far (p := ⟨gb414, _, none⟩) NB391_414.out _).trans (hHeld.2.1)))))))), ((cell_far (p := ⟨gb414, _, none⟩) NB391_414.out _).trans (((cell_far (p := ⟨gb414, _, none⟩) NB391_414.out _).trans (((cell_far (p := ⟨gb414, _, none⟩) NB391_414.out _).trans (((cell_far (p := ⟨gb414, _, none⟩) NB391_414.out _).trans (hHeld.2.2.1)))))))), ((cell_far (p := ⟨gb414, _, none⟩) NB391_414.out _).trans (((cell_far (p := ⟨gb414, _, none⟩) NB391_414.out _).trans (((cell_far (p := ⟨gb414, _, none⟩) NB391_414.out _).trans (((cell_far (p := ⟨gb414, _, none⟩) NB391_414.out _).trans (hHeld.2.2.2))))))))⟩ (fun hHeld => ?_)
   clear hK K
   refine S.pS 11 9 ?_
   refine done_ (done_of HT_.out (by kernel_rfl)) ?_
   go_upto_region 12 with (first | ((with_reducible refine gate_callee (f := 14) rfl ?_); refine S.gL (some 39) Try.func14 #[.slice A0 l0.length c0] ?_; (with_reducible refine (laws_toPathS.calls k _ _ l0 t415 _ ?s1 HC0.out A15.out).mono ?_); (case s1 => exact Kd.C_below HR0.out S.bG); rintro e w37 ⟨v416, rfl, ho0, hb⟩; refine ⟨_, rfl, ?_⟩; replace HO399 := Aside0.mk (Kd.R_below (S.G4 HO399 BK414) hb); replace HO403 := Aside0.mk (Kd.R_below (S.G4 HO403 BK414) hb); replace HO407 := Aside0.mk (Kd.R_below (S.G4 HO407 BK414) hb); replace HO411 := Aside0.mk (Kd.R_below (S.G4 HO411 BK414) hb); have HO417 := Aside0.mk (Kd.R_lower (Kd.R_new' ho0 (Kd.R_lt (S.G4 HO396 BK414))) (below_size S.bG)); replace HO396 := Aside0.mk (Kd.R_elder' (S.G4 HO396 BK414) (Kd.R_base ho0) hb); replace BK391 := S.kf BK391 NB391_414 hb; replace BK414 := S.kp4 BK414 hb; replace HB := S.sG hb; (try clear hb); (try clear ho0); have hnb38 := NB391_414.out; have hnc38 := NB414_391.out; obtain ⟨Z39a, Z39b, Z39c, Z39d, Y39a, Y39b, Y39c, Y39d⟩ := S.c4 BK391.out) | ((with_reducible refine gate_callee (f := 35) rfl ?_); refine S.gL (some 41) Try.func35 #[.agg #[.slice A1_0 l1_0.length c1_0, .int .i64 a1_1, .slice A1_2 l1_2.length c1_2, .int .i64 a1_3]] ?_; (with_reducible refine (laws_toControl.calls k _ _ l1_0 a1_1 _ _ l1_2 a1_3 t418 t421 t422 t425 _ ?s1 HC1_0.out ?s3 HC1_2.out A16.out).mono ?_); (case s1 => exact S.cA HR1_0.out); (case s3 => exact S.cA HR1_2.out); rintro e w40 ⟨v419, v423, rfl, ho0, ho1, hb⟩; refine ⟨_, rfl, ?_⟩; replace HO396 := S.rb HO396 hb; replace HO417 := S.rb HO417 hb; have HO420 := Aside0.mk (Kd.R_lower (Kd.R_new' (Kd.R_new' (Kd.R_new' (Kd.R_new' ho0 (Kd.R_lt (S.uR HO399.out))) (Kd.R_lt (S.uR HO403.out))) (Kd.R_lt (S.uR HO407.out))) (Kd.R_lt (S.uR HO411.out))) (below_size S.bG)); have HO424 := Aside0.mk (Kd.R_lower (Kd.R_new' (Kd.R_new' (Kd.R_new' (Kd.R_new' ho1 (Kd.R_lt (S.uR HO399.out))) (Kd.R_lt (S.uR HO403.out))) (Kd.R_lt (S.uR HO407.out))) (Kd.R_lt (S.uR HO411.out))) (below_size S.bG)); replace HO399 := Aside0.mk (Kd.R_mono (Kd.R_told (Kd.R_told (Kd.R_old (S.uR HO399.out) hb) (Kd.R_base ho0)) (Kd.R_base ho1)) (fun _ h_ => h_.1)); replace HO403 := Aside0.mk (Kd.R_mono (Kd.R_told (Kd.R_told (Kd.R_old (S.uR HO403.out) hb) (Kd.R_base ho0)) (Kd.R_base ho1)) (fun _ h_ => h_.1)); replace HO407 := Aside0.mk (Kd.R_mono (Kd.R_told (Kd.R_told (Kd.R_old (S.uR HO407.out) hb) (Kd.R_base ho0)) (Kd.R_base ho1)) (fun _ h_ => h_.1)); replace HO411 := Aside0.mk (Kd.R_mono (Kd.R_told (Kd.R_told (Kd.R_old (S.uR HO411.out) hb) (Kd.R_base ho0)) (Kd.R_base ho1)) (fun _ h_ => h_.1)); replace BK391 := S.kb BK391 hb; replace BK414 := S.kb BK414 hb; replace HB := S.sG hb; (try clear hb); (try clear ho0); (try clear ho1)) | ((with_reducible refine gate_dst (N := 11) rfl ?_); refine S.bx 11 (cs := #[.slice none 0 0, .int .i64 0, .slice none 0 0, .int .i64 0]) (t := 60) ?_; intro gb426 hg w41 hbox hb; replace HO396 := S.rb HO396 hb; replace HO399 := S.rb HO399 hb; replace HO403 := S.rb HO403 hb; replace HO407 := S.rb HO407 hb; replace HO411 := S.rb HO411 hb; replace HO417 := S.rb HO417 hb; replace HO420 := S.rb HO420 hb; replace HO424 := S.rb HO424 hb; have BK426 := Aside0.mk hbox; have GW426 := S.geG hg; have GE426 := S.geG hg; replace HB := S.sG hb; have NB391_426 := S.nl hg BK391; have NB426_391 := S.ng hg BK391; replace BK391 := S.kb BK391 hb; have NB414_426 := S.nl hg BK414; have NB426_414 := S.ng hg BK414; replace BK414 := S.kb BK414 hb; clear hb hbox hg; obtain ⟨Ao42, co42, eo42⟩ := Kd.R_slice HO420.out; subst eo42; have hnb43 := NB426_391.out; have hnc43 := NB391_426.out; have hnb44 := NB426_414.out; have hnc44 := NB414_426.out; obtain ⟨Z45a, Z45b, Z45c, Z45d, Y45a, Y45b, Y45c, Y45d⟩ := S.c4 BK426.out; obtain ⟨Ao46, co46, eo46⟩ := Kd.R_slice HO424.out; subst eo46; obtain ⟨Ao47, co47, eo47⟩ := Kd.R_slice HO417.out; subst eo47) | ((with_reducible refine gate_callee (f := 42) rfl ?_); refine S.gL (some 46) Try.func42 #[.slice Ao47 t415.length co47, .agg #[.slice Ao42 t418.length co42, .int .i64 t421, .slice Ao46 t422.length co46, .int .i64 t425], .int .i64 a2] ?_; (with_reducible refine (impl_CutFor.calls k _ _ t415 _ _ t418 t421 _ _ t422 t425 a2 t427 t430 t431 t434 t435 _ ?s1 (S.rl HO417) ?s3 (S.rl HO420) ?s5 (S.rl HO424) A17.out).mono ?_); (case s1 => exact S.rc4 HO417 BK426); (case s3 => exact S.rc4 HO420 BK426); (case s5 => exact S.rc4 HO424 BK426); rintro e w48 ⟨v428, v432, rfl, ho0, ho1, hb⟩; refine ⟨_, rfl, ?_⟩; replace HO396 := Aside0.mk (Kd.R_below (S.G4 HO396 BK426) hb); replace HO417 := Aside0.mk (Kd.R_below (S.G4 HO417 BK426) hb); have HO429 := Aside0.mk (Kd.R_lower (Kd.R_new' (Kd.R_new' (Kd.R_new' (Kd.R_new' (Kd.R_new' (Kd.R_new' ho0 (Kd.R_lt (S.G4 HO399 BK426))) (Kd.R_lt (S.G4 HO403 BK426))) (Kd.R_lt (S.G4 HO407 BK426))) (Kd.R_lt (S.G4 HO411 BK426))) (Kd.R_lt (S.G4 HO420 BK426))) (Kd.R_lt (S.G4 HO424 BK426))) (below_size S.bG)); have HO433 := Aside0.mk (Kd.R_lower (Kd.R_new' (Kd.R_new' (Kd.R_new' (Kd.R_new' (Kd.R_new' (Kd.R_new' ho1 (Kd.R_lt (S.G4 HO399 BK426))) (Kd.R_lt (S.G4 HO403 BK426))) (Kd.R_lt (S.G4 HO407 BK426))) (Kd.R_lt (S.G4 HO411 BK426))) (Kd.R_lt (S.G4 HO420 BK426))) (Kd.R_lt (S.G4 HO424 BK426))) (below_size S.bG)); replace HO399 := Aside0.mk (Kd.R_mono (Kd.R_told (Kd.R_told (Kd.R_old (S.G4 HO399 BK426) hb) (Kd.R_base ho0)) (Kd.R_base ho1)) (fun _ h_ => h_.1)); replace HO403 := Aside0.mk (Kd.R_mono (Kd.R_told (Kd.R_told (Kd.R_old (S.G4 HO403 BK426) hb) (Kd.R_base ho0)) (Kd.R_base ho1)) (fun _ h_ => h_.1)); replace HO407 := Aside0.mk (Kd.R_mono (Kd.R_told (Kd.R_told (Kd.R_old (S.G4 HO407 BK426) hb) (Kd.R_base ho0)) (Kd.R_base ho1)) (fun _ h_ => h_.1)); replace HO411 := Aside0.mk (Kd.R_mono (Kd.R_told (Kd.R_told (Kd.R_old (S.G4 HO411 BK426) hb) (Kd.R_base ho0)) (Kd.R_base ho1)) (fun _ h_ => h_.1)); replace HO420 := Aside0.mk (Kd.R_mono (Kd.R_told (Kd.R_told (Kd.R_old (S.G4 HO420 BK426) hb) (Kd.R_base ho0)) (Kd.R_base ho1)) (fun _ h_ => h_.1)); replace HO424 := Aside0.mk (Kd.R_mono (Kd.R_told (Kd.R_told (Kd.R_old (S.G4 HO424 BK426) hb) (Kd.R_base ho0)) (Kd.R_base ho1)) (fun _ h_ => h_.1)); replace BK391 := S.kf BK391 NB391_426 hb; replace BK414 := S.kf BK414 NB414_426 hb; replace BK426 := S.kp4 BK426 hb; replace HB := S.sG hb; (try clear hb); (try clear ho0); (try clear ho1)) | ((with_reducible refine gate_dst (N := 12) rfl ?_); refine S.bx 12 (cs := #[.slice none 0 0, .int .i64 0, .slice none 0 0, .int .i64 0]) (t := 60) ?_; intro gb436 hg w49 hbox hb; replace HO396 := S.rb HO396 hb; replace HO399 := S.rb HO399 hb; replace HO403 := S.rb HO403 hb; replace HO407 := S.rb HO407 hb; replace HO411 := S.rb HO411 hb; replace HO417 := S.rb HO417 hb; replace HO420 := S.rb HO420 hb; replace HO424 := S.rb HO424 hb; replace HO429 := S.rb HO429 hb; replace HO433 := S.rb HO433 hb; have BK436 := Aside0.mk hbox; have GW436 := S.geG hg; have GE436 := S.geG hg; replace HB := S.sG hb; have NB391_436 := S.nl hg BK391; have NB436_391 := S.ng hg BK391; replace BK391 := S.kb BK391 hb; have NB414_436 := S.nl hg BK414; have NB436_414 := S.ng hg BK414; replace BK414 := S.kb BK414 hb; have NB426_436 := S.nl hg BK426; have NB436_426 := S.ng hg BK426; replace BK426 := S.kb BK426 hb; clear hb hbox hg; obtain ⟨Ao50, co50, eo50⟩ := Kd.R_slice HO429.out; subst eo50; have hnb51 := NB436_391.out; have hnc51 := NB391_436.out; have hnb52 := NB436_414.out; have hnc52 := NB414_436.out; have hnb53 := NB436_426.out; have hnc53 := NB426_436.out; obtain ⟨Z54a, Z54b, Z54c, Z54d, Y54a, Y54b, Y54c, Y54d⟩ := S.c4 BK436.out; obtain ⟨Ao55, co55, eo55⟩ := Kd.R_slice HO433.out; subst eo55))
   (try simp only [Act.put, List.setIfInBounds_toArray, List.set_cons_zero, List.set_cons_succ])
   go_cut [57] (fun v57 wc => ∃ (kq : Nat) (x57_17 : Bool), v57 = .bool x57_17 ∧ Aside0 (laws_FnExactCutFor.j0 kq l0 a2 t413 t415 t435 x57_17 l1_0 a1_1 l1_2 a1_3 t405 t408 t409 t412 t418 t421 t422 t425 t427 t430 t431 t434 = some r) ∧ Aside0 (kq ≤ k) ∧ Aside0 (Kd.R k52 52 wc w.heap.size (fun _ => True) (.slice Ao47 t415.length co47) t415) ∧ Aside0 (Kd.R (Kd.int .i64) 3 wc w.heap.size (fun k_ => some k_ ≠ ((.slice Ao34 t409.length co34) : Value).ownBlock ∧ some k_ ≠ ((.slice Ao42 t418.length co42) : Value).ownBlock ∧ some k_ ≠ ((.slice Ao46 t422.length co46) : Value).ownBlock ∧ some k_ ≠ ((.slice Ao50 t427.length co50) : Value).ownBlock ∧ some k_ ≠ ((.slice Ao55 t431.length co55) : Value).ownBlock) (.slice Ao31 t405.length co31) t405) ∧ Aside0 (Kd.R (Kd.int .i64) 3 wc w.heap.size (fun k_ => some k_ ≠ ((.slice Ao31 t405.length co31) : Value).ownBlock ∧ some k_ ≠ ((.slice Ao42 t418.length co42) : Value).ownBlock ∧ some k_ ≠ ((.slice Ao46 t422.length co46) : Value).ownBlock ∧ some k_ ≠ ((.slice Ao50 t427.length co50) : Value).ownBlock ∧ some k_ ≠ ((.slice Ao55 t431.length co55) : Value).ownBlock) (.slice Ao34 t409.length co34) t409) ∧ Aside0 (Kd.R (Kd.int .i64) 3 wc w.heap.size (fun k_ => some k_ ≠ ((.slice Ao31 t405.length co31) : Value).ownBlock ∧ some k_ ≠ ((.slice Ao34 t409.length co34) : Value).ownBlock ∧ some k_ ≠ ((.slice Ao46 t422.length co46) : Value).ownBlock ∧ some k_ ≠ ((.slice Ao50 t427.length co50) : Value).ownBlock ∧ some k_ ≠ ((.slice Ao55 t431.length co55) : Value).ownBlock) (.slice Ao42 t418.length co42) t418) ∧ Aside0 (Kd.R (Kd.int .i64) 3 wc w.heap.size (fun k_ => some k_ ≠ ((.slice Ao31 t405.length co31) : Value).ownBlock ∧ some k_ ≠ ((.slice Ao34 t409.length co34) : Value).ownBlock ∧ some k_ ≠ ((.slice Ao42 t418.length co42) : Value).ownBlock ∧ some k_ ≠ ((.slice Ao50 t427.length co50) : Value).ownBlock ∧ some k_ ≠ ((.slice Ao55 t431.length co55) : Value).ownBlock) (.slice Ao46 t422.length co46) t422) ∧ Aside0 (Kd.R (Kd.int .i64) 3 wc w.heap.size (fun k_ => some k_ ≠ ((.slice Ao31 t405.length co31) : Value).ownBlock ∧ some k_ ≠ ((.slice Ao34 t409.length co34) : Value).ownBlock ∧ some k_ ≠ ((.slice Ao42 t418.length co42) : Value).ownBlock ∧ some k_ ≠ ((.slice Ao46 t422.length co46) : Value).ownBlock ∧ some k_ ≠ ((.slice Ao55 t431.length co55) : Value).ownBlock) (.slice Ao50 t427.length co50) t427) ∧ Aside0 (Kd.R (Kd.int .i64) 3 wc w.heap.size (fun k_ => some k_ ≠ ((.slice Ao31 t405.length co31) : Value).ownBlock ∧ some k_ ≠ ((.slice Ao34 t409.length co34) : Value).ownBlock ∧ some k_ ≠ ((.slice Ao42 t418.length co42) : Value).ownBlock ∧ some k_ ≠ ((.slice Ao46 t422.length co46) : Value).ownBlock ∧ some k_ ≠ ((.slice Ao50 t427.length co50) : Value).ownBlock) (.slice Ao55 t431.length co55) t431) ∧ Aside0 (wc.heap[gb391]? = some (.cells #[(.slice A1_0 l1_0.length c1_0), .int .i64 a1_1, (.slice A1_2 l1_2.length c1_2), .int .i64 a1_3] 57 (0, 0))) ∧ Aside0 (wc.heap[gb414]? = some (.cells #[(.slice Ao31 t405.length co31), .int .i64 t408, (.slice Ao34 t409.length co34), .int .i64 t412] 60 (0, 0))) ∧ Aside0 (wc.heap[gb426]? = some (.cells #[(.slice Ao42 t418.length co42), .int .i64 t421, (.slice Ao46 t422.length co46), .int .i64 t425] 60 (0, 0))) ∧ Aside0 (wc.heap[gb436]? = some (.cells #[(.slice Ao50 t427.length co50), .int .i64 t430, (.slice Ao55 t431.length co55), .int .i64 t434] 60 (0, 0))) ∧ Aside0 (Below w.heap.size w wc))
   case first =>
    have H := HC18.out
    clear HC18
    replace H := S.bd H; obtain ⟨t437, A56, H⟩ := H
    (try dsimp only at H)
    replace H := S.db H; rcases H with ⟨rfl, H⟩ | ⟨rfl, H⟩
    ·have H' := Aside0.mk H
     clear H
     have hnb58 := NB436_391.out
     have hnc58 := NB391_436.out
     have hnb59 := NB436_414.out
     have hnc59 := NB414_436.out
     have hnb60 := NB436_426.out
     have hnc60 := NB426_436.out
     obtain ⟨Z61a, Z61b, Z61c, Z61d, Y61a, Y61b, Y61c, Y61d⟩ := S.c4 BK436.out
     have hnb62 := NB414_391.out
     have hnc62 := NB391_414.out
     have hnb63 := NB414_426.out
     have hnc63 := NB426_414.out
     obtain ⟨Z64a, Z64b, Z64c, Z64d, Y64a, Y64b, Y64c, Y64d⟩ := S.c4 BK414.out
     go_wp2_with (first | ((with_reducible refine gate_callee (f := 37) rfl ?_); refine S.gL (some 51) Try.func37 #[.agg #[.slice Ao50 t427.length co50, .int .i64 t430, .slice Ao55 t431.length co55, .int .i64 t434], .agg #[.slice Ao31 t405.length co31, .int .i64 t408, .slice Ao34 t409.length co34, .int .i64 t412]] ?_; (with_reducible refine (laws_eqControl.calls k _ _ t427 t430 _ _ t431 t434 _ _ t405 t408 _ _ t409 t412 true _ ?s1 (S.rl HO429) ?s3 (S.rl HO433) ?s5 (S.rl HO407) ?s7 (S.rl HO411) A56.out).mono ?_); (case s1 => refine (Kd.R_reads' (e := 3) (base := w.heap.size) (ok := fun k_ => ((((((S.N k_ (.slice Ao55 t431.length co55) ∧ S.N k_ v398) ∧ S.N k_ v402) ∧ S.N k_ (.slice Ao31 t405.length co31)) ∧ S.N k_ (.slice Ao34 t409.length co34)) ∧ S.N k_ (.slice Ao42 t418.length co42)) ∧ S.N k_ (.slice Ao46 t422.length co46))) (n := t427.length) (c := co50) ?_).2.2; exact (S.G4 HO429 BK436)); (case s3 => refine (Kd.R_reads' (e := 3) (base := w.heap.size) (ok := fun k_ => ((((((S.N k_ (.slice Ao50 t427.length co50) ∧ S.N k_ v398) ∧ S.N k_ v402) ∧ S.N k_ (.slice Ao31 t405.length co31)) ∧ S.N k_ (.slice Ao34 t409.length co34)) ∧ S.N k_ (.slice Ao42 t418.length co42)) ∧ S.N k_ (.slice Ao46 t422.length co46))) (n := t431.length) (c := co55) ?_).2.2; exact (S.G4 HO433 BK436)); (case s5 => refine (Kd.R_reads' (e := 3) (base := w.heap.size) (ok := fun k_ => (((((S.N k_ v398 ∧ (S.N k_ v402 ∧ S.N k_ (.slice Ao34 t409.length co34))) ∧ S.N k_ (.slice Ao42 t418.length co42)) ∧ S.N k_ (.slice Ao46 t422.length co46)) ∧ S.N k_ (.slice Ao50 t427.length co50)) ∧ S.N k_ (.slice Ao55 t431.length co55))) (n := t405.length) (c := co31) ?_).2.2; exact (S.G4 HO407 BK436)); (case s7 => refine (Kd.R_reads' (e := 3) (base := w.heap.size) (ok := fun k_ => (((((S.N k_ v398 ∧ (S.N k_ v402 ∧ S.N k_ (.slice Ao31 t405.length co31))) ∧ S.N k_ (.slice Ao42 t418.length co42)) ∧ S.N k_ (.slice Ao46 t422.length co46)) ∧ S.N k_ (.slice Ao50 t427.length co50)) ∧ S.N k_ (.slice Ao55 t431.length co55))) (n := t409.length) (c := co34) ?_).2.2; exact (S.G4 HO411 BK436)); rintro e w65 ⟨rfl, hb⟩; refine ⟨_, rfl, ?_⟩; replace HO396 := Aside0.mk (Kd.R_below (S.G4 HO396 BK436) hb); replace HO399 := Aside0.mk (Kd.R_below (S.G4 HO399 BK436) hb); replace HO403 := Aside0.mk (Kd.R_below (S.G4 HO403 BK436) hb); replace HO407 := Aside0.mk (Kd.R_below (S.G4 HO407 BK436) hb); replace HO411 := Aside0.mk (Kd.R_below (S.G4 HO411 BK436) hb); replace HO417 := Aside0.mk (Kd.R_below (S.G4 HO417 BK436) hb); replace HO420 := Aside0.mk (Kd.R_below (S.G4 HO420 BK436) hb); replace HO424 := Aside0.mk (Kd.R_below (S.G4 HO424 BK436) hb); replace HO429 := Aside0.mk (Kd.R_below (S.G4 HO429 BK436) hb); replace HO433 := Aside0.mk (Kd.R_below (S.G4 HO433 BK436) hb); replace BK391 := S.kf BK391 NB391_436 hb; replace BK414 := S.kf BK414 NB414_436 hb; replace BK426 := S.kf BK426 NB426_436 hb; replace BK436 := S.kp4 BK436 hb; replace HB := S.sG hb; (try clear hb)))
     go_meet
     case rel => exact ⟨_, ((t435 != t413)), S.eA, H', S.le, ⟨by (with_reducible repeat (first | apply Kd.R_alloc | apply Kd.R_drewN | apply Kd.R_drew)); exact Kd.R_mono HO417.out (fun _ hk => trivial)⟩, ⟨by (with_reducible repeat (first | apply Kd.R_alloc | apply Kd.R_drewN | apply Kd.R_drew)); exact Kd.R_mono HO407.out (fun _ hk => ⟨hk.1.1.1.1.2.2, ⟨hk.1.1.1.2, ⟨hk.1.1.2, ⟨hk.1.2, hk.2⟩⟩⟩⟩)⟩, ⟨by (with_reducible repeat (first | apply Kd.R_alloc | apply Kd.R_drewN | apply Kd.R_drew)); exact Kd.R_mono HO411.out (fun _ hk => ⟨hk.1.1.1.1.2.2, ⟨hk.1.1.1.2, ⟨hk.1.1.2, ⟨hk.1.2, hk.2⟩⟩⟩⟩)⟩, ⟨by (with_reducible repeat (first | apply Kd.R_alloc | apply Kd.R_drewN | apply Kd.R_drew)); exact Kd.R_mono HO420.out (fun _ hk => ⟨hk.1.1.1.2, ⟨hk.1.1.2, ⟨hk.1.1.1.1.1.1, ⟨hk.1.2, hk.2⟩⟩⟩⟩)⟩, ⟨by (with_reducible repeat (first | apply Kd.R_alloc | apply Kd.R_drewN | apply Kd.R_drew)); exact Kd.R_mono HO424.out (fun _ hk => ⟨hk.1.1.1.2, ⟨hk.1.1.2, ⟨hk.1.1.1.1.1.1, ⟨hk.1.2, hk.2⟩⟩⟩⟩)⟩, ⟨by (with_reducible repeat (first | apply Kd.R_alloc | apply Kd.R_drewN | apply Kd.R_drew)); exact Kd.R_mono HO429.out (fun _ hk => ⟨hk.1.1.1.2, ⟨hk.1.1.2, ⟨hk.1.2, ⟨hk.2, hk.1.1.1.1.1.1⟩⟩⟩⟩)⟩, ⟨by (with_reducible repeat (first | apply Kd.R_alloc | apply Kd.R_drewN | apply Kd.R_drew)); exact Kd.R_mono HO433.out (fun _ hk => ⟨hk.1.1.1.2, ⟨hk.1.1.2, ⟨hk.1.2, ⟨hk.2, hk.1.1.1.1.1.1⟩⟩⟩⟩)⟩, ⟨S.uB BK391.out⟩, ⟨S.uB BK414.out⟩, ⟨S.uB BK426.out⟩, ⟨S.uB BK436.out⟩, ⟨S.bG⟩⟩
    ·have H' := Aside0.mk H
     clear H
     have hnb66 := NB436_391.out
     have hnc66 := NB391_436.out
     have hnb67 := NB436_414.out
     have hnc67 := NB414_436.out
     have hnb68 := NB436_426.out
     have hnc68 := NB426_436.out
     obtain ⟨Z69a, Z69b, Z69c, Z69d, Y69a, Y69b, Y69c, Y69d⟩ := S.c4 BK436.out
     have hnb70 := NB414_391.out
     have hnc70 := NB391_414.out
     have hnb71 := NB414_426.out
     have hnc71 := NB426_414.out
     obtain ⟨Z72a, Z72b, Z72c, Z72d, Y72a, Y72b, Y72c, Y72d⟩ := S.c4 BK414.out
     go_wp2_with (first | ((with_reducible refine gate_callee (f := 37) rfl ?_); refine S.gL (some 51) Try.func37 #[.agg #[.slice Ao50 t427.length co50, .int .i64 t430, .slice Ao55 t431.length co55, .int .i64 t434], .agg #[.slice Ao31 t405.length co31, .int .i64 t408, .slice Ao34 t409.length co34, .int .i64 t412]] ?_; (with_reducible refine (laws_eqControl.calls k _ _ t427 t430 _ _ t431 t434 _ _ t405 t408 _ _ t409 t412 false _ ?s1 (S.rl HO429) ?s3 (S.rl HO433) ?s5 (S.rl HO407) ?s7 (S.rl HO411) A56.out).mono ?_); (case s1 => refine (Kd.R_reads' (e := 3) (base := w.heap.size) (ok := fun k_ => ((((((S.N k_ (.slice Ao55 t431.length co55) ∧ S.N k_ v398) ∧ S.N k_ v402) ∧ S.N k_ (.slice Ao31 t405.length co31)) ∧ S.N k_ (.slice Ao34 t409.length co34)) ∧ S.N k_ (.slice Ao42 t418.length co42)) ∧ S.N k_ (.slice Ao46 t422.length co46))) (n := t427.length) (c := co50) ?_).2.2; exact (S.G4 HO429 BK436)); (case s3 => refine (Kd.R_reads' (e := 3) (base := w.heap.size) (ok := fun k_ => ((((((S.N k_ (.slice Ao50 t427.length co50) ∧ S.N k_ v398) ∧ S.N k_ v402) ∧ S.N k_ (.slice Ao31 t405.length co31)) ∧ S.N k_ (.slice Ao34 t409.length co34)) ∧ S.N k_ (.slice Ao42 t418.length co42)) ∧ S.N k_ (.slice Ao46 t422.length co46))) (n := t431.length) (c := co55) ?_).2.2; exact (S.G4 HO433 BK436)); (case s5 => refine (Kd.R_reads' (e := 3) (base := w.heap.size) (ok := fun k_ => (((((S.N k_ v398 ∧ (S.N k_ v402 ∧ S.N k_ (.slice Ao34 t409.length co34))) ∧ S.N k_ (.slice Ao42 t418.length co42)) ∧ S.N k_ (.slice Ao46 t422.length co46)) ∧ S.N k_ (.slice Ao50 t427.length co50)) ∧ S.N k_ (.slice Ao55 t431.length co55))) (n := t405.length) (c := co31) ?_).2.2; exact (S.G4 HO407 BK436)); (case s7 => refine (Kd.R_reads' (e := 3) (base := w.heap.size) (ok := fun k_ => (((((S.N k_ v398 ∧ (S.N k_ v402 ∧ S.N k_ (.slice Ao31 t405.length co31))) ∧ S.N k_ (.slice Ao42 t418.length co42)) ∧ S.N k_ (.slice Ao46 t422.length co46)) ∧ S.N k_ (.slice Ao50 t427.length co50)) ∧ S.N k_ (.slice Ao55 t431.length co55))) (n := t409.length) (c := co34) ?_).2.2; exact (S.G4 HO411 BK436)); rintro e w73 ⟨rfl, hb⟩; refine ⟨_, rfl, ?_⟩; replace HO396 := Aside0.mk (Kd.R_below (S.G4 HO396 BK436) hb); replace HO399 := Aside0.mk (Kd.R_below (S.G4 HO399 BK436) hb); replace HO403 := Aside0.mk (Kd.R_below (S.G4 HO403 BK436) hb); replace HO407 := Aside0.mk (Kd.R_below (S.G4 HO407 BK436) hb); replace HO411 := Aside0.mk (Kd.R_below (S.G4 HO411 BK436) hb); replace HO417 := Aside0.mk (Kd.R_below (S.G4 HO417 BK436) hb); replace HO420 := Aside0.mk (Kd.R_below (S.G4 HO420 BK436) hb); replace HO424 := Aside0.mk (Kd.R_below (S.G4 HO424 BK436) hb); replace HO429 := Aside0.mk (Kd.R_below (S.G4 HO429 BK436) hb); replace HO433 := Aside0.mk (Kd.R_below (S.G4 HO433 BK436) hb); replace BK391 := S.kf BK391 NB391_436 hb; replace BK414 := S.kf BK414 NB414_436 hb; replace BK426 := S.kf BK426 NB426_436 hb; replace BK436 := S.kp4 BK436 hb; replace HB := S.sG hb; (try clear hb)))
     go_meet
     case rel => exact ⟨_, (true), S.eA, H', S.le, ⟨by (with_reducible repeat (first | apply Kd.R_alloc | apply Kd.R_drewN | apply Kd.R_drew)); exact Kd.R_mono HO417.out (fun _ hk => trivial)⟩, ⟨by (with_reducible repeat (first | apply Kd.R_alloc | apply Kd.R_drewN | apply Kd.R_drew)); exact Kd.R_mono HO407.out (fun _ hk => ⟨hk.1.1.1.1.2.2, ⟨hk.1.1.1.2, ⟨hk.1.1.2, ⟨hk.1.2, hk.2⟩⟩⟩⟩)⟩, ⟨by (with_reducible repeat (first | apply Kd.R_alloc | apply Kd.R_drewN | apply Kd.R_drew)); exact Kd.R_mono HO411.out (fun _ hk => ⟨hk.1.1.1.1.2.2, ⟨hk.1.1.1.2, ⟨hk.1.1.2, ⟨hk.1.2, hk.2⟩⟩⟩⟩)⟩, ⟨by (with_reducible repeat (first | apply Kd.R_alloc | apply Kd.R_drewN | apply Kd.R_drew)); exact Kd.R_mono HO420.out (fun _ hk => ⟨hk.1.1.1.2, ⟨hk.1.1.2, ⟨hk.1.1.1.1.1.1, ⟨hk.1.2, hk.2⟩⟩⟩⟩)⟩, ⟨by (with_reducible repeat (first | apply Kd.R_alloc | apply Kd.R_drewN | apply Kd.R_drew)); exact Kd.R_mono HO424.out (fun _ hk => ⟨hk.1.1.1.2, ⟨hk.1.1.2, ⟨hk.1.1.1.1.1.1, ⟨hk.1.2, hk.2⟩⟩⟩⟩)⟩, ⟨by (with_reducible repeat (first | apply Kd.R_alloc | apply Kd.R_drewN | apply Kd.R_drew)); exact Kd.R_mono HO429.out (fun _ hk => ⟨hk.1.1.1.2, ⟨hk.1.1.2, ⟨hk.1.2, ⟨hk.2, hk.1.1.1.1.1.1⟩⟩⟩⟩)⟩, ⟨by (with_reducible repeat (first | apply Kd.R_alloc | apply Kd.R_drewN | apply Kd.R_drew)); exact Kd.R_mono HO433.out (fun _ hk => ⟨hk.1.1.1.2, ⟨hk.1.1.2, ⟨hk.1.2, ⟨hk.2, hk.1.1.1.1.1.1⟩⟩⟩⟩)⟩, ⟨S.uB BK391.out⟩, ⟨S.uB BK414.out⟩, ⟨S.uB BK426.out⟩, ⟨S.uB BK436.out⟩, ⟨S.bG⟩⟩
   case rest =>
    clear HC18
    try clear c5
    try clear Z39a
    try clear Z39b
    try clear Z39c
    try clear Z39d
    try clear Z45a
    try clear Z45b
    try clear Z45c
    try clear Z45d
    try clear Z54a
    try clear Z54b
    try clear Z54c
    try clear Z54d
    try clear Y39a
    try clear Y39b
    try clear Y39c
    try clear Y39d
    try clear Y45a
    try clear Y45b
    try clear Y45c
    try clear Y45d
    try clear Y54a
    try clear Y54b
    try clear Y54c
    try clear Y54d
    obtain ⟨kq, x57_17, rfl, HA, HJ17, HO_10, HO_415000, HO_415002, HO_427000, HO_427002, HO_437000, HO_437002, BK391, BK414, BK426, BK436, HB⟩ := hcut
    cases kq with
    | zero => exact absurd HA.out (by simp [laws_FnExactCutFor.j0])
    | succ kj17 =>
     have H := HA.out
     clear HA
     simp only [laws_FnExactCutFor.j0] at H
     replace H := S.db H; rcases H with ⟨rfl, H⟩ | ⟨rfl, H⟩
     ·obtain rfl := Option.some.inj H
      go_wp2
      go_ret
      exact ⟨S.eW, S.bG⟩
     ·replace H := S.bd H; obtain ⟨t438, A75, H⟩ := H
      (try dsimp only at H)
      replace H := S.bd H; obtain ⟨t441, A76, H⟩ := H
      (try dsimp only at H)
      replace H := S.db H; rcases H with ⟨rfl, H⟩ | ⟨rfl, H⟩
      ·replace H := S.bd H; obtain ⟨⟨t442, t445, t446, t449⟩, A78, H⟩ := H
       (try dsimp only at H)
       replace H := S.bd H; obtain ⟨t450, A79, H⟩ := H
       (try dsimp only at H)
       replace H := S.db H; rcases H with ⟨rfl, H⟩ | ⟨rfl, H⟩
       ·replace H := S.bd H; obtain ⟨⟨t451, t452⟩, A81, H⟩ := H
        (try dsimp only at H)
        replace H := S.bd H; obtain ⟨⟨t453, t454, t455⟩, A82, H⟩ := H
        (try dsimp only at H)
        have HC83 := Aside0.mk H
        clear H
        try go_wp2_with (first | ((with_reducible refine gate_callee (f := 14) rfl ?_); refine S.gL (some 60) Try.func14 #[.slice A0 l0.length c0] ?_; (with_reducible refine (laws_toPathS.calls kj17 _ _ l0 t438 _ ?s1 HC0.out A75.out).mono ?_); (case s1 => exact S.cA HR0.out); rintro e w84 ⟨v439, rfl, ho0, hb⟩; refine ⟨_, rfl, ?_⟩; replace HO_415000 := S.rb HO_415000 hb; replace HO_415002 := S.rb HO_415002 hb; replace HO_427000 := S.rb HO_427000 hb; replace HO_427002 := S.rb HO_427002 hb; replace HO_437000 := S.rb HO_437000 hb; replace HO_437002 := S.rb HO_437002 hb; have HO440 := S.rnG ho0 HO_10; replace HO_10 := S.re HO_10 ho0 hb; replace BK391 := S.kb BK391 hb; replace BK414 := S.kb BK414 hb; replace BK426 := S.kb BK426 hb; replace BK436 := S.kb BK436 hb; replace HB := S.sG hb; (try clear hb); (try clear ho0); obtain ⟨Ao85, co85, eo85⟩ := Kd.R_slice HO440.out; subst eo85) | ((with_reducible refine gate_callee (f := 19) rfl ?_); refine S.gL (some 61) Try.func19 #[.slice Ao47 t415.length co47, .slice Ao85 t438.length co85] ?_; (with_reducible refine (laws_eqPathS.calls kj17 _ _ t415 _ _ t438 true _ ?s1 (S.rl HO_10) ?s3 (S.rl HO440) A76.out).mono ?_); (case s1 => exact S.rd HO_10); (case s3 => exact S.rd HO440); rintro e w86 ⟨rfl, hb⟩; refine ⟨_, rfl, ?_⟩; replace HO_10 := S.rb HO_10 hb; replace HO_415000 := S.rb HO_415000 hb; replace HO_415002 := S.rb HO_415002 hb; replace HO_427000 := S.rb HO_427000 hb; replace HO_427002 := S.rb HO_427002 hb; replace HO_437000 := S.rb HO_437000 hb; replace HO_437002 := S.rb HO_437002 hb; replace HO440 := S.rb HO440 hb; replace BK391 := S.kb BK391 hb; replace BK414 := S.kb BK414 hb; replace BK426 := S.kb BK426 hb; replace BK436 := S.kb BK436 hb; replace HB := S.sG hb; (try clear hb)))
        replace HO_10 := S.dr HO_10
        replace HO_415000 := S.dr HO_415000
        replace HO_415002 := S.dr HO_415002
        replace HO_427000 := S.dr HO_427000
        replace HO_427002 := S.dr HO_427002
        replace HO_437000 := S.dr HO_437000
        replace HO_437002 := S.dr HO_437002
        replace HO440 := S.dr HO440
        replace BK391 := Aside0.mk (blk_drew BK391.out)
        replace BK414 := Aside0.mk (blk_drew BK414.out)
        replace BK426 := Aside0.mk (blk_drew BK426.out)
        replace BK436 := Aside0.mk (blk_drew BK436.out)
        replace HB := Aside0.mk (below_drew1 HB.out)
        refine start_ (n := 5) (S := fun w' => w'.cell? ⟨gb426, 0, none⟩ = some (.slice Ao42 t418.length co42) ∧ w'.cell? ⟨gb426, 1, none⟩ = some (.int .i64 t421) ∧ w'.cell? ⟨gb426, 2, none⟩ = some (.slice Ao46 t422.length co46) ∧ w'.cell? ⟨gb426, 3, none⟩ = some (.int .i64 t425) ∧ w'.cell? ⟨gb391, 0, none⟩ = some (.slice A1_0 l1_0.length c1_0) ∧ w'.cell? ⟨gb391, 1, none⟩ = some (.int .i64 a1_1) ∧ w'.cell? ⟨gb391, 2, none⟩ = some (.slice A1_2 l1_2.length c1_2) ∧ w'.cell? ⟨gb391, 3, none⟩ = some (.int .i64 a1_3)) (ds := []) #[false, false, false, false, false] (by kernel_rfl) rfl rfl ⟨(blk_cell BK426.out 0).trans rfl, (blk_cell BK426.out 1).trans rfl, (blk_cell BK426.out 2).trans rfl, (blk_cell BK426.out 3).trans rfl, (blk_cell BK391.out 0).trans rfl, (blk_cell BK391.out 1).trans rfl, (blk_cell BK391.out 2).trans rfl, (blk_cell BK391.out 3).trans rfl⟩ (fun hHeld => ?_)
        generalize w86.drew = w87 at HO_10 HO_415000 HO_415002 HO_427000 HO_427002 HO_437000 HO_437002 HO440 BK391 BK414 BK426 BK436 HB hHeld ⊢
        refine take_ (i := 0) (N := some 63) (v := ?_) (a' := ?_) #[true, false, false, false, false] rfl rfl (by kernel_rfl) (fun _ _ _ h => h) (Or.inl ⟨by rfl, ?_⟩) hHeld ?_ ?_
        rotate_left
        ·rintro w' ⟨s0, s1, s2, s3, s4, s5, s6, s7⟩
         go_simp
         with_reducible rfl
        rotate_left
        ·simp only [Act.put, List.setIfInBounds_toArray, List.set_cons_zero, List.set_cons_succ, i64_w, i32_w]
         rfl
        refine take_ (i := 1) (N := some 64) (v := ?_) (a' := ?_) #[true, true, false, false, false] rfl rfl (by kernel_rfl) (fun _ _ _ h => h) (Or.inl ⟨by rfl, ?_⟩) hHeld ?_ ?_
        rotate_left
        ·rintro w' ⟨s0, s1, s2, s3, s4, s5, s6, s7⟩
         go_simp
         with_reducible rfl
        rotate_left
        ·simp only [Act.put, List.setIfInBounds_toArray, List.set_cons_zero, List.set_cons_succ, i64_w, i32_w]
         rfl
        refine one_ (i := 2) (N := some 65) #[true, true, true, false, false] rfl rfl (by kernel_rfl) (by decide) (fun K hK => ?_)
        refine S.go Try.func35 #[.agg #[.slice A1_0 l1_0.length c1_0, .int .i64 a1_1, .slice A1_2 l1_2.length c1_2, .int .i64 a1_3]] ?_
        with_reducible refine (laws_toControl.calls kj17 _ _ l1_0 a1_1 _ _ l1_2 a1_3 t442 t445 t446 t449 _ ?s1 ?s2 ?s3 ?s4 A78.out).mono ?_
        (case s1 => exact S.cA HR1_0.out)
        (case s2 => exact HC1_0.out)
        (case s3 => exact S.cA HR1_2.out)
        (case s4 => exact HC1_2.out)
        rintro e w88 ⟨v443, v447, rfl, ho0, ho1, hb⟩
        refine ⟨_, rfl, ?_⟩
        replace HO_10 := S.rb HO_10 hb
        replace HO440 := S.rb HO440 hb
        have HO444 := Aside0.mk (Kd.R_lower (Kd.R_new' (Kd.R_new' (Kd.R_new' (Kd.R_new' (Kd.R_new' (Kd.R_new' ho0 (Kd.R_lt (S.uR HO_415000.out))) (Kd.R_lt (S.uR HO_415002.out))) (Kd.R_lt (S.uR HO_427000.out))) (Kd.R_lt (S.uR HO_427002.out))) (Kd.R_lt (S.uR HO_437000.out))) (Kd.R_lt (S.uR HO_437002.out))) (below_size S.bG))
        have HO448 := Aside0.mk (Kd.R_lower (Kd.R_new' (Kd.R_new' (Kd.R_new' (Kd.R_new' (Kd.R_new' (Kd.R_new' ho1 (Kd.R_lt (S.uR HO_415000.out))) (Kd.R_lt (S.uR HO_415002.out))) (Kd.R_lt (S.uR HO_427000.out))) (Kd.R_lt (S.uR HO_427002.out))) (Kd.R_lt (S.uR HO_437000.out))) (Kd.R_lt (S.uR HO_437002.out))) (below_size S.bG))
        replace HO_415000 := Aside0.mk (Kd.R_mono (Kd.R_told (Kd.R_told (Kd.R_old (S.uR HO_415000.out) hb) (Kd.R_base ho0)) (Kd.R_base ho1)) (fun _ h_ => h_.1))
        replace HO_415002 := Aside0.mk (Kd.R_mono (Kd.R_told (Kd.R_told (Kd.R_old (S.uR HO_415002.out) hb) (Kd.R_base ho0)) (Kd.R_base ho1)) (fun _ h_ => h_.1))
        replace HO_427000 := Aside0.mk (Kd.R_mono (Kd.R_told (Kd.R_told (Kd.R_old (S.uR HO_427000.out) hb) (Kd.R_base ho0)) (Kd.R_base ho1)) (fun _ h_ => h_.1))
        replace HO_427002 := Aside0.mk (Kd.R_mono (Kd.R_told (Kd.R_told (Kd.R_old (S.uR HO_427002.out) hb) (Kd.R_base ho0)) (Kd.R_base ho1)) (fun _ h_ => h_.1))
        replace HO_437000 := Aside0.mk (Kd.R_mono (Kd.R_told (Kd.R_told (Kd.R_old (S.uR HO_437000.out) hb) (Kd.R_base ho0)) (Kd.R_base ho1)) (fun _ h_ => h_.1))
        replace HO_437002 := Aside0.mk (Kd.R_mono (Kd.R_told (Kd.R_told (Kd.R_old (S.uR HO_437002.out) hb) (Kd.R_base ho0)) (Kd.R_base ho1)) (fun _ h_ => h_.1))
        replace BK391 := S.kb BK391 hb
        replace BK414 := S.kb BK414 hb
        replace BK426 := S.kb BK426 hb
        replace BK436 := S.kb BK436 hb
        replace HB := S.sG hb
        (try clear hb)
        (try clear hb2)
        (try clear hk)
        (try clear hi)
        (try clear ho0)
        (try clear ho1)
        obtain ⟨Ao89, co89, eo89⟩ := Kd.R_slice HO444.out
        (first | subst eo89 | (injection eo89 with f1_ f2_ f3_; have f4_ := f1_.symm; have f5_ := f3_.symm; clear f1_ f2_ f3_; subst f4_; subst f5_))
        obtain ⟨Ao90, co90, eo90⟩ := Kd.R_slice HO448.out
        (first | subst eo90 | (injection eo90 with f1_ f2_ f3_; have f4_ := f1_.symm; have f5_ := f3_.symm; clear f1_ f2_ f3_; subst f4_; subst f5_))
        refine hK.out _ _ (S.d4 BK426.out (S.e4 BK391.out)) (fun hHeld => ?_)
        clear hK K
        refine S.nm 65 ?_
        refine one_ (i := 3) (N := some 66) #[true, true, true, true, false] rfl rfl (by kernel_rfl) (by decide) (fun K hK => ?_)
        refine S.go Try.func37 #[.agg #[.slice Ao42 t418.length co42, .int .i64 t421, .slice Ao46 t422.length co46, .int .i64 t425], .agg #[.slice Ao89 t442.length co89, .int .i64 t445, .slice Ao90 t446.length co90, .int .i64 t449]] ?_
        with_reducible refine (laws_eqControl.calls kj17 _ _ t418 t421 _ _ t422 t425 _ _ t442 t445 _ _ t446 t449 true _ ?s1 ?s2 ?s3 ?s4 ?s5 ?s6 ?s7 ?s8 A79.out).mono ?_
        (case s1 => exact S.rd HO_427000)
        (case s2 => exact S.rl HO_427000)
        (case s3 => exact S.rd HO_427002)
        (case s4 => exact S.rl HO_427002)
        (case s5 => exact S.rd HO444)
        (case s6 => exact S.rl HO444)
        (case s7 => exact S.rd HO448)
        (case s8 => exact S.rl HO448)
        rintro e w91 ⟨rfl, hb⟩
        refine ⟨_, rfl, ?_⟩
        replace HO_10 := S.rb HO_10 hb
        replace HO_415000 := S.rb HO_415000 hb
        replace HO_415002 := S.rb HO_415002 hb
        replace HO_427000 := S.rb HO_427000 hb
        replace HO_427002 := S.rb HO_427002 hb
        replace HO_437000 := S.rb HO_437000 hb
        replace HO_437002 := S.rb HO_437002 hb
        replace HO440 := S.rb HO440 hb
        replace HO444 := S.rb HO444 hb
        replace HO448 := S.rb HO448 hb
        replace BK391 := S.kb BK391 hb
        replace BK414 := S.kb BK414 hb
        replace BK426 := S.kb BK426 hb
        replace BK436 := S.kb BK436 hb
        replace HB := S.sG hb
        (try clear hb)
        (try clear hb2)
        (try clear hk)
        (try clear hi)
        refine hK.out _ _ (S.d4 BK426.out (S.e4 BK391.out)) (fun hHeld => ?_)
        clear hK K
        refine S.nm 66 ?_
        refine pure_ (i := 4) (N := some 67) (v := ?_) (a' := ?_) #[true, true, true, true, true] rfl rfl (by kernel_rfl) (fun _ _ _ h => h) (Or.inl ⟨by rfl, ?_⟩) ?_ ?_
        rotate_left
        ·intro w'
         go_simp
         with_reducible rfl
        rotate_left
        ·simp only [Act.put, List.setIfInBounds_toArray, List.set_cons_zero, List.set_cons_succ, i64_w, i32_w]
         rfl
        refine done_ (by kernel_rfl) ?_
        go_upto_region 21 with (first | ((with_reducible refine gate_callee (f := 21) rfl ?_); refine S.gL (some 70) Try.func21 #[.slice Ao47 t415.length co47, .int .i64 1] ?_; (with_reducible refine (laws_markPathS.calls kj17 (fun k_ => some k_ = (.slice Ao47 t415.length co47 : Value).ownBlock) (.slice Ao47 t415.length co47) t415 1 t451 t452 w _ ?s1 ?s2 A81.out).mono ?_); (case s1 => exact S.bG); (case s2 => exact Kd.R_tight rfl HO_10.out); rintro e w92 ⟨rfl, hy0, hb, hkp⟩; refine ⟨_, rfl, ?_⟩; replace HO_415000 := Aside0.mk (Kd.R_mono (ok' := fun k_ => S.N k_ (.slice Ao34 t409.length co34) ∧ S.N k_ (.slice Ao42 t418.length co42) ∧ S.N k_ (.slice Ao46 t422.length co46) ∧ S.N k_ (.slice Ao50 t427.length co50) ∧ S.N k_ (.slice Ao55 t431.length co55) ∧ S.N k_ (.slice Ao89 t442.length co89) ∧ S.N k_ (.slice Ao90 t446.length co90)) (Kd.R_keptB ((Kd.R_apart' HO_415000.out (Kd.R_typed HO_10.out) (by decide))) hkp (fun k_ hk_ hs_ => (hk_.2) hs_)) (fun k_ hk_ => ⟨hk_.1.1.1.1.1, hk_.1.1.1.1.2.1, hk_.1.1.1.1.2.2.1, hk_.1.1.1.1.2.2.2.1, hk_.1.1.1.1.2.2.2.2, hk_.1.1.1.2, hk_.1.1.2⟩)); replace HO_415002 := Aside0.mk (Kd.R_mono (ok' := fun k_ => S.N k_ (.slice Ao31 t405.length co31) ∧ S.N k_ (.slice Ao42 t418.length co42) ∧ S.N k_ (.slice Ao46 t422.length co46) ∧ S.N k_ (.slice Ao50 t427.length co50) ∧ S.N k_ (.slice Ao55 t431.length co55) ∧ S.N k_ (.slice Ao89 t442.length co89) ∧ S.N k_ (.slice Ao90 t446.length co90)) (Kd.R_keptB ((Kd.R_apart' HO_415002.out (Kd.R_typed HO_10.out) (by decide))) hkp (fun k_ hk_ hs_ => (hk_.2) hs_)) (fun k_ hk_ => ⟨hk_.1.1.1.1.1, hk_.1.1.1.1.2.1, hk_.1.1.1.1.2.2.1, hk_.1.1.1.1.2.2.2.1, hk_.1.1.1.1.2.2.2.2, hk_.1.1.1.2, hk_.1.1.2⟩)); replace HO_427000 := Aside0.mk (Kd.R_mono (ok' := fun k_ => S.N k_ (.slice Ao31 t405.length co31) ∧ S.N k_ (.slice Ao34 t409.length co34) ∧ S.N k_ (.slice Ao46 t422.length co46) ∧ S.N k_ (.slice Ao50 t427.length co50) ∧ S.N k_ (.slice Ao55 t431.length co55) ∧ S.N k_ (.slice Ao89 t442.length co89) ∧ S.N k_ (.slice Ao90 t446.length co90)) (Kd.R_keptB ((Kd.R_apart' HO_427000.out (Kd.R_typed HO_10.out) (by decide))) hkp (fun k_ hk_ hs_ => (hk_.2) hs_)) (fun k_ hk_ => ⟨hk_.1.1.1.1.1, hk_.1.1.1.1.2.1, hk_.1.1.1.1.2.2.1, hk_.1.1.1.1.2.2.2.1, hk_.1.1.1.1.2.2.2.2, hk_.1.1.1.2, hk_.1.1.2⟩)); replace HO_427002 := Aside0.mk (Kd.R_mono (ok' := fun k_ => S.N k_ (.slice Ao31 t405.length co31) ∧ S.N k_ (.slice Ao34 t409.length co34) ∧ S.N k_ (.slice Ao42 t418.length co42) ∧ S.N k_ (.slice Ao50 t427.length co50) ∧ S.N k_ (.slice Ao55 t431.length co55) ∧ S.N k_ (.slice Ao89 t442.length co89) ∧ S.N k_ (.slice Ao90 t446.length co90)) (Kd.R_keptB ((Kd.R_apart' HO_427002.out (Kd.R_typed HO_10.out) (by decide))) hkp (fun k_ hk_ hs_ => (hk_.2) hs_)) (fun k_ hk_ => ⟨hk_.1.1.1.1.1, hk_.1.1.1.1.2.1, hk_.1.1.1.1.2.2.1, hk_.1.1.1.1.2.2.2.1, hk_.1.1.1.1.2.2.2.2, hk_.1.1.1.2, hk_.1.1.2⟩)); replace HO_437000 := Aside0.mk (Kd.R_mono (ok' := fun k_ => S.N k_ (.slice Ao31 t405.length co31) ∧ S.N k_ (.slice Ao34 t409.length co34) ∧ S.N k_ (.slice Ao42 t418.length co42) ∧ S.N k_ (.slice Ao46 t422.length co46) ∧ S.N k_ (.slice Ao55 t431.length co55) ∧ S.N k_ (.slice Ao89 t442.length co89) ∧ S.N k_ (.slice Ao90 t446.length co90)) (Kd.R_keptB ((Kd.R_apart' HO_437000.out (Kd.R_typed HO_10.out) (by decide))) hkp (fun k_ hk_ hs_ => (hk_.2) hs_)) (fun k_ hk_ => ⟨hk_.1.1.1.1.1, hk_.1.1.1.1.2.1, hk_.1.1.1.1.2.2.1, hk_.1.1.1.1.2.2.2.1, hk_.1.1.1.1.2.2.2.2, hk_.1.1.1.2, hk_.1.1.2⟩)); replace HO_437002 := Aside0.mk (Kd.R_mono (ok' := fun k_ => S.N k_ (.slice Ao31 t405.length co31) ∧ S.N k_ (.slice Ao34 t409.length co34) ∧ S.N k_ (.slice Ao42 t418.length co42) ∧ S.N k_ (.slice Ao46 t422.length co46) ∧ S.N k_ (.slice Ao50 t427.length co50) ∧ S.N k_ (.slice Ao89 t442.length co89) ∧ S.N k_ (.slice Ao90 t446.length co90)) (Kd.R_keptB ((Kd.R_apart' HO_437002.out (Kd.R_typed HO_10.out) (by decide))) hkp (fun k_ hk_ hs_ => (hk_.2) hs_)) (fun k_ hk_ => ⟨hk_.1.1.1.1.1, hk_.1.1.1.1.2.1, hk_.1.1.1.1.2.2.1, hk_.1.1.1.1.2.2.2.1, hk_.1.1.1.1.2.2.2.2, hk_.1.1.1.2, hk_.1.1.2⟩)); replace BK391 := Aside0.mk (blk_kept (S.uB BK391.out) hkp (fun hs_ => (fun e_ => (Kd.R_ne HO_10.out BK391.out (by decide)) e_) hs_)); replace BK414 := Aside0.mk (blk_kept (S.uB BK414.out) hkp (fun hs_ => (fun e_ => (Kd.R_ne HO_10.out BK414.out (by decide)) e_) hs_)); replace BK426 := Aside0.mk (blk_kept (S.uB BK426.out) hkp (fun hs_ => (fun e_ => (Kd.R_ne HO_10.out BK426.out (by decide)) e_) hs_)); replace BK436 := Aside0.mk (blk_kept (S.uB BK436.out) hkp (fun hs_ => (fun e_ => (Kd.R_ne HO_10.out BK436.out (by decide)) e_) hs_)); replace HO440 := Aside0.mk (Kd.R_mono (ok' := fun k_ => S.N k_ (.slice Ao47 t415.length co47)) (Kd.R_keptB (HO440.out) hkp (fun k_ hk_ hs_ => (hk_.2) hs_)) (fun k_ hk_ => hk_.1.2)); replace HO444 := Aside0.mk (Kd.R_mono (ok' := fun k_ => S.N k_ (.slice Ao31 t405.length co31) ∧ S.N k_ (.slice Ao34 t409.length co34) ∧ S.N k_ (.slice Ao42 t418.length co42) ∧ S.N k_ (.slice Ao46 t422.length co46) ∧ S.N k_ (.slice Ao50 t427.length co50) ∧ S.N k_ (.slice Ao55 t431.length co55) ∧ S.N k_ (.slice Ao90 t446.length co90)) (Kd.R_keptB ((Kd.R_apart' HO444.out (Kd.R_typed HO_10.out) (by decide))) hkp (fun k_ hk_ hs_ => (hk_.2) hs_)) (fun k_ hk_ => ⟨hk_.1.1.1.1.1.1.1.2, hk_.1.1.1.1.1.1.2, hk_.1.1.1.1.1.2, hk_.1.1.1.1.2, hk_.1.1.1.2, hk_.1.1.2, hk_.1.1.1.1.1.1.1.1⟩)); replace HO448 := Aside0.mk (Kd.R_mono (ok' := fun k_ => S.N k_ (.slice Ao31 t405.length co31) ∧ S.N k_ (.slice Ao34 t409.length co34) ∧ S.N k_ (.slice Ao42 t418.length co42) ∧ S.N k_ (.slice Ao46 t422.length co46) ∧ S.N k_ (.slice Ao50 t427.length co50) ∧ S.N k_ (.slice Ao55 t431.length co55) ∧ S.N k_ (.slice Ao89 t442.length co89)) (Kd.R_keptB ((Kd.R_apart' HO448.out (Kd.R_typed HO_10.out) (by decide))) hkp (fun k_ hk_ hs_ => (hk_.2) hs_)) (fun k_ hk_ => ⟨hk_.1.1.1.1.1.1.1.2, hk_.1.1.1.1.1.1.2, hk_.1.1.1.1.1.2, hk_.1.1.1.1.2, hk_.1.1.1.2, hk_.1.1.2, hk_.1.1.1.1.1.1.1.1⟩)); replace HO_10 := Aside0.mk (Kd.R_reok rfl hy0 (fun k_ e_ => HO_10.out.1 k_ e_)); replace HB := Aside0.mk (hb); (try clear hb); (try clear hkp); (try clear hy0); have hnb93 := NB426_391.out; have hnc93 := NB391_426.out; have hnb94 := NB426_414.out; have hnc94 := NB414_426.out; have hnb95 := NB426_436.out; have hnc95 := NB436_426.out; obtain ⟨Z96a, Z96b, Z96c, Z96d, Y96a, Y96b, Y96c, Y96d⟩ := S.c4 BK426.out) | ((with_reducible refine gate_callee (f := 43) rfl ?_); refine S.gL (some 73) Try.func43 #[.agg #[.slice Ao42 t418.length co42, .int .i64 t421, .slice Ao46 t422.length co46, .int .i64 t425], .int .i64 t451] ?_; (with_reducible refine (laws_markControl.calls kj17 (fun k_ => some k_ = (.slice Ao42 t418.length co42 : Value).ownBlock) (.slice Ao42 t418.length co42) t418 t421 (fun k_ => some k_ = (.slice Ao46 t422.length co46 : Value).ownBlock) (.slice Ao46 t422.length co46) t422 t425 t451 t453 t454 t455 w _ ?s1 ?s2 ?s3 ?s4 ?s5 A82.out).mono ?_); (case s1 => exact S.bG); (case s2 => exact Kd.R_tight rfl HO_427000.out); (case s3 => exact fun k_ e_ => (HO_427000.out.1 k_ e_.symm).2.2.1); (case s4 => exact Kd.R_tight rfl HO_427002.out); (case s5 => exact fun k_ e_ => (HO_427002.out.1 k_ e_.symm).2.2.1); rintro e w97 ⟨rfl, hy0, hy1, hb, hkp⟩; refine ⟨_, rfl, ?_⟩; replace HO_10 := Aside0.mk (Kd.R_mono (ok' := fun k_ => S.N k_ (.slice Ao85 t438.length co85)) (Kd.R_keptB ((Kd.R_apart' (Kd.R_apart' HO_10.out (Kd.R_typed HO_427000.out) (by decide)) (Kd.R_typed HO_427002.out) (by decide))) hkp (fun k_ hk_ hs_ => Or.elim hs_ (fun e_ => (hk_.1.2) e_) (fun e_ => (hk_.2) e_))) (fun k_ hk_ => hk_.1.1.1.2)); replace HO_415000 := Aside0.mk (Kd.R_mono (ok' := fun k_ => S.N k_ (.slice Ao34 t409.length co34) ∧ S.N k_ (.slice Ao42 t418.length co42) ∧ S.N k_ (.slice Ao46 t422.length co46) ∧ S.N k_ (.slice Ao50 t427.length co50) ∧ S.N k_ (.slice Ao55 t431.length co55) ∧ S.N k_ (.slice Ao89 t442.length co89) ∧ S.N k_ (.slice Ao90 t446.length co90)) (Kd.R_keptB (HO_415000.out) hkp (fun k_ hk_ hs_ => Or.elim hs_ (fun e_ => (hk_.2.1) e_) (fun e_ => (hk_.2.2.1) e_))) (fun k_ hk_ => ⟨hk_.1.1, hk_.1.2.1, hk_.1.2.2.1, hk_.1.2.2.2.1, hk_.1.2.2.2.2.1, hk_.1.2.2.2.2.2.1, hk_.1.2.2.2.2.2.2⟩)); replace HO_415002 := Aside0.mk (Kd.R_mono (ok' := fun k_ => S.N k_ (.slice Ao31 t405.length co31) ∧ S.N k_ (.slice Ao42 t418.length co42) ∧ S.N k_ (.slice Ao46 t422.length co46) ∧ S.N k_ (.slice Ao50 t427.length co50) ∧ S.N k_ (.slice Ao55 t431.length co55) ∧ S.N k_ (.slice Ao89 t442.length co89) ∧ S.N k_ (.slice Ao90 t446.length co90)) (Kd.R_keptB (HO_415002.out) hkp (fun k_ hk_ hs_ => Or.elim hs_ (fun e_ => (hk_.2.1) e_) (fun e_ => (hk_.2.2.1) e_))) (fun k_ hk_ => ⟨hk_.1.1, hk_.1.2.1, hk_.1.2.2.1, hk_.1.2.2.2.1, hk_.1.2.2.2.2.1, hk_.1.2.2.2.2.2.1, hk_.1.2.2.2.2.2.2⟩)); replace HO_437000 := Aside0.mk (Kd.R_mono (ok' := fun k_ => S.N k_ (.slice Ao31 t405.length co31) ∧ S.N k_ (.slice Ao34 t409.length co34) ∧ S.N k_ (.slice Ao42 t418.length co42) ∧ S.N k_ (.slice Ao46 t422.length co46) ∧ S.N k_ (.slice Ao55 t431.length co55) ∧ S.N k_ (.slice Ao89 t442.length co89) ∧ S.N k_ (.slice Ao90 t446.length co90)) (Kd.R_keptB (HO_437000.out) hkp (fun k_ hk_ hs_ => Or.elim hs_ (fun e_ => (hk_.2.2.1) e_) (fun e_ => (hk_.2.2.2.1) e_))) (fun k_ hk_ => ⟨hk_.1.1, hk_.1.2.1, hk_.1.2.2.1, hk_.1.2.2.2.1, hk_.1.2.2.2.2.1, hk_.1.2.2.2.2.2.1, hk_.1.2.2.2.2.2.2⟩)); replace HO_437002 := Aside0.mk (Kd.R_mono (ok' := fun k_ => S.N k_ (.slice Ao31 t405.length co31) ∧ S.N k_ (.slice Ao34 t409.length co34) ∧ S.N k_ (.slice Ao42 t418.length co42) ∧ S.N k_ (.slice Ao46 t422.length co46) ∧ S.N k_ (.slice Ao50 t427.length co50) ∧ S.N k_ (.slice Ao89 t442.length co89) ∧ S.N k_ (.slice Ao90 t446.length co90)) (Kd.R_keptB (HO_437002.out) hkp (fun k_ hk_ hs_ => Or.elim hs_ (fun e_ => (hk_.2.2.1) e_) (fun e_ => (hk_.2.2.2.1) e_))) (fun k_ hk_ => ⟨hk_.1.1, hk_.1.2.1, hk_.1.2.2.1, hk_.1.2.2.2.1, hk_.1.2.2.2.2.1, hk_.1.2.2.2.2.2.1, hk_.1.2.2.2.2.2.2⟩)); replace BK391 := Aside0.mk (blk_kept (S.uB BK391.out) hkp (fun hs_ => Or.elim hs_ (fun e_ => (fun e_ => (Kd.R_ne HO_427000.out BK391.out (by decide)) e_) e_) (fun e_ => (fun e_ => (Kd.R_ne HO_427002.out BK391.out (by decide)) e_) e_))); replace BK414 := Aside0.mk (blk_kept (S.uB BK414.out) hkp (fun hs_ => Or.elim hs_ (fun e_ => (fun e_ => (Kd.R_ne HO_427000.out BK414.out (by decide)) e_) e_) (fun e_ => (fun e_ => (Kd.R_ne HO_427002.out BK414.out (by decide)) e_) e_))); replace BK426 := Aside0.mk (blk_kept (S.uB BK426.out) hkp (fun hs_ => Or.elim hs_ (fun e_ => (fun e_ => (Kd.R_ne HO_427000.out BK426.out (by decide)) e_) e_) (fun e_ => (fun e_ => (Kd.R_ne HO_427002.out BK426.out (by decide)) e_) e_))); replace BK436 := Aside0.mk (blk_kept (S.uB BK436.out) hkp (fun hs_ => Or.elim hs_ (fun e_ => (fun e_ => (Kd.R_ne HO_427000.out BK436.out (by decide)) e_) e_) (fun e_ => (fun e_ => (Kd.R_ne HO_427002.out BK436.out (by decide)) e_) e_))); replace HO440 := Aside0.mk (Kd.R_mono (ok' := fun k_ => S.N k_ (.slice Ao47 t415.length co47)) (Kd.R_keptB ((Kd.R_apart' (Kd.R_apart' HO440.out (Kd.R_typed HO_427000.out) (by decide)) (Kd.R_typed HO_427002.out) (by decide))) hkp (fun k_ hk_ hs_ => Or.elim hs_ (fun e_ => (hk_.1.2) e_) (fun e_ => (hk_.2) e_))) (fun k_ hk_ => hk_.1.1.1)); replace HO_427000 := Aside0.mk (Kd.R_reok rfl hy0 (fun k_ e_ => HO_427000.out.1 k_ e_)); replace HO_427002 := Aside0.mk (Kd.R_reok rfl hy1 (fun k_ e_ => HO_427002.out.1 k_ e_)); replace HO444 := Aside0.mk (Kd.R_mono (ok' := fun k_ => S.N k_ (.slice Ao31 t405.length co31) ∧ S.N k_ (.slice Ao34 t409.length co34) ∧ S.N k_ (.slice Ao42 t418.length co42) ∧ S.N k_ (.slice Ao46 t422.length co46) ∧ S.N k_ (.slice Ao50 t427.length co50) ∧ S.N k_ (.slice Ao55 t431.length co55) ∧ S.N k_ (.slice Ao90 t446.length co90)) (Kd.R_keptB (HO444.out) hkp (fun k_ hk_ hs_ => Or.elim hs_ (fun e_ => (hk_.2.2.1) e_) (fun e_ => (hk_.2.2.2.1) e_))) (fun k_ hk_ => ⟨hk_.1.1, hk_.1.2.1, hk_.1.2.2.1, hk_.1.2.2.2.1, hk_.1.2.2.2.2.1, hk_.1.2.2.2.2.2.1, hk_.1.2.2.2.2.2.2⟩)); replace HO448 := Aside0.mk (Kd.R_mono (ok' := fun k_ => S.N k_ (.slice Ao31 t405.length co31) ∧ S.N k_ (.slice Ao34 t409.length co34) ∧ S.N k_ (.slice Ao42 t418.length co42) ∧ S.N k_ (.slice Ao46 t422.length co46) ∧ S.N k_ (.slice Ao50 t427.length co50) ∧ S.N k_ (.slice Ao55 t431.length co55) ∧ S.N k_ (.slice Ao89 t442.length co89)) (Kd.R_keptB (HO448.out) hkp (fun k_ hk_ hs_ => Or.elim hs_ (fun e_ => (hk_.2.2.1) e_) (fun e_ => (hk_.2.2.2.1) e_))) (fun k_ hk_ => ⟨hk_.1.1, hk_.1.2.1, hk_.1.2.2.1, hk_.1.2.2.2.1, hk_.1.2.2.2.2.1, hk_.1.2.2.2.2.2.1, hk_.1.2.2.2.2.2.2⟩)); replace HB := Aside0.mk (hb); (try clear hb); (try clear hkp); (try clear hy0); (try clear hy1)))
        (try simp only [Act.put, List.setIfInBounds_toArray, List.set_cons_zero, List.set_cons_succ])
        go_cut [86] (fun v86 wc => ∃ (kq : Nat) (x86_82 : Bool), v86 = .bool x86_82 ∧ Aside0 (laws_FnExactCutFor.j1 kq l0 a2 t413 x86_82 l1_0 a1_1 l1_2 a1_3 t405 t408 t409 t412 t427 t430 t431 t434 = some r) ∧ Aside0 (kq ≤ kj17) ∧ Aside0 (Kd.R (Kd.int .i64) 3 wc w.heap.size (fun k_ => some k_ ≠ ((.slice Ao34 t409.length co34) : Value).ownBlock ∧ some k_ ≠ ((.slice Ao42 t418.length co42) : Value).ownBlock ∧ some k_ ≠ ((.slice Ao46 t422.length co46) : Value).ownBlock ∧ some k_ ≠ ((.slice Ao50 t427.length co50) : Value).ownBlock ∧ some k_ ≠ ((.slice Ao55 t431.length co55) : Value).ownBlock) (.slice Ao31 t405.length co31) t405) ∧ Aside0 (Kd.R (Kd.int .i64) 3 wc w.heap.size (fun k_ => some k_ ≠ ((.slice Ao31 t405.length co31) : Value).ownBlock ∧ some k_ ≠ ((.slice Ao42 t418.length co42) : Value).ownBlock ∧ some k_ ≠ ((.slice Ao46 t422.length co46) : Value).ownBlock ∧ some k_ ≠ ((.slice Ao50 t427.length co50) : Value).ownBlock ∧ some k_ ≠ ((.slice Ao55 t431.length co55) : Value).ownBlock) (.slice Ao34 t409.length co34) t409) ∧ Aside0 (Kd.R (Kd.int .i64) 3 wc w.heap.size (fun k_ => some k_ ≠ ((.slice Ao31 t405.length co31) : Value).ownBlock ∧ some k_ ≠ ((.slice Ao34 t409.length co34) : Value).ownBlock ∧ some k_ ≠ ((.slice Ao46 t422.length co46) : Value).ownBlock ∧ some k_ ≠ ((.slice Ao50 t427.length co50) : Value).ownBlock ∧ some k_ ≠ ((.slice Ao55 t431.length co55) : Value).ownBlock) (.slice Ao42 t418.length co42) t454) ∧ Aside0 (Kd.R (Kd.int .i64) 3 wc w.heap.size (fun k_ => some k_ ≠ ((.slice Ao31 t405.length co31) : Value).ownBlock ∧ some k_ ≠ ((.slice Ao34 t409.length co34) : Value).ownBlock ∧ some k_ ≠ ((.slice Ao42 t418.length co42) : Value).ownBlock ∧ some k_ ≠ ((.slice Ao50 t427.length co50) : Value).ownBlock ∧ some k_ ≠ ((.slice Ao55 t431.length co55) : Value).ownBlock) (.slice Ao46 t422.length co46) t455) ∧ Aside0 (Kd.R (Kd.int .i64) 3 wc w.heap.size (fun k_ => some k_ ≠ ((.slice Ao31 t405.length co31) : Value).ownBlock ∧ some k_ ≠ ((.slice Ao34 t409.length co34) : Value).ownBlock ∧ some k_ ≠ ((.slice Ao42 t418.length co42) : Value).ownBlock ∧ some k_ ≠ ((.slice Ao46 t422.length co46) : Value).ownBlock ∧ some k_ ≠ ((.slice Ao55 t431.length co55) : Value).ownBlock) (.slice Ao50 t427.length co50) t427) ∧ Aside0 (Kd.R (Kd.int .i64) 3 wc w.heap.size (fun k_ => some k_ ≠ ((.slice Ao31 t405.length co31) : Value).ownBlock ∧ some k_ ≠ ((.slice Ao34 t409.length co34) : Value).ownBlock ∧ some k_ ≠ ((.slice Ao42 t418.length co42) : Value).ownBlock ∧ some k_ ≠ ((.slice Ao46 t422.length co46) : Value).ownBlock ∧ some k_ ≠ ((.slice Ao50 t427.length co50) : Value).ownBlock) (.slice Ao55 t431.length co55) t431) ∧ Aside0 (wc.heap[gb391]? = some (.cells #[(.slice A1_0 l1_0.length c1_0), .int .i64 a1_1, (.slice A1_2 l1_2.length c1_2), .int .i64 a1_3] 57 (0, 0))) ∧ Aside0 (wc.heap[gb414]? = some (.cells #[(.slice Ao31 t405.length co31), .int .i64 t408, (.slice Ao34 t409.length co34), .int .i64 t412] 60 (0, 0))) ∧ Aside0 (wc.heap[gb426]? = some (.cells #[(.slice Ao42 t418.length co42), .int .i64 t421, (.slice Ao46 t422.length co46), .int .i64 t425] 60 (0, 0))) ∧ Aside0 (wc.heap[gb436]? = some (.cells #[(.slice Ao50 t427.length co50), .int .i64 t430, (.slice Ao55 t431.length co55), .int .i64 t434] 60 (0, 0))) ∧ Aside0 (Below w.heap.size w wc))
        case first =>
         have H := HC83.out
         clear HC83
         replace H := S.dc H; rcases H with ⟨H, c98b0⟩ | ⟨H, c98b0⟩
         ·(first | rw [c98b0] | (simp only [i64_w, i32_w]; rw [c98b0]) | skip)
          have H' := Aside0.mk H
          clear H
          go_wp2
          go_meet
          case rel => exact ⟨_, (true), S.eA, H', ⟨by have := HJ17.out; first | omega | exact Nat.le_refl _⟩, ⟨by (with_reducible repeat (first | apply Kd.R_alloc | apply Kd.R_drewN | apply Kd.R_drew)); exact Kd.R_mono HO_415000.out (fun _ hk => ⟨hk.1, ⟨hk.2.1, ⟨hk.2.2.1, ⟨hk.2.2.2.1, hk.2.2.2.2.1⟩⟩⟩⟩)⟩, ⟨by (with_reducible repeat (first | apply Kd.R_alloc | apply Kd.R_drewN | apply Kd.R_drew)); exact Kd.R_mono HO_415002.out (fun _ hk => ⟨hk.1, ⟨hk.2.1, ⟨hk.2.2.1, ⟨hk.2.2.2.1, hk.2.2.2.2.1⟩⟩⟩⟩)⟩, ⟨by (with_reducible repeat (first | apply Kd.R_alloc | apply Kd.R_drewN | apply Kd.R_drew)); exact Kd.R_mono HO_427000.out (fun _ hk => ⟨hk.1, ⟨hk.2.1, ⟨hk.2.2.1, ⟨hk.2.2.2.1, hk.2.2.2.2.1⟩⟩⟩⟩)⟩, ⟨by (with_reducible repeat (first | apply Kd.R_alloc | apply Kd.R_drewN | apply Kd.R_drew)); exact Kd.R_mono HO_427002.out (fun _ hk => ⟨hk.1, ⟨hk.2.1, ⟨hk.2.2.1, ⟨hk.2.2.2.1, hk.2.2.2.2.1⟩⟩⟩⟩)⟩, ⟨by (with_reducible repeat (first | apply Kd.R_alloc | apply Kd.R_drewN | apply Kd.R_drew)); exact Kd.R_mono HO_437000.out (fun _ hk => ⟨hk.1, ⟨hk.2.1, ⟨hk.2.2.1, ⟨hk.2.2.2.1, hk.2.2.2.2.1⟩⟩⟩⟩)⟩, ⟨by (with_reducible repeat (first | apply Kd.R_alloc | apply Kd.R_drewN | apply Kd.R_drew)); exact Kd.R_mono HO_437002.out (fun _ hk => ⟨hk.1, ⟨hk.2.1, ⟨hk.2.2.1, ⟨hk.2.2.2.1, hk.2.2.2.2.1⟩⟩⟩⟩)⟩, ⟨S.uB BK391.out⟩, ⟨S.uB BK414.out⟩, ⟨S.uB BK426.out⟩, ⟨S.uB BK436.out⟩, ⟨S.bG⟩⟩
         ·(first | rw [c98b0] | (simp only [i64_w, i32_w]; rw [c98b0]) | skip)
          replace H := S.bd H; obtain ⟨t456, A99, H⟩ := H
          (try dsimp only at H)
          replace H := S.db H; rcases H with ⟨rfl, H⟩ | ⟨rfl, H⟩
          ·have H' := Aside0.mk H
           clear H
           have hnb101 := NB436_391.out
           have hnc101 := NB391_436.out
           have hnb102 := NB436_414.out
           have hnc102 := NB414_436.out
           have hnb103 := NB436_426.out
           have hnc103 := NB426_436.out
           obtain ⟨Z104a, Z104b, Z104c, Z104d, Y104a, Y104b, Y104c, Y104d⟩ := S.c4 BK436.out
           have hnb105 := NB414_391.out
           have hnc105 := NB391_414.out
           have hnb106 := NB414_426.out
           have hnc106 := NB426_414.out
           obtain ⟨Z107a, Z107b, Z107c, Z107d, Y107a, Y107b, Y107c, Y107d⟩ := S.c4 BK414.out
           go_wp2_with (first | (go_at_call 37; (with_reducible refine (laws_eqControl.calls kj17 _ _ t427 t430 _ _ t431 t434 _ _ t405 t408 _ _ t409 t412 true _ ?s1 (S.rl HO_437000) ?s3 (S.rl HO_437002) ?s5 (S.rl HO_415000) ?s7 (S.rl HO_415002) A99.out).mono ?_); (case s1 => exact S.rd HO_437000); (case s3 => exact S.rd HO_437002); (case s5 => exact S.rd HO_415000); (case s7 => exact S.rd HO_415002); rintro e w108 ⟨rfl, hb⟩; replace HO_10 := S.rb HO_10 hb; replace HO_415000 := S.rb HO_415000 hb; replace HO_415002 := S.rb HO_415002 hb; replace HO_427000 := S.rb HO_427000 hb; replace HO_427002 := S.rb HO_427002 hb; replace HO_437000 := S.rb HO_437000 hb; replace HO_437002 := S.rb HO_437002 hb; replace HO440 := S.rb HO440 hb; replace HO444 := S.rb HO444 hb; replace HO448 := S.rb HO448 hb; replace BK391 := S.kb BK391 hb; replace BK414 := S.kb BK414 hb; replace BK426 := S.kb BK426 hb; replace BK436 := S.kb BK436 hb; replace HB := S.sG hb; (try clear hb)))
           go_meet
           case rel => exact ⟨_, ((t435 != t413)), S.eA, H', ⟨by have := HJ17.out; first | omega | exact Nat.le_refl _⟩, ⟨by (with_reducible repeat (first | apply Kd.R_alloc | apply Kd.R_drewN | apply Kd.R_drew)); exact Kd.R_mono HO_415000.out (fun _ hk => ⟨hk.1, ⟨hk.2.1, ⟨hk.2.2.1, ⟨hk.2.2.2.1, hk.2.2.2.2.1⟩⟩⟩⟩)⟩, ⟨by (with_reducible repeat (first | apply Kd.R_alloc | apply Kd.R_drewN | apply Kd.R_drew)); exact Kd.R_mono HO_415002.out (fun _ hk => ⟨hk.1, ⟨hk.2.1, ⟨hk.2.2.1, ⟨hk.2.2.2.1, hk.2.2.2.2.1⟩⟩⟩⟩)⟩, ⟨by (with_reducible repeat (first | apply Kd.R_alloc | apply Kd.R_drewN | apply Kd.R_drew)); exact Kd.R_mono HO_427000.out (fun _ hk => ⟨hk.1, ⟨hk.2.1, ⟨hk.2.2.1, ⟨hk.2.2.2.1, hk.2.2.2.2.1⟩⟩⟩⟩)⟩, ⟨by (with_reducible repeat (first | apply Kd.R_alloc | apply Kd.R_drewN | apply Kd.R_drew)); exact Kd.R_mono HO_427002.out (fun _ hk => ⟨hk.1, ⟨hk.2.1, ⟨hk.2.2.1, ⟨hk.2.2.2.1, hk.2.2.2.2.1⟩⟩⟩⟩)⟩, ⟨by (with_reducible repeat (first | apply Kd.R_alloc | apply Kd.R_drewN | apply Kd.R_drew)); exact Kd.R_mono HO_437000.out (fun _ hk => ⟨hk.1, ⟨hk.2.1, ⟨hk.2.2.1, ⟨hk.2.2.2.1, hk.2.2.2.2.1⟩⟩⟩⟩)⟩, ⟨by (with_reducible repeat (first | apply Kd.R_alloc | apply Kd.R_drewN | apply Kd.R_drew)); exact Kd.R_mono HO_437002.out (fun _ hk => ⟨hk.1, ⟨hk.2.1, ⟨hk.2.2.1, ⟨hk.2.2.2.1, hk.2.2.2.2.1⟩⟩⟩⟩)⟩, ⟨S.uB BK391.out⟩, ⟨S.uB BK414.out⟩, ⟨S.uB BK426.out⟩, ⟨S.uB BK436.out⟩, ⟨S.bG⟩⟩
          ·have H' := Aside0.mk H
           clear H
           have hnb109 := NB436_391.out
           have hnc109 := NB391_436.out
           have hnb110 := NB436_414.out
           have hnc110 := NB414_436.out
           have hnb111 := NB436_426.out
           have hnc111 := NB426_436.out
           obtain ⟨Z112a, Z112b, Z112c, Z112d, Y112a, Y112b, Y112c, Y112d⟩ := S.c4 BK436.out
           have hnb113 := NB414_391.out
           have hnc113 := NB391_414.out
           have hnb114 := NB414_426.out
           have hnc114 := NB426_414.out
           obtain ⟨Z115a, Z115b, Z115c, Z115d, Y115a, Y115b, Y115c, Y115d⟩ := S.c4 BK414.out
           go_wp2_with (first | (go_at_call 37; (with_reducible refine (laws_eqControl.calls kj17 _ _ t427 t430 _ _ t431 t434 _ _ t405 t408 _ _ t409 t412 false _ ?s1 (S.rl HO_437000) ?s3 (S.rl HO_437002) ?s5 (S.rl HO_415000) ?s7 (S.rl HO_415002) A99.out).mono ?_); (case s1 => exact S.rd HO_437000); (case s3 => exact S.rd HO_437002); (case s5 => exact S.rd HO_415000); (case s7 => exact S.rd HO_415002); rintro e w116 ⟨rfl, hb⟩; replace HO_10 := S.rb HO_10 hb; replace HO_415000 := S.rb HO_415000 hb; replace HO_415002 := S.rb HO_415002 hb; replace HO_427000 := S.rb HO_427000 hb; replace HO_427002 := S.rb HO_427002 hb; replace HO_437000 := S.rb HO_437000 hb; replace HO_437002 := S.rb HO_437002 hb; replace HO440 := S.rb HO440 hb; replace HO444 := S.rb HO444 hb; replace HO448 := S.rb HO448 hb; replace BK391 := S.kb BK391 hb; replace BK414 := S.kb BK414 hb; replace BK426 := S.kb BK426 hb; replace BK436 := S.kb BK436 hb; replace HB := S.sG hb; (try clear hb)))
           go_meet
           case rel => exact ⟨_, (true), S.eA, H', ⟨by have := HJ17.out; first | omega | exact Nat.le_refl _⟩, ⟨by (with_reducible repeat (first | apply Kd.R_alloc | apply Kd.R_drewN | apply Kd.R_drew)); exact Kd.R_mono HO_415000.out (fun _ hk => ⟨hk.1, ⟨hk.2.1, ⟨hk.2.2.1, ⟨hk.2.2.2.1, hk.2.2.2.2.1⟩⟩⟩⟩)⟩, ⟨by (with_reducible repeat (first | apply Kd.R_alloc | apply Kd.R_drewN | apply Kd.R_drew)); exact Kd.R_mono HO_415002.out (fun _ hk => ⟨hk.1, ⟨hk.2.1, ⟨hk.2.2.1, ⟨hk.2.2.2.1, hk.2.2.2.2.1⟩⟩⟩⟩)⟩, ⟨by (with_reducible repeat (first | apply Kd.R_alloc | apply Kd.R_drewN | apply Kd.R_drew)); exact Kd.R_mono HO_427000.out (fun _ hk => ⟨hk.1, ⟨hk.2.1, ⟨hk.2.2.1, ⟨hk.2.2.2.1, hk.2.2.2.2.1⟩⟩⟩⟩)⟩, ⟨by (with_reducible repeat (first | apply Kd.R_alloc | apply Kd.R_drewN | apply Kd.R_drew)); exact Kd.R_mono HO_427002.out (fun _ hk => ⟨hk.1, ⟨hk.2.1, ⟨hk.2.2.1, ⟨hk.2.2.2.1, hk.2.2.2.2.1⟩⟩⟩⟩)⟩, ⟨by (with_reducible repeat (first | apply Kd.R_alloc | apply Kd.R_drewN | apply Kd.R_drew)); exact Kd.R_mono HO_437000.out (fun _ hk => ⟨hk.1, ⟨hk.2.1, ⟨hk.2.2.1, ⟨hk.2.2.2.1, hk.2.2.2.2.1⟩⟩⟩⟩)⟩, ⟨by (with_reducible repeat (first | apply Kd.R_alloc | apply Kd.R_drewN | apply Kd.R_drew)); exact Kd.R_mono HO_437002.out (fun _ hk => ⟨hk.1, ⟨hk.2.1, ⟨hk.2.2.1, ⟨hk.2.2.2.1, hk.2.2.2.2.1⟩⟩⟩⟩)⟩, ⟨S.uB BK391.out⟩, ⟨S.uB BK414.out⟩, ⟨S.uB BK426.out⟩, ⟨S.uB BK436.out⟩, ⟨S.bG⟩⟩
        case rest =>
         clear HC83
         try clear c5
         try clear c8
         try clear c74
         try clear c77
         try clear c80
         try clear Z39a
         try clear Z39b
         try clear Z39c
         try clear Z39d
         try clear Z45a
         try clear Z45b
         try clear Z45c
         try clear Z45d
         try clear Z54a
         try clear Z54b
         try clear Z54c
         try clear Z54d
         try clear Z96a
         try clear Z96b
         try clear Z96c
         try clear Z96d
         try clear Y39a
         try clear Y39b
         try clear Y39c
         try clear Y39d
         try clear Y45a
         try clear Y45b
         try clear Y45c
         try clear Y45d
         try clear Y54a
         try clear Y54b
         try clear Y54c
         try clear Y54d
         try clear Y96a
         try clear Y96b
         try clear Y96c
         try clear Y96d
         obtain ⟨kq, x86_82, rfl, HA, HJ82, HO_415000, HO_415002, HO_427000, HO_427002, HO_437000, HO_437002, BK391, BK414, BK426, BK436, HB⟩ := hcut
         have hl427000_82 := (Kd.R_reads' HO_427000.out).1
         rw [hl427000_82] at HO_427000
         (try simp only [hl427000_82])
         (try simp only [hl427000_82] at BK391)
         (try simp only [hl427000_82] at BK414)
         (try simp only [hl427000_82] at BK426)
         (try simp only [hl427000_82] at BK436)
         (try simp only [hl427000_82] at HO_415000)
         (try simp only [hl427000_82] at HO_415002)
         (try simp only [hl427000_82] at HO_427002)
         (try simp only [hl427000_82] at HO_437000)
         (try simp only [hl427000_82] at HO_437002)
         have hl427002_82 := (Kd.R_reads' HO_427002.out).1
         rw [hl427002_82] at HO_427002
         (try simp only [hl427002_82])
         (try simp only [hl427002_82] at BK391)
         (try simp only [hl427002_82] at BK414)
         (try simp only [hl427002_82] at BK426)
         (try simp only [hl427002_82] at BK436)
         (try simp only [hl427002_82] at HO_415000)
         (try simp only [hl427002_82] at HO_415002)
         (try simp only [hl427002_82] at HO_427000)
         (try simp only [hl427002_82] at HO_437000)
         (try simp only [hl427002_82] at HO_437002)
         cases kq with
         | zero => exact absurd HA.out (by simp [laws_FnExactCutFor.j1])
         | succ kj82 =>
          have H := HA.out
          clear HA
          simp only [laws_FnExactCutFor.j1] at H
          replace H := S.db H; rcases H with ⟨rfl, H⟩ | ⟨rfl, H⟩
          ·obtain rfl := Option.some.inj H
           go_wp2
           go_ret
           exact ⟨S.eW, S.bG⟩
          ·replace H := S.bd H; obtain ⟨⟨t457, t458, t459⟩, A118, H⟩ := H
           (try dsimp only at H)
           replace H := S.bd H; obtain ⟨t460, A119, H⟩ := H
           (try dsimp only at H)
           replace H := S.dc H; rcases H with ⟨H, c120b0⟩ | ⟨H, c120b0⟩
           ·obtain rfl := Option.some.inj H
            have hnb121 := NB436_391.out
            have hnc121 := NB391_436.out
            have hnb122 := NB436_414.out
            have hnc122 := NB414_436.out
            have hnb123 := NB436_426.out
            have hnc123 := NB426_436.out
            obtain ⟨Z124a, Z124b, Z124c, Z124d, Y124a, Y124b, Y124c, Y124d⟩ := S.c4 BK436.out
            go_wp2_with (first | ((with_reducible refine gate_callee (f := 43) rfl ?_); refine S.gL (some 89) Try.func43 #[.agg #[.slice Ao50 t427.length co50, .int .i64 t430, .slice Ao55 t431.length co55, .int .i64 t434], .int .i64 1] ?_; (with_reducible refine (laws_markControl.calls kj82 (fun k_ => some k_ = (.slice Ao50 t427.length co50 : Value).ownBlock) (.slice Ao50 t427.length co50) t427 t430 (fun k_ => some k_ = (.slice Ao55 t431.length co55 : Value).ownBlock) (.slice Ao55 t431.length co55) t431 t434 1 t457 t458 t459 w _ ?s1 ?s2 ?s3 ?s4 ?s5 A118.out).mono ?_); (case s1 => exact S.bG); (case s2 => exact Kd.R_tight rfl HO_437000.out); (case s3 => exact fun k_ e_ => (HO_437000.out.1 k_ e_.symm).2.2.2.2); (case s4 => exact Kd.R_tight rfl HO_437002.out); (case s5 => exact fun k_ e_ => (HO_437002.out.1 k_ e_.symm).2.2.2.2); rintro e w125 ⟨rfl, hy0, hy1, hb, hkp⟩; refine ⟨_, rfl, ?_⟩; replace HO_415000 := Aside0.mk (Kd.R_mono (ok' := fun k_ => S.N k_ (.slice Ao34 t409.length co34) ∧ S.N k_ (.slice Ao42 t454.length co42) ∧ S.N k_ (.slice Ao46 t455.length co46) ∧ S.N k_ (.slice Ao50 t427.length co50) ∧ S.N k_ (.slice Ao55 t431.length co55)) (Kd.R_keptB (HO_415000.out) hkp (fun k_ hk_ hs_ => Or.elim hs_ (fun e_ => (hk_.2.2.2.1) e_) (fun e_ => (hk_.2.2.2.2) e_))) (fun k_ hk_ => ⟨hk_.1.1, hk_.1.2.1, hk_.1.2.2.1, hk_.1.2.2.2.1, hk_.1.2.2.2.2⟩)); replace HO_415002 := Aside0.mk (Kd.R_mono (ok' := fun k_ => S.N k_ (.slice Ao31 t405.length co31) ∧ S.N k_ (.slice Ao42 t454.length co42) ∧ S.N k_ (.slice Ao46 t455.length co46) ∧ S.N k_ (.slice Ao50 t427.length co50) ∧ S.N k_ (.slice Ao55 t431.length co55)) (Kd.R_keptB (HO_415002.out) hkp (fun k_ hk_ hs_ => Or.elim hs_ (fun e_ => (hk_.2.2.2.1) e_) (fun e_ => (hk_.2.2.2.2) e_))) (fun k_ hk_ => ⟨hk_.1.1, hk_.1.2.1, hk_.1.2.2.1, hk_.1.2.2.2.1, hk_.1.2.2.2.2⟩)); replace HO_427000 := Aside0.mk (Kd.R_mono (ok' := fun k_ => S.N k_ (.slice Ao31 t405.length co31) ∧ S.N k_ (.slice Ao34 t409.length co34) ∧ S.N k_ (.slice Ao46 t455.length co46) ∧ S.N k_ (.slice Ao50 t427.length co50) ∧ S.N k_ (.slice Ao55 t431.length co55)) (Kd.R_keptB (HO_427000.out) hkp (fun k_ hk_ hs_ => Or.elim hs_ (fun e_ => (hk_.2.2.2.1) e_) (fun e_ => (hk_.2.2.2.2) e_))) (fun k_ hk_ => ⟨hk_.1.1, hk_.1.2.1, hk_.1.2.2.1, hk_.1.2.2.2.1, hk_.1.2.2.2.2⟩)); replace HO_427002 := Aside0.mk (Kd.R_mono (ok' := fun k_ => S.N k_ (.slice Ao31 t405.length co31) ∧ S.N k_ (.slice Ao34 t409.length co34) ∧ S.N k_ (.slice Ao42 t454.length co42) ∧ S.N k_ (.slice Ao50 t427.length co50) ∧ S.N k_ (.slice Ao55 t431.length co55)) (Kd.R_keptB (HO_427002.out) hkp (fun k_ hk_ hs_ => Or.elim hs_ (fun e_ => (hk_.2.2.2.1) e_) (fun e_ => (hk_.2.2.2.2) e_))) (fun k_ hk_ => ⟨hk_.1.1, hk_.1.2.1, hk_.1.2.2.1, hk_.1.2.2.2.1, hk_.1.2.2.2.2⟩)); replace BK391 := Aside0.mk (blk_kept (S.uB BK391.out) hkp (fun hs_ => Or.elim hs_ (fun e_ => (fun e_ => (Kd.R_ne HO_437000.out BK391.out (by decide)) e_) e_) (fun e_ => (fun e_ => (Kd.R_ne HO_437002.out BK391.out (by decide)) e_) e_))); replace BK414 := Aside0.mk (blk_kept (S.uB BK414.out) hkp (fun hs_ => Or.elim hs_ (fun e_ => (fun e_ => (Kd.R_ne HO_437000.out BK414.out (by decide)) e_) e_) (fun e_ => (fun e_ => (Kd.R_ne HO_437002.out BK414.out (by decide)) e_) e_))); replace BK426 := Aside0.mk (blk_kept (S.uB BK426.out) hkp (fun hs_ => Or.elim hs_ (fun e_ => (fun e_ => (Kd.R_ne HO_437000.out BK426.out (by decide)) e_) e_) (fun e_ => (fun e_ => (Kd.R_ne HO_437002.out BK426.out (by decide)) e_) e_))); replace BK436 := Aside0.mk (blk_kept (S.uB BK436.out) hkp (fun hs_ => Or.elim hs_ (fun e_ => (fun e_ => (Kd.R_ne HO_437000.out BK436.out (by decide)) e_) e_) (fun e_ => (fun e_ => (Kd.R_ne HO_437002.out BK436.out (by decide)) e_) e_))); replace HO_437000 := Aside0.mk (Kd.R_reok rfl hy0 (fun k_ e_ => HO_437000.out.1 k_ e_)); replace HO_437002 := Aside0.mk (Kd.R_reok rfl hy1 (fun k_ e_ => HO_437002.out.1 k_ e_)); replace HB := Aside0.mk (hb); (try clear hb); (try clear hkp); (try clear hy0); (try clear hy1); obtain ⟨Z126a, Z126b, Z126c, Z126d, Y126a, Y126b, Y126c, Y126d⟩ := S.c4 BK436.out) | ((with_reducible refine gate_callee (f := 44) rfl ?_); refine goesL_ (some 92) rfl rfl Try.func44 (by kernel_rfl) rfl #[.agg #[.slice Ao50 t458.length co50, .int .i64 t430, .slice Ao55 t459.length co55, .int .i64 t434], .int .i64 1] rfl (by (try simp only [List.map_toArray, List.map_cons, List.map_nil]); first | done | (rw [show t458.length = t427.length from (Kd.R_reads' HO_437000.out).1.symm, show t459.length = t431.length from (Kd.R_reads' HO_437002.out).1.symm] <;> rfl) | rfl | (simp only [List.length_drop, List.length_take]; rfl)) ?_; (with_reducible refine (laws_heldControl.calls kj82 _ _ t458 t430 _ _ t459 t434 1 t460 _ ?s1 ?s2 ?s3 ?s4 A119.out).mono ?_); (case s1 => exact S.rd HO_437000); (case s2 => rw [show t458.length = t427.length from (Kd.R_reads' HO_437000.out).1.symm]; exact S.rl HO_437000); (case s3 => exact S.rd HO_437002); (case s4 => rw [show t459.length = t431.length from (Kd.R_reads' HO_437002.out).1.symm]; exact S.rl HO_437002); rintro e w127 ⟨rfl, hb⟩; refine ⟨_, rfl, ?_⟩; replace HO_415000 := S.rb HO_415000 hb; replace HO_415002 := S.rb HO_415002 hb; replace HO_427000 := S.rb HO_427000 hb; replace HO_427002 := S.rb HO_427002 hb; replace HO_437000 := S.rb HO_437000 hb; replace HO_437002 := S.rb HO_437002 hb; replace BK391 := S.kb BK391 hb; replace BK414 := S.kb BK414 hb; replace BK426 := S.kb BK426 hb; replace BK436 := S.kb BK436 hb; replace HB := S.sG hb; (try clear hb)))
            go_ret
            exact ⟨S.eW, S.bG⟩
           ·by_cases c128 : t460 = t457
            ·rw [if_pos c128] at H
             have c128b0 : (t460 == t457) = true := beq_iff_eq.mpr c128
             have c128b1 : (t460 != t457) = false := bne_eq_false_iff_eq.mpr c128
             clear c128
             replace H := S.bd H; obtain ⟨t461, A129, H⟩ := H
             (try dsimp only at H)
             replace H := S.bd H; obtain ⟨⟨t464, t467, t468, t471⟩, A130, H⟩ := H
             (try dsimp only at H)
             replace H := S.bd H; obtain ⟨⟨t472, t475, t476, t479, t480⟩, A131, H⟩ := H
             (try dsimp only at H)
             have HC132 := Aside0.mk H
             clear H
             have hnb133 := NB436_391.out
             have hnc133 := NB391_436.out
             have hnb134 := NB436_414.out
             have hnc134 := NB414_436.out
             have hnb135 := NB436_426.out
             have hnc135 := NB426_436.out
             obtain ⟨Z136a, Z136b, Z136c, Z136d, Y136a, Y136b, Y136c, Y136d⟩ := S.c4 BK436.out
             try go_wp2_with (first | ((with_reducible refine gate_callee (f := 43) rfl ?_); refine S.gL (some 89) Try.func43 #[.agg #[.slice Ao50 t427.length co50, .int .i64 t430, .slice Ao55 t431.length co55, .int .i64 t434], .int .i64 1] ?_; (with_reducible refine (laws_markControl.calls kj82 (fun k_ => some k_ = (.slice Ao50 t427.length co50 : Value).ownBlock) (.slice Ao50 t427.length co50) t427 t430 (fun k_ => some k_ = (.slice Ao55 t431.length co55 : Value).ownBlock) (.slice Ao55 t431.length co55) t431 t434 1 t457 t458 t459 w _ ?s1 ?s2 ?s3 ?s4 ?s5 A118.out).mono ?_); (case s1 => exact S.bG); (case s2 => exact Kd.R_tight rfl HO_437000.out); (case s3 => exact fun k_ e_ => (HO_437000.out.1 k_ e_.symm).2.2.2.2); (case s4 => exact Kd.R_tight rfl HO_437002.out); (case s5 => exact fun k_ e_ => (HO_437002.out.1 k_ e_.symm).2.2.2.2); rintro e w137 ⟨rfl, hy0, hy1, hb, hkp⟩; refine ⟨_, rfl, ?_⟩; replace HO_415000 := Aside0.mk (Kd.R_mono (ok' := fun k_ => S.N k_ (.slice Ao34 t409.length co34) ∧ S.N k_ (.slice Ao42 t454.length co42) ∧ S.N k_ (.slice Ao46 t455.length co46) ∧ S.N k_ (.slice Ao50 t427.length co50) ∧ S.N k_ (.slice Ao55 t431.length co55)) (Kd.R_keptB (HO_415000.out) hkp (fun k_ hk_ hs_ => Or.elim hs_ (fun e_ => (hk_.2.2.2.1) e_) (fun e_ => (hk_.2.2.2.2) e_))) (fun k_ hk_ => ⟨hk_.1.1, hk_.1.2.1, hk_.1.2.2.1, hk_.1.2.2.2.1, hk_.1.2.2.2.2⟩)); replace HO_415002 := Aside0.mk (Kd.R_mono (ok' := fun k_ => S.N k_ (.slice Ao31 t405.length co31) ∧ S.N k_ (.slice Ao42 t454.length co42) ∧ S.N k_ (.slice Ao46 t455.length co46) ∧ S.N k_ (.slice Ao50 t427.length co50) ∧ S.N k_ (.slice Ao55 t431.length co55)) (Kd.R_keptB (HO_415002.out) hkp (fun k_ hk_ hs_ => Or.elim hs_ (fun e_ => (hk_.2.2.2.1) e_) (fun e_ => (hk_.2.2.2.2) e_))) (fun k_ hk_ => ⟨hk_.1.1, hk_.1.2.1, hk_.1.2.2.1, hk_.1.2.2.2.1, hk_.1.2.2.2.2⟩)); replace HO_427000 := Aside0.mk (Kd.R_mono (ok' := fun k_ => S.N k_ (.slice Ao31 t405.length co31) ∧ S.N k_ (.slice Ao34 t409.length co34) ∧ S.N k_ (.slice Ao46 t455.length co46) ∧ S.N k_ (.slice Ao50 t427.length co50) ∧ S.N k_ (.slice Ao55 t431.length co55)) (Kd.R_keptB (HO_427000.out) hkp (fun k_ hk_ hs_ => Or.elim hs_ (fun e_ => (hk_.2.2.2.1) e_) (fun e_ => (hk_.2.2.2.2) e_))) (fun k_ hk_ => ⟨hk_.1.1, hk_.1.2.1, hk_.1.2.2.1, hk_.1.2.2.2.1, hk_.1.2.2.2.2⟩)); replace HO_427002 := Aside0.mk (Kd.R_mono (ok' := fun k_ => S.N k_ (.slice Ao31 t405.length co31) ∧ S.N k_ (.slice Ao34 t409.length co34) ∧ S.N k_ (.slice Ao42 t454.length co42) ∧ S.N k_ (.slice Ao50 t427.length co50) ∧ S.N k_ (.slice Ao55 t431.length co55)) (Kd.R_keptB (HO_427002.out) hkp (fun k_ hk_ hs_ => Or.elim hs_ (fun e_ => (hk_.2.2.2.1) e_) (fun e_ => (hk_.2.2.2.2) e_))) (fun k_ hk_ => ⟨hk_.1.1, hk_.1.2.1, hk_.1.2.2.1, hk_.1.2.2.2.1, hk_.1.2.2.2.2⟩)); replace BK391 := Aside0.mk (blk_kept (S.uB BK391.out) hkp (fun hs_ => Or.elim hs_ (fun e_ => (fun e_ => (Kd.R_ne HO_437000.out BK391.out (by decide)) e_) e_) (fun e_ => (fun e_ => (Kd.R_ne HO_437002.out BK391.out (by decide)) e_) e_))); replace BK414 := Aside0.mk (blk_kept (S.uB BK414.out) hkp (fun hs_ => Or.elim hs_ (fun e_ => (fun e_ => (Kd.R_ne HO_437000.out BK414.out (by decide)) e_) e_) (fun e_ => (fun e_ => (Kd.R_ne HO_437002.out BK414.out (by decide)) e_) e_))); replace BK426 := Aside0.mk (blk_kept (S.uB BK426.out) hkp (fun hs_ => Or.elim hs_ (fun e_ => (fun e_ => (Kd.R_ne HO_437000.out BK426.out (by decide)) e_) e_) (fun e_ => (fun e_ => (Kd.R_ne HO_437002.out BK426.out (by decide)) e_) e_))); replace BK436 := Aside0.mk (blk_kept (S.uB BK436.out) hkp (fun hs_ => Or.elim hs_ (fun e_ => (fun e_ => (Kd.R_ne HO_437000.out BK436.out (by decide)) e_) e_) (fun e_ => (fun e_ => (Kd.R_ne HO_437002.out BK436.out (by decide)) e_) e_))); replace HO_437000 := Aside0.mk (Kd.R_reok rfl hy0 (fun k_ e_ => HO_437000.out.1 k_ e_)); replace HO_437002 := Aside0.mk (Kd.R_reok rfl hy1 (fun k_ e_ => HO_437002.out.1 k_ e_)); replace HB := Aside0.mk (hb); (try clear hb); (try clear hkp); (try clear hy0); (try clear hy1); obtain ⟨Z138a, Z138b, Z138c, Z138d, Y138a, Y138b, Y138c, Y138d⟩ := S.c4 BK436.out) | ((with_reducible refine gate_callee (f := 44) rfl ?_); refine goesL_ (some 92) rfl rfl Try.func44 (by kernel_rfl) rfl #[.agg #[.slice Ao50 t458.length co50, .int .i64 t430, .slice Ao55 t459.length co55, .int .i64 t434], .int .i64 1] rfl (by (try simp only [List.map_toArray, List.map_cons, List.map_nil]); first | done | (rw [show t458.length = t427.length from (Kd.R_reads' HO_437000.out).1.symm, show t459.length = t431.length from (Kd.R_reads' HO_437002.out).1.symm] <;> rfl) | rfl | (simp only [List.length_drop, List.length_take]; rfl)) ?_; (with_reducible refine (laws_heldControl.calls kj82 _ _ t458 t430 _ _ t459 t434 1 t460 _ ?s1 ?s2 ?s3 ?s4 A119.out).mono ?_); (case s1 => exact S.rd HO_437000); (case s2 => rw [show t458.length = t427.length from (Kd.R_reads' HO_437000.out).1.symm]; exact S.rl HO_437000); (case s3 => exact S.rd HO_437002); (case s4 => rw [show t459.length = t431.length from (Kd.R_reads' HO_437002.out).1.symm]; exact S.rl HO_437002); rintro e w139 ⟨rfl, hb⟩; refine ⟨_, rfl, ?_⟩; replace HO_415000 := S.rb HO_415000 hb; replace HO_415002 := S.rb HO_415002 hb; replace HO_427000 := S.rb HO_427000 hb; replace HO_427002 := S.rb HO_427002 hb; replace HO_437000 := S.rb HO_437000 hb; replace HO_437002 := S.rb HO_437002 hb; replace BK391 := S.kb BK391 hb; replace BK414 := S.kb BK414 hb; replace BK426 := S.kb BK426 hb; replace BK436 := S.kb BK436 hb; replace HB := S.sG hb; (try clear hb)))
             replace HO_415000 := S.dr HO_415000
             replace HO_415002 := S.dr HO_415002
             replace HO_427000 := S.dr HO_427000
             replace HO_427002 := S.dr HO_427002
             replace HO_437000 := S.dr HO_437000
             replace HO_437002 := S.dr HO_437002
             replace BK391 := Aside0.mk (blk_drew BK391.out)
             replace BK414 := Aside0.mk (blk_drew BK414.out)
             replace BK426 := Aside0.mk (blk_drew BK426.out)
             replace BK436 := Aside0.mk (blk_drew BK436.out)
             replace HB := Aside0.mk (below_drew1 HB.out)
             refine S.st (n := 12) (ds := []) #[false, false, false, false, false, false, false, false, false, false, false, false] (fun w_ h_ => have x_ := S.e4 (S.Q h_ BK391.out); x_) (fun hHeld => ?_); refine with_tabW laws_FnExactCutFor.tab31 laws_FnExactCutFor.bits31 (fun HT_ HW_ => ?_)
             generalize w139.drew = w140 at HO_415000 HO_415002 HO_427000 HO_427002 HO_437000 HO_437002 BK391 BK414 BK426 BK436 HB hHeld ⊢
             refine S.pS 0 99 ?_
             refine S.pS 4 103 ?_
             refine S.tK 2 101 #[true, false, true, false, true, false, false, false, false, false, false, false] ?_
             refine join_ (σ := Value × Value × Value × Value × Value × Nat) 2 #[true, true, true, true, true, true, true, true, true, true, false, false] (fun s_ => [(100, s_.1), (102, .agg #[s_.2.1, .int .i64 t467, s_.2.2.1, .int .i64 t471]), (104, .tuple #[.agg #[s_.2.2.2.1, .int .i64 t475, s_.2.2.2.2.1, .int .i64 t479], .bool t480]), (17, .pointer (some ⟨s_.2.2.2.2.2, 0, none⟩)), (98, .tuple #[.agg #[s_.2.2.2.1, .int .i64 t475, s_.2.2.2.2.1, .int .i64 t479], .bool t480]), (105, .agg #[s_.2.2.2.1, .int .i64 t475, s_.2.2.2.2.1, .int .i64 t479]), (106, .bool t480)]) (fun s_ w' => (w'.cell? ⟨gb391, 0, none⟩ = some (.slice A1_0 l1_0.length c1_0) ∧ w'.cell? ⟨gb391, 1, none⟩ = some (.int .i64 a1_1) ∧ w'.cell? ⟨gb391, 2, none⟩ = some (.slice A1_2 l1_2.length c1_2) ∧ w'.cell? ⟨gb391, 3, none⟩ = some (.int .i64 a1_3)) ∧ (Kd.R k52 52 w' w.heap.size (fun _ => True) s_.1 t461) ∧ (Kd.R (Kd.int .i64) 3 w' w.heap.size (fun k_ => some k_ ≠ (s_.2.2.1 : Value).ownBlock ∧ some k_ ≠ (s_.2.2.2.1 : Value).ownBlock ∧ some k_ ≠ (s_.2.2.2.2.1 : Value).ownBlock ∧ S.N k_ (.slice Ao31 t405.length co31) ∧ S.N k_ (.slice Ao34 t409.length co34) ∧ S.N k_ (.slice Ao42 t454.length co42) ∧ S.N k_ (.slice Ao46 t455.length co46) ∧ S.N k_ (.slice Ao50 t427.length co50) ∧ S.N k_ (.slice Ao55 t431.length co55)) s_.2.1 t464) ∧ (Kd.R (Kd.int .i64) 3 w' w.heap.size (fun k_ => some k_ ≠ (s_.2.1 : Value).ownBlock ∧ some k_ ≠ (s_.2.2.2.1 : Value).ownBlock ∧ some k_ ≠ (s_.2.2.2.2.1 : Value).ownBlock ∧ S.N k_ (.slice Ao31 t405.length co31) ∧ S.N k_ (.slice Ao34 t409.length co34) ∧ S.N k_ (.slice Ao42 t454.length co42) ∧ S.N k_ (.slice Ao46 t455.length co46) ∧ S.N k_ (.slice Ao50 t427.length co50) ∧ S.N k_ (.slice Ao55 t431.length co55)) s_.2.2.1 t468) ∧ (Kd.R (Kd.int .i64) 3 w' w.heap.size (fun k_ => some k_ ≠ (s_.2.1 : Value).ownBlock ∧ some k_ ≠ (s_.2.2.1 : Value).ownBlock ∧ some k_ ≠ (s_.2.2.2.2.1 : Value).ownBlock ∧ S.N k_ (.slice Ao31 t405.length co31) ∧ S.N k_ (.slice Ao34 t409.length co34) ∧ S.N k_ (.slice Ao42 t454.length co42) ∧ S.N k_ (.slice Ao46 t455.length co46) ∧ S.N k_ (.slice Ao50 t427.length co50) ∧ S.N k_ (.slice Ao55 t431.length co55)) s_.2.2.2.1 t472) ∧ (Kd.R (Kd.int .i64) 3 w' w.heap.size (fun k_ => some k_ ≠ (s_.2.1 : Value).ownBlock ∧ some k_ ≠ (s_.2.2.1 : Value).ownBlock ∧ some k_ ≠ (s_.2.2.2.1 : Value).ownBlock ∧ S.N k_ (.slice Ao31 t405.length co31) ∧ S.N k_ (.slice Ao34 t409.length co34) ∧ S.N k_ (.slice Ao42 t454.length co42) ∧ S.N k_ (.slice Ao46 t455.length co46) ∧ S.N k_ (.slice Ao50 t427.length co50) ∧ S.N k_ (.slice Ao55 t431.length co55)) s_.2.2.2.2.1 t476) ∧ (Kd.R (Kd.int .i64) 3 w' w.heap.size (fun k_ => some k_ ≠ (s_.2.1 : Value).ownBlock ∧ some k_ ≠ (s_.2.2.1 : Value).ownBlock ∧ some k_ ≠ (s_.2.2.2.1 : Value).ownBlock ∧ some k_ ≠ (s_.2.2.2.2.1 : Value).ownBlock ∧ S.N k_ (.slice Ao34 t409.length co34) ∧ S.N k_ (.slice Ao42 t454.length co42) ∧ S.N k_ (.slice Ao46 t455.length co46) ∧ S.N k_ (.slice Ao50 t427.length co50) ∧ S.N k_ (.slice Ao55 t431.length co55)) (.slice Ao31 t405.length co31) t405) ∧ (Kd.R (Kd.int .i64) 3 w' w.heap.size (fun k_ => some k_ ≠ (s_.2.1 : Value).ownBlock ∧ some k_ ≠ (s_.2.2.1 : Value).ownBlock ∧ some k_ ≠ (s_.2.2.2.1 : Value).ownBlock ∧ some k_ ≠ (s_.2.2.2.2.1 : Value).ownBlock ∧ S.N k_ (.slice Ao31 t405.length co31) ∧ S.N k_ (.slice Ao42 t454.length co42) ∧ S.N k_ (.slice Ao46 t455.length co46) ∧ S.N k_ (.slice Ao50 t427.length co50) ∧ S.N k_ (.slice Ao55 t431.length co55)) (.slice Ao34 t409.length co34) t409) ∧ (Kd.R (Kd.int .i64) 3 w' w.heap.size (fun k_ => some k_ ≠ (s_.2.1 : Value).ownBlock ∧ some k_ ≠ (s_.2.2.1 : Value).ownBlock ∧ some k_ ≠ (s_.2.2.2.1 : Value).ownBlock ∧ some k_ ≠ (s_.2.2.2.2.1 : Value).ownBlock ∧ S.N k_ (.slice Ao31 t405.length co31) ∧ S.N k_ (.slice Ao34 t409.length co34) ∧ S.N k_ (.slice Ao46 t455.length co46) ∧ S.N k_ (.slice Ao50 t427.length co50) ∧ S.N k_ (.slice Ao55 t431.length co55)) (.slice Ao42 t454.length co42) t454) ∧ (Kd.R (Kd.int .i64) 3 w' w.heap.size (fun k_ => some k_ ≠ (s_.2.1 : Value).ownBlock ∧ some k_ ≠ (s_.2.2.1 : Value).ownBlock ∧ some k_ ≠ (s_.2.2.2.1 : Value).ownBlock ∧ some k_ ≠ (s_.2.2.2.2.1 : Value).ownBlock ∧ S.N k_ (.slice Ao31 t405.length co31) ∧ S.N k_ (.slice Ao34 t409.length co34) ∧ S.N k_ (.slice Ao42 t454.length co42) ∧ S.N k_ (.slice Ao50 t427.length co50) ∧ S.N k_ (.slice Ao55 t431.length co55)) (.slice Ao46 t455.length co46) t455) ∧ (Kd.R (Kd.int .i64) 3 w' w.heap.size (fun k_ => some k_ ≠ (s_.2.1 : Value).ownBlock ∧ some k_ ≠ (s_.2.2.1 : Value).ownBlock ∧ some k_ ≠ (s_.2.2.2.1 : Value).ownBlock ∧ some k_ ≠ (s_.2.2.2.2.1 : Value).ownBlock ∧ S.N k_ (.slice Ao31 t405.length co31) ∧ S.N k_ (.slice Ao34 t409.length co34) ∧ S.N k_ (.slice Ao42 t454.length co42) ∧ S.N k_ (.slice Ao46 t455.length co46) ∧ S.N k_ (.slice Ao55 t431.length co55)) (.slice Ao50 t427.length co50) t458) ∧ (Kd.R (Kd.int .i64) 3 w' w.heap.size (fun k_ => some k_ ≠ (s_.2.1 : Value).ownBlock ∧ some k_ ≠ (s_.2.2.1 : Value).ownBlock ∧ some k_ ≠ (s_.2.2.2.1 : Value).ownBlock ∧ some k_ ≠ (s_.2.2.2.2.1 : Value).ownBlock ∧ S.N k_ (.slice Ao31 t405.length co31) ∧ S.N k_ (.slice Ao34 t409.length co34) ∧ S.N k_ (.slice Ao42 t454.length co42) ∧ S.N k_ (.slice Ao46 t455.length co46) ∧ S.N k_ (.slice Ao50 t427.length co50)) (.slice Ao55 t431.length co55) t459) ∧ (w'.heap[gb391]? = some (.cells #[.slice A1_0 l1_0.length c1_0, .int .i64 a1_1, .slice A1_2 l1_2.length c1_2, .int .i64 a1_3] 57 (0, 0))) ∧ (w'.heap[gb414]? = some (.cells #[.slice Ao31 t405.length co31, .int .i64 t408, .slice Ao34 t409.length co34, .int .i64 t412] 60 (0, 0))) ∧ (w'.heap[gb426]? = some (.cells #[.slice Ao42 t454.length co42, .int .i64 t421, .slice Ao46 t455.length co46, .int .i64 t425] 60 (0, 0))) ∧ (w'.heap[gb436]? = some (.cells #[.slice Ao50 t427.length co50, .int .i64 t430, .slice Ao55 t431.length co55, .int .i64 t434] 60 (0, 0))) ∧ (w'.heap[s_.2.2.2.2.2]? = some (.cells #[.slice none 0 0, .int .i64 0, .slice none 0 0, .int .i64 0] 60 (0, 0))) ∧ (w.heap.size ≤ s_.2.2.2.2.2) ∧ (w.heap.size ≤ s_.2.2.2.2.2) ∧ (gb391 ≠ s_.2.2.2.2.2) ∧ (s_.2.2.2.2.2 ≠ gb391) ∧ (gb414 ≠ s_.2.2.2.2.2) ∧ (s_.2.2.2.2.2 ≠ gb414) ∧ (gb426 ≠ s_.2.2.2.2.2) ∧ (s_.2.2.2.2.2 ≠ gb426) ∧ (gb436 ≠ s_.2.2.2.2.2) ∧ (s_.2.2.2.2.2 ≠ gb436) ∧ (Below w.heap.size w w')) ?_ ?_
             rotate_left
             ·intro hCont
              refine two_ (i := 1) (j := 9) (Ni := some 100) (Nj := some 17) #[true, true, true, false, true, false, false, false, false, false, false, false] #[true, false, true, false, true, false, false, false, false, true, false, false] rfl rfl rfl rfl (two_of HT_.out (by kernel_rfl)) (by decide) (by decide) (fun K hK => ?_) (fun K hK => ?_)
              ·skip
               refine S.go Try.func14 #[.slice A0 l0.length c0] ?_
               with_reducible refine (laws_toPathS.calls kj82 _ _ l0 t461 _ ?s1 ?s2 A129.out).mono ?_
               (case s1 => exact S.cA HR0.out)
               (case s2 => exact HC0.out)
               rintro e w141 ⟨v462, rfl, ho0, hb⟩
               refine ⟨_, rfl, ?_⟩
               replace HO_415000 := S.rb HO_415000 hb
               replace HO_415002 := S.rb HO_415002 hb
               replace HO_427000 := S.rb HO_427000 hb
               replace HO_427002 := S.rb HO_427002 hb
               replace HO_437000 := S.rb HO_437000 hb
               replace HO_437002 := S.rb HO_437002 hb
               have HO463 := S.lwG ho0
               replace BK391 := S.kb BK391 hb
               replace BK414 := S.kb BK414 hb
               replace BK426 := S.kb BK426 hb
               replace BK436 := S.kb BK436 hb
               replace HB := S.sG hb
               (try clear hb)
               (try clear hb2)
               (try clear hk)
               (try clear hi)
               (try clear ho0)
               refine hK.out _ _ (S.e4 BK391.out) (fun hHeld => ?_)
               clear hK K
               refine S.nm 100 ?_
               refine two_ (i := 3) (j := 9) (Ni := some 102) (Nj := some 17) #[true, true, true, true, true, false, false, false, false, false, false, false] #[true, true, true, false, true, false, false, false, false, true, false, false] rfl rfl rfl rfl (two_of HT_.out (by kernel_rfl)) (by decide) (by decide) (fun K hK => ?_) (fun K hK => ?_)
               ·skip
                refine S.go Try.func35 #[.agg #[.slice A1_0 l1_0.length c1_0, .int .i64 a1_1, .slice A1_2 l1_2.length c1_2, .int .i64 a1_3]] ?_
                with_reducible refine (laws_toControl.calls kj82 _ _ l1_0 a1_1 _ _ l1_2 a1_3 t464 t467 t468 t471 _ ?s1 ?s2 ?s3 ?s4 A130.out).mono ?_
                (case s1 => exact S.cA HR1_0.out)
                (case s2 => exact HC1_0.out)
                (case s3 => exact S.cA HR1_2.out)
                (case s4 => exact HC1_2.out)
                rintro e w142 ⟨v465, v469, rfl, ho0, ho1, hb⟩
                refine ⟨_, rfl, ?_⟩
                replace HO463 := S.rb HO463 hb
                have HO466 := Aside0.mk (Kd.R_lower (Kd.R_new' (Kd.R_new' (Kd.R_new' (Kd.R_new' (Kd.R_new' (Kd.R_new' ho0 (Kd.R_lt (S.uR HO_415000.out))) (Kd.R_lt (S.uR HO_415002.out))) (Kd.R_lt (S.uR HO_427000.out))) (Kd.R_lt (S.uR HO_427002.out))) (Kd.R_lt (S.uR HO_437000.out))) (Kd.R_lt (S.uR HO_437002.out))) (below_size S.bG))
                have HO470 := Aside0.mk (Kd.R_lower (Kd.R_new' (Kd.R_new' (Kd.R_new' (Kd.R_new' (Kd.R_new' (Kd.R_new' ho1 (Kd.R_lt (S.uR HO_415000.out))) (Kd.R_lt (S.uR HO_415002.out))) (Kd.R_lt (S.uR HO_427000.out))) (Kd.R_lt (S.uR HO_427002.out))) (Kd.R_lt (S.uR HO_437000.out))) (Kd.R_lt (S.uR HO_437002.out))) (below_size S.bG))
                replace HO_415000 := Aside0.mk (Kd.R_mono (Kd.R_told (Kd.R_told (Kd.R_old (S.uR HO_415000.out) hb) (Kd.R_base ho0)) (Kd.R_base ho1)) (fun _ h_ => h_.1))
                replace HO_415002 := Aside0.mk (Kd.R_mono (Kd.R_told (Kd.R_told (Kd.R_old (S.uR HO_415002.out) hb) (Kd.R_base ho0)) (Kd.R_base ho1)) (fun _ h_ => h_.1))
                replace HO_427000 := Aside0.mk (Kd.R_mono (Kd.R_told (Kd.R_told (Kd.R_old (S.uR HO_427000.out) hb) (Kd.R_base ho0)) (Kd.R_base ho1)) (fun _ h_ => h_.1))
                replace HO_427002 := Aside0.mk (Kd.R_mono (Kd.R_told (Kd.R_told (Kd.R_old (S.uR HO_427002.out) hb) (Kd.R_base ho0)) (Kd.R_base ho1)) (fun _ h_ => h_.1))
                replace HO_437000 := Aside0.mk (Kd.R_mono (Kd.R_told (Kd.R_told (Kd.R_old (S.uR HO_437000.out) hb) (Kd.R_base ho0)) (Kd.R_base ho1)) (fun _ h_ => h_.1))
                replace HO_437002 := Aside0.mk (Kd.R_mono (Kd.R_told (Kd.R_told (Kd.R_old (S.uR HO_437002.out) hb) (Kd.R_base ho0)) (Kd.R_base ho1)) (fun _ h_ => h_.1))
                replace BK391 := S.kb BK391 hb
                replace BK414 := S.kb BK414 hb
                replace BK426 := S.kb BK426 hb
                replace BK436 := S.kb BK436 hb
                replace HB := S.sG hb
                (try clear hb)
                (try clear hb2)
                (try clear hk)
                (try clear hi)
                (try clear ho0)
                (try clear ho1)
                obtain ⟨Ao143, co143, eo143⟩ := Kd.R_slice HO463.out
                (first | subst eo143 | (injection eo143 with f1_ f2_ f3_; have f4_ := f1_.symm; have f5_ := f3_.symm; clear f1_ f2_ f3_; subst f4_; subst f5_))
                obtain ⟨Ao144, co144, eo144⟩ := Kd.R_slice HO466.out
                (first | subst eo144 | (injection eo144 with f1_ f2_ f3_; have f4_ := f1_.symm; have f5_ := f3_.symm; clear f1_ f2_ f3_; subst f4_; subst f5_))
                obtain ⟨Ao145, co145, eo145⟩ := Kd.R_slice HO470.out
                (first | subst eo145 | (injection eo145 with f1_ f2_ f3_; have f4_ := f1_.symm; have f5_ := f3_.symm; clear f1_ f2_ f3_; subst f4_; subst f5_))
                refine hK.out _ _ (S.e4 BK391.out) (fun hHeld => ?_)
                clear hK K
                refine S.nm 102 ?_
                refine two_ (i := 5) (j := 9) (Ni := some 104) (Nj := some 17) #[true, true, true, true, true, true, false, false, false, false, false, false] #[true, true, true, true, true, false, false, false, false, true, false, false] rfl rfl rfl rfl (two_of HT_.out (by kernel_rfl)) (by decide) (by decide) (fun K hK => ?_) (fun K hK => ?_)
                ·skip
                 refine S.go Try.func42 #[.slice Ao143 t461.length co143, .agg #[.slice Ao144 t464.length co144, .int .i64 t467, .slice Ao145 t468.length co145, .int .i64 t471], .int .i64 a2] ?_
                 with_reducible refine (impl_CutFor.calls kj82 _ _ t461 _ _ t464 t467 _ _ t468 t471 a2 t472 t475 t476 t479 t480 _ ?s1 ?s2 ?s3 ?s4 ?s5 ?s6 A131.out).mono ?_
                 (case s1 => exact S.rd HO463)
                 (case s2 => exact S.rl HO463)
                 (case s3 => exact S.rd HO466)
                 (case s4 => exact S.rl HO466)
                 (case s5 => exact S.rd HO470)
                 (case s6 => exact S.rl HO470)
                 rintro e w146 ⟨v473, v477, rfl, ho0, ho1, hb⟩
                 refine ⟨_, rfl, ?_⟩
                 replace HO463 := S.rb HO463 hb
                 have HO474 := Aside0.mk (Kd.R_lower (Kd.R_new' (Kd.R_new' (Kd.R_new' (Kd.R_new' (Kd.R_new' (Kd.R_new' (Kd.R_new' (Kd.R_new' ho0 (Kd.R_lt (S.uR HO_415000.out))) (Kd.R_lt (S.uR HO_415002.out))) (Kd.R_lt (S.uR HO_427000.out))) (Kd.R_lt (S.uR HO_427002.out))) (Kd.R_lt (S.uR HO_437000.out))) (Kd.R_lt (S.uR HO_437002.out))) (Kd.R_lt (S.uR HO466.out))) (Kd.R_lt (S.uR HO470.out))) (below_size S.bG))
                 have HO478 := Aside0.mk (Kd.R_lower (Kd.R_new' (Kd.R_new' (Kd.R_new' (Kd.R_new' (Kd.R_new' (Kd.R_new' (Kd.R_new' (Kd.R_new' ho1 (Kd.R_lt (S.uR HO_415000.out))) (Kd.R_lt (S.uR HO_415002.out))) (Kd.R_lt (S.uR HO_427000.out))) (Kd.R_lt (S.uR HO_427002.out))) (Kd.R_lt (S.uR HO_437000.out))) (Kd.R_lt (S.uR HO_437002.out))) (Kd.R_lt (S.uR HO466.out))) (Kd.R_lt (S.uR HO470.out))) (below_size S.bG))
                 replace HO_415000 := Aside0.mk (Kd.R_mono (Kd.R_told (Kd.R_told (Kd.R_old (S.uR HO_415000.out) hb) (Kd.R_base ho0)) (Kd.R_base ho1)) (fun _ h_ => h_.1))
                 replace HO_415002 := Aside0.mk (Kd.R_mono (Kd.R_told (Kd.R_told (Kd.R_old (S.uR HO_415002.out) hb) (Kd.R_base ho0)) (Kd.R_base ho1)) (fun _ h_ => h_.1))
                 replace HO_427000 := Aside0.mk (Kd.R_mono (Kd.R_told (Kd.R_told (Kd.R_old (S.uR HO_427000.out) hb) (Kd.R_base ho0)) (Kd.R_base ho1)) (fun _ h_ => h_.1))
                 replace HO_427002 := Aside0.mk (Kd.R_mono (Kd.R_told (Kd.R_told (Kd.R_old (S.uR HO_427002.out) hb) (Kd.R_base ho0)) (Kd.R_base ho1)) (fun _ h_ => h_.1))
                 replace HO_437000 := Aside0.mk (Kd.R_mono (Kd.R_told (Kd.R_told (Kd.R_old (S.uR HO_437000.out) hb) (Kd.R_base ho0)) (Kd.R_base ho1)) (fun _ h_ => h_.1))
                 replace HO_437002 := Aside0.mk (Kd.R_mono (Kd.R_told (Kd.R_told (Kd.R_old (S.uR HO_437002.out) hb) (Kd.R_base ho0)) (Kd.R_base ho1)) (fun _ h_ => h_.1))
                 replace HO466 := Aside0.mk (Kd.R_mono (Kd.R_told (Kd.R_told (Kd.R_old (S.uR HO466.out) hb) (Kd.R_base ho0)) (Kd.R_base ho1)) (fun _ h_ => h_.1))
                 replace HO470 := Aside0.mk (Kd.R_mono (Kd.R_told (Kd.R_told (Kd.R_old (S.uR HO470.out) hb) (Kd.R_base ho0)) (Kd.R_base ho1)) (fun _ h_ => h_.1))
                 replace BK391 := S.kb BK391 hb
                 replace BK414 := S.kb BK414 hb
                 replace BK426 := S.kb BK426 hb
                 replace BK436 := S.kb BK436 hb
                 replace HB := S.sG hb
                 (try clear hb)
                 (try clear hb2)
                 (try clear hk)
                 (try clear hi)
                 (try clear ho0)
                 (try clear ho1)
                 refine hK.out _ _ (S.e4 BK391.out) (fun hHeld => ?_)
                 clear hK K
                 refine S.nm 104 ?_
                 refine S.pS 6 98 ?_
                 refine S.pS 7 105 ?_
                 refine S.pS 8 106 ?_
                 refine S.oN 9 17 #[true, true, true, true, true, true, true, true, true, true, false, false] (fun K hK => ?_)
                 refine box_step ?hg (N := 17) ?hd (cs := #[.slice none 0 0, .int .i64 0, .slice none 0 0, .int .i64 0]) (t := 60) ?hr ?_; (case hd => rfl); (case hg => rfl); (case hr => first | (go_simp; done) | (go_simp; rfl))
                 intro gb481 hg w147 hbox hb
                 replace HO_415000 := S.rb HO_415000 hb
                 replace HO_415002 := S.rb HO_415002 hb
                 replace HO_427000 := S.rb HO_427000 hb
                 replace HO_427002 := S.rb HO_427002 hb
                 replace HO_437000 := S.rb HO_437000 hb
                 replace HO_437002 := S.rb HO_437002 hb
                 replace HO463 := S.rb HO463 hb
                 replace HO466 := S.rb HO466 hb
                 replace HO470 := S.rb HO470 hb
                 replace HO474 := S.rb HO474 hb
                 replace HO478 := S.rb HO478 hb
                 have BK481 := Aside0.mk hbox
                 have GW481 := S.geG hg
                 have GE481 := S.geG hg
                 replace HB := S.sG hb
                 have NB391_481 := S.nl hg BK391
                 have NB481_391 := S.ng hg BK391
                 replace BK391 := S.kb BK391 hb
                 have NB414_481 := S.nl hg BK414
                 have NB481_414 := S.ng hg BK414
                 replace BK414 := S.kb BK414 hb
                 have NB426_481 := S.nl hg BK426
                 have NB481_426 := S.ng hg BK426
                 replace BK426 := S.kb BK426 hb
                 have NB436_481 := S.nl hg BK436
                 have NB481_436 := S.ng hg BK436
                 replace BK436 := S.kb BK436 hb
                 clear hb hbox hg
                 refine hK.out _ _ (S.e4 BK391.out) (fun hHeld => ?_)
                 clear hK K
                 refine S.nm 17 ?_
                 exact norm_ (by simp only [putAll, Act.put, List.setIfInBounds_toArray, List.set_cons_zero, List.set_cons_succ]) (hCont (.slice Ao143 t461.length co143, .slice Ao144 t464.length co144, .slice Ao145 t468.length co145, v473, v477, gb481) _ ⟨hHeld, (S.uR HO463.out), (by (with_reducible repeat (first | apply Kd.R_alloc | apply Kd.R_drewN | apply Kd.R_drew)); exact Kd.R_mono HO466.out (fun _ hk => ⟨hk.1.1.1.1.1.1.1.1, ⟨hk.1.2, ⟨hk.2, ⟨hk.1.1.1.1.1.1.1.2, ⟨hk.1.1.1.1.1.1.2, ⟨hk.1.1.1.1.1.2, ⟨hk.1.1.1.1.2, ⟨hk.1.1.1.2, hk.1.1.2⟩⟩⟩⟩⟩⟩⟩⟩)), (by (with_reducible repeat (first | apply Kd.R_alloc | apply Kd.R_drewN | apply Kd.R_drew)); exact Kd.R_mono HO470.out (fun _ hk => ⟨hk.1.1.1.1.1.1.1.1, ⟨hk.1.2, ⟨hk.2, ⟨hk.1.1.1.1.1.1.1.2, ⟨hk.1.1.1.1.1.1.2, ⟨hk.1.1.1.1.1.2, ⟨hk.1.1.1.1.2, ⟨hk.1.1.1.2, hk.1.1.2⟩⟩⟩⟩⟩⟩⟩⟩)), (by (with_reducible repeat (first | apply Kd.R_alloc | apply Kd.R_drewN | apply Kd.R_drew)); exact Kd.R_mono HO474.out (fun _ hk => ⟨hk.1.2, ⟨hk.2, ⟨hk.1.1.1.1.1.1.1.1, ⟨hk.1.1.1.1.1.1.1.2, ⟨hk.1.1.1.1.1.1.2, ⟨hk.1.1.1.1.1.2, ⟨hk.1.1.1.1.2, ⟨hk.1.1.1.2, hk.1.1.2⟩⟩⟩⟩⟩⟩⟩⟩)), (by (with_reducible repeat (first | apply Kd.R_alloc | apply Kd.R_drewN | apply Kd.R_drew)); exact Kd.R_mono HO478.out (fun _ hk => ⟨hk.1.2, ⟨hk.2, ⟨hk.1.1.1.1.1.1.1.1, ⟨hk.1.1.1.1.1.1.1.2, ⟨hk.1.1.1.1.1.1.2, ⟨hk.1.1.1.1.1.2, ⟨hk.1.1.1.1.2, ⟨hk.1.1.1.2, hk.1.1.2⟩⟩⟩⟩⟩⟩⟩⟩)), (by (with_reducible repeat (first | apply Kd.R_alloc | apply Kd.R_drewN | apply Kd.R_drew)); exact Kd.R_mono HO_415000.out (fun _ hk => ⟨hk.1.1.1.2, ⟨hk.1.1.2, ⟨hk.1.2, ⟨hk.2, ⟨hk.1.1.1.1.1, ⟨hk.1.1.1.1.2.1, ⟨hk.1.1.1.1.2.2.1, ⟨hk.1.1.1.1.2.2.2.1, hk.1.1.1.1.2.2.2.2⟩⟩⟩⟩⟩⟩⟩⟩)), (by (with_reducible repeat (first | apply Kd.R_alloc | apply Kd.R_drewN | apply Kd.R_drew)); exact Kd.R_mono HO_415002.out (fun _ hk => ⟨hk.1.1.1.2, ⟨hk.1.1.2, ⟨hk.1.2, ⟨hk.2, ⟨hk.1.1.1.1.1, ⟨hk.1.1.1.1.2.1, ⟨hk.1.1.1.1.2.2.1, ⟨hk.1.1.1.1.2.2.2.1, hk.1.1.1.1.2.2.2.2⟩⟩⟩⟩⟩⟩⟩⟩)), (by (with_reducible repeat (first | apply Kd.R_alloc | apply Kd.R_drewN | apply Kd.R_drew)); exact Kd.R_mono HO_427000.out (fun _ hk => ⟨hk.1.1.1.2, ⟨hk.1.1.2, ⟨hk.1.2, ⟨hk.2, ⟨hk.1.1.1.1.1, ⟨hk.1.1.1.1.2.1, ⟨hk.1.1.1.1.2.2.1, ⟨hk.1.1.1.1.2.2.2.1, hk.1.1.1.1.2.2.2.2⟩⟩⟩⟩⟩⟩⟩⟩)), (by (with_reducible repeat (first | apply Kd.R_alloc | apply Kd.R_drewN | apply Kd.R_drew)); exact Kd.R_mono HO_427002.out (fun _ hk => ⟨hk.1.1.1.2, ⟨hk.1.1.2, ⟨hk.1.2, ⟨hk.2, ⟨hk.1.1.1.1.1, ⟨hk.1.1.1.1.2.1, ⟨hk.1.1.1.1.2.2.1, ⟨hk.1.1.1.1.2.2.2.1, hk.1.1.1.1.2.2.2.2⟩⟩⟩⟩⟩⟩⟩⟩)), (by (with_reducible repeat (first | apply Kd.R_alloc | apply Kd.R_drewN | apply Kd.R_drew)); exact Kd.R_mono HO_437000.out (fun _ hk => ⟨hk.1.1.1.2, ⟨hk.1.1.2, ⟨hk.1.2, ⟨hk.2, ⟨hk.1.1.1.1.1, ⟨hk.1.1.1.1.2.1, ⟨hk.1.1.1.1.2.2.1, ⟨hk.1.1.1.1.2.2.2.1, hk.1.1.1.1.2.2.2.2⟩⟩⟩⟩⟩⟩⟩⟩)), (by (with_reducible repeat (first | apply Kd.R_alloc | apply Kd.R_drewN | apply Kd.R_drew)); exact Kd.R_mono HO_437002.out (fun _ hk => ⟨hk.1.1.1.2, ⟨hk.1.1.2, ⟨hk.1.2, ⟨hk.2, ⟨hk.1.1.1.1.1, ⟨hk.1.1.1.1.2.1, ⟨hk.1.1.1.1.2.2.1, ⟨hk.1.1.1.1.2.2.2.1, hk.1.1.1.1.2.2.2.2⟩⟩⟩⟩⟩⟩⟩⟩)), (S.uB BK391.out), (S.uB BK414.out), (S.uB BK426.out), (S.uB BK436.out), (S.uB BK481.out), GW481.out, GE481.out, NB391_481.out, NB481_391.out, NB414_481.out, NB481_414.out, NB426_481.out, NB481_426.out, NB436_481.out, NB481_436.out, S.bG⟩)
                ·skip
                 refine box_step ?hg (N := 17) ?hd (cs := #[.slice none 0 0, .int .i64 0, .slice none 0 0, .int .i64 0]) (t := 60) ?hr ?_; (case hd => rfl); (case hg => rfl); (case hr => first | (go_simp; done) | (go_simp; rfl))
                 intro gb481 hg w143 hbox hb
                 replace HO_415000 := S.rb HO_415000 hb
                 replace HO_415002 := S.rb HO_415002 hb
                 replace HO_427000 := S.rb HO_427000 hb
                 replace HO_427002 := S.rb HO_427002 hb
                 replace HO_437000 := S.rb HO_437000 hb
                 replace HO_437002 := S.rb HO_437002 hb
                 replace HO463 := S.rb HO463 hb
                 replace HO466 := S.rb HO466 hb
                 replace HO470 := S.rb HO470 hb
                 have BK481 := Aside0.mk hbox
                 have GW481 := S.geG hg
                 have GE481 := S.geG hg
                 replace HB := S.sG hb
                 have NB391_481 := S.nl hg BK391
                 have NB481_391 := S.ng hg BK391
                 replace BK391 := S.kb BK391 hb
                 have NB414_481 := S.nl hg BK414
                 have NB481_414 := S.ng hg BK414
                 replace BK414 := S.kb BK414 hb
                 have NB426_481 := S.nl hg BK426
                 have NB481_426 := S.ng hg BK426
                 replace BK426 := S.kb BK426 hb
                 have NB436_481 := S.nl hg BK436
                 have NB481_436 := S.ng hg BK436
                 replace BK436 := S.kb BK436 hb
                 clear hb hbox hg
                 obtain ⟨Ao144, co144, eo144⟩ := Kd.R_slice HO463.out
                 (first | subst eo144 | (injection eo144 with f1_ f2_ f3_; have f4_ := f1_.symm; have f5_ := f3_.symm; clear f1_ f2_ f3_; subst f4_; subst f5_))
                 obtain ⟨Ao145, co145, eo145⟩ := Kd.R_slice HO466.out
                 (first | subst eo145 | (injection eo145 with f1_ f2_ f3_; have f4_ := f1_.symm; have f5_ := f3_.symm; clear f1_ f2_ f3_; subst f4_; subst f5_))
                 obtain ⟨Ao146, co146, eo146⟩ := Kd.R_slice HO470.out
                 (first | subst eo146 | (injection eo146 with f1_ f2_ f3_; have f4_ := f1_.symm; have f5_ := f3_.symm; clear f1_ f2_ f3_; subst f4_; subst f5_))
                 refine hK.out _ _ (S.e4 BK391.out) (fun hHeld => ?_)
                 clear hK K
                 refine S.nm 17 ?_
                 refine S.oN 5 104 #[true, true, true, true, true, true, false, false, false, true, false, false] (fun K hK => ?_)
                 refine S.go Try.func42 #[.slice Ao144 t461.length co144, .agg #[.slice Ao145 t464.length co145, .int .i64 t467, .slice Ao146 t468.length co146, .int .i64 t471], .int .i64 a2] ?_
                 with_reducible refine (impl_CutFor.calls kj82 _ _ t461 _ _ t464 t467 _ _ t468 t471 a2 t472 t475 t476 t479 t480 _ ?s1 ?s2 ?s3 ?s4 ?s5 ?s6 A131.out).mono ?_
                 (case s1 => exact S.rd HO463)
                 (case s2 => exact S.rl HO463)
                 (case s3 => exact S.rd HO466)
                 (case s4 => exact S.rl HO466)
                 (case s5 => exact S.rd HO470)
                 (case s6 => exact S.rl HO470)
                 rintro e w147 ⟨v473, v477, rfl, ho0, ho1, hb⟩
                 refine ⟨_, rfl, ?_⟩
                 replace HO463 := S.rb HO463 hb
                 have HO474 := Aside0.mk (Kd.R_lower (Kd.R_new' (Kd.R_new' (Kd.R_new' (Kd.R_new' (Kd.R_new' (Kd.R_new' (Kd.R_new' (Kd.R_new' ho0 (Kd.R_lt (S.uR HO_415000.out))) (Kd.R_lt (S.uR HO_415002.out))) (Kd.R_lt (S.uR HO_427000.out))) (Kd.R_lt (S.uR HO_427002.out))) (Kd.R_lt (S.uR HO_437000.out))) (Kd.R_lt (S.uR HO_437002.out))) (Kd.R_lt (S.uR HO466.out))) (Kd.R_lt (S.uR HO470.out))) (below_size S.bG))
                 have HO478 := Aside0.mk (Kd.R_lower (Kd.R_new' (Kd.R_new' (Kd.R_new' (Kd.R_new' (Kd.R_new' (Kd.R_new' (Kd.R_new' (Kd.R_new' ho1 (Kd.R_lt (S.uR HO_415000.out))) (Kd.R_lt (S.uR HO_415002.out))) (Kd.R_lt (S.uR HO_427000.out))) (Kd.R_lt (S.uR HO_427002.out))) (Kd.R_lt (S.uR HO_437000.out))) (Kd.R_lt (S.uR HO_437002.out))) (Kd.R_lt (S.uR HO466.out))) (Kd.R_lt (S.uR HO470.out))) (below_size S.bG))
                 replace HO_415000 := Aside0.mk (Kd.R_mono (Kd.R_told (Kd.R_told (Kd.R_old (S.uR HO_415000.out) hb) (Kd.R_base ho0)) (Kd.R_base ho1)) (fun _ h_ => h_.1))
                 replace HO_415002 := Aside0.mk (Kd.R_mono (Kd.R_told (Kd.R_told (Kd.R_old (S.uR HO_415002.out) hb) (Kd.R_base ho0)) (Kd.R_base ho1)) (fun _ h_ => h_.1))
                 replace HO_427000 := Aside0.mk (Kd.R_mono (Kd.R_told (Kd.R_told (Kd.R_old (S.uR HO_427000.out) hb) (Kd.R_base ho0)) (Kd.R_base ho1)) (fun _ h_ => h_.1))
                 replace HO_427002 := Aside0.mk (Kd.R_mono (Kd.R_told (Kd.R_told (Kd.R_old (S.uR HO_427002.out) hb) (Kd.R_base ho0)) (Kd.R_base ho1)) (fun _ h_ => h_.1))
                 replace HO_437000 := Aside0.mk (Kd.R_mono (Kd.R_told (Kd.R_told (Kd.R_old (S.uR HO_437000.out) hb) (Kd.R_base ho0)) (Kd.R_base ho1)) (fun _ h_ => h_.1))
                 replace HO_437002 := Aside0.mk (Kd.R_mono (Kd.R_told (Kd.R_told (Kd.R_old (S.uR HO_437002.out) hb) (Kd.R_base ho0)) (Kd.R_base ho1)) (fun _ h_ => h_.1))
                 replace HO466 := Aside0.mk (Kd.R_mono (Kd.R_told (Kd.R_told (Kd.R_old (S.uR HO466.out) hb) (Kd.R_base ho0)) (Kd.R_base ho1)) (fun _ h_ => h_.1))
                 replace HO470 := Aside0.mk (Kd.R_mono (Kd.R_told (Kd.R_told (Kd.R_old (S.uR HO470.out) hb) (Kd.R_base ho0)) (Kd.R_base ho1)) (fun _ h_ => h_.1))
                 replace BK391 := S.kb BK391 hb
                 replace BK414 := S.kb BK414 hb
                 replace BK426 := S.kb BK426 hb
                 replace BK436 := S.kb BK436 hb
                 replace BK481 := S.kb BK481 hb
                 replace HB := S.sG hb
                 (try clear hb)
                 (try clear hb2)
                 (try clear hk)
                 (try clear hi)
                 (try clear ho0)
                 (try clear ho1)
                 refine hK.out _ _ (S.e4 BK391.out) (fun hHeld => ?_)
                 clear hK K
                 refine S.nm 104 ?_
                 refine S.pS 6 98 ?_
                 refine S.pS 7 105 ?_
                 refine S.pS 8 106 ?_
                 exact norm_ (by simp only [putAll, Act.put, List.setIfInBounds_toArray, List.set_cons_zero, List.set_cons_succ]) (hCont (.slice Ao144 t461.length co144, .slice Ao145 t464.length co145, .slice Ao146 t468.length co146, v473, v477, gb481) _ ⟨hHeld, (S.uR HO463.out), (by (with_reducible repeat (first | apply Kd.R_alloc | apply Kd.R_drewN | apply Kd.R_drew)); exact Kd.R_mono HO466.out (fun _ hk => ⟨hk.1.1.1.1.1.1.1.1, ⟨hk.1.2, ⟨hk.2, ⟨hk.1.1.1.1.1.1.1.2, ⟨hk.1.1.1.1.1.1.2, ⟨hk.1.1.1.1.1.2, ⟨hk.1.1.1.1.2, ⟨hk.1.1.1.2, hk.1.1.2⟩⟩⟩⟩⟩⟩⟩⟩)), (by (with_reducible repeat (first | apply Kd.R_alloc | apply Kd.R_drewN | apply Kd.R_drew)); exact Kd.R_mono HO470.out (fun _ hk => ⟨hk.1.1.1.1.1.1.1.1, ⟨hk.1.2, ⟨hk.2, ⟨hk.1.1.1.1.1.1.1.2, ⟨hk.1.1.1.1.1.1.2, ⟨hk.1.1.1.1.1.2, ⟨hk.1.1.1.1.2, ⟨hk.1.1.1.2, hk.1.1.2⟩⟩⟩⟩⟩⟩⟩⟩)), (by (with_reducible repeat (first | apply Kd.R_alloc | apply Kd.R_drewN | apply Kd.R_drew)); exact Kd.R_mono HO474.out (fun _ hk => ⟨hk.1.2, ⟨hk.2, ⟨hk.1.1.1.1.1.1.1.1, ⟨hk.1.1.1.1.1.1.1.2, ⟨hk.1.1.1.1.1.1.2, ⟨hk.1.1.1.1.1.2, ⟨hk.1.1.1.1.2, ⟨hk.1.1.1.2, hk.1.1.2⟩⟩⟩⟩⟩⟩⟩⟩)), (by (with_reducible repeat (first | apply Kd.R_alloc | apply Kd.R_drewN | apply Kd.R_drew)); exact Kd.R_mono HO478.out (fun _ hk => ⟨hk.1.2, ⟨hk.2, ⟨hk.1.1.1.1.1.1.1.1, ⟨hk.1.1.1.1.1.1.1.2, ⟨hk.1.1.1.1.1.1.2, ⟨hk.1.1.1.1.1.2, ⟨hk.1.1.1.1.2, ⟨hk.1.1.1.2, hk.1.1.2⟩⟩⟩⟩⟩⟩⟩⟩)), (by (with_reducible repeat (first | apply Kd.R_alloc | apply Kd.R_drewN | apply Kd.R_drew)); exact Kd.R_mono HO_415000.out (fun _ hk => ⟨hk.1.1.1.2, ⟨hk.1.1.2, ⟨hk.1.2, ⟨hk.2, ⟨hk.1.1.1.1.1, ⟨hk.1.1.1.1.2.1, ⟨hk.1.1.1.1.2.2.1, ⟨hk.1.1.1.1.2.2.2.1, hk.1.1.1.1.2.2.2.2⟩⟩⟩⟩⟩⟩⟩⟩)), (by (with_reducible repeat (first | apply Kd.R_alloc | apply Kd.R_drewN | apply Kd.R_drew)); exact Kd.R_mono HO_415002.out (fun _ hk => ⟨hk.1.1.1.2, ⟨hk.1.1.2, ⟨hk.1.2, ⟨hk.2, ⟨hk.1.1.1.1.1, ⟨hk.1.1.1.1.2.1, ⟨hk.1.1.1.1.2.2.1, ⟨hk.1.1.1.1.2.2.2.1, hk.1.1.1.1.2.2.2.2⟩⟩⟩⟩⟩⟩⟩⟩)), (by (with_reducible repeat (first | apply Kd.R_alloc | apply Kd.R_drewN | apply Kd.R_drew)); exact Kd.R_mono HO_427000.out (fun _ hk => ⟨hk.1.1.1.2, ⟨hk.1.1.2, ⟨hk.1.2, ⟨hk.2, ⟨hk.1.1.1.1.1, ⟨hk.1.1.1.1.2.1, ⟨hk.1.1.1.1.2.2.1, ⟨hk.1.1.1.1.2.2.2.1, hk.1.1.1.1.2.2.2.2⟩⟩⟩⟩⟩⟩⟩⟩)), (by (with_reducible repeat (first | apply Kd.R_alloc | apply Kd.R_drewN | apply Kd.R_drew)); exact Kd.R_mono HO_427002.out (fun _ hk => ⟨hk.1.1.1.2, ⟨hk.1.1.2, ⟨hk.1.2, ⟨hk.2, ⟨hk.1.1.1.1.1, ⟨hk.1.1.1.1.2.1, ⟨hk.1.1.1.1.2.2.1, ⟨hk.1.1.1.1.2.2.2.1, hk.1.1.1.1.2.2.2.2⟩⟩⟩⟩⟩⟩⟩⟩)), (by (with_reducible repeat (first | apply Kd.R_alloc | apply Kd.R_drewN | apply Kd.R_drew)); exact Kd.R_mono HO_437000.out (fun _ hk => ⟨hk.1.1.1.2, ⟨hk.1.1.2, ⟨hk.1.2, ⟨hk.2, ⟨hk.1.1.1.1.1, ⟨hk.1.1.1.1.2.1, ⟨hk.1.1.1.1.2.2.1, ⟨hk.1.1.1.1.2.2.2.1, hk.1.1.1.1.2.2.2.2⟩⟩⟩⟩⟩⟩⟩⟩)), (by (with_reducible repeat (first | apply Kd.R_alloc | apply Kd.R_drewN | apply Kd.R_drew)); exact Kd.R_mono HO_437002.out (fun _ hk => ⟨hk.1.1.1.2, ⟨hk.1.1.2, ⟨hk.1.2, ⟨hk.2, ⟨hk.1.1.1.1.1, ⟨hk.1.1.1.1.2.1, ⟨hk.1.1.1.1.2.2.1, ⟨hk.1.1.1.1.2.2.2.1, hk.1.1.1.1.2.2.2.2⟩⟩⟩⟩⟩⟩⟩⟩)), (S.uB BK391.out), (S.uB BK414.out), (S.uB BK426.out), (S.uB BK436.out), (S.uB BK481.out), GW481.out, GE481.out, NB391_481.out, NB481_391.out, NB414_481.out, NB481_414.out, NB426_481.out, NB481_426.out, NB436_481.out, NB481_436.out, S.bG⟩)
               ·skip
                refine box_step ?hg (N := 17) ?hd (cs := #[.slice none 0 0, .int .i64 0, .slice none 0 0, .int .i64 0]) (t := 60) ?hr ?_; (case hd => rfl); (case hg => rfl); (case hr => first | (go_simp; done) | (go_simp; rfl))
                intro gb481 hg w142 hbox hb
                replace HO_415000 := S.rb HO_415000 hb
                replace HO_415002 := S.rb HO_415002 hb
                replace HO_427000 := S.rb HO_427000 hb
                replace HO_427002 := S.rb HO_427002 hb
                replace HO_437000 := S.rb HO_437000 hb
                replace HO_437002 := S.rb HO_437002 hb
                replace HO463 := S.rb HO463 hb
                have BK481 := Aside0.mk hbox
                have GW481 := S.geG hg
                have GE481 := S.geG hg
                replace HB := S.sG hb
                have NB391_481 := S.nl hg BK391
                have NB481_391 := S.ng hg BK391
                replace BK391 := S.kb BK391 hb
                have NB414_481 := S.nl hg BK414
                have NB481_414 := S.ng hg BK414
                replace BK414 := S.kb BK414 hb
                have NB426_481 := S.nl hg BK426
                have NB481_426 := S.ng hg BK426
                replace BK426 := S.kb BK426 hb
                have NB436_481 := S.nl hg BK436
                have NB481_436 := S.ng hg BK436
                replace BK436 := S.kb BK436 hb
                clear hb hbox hg
                refine hK.out _ _ (S.e4 BK391.out) (fun hHeld => ?_)
                clear hK K
                refine S.nm 17 ?_
                refine S.oN 3 102 #[true, true, true, true, true, false, false, false, false, true, false, false] (fun K hK => ?_)
                refine S.go Try.func35 #[.agg #[.slice A1_0 l1_0.length c1_0, .int .i64 a1_1, .slice A1_2 l1_2.length c1_2, .int .i64 a1_3]] ?_
                with_reducible refine (laws_toControl.calls kj82 _ _ l1_0 a1_1 _ _ l1_2 a1_3 t464 t467 t468 t471 _ ?s1 ?s2 ?s3 ?s4 A130.out).mono ?_
                (case s1 => exact S.cA HR1_0.out)
                (case s2 => exact HC1_0.out)
                (case s3 => exact S.cA HR1_2.out)
                (case s4 => exact HC1_2.out)
                rintro e w143 ⟨v465, v469, rfl, ho0, ho1, hb⟩
                refine ⟨_, rfl, ?_⟩
                replace HO463 := S.rb HO463 hb
                have HO466 := Aside0.mk (Kd.R_lower (Kd.R_new' (Kd.R_new' (Kd.R_new' (Kd.R_new' (Kd.R_new' (Kd.R_new' ho0 (Kd.R_lt (S.uR HO_415000.out))) (Kd.R_lt (S.uR HO_415002.out))) (Kd.R_lt (S.uR HO_427000.out))) (Kd.R_lt (S.uR HO_427002.out))) (Kd.R_lt (S.uR HO_437000.out))) (Kd.R_lt (S.uR HO_437002.out))) (below_size S.bG))
                have HO470 := Aside0.mk (Kd.R_lower (Kd.R_new' (Kd.R_new' (Kd.R_new' (Kd.R_new' (Kd.R_new' (Kd.R_new' ho1 (Kd.R_lt (S.uR HO_415000.out))) (Kd.R_lt (S.uR HO_415002.out))) (Kd.R_lt (S.uR HO_427000.out))) (Kd.R_lt (S.uR HO_427002.out))) (Kd.R_lt (S.uR HO_437000.out))) (Kd.R_lt (S.uR HO_437002.out))) (below_size S.bG))
                replace HO_415000 := Aside0.mk (Kd.R_mono (Kd.R_told (Kd.R_told (Kd.R_old (S.uR HO_415000.out) hb) (Kd.R_base ho0)) (Kd.R_base ho1)) (fun _ h_ => h_.1))
                replace HO_415002 := Aside0.mk (Kd.R_mono (Kd.R_told (Kd.R_told (Kd.R_old (S.uR HO_415002.out) hb) (Kd.R_base ho0)) (Kd.R_base ho1)) (fun _ h_ => h_.1))
                replace HO_427000 := Aside0.mk (Kd.R_mono (Kd.R_told (Kd.R_told (Kd.R_old (S.uR HO_427000.out) hb) (Kd.R_base ho0)) (Kd.R_base ho1)) (fun _ h_ => h_.1))
                replace HO_427002 := Aside0.mk (Kd.R_mono (Kd.R_told (Kd.R_told (Kd.R_old (S.uR HO_427002.out) hb) (Kd.R_base ho0)) (Kd.R_base ho1)) (fun _ h_ => h_.1))
                replace HO_437000 := Aside0.mk (Kd.R_mono (Kd.R_told (Kd.R_told (Kd.R_old (S.uR HO_437000.out) hb) (Kd.R_base ho0)) (Kd.R_base ho1)) (fun _ h_ => h_.1))
                replace HO_437002 := Aside0.mk (Kd.R_mono (Kd.R_told (Kd.R_told (Kd.R_old (S.uR HO_437002.out) hb) (Kd.R_base ho0)) (Kd.R_base ho1)) (fun _ h_ => h_.1))
                replace BK391 := S.kb BK391 hb
                replace BK414 := S.kb BK414 hb
                replace BK426 := S.kb BK426 hb
                replace BK436 := S.kb BK436 hb
                replace BK481 := S.kb BK481 hb
                replace HB := S.sG hb
                (try clear hb)
                (try clear hb2)
                (try clear hk)
                (try clear hi)
                (try clear ho0)
                (try clear ho1)
                obtain ⟨Ao144, co144, eo144⟩ := Kd.R_slice HO463.out
                (first | subst eo144 | (injection eo144 with f1_ f2_ f3_; have f4_ := f1_.symm; have f5_ := f3_.symm; clear f1_ f2_ f3_; subst f4_; subst f5_))
                obtain ⟨Ao145, co145, eo145⟩ := Kd.R_slice HO466.out
                (first | subst eo145 | (injection eo145 with f1_ f2_ f3_; have f4_ := f1_.symm; have f5_ := f3_.symm; clear f1_ f2_ f3_; subst f4_; subst f5_))
                obtain ⟨Ao146, co146, eo146⟩ := Kd.R_slice HO470.out
                (first | subst eo146 | (injection eo146 with f1_ f2_ f3_; have f4_ := f1_.symm; have f5_ := f3_.symm; clear f1_ f2_ f3_; subst f4_; subst f5_))
                refine hK.out _ _ (S.e4 BK391.out) (fun hHeld => ?_)
                clear hK K
                refine S.nm 102 ?_
                refine S.oN 5 104 #[true, true, true, true, true, true, false, false, false, true, false, false] (fun K hK => ?_)
                refine S.go Try.func42 #[.slice Ao144 t461.length co144, .agg #[.slice Ao145 t464.length co145, .int .i64 t467, .slice Ao146 t468.length co146, .int .i64 t471], .int .i64 a2] ?_
                with_reducible refine (impl_CutFor.calls kj82 _ _ t461 _ _ t464 t467 _ _ t468 t471 a2 t472 t475 t476 t479 t480 _ ?s1 ?s2 ?s3 ?s4 ?s5 ?s6 A131.out).mono ?_
                (case s1 => exact S.rd HO463)
                (case s2 => exact S.rl HO463)
                (case s3 => exact S.rd HO466)
                (case s4 => exact S.rl HO466)
                (case s5 => exact S.rd HO470)
                (case s6 => exact S.rl HO470)
                rintro e w147 ⟨v473, v477, rfl, ho0, ho1, hb⟩
                refine ⟨_, rfl, ?_⟩
                replace HO463 := S.rb HO463 hb
                have HO474 := Aside0.mk (Kd.R_lower (Kd.R_new' (Kd.R_new' (Kd.R_new' (Kd.R_new' (Kd.R_new' (Kd.R_new' (Kd.R_new' (Kd.R_new' ho0 (Kd.R_lt (S.uR HO_415000.out))) (Kd.R_lt (S.uR HO_415002.out))) (Kd.R_lt (S.uR HO_427000.out))) (Kd.R_lt (S.uR HO_427002.out))) (Kd.R_lt (S.uR HO_437000.out))) (Kd.R_lt (S.uR HO_437002.out))) (Kd.R_lt (S.uR HO466.out))) (Kd.R_lt (S.uR HO470.out))) (below_size S.bG))
                have HO478 := Aside0.mk (Kd.R_lower (Kd.R_new' (Kd.R_new' (Kd.R_new' (Kd.R_new' (Kd.R_new' (Kd.R_new' (Kd.R_new' (Kd.R_new' ho1 (Kd.R_lt (S.uR HO_415000.out))) (Kd.R_lt (S.uR HO_415002.out))) (Kd.R_lt (S.uR HO_427000.out))) (Kd.R_lt (S.uR HO_427002.out))) (Kd.R_lt (S.uR HO_437000.out))) (Kd.R_lt (S.uR HO_437002.out))) (Kd.R_lt (S.uR HO466.out))) (Kd.R_lt (S.uR HO470.out))) (below_size S.bG))
                replace HO_415000 := Aside0.mk (Kd.R_mono (Kd.R_told (Kd.R_told (Kd.R_old (S.uR HO_415000.out) hb) (Kd.R_base ho0)) (Kd.R_base ho1)) (fun _ h_ => h_.1))
                replace HO_415002 := Aside0.mk (Kd.R_mono (Kd.R_told (Kd.R_told (Kd.R_old (S.uR HO_415002.out) hb) (Kd.R_base ho0)) (Kd.R_base ho1)) (fun _ h_ => h_.1))
                replace HO_427000 := Aside0.mk (Kd.R_mono (Kd.R_told (Kd.R_told (Kd.R_old (S.uR HO_427000.out) hb) (Kd.R_base ho0)) (Kd.R_base ho1)) (fun _ h_ => h_.1))
                replace HO_427002 := Aside0.mk (Kd.R_mono (Kd.R_told (Kd.R_told (Kd.R_old (S.uR HO_427002.out) hb) (Kd.R_base ho0)) (Kd.R_base ho1)) (fun _ h_ => h_.1))
                replace HO_437000 := Aside0.mk (Kd.R_mono (Kd.R_told (Kd.R_told (Kd.R_old (S.uR HO_437000.out) hb) (Kd.R_base ho0)) (Kd.R_base ho1)) (fun _ h_ => h_.1))
                replace HO_437002 := Aside0.mk (Kd.R_mono (Kd.R_told (Kd.R_told (Kd.R_old (S.uR HO_437002.out) hb) (Kd.R_base ho0)) (Kd.R_base ho1)) (fun _ h_ => h_.1))
                replace HO466 := Aside0.mk (Kd.R_mono (Kd.R_told (Kd.R_told (Kd.R_old (S.uR HO466.out) hb) (Kd.R_base ho0)) (Kd.R_base ho1)) (fun _ h_ => h_.1))
                replace HO470 := Aside0.mk (Kd.R_mono (Kd.R_told (Kd.R_told (Kd.R_old (S.uR HO470.out) hb) (Kd.R_base ho0)) (Kd.R_base ho1)) (fun _ h_ => h_.1))
                replace BK391 := S.kb BK391 hb
                replace BK414 := S.kb BK414 hb
                replace BK426 := S.kb BK426 hb
                replace BK436 := S.kb BK436 hb
                replace BK481 := S.kb BK481 hb
                replace HB := S.sG hb
                (try clear hb)
                (try clear hb2)
                (try clear hk)
                (try clear hi)
                (try clear ho0)
                (try clear ho1)
                refine hK.out _ _ (S.e4 BK391.out) (fun hHeld => ?_)
                clear hK K
                refine S.nm 104 ?_
                refine S.pS 6 98 ?_
                refine S.pS 7 105 ?_
                refine S.pS 8 106 ?_
                exact norm_ (by simp only [putAll, Act.put, List.setIfInBounds_toArray, List.set_cons_zero, List.set_cons_succ]) (hCont (.slice Ao144 t461.length co144, .slice Ao145 t464.length co145, .slice Ao146 t468.length co146, v473, v477, gb481) _ ⟨hHeld, (S.uR HO463.out), (by (with_reducible repeat (first | apply Kd.R_alloc | apply Kd.R_drewN | apply Kd.R_drew)); exact Kd.R_mono HO466.out (fun _ hk => ⟨hk.1.1.1.1.1.1.1.1, ⟨hk.1.2, ⟨hk.2, ⟨hk.1.1.1.1.1.1.1.2, ⟨hk.1.1.1.1.1.1.2, ⟨hk.1.1.1.1.1.2, ⟨hk.1.1.1.1.2, ⟨hk.1.1.1.2, hk.1.1.2⟩⟩⟩⟩⟩⟩⟩⟩)), (by (with_reducible repeat (first | apply Kd.R_alloc | apply Kd.R_drewN | apply Kd.R_drew)); exact Kd.R_mono HO470.out (fun _ hk => ⟨hk.1.1.1.1.1.1.1.1, ⟨hk.1.2, ⟨hk.2, ⟨hk.1.1.1.1.1.1.1.2, ⟨hk.1.1.1.1.1.1.2, ⟨hk.1.1.1.1.1.2, ⟨hk.1.1.1.1.2, ⟨hk.1.1.1.2, hk.1.1.2⟩⟩⟩⟩⟩⟩⟩⟩)), (by (with_reducible repeat (first | apply Kd.R_alloc | apply Kd.R_drewN | apply Kd.R_drew)); exact Kd.R_mono HO474.out (fun _ hk => ⟨hk.1.2, ⟨hk.2, ⟨hk.1.1.1.1.1.1.1.1, ⟨hk.1.1.1.1.1.1.1.2, ⟨hk.1.1.1.1.1.1.2, ⟨hk.1.1.1.1.1.2, ⟨hk.1.1.1.1.2, ⟨hk.1.1.1.2, hk.1.1.2⟩⟩⟩⟩⟩⟩⟩⟩)), (by (with_reducible repeat (first | apply Kd.R_alloc | apply Kd.R_drewN | apply Kd.R_drew)); exact Kd.R_mono HO478.out (fun _ hk => ⟨hk.1.2, ⟨hk.2, ⟨hk.1.1.1.1.1.1.1.1, ⟨hk.1.1.1.1.1.1.1.2, ⟨hk.1.1.1.1.1.1.2, ⟨hk.1.1.1.1.1.2, ⟨hk.1.1.1.1.2, ⟨hk.1.1.1.2, hk.1.1.2⟩⟩⟩⟩⟩⟩⟩⟩)), (by (with_reducible repeat (first | apply Kd.R_alloc | apply Kd.R_drewN | apply Kd.R_drew)); exact Kd.R_mono HO_415000.out (fun _ hk => ⟨hk.1.1.1.2, ⟨hk.1.1.2, ⟨hk.1.2, ⟨hk.2, ⟨hk.1.1.1.1.1, ⟨hk.1.1.1.1.2.1, ⟨hk.1.1.1.1.2.2.1, ⟨hk.1.1.1.1.2.2.2.1, hk.1.1.1.1.2.2.2.2⟩⟩⟩⟩⟩⟩⟩⟩)), (by (with_reducible repeat (first | apply Kd.R_alloc | apply Kd.R_drewN | apply Kd.R_drew)); exact Kd.R_mono HO_415002.out (fun _ hk => ⟨hk.1.1.1.2, ⟨hk.1.1.2, ⟨hk.1.2, ⟨hk.2, ⟨hk.1.1.1.1.1, ⟨hk.1.1.1.1.2.1, ⟨hk.1.1.1.1.2.2.1, ⟨hk.1.1.1.1.2.2.2.1, hk.1.1.1.1.2.2.2.2⟩⟩⟩⟩⟩⟩⟩⟩)), (by (with_reducible repeat (first | apply Kd.R_alloc | apply Kd.R_drewN | apply Kd.R_drew)); exact Kd.R_mono HO_427000.out (fun _ hk => ⟨hk.1.1.1.2, ⟨hk.1.1.2, ⟨hk.1.2, ⟨hk.2, ⟨hk.1.1.1.1.1, ⟨hk.1.1.1.1.2.1, ⟨hk.1.1.1.1.2.2.1, ⟨hk.1.1.1.1.2.2.2.1, hk.1.1.1.1.2.2.2.2⟩⟩⟩⟩⟩⟩⟩⟩)), (by (with_reducible repeat (first | apply Kd.R_alloc | apply Kd.R_drewN | apply Kd.R_drew)); exact Kd.R_mono HO_427002.out (fun _ hk => ⟨hk.1.1.1.2, ⟨hk.1.1.2, ⟨hk.1.2, ⟨hk.2, ⟨hk.1.1.1.1.1, ⟨hk.1.1.1.1.2.1, ⟨hk.1.1.1.1.2.2.1, ⟨hk.1.1.1.1.2.2.2.1, hk.1.1.1.1.2.2.2.2⟩⟩⟩⟩⟩⟩⟩⟩)), (by (with_reducible repeat (first | apply Kd.R_alloc | apply Kd.R_drewN | apply Kd.R_drew)); exact Kd.R_mono HO_437000.out (fun _ hk => ⟨hk.1.1.1.2, ⟨hk.1.1.2, ⟨hk.1.2, ⟨hk.2, ⟨hk.1.1.1.1.1, ⟨hk.1.1.1.1.2.1, ⟨hk.1.1.1.1.2.2.1, ⟨hk.1.1.1.1.2.2.2.1, hk.1.1.1.1.2.2.2.2⟩⟩⟩⟩⟩⟩⟩⟩)), (by (with_reducible repeat (first | apply Kd.R_alloc | apply Kd.R_drewN | apply Kd.R_drew)); exact Kd.R_mono HO_437002.out (fun _ hk => ⟨hk.1.1.1.2, ⟨hk.1.1.2, ⟨hk.1.2, ⟨hk.2, ⟨hk.1.1.1.1.1, ⟨hk.1.1.1.1.2.1, ⟨hk.1.1.1.1.2.2.1, ⟨hk.1.1.1.1.2.2.2.1, hk.1.1.1.1.2.2.2.2⟩⟩⟩⟩⟩⟩⟩⟩)), (S.uB BK391.out), (S.uB BK414.out), (S.uB BK426.out), (S.uB BK436.out), (S.uB BK481.out), GW481.out, GE481.out, NB391_481.out, NB481_391.out, NB414_481.out, NB481_414.out, NB426_481.out, NB481_426.out, NB436_481.out, NB481_436.out, S.bG⟩)
              ·skip
               refine box_step ?hg (N := 17) ?hd (cs := #[.slice none 0 0, .int .i64 0, .slice none 0 0, .int .i64 0]) (t := 60) ?hr ?_; (case hd => rfl); (case hg => rfl); (case hr => first | (go_simp; done) | (go_simp; rfl))
               intro gb481 hg w141 hbox hb
               replace HO_415000 := S.rb HO_415000 hb
               replace HO_415002 := S.rb HO_415002 hb
               replace HO_427000 := S.rb HO_427000 hb
               replace HO_427002 := S.rb HO_427002 hb
               replace HO_437000 := S.rb HO_437000 hb
               replace HO_437002 := S.rb HO_437002 hb
               have BK481 := Aside0.mk hbox
               have GW481 := S.geG hg
               have GE481 := S.geG hg
               replace HB := S.sG hb
               have NB391_481 := S.nl hg BK391
               have NB481_391 := S.ng hg BK391
               replace BK391 := S.kb BK391 hb
               have NB414_481 := S.nl hg BK414
               have NB481_414 := S.ng hg BK414
               replace BK414 := S.kb BK414 hb
               have NB426_481 := S.nl hg BK426
               have NB481_426 := S.ng hg BK426
               replace BK426 := S.kb BK426 hb
               have NB436_481 := S.nl hg BK436
               have NB481_436 := S.ng hg BK436
               replace BK436 := S.kb BK436 hb
               clear hb hbox hg
               refine hK.out _ _ (S.e4 BK391.out) (fun hHeld => ?_)
               clear hK K
               refine S.nm 17 ?_
               refine S.oN 1 100 #[true, true, true, false, true, false, false, false, false, true, false, false] (fun K hK => ?_)
               refine S.go Try.func14 #[.slice A0 l0.length c0] ?_
               with_reducible refine (laws_toPathS.calls kj82 _ _ l0 t461 _ ?s1 ?s2 A129.out).mono ?_
               (case s1 => exact S.cA HR0.out)
               (case s2 => exact HC0.out)
               rintro e w142 ⟨v462, rfl, ho0, hb⟩
               refine ⟨_, rfl, ?_⟩
               replace HO_415000 := S.rb HO_415000 hb
               replace HO_415002 := S.rb HO_415002 hb
               replace HO_427000 := S.rb HO_427000 hb
               replace HO_427002 := S.rb HO_427002 hb
               replace HO_437000 := S.rb HO_437000 hb
               replace HO_437002 := S.rb HO_437002 hb
               have HO463 := S.lwG ho0
               replace BK391 := S.kb BK391 hb
               replace BK414 := S.kb BK414 hb
               replace BK426 := S.kb BK426 hb
               replace BK436 := S.kb BK436 hb
               replace BK481 := S.kb BK481 hb
               replace HB := S.sG hb
               (try clear hb)
               (try clear hb2)
               (try clear hk)
               (try clear hi)
               (try clear ho0)
               refine hK.out _ _ (S.e4 BK391.out) (fun hHeld => ?_)
               clear hK K
               refine S.nm 100 ?_
               refine S.oN 3 102 #[true, true, true, true, true, false, false, false, false, true, false, false] (fun K hK => ?_)
               refine S.go Try.func35 #[.agg #[.slice A1_0 l1_0.length c1_0, .int .i64 a1_1, .slice A1_2 l1_2.length c1_2, .int .i64 a1_3]] ?_
               with_reducible refine (laws_toControl.calls kj82 _ _ l1_0 a1_1 _ _ l1_2 a1_3 t464 t467 t468 t471 _ ?s1 ?s2 ?s3 ?s4 A130.out).mono ?_
               (case s1 => exact S.cA HR1_0.out)
               (case s2 => exact HC1_0.out)
               (case s3 => exact S.cA HR1_2.out)
               (case s4 => exact HC1_2.out)
               rintro e w143 ⟨v465, v469, rfl, ho0, ho1, hb⟩
               refine ⟨_, rfl, ?_⟩
               replace HO463 := S.rb HO463 hb
               have HO466 := Aside0.mk (Kd.R_lower (Kd.R_new' (Kd.R_new' (Kd.R_new' (Kd.R_new' (Kd.R_new' (Kd.R_new' ho0 (Kd.R_lt (S.uR HO_415000.out))) (Kd.R_lt (S.uR HO_415002.out))) (Kd.R_lt (S.uR HO_427000.out))) (Kd.R_lt (S.uR HO_427002.out))) (Kd.R_lt (S.uR HO_437000.out))) (Kd.R_lt (S.uR HO_437002.out))) (below_size S.bG))
               have HO470 := Aside0.mk (Kd.R_lower (Kd.R_new' (Kd.R_new' (Kd.R_new' (Kd.R_new' (Kd.R_new' (Kd.R_new' ho1 (Kd.R_lt (S.uR HO_415000.out))) (Kd.R_lt (S.uR HO_415002.out))) (Kd.R_lt (S.uR HO_427000.out))) (Kd.R_lt (S.uR HO_427002.out))) (Kd.R_lt (S.uR HO_437000.out))) (Kd.R_lt (S.uR HO_437002.out))) (below_size S.bG))
               replace HO_415000 := Aside0.mk (Kd.R_mono (Kd.R_told (Kd.R_told (Kd.R_old (S.uR HO_415000.out) hb) (Kd.R_base ho0)) (Kd.R_base ho1)) (fun _ h_ => h_.1))
               replace HO_415002 := Aside0.mk (Kd.R_mono (Kd.R_told (Kd.R_told (Kd.R_old (S.uR HO_415002.out) hb) (Kd.R_base ho0)) (Kd.R_base ho1)) (fun _ h_ => h_.1))
               replace HO_427000 := Aside0.mk (Kd.R_mono (Kd.R_told (Kd.R_told (Kd.R_old (S.uR HO_427000.out) hb) (Kd.R_base ho0)) (Kd.R_base ho1)) (fun _ h_ => h_.1))
               replace HO_427002 := Aside0.mk (Kd.R_mono (Kd.R_told (Kd.R_told (Kd.R_old (S.uR HO_427002.out) hb) (Kd.R_base ho0)) (Kd.R_base ho1)) (fun _ h_ => h_.1))
               replace HO_437000 := Aside0.mk (Kd.R_mono (Kd.R_told (Kd.R_told (Kd.R_old (S.uR HO_437000.out) hb) (Kd.R_base ho0)) (Kd.R_base ho1)) (fun _ h_ => h_.1))
               replace HO_437002 := Aside0.mk (Kd.R_mono (Kd.R_told (Kd.R_told (Kd.R_old (S.uR HO_437002.out) hb) (Kd.R_base ho0)) (Kd.R_base ho1)) (fun _ h_ => h_.1))
               replace BK391 := S.kb BK391 hb
               replace BK414 := S.kb BK414 hb
               replace BK426 := S.kb BK426 hb
               replace BK436 := S.kb BK436 hb
               replace BK481 := S.kb BK481 hb
               replace HB := S.sG hb
               (try clear hb)
               (try clear hb2)
               (try clear hk)
               (try clear hi)
               (try clear ho0)
               (try clear ho1)
               obtain ⟨Ao144, co144, eo144⟩ := Kd.R_slice HO463.out
               (first | subst eo144 | (injection eo144 with f1_ f2_ f3_; have f4_ := f1_.symm; have f5_ := f3_.symm; clear f1_ f2_ f3_; subst f4_; subst f5_))
               obtain ⟨Ao145, co145, eo145⟩ := Kd.R_slice HO466.out
               (first | subst eo145 | (injection eo145 with f1_ f2_ f3_; have f4_ := f1_.symm; have f5_ := f3_.symm; clear f1_ f2_ f3_; subst f4_; subst f5_))
               obtain ⟨Ao146, co146, eo146⟩ := Kd.R_slice HO470.out
               (first | subst eo146 | (injection eo146 with f1_ f2_ f3_; have f4_ := f1_.symm; have f5_ := f3_.symm; clear f1_ f2_ f3_; subst f4_; subst f5_))
               refine hK.out _ _ (S.e4 BK391.out) (fun hHeld => ?_)
               clear hK K
               refine S.nm 102 ?_
               refine S.oN 5 104 #[true, true, true, true, true, true, false, false, false, true, false, false] (fun K hK => ?_)
               refine S.go Try.func42 #[.slice Ao144 t461.length co144, .agg #[.slice Ao145 t464.length co145, .int .i64 t467, .slice Ao146 t468.length co146, .int .i64 t471], .int .i64 a2] ?_
               with_reducible refine (impl_CutFor.calls kj82 _ _ t461 _ _ t464 t467 _ _ t468 t471 a2 t472 t475 t476 t479 t480 _ ?s1 ?s2 ?s3 ?s4 ?s5 ?s6 A131.out).mono ?_
               (case s1 => exact S.rd HO463)
               (case s2 => exact S.rl HO463)
               (case s3 => exact S.rd HO466)
               (case s4 => exact S.rl HO466)
               (case s5 => exact S.rd HO470)
               (case s6 => exact S.rl HO470)
               rintro e w147 ⟨v473, v477, rfl, ho0, ho1, hb⟩
               refine ⟨_, rfl, ?_⟩
               replace HO463 := S.rb HO463 hb
               have HO474 := Aside0.mk (Kd.R_lower (Kd.R_new' (Kd.R_new' (Kd.R_new' (Kd.R_new' (Kd.R_new' (Kd.R_new' (Kd.R_new' (Kd.R_new' ho0 (Kd.R_lt (S.uR HO_415000.out))) (Kd.R_lt (S.uR HO_415002.out))) (Kd.R_lt (S.uR HO_427000.out))) (Kd.R_lt (S.uR HO_427002.out))) (Kd.R_lt (S.uR HO_437000.out))) (Kd.R_lt (S.uR HO_437002.out))) (Kd.R_lt (S.uR HO466.out))) (Kd.R_lt (S.uR HO470.out))) (below_size S.bG))
               have HO478 := Aside0.mk (Kd.R_lower (Kd.R_new' (Kd.R_new' (Kd.R_new' (Kd.R_new' (Kd.R_new' (Kd.R_new' (Kd.R_new' (Kd.R_new' ho1 (Kd.R_lt (S.uR HO_415000.out))) (Kd.R_lt (S.uR HO_415002.out))) (Kd.R_lt (S.uR HO_427000.out))) (Kd.R_lt (S.uR HO_427002.out))) (Kd.R_lt (S.uR HO_437000.out))) (Kd.R_lt (S.uR HO_437002.out))) (Kd.R_lt (S.uR HO466.out))) (Kd.R_lt (S.uR HO470.out))) (below_size S.bG))
               replace HO_415000 := Aside0.mk (Kd.R_mono (Kd.R_told (Kd.R_told (Kd.R_old (S.uR HO_415000.out) hb) (Kd.R_base ho0)) (Kd.R_base ho1)) (fun _ h_ => h_.1))
               replace HO_415002 := Aside0.mk (Kd.R_mono (Kd.R_told (Kd.R_told (Kd.R_old (S.uR HO_415002.out) hb) (Kd.R_base ho0)) (Kd.R_base ho1)) (fun _ h_ => h_.1))
               replace HO_427000 := Aside0.mk (Kd.R_mono (Kd.R_told (Kd.R_told (Kd.R_old (S.uR HO_427000.out) hb) (Kd.R_base ho0)) (Kd.R_base ho1)) (fun _ h_ => h_.1))
               replace HO_427002 := Aside0.mk (Kd.R_mono (Kd.R_told (Kd.R_told (Kd.R_old (S.uR HO_427002.out) hb) (Kd.R_base ho0)) (Kd.R_base ho1)) (fun _ h_ => h_.1))
               replace HO_437000 := Aside0.mk (Kd.R_mono (Kd.R_told (Kd.R_told (Kd.R_old (S.uR HO_437000.out) hb) (Kd.R_base ho0)) (Kd.R_base ho1)) (fun _ h_ => h_.1))
               replace HO_437002 := Aside0.mk (Kd.R_mono (Kd.R_told (Kd.R_told (Kd.R_old (S.uR HO_437002.out) hb) (Kd.R_base ho0)) (Kd.R_base ho1)) (fun _ h_ => h_.1))
               replace HO466 := Aside0.mk (Kd.R_mono (Kd.R_told (Kd.R_told (Kd.R_old (S.uR HO466.out) hb) (Kd.R_base ho0)) (Kd.R_base ho1)) (fun _ h_ => h_.1))
               replace HO470 := Aside0.mk (Kd.R_mono (Kd.R_told (Kd.R_told (Kd.R_old (S.uR HO470.out) hb) (Kd.R_base ho0)) (Kd.R_base ho1)) (fun _ h_ => h_.1))
               replace BK391 := S.kb BK391 hb
               replace BK414 := S.kb BK414 hb
               replace BK426 := S.kb BK426 hb
               replace BK436 := S.kb BK436 hb
               replace BK481 := S.kb BK481 hb
               replace HB := S.sG hb
               (try clear hb)
               (try clear hb2)
               (try clear hk)
               (try clear hi)
               (try clear ho0)
               (try clear ho1)
               refine hK.out _ _ (S.e4 BK391.out) (fun hHeld => ?_)
               clear hK K
               refine S.nm 104 ?_
               refine S.pS 6 98 ?_
               refine S.pS 7 105 ?_
               refine S.pS 8 106 ?_
               exact norm_ (by simp only [putAll, Act.put, List.setIfInBounds_toArray, List.set_cons_zero, List.set_cons_succ]) (hCont (.slice Ao144 t461.length co144, .slice Ao145 t464.length co145, .slice Ao146 t468.length co146, v473, v477, gb481) _ ⟨hHeld, (S.uR HO463.out), (by (with_reducible repeat (first | apply Kd.R_alloc | apply Kd.R_drewN | apply Kd.R_drew)); exact Kd.R_mono HO466.out (fun _ hk => ⟨hk.1.1.1.1.1.1.1.1, ⟨hk.1.2, ⟨hk.2, ⟨hk.1.1.1.1.1.1.1.2, ⟨hk.1.1.1.1.1.1.2, ⟨hk.1.1.1.1.1.2, ⟨hk.1.1.1.1.2, ⟨hk.1.1.1.2, hk.1.1.2⟩⟩⟩⟩⟩⟩⟩⟩)), (by (with_reducible repeat (first | apply Kd.R_alloc | apply Kd.R_drewN | apply Kd.R_drew)); exact Kd.R_mono HO470.out (fun _ hk => ⟨hk.1.1.1.1.1.1.1.1, ⟨hk.1.2, ⟨hk.2, ⟨hk.1.1.1.1.1.1.1.2, ⟨hk.1.1.1.1.1.1.2, ⟨hk.1.1.1.1.1.2, ⟨hk.1.1.1.1.2, ⟨hk.1.1.1.2, hk.1.1.2⟩⟩⟩⟩⟩⟩⟩⟩)), (by (with_reducible repeat (first | apply Kd.R_alloc | apply Kd.R_drewN | apply Kd.R_drew)); exact Kd.R_mono HO474.out (fun _ hk => ⟨hk.1.2, ⟨hk.2, ⟨hk.1.1.1.1.1.1.1.1, ⟨hk.1.1.1.1.1.1.1.2, ⟨hk.1.1.1.1.1.1.2, ⟨hk.1.1.1.1.1.2, ⟨hk.1.1.1.1.2, ⟨hk.1.1.1.2, hk.1.1.2⟩⟩⟩⟩⟩⟩⟩⟩)), (by (with_reducible repeat (first | apply Kd.R_alloc | apply Kd.R_drewN | apply Kd.R_drew)); exact Kd.R_mono HO478.out (fun _ hk => ⟨hk.1.2, ⟨hk.2, ⟨hk.1.1.1.1.1.1.1.1, ⟨hk.1.1.1.1.1.1.1.2, ⟨hk.1.1.1.1.1.1.2, ⟨hk.1.1.1.1.1.2, ⟨hk.1.1.1.1.2, ⟨hk.1.1.1.2, hk.1.1.2⟩⟩⟩⟩⟩⟩⟩⟩)), (by (with_reducible repeat (first | apply Kd.R_alloc | apply Kd.R_drewN | apply Kd.R_drew)); exact Kd.R_mono HO_415000.out (fun _ hk => ⟨hk.1.1.1.2, ⟨hk.1.1.2, ⟨hk.1.2, ⟨hk.2, ⟨hk.1.1.1.1.1, ⟨hk.1.1.1.1.2.1, ⟨hk.1.1.1.1.2.2.1, ⟨hk.1.1.1.1.2.2.2.1, hk.1.1.1.1.2.2.2.2⟩⟩⟩⟩⟩⟩⟩⟩)), (by (with_reducible repeat (first | apply Kd.R_alloc | apply Kd.R_drewN | apply Kd.R_drew)); exact Kd.R_mono HO_415002.out (fun _ hk => ⟨hk.1.1.1.2, ⟨hk.1.1.2, ⟨hk.1.2, ⟨hk.2, ⟨hk.1.1.1.1.1, ⟨hk.1.1.1.1.2.1, ⟨hk.1.1.1.1.2.2.1, ⟨hk.1.1.1.1.2.2.2.1, hk.1.1.1.1.2.2.2.2⟩⟩⟩⟩⟩⟩⟩⟩)), (by (with_reducible repeat (first | apply Kd.R_alloc | apply Kd.R_drewN | apply Kd.R_drew)); exact Kd.R_mono HO_427000.out (fun _ hk => ⟨hk.1.1.1.2, ⟨hk.1.1.2, ⟨hk.1.2, ⟨hk.2, ⟨hk.1.1.1.1.1, ⟨hk.1.1.1.1.2.1, ⟨hk.1.1.1.1.2.2.1, ⟨hk.1.1.1.1.2.2.2.1, hk.1.1.1.1.2.2.2.2⟩⟩⟩⟩⟩⟩⟩⟩)), (by (with_reducible repeat (first | apply Kd.R_alloc | apply Kd.R_drewN | apply Kd.R_drew)); exact Kd.R_mono HO_427002.out (fun _ hk => ⟨hk.1.1.1.2, ⟨hk.1.1.2, ⟨hk.1.2, ⟨hk.2, ⟨hk.1.1.1.1.1, ⟨hk.1.1.1.1.2.1, ⟨hk.1.1.1.1.2.2.1, ⟨hk.1.1.1.1.2.2.2.1, hk.1.1.1.1.2.2.2.2⟩⟩⟩⟩⟩⟩⟩⟩)), (by (with_reducible repeat (first | apply Kd.R_alloc | apply Kd.R_drewN | apply Kd.R_drew)); exact Kd.R_mono HO_437000.out (fun _ hk => ⟨hk.1.1.1.2, ⟨hk.1.1.2, ⟨hk.1.2, ⟨hk.2, ⟨hk.1.1.1.1.1, ⟨hk.1.1.1.1.2.1, ⟨hk.1.1.1.1.2.2.1, ⟨hk.1.1.1.1.2.2.2.1, hk.1.1.1.1.2.2.2.2⟩⟩⟩⟩⟩⟩⟩⟩)), (by (with_reducible repeat (first | apply Kd.R_alloc | apply Kd.R_drewN | apply Kd.R_drew)); exact Kd.R_mono HO_437002.out (fun _ hk => ⟨hk.1.1.1.2, ⟨hk.1.1.2, ⟨hk.1.2, ⟨hk.2, ⟨hk.1.1.1.1.1, ⟨hk.1.1.1.1.2.1, ⟨hk.1.1.1.1.2.2.1, ⟨hk.1.1.1.1.2.2.2.1, hk.1.1.1.1.2.2.2.2⟩⟩⟩⟩⟩⟩⟩⟩)), (S.uB BK391.out), (S.uB BK414.out), (S.uB BK426.out), (S.uB BK436.out), (S.uB BK481.out), GW481.out, GE481.out, NB391_481.out, NB481_391.out, NB414_481.out, NB481_414.out, NB426_481.out, NB481_426.out, NB436_481.out, NB481_436.out, S.bG⟩)
             rintro ⟨v462, v465, v469, v473, v477, gb481⟩ w148 ⟨hS_, h0_, h1_, h2_, h3_, h4_, h5_, h6_, h7_, h8_, h9_, h10_, h11_, h12_, h13_, h14_, h15_, h16_, h17_, h18_, h19_, h20_, h21_, h22_, h23_, h24_, h25_, h26_⟩
             have n0_ : Aside0 (Kd.R k52 52 w148 w.heap.size (fun _ => True) v462 t461) := ⟨h0_⟩
             have n1_ : Aside0 (Kd.R (Kd.int .i64) 3 w148 w.heap.size (fun k_ => S.N k_ v469 ∧ S.N k_ v473 ∧ S.N k_ v477 ∧ S.N k_ (.slice Ao31 t405.length co31) ∧ S.N k_ (.slice Ao34 t409.length co34) ∧ S.N k_ (.slice Ao42 t454.length co42) ∧ S.N k_ (.slice Ao46 t455.length co46) ∧ S.N k_ (.slice Ao50 t427.length co50) ∧ S.N k_ (.slice Ao55 t431.length co55)) v465 t464) := ⟨h1_⟩
             have n2_ : Aside0 (Kd.R (Kd.int .i64) 3 w148 w.heap.size (fun k_ => S.N k_ v465 ∧ S.N k_ v473 ∧ S.N k_ v477 ∧ S.N k_ (.slice Ao31 t405.length co31) ∧ S.N k_ (.slice Ao34 t409.length co34) ∧ S.N k_ (.slice Ao42 t454.length co42) ∧ S.N k_ (.slice Ao46 t455.length co46) ∧ S.N k_ (.slice Ao50 t427.length co50) ∧ S.N k_ (.slice Ao55 t431.length co55)) v469 t468) := ⟨h2_⟩
             have n3_ : Aside0 (Kd.R (Kd.int .i64) 3 w148 w.heap.size (fun k_ => S.N k_ v465 ∧ S.N k_ v469 ∧ S.N k_ v477 ∧ S.N k_ (.slice Ao31 t405.length co31) ∧ S.N k_ (.slice Ao34 t409.length co34) ∧ S.N k_ (.slice Ao42 t454.length co42) ∧ S.N k_ (.slice Ao46 t455.length co46) ∧ S.N k_ (.slice Ao50 t427.length co50) ∧ S.N k_ (.slice Ao55 t431.length co55)) v473 t472) := ⟨h3_⟩
             have n4_ : Aside0 (Kd.R (Kd.int .i64) 3 w148 w.heap.size (fun k_ => S.N k_ v465 ∧ S.N k_ v469 ∧ S.N k_ v473 ∧ S.N k_ (.slice Ao31 t405.length co31) ∧ S.N k_ (.slice Ao34 t409.length co34) ∧ S.N k_ (.slice Ao42 t454.length co42) ∧ S.N k_ (.slice Ao46 t455.length co46) ∧ S.N k_ (.slice Ao50 t427.length co50) ∧ S.N k_ (.slice Ao55 t431.length co55)) v477 t476) := ⟨h4_⟩
             have n5_ : Aside0 (Kd.R (Kd.int .i64) 3 w148 w.heap.size (fun k_ => S.N k_ v465 ∧ S.N k_ v469 ∧ S.N k_ v473 ∧ S.N k_ v477 ∧ S.N k_ (.slice Ao34 t409.length co34) ∧ S.N k_ (.slice Ao42 t454.length co42) ∧ S.N k_ (.slice Ao46 t455.length co46) ∧ S.N k_ (.slice Ao50 t427.length co50) ∧ S.N k_ (.slice Ao55 t431.length co55)) (.slice Ao31 t405.length co31) t405) := ⟨h5_⟩
             have n6_ : Aside0 (Kd.R (Kd.int .i64) 3 w148 w.heap.size (fun k_ => S.N k_ v465 ∧ S.N k_ v469 ∧ S.N k_ v473 ∧ S.N k_ v477 ∧ S.N k_ (.slice Ao31 t405.length co31) ∧ S.N k_ (.slice Ao42 t454.length co42) ∧ S.N k_ (.slice Ao46 t455.length co46) ∧ S.N k_ (.slice Ao50 t427.length co50) ∧ S.N k_ (.slice Ao55 t431.length co55)) (.slice Ao34 t409.length co34) t409) := ⟨h6_⟩
             have n7_ : Aside0 (Kd.R (Kd.int .i64) 3 w148 w.heap.size (fun k_ => S.N k_ v465 ∧ S.N k_ v469 ∧ S.N k_ v473 ∧ S.N k_ v477 ∧ S.N k_ (.slice Ao31 t405.length co31) ∧ S.N k_ (.slice Ao34 t409.length co34) ∧ S.N k_ (.slice Ao46 t455.length co46) ∧ S.N k_ (.slice Ao50 t427.length co50) ∧ S.N k_ (.slice Ao55 t431.length co55)) (.slice Ao42 t454.length co42) t454) := ⟨h7_⟩
             have n8_ : Aside0 (Kd.R (Kd.int .i64) 3 w148 w.heap.size (fun k_ => S.N k_ v465 ∧ S.N k_ v469 ∧ S.N k_ v473 ∧ S.N k_ v477 ∧ S.N k_ (.slice Ao31 t405.length co31) ∧ S.N k_ (.slice Ao34 t409.length co34) ∧ S.N k_ (.slice Ao42 t454.length co42) ∧ S.N k_ (.slice Ao50 t427.length co50) ∧ S.N k_ (.slice Ao55 t431.length co55)) (.slice Ao46 t455.length co46) t455) := ⟨h8_⟩
             have n9_ : Aside0 (Kd.R (Kd.int .i64) 3 w148 w.heap.size (fun k_ => S.N k_ v465 ∧ S.N k_ v469 ∧ S.N k_ v473 ∧ S.N k_ v477 ∧ S.N k_ (.slice Ao31 t405.length co31) ∧ S.N k_ (.slice Ao34 t409.length co34) ∧ S.N k_ (.slice Ao42 t454.length co42) ∧ S.N k_ (.slice Ao46 t455.length co46) ∧ S.N k_ (.slice Ao55 t431.length co55)) (.slice Ao50 t427.length co50) t458) := ⟨h9_⟩
             have n10_ : Aside0 (Kd.R (Kd.int .i64) 3 w148 w.heap.size (fun k_ => S.N k_ v465 ∧ S.N k_ v469 ∧ S.N k_ v473 ∧ S.N k_ v477 ∧ S.N k_ (.slice Ao31 t405.length co31) ∧ S.N k_ (.slice Ao34 t409.length co34) ∧ S.N k_ (.slice Ao42 t454.length co42) ∧ S.N k_ (.slice Ao46 t455.length co46) ∧ S.N k_ (.slice Ao50 t427.length co50)) (.slice Ao55 t431.length co55) t459) := ⟨h10_⟩
             have n11_ : Aside0 (w148.heap[gb391]? = some (.cells #[.slice A1_0 l1_0.length c1_0, .int .i64 a1_1, .slice A1_2 l1_2.length c1_2, .int .i64 a1_3] 57 (0, 0))) := ⟨h11_⟩
             have n12_ : Aside0 (w148.heap[gb414]? = some (.cells #[.slice Ao31 t405.length co31, .int .i64 t408, .slice Ao34 t409.length co34, .int .i64 t412] 60 (0, 0))) := ⟨h12_⟩
             have n13_ : Aside0 (w148.heap[gb426]? = some (.cells #[.slice Ao42 t454.length co42, .int .i64 t421, .slice Ao46 t455.length co46, .int .i64 t425] 60 (0, 0))) := ⟨h13_⟩
             have n14_ : Aside0 (w148.heap[gb436]? = some (.cells #[.slice Ao50 t427.length co50, .int .i64 t430, .slice Ao55 t431.length co55, .int .i64 t434] 60 (0, 0))) := ⟨h14_⟩
             have n15_ : Aside0 (w148.heap[gb481]? = some (.cells #[.slice none 0 0, .int .i64 0, .slice none 0 0, .int .i64 0] 60 (0, 0))) := ⟨h15_⟩
             have n16_ : Aside0 (w.heap.size ≤ gb481) := ⟨h16_⟩
             have n17_ : Aside0 (w.heap.size ≤ gb481) := ⟨h17_⟩
             have n18_ : Aside0 (gb391 ≠ gb481) := ⟨h18_⟩
             have n19_ : Aside0 (gb481 ≠ gb391) := ⟨h19_⟩
             have n20_ : Aside0 (gb414 ≠ gb481) := ⟨h20_⟩
             have n21_ : Aside0 (gb481 ≠ gb414) := ⟨h21_⟩
             have n22_ : Aside0 (gb426 ≠ gb481) := ⟨h22_⟩
             have n23_ : Aside0 (gb481 ≠ gb426) := ⟨h23_⟩
             have n24_ : Aside0 (gb436 ≠ gb481) := ⟨h24_⟩
             have n25_ : Aside0 (gb481 ≠ gb436) := ⟨h25_⟩
             have n26_ : Aside0 (Below w.heap.size w w148) := ⟨h26_⟩
             clear HO_415000
             clear HO_415002
             clear HO_427000
             clear HO_427002
             clear HO_437000
             clear HO_437002
             clear BK391
             clear BK414
             clear BK426
             clear BK436
             clear HB
             clear h0_ h1_ h2_ h3_ h4_ h5_ h6_ h7_ h8_ h9_ h10_ h11_ h12_ h13_ h14_ h15_ h16_ h17_ h18_ h19_ h20_ h21_ h22_ h23_ h24_ h25_ h26_
             have HO463 := n0_
             have HO466 := n1_
             have HO470 := n2_
             have HO474 := n3_
             have HO478 := n4_
             have HO_415000 := n5_
             have HO_415002 := n6_
             have HO_427000 := n7_
             have HO_427002 := n8_
             have HO_437000 := n9_
             have HO_437002 := n10_
             have BK391 := n11_
             have BK414 := n12_
             have BK426 := n13_
             have BK436 := n14_
             have BK481 := n15_
             have GW481 := n16_
             have GE481 := n17_
             have NB391_481 := n18_
             have NB481_391 := n19_
             have NB414_481 := n20_
             have NB481_414 := n21_
             have NB426_481 := n22_
             have NB481_426 := n23_
             have NB436_481 := n24_
             have NB481_436 := n25_
             have HB := n26_
             clear n0_ n1_ n2_ n3_ n4_ n5_ n6_ n7_ n8_ n9_ n10_ n11_ n12_ n13_ n14_ n15_ n16_ n17_ n18_ n19_ n20_ n21_ n22_ n23_ n24_ n25_ n26_
             have hHeld : w148.cell? ⟨gb391, 0, none⟩ = some (.slice A1_0 l1_0.length c1_0) ∧ w148.cell? ⟨gb391, 1, none⟩ = some (.int .i64 a1_1) ∧ w148.cell? ⟨gb391, 2, none⟩ = some (.slice A1_2 l1_2.length c1_2) ∧ w148.cell? ⟨gb391, 3, none⟩ = some (.int .i64 a1_3) := hS_
             obtain ⟨Ao149, co149, eo149⟩ := Kd.R_slice HO474.out
             (first | subst eo149 | (injection eo149 with f1_ f2_ f3_; have f4_ := f1_.symm; have f5_ := f3_.symm; clear f1_ f2_ f3_; subst f4_; subst f5_))
             obtain ⟨Ao152, co152, eo152⟩ := Kd.R_slice HO478.out
             (first | subst eo152 | (injection eo152 with f1_ f2_ f3_; have f4_ := f1_.symm; have f5_ := f3_.symm; clear f1_ f2_ f3_; subst f4_; subst f5_))
             refine norm_ (a' := ?_) ?_ ?_
             rotate_left
             ·simp only [putAll, Act.put, List.setIfInBounds_toArray, List.set_cons_zero, List.set_cons_succ]
              rfl
             refine one_ (i := 10) (N := none) #[true, true, true, true, true, true, true, true, true, true, true, false] rfl rfl (one_of HT_.out (by kernel_rfl)) (by decide) (fun K hK => ?_)
             have hs150 : w148.cell? ⟨gb481, 0, none⟩ = some (.slice none 0 0) := (blk_cell BK481.out 0).trans rfl
             have hfs150 := blk_frozen BK481.out 0
             have hns150_0 := NB391_481.out
             have hns150_1 := NB414_481.out
             have hns150_2 := NB426_481.out
             have hns150_3 := NB436_481.out
             have hms150_0 := NB481_391.out
             have hms150_1 := NB481_414.out
             have hms150_2 := NB481_426.out
             have hms150_3 := NB481_436.out
             have hs151 : w148.cell? ⟨gb481, 1, none⟩ = some (.int .i64 0) := (blk_cell BK481.out 1).trans rfl
             have hfs151 := blk_frozen BK481.out 1
             have hns151_0 := NB391_481.out
             have hns151_1 := NB414_481.out
             have hns151_2 := NB426_481.out
             have hns151_3 := NB436_481.out
             have hms151_0 := NB481_391.out
             have hms151_1 := NB481_414.out
             have hms151_2 := NB481_426.out
             have hms151_3 := NB481_436.out
             have hs153 : w148.cell? ⟨gb481, 2, none⟩ = some (.slice none 0 0) := (blk_cell BK481.out 2).trans rfl
             have hfs153 := blk_frozen BK481.out 2
             have hns153_0 := NB391_481.out
             have hns153_1 := NB414_481.out
             have hns153_2 := NB426_481.out
             have hns153_3 := NB436_481.out
             have hms153_0 := NB481_391.out
             have hms153_1 := NB481_414.out
             have hms153_2 := NB481_426.out
             have hms153_3 := NB481_436.out
             have hs154 : w148.cell? ⟨gb481, 3, none⟩ = some (.int .i64 0) := (blk_cell BK481.out 3).trans rfl
             have hfs154 := blk_frozen BK481.out 3
             have hns154_0 := NB391_481.out
             have hns154_1 := NB414_481.out
             have hns154_2 := NB426_481.out
             have hns154_3 := NB436_481.out
             have hms154_0 := NB481_391.out
             have hms154_1 := NB481_414.out
             have hms154_2 := NB481_426.out
             have hms154_3 := NB481_436.out
             refine skip_ (w1 := ?_) (by rfl) rfl ?_ ?_
             rotate_left
             ·go_simp
              rfl
             refine hK.out _ _ ⟨((cell_far (p := ⟨gb481, _, none⟩) NB391_481.out _).trans (((cell_far (p := ⟨gb481, _, none⟩) NB391_481.out _).trans (((cell_far (p := ⟨gb481, _, none⟩) NB391_481.out _).trans (((cell_far (p := ⟨gb481, _, none⟩) NB391_481.out _).trans (hHeld.1)))))))), ((cell_far (p := ⟨gb481, _, none⟩) NB391_481.out _).trans (((cell_far (p := ⟨gb481, _, none⟩) NB391_481.out _).trans (((cell_far (p := ⟨gb481, _, none⟩) NB391_481.out _).trans (((cell_far (p := ⟨gb481, _, none⟩) NB391_481.out _).trans (hHeld.2.1)))))))), ((cell_far (p := ⟨gb481, _, none⟩) NB391_481.out _).trans (((cell_far (p := ⟨gb481, _, none⟩) NB391_481.out _).trans (((cell_far (p := ⟨gb481, _, none⟩) NB391_481.out _).trans (((cell_far (p := ⟨gb481, _, none⟩) NB391_481.out _).trans (hHeld.2.2.1)))))))), ((cell_far (p := ⟨gb481, _, none⟩) NB391_481.out _).trans (((cell_far (p := ⟨gb481, _, none⟩) NB391_481.out _).trans (((cell_far (p := ⟨gb481, _, none⟩) NB391_481.out _).trans (((cell_far (p := ⟨gb481, _, none⟩) NB391_481.out _).trans (hHeld.2.2.2))))))))⟩ (fun hHeld => ?_)
             clear hK K
             refine S.pS 11 18 ?_
             refine done_ (done_of HT_.out (by kernel_rfl)) ?_
             go_upto_region 32 with (fail)
             go_cut [115] (fun v115 wc => ∃ (kq : Nat) (x115_131 : Bool), v115 = .bool x115_131 ∧ Aside0 (laws_FnExactCutFor.j2 kq t457 x115_131 t458 t430 t459 t434 = some r) ∧ Aside0 (kq ≤ kj82) ∧ Aside0 (Kd.R (Kd.int .i64) 3 wc w.heap.size (fun k_ => some k_ ≠ ((.slice Ao34 t409.length co34) : Value).ownBlock ∧ some k_ ≠ ((.slice Ao42 t454.length co42) : Value).ownBlock ∧ some k_ ≠ ((.slice Ao46 t455.length co46) : Value).ownBlock ∧ some k_ ≠ ((.slice Ao50 t427.length co50) : Value).ownBlock ∧ some k_ ≠ ((.slice Ao55 t431.length co55) : Value).ownBlock ∧ some k_ ≠ ((.slice Ao149 t472.length co149) : Value).ownBlock ∧ some k_ ≠ ((.slice Ao152 t476.length co152) : Value).ownBlock) (.slice Ao31 t405.length co31) t405) ∧ Aside0 (Kd.R (Kd.int .i64) 3 wc w.heap.size (fun k_ => some k_ ≠ ((.slice Ao31 t405.length co31) : Value).ownBlock ∧ some k_ ≠ ((.slice Ao42 t454.length co42) : Value).ownBlock ∧ some k_ ≠ ((.slice Ao46 t455.length co46) : Value).ownBlock ∧ some k_ ≠ ((.slice Ao50 t427.length co50) : Value).ownBlock ∧ some k_ ≠ ((.slice Ao55 t431.length co55) : Value).ownBlock ∧ some k_ ≠ ((.slice Ao149 t472.length co149) : Value).ownBlock ∧ some k_ ≠ ((.slice Ao152 t476.length co152) : Value).ownBlock) (.slice Ao34 t409.length co34) t409) ∧ Aside0 (Kd.R (Kd.int .i64) 3 wc w.heap.size (fun k_ => some k_ ≠ ((.slice Ao31 t405.length co31) : Value).ownBlock ∧ some k_ ≠ ((.slice Ao34 t409.length co34) : Value).ownBlock ∧ some k_ ≠ ((.slice Ao46 t455.length co46) : Value).ownBlock ∧ some k_ ≠ ((.slice Ao50 t427.length co50) : Value).ownBlock ∧ some k_ ≠ ((.slice Ao55 t431.length co55) : Value).ownBlock ∧ some k_ ≠ ((.slice Ao149 t472.length co149) : Value).ownBlock ∧ some k_ ≠ ((.slice Ao152 t476.length co152) : Value).ownBlock) (.slice Ao42 t454.length co42) t454) ∧ Aside0 (Kd.R (Kd.int .i64) 3 wc w.heap.size (fun k_ => some k_ ≠ ((.slice Ao31 t405.length co31) : Value).ownBlock ∧ some k_ ≠ ((.slice Ao34 t409.length co34) : Value).ownBlock ∧ some k_ ≠ ((.slice Ao42 t454.length co42) : Value).ownBlock ∧ some k_ ≠ ((.slice Ao50 t427.length co50) : Value).ownBlock ∧ some k_ ≠ ((.slice Ao55 t431.length co55) : Value).ownBlock ∧ some k_ ≠ ((.slice Ao149 t472.length co149) : Value).ownBlock ∧ some k_ ≠ ((.slice Ao152 t476.length co152) : Value).ownBlock) (.slice Ao46 t455.length co46) t455) ∧ Aside0 (Kd.R (Kd.int .i64) 3 wc w.heap.size (fun k_ => some k_ ≠ ((.slice Ao31 t405.length co31) : Value).ownBlock ∧ some k_ ≠ ((.slice Ao34 t409.length co34) : Value).ownBlock ∧ some k_ ≠ ((.slice Ao42 t454.length co42) : Value).ownBlock ∧ some k_ ≠ ((.slice Ao46 t455.length co46) : Value).ownBlock ∧ some k_ ≠ ((.slice Ao55 t431.length co55) : Value).ownBlock ∧ some k_ ≠ ((.slice Ao149 t472.length co149) : Value).ownBlock ∧ some k_ ≠ ((.slice Ao152 t476.length co152) : Value).ownBlock) (.slice Ao50 t427.length co50) t458) ∧ Aside0 (Kd.R (Kd.int .i64) 3 wc w.heap.size (fun k_ => some k_ ≠ ((.slice Ao31 t405.length co31) : Value).ownBlock ∧ some k_ ≠ ((.slice Ao34 t409.length co34) : Value).ownBlock ∧ some k_ ≠ ((.slice Ao42 t454.length co42) : Value).ownBlock ∧ some k_ ≠ ((.slice Ao46 t455.length co46) : Value).ownBlock ∧ some k_ ≠ ((.slice Ao50 t427.length co50) : Value).ownBlock ∧ some k_ ≠ ((.slice Ao149 t472.length co149) : Value).ownBlock ∧ some k_ ≠ ((.slice Ao152 t476.length co152) : Value).ownBlock) (.slice Ao55 t431.length co55) t459) ∧ Aside0 (Kd.R (Kd.int .i64) 3 wc w.heap.size (fun k_ => some k_ ≠ ((.slice Ao31 t405.length co31) : Value).ownBlock ∧ some k_ ≠ ((.slice Ao34 t409.length co34) : Value).ownBlock ∧ some k_ ≠ ((.slice Ao42 t454.length co42) : Value).ownBlock ∧ some k_ ≠ ((.slice Ao46 t455.length co46) : Value).ownBlock ∧ some k_ ≠ ((.slice Ao50 t427.length co50) : Value).ownBlock ∧ some k_ ≠ ((.slice Ao55 t431.length co55) : Value).ownBlock ∧ some k_ ≠ ((.slice Ao152 t476.length co152) : Value).ownBlock) (.slice Ao149 t472.length co149) t472) ∧ Aside0 (Kd.R (Kd.int .i64) 3 wc w.heap.size (fun k_ => some k_ ≠ ((.slice Ao31 t405.length co31) : Value).ownBlock ∧ some k_ ≠ ((.slice Ao34 t409.length co34) : Value).ownBlock ∧ some k_ ≠ ((.slice Ao42 t454.length co42) : Value).ownBlock ∧ some k_ ≠ ((.slice Ao46 t455.length co46) : Value).ownBlock ∧ some k_ ≠ ((.slice Ao50 t427.length co50) : Value).ownBlock ∧ some k_ ≠ ((.slice Ao55 t431.length co55) : Value).ownBlock ∧ some k_ ≠ ((.slice Ao149 t472.length co149) : Value).ownBlock) (.slice Ao152 t476.length co152) t476) ∧ Aside0 (wc.heap[gb391]? = some (.cells #[(.slice A1_0 l1_0.length c1_0), .int .i64 a1_1, (.slice A1_2 l1_2.length c1_2), .int .i64 a1_3] 57 (0, 0))) ∧ Aside0 (wc.heap[gb414]? = some (.cells #[(.slice Ao31 t405.length co31), .int .i64 t408, (.slice Ao34 t409.length co34), .int .i64 t412] 60 (0, 0))) ∧ Aside0 (wc.heap[gb426]? = some (.cells #[(.slice Ao42 t454.length co42), .int .i64 t421, (.slice Ao46 t455.length co46), .int .i64 t425] 60 (0, 0))) ∧ Aside0 (wc.heap[gb436]? = some (.cells #[(.slice Ao50 t427.length co50), .int .i64 t430, (.slice Ao55 t431.length co55), .int .i64 t434] 60 (0, 0))) ∧ Aside0 (wc.heap[gb481]? = some (.cells #[(.slice Ao149 t472.length co149), .int .i64 t475, (.slice Ao152 t476.length co152), .int .i64 t479] 60 (0, 0))) ∧ Aside0 (Below w.heap.size w wc))
             case first =>
              have H := HC132.out
              clear HC132
              replace H := S.bd H; obtain ⟨t482, A155, H⟩ := H
              (try dsimp only at H)
              replace H := S.db H; rcases H with ⟨rfl, H⟩ | ⟨rfl, H⟩
              ·have H' := Aside0.mk H
               clear H
               have hnb157 := NB481_391.out
               have hnc157 := NB391_481.out
               have hnb158 := NB481_414.out
               have hnc158 := NB414_481.out
               have hnb159 := NB481_426.out
               have hnc159 := NB426_481.out
               have hnb160 := NB481_436.out
               have hnc160 := NB436_481.out
               obtain ⟨Z161a, Z161b, Z161c, Z161d, Y161a, Y161b, Y161c, Y161d⟩ := S.c4 BK481.out
               have hnb162 := NB414_391.out
               have hnc162 := NB391_414.out
               have hnb163 := NB414_426.out
               have hnc163 := NB426_414.out
               have hnb164 := NB414_436.out
               have hnc164 := NB436_414.out
               obtain ⟨Z165a, Z165b, Z165c, Z165d, Y165a, Y165b, Y165c, Y165d⟩ := S.c4 BK414.out
               go_wp2_with (first | ((with_reducible refine gate_callee (f := 37) rfl ?_); refine S.gL (some 109) Try.func37 #[.agg #[.slice Ao149 t472.length co149, .int .i64 t475, .slice Ao152 t476.length co152, .int .i64 t479], .agg #[.slice Ao31 t405.length co31, .int .i64 t408, .slice Ao34 t409.length co34, .int .i64 t412]] ?_; (with_reducible refine (laws_eqControl.calls kj82 _ _ t472 t475 _ _ t476 t479 _ _ t405 t408 _ _ t409 t412 true _ ?s1 (S.rl HO474) ?s3 (S.rl HO478) ?s5 (S.rl HO_415000) ?s7 (S.rl HO_415002) A155.out).mono ?_); (case s1 => refine (Kd.R_reads' (e := 3) (base := w.heap.size) (ok := fun k_ => (S.N k_ v465 ∧ (S.N k_ v469 ∧ (S.N k_ (.slice Ao152 t476.length co152) ∧ (S.N k_ (.slice Ao31 t405.length co31) ∧ (S.N k_ (.slice Ao34 t409.length co34) ∧ (S.N k_ (.slice Ao42 t454.length co42) ∧ (S.N k_ (.slice Ao46 t455.length co46) ∧ (S.N k_ (.slice Ao50 t427.length co50) ∧ S.N k_ (.slice Ao55 t431.length co55)))))))))) (n := t472.length) (c := co149) ?_).2.2; exact (S.G4 HO474 BK481)); (case s3 => refine (Kd.R_reads' (e := 3) (base := w.heap.size) (ok := fun k_ => (S.N k_ v465 ∧ (S.N k_ v469 ∧ (S.N k_ (.slice Ao149 t472.length co149) ∧ (S.N k_ (.slice Ao31 t405.length co31) ∧ (S.N k_ (.slice Ao34 t409.length co34) ∧ (S.N k_ (.slice Ao42 t454.length co42) ∧ (S.N k_ (.slice Ao46 t455.length co46) ∧ (S.N k_ (.slice Ao50 t427.length co50) ∧ S.N k_ (.slice Ao55 t431.length co55)))))))))) (n := t476.length) (c := co152) ?_).2.2; exact (S.G4 HO478 BK481)); (case s5 => refine (Kd.R_reads' (e := 3) (base := w.heap.size) (ok := fun k_ => (S.N k_ v465 ∧ (S.N k_ v469 ∧ (S.N k_ (.slice Ao149 t472.length co149) ∧ (S.N k_ (.slice Ao152 t476.length co152) ∧ (S.N k_ (.slice Ao34 t409.length co34) ∧ (S.N k_ (.slice Ao42 t454.length co42) ∧ (S.N k_ (.slice Ao46 t455.length co46) ∧ (S.N k_ (.slice Ao50 t427.length co50) ∧ S.N k_ (.slice Ao55 t431.length co55)))))))))) (n := t405.length) (c := co31) ?_).2.2; exact (S.G4 HO_415000 BK481)); (case s7 => refine (Kd.R_reads' (e := 3) (base := w.heap.size) (ok := fun k_ => (S.N k_ v465 ∧ (S.N k_ v469 ∧ (S.N k_ (.slice Ao149 t472.length co149) ∧ (S.N k_ (.slice Ao152 t476.length co152) ∧ (S.N k_ (.slice Ao31 t405.length co31) ∧ (S.N k_ (.slice Ao42 t454.length co42) ∧ (S.N k_ (.slice Ao46 t455.length co46) ∧ (S.N k_ (.slice Ao50 t427.length co50) ∧ S.N k_ (.slice Ao55 t431.length co55)))))))))) (n := t409.length) (c := co34) ?_).2.2; exact (S.G4 HO_415002 BK481)); rintro e w166 ⟨rfl, hb⟩; refine ⟨_, rfl, ?_⟩; replace HO_415000 := Aside0.mk (Kd.R_below (S.G4 HO_415000 BK481) hb); replace HO_415002 := Aside0.mk (Kd.R_below (S.G4 HO_415002 BK481) hb); replace HO_427000 := Aside0.mk (Kd.R_below (S.G4 HO_427000 BK481) hb); replace HO_427002 := Aside0.mk (Kd.R_below (S.G4 HO_427002 BK481) hb); replace HO_437000 := Aside0.mk (Kd.R_below (S.G4 HO_437000 BK481) hb); replace HO_437002 := Aside0.mk (Kd.R_below (S.G4 HO_437002 BK481) hb); replace HO463 := Aside0.mk (Kd.R_below (S.G4 HO463 BK481) hb); replace HO466 := Aside0.mk (Kd.R_below (S.G4 HO466 BK481) hb); replace HO470 := Aside0.mk (Kd.R_below (S.G4 HO470 BK481) hb); replace HO474 := Aside0.mk (Kd.R_below (S.G4 HO474 BK481) hb); replace HO478 := Aside0.mk (Kd.R_below (S.G4 HO478 BK481) hb); replace BK391 := S.kf BK391 NB391_481 hb; replace BK414 := S.kf BK414 NB414_481 hb; replace BK426 := S.kf BK426 NB426_481 hb; replace BK436 := S.kf BK436 NB436_481 hb; replace BK481 := S.kp4 BK481 hb; replace HB := S.sG hb; (try clear hb)))
               go_meet
               case rel => exact ⟨_, ((t480 != t413)), S.eA, H', ⟨by have := HJ17.out; have := HJ82.out; first | omega | exact Nat.le_refl _⟩, ⟨by (try simp only [hl427000_82]); (try simp only [hl427002_82]); (with_reducible repeat (first | apply Kd.R_alloc | apply Kd.R_drewN | apply Kd.R_drew)); exact Kd.R_mono HO_415000.out (fun _ hk => ⟨hk.2.2.2.2.1, ⟨hk.2.2.2.2.2.1, ⟨hk.2.2.2.2.2.2.1, ⟨hk.2.2.2.2.2.2.2.1, ⟨hk.2.2.2.2.2.2.2.2, ⟨hk.2.2.1, hk.2.2.2.1⟩⟩⟩⟩⟩⟩)⟩, ⟨by (try simp only [hl427000_82]); (try simp only [hl427002_82]); (with_reducible repeat (first | apply Kd.R_alloc | apply Kd.R_drewN | apply Kd.R_drew)); exact Kd.R_mono HO_415002.out (fun _ hk => ⟨hk.2.2.2.2.1, ⟨hk.2.2.2.2.2.1, ⟨hk.2.2.2.2.2.2.1, ⟨hk.2.2.2.2.2.2.2.1, ⟨hk.2.2.2.2.2.2.2.2, ⟨hk.2.2.1, hk.2.2.2.1⟩⟩⟩⟩⟩⟩)⟩, ⟨by (try simp only [hl427000_82]); (try simp only [hl427002_82]); (with_reducible repeat (first | apply Kd.R_alloc | apply Kd.R_drewN | apply Kd.R_drew)); exact Kd.R_mono HO_427000.out (fun _ hk => ⟨hk.2.2.2.2.1, ⟨hk.2.2.2.2.2.1, ⟨hk.2.2.2.2.2.2.1, ⟨hk.2.2.2.2.2.2.2.1, ⟨hk.2.2.2.2.2.2.2.2, ⟨hk.2.2.1, hk.2.2.2.1⟩⟩⟩⟩⟩⟩)⟩, ⟨by (try simp only [hl427000_82]); (try simp only [hl427002_82]); (with_reducible repeat (first | apply Kd.R_alloc | apply Kd.R_drewN | apply Kd.R_drew)); exact Kd.R_mono HO_427002.out (fun _ hk => ⟨hk.2.2.2.2.1, ⟨hk.2.2.2.2.2.1, ⟨hk.2.2.2.2.2.2.1, ⟨hk.2.2.2.2.2.2.2.1, ⟨hk.2.2.2.2.2.2.2.2, ⟨hk.2.2.1, hk.2.2.2.1⟩⟩⟩⟩⟩⟩)⟩, ⟨by (try simp only [hl427000_82]); (try simp only [hl427002_82]); (with_reducible repeat (first | apply Kd.R_alloc | apply Kd.R_drewN | apply Kd.R_drew)); exact Kd.R_mono HO_437000.out (fun _ hk => ⟨hk.2.2.2.2.1, ⟨hk.2.2.2.2.2.1, ⟨hk.2.2.2.2.2.2.1, ⟨hk.2.2.2.2.2.2.2.1, ⟨hk.2.2.2.2.2.2.2.2, ⟨hk.2.2.1, hk.2.2.2.1⟩⟩⟩⟩⟩⟩)⟩, ⟨by (try simp only [hl427000_82]); (try simp only [hl427002_82]); (with_reducible repeat (first | apply Kd.R_alloc | apply Kd.R_drewN | apply Kd.R_drew)); exact Kd.R_mono HO_437002.out (fun _ hk => ⟨hk.2.2.2.2.1, ⟨hk.2.2.2.2.2.1, ⟨hk.2.2.2.2.2.2.1, ⟨hk.2.2.2.2.2.2.2.1, ⟨hk.2.2.2.2.2.2.2.2, ⟨hk.2.2.1, hk.2.2.2.1⟩⟩⟩⟩⟩⟩)⟩, ⟨by (try simp only [hl427000_82]); (try simp only [hl427002_82]); (with_reducible repeat (first | apply Kd.R_alloc | apply Kd.R_drewN | apply Kd.R_drew)); exact Kd.R_mono HO474.out (fun _ hk => ⟨hk.2.2.2.1, ⟨hk.2.2.2.2.1, ⟨hk.2.2.2.2.2.1, ⟨hk.2.2.2.2.2.2.1, ⟨hk.2.2.2.2.2.2.2.1, ⟨hk.2.2.2.2.2.2.2.2, hk.2.2.1⟩⟩⟩⟩⟩⟩)⟩, ⟨by (try simp only [hl427000_82]); (try simp only [hl427002_82]); (with_reducible repeat (first | apply Kd.R_alloc | apply Kd.R_drewN | apply Kd.R_drew)); exact Kd.R_mono HO478.out (fun _ hk => ⟨hk.2.2.2.1, ⟨hk.2.2.2.2.1, ⟨hk.2.2.2.2.2.1, ⟨hk.2.2.2.2.2.2.1, ⟨hk.2.2.2.2.2.2.2.1, ⟨hk.2.2.2.2.2.2.2.2, hk.2.2.1⟩⟩⟩⟩⟩⟩)⟩, ⟨by (try simp only [hl427000_82]); (try simp only [hl427002_82]); (with_reducible repeat (first | refine blk_drewN ?_ _ | refine blk_drew ?_ | refine blk_alloc ?_ _)); exact BK391.out⟩, ⟨by (try simp only [hl427000_82]); (try simp only [hl427002_82]); (with_reducible repeat (first | refine blk_drewN ?_ _ | refine blk_drew ?_ | refine blk_alloc ?_ _)); exact BK414.out⟩, ⟨by (try simp only [hl427000_82]); (try simp only [hl427002_82]); (with_reducible repeat (first | refine blk_drewN ?_ _ | refine blk_drew ?_ | refine blk_alloc ?_ _)); exact BK426.out⟩, ⟨by (try simp only [hl427000_82]); (try simp only [hl427002_82]); (with_reducible repeat (first | refine blk_drewN ?_ _ | refine blk_drew ?_ | refine blk_alloc ?_ _)); exact BK436.out⟩, ⟨by (try simp only [hl427000_82]); (try simp only [hl427002_82]); (with_reducible repeat (first | refine blk_drewN ?_ _ | refine blk_drew ?_ | refine blk_alloc ?_ _)); exact BK481.out⟩, ⟨S.bG⟩⟩
              ·have H' := Aside0.mk H
               clear H
               have hnb167 := NB481_391.out
               have hnc167 := NB391_481.out
               have hnb168 := NB481_414.out
               have hnc168 := NB414_481.out
               have hnb169 := NB481_426.out
               have hnc169 := NB426_481.out
               have hnb170 := NB481_436.out
               have hnc170 := NB436_481.out
               obtain ⟨Z171a, Z171b, Z171c, Z171d, Y171a, Y171b, Y171c, Y171d⟩ := S.c4 BK481.out
               have hnb172 := NB414_391.out
               have hnc172 := NB391_414.out
               have hnb173 := NB414_426.out
               have hnc173 := NB426_414.out
               have hnb174 := NB414_436.out
               have hnc174 := NB436_414.out
               obtain ⟨Z175a, Z175b, Z175c, Z175d, Y175a, Y175b, Y175c, Y175d⟩ := S.c4 BK414.out
               go_wp2_with (first | ((with_reducible refine gate_callee (f := 37) rfl ?_); refine S.gL (some 109) Try.func37 #[.agg #[.slice Ao149 t472.length co149, .int .i64 t475, .slice Ao152 t476.length co152, .int .i64 t479], .agg #[.slice Ao31 t405.length co31, .int .i64 t408, .slice Ao34 t409.length co34, .int .i64 t412]] ?_; (with_reducible refine (laws_eqControl.calls kj82 _ _ t472 t475 _ _ t476 t479 _ _ t405 t408 _ _ t409 t412 false _ ?s1 (S.rl HO474) ?s3 (S.rl HO478) ?s5 (S.rl HO_415000) ?s7 (S.rl HO_415002) A155.out).mono ?_); (case s1 => refine (Kd.R_reads' (e := 3) (base := w.heap.size) (ok := fun k_ => (S.N k_ v465 ∧ (S.N k_ v469 ∧ (S.N k_ (.slice Ao152 t476.length co152) ∧ (S.N k_ (.slice Ao31 t405.length co31) ∧ (S.N k_ (.slice Ao34 t409.length co34) ∧ (S.N k_ (.slice Ao42 t454.length co42) ∧ (S.N k_ (.slice Ao46 t455.length co46) ∧ (S.N k_ (.slice Ao50 t427.length co50) ∧ S.N k_ (.slice Ao55 t431.length co55)))))))))) (n := t472.length) (c := co149) ?_).2.2; exact (S.G4 HO474 BK481)); (case s3 => refine (Kd.R_reads' (e := 3) (base := w.heap.size) (ok := fun k_ => (S.N k_ v465 ∧ (S.N k_ v469 ∧ (S.N k_ (.slice Ao149 t472.length co149) ∧ (S.N k_ (.slice Ao31 t405.length co31) ∧ (S.N k_ (.slice Ao34 t409.length co34) ∧ (S.N k_ (.slice Ao42 t454.length co42) ∧ (S.N k_ (.slice Ao46 t455.length co46) ∧ (S.N k_ (.slice Ao50 t427.length co50) ∧ S.N k_ (.slice Ao55 t431.length co55)))))))))) (n := t476.length) (c := co152) ?_).2.2; exact (S.G4 HO478 BK481)); (case s5 => refine (Kd.R_reads' (e := 3) (base := w.heap.size) (ok := fun k_ => (S.N k_ v465 ∧ (S.N k_ v469 ∧ (S.N k_ (.slice Ao149 t472.length co149) ∧ (S.N k_ (.slice Ao152 t476.length co152) ∧ (S.N k_ (.slice Ao34 t409.length co34) ∧ (S.N k_ (.slice Ao42 t454.length co42) ∧ (S.N k_ (.slice Ao46 t455.length co46) ∧ (S.N k_ (.slice Ao50 t427.length co50) ∧ S.N k_ (.slice Ao55 t431.length co55)))))))))) (n := t405.length) (c := co31) ?_).2.2; exact (S.G4 HO_415000 BK481)); (case s7 => refine (Kd.R_reads' (e := 3) (base := w.heap.size) (ok := fun k_ => (S.N k_ v465 ∧ (S.N k_ v469 ∧ (S.N k_ (.slice Ao149 t472.length co149) ∧ (S.N k_ (.slice Ao152 t476.length co152) ∧ (S.N k_ (.slice Ao31 t405.length co31) ∧ (S.N k_ (.slice Ao42 t454.length co42) ∧ (S.N k_ (.slice Ao46 t455.length co46) ∧ (S.N k_ (.slice Ao50 t427.length co50) ∧ S.N k_ (.slice Ao55 t431.length co55)))))))))) (n := t409.length) (c := co34) ?_).2.2; exact (S.G4 HO_415002 BK481)); rintro e w176 ⟨rfl, hb⟩; refine ⟨_, rfl, ?_⟩; replace HO_415000 := Aside0.mk (Kd.R_below (S.G4 HO_415000 BK481) hb); replace HO_415002 := Aside0.mk (Kd.R_below (S.G4 HO_415002 BK481) hb); replace HO_427000 := Aside0.mk (Kd.R_below (S.G4 HO_427000 BK481) hb); replace HO_427002 := Aside0.mk (Kd.R_below (S.G4 HO_427002 BK481) hb); replace HO_437000 := Aside0.mk (Kd.R_below (S.G4 HO_437000 BK481) hb); replace HO_437002 := Aside0.mk (Kd.R_below (S.G4 HO_437002 BK481) hb); replace HO463 := Aside0.mk (Kd.R_below (S.G4 HO463 BK481) hb); replace HO466 := Aside0.mk (Kd.R_below (S.G4 HO466 BK481) hb); replace HO470 := Aside0.mk (Kd.R_below (S.G4 HO470 BK481) hb); replace HO474 := Aside0.mk (Kd.R_below (S.G4 HO474 BK481) hb); replace HO478 := Aside0.mk (Kd.R_below (S.G4 HO478 BK481) hb); replace BK391 := S.kf BK391 NB391_481 hb; replace BK414 := S.kf BK414 NB414_481 hb; replace BK426 := S.kf BK426 NB426_481 hb; replace BK436 := S.kf BK436 NB436_481 hb; replace BK481 := S.kp4 BK481 hb; replace HB := S.sG hb; (try clear hb)))
               go_meet
               case rel => exact ⟨_, (true), S.eA, H', ⟨by have := HJ17.out; have := HJ82.out; first | omega | exact Nat.le_refl _⟩, ⟨by (try simp only [hl427000_82]); (try simp only [hl427002_82]); (with_reducible repeat (first | apply Kd.R_alloc | apply Kd.R_drewN | apply Kd.R_drew)); exact Kd.R_mono HO_415000.out (fun _ hk => ⟨hk.2.2.2.2.1, ⟨hk.2.2.2.2.2.1, ⟨hk.2.2.2.2.2.2.1, ⟨hk.2.2.2.2.2.2.2.1, ⟨hk.2.2.2.2.2.2.2.2, ⟨hk.2.2.1, hk.2.2.2.1⟩⟩⟩⟩⟩⟩)⟩, ⟨by (try simp only [hl427000_82]); (try simp only [hl427002_82]); (with_reducible repeat (first | apply Kd.R_alloc | apply Kd.R_drewN | apply Kd.R_drew)); exact Kd.R_mono HO_415002.out (fun _ hk => ⟨hk.2.2.2.2.1, ⟨hk.2.2.2.2.2.1, ⟨hk.2.2.2.2.2.2.1, ⟨hk.2.2.2.2.2.2.2.1, ⟨hk.2.2.2.2.2.2.2.2, ⟨hk.2.2.1, hk.2.2.2.1⟩⟩⟩⟩⟩⟩)⟩, ⟨by (try simp only [hl427000_82]); (try simp only [hl427002_82]); (with_reducible repeat (first | apply Kd.R_alloc | apply Kd.R_drewN | apply Kd.R_drew)); exact Kd.R_mono HO_427000.out (fun _ hk => ⟨hk.2.2.2.2.1, ⟨hk.2.2.2.2.2.1, ⟨hk.2.2.2.2.2.2.1, ⟨hk.2.2.2.2.2.2.2.1, ⟨hk.2.2.2.2.2.2.2.2, ⟨hk.2.2.1, hk.2.2.2.1⟩⟩⟩⟩⟩⟩)⟩, ⟨by (try simp only [hl427000_82]); (try simp only [hl427002_82]); (with_reducible repeat (first | apply Kd.R_alloc | apply Kd.R_drewN | apply Kd.R_drew)); exact Kd.R_mono HO_427002.out (fun _ hk => ⟨hk.2.2.2.2.1, ⟨hk.2.2.2.2.2.1, ⟨hk.2.2.2.2.2.2.1, ⟨hk.2.2.2.2.2.2.2.1, ⟨hk.2.2.2.2.2.2.2.2, ⟨hk.2.2.1, hk.2.2.2.1⟩⟩⟩⟩⟩⟩)⟩, ⟨by (try simp only [hl427000_82]); (try simp only [hl427002_82]); (with_reducible repeat (first | apply Kd.R_alloc | apply Kd.R_drewN | apply Kd.R_drew)); exact Kd.R_mono HO_437000.out (fun _ hk => ⟨hk.2.2.2.2.1, ⟨hk.2.2.2.2.2.1, ⟨hk.2.2.2.2.2.2.1, ⟨hk.2.2.2.2.2.2.2.1, ⟨hk.2.2.2.2.2.2.2.2, ⟨hk.2.2.1, hk.2.2.2.1⟩⟩⟩⟩⟩⟩)⟩, ⟨by (try simp only [hl427000_82]); (try simp only [hl427002_82]); (with_reducible repeat (first | apply Kd.R_alloc | apply Kd.R_drewN | apply Kd.R_drew)); exact Kd.R_mono HO_437002.out (fun _ hk => ⟨hk.2.2.2.2.1, ⟨hk.2.2.2.2.2.1, ⟨hk.2.2.2.2.2.2.1, ⟨hk.2.2.2.2.2.2.2.1, ⟨hk.2.2.2.2.2.2.2.2, ⟨hk.2.2.1, hk.2.2.2.1⟩⟩⟩⟩⟩⟩)⟩, ⟨by (try simp only [hl427000_82]); (try simp only [hl427002_82]); (with_reducible repeat (first | apply Kd.R_alloc | apply Kd.R_drewN | apply Kd.R_drew)); exact Kd.R_mono HO474.out (fun _ hk => ⟨hk.2.2.2.1, ⟨hk.2.2.2.2.1, ⟨hk.2.2.2.2.2.1, ⟨hk.2.2.2.2.2.2.1, ⟨hk.2.2.2.2.2.2.2.1, ⟨hk.2.2.2.2.2.2.2.2, hk.2.2.1⟩⟩⟩⟩⟩⟩)⟩, ⟨by (try simp only [hl427000_82]); (try simp only [hl427002_82]); (with_reducible repeat (first | apply Kd.R_alloc | apply Kd.R_drewN | apply Kd.R_drew)); exact Kd.R_mono HO478.out (fun _ hk => ⟨hk.2.2.2.1, ⟨hk.2.2.2.2.1, ⟨hk.2.2.2.2.2.1, ⟨hk.2.2.2.2.2.2.1, ⟨hk.2.2.2.2.2.2.2.1, ⟨hk.2.2.2.2.2.2.2.2, hk.2.2.1⟩⟩⟩⟩⟩⟩)⟩, ⟨by (try simp only [hl427000_82]); (try simp only [hl427002_82]); (with_reducible repeat (first | refine blk_drewN ?_ _ | refine blk_drew ?_ | refine blk_alloc ?_ _)); exact BK391.out⟩, ⟨by (try simp only [hl427000_82]); (try simp only [hl427002_82]); (with_reducible repeat (first | refine blk_drewN ?_ _ | refine blk_drew ?_ | refine blk_alloc ?_ _)); exact BK414.out⟩, ⟨by (try simp only [hl427000_82]); (try simp only [hl427002_82]); (with_reducible repeat (first | refine blk_drewN ?_ _ | refine blk_drew ?_ | refine blk_alloc ?_ _)); exact BK426.out⟩, ⟨by (try simp only [hl427000_82]); (try simp only [hl427002_82]); (with_reducible repeat (first | refine blk_drewN ?_ _ | refine blk_drew ?_ | refine blk_alloc ?_ _)); exact BK436.out⟩, ⟨by (try simp only [hl427000_82]); (try simp only [hl427002_82]); (with_reducible repeat (first | refine blk_drewN ?_ _ | refine blk_drew ?_ | refine blk_alloc ?_ _)); exact BK481.out⟩, ⟨S.bG⟩⟩
             case rest =>
              clear HC132
              obtain ⟨kq, x115_131, rfl, HA, HJ131, HO_415000, HO_415002, HO_427000, HO_427002, HO_437000, HO_437002, HO_482000, HO_482002, BK391, BK414, BK426, BK436, BK481, HB⟩ := hcut
              have hl437000_131 := (Kd.R_reads' HO_437000.out).1
              rw [hl437000_131] at HO_437000
              (try simp only [hl437000_131])
              (try simp only [hl437000_131] at BK391)
              (try simp only [hl437000_131] at BK414)
              (try simp only [hl437000_131] at BK426)
              (try simp only [hl437000_131] at BK436)
              (try simp only [hl437000_131] at BK481)
              (try simp only [hl437000_131] at HO_415000)
              (try simp only [hl437000_131] at HO_415002)
              (try simp only [hl437000_131] at HO_427000)
              (try simp only [hl437000_131] at HO_427002)
              (try simp only [hl437000_131] at HO_437002)
              (try simp only [hl437000_131] at HO_482000)
              (try simp only [hl437000_131] at HO_482002)
              have hl437002_131 := (Kd.R_reads' HO_437002.out).1
              rw [hl437002_131] at HO_437002
              (try simp only [hl437002_131])
              (try simp only [hl437002_131] at BK391)
              (try simp only [hl437002_131] at BK414)
              (try simp only [hl437002_131] at BK426)
              (try simp only [hl437002_131] at BK436)
              (try simp only [hl437002_131] at BK481)
              (try simp only [hl437002_131] at HO_415000)
              (try simp only [hl437002_131] at HO_415002)
              (try simp only [hl437002_131] at HO_427000)
              (try simp only [hl437002_131] at HO_427002)
              (try simp only [hl437002_131] at HO_437000)
              (try simp only [hl437002_131] at HO_482000)
              (try simp only [hl437002_131] at HO_482002)
              cases kq with
              | zero => exact absurd HA.out (by simp [laws_FnExactCutFor.j2])
              | succ kj131 =>
               have H := HA.out
               clear HA
               simp only [laws_FnExactCutFor.j2] at H
               replace H := S.db H; rcases H with ⟨rfl, H⟩ | ⟨rfl, H⟩
               ·obtain rfl := Option.some.inj H
                go_wp2
                go_ret
                exact ⟨S.eW, S.bG⟩
               ·replace H := S.bd H; obtain ⟨t483, A178, H⟩ := H
                (try dsimp only at H)
                replace H := S.dc H; rcases H with ⟨H, c179b0⟩ | ⟨H, c179b0⟩
                ·obtain rfl := Option.some.inj H
                 have hnb180 := NB436_391.out
                 have hnc180 := NB391_436.out
                 have hnb181 := NB436_414.out
                 have hnc181 := NB414_436.out
                 have hnb182 := NB436_426.out
                 have hnc182 := NB426_436.out
                 have hnb183 := NB436_481.out
                 have hnc183 := NB481_436.out
                 obtain ⟨Z184a, Z184b, Z184c, Z184d, Y184a, Y184b, Y184c, Y184d⟩ := S.c4 BK436.out
                 go_wp2_with (first | ((with_reducible refine gate_callee (f := 44) rfl ?_); refine S.gL (some 118) Try.func44 #[.agg #[.slice Ao50 t458.length co50, .int .i64 t430, .slice Ao55 t459.length co55, .int .i64 t434], .int .i64 1] ?_; (with_reducible refine (laws_heldControl.calls kj131 _ _ t458 t430 _ _ t459 t434 1 t483 _ ?s1 (S.rl HO_437000) ?s3 (S.rl HO_437002) A178.out).mono ?_); (case s1 => exact S.rd HO_437000); (case s3 => exact S.rd HO_437002); rintro e w185 ⟨rfl, hb⟩; refine ⟨_, rfl, ?_⟩; replace HO_415000 := S.rb HO_415000 hb; replace HO_415002 := S.rb HO_415002 hb; replace HO_427000 := S.rb HO_427000 hb; replace HO_427002 := S.rb HO_427002 hb; replace HO_437000 := S.rb HO_437000 hb; replace HO_437002 := S.rb HO_437002 hb; replace HO_482000 := S.rb HO_482000 hb; replace HO_482002 := S.rb HO_482002 hb; replace BK391 := S.kb BK391 hb; replace BK414 := S.kb BK414 hb; replace BK426 := S.kb BK426 hb; replace BK436 := S.kb BK436 hb; replace BK481 := S.kb BK481 hb; replace HB := S.sG hb; (try clear hb)))
                 go_ret
                 exact ⟨S.eW, S.bG⟩
                ·by_cases c186 : t483 = t457
                 ·rw [if_pos c186] at H
                  have c186b0 : (t483 == t457) = true := beq_iff_eq.mpr c186
                  have c186b1 : (t483 != t457) = false := bne_eq_false_iff_eq.mpr c186
                  clear c186
                  obtain rfl := Option.some.inj H
                  have hnb187 := NB436_391.out
                  have hnc187 := NB391_436.out
                  have hnb188 := NB436_414.out
                  have hnc188 := NB414_436.out
                  have hnb189 := NB436_426.out
                  have hnc189 := NB426_436.out
                  have hnb190 := NB436_481.out
                  have hnc190 := NB481_436.out
                  obtain ⟨Z191a, Z191b, Z191c, Z191d, Y191a, Y191b, Y191c, Y191d⟩ := S.c4 BK436.out
                  go_wp2_with (first | ((with_reducible refine gate_callee (f := 44) rfl ?_); refine S.gL (some 118) Try.func44 #[.agg #[.slice Ao50 t458.length co50, .int .i64 t430, .slice Ao55 t459.length co55, .int .i64 t434], .int .i64 1] ?_; (with_reducible refine (laws_heldControl.calls kj131 _ _ t458 t430 _ _ t459 t434 1 t483 _ ?s1 (S.rl HO_437000) ?s3 (S.rl HO_437002) A178.out).mono ?_); (case s1 => exact S.rd HO_437000); (case s3 => exact S.rd HO_437002); rintro e w192 ⟨rfl, hb⟩; refine ⟨_, rfl, ?_⟩; replace HO_415000 := S.rb HO_415000 hb; replace HO_415002 := S.rb HO_415002 hb; replace HO_427000 := S.rb HO_427000 hb; replace HO_427002 := S.rb HO_427002 hb; replace HO_437000 := S.rb HO_437000 hb; replace HO_437002 := S.rb HO_437002 hb; replace HO_482000 := S.rb HO_482000 hb; replace HO_482002 := S.rb HO_482002 hb; replace BK391 := S.kb BK391 hb; replace BK414 := S.kb BK414 hb; replace BK426 := S.kb BK426 hb; replace BK436 := S.kb BK436 hb; replace BK481 := S.kb BK481 hb; replace HB := S.sG hb; (try clear hb)))
                  go_ret
                  exact ⟨S.eW, S.bG⟩
                 ·rw [if_neg c186] at H
                  have c186b0 : (t483 == t457) = false := beq_eq_false_iff_ne.mpr c186
                  have c186b1 : (t483 != t457) = true := bne_iff_ne.mpr c186
                  obtain rfl := Option.some.inj H
                  have hnb193 := NB436_391.out
                  have hnc193 := NB391_436.out
                  have hnb194 := NB436_414.out
                  have hnc194 := NB414_436.out
                  have hnb195 := NB436_426.out
                  have hnc195 := NB426_436.out
                  have hnb196 := NB436_481.out
                  have hnc196 := NB481_436.out
                  obtain ⟨Z197a, Z197b, Z197c, Z197d, Y197a, Y197b, Y197c, Y197d⟩ := S.c4 BK436.out
                  go_wp2_with (first | ((with_reducible refine gate_callee (f := 44) rfl ?_); refine S.gL (some 118) Try.func44 #[.agg #[.slice Ao50 t458.length co50, .int .i64 t430, .slice Ao55 t459.length co55, .int .i64 t434], .int .i64 1] ?_; (with_reducible refine (laws_heldControl.calls kj131 _ _ t458 t430 _ _ t459 t434 1 t483 _ ?s1 (S.rl HO_437000) ?s3 (S.rl HO_437002) A178.out).mono ?_); (case s1 => exact S.rd HO_437000); (case s3 => exact S.rd HO_437002); rintro e w198 ⟨rfl, hb⟩; refine ⟨_, rfl, ?_⟩; replace HO_415000 := S.rb HO_415000 hb; replace HO_415002 := S.rb HO_415002 hb; replace HO_427000 := S.rb HO_427000 hb; replace HO_427002 := S.rb HO_427002 hb; replace HO_437000 := S.rb HO_437000 hb; replace HO_437002 := S.rb HO_437002 hb; replace HO_482000 := S.rb HO_482000 hb; replace HO_482002 := S.rb HO_482002 hb; replace BK391 := S.kb BK391 hb; replace BK414 := S.kb BK414 hb; replace BK426 := S.kb BK426 hb; replace BK436 := S.kb BK436 hb; replace BK481 := S.kb BK481 hb; replace HB := S.sG hb; (try clear hb)))
                  go_ret
                  exact ⟨S.eW, S.bG⟩
            ·rw [if_neg c128] at H
             have c128b0 : (t460 == t457) = false := beq_eq_false_iff_ne.mpr c128
             have c128b1 : (t460 != t457) = true := bne_iff_ne.mpr c128
             obtain rfl := Option.some.inj H
             have hnb199 := NB436_391.out
             have hnc199 := NB391_436.out
             have hnb200 := NB436_414.out
             have hnc200 := NB414_436.out
             have hnb201 := NB436_426.out
             have hnc201 := NB426_436.out
             obtain ⟨Z202a, Z202b, Z202c, Z202d, Y202a, Y202b, Y202c, Y202d⟩ := S.c4 BK436.out
             go_wp2_with (first | ((with_reducible refine gate_callee (f := 43) rfl ?_); refine S.gL (some 89) Try.func43 #[.agg #[.slice Ao50 t427.length co50, .int .i64 t430, .slice Ao55 t431.length co55, .int .i64 t434], .int .i64 1] ?_; (with_reducible refine (laws_markControl.calls kj82 (fun k_ => some k_ = (.slice Ao50 t427.length co50 : Value).ownBlock) (.slice Ao50 t427.length co50) t427 t430 (fun k_ => some k_ = (.slice Ao55 t431.length co55 : Value).ownBlock) (.slice Ao55 t431.length co55) t431 t434 1 t457 t458 t459 w _ ?s1 ?s2 ?s3 ?s4 ?s5 A118.out).mono ?_); (case s1 => exact S.bG); (case s2 => exact Kd.R_tight rfl HO_437000.out); (case s3 => exact fun k_ e_ => (HO_437000.out.1 k_ e_.symm).2.2.2.2); (case s4 => exact Kd.R_tight rfl HO_437002.out); (case s5 => exact fun k_ e_ => (HO_437002.out.1 k_ e_.symm).2.2.2.2); rintro e w203 ⟨rfl, hy0, hy1, hb, hkp⟩; refine ⟨_, rfl, ?_⟩; replace HO_415000 := Aside0.mk (Kd.R_mono (ok' := fun k_ => S.N k_ (.slice Ao34 t409.length co34) ∧ S.N k_ (.slice Ao42 t454.length co42) ∧ S.N k_ (.slice Ao46 t455.length co46) ∧ S.N k_ (.slice Ao50 t427.length co50) ∧ S.N k_ (.slice Ao55 t431.length co55)) (Kd.R_keptB (HO_415000.out) hkp (fun k_ hk_ hs_ => Or.elim hs_ (fun e_ => (hk_.2.2.2.1) e_) (fun e_ => (hk_.2.2.2.2) e_))) (fun k_ hk_ => ⟨hk_.1.1, hk_.1.2.1, hk_.1.2.2.1, hk_.1.2.2.2.1, hk_.1.2.2.2.2⟩)); replace HO_415002 := Aside0.mk (Kd.R_mono (ok' := fun k_ => S.N k_ (.slice Ao31 t405.length co31) ∧ S.N k_ (.slice Ao42 t454.length co42) ∧ S.N k_ (.slice Ao46 t455.length co46) ∧ S.N k_ (.slice Ao50 t427.length co50) ∧ S.N k_ (.slice Ao55 t431.length co55)) (Kd.R_keptB (HO_415002.out) hkp (fun k_ hk_ hs_ => Or.elim hs_ (fun e_ => (hk_.2.2.2.1) e_) (fun e_ => (hk_.2.2.2.2) e_))) (fun k_ hk_ => ⟨hk_.1.1, hk_.1.2.1, hk_.1.2.2.1, hk_.1.2.2.2.1, hk_.1.2.2.2.2⟩)); replace HO_427000 := Aside0.mk (Kd.R_mono (ok' := fun k_ => S.N k_ (.slice Ao31 t405.length co31) ∧ S.N k_ (.slice Ao34 t409.length co34) ∧ S.N k_ (.slice Ao46 t455.length co46) ∧ S.N k_ (.slice Ao50 t427.length co50) ∧ S.N k_ (.slice Ao55 t431.length co55)) (Kd.R_keptB (HO_427000.out) hkp (fun k_ hk_ hs_ => Or.elim hs_ (fun e_ => (hk_.2.2.2.1) e_) (fun e_ => (hk_.2.2.2.2) e_))) (fun k_ hk_ => ⟨hk_.1.1, hk_.1.2.1, hk_.1.2.2.1, hk_.1.2.2.2.1, hk_.1.2.2.2.2⟩)); replace HO_427002 := Aside0.mk (Kd.R_mono (ok' := fun k_ => S.N k_ (.slice Ao31 t405.length co31) ∧ S.N k_ (.slice Ao34 t409.length co34) ∧ S.N k_ (.slice Ao42 t454.length co42) ∧ S.N k_ (.slice Ao50 t427.length co50) ∧ S.N k_ (.slice Ao55 t431.length co55)) (Kd.R_keptB (HO_427002.out) hkp (fun k_ hk_ hs_ => Or.elim hs_ (fun e_ => (hk_.2.2.2.1) e_) (fun e_ => (hk_.2.2.2.2) e_))) (fun k_ hk_ => ⟨hk_.1.1, hk_.1.2.1, hk_.1.2.2.1, hk_.1.2.2.2.1, hk_.1.2.2.2.2⟩)); replace BK391 := Aside0.mk (blk_kept (S.uB BK391.out) hkp (fun hs_ => Or.elim hs_ (fun e_ => (fun e_ => (Kd.R_ne HO_437000.out BK391.out (by decide)) e_) e_) (fun e_ => (fun e_ => (Kd.R_ne HO_437002.out BK391.out (by decide)) e_) e_))); replace BK414 := Aside0.mk (blk_kept (S.uB BK414.out) hkp (fun hs_ => Or.elim hs_ (fun e_ => (fun e_ => (Kd.R_ne HO_437000.out BK414.out (by decide)) e_) e_) (fun e_ => (fun e_ => (Kd.R_ne HO_437002.out BK414.out (by decide)) e_) e_))); replace BK426 := Aside0.mk (blk_kept (S.uB BK426.out) hkp (fun hs_ => Or.elim hs_ (fun e_ => (fun e_ => (Kd.R_ne HO_437000.out BK426.out (by decide)) e_) e_) (fun e_ => (fun e_ => (Kd.R_ne HO_437002.out BK426.out (by decide)) e_) e_))); replace BK436 := Aside0.mk (blk_kept (S.uB BK436.out) hkp (fun hs_ => Or.elim hs_ (fun e_ => (fun e_ => (Kd.R_ne HO_437000.out BK436.out (by decide)) e_) e_) (fun e_ => (fun e_ => (Kd.R_ne HO_437002.out BK436.out (by decide)) e_) e_))); replace HO_437000 := Aside0.mk (Kd.R_reok rfl hy0 (fun k_ e_ => HO_437000.out.1 k_ e_)); replace HO_437002 := Aside0.mk (Kd.R_reok rfl hy1 (fun k_ e_ => HO_437002.out.1 k_ e_)); replace HB := Aside0.mk (hb); (try clear hb); (try clear hkp); (try clear hy0); (try clear hy1); obtain ⟨Z204a, Z204b, Z204c, Z204d, Y204a, Y204b, Y204c, Y204d⟩ := S.c4 BK436.out) | ((with_reducible refine gate_callee (f := 44) rfl ?_); refine goesL_ (some 92) rfl rfl Try.func44 (by kernel_rfl) rfl #[.agg #[.slice Ao50 t458.length co50, .int .i64 t430, .slice Ao55 t459.length co55, .int .i64 t434], .int .i64 1] rfl (by (try simp only [List.map_toArray, List.map_cons, List.map_nil]); first | done | (rw [show t458.length = t427.length from (Kd.R_reads' HO_437000.out).1.symm, show t459.length = t431.length from (Kd.R_reads' HO_437002.out).1.symm] <;> rfl) | rfl | (simp only [List.length_drop, List.length_take]; rfl)) ?_; (with_reducible refine (laws_heldControl.calls kj82 _ _ t458 t430 _ _ t459 t434 1 t460 _ ?s1 ?s2 ?s3 ?s4 A119.out).mono ?_); (case s1 => exact S.rd HO_437000); (case s2 => rw [show t458.length = t427.length from (Kd.R_reads' HO_437000.out).1.symm]; exact S.rl HO_437000); (case s3 => exact S.rd HO_437002); (case s4 => rw [show t459.length = t431.length from (Kd.R_reads' HO_437002.out).1.symm]; exact S.rl HO_437002); rintro e w205 ⟨rfl, hb⟩; refine ⟨_, rfl, ?_⟩; replace HO_415000 := S.rb HO_415000 hb; replace HO_415002 := S.rb HO_415002 hb; replace HO_427000 := S.rb HO_427000 hb; replace HO_427002 := S.rb HO_427002 hb; replace HO_437000 := S.rb HO_437000 hb; replace HO_437002 := S.rb HO_437002 hb; replace BK391 := S.kb BK391 hb; replace BK414 := S.kb BK414 hb; replace BK426 := S.kb BK426 hb; replace BK436 := S.kb BK436 hb; replace HB := S.sG hb; (try clear hb)))
             go_ret
             exact ⟨S.eW, S.bG⟩
       ·obtain rfl := Option.some.inj H
        try go_wp2_with (first | ((with_reducible refine gate_callee (f := 14) rfl ?_); refine S.gL (some 60) Try.func14 #[.slice A0 l0.length c0] ?_; (with_reducible refine (laws_toPathS.calls kj17 _ _ l0 t438 _ ?s1 HC0.out A75.out).mono ?_); (case s1 => exact S.cA HR0.out); rintro e w206 ⟨v439, rfl, ho0, hb⟩; refine ⟨_, rfl, ?_⟩; replace HO_415000 := S.rb HO_415000 hb; replace HO_415002 := S.rb HO_415002 hb; replace HO_427000 := S.rb HO_427000 hb; replace HO_427002 := S.rb HO_427002 hb; replace HO_437000 := S.rb HO_437000 hb; replace HO_437002 := S.rb HO_437002 hb; have HO440 := S.rnG ho0 HO_10; replace HO_10 := S.re HO_10 ho0 hb; replace BK391 := S.kb BK391 hb; replace BK414 := S.kb BK414 hb; replace BK426 := S.kb BK426 hb; replace BK436 := S.kb BK436 hb; replace HB := S.sG hb; (try clear hb); (try clear ho0); obtain ⟨Ao207, co207, eo207⟩ := Kd.R_slice HO440.out; subst eo207) | ((with_reducible refine gate_callee (f := 19) rfl ?_); refine S.gL (some 61) Try.func19 #[.slice Ao47 t415.length co47, .slice Ao207 t438.length co207] ?_; (with_reducible refine (laws_eqPathS.calls kj17 _ _ t415 _ _ t438 true _ ?s1 (S.rl HO_10) ?s3 (S.rl HO440) A76.out).mono ?_); (case s1 => exact S.rd HO_10); (case s3 => exact S.rd HO440); rintro e w208 ⟨rfl, hb⟩; refine ⟨_, rfl, ?_⟩; replace HO_10 := S.rb HO_10 hb; replace HO_415000 := S.rb HO_415000 hb; replace HO_415002 := S.rb HO_415002 hb; replace HO_427000 := S.rb HO_427000 hb; replace HO_427002 := S.rb HO_427002 hb; replace HO_437000 := S.rb HO_437000 hb; replace HO_437002 := S.rb HO_437002 hb; replace HO440 := S.rb HO440 hb; replace BK391 := S.kb BK391 hb; replace BK414 := S.kb BK414 hb; replace BK426 := S.kb BK426 hb; replace BK436 := S.kb BK436 hb; replace HB := S.sG hb; (try clear hb)))
        replace HO_10 := S.dr HO_10
        replace HO_415000 := S.dr HO_415000
        replace HO_415002 := S.dr HO_415002
        replace HO_427000 := S.dr HO_427000
        replace HO_427002 := S.dr HO_427002
        replace HO_437000 := S.dr HO_437000
        replace HO_437002 := S.dr HO_437002
        replace HO440 := S.dr HO440
        replace BK391 := Aside0.mk (blk_drew BK391.out)
        replace BK414 := Aside0.mk (blk_drew BK414.out)
        replace BK426 := Aside0.mk (blk_drew BK426.out)
        replace BK436 := Aside0.mk (blk_drew BK436.out)
        replace HB := Aside0.mk (below_drew1 HB.out)
        refine start_ (n := 5) (S := fun w' => w'.cell? ⟨gb426, 0, none⟩ = some (.slice Ao42 t418.length co42) ∧ w'.cell? ⟨gb426, 1, none⟩ = some (.int .i64 t421) ∧ w'.cell? ⟨gb426, 2, none⟩ = some (.slice Ao46 t422.length co46) ∧ w'.cell? ⟨gb426, 3, none⟩ = some (.int .i64 t425) ∧ w'.cell? ⟨gb391, 0, none⟩ = some (.slice A1_0 l1_0.length c1_0) ∧ w'.cell? ⟨gb391, 1, none⟩ = some (.int .i64 a1_1) ∧ w'.cell? ⟨gb391, 2, none⟩ = some (.slice A1_2 l1_2.length c1_2) ∧ w'.cell? ⟨gb391, 3, none⟩ = some (.int .i64 a1_3)) (ds := []) #[false, false, false, false, false] (by kernel_rfl) rfl rfl ⟨(blk_cell BK426.out 0).trans rfl, (blk_cell BK426.out 1).trans rfl, (blk_cell BK426.out 2).trans rfl, (blk_cell BK426.out 3).trans rfl, (blk_cell BK391.out 0).trans rfl, (blk_cell BK391.out 1).trans rfl, (blk_cell BK391.out 2).trans rfl, (blk_cell BK391.out 3).trans rfl⟩ (fun hHeld => ?_)
        generalize w208.drew = w209 at HO_10 HO_415000 HO_415002 HO_427000 HO_427002 HO_437000 HO_437002 HO440 BK391 BK414 BK426 BK436 HB hHeld ⊢
        refine take_ (i := 0) (N := some 63) (v := ?_) (a' := ?_) #[true, false, false, false, false] rfl rfl (by kernel_rfl) (fun _ _ _ h => h) (Or.inl ⟨by rfl, ?_⟩) hHeld ?_ ?_
        rotate_left
        ·rintro w' ⟨s0, s1, s2, s3, s4, s5, s6, s7⟩
         go_simp
         with_reducible rfl
        rotate_left
        ·simp only [Act.put, List.setIfInBounds_toArray, List.set_cons_zero, List.set_cons_succ, i64_w, i32_w]
         rfl
        refine take_ (i := 1) (N := some 64) (v := ?_) (a' := ?_) #[true, true, false, false, false] rfl rfl (by kernel_rfl) (fun _ _ _ h => h) (Or.inl ⟨by rfl, ?_⟩) hHeld ?_ ?_
        rotate_left
        ·rintro w' ⟨s0, s1, s2, s3, s4, s5, s6, s7⟩
         go_simp
         with_reducible rfl
        rotate_left
        ·simp only [Act.put, List.setIfInBounds_toArray, List.set_cons_zero, List.set_cons_succ, i64_w, i32_w]
         rfl
        refine one_ (i := 2) (N := some 65) #[true, true, true, false, false] rfl rfl (by kernel_rfl) (by decide) (fun K hK => ?_)
        refine S.go Try.func35 #[.agg #[.slice A1_0 l1_0.length c1_0, .int .i64 a1_1, .slice A1_2 l1_2.length c1_2, .int .i64 a1_3]] ?_
        with_reducible refine (laws_toControl.calls kj17 _ _ l1_0 a1_1 _ _ l1_2 a1_3 t442 t445 t446 t449 _ ?s1 ?s2 ?s3 ?s4 A78.out).mono ?_
        (case s1 => exact S.cA HR1_0.out)
        (case s2 => exact HC1_0.out)
        (case s3 => exact S.cA HR1_2.out)
        (case s4 => exact HC1_2.out)
        rintro e w210 ⟨v443, v447, rfl, ho0, ho1, hb⟩
        refine ⟨_, rfl, ?_⟩
        replace HO_10 := S.rb HO_10 hb
        replace HO440 := S.rb HO440 hb
        have HO444 := Aside0.mk (Kd.R_lower (Kd.R_new' (Kd.R_new' (Kd.R_new' (Kd.R_new' (Kd.R_new' (Kd.R_new' ho0 (Kd.R_lt (S.uR HO_415000.out))) (Kd.R_lt (S.uR HO_415002.out))) (Kd.R_lt (S.uR HO_427000.out))) (Kd.R_lt (S.uR HO_427002.out))) (Kd.R_lt (S.uR HO_437000.out))) (Kd.R_lt (S.uR HO_437002.out))) (below_size S.bG))
        have HO448 := Aside0.mk (Kd.R_lower (Kd.R_new' (Kd.R_new' (Kd.R_new' (Kd.R_new' (Kd.R_new' (Kd.R_new' ho1 (Kd.R_lt (S.uR HO_415000.out))) (Kd.R_lt (S.uR HO_415002.out))) (Kd.R_lt (S.uR HO_427000.out))) (Kd.R_lt (S.uR HO_427002.out))) (Kd.R_lt (S.uR HO_437000.out))) (Kd.R_lt (S.uR HO_437002.out))) (below_size S.bG))
        replace HO_415000 := Aside0.mk (Kd.R_mono (Kd.R_told (Kd.R_told (Kd.R_old (S.uR HO_415000.out) hb) (Kd.R_base ho0)) (Kd.R_base ho1)) (fun _ h_ => h_.1))
        replace HO_415002 := Aside0.mk (Kd.R_mono (Kd.R_told (Kd.R_told (Kd.R_old (S.uR HO_415002.out) hb) (Kd.R_base ho0)) (Kd.R_base ho1)) (fun _ h_ => h_.1))
        replace HO_427000 := Aside0.mk (Kd.R_mono (Kd.R_told (Kd.R_told (Kd.R_old (S.uR HO_427000.out) hb) (Kd.R_base ho0)) (Kd.R_base ho1)) (fun _ h_ => h_.1))
        replace HO_427002 := Aside0.mk (Kd.R_mono (Kd.R_told (Kd.R_told (Kd.R_old (S.uR HO_427002.out) hb) (Kd.R_base ho0)) (Kd.R_base ho1)) (fun _ h_ => h_.1))
        replace HO_437000 := Aside0.mk (Kd.R_mono (Kd.R_told (Kd.R_told (Kd.R_old (S.uR HO_437000.out) hb) (Kd.R_base ho0)) (Kd.R_base ho1)) (fun _ h_ => h_.1))
        replace HO_437002 := Aside0.mk (Kd.R_mono (Kd.R_told (Kd.R_told (Kd.R_old (S.uR HO_437002.out) hb) (Kd.R_base ho0)) (Kd.R_base ho1)) (fun _ h_ => h_.1))
        replace BK391 := S.kb BK391 hb
        replace BK414 := S.kb BK414 hb
        replace BK426 := S.kb BK426 hb
        replace BK436 := S.kb BK436 hb
        replace HB := S.sG hb
        (try clear hb)
        (try clear hb2)
        (try clear hk)
        (try clear hi)
        (try clear ho0)
        (try clear ho1)
        obtain ⟨Ao211, co211, eo211⟩ := Kd.R_slice HO444.out
        (first | subst eo211 | (injection eo211 with f1_ f2_ f3_; have f4_ := f1_.symm; have f5_ := f3_.symm; clear f1_ f2_ f3_; subst f4_; subst f5_))
        obtain ⟨Ao212, co212, eo212⟩ := Kd.R_slice HO448.out
        (first | subst eo212 | (injection eo212 with f1_ f2_ f3_; have f4_ := f1_.symm; have f5_ := f3_.symm; clear f1_ f2_ f3_; subst f4_; subst f5_))
        refine hK.out _ _ (S.d4 BK426.out (S.e4 BK391.out)) (fun hHeld => ?_)
        clear hK K
        refine S.nm 65 ?_
        refine one_ (i := 3) (N := some 66) #[true, true, true, true, false] rfl rfl (by kernel_rfl) (by decide) (fun K hK => ?_)
        refine S.go Try.func37 #[.agg #[.slice Ao42 t418.length co42, .int .i64 t421, .slice Ao46 t422.length co46, .int .i64 t425], .agg #[.slice Ao211 t442.length co211, .int .i64 t445, .slice Ao212 t446.length co212, .int .i64 t449]] ?_
        with_reducible refine (laws_eqControl.calls kj17 _ _ t418 t421 _ _ t422 t425 _ _ t442 t445 _ _ t446 t449 false _ ?s1 ?s2 ?s3 ?s4 ?s5 ?s6 ?s7 ?s8 A79.out).mono ?_
        (case s1 => exact S.rd HO_427000)
        (case s2 => exact S.rl HO_427000)
        (case s3 => exact S.rd HO_427002)
        (case s4 => exact S.rl HO_427002)
        (case s5 => exact S.rd HO444)
        (case s6 => exact S.rl HO444)
        (case s7 => exact S.rd HO448)
        (case s8 => exact S.rl HO448)
        rintro e w213 ⟨rfl, hb⟩
        refine ⟨_, rfl, ?_⟩
        replace HO_10 := S.rb HO_10 hb
        replace HO_415000 := S.rb HO_415000 hb
        replace HO_415002 := S.rb HO_415002 hb
        replace HO_427000 := S.rb HO_427000 hb
        replace HO_427002 := S.rb HO_427002 hb
        replace HO_437000 := S.rb HO_437000 hb
        replace HO_437002 := S.rb HO_437002 hb
        replace HO440 := S.rb HO440 hb
        replace HO444 := S.rb HO444 hb
        replace HO448 := S.rb HO448 hb
        replace BK391 := S.kb BK391 hb
        replace BK414 := S.kb BK414 hb
        replace BK426 := S.kb BK426 hb
        replace BK436 := S.kb BK436 hb
        replace HB := S.sG hb
        (try clear hb)
        (try clear hb2)
        (try clear hk)
        (try clear hi)
        refine hK.out _ _ (S.d4 BK426.out (S.e4 BK391.out)) (fun hHeld => ?_)
        clear hK K
        refine S.nm 66 ?_
        refine pure_ (i := 4) (N := some 67) (v := ?_) (a' := ?_) #[true, true, true, true, true] rfl rfl (by kernel_rfl) (fun _ _ _ h => h) (Or.inl ⟨by rfl, ?_⟩) ?_ ?_
        rotate_left
        ·intro w'
         go_simp
         with_reducible rfl
        rotate_left
        ·simp only [Act.put, List.setIfInBounds_toArray, List.set_cons_zero, List.set_cons_succ, i64_w, i32_w]
         rfl
        refine done_ (by kernel_rfl) ?_
        try go_wp2
        go_ret
        exact ⟨S.eW, S.bG⟩
      ·obtain rfl := Option.some.inj H
       go_wp2_with (first | ((with_reducible refine gate_callee (f := 14) rfl ?_); refine S.gL (some 60) Try.func14 #[.slice A0 l0.length c0] ?_; (with_reducible refine (laws_toPathS.calls kj17 _ _ l0 t438 _ ?s1 HC0.out A75.out).mono ?_); (case s1 => exact S.cA HR0.out); rintro e w214 ⟨v439, rfl, ho0, hb⟩; refine ⟨_, rfl, ?_⟩; replace HO_415000 := S.rb HO_415000 hb; replace HO_415002 := S.rb HO_415002 hb; replace HO_427000 := S.rb HO_427000 hb; replace HO_427002 := S.rb HO_427002 hb; replace HO_437000 := S.rb HO_437000 hb; replace HO_437002 := S.rb HO_437002 hb; have HO440 := S.rnG ho0 HO_10; replace HO_10 := S.re HO_10 ho0 hb; replace BK391 := S.kb BK391 hb; replace BK414 := S.kb BK414 hb; replace BK426 := S.kb BK426 hb; replace BK436 := S.kb BK436 hb; replace HB := S.sG hb; (try clear hb); (try clear ho0); obtain ⟨Ao215, co215, eo215⟩ := Kd.R_slice HO440.out; subst eo215) | ((with_reducible refine gate_callee (f := 19) rfl ?_); refine S.gL (some 61) Try.func19 #[.slice Ao47 t415.length co47, .slice Ao215 t438.length co215] ?_; (with_reducible refine (laws_eqPathS.calls kj17 _ _ t415 _ _ t438 false _ ?s1 (S.rl HO_10) ?s3 (S.rl HO440) A76.out).mono ?_); (case s1 => exact S.rd HO_10); (case s3 => exact S.rd HO440); rintro e w216 ⟨rfl, hb⟩; refine ⟨_, rfl, ?_⟩; replace HO_10 := S.rb HO_10 hb; replace HO_415000 := S.rb HO_415000 hb; replace HO_415002 := S.rb HO_415002 hb; replace HO_427000 := S.rb HO_427000 hb; replace HO_427002 := S.rb HO_427002 hb; replace HO_437000 := S.rb HO_437000 hb; replace HO_437002 := S.rb HO_437002 hb; replace HO440 := S.rb HO440 hb; replace BK391 := S.kb BK391 hb; replace BK414 := S.kb BK414 hb; replace BK426 := S.kb BK426 hb; replace BK436 := S.kb BK436 hb; replace HB := S.sG hb; (try clear hb)))
       go_ret
       exact ⟨S.eW, S.bG⟩

end Go.Proofs.Ytopchlafmfgpnaa.PFnExactCutFor
