/- Printed by a program: what the Go functions compute, as plain Lean functions (.f), and the proofs that the machine's calls come to just that (.calls). -/
import Derived.Test.YtjgigmghcfdomaaPFnWavesx0
import Derived.Test.YtjgigmghcfdomaaPFnWavesx5
namespace Go.Proofs.Ytjgigmghcfdomaa.PFnWaves
open Go.RowKit Go.Proofs.YtjgigmghcfdomaaW.PrintWords Go.Proofs.YtjgigmghcfdomaaW.PrintLast Go.Proofs.YtjgigmghcfdomaaW.PrintMore
attribute [local go_sem] max2_int min2_int max_two min_two max_three min_three max_four min_four   -- for this text's walks alone
set_option linter.unusedVariables false
set_option linter.unusedSimpArgs false
/-! ### impl_InWindow: function 43 -/
def impl_InWindow.f (a0_0 : Int) (a0_1 : Int) (a1 : Int) (a2 : Int) (a3 : Int) : Option (Bool) := (impl_IsWindow.f a0_0 a0_1 a1).bind fun t323 => (if t323 = true then ((impl_InRange.f a2 (-1000000) 1000000).bind fun t324 => (if t324 = true then ((impl_InRange.f a3 (-1000000) 1000000).bind fun t325 => (if t325 = true then ((impl_Mod.f (wrap64 ((wrap64 (a3 - a2)) - a0_0)) a1).bind fun t326 => (some (decide (t326 < a0_1)))) else (some false))) else (some false))) else (some false))
def impl_InWindow.T1 : Bool × List (List Nat × List Nat) := (true, [([], []), ([], []), ([0, 1], [0, 1]), ([2, 2], [2]), ([3], [3]), ([4, 3, 3], [3, 4]), ([3, 5], [3, 5]), ([6, 5], [6]), ([7], [7]), ([8, 7, 7], [7, 8]), ([7, 9], [7, 9]), ([10, 9], [10]), ([11], [11]), ([11], [11]), ([12, 13, 11], [11, 12, 13]), ([11], [11]), ([15, 11], [11, 15]), ([14, 16, 11], [11, 14, 16]), ([11], [11]), ([17, 18, 11, 11], [11, 17, 18]), ([11], [11]), ([20, 11], [11, 20]), ([19, 21, 11], [11, 19, 21]), ([11, 22], [11, 22]), ([23, 19, 0, 1, 2, 3, 4, 5, 6, 7, 8, 9, 10, 11, 12, 13, 14, 15, 16, 17, 18, 19, 20, 21, 22, 23], [23])])
def impl_InWindow.B1 : List Nat := [0, 0, 3, 7, 15, 31, 63, 127, 255, 511, 1023, 2047, 4095, 4095, 16383, 4095, 36863, 131071, 4095, 524287, 4095, 1052671, 4194303, 8388607, 16777215]
theorem impl_InWindow.tab1 : rtab .any (opsOf Try.f43 1) = impl_InWindow.T1 := by kernel_rfl
theorem impl_InWindow.bits1 : waitsOk impl_InWindow.T1.2 impl_InWindow.B1 = true := by kernel_rfl
set_option maxHeartbeats 8000000 in
set_option maxRecDepth 100000 in
theorem impl_InWindow.calls (a0_0 : Int) (a0_1 : Int) (a1 : Int) (a2 : Int) (a3 : Int) (r : Bool) (w : World) (h : impl_InWindow.f a0_0 a0_1 a1 a2 a3 = some r) :
  Calls Try.prog 43 #[.agg #[.int .i64 a0_0, .int .i64 a0_1], .int .i64 a1, .int .i64 a2, .int .i64 a3] w fun e w' => e = .returned (.bool r) ∧ Below w.heap.size w w' := by
 have hu45 := Try.underlying45
 have HB := Aside0.mk (Below.refl w.heap.size w)
 have H : ((impl_IsWindow.f a0_0 a0_1 a1).bind fun t323 => (if t323 = true then ((impl_InRange.f a2 (-1000000) 1000000).bind fun t324 => (if t324 = true then ((impl_InRange.f a3 (-1000000) 1000000).bind fun t325 => (if t325 = true then ((impl_Mod.f (wrap64 ((wrap64 (a3 - a2)) - a0_0)) a1).bind fun t326 => (some (decide (t326 < a0_1)))) else (some false))) else (some false))) else (some false))) = some r := h
 clear h
 replace H := S.bd H; obtain ⟨t323, A5, H⟩ := H
 (try dsimp only at H)
 replace H := S.db H; rcases H with ⟨rfl, H⟩ | ⟨rfl, H⟩
 ·replace H := S.bd H; obtain ⟨t324, A7, H⟩ := H
  (try dsimp only at H)
  replace H := S.db H; rcases H with ⟨rfl, H⟩ | ⟨rfl, H⟩
  ·replace H := S.bd H; obtain ⟨t325, A9, H⟩ := H
   (try dsimp only at H)
   replace H := S.db H; rcases H with ⟨rfl, H⟩ | ⟨rfl, H⟩
   ·replace H := S.bd H; obtain ⟨t326, A11, H⟩ := H
    (try dsimp only at H)
    obtain rfl := Option.some.inj H
    go_enter Try.func43, Try.ntmps43
    try go_wp2_with (first | ((with_reducible refine gate_dst (N := 4) rfl ?_); refine S.bx 4 (cs := #[.int .i64 a0_0, .int .i64 a0_1]) (t := 45) ?_; intro gb322 hg w12 hbox hb; have BK322 := Aside0.mk hbox; have GW322 := S.geA hg; have GE322 := S.geA hg; replace HB := S.sA hb; clear hb hbox hg))
    replace BK322 := Aside0.mk (blk_drew BK322.out)
    replace HB := Aside0.mk (below_drew1 HB.out)
    refine S.st (n := 25) (ds := []) #[false, false, false, false, false, false, false, false, false, false, false, false, false, false, false, false, false, false, false, false, false, false, false, false, false] (fun w_ h_ => have x_ := S.e2 (S.Q h_ BK322.out); x_) (fun hHeld => ?_); refine with_tabW impl_InWindow.tab1 impl_InWindow.bits1 (fun HT_ HW_ => ?_)
    generalize w12.drew = w13 at BK322 HB hHeld ⊢
    refine S.pS 1 10 ?_
    refine S.tK 0 9 #[true, true, false, false, false, false, false, false, false, false, false, false, false, false, false, false, false, false, false, false, false, false, false, false, false] ?_
    refine S.oN 2 11 #[true, true, true, false, false, false, false, false, false, false, false, false, false, false, false, false, false, false, false, false, false, false, false, false, false] (fun K hK => ?_)
    refine S.go Try.func39 #[.agg #[.int .i64 a0_0, .int .i64 a0_1], .int .i64 a1] ?_
    with_reducible refine (impl_IsWindow.calls a0_0 a0_1 a1 true _ A5.out).mono ?_
    rintro e w14 ⟨rfl, hb⟩
    refine ⟨_, rfl, ?_⟩
    replace BK322 := S.kb BK322 hb
    replace HB := S.sG hb
    (try clear hb)
    (try clear hb2)
    (try clear hk)
    (try clear hi)
    refine hK.out _ _ (S.e2 BK322.out) (fun hHeld => ?_)
    clear hK K
    refine S.nm 11 ?_
    refine S.pS 3 12 ?_
    refine S.pS 4 13 ?_
    refine S.oN 5 14 #[true, true, true, true, true, true, false, false, false, false, false, false, false, false, false, false, false, false, false, false, false, false, false, false, false] (fun K hK => ?_)
    refine S.go Try.func62 #[.int .i64 a2, .int .i64 (-1000000), .int .i64 1000000] ?_
    with_reducible refine (impl_InRange.calls a2 (-1000000) 1000000 true _ A7.out).mono ?_
    rintro e w' ⟨rfl, ⟨nd, rfl⟩⟩
    refine ⟨_, rfl, ?_⟩
    refine hK.out _ _ (S.e2 BK322.out) (fun hHeld => ?_)
    clear hK K
    refine S.nm 14 ?_
    refine S.pS 6 15 ?_
    refine S.pS 7 16 ?_
    refine S.pS 8 17 ?_
    refine S.oN 9 18 #[true, true, true, true, true, true, true, true, true, true, false, false, false, false, false, false, false, false, false, false, false, false, false, false, false] (fun K hK => ?_)
    refine S.go Try.func62 #[.int .i64 a3, .int .i64 (-1000000), .int .i64 1000000] ?_
    with_reducible refine (impl_InRange.calls a3 (-1000000) 1000000 true _ A9.out).mono ?_
    rintro e w' ⟨rfl, ⟨nd, rfl⟩⟩
    refine ⟨_, rfl, ?_⟩
    refine hK.out _ _ (S.e2 BK322.out) (fun hHeld => ?_)
    clear hK K
    refine S.nm 18 ?_
    refine S.pS 10 19 ?_
    refine S.pS 11 20 ?_
    refine S.pS 12 21 ?_
    refine S.pS 13 22 ?_
    refine S.pS 14 23 ?_
    refine S.pS 15 24 ?_
    refine S.pS 18 27 ?_
    refine S.pS 20 29 ?_
    refine S.tK 16 25 #[true, true, true, true, true, true, true, true, true, true, true, true, true, true, true, true, true, false, true, false, true, false, false, false, false] ?_
    refine S.pS 17 26 ?_
    refine S.tK 21 30 #[true, true, true, true, true, true, true, true, true, true, true, true, true, true, true, true, true, true, true, false, true, true, false, false, false] ?_
    refine S.oN 19 28 #[true, true, true, true, true, true, true, true, true, true, true, true, true, true, true, true, true, true, true, true, true, true, false, false, false] (fun K hK => ?_)
    refine S.go Try.func82 #[.int .i64 (wrap64 ((wrap64 (a3 - a2)) - a0_0)), .int .i64 a1] ?_
    with_reducible refine (impl_Mod.calls (wrap64 ((wrap64 (a3 - a2)) - a0_0)) a1 t326 _ A11.out).mono ?_
    rintro e w' ⟨rfl, ⟨nd, rfl⟩⟩
    refine ⟨_, rfl, ?_⟩
    refine hK.out _ _ (S.e2 BK322.out) (fun hHeld => ?_)
    clear hK K
    refine S.nm 28 ?_
    refine S.pS 22 31 ?_
    refine S.pS 23 32 ?_
    refine S.pS 24 8 ?_
    refine done_ (done_of HT_.out (by kernel_rfl)) ?_
    try go_wp2
    go_ret
    exact ⟨S.eW, S.bG⟩
   ·obtain rfl := Option.some.inj H
    go_enter Try.func43, Try.ntmps43
    try go_wp2_with (first | ((with_reducible refine gate_dst (N := 4) rfl ?_); refine S.bx 4 (cs := #[.int .i64 a0_0, .int .i64 a0_1]) (t := 45) ?_; intro gb322 hg w15 hbox hb; have BK322 := Aside0.mk hbox; have GW322 := S.geA hg; have GE322 := S.geA hg; replace HB := S.sA hb; clear hb hbox hg))
    replace BK322 := Aside0.mk (blk_drew BK322.out)
    replace HB := Aside0.mk (below_drew1 HB.out)
    refine S.st (n := 25) (ds := []) #[false, false, false, false, false, false, false, false, false, false, false, false, false, false, false, false, false, false, false, false, false, false, false, false, false] (fun w_ h_ => have x_ := S.e2 (S.Q h_ BK322.out); x_) (fun hHeld => ?_); refine with_tabW impl_InWindow.tab1 impl_InWindow.bits1 (fun HT_ HW_ => ?_)
    generalize w15.drew = w16 at BK322 HB hHeld ⊢
    refine S.pS 1 10 ?_
    refine S.tK 0 9 #[true, true, false, false, false, false, false, false, false, false, false, false, false, false, false, false, false, false, false, false, false, false, false, false, false] ?_
    refine S.oN 2 11 #[true, true, true, false, false, false, false, false, false, false, false, false, false, false, false, false, false, false, false, false, false, false, false, false, false] (fun K hK => ?_)
    refine S.go Try.func39 #[.agg #[.int .i64 a0_0, .int .i64 a0_1], .int .i64 a1] ?_
    with_reducible refine (impl_IsWindow.calls a0_0 a0_1 a1 true _ A5.out).mono ?_
    rintro e w17 ⟨rfl, hb⟩
    refine ⟨_, rfl, ?_⟩
    replace BK322 := S.kb BK322 hb
    replace HB := S.sG hb
    (try clear hb)
    (try clear hb2)
    (try clear hk)
    (try clear hi)
    refine hK.out _ _ (S.e2 BK322.out) (fun hHeld => ?_)
    clear hK K
    refine S.nm 11 ?_
    refine S.pS 3 12 ?_
    refine S.pS 4 13 ?_
    refine S.oN 5 14 #[true, true, true, true, true, true, false, false, false, false, false, false, false, false, false, false, false, false, false, false, false, false, false, false, false] (fun K hK => ?_)
    refine S.go Try.func62 #[.int .i64 a2, .int .i64 (-1000000), .int .i64 1000000] ?_
    with_reducible refine (impl_InRange.calls a2 (-1000000) 1000000 true _ A7.out).mono ?_
    rintro e w' ⟨rfl, ⟨nd, rfl⟩⟩
    refine ⟨_, rfl, ?_⟩
    refine hK.out _ _ (S.e2 BK322.out) (fun hHeld => ?_)
    clear hK K
    refine S.nm 14 ?_
    refine S.pS 6 15 ?_
    refine S.pS 7 16 ?_
    refine S.pS 8 17 ?_
    refine S.oN 9 18 #[true, true, true, true, true, true, true, true, true, true, false, false, false, false, false, false, false, false, false, false, false, false, false, false, false] (fun K hK => ?_)
    refine S.go Try.func62 #[.int .i64 a3, .int .i64 (-1000000), .int .i64 1000000] ?_
    with_reducible refine (impl_InRange.calls a3 (-1000000) 1000000 false _ A9.out).mono ?_
    rintro e w' ⟨rfl, ⟨nd, rfl⟩⟩
    refine ⟨_, rfl, ?_⟩
    refine hK.out _ _ (S.e2 BK322.out) (fun hHeld => ?_)
    clear hK K
    refine S.nm 18 ?_
    refine S.pS 10 19 ?_
    refine S.pS 11 20 ?_
    refine S.pU 12 21 ?_
    refine S.pU 13 22 ?_
    refine S.pU 14 23 ?_
    refine S.pU 15 24 ?_
    refine S.pU 16 25 ?_
    refine S.pU 17 26 ?_
    refine S.pU 18 27 ?_
    refine S.pU 19 28 ?_
    refine S.pU 20 29 ?_
    refine S.pU 21 30 ?_
    refine S.pU 22 31 ?_
    refine S.pS 23 32 ?_
    refine S.pS 24 8 ?_
    refine done_ (done_of HT_.out (by kernel_rfl)) ?_
    try go_wp2
    go_ret
    exact ⟨S.eW, S.bG⟩
  ·obtain rfl := Option.some.inj H
   go_enter Try.func43, Try.ntmps43
   try go_wp2_with (first | ((with_reducible refine gate_dst (N := 4) rfl ?_); refine S.bx 4 (cs := #[.int .i64 a0_0, .int .i64 a0_1]) (t := 45) ?_; intro gb322 hg w18 hbox hb; have BK322 := Aside0.mk hbox; have GW322 := S.geA hg; have GE322 := S.geA hg; replace HB := S.sA hb; clear hb hbox hg))
   replace BK322 := Aside0.mk (blk_drew BK322.out)
   replace HB := Aside0.mk (below_drew1 HB.out)
   refine S.st (n := 25) (ds := []) #[false, false, false, false, false, false, false, false, false, false, false, false, false, false, false, false, false, false, false, false, false, false, false, false, false] (fun w_ h_ => have x_ := S.e2 (S.Q h_ BK322.out); x_) (fun hHeld => ?_); refine with_tabW impl_InWindow.tab1 impl_InWindow.bits1 (fun HT_ HW_ => ?_)
   generalize w18.drew = w19 at BK322 HB hHeld ⊢
   refine S.pS 1 10 ?_
   refine S.tK 0 9 #[true, true, false, false, false, false, false, false, false, false, false, false, false, false, false, false, false, false, false, false, false, false, false, false, false] ?_
   refine S.oN 2 11 #[true, true, true, false, false, false, false, false, false, false, false, false, false, false, false, false, false, false, false, false, false, false, false, false, false] (fun K hK => ?_)
   refine S.go Try.func39 #[.agg #[.int .i64 a0_0, .int .i64 a0_1], .int .i64 a1] ?_
   with_reducible refine (impl_IsWindow.calls a0_0 a0_1 a1 true _ A5.out).mono ?_
   rintro e w20 ⟨rfl, hb⟩
   refine ⟨_, rfl, ?_⟩
   replace BK322 := S.kb BK322 hb
   replace HB := S.sG hb
   (try clear hb)
   (try clear hb2)
   (try clear hk)
   (try clear hi)
   refine hK.out _ _ (S.e2 BK322.out) (fun hHeld => ?_)
   clear hK K
   refine S.nm 11 ?_
   refine S.pS 3 12 ?_
   refine S.pS 4 13 ?_
   refine S.oN 5 14 #[true, true, true, true, true, true, false, false, false, false, false, false, false, false, false, false, false, false, false, false, false, false, false, false, false] (fun K hK => ?_)
   refine S.go Try.func62 #[.int .i64 a2, .int .i64 (-1000000), .int .i64 1000000] ?_
   with_reducible refine (impl_InRange.calls a2 (-1000000) 1000000 false _ A7.out).mono ?_
   rintro e w' ⟨rfl, ⟨nd, rfl⟩⟩
   refine ⟨_, rfl, ?_⟩
   refine hK.out _ _ (S.e2 BK322.out) (fun hHeld => ?_)
   clear hK K
   refine S.nm 14 ?_
   refine S.pS 6 15 ?_
   refine S.pS 7 16 ?_
   refine S.pU 8 17 ?_
   refine S.pU 9 18 ?_
   refine S.pS 10 19 ?_
   refine S.pS 11 20 ?_
   refine S.pU 12 21 ?_
   refine S.pU 13 22 ?_
   refine S.pU 14 23 ?_
   refine S.pU 15 24 ?_
   refine S.pU 16 25 ?_
   refine S.pU 17 26 ?_
   refine S.pU 18 27 ?_
   refine S.pU 19 28 ?_
   refine S.pU 20 29 ?_
   refine S.pU 21 30 ?_
   refine S.pU 22 31 ?_
   refine S.pS 23 32 ?_
   refine S.pS 24 8 ?_
   refine done_ (done_of HT_.out (by kernel_rfl)) ?_
   try go_wp2
   go_ret
   exact ⟨S.eW, S.bG⟩
 ·obtain rfl := Option.some.inj H
  go_enter Try.func43, Try.ntmps43
  try go_wp2_with (first | ((with_reducible refine gate_dst (N := 4) rfl ?_); refine S.bx 4 (cs := #[.int .i64 a0_0, .int .i64 a0_1]) (t := 45) ?_; intro gb322 hg w21 hbox hb; have BK322 := Aside0.mk hbox; have GW322 := S.geA hg; have GE322 := S.geA hg; replace HB := S.sA hb; clear hb hbox hg))
  replace BK322 := Aside0.mk (blk_drew BK322.out)
  replace HB := Aside0.mk (below_drew1 HB.out)
  refine S.st (n := 25) (ds := []) #[false, false, false, false, false, false, false, false, false, false, false, false, false, false, false, false, false, false, false, false, false, false, false, false, false] (fun w_ h_ => have x_ := S.e2 (S.Q h_ BK322.out); x_) (fun hHeld => ?_); refine with_tabW impl_InWindow.tab1 impl_InWindow.bits1 (fun HT_ HW_ => ?_)
  generalize w21.drew = w22 at BK322 HB hHeld ⊢
  refine S.pS 1 10 ?_
  refine S.tK 0 9 #[true, true, false, false, false, false, false, false, false, false, false, false, false, false, false, false, false, false, false, false, false, false, false, false, false] ?_
  refine S.oN 2 11 #[true, true, true, false, false, false, false, false, false, false, false, false, false, false, false, false, false, false, false, false, false, false, false, false, false] (fun K hK => ?_)
  refine S.go Try.func39 #[.agg #[.int .i64 a0_0, .int .i64 a0_1], .int .i64 a1] ?_
  with_reducible refine (impl_IsWindow.calls a0_0 a0_1 a1 false _ A5.out).mono ?_
  rintro e w23 ⟨rfl, hb⟩
  refine ⟨_, rfl, ?_⟩
  replace BK322 := S.kb BK322 hb
  replace HB := S.sG hb
  (try clear hb)
  (try clear hb2)
  (try clear hk)
  (try clear hi)
  refine hK.out _ _ (S.e2 BK322.out) (fun hHeld => ?_)
  clear hK K
  refine S.nm 11 ?_
  refine S.pS 3 12 ?_
  refine S.pU 4 13 ?_
  refine S.pU 5 14 ?_
  refine S.pS 6 15 ?_
  refine S.pS 7 16 ?_
  refine S.pU 8 17 ?_
  refine S.pU 9 18 ?_
  refine S.pS 10 19 ?_
  refine S.pS 11 20 ?_
  refine S.pU 12 21 ?_
  refine S.pU 13 22 ?_
  refine S.pU 14 23 ?_
  refine S.pU 15 24 ?_
  refine S.pU 16 25 ?_
  refine S.pU 17 26 ?_
  refine S.pU 18 27 ?_
  refine S.pU 19 28 ?_
  refine S.pU 20 29 ?_
  refine S.pU 21 30 ?_
  refine S.pU 22 31 ?_
  refine S.pS 23 32 ?_
  refine S.pS 24 8 ?_
  refine done_ (done_of HT_.out (by kernel_rfl)) ?_
  try go_wp2
  go_ret
  exact ⟨S.eW, S.bG⟩
/-! ### impl_Band: function 36 -/
mutual
def impl_Band.j0 : Nat → Int → Int → Int → Bool → Int → Int → Int → Int → Option (Int)
 | 0, _, _, _, _, _, _, _, _ => none
 | k + 1, x2, x3, x4, x32, x328000, x328001, x329000, x329001 => if x32 = true then (some 0) else (impl_Band.l0 k x2 x3 x4 0 x2 0 x328000 x328001 x329000 x329001)
def impl_Band.l0 : Nat → Int → Int → Int → Int → Int → Int → Int → Int → Int → Int → Option (Int)
 | 0, _, _, _, _, _, _, _, _, _, _ => none
 | k + 1, x2, x3, x4, x11, x33, x34, x328000, x328001, x329000, x329001 => if x34 < x33 then ((impl_InWindow.f x328000 x328001 x2 0 x34).bind fun t333 => (if t333 = true then ((impl_InWindow.f x329000 x329001 x2 x4 (wrap64 (x34 + x3))).bind fun t334 => (if t334 = true then (impl_Band.l0 k x2 x3 x4 (wrap64 (x11 + 1)) x33 (wrap64 (x34 + 1)) x328000 x328001 x329000 x329001) else (impl_Band.l0 k x2 x3 x4 x11 x33 (wrap64 (x34 + 1)) x328000 x328001 x329000 x329001))) else (impl_Band.l0 k x2 x3 x4 x11 x33 (wrap64 (x34 + 1)) x328000 x328001 x329000 x329001))) else (some x11)
end
def impl_Band.f (k : Nat) (a0_0 : Int) (a0_1 : Int) (a1_0 : Int) (a1_1 : Int) (a2 : Int) (a3 : Int) (a4 : Int) : Option (Int) := (impl_IsWindow.f a0_0 a0_1 a2).bind fun t329 => (if t329 = true then ((impl_IsWindow.f a1_0 a1_1 a2).bind fun t330 => (if t330 = true then ((impl_InRange.f a3 0 100000).bind fun t331 => (if t331 = true then ((impl_InRange.f a4 0 100000).bind fun t332 => (impl_Band.j0 k a2 a3 a4 (!t332) a0_0 a0_1 a1_0 a1_1)) else (impl_Band.j0 k a2 a3 a4 true a0_0 a0_1 a1_0 a1_1))) else (impl_Band.j0 k a2 a3 a4 true a0_0 a0_1 a1_0 a1_1))) else (impl_Band.j0 k a2 a3 a4 true a0_0 a0_1 a1_0 a1_1))
set_option maxHeartbeats 8000000 in
set_option maxRecDepth 100000 in
theorem impl_Band.calls (k : Nat) (a0_0 : Int) (a0_1 : Int) (a1_0 : Int) (a1_1 : Int) (a2 : Int) (a3 : Int) (a4 : Int) (r : Int) (w : World) (h : impl_Band.f k a0_0 a0_1 a1_0 a1_1 a2 a3 a4 = some r) :
  Calls Try.prog 36 #[.agg #[.int .i64 a0_0, .int .i64 a0_1], .agg #[.int .i64 a1_0, .int .i64 a1_1], .int .i64 a2, .int .i64 a3, .int .i64 a4] w fun e w' => e = .returned (.int .i64 r) ∧ Below w.heap.size w w' := by
 have hu45 := Try.underlying45
 have HB := Aside0.mk (Below.refl w.heap.size w)
 have H : ((impl_IsWindow.f a0_0 a0_1 a2).bind fun t329 => (if t329 = true then ((impl_IsWindow.f a1_0 a1_1 a2).bind fun t330 => (if t330 = true then ((impl_InRange.f a3 0 100000).bind fun t331 => (if t331 = true then ((impl_InRange.f a4 0 100000).bind fun t332 => (impl_Band.j0 k a2 a3 a4 (!t332) a0_0 a0_1 a1_0 a1_1)) else (impl_Band.j0 k a2 a3 a4 true a0_0 a0_1 a1_0 a1_1))) else (impl_Band.j0 k a2 a3 a4 true a0_0 a0_1 a1_0 a1_1))) else (impl_Band.j0 k a2 a3 a4 true a0_0 a0_1 a1_0 a1_1))) = some r := h
 clear h
 have HC6 := Aside0.mk H
 clear H
 go_enter Try.func36, Try.ntmps36
 go_upto_region 1 with (first | ((with_reducible refine gate_dst (N := 5) rfl ?_); refine S.bx 5 (cs := #[.int .i64 a0_0, .int .i64 a0_1]) (t := 45) ?_; intro gb327 hg w7 hbox hb; have BK327 := Aside0.mk hbox; have GW327 := S.geA hg; have GE327 := S.geA hg; replace HB := S.sA hb; clear hb hbox hg) | ((with_reducible refine gate_dst (N := 6) rfl ?_); refine S.bx 6 (cs := #[.int .i64 a1_0, .int .i64 a1_1]) (t := 45) ?_; intro gb328 hg w8 hbox hb; have BK328 := Aside0.mk hbox; have GW328 := S.geG hg; have GE328 := S.geG hg; replace HB := S.sG hb; have NB327_328 := S.nl hg BK327; have NB328_327 := S.ng hg BK327; replace BK327 := S.kb BK327 hb; clear hb hbox hg))
 (try simp only [Act.put, List.setIfInBounds_toArray, List.set_cons_zero, List.set_cons_succ])
 go_cut [32] (fun v32 wc => ∃ (kq : Nat) (x32_5 : Bool), v32 = .bool x32_5 ∧ Aside0 (impl_Band.j0 kq a2 a3 a4 x32_5 a0_0 a0_1 a1_0 a1_1 = some r) ∧ Aside0 (kq ≤ k) ∧ Aside0 (wc.heap[gb327]? = some (.cells #[.int .i64 a0_0, .int .i64 a0_1] 45 (0, 0))) ∧ Aside0 (wc.heap[gb328]? = some (.cells #[.int .i64 a1_0, .int .i64 a1_1] 45 (0, 0))) ∧ Aside0 (Below w.heap.size w wc))
 case first =>
  have H := HC6.out
  clear HC6
  replace H := S.bd H; obtain ⟨t329, A9, H⟩ := H
  (try dsimp only at H)
  replace H := S.db H; rcases H with ⟨rfl, H⟩ | ⟨rfl, H⟩
  ·replace H := S.bd H; obtain ⟨t330, A11, H⟩ := H
   (try dsimp only at H)
   replace H := S.db H; rcases H with ⟨rfl, H⟩ | ⟨rfl, H⟩
   ·replace H := S.bd H; obtain ⟨t331, A13, H⟩ := H
    (try dsimp only at H)
    replace H := S.db H; rcases H with ⟨rfl, H⟩ | ⟨rfl, H⟩
    ·replace H := S.bd H; obtain ⟨t332, A15, H⟩ := H
     (try dsimp only at H)
     have H' := Aside0.mk H
     clear H
     have hnb16 := NB327_328.out
     have hnc16 := NB328_327.out
     obtain ⟨Z17a, Z17b, Y17a, Y17b⟩ := S.c2 BK327.out
     go_wp2_with (first | ((with_reducible refine gate_callee (f := 39) rfl ?_); refine S.gL (some 15) Try.func39 #[.agg #[.int .i64 a0_0, .int .i64 a0_1], .int .i64 a2] ?_; (with_reducible refine (impl_IsWindow.calls a0_0 a0_1 a2 true _ A9.out).mono ?_); rintro e w18 ⟨rfl, hb⟩; refine ⟨_, rfl, ?_⟩; replace BK327 := S.kb BK327 hb; replace BK328 := S.kb BK328 hb; replace HB := S.sG hb; (try clear hb); obtain ⟨Z19a, Z19b, Y19a, Y19b⟩ := S.c2 BK328.out) | (go_at_call 39; (with_reducible refine (impl_IsWindow.calls a1_0 a1_1 a2 true _ A11.out).mono ?_); rintro e w20 ⟨rfl, hb⟩; replace BK327 := S.kb BK327 hb; replace BK328 := S.kb BK328 hb; replace HB := S.sG hb; (try clear hb)) | (go_at_call 62; (with_reducible refine (impl_InRange.calls a3 0 100000 true _ A13.out).mono ?_); rintro e w' ⟨rfl, ⟨nd, rfl⟩⟩) | (go_at_call 62; (with_reducible refine (impl_InRange.calls a4 0 100000 t332 _ A15.out).mono ?_); rintro e w' ⟨rfl, ⟨nd, rfl⟩⟩))
     go_meet
     case rel => exact ⟨_, (!t332), S.eA, H', S.le, ⟨S.uB BK327.out⟩, ⟨S.uB BK328.out⟩, ⟨S.bG⟩⟩
    ·have H' := Aside0.mk H
     clear H
     have hnb21 := NB327_328.out
     have hnc21 := NB328_327.out
     obtain ⟨Z22a, Z22b, Y22a, Y22b⟩ := S.c2 BK327.out
     go_wp2_with (first | ((with_reducible refine gate_callee (f := 39) rfl ?_); refine S.gL (some 15) Try.func39 #[.agg #[.int .i64 a0_0, .int .i64 a0_1], .int .i64 a2] ?_; (with_reducible refine (impl_IsWindow.calls a0_0 a0_1 a2 true _ A9.out).mono ?_); rintro e w23 ⟨rfl, hb⟩; refine ⟨_, rfl, ?_⟩; replace BK327 := S.kb BK327 hb; replace BK328 := S.kb BK328 hb; replace HB := S.sG hb; (try clear hb); obtain ⟨Z24a, Z24b, Y24a, Y24b⟩ := S.c2 BK328.out) | (go_at_call 39; (with_reducible refine (impl_IsWindow.calls a1_0 a1_1 a2 true _ A11.out).mono ?_); rintro e w25 ⟨rfl, hb⟩; replace BK327 := S.kb BK327 hb; replace BK328 := S.kb BK328 hb; replace HB := S.sG hb; (try clear hb)) | (go_at_call 62; (with_reducible refine (impl_InRange.calls a3 0 100000 false _ A13.out).mono ?_); rintro e w' ⟨rfl, ⟨nd, rfl⟩⟩))
     go_meet
     case rel => exact ⟨_, (true), S.eA, H', S.le, ⟨S.uB BK327.out⟩, ⟨S.uB BK328.out⟩, ⟨S.bG⟩⟩
   ·have H' := Aside0.mk H
    clear H
    have hnb26 := NB327_328.out
    have hnc26 := NB328_327.out
    obtain ⟨Z27a, Z27b, Y27a, Y27b⟩ := S.c2 BK327.out
    go_wp2_with (first | ((with_reducible refine gate_callee (f := 39) rfl ?_); refine S.gL (some 15) Try.func39 #[.agg #[.int .i64 a0_0, .int .i64 a0_1], .int .i64 a2] ?_; (with_reducible refine (impl_IsWindow.calls a0_0 a0_1 a2 true _ A9.out).mono ?_); rintro e w28 ⟨rfl, hb⟩; refine ⟨_, rfl, ?_⟩; replace BK327 := S.kb BK327 hb; replace BK328 := S.kb BK328 hb; replace HB := S.sG hb; (try clear hb); obtain ⟨Z29a, Z29b, Y29a, Y29b⟩ := S.c2 BK328.out) | (go_at_call 39; (with_reducible refine (impl_IsWindow.calls a1_0 a1_1 a2 false _ A11.out).mono ?_); rintro e w30 ⟨rfl, hb⟩; replace BK327 := S.kb BK327 hb; replace BK328 := S.kb BK328 hb; replace HB := S.sG hb; (try clear hb)))
    go_meet
    case rel => exact ⟨_, (true), S.eA, H', S.le, ⟨S.uB BK327.out⟩, ⟨S.uB BK328.out⟩, ⟨S.bG⟩⟩
  ·have H' := Aside0.mk H
   clear H
   have hnb31 := NB327_328.out
   have hnc31 := NB328_327.out
   obtain ⟨Z32a, Z32b, Y32a, Y32b⟩ := S.c2 BK327.out
   go_wp2_with (first | ((with_reducible refine gate_callee (f := 39) rfl ?_); refine S.gL (some 15) Try.func39 #[.agg #[.int .i64 a0_0, .int .i64 a0_1], .int .i64 a2] ?_; (with_reducible refine (impl_IsWindow.calls a0_0 a0_1 a2 false _ A9.out).mono ?_); rintro e w33 ⟨rfl, hb⟩; refine ⟨_, rfl, ?_⟩; replace BK327 := S.kb BK327 hb; replace BK328 := S.kb BK328 hb; replace HB := S.sG hb; (try clear hb)))
   go_meet
   case rel => exact ⟨_, (true), S.eA, H', S.le, ⟨S.uB BK327.out⟩, ⟨S.uB BK328.out⟩, ⟨S.bG⟩⟩
 case rest =>
  clear HC6
  obtain ⟨kq, x32_5, rfl, HA, HJ5, BK327, BK328, HB⟩ := hcut
  cases kq with
  | zero => exact absurd HA.out (by simp [impl_Band.j0])
  | succ kj5 =>
   have H := HA.out
   clear HA
   simp only [impl_Band.j0] at H
   replace H := S.db H; rcases H with ⟨rfl, H⟩ | ⟨rfl, H⟩
   ·obtain rfl := Option.some.inj H
    go_wp2
    go_ret
    exact ⟨S.eW, S.bG⟩
   ·have H' := Aside0.mk H
    clear H
    go_wp2
    go_loopg [11, 34] kj5 (fun kq v11 v34 w' => ∃ (x11_2 : Int) (x34_2 : Int), v11 = .int .i64 x11_2 ∧ v34 = .int .i64 x34_2 ∧ Aside0 (impl_Band.l0 kq a2 a3 a4 x11_2 a2 x34_2 a0_0 a0_1 a1_0 a1_1 = some r) ∧ Aside0 (kq ≤ kj5) ∧ Aside0 (w'.heap[gb327]? = some (.cells #[.int .i64 a0_0, .int .i64 a0_1] 45 (0, 0))) ∧ Aside0 (w'.heap[gb328]? = some (.cells #[.int .i64 a1_0, .int .i64 a1_1] 45 (0, 0))) ∧ Aside0 (Below w.heap.size w w'))
    case atStart => exact ⟨(0), (0), S.eA, S.eA, H', ⟨Nat.le_refl _⟩, ⟨S.uB BK327.out⟩, ⟨S.uB BK328.out⟩, ⟨S.bG⟩⟩
    case round =>
     clear H'
     try clear c34
     obtain ⟨x11_2, x34_2, rfl, rfl, HA, HK2, BK327, BK328, HB⟩ := hrel
     cases gk with
     | zero => exact absurd HA.out (by simp [impl_Band.l0])
     | succ k2 =>
      have H := HA.out
      clear HA
      simp only [impl_Band.l0] at H
      replace H := S.dc H; rcases H with ⟨H, c35b0⟩ | ⟨H, c35b0⟩
      ·replace H := Option.bind_eq_some_iff.mp H
       obtain ⟨t333, A360, H⟩ := H
       replace H : (if t333 = true then ((impl_InWindow.f a1_0 a1_1 a2 a4 (wrap64 (x34_2 + a3))).bind fun t334 => (if t334 = true then (impl_Band.l0 k2 a2 a3 a4 (wrap64 (x11_2 + 1)) a2 (wrap64 (x34_2 + 1)) a0_0 a0_1 a1_0 a1_1) else (impl_Band.l0 k2 a2 a3 a4 x11_2 a2 (wrap64 (x34_2 + 1)) a0_0 a0_1 a1_0 a1_1))) else (impl_Band.l0 k2 a2 a3 a4 x11_2 a2 (wrap64 (x34_2 + 1)) a0_0 a0_1 a1_0 a1_1)) = some r := H
       have A36 := Aside0.mk A360
       clear A360
       replace H := S.db H; rcases H with ⟨rfl, H⟩ | ⟨rfl, H⟩
       ·replace H := S.bd H; obtain ⟨t334, A38, H⟩ := H
        (try dsimp only at H)
        replace H := S.db H; rcases H with ⟨rfl, H⟩ | ⟨rfl, H⟩
        ·have H' := Aside0.mk H
         clear H
         have hnb40 := NB327_328.out
         have hnc40 := NB328_327.out
         obtain ⟨Z41a, Z41b, Y41a, Y41b⟩ := S.c2 BK327.out
         go_wp2_with (first | ((with_reducible refine gate_callee (f := 43) rfl ?_); refine S.gL (some 40) Try.func43 #[.agg #[.int .i64 a0_0, .int .i64 a0_1], .int .i64 a2, .int .i64 0, .int .i64 x34_2] ?_; (with_reducible refine (impl_InWindow.calls a0_0 a0_1 a2 0 x34_2 true _ A36.out).mono ?_); rintro e w42 ⟨rfl, hb⟩; refine ⟨_, rfl, ?_⟩; replace BK327 := S.kb BK327 hb; replace BK328 := S.kb BK328 hb; replace HB := S.sG hb; (try clear hb); obtain ⟨Z43a, Z43b, Y43a, Y43b⟩ := S.c2 BK328.out) | (go_at_call 43; (with_reducible refine (impl_InWindow.calls a1_0 a1_1 a2 a4 (wrap64 (x34_2 + a3)) true _ A38.out).mono ?_); rintro e w44 ⟨rfl, hb⟩; replace BK327 := S.kb BK327 hb; replace BK328 := S.kb BK328 hb; replace HB := S.sG hb; (try clear hb)))
         go_roundg k2
         case measure => have := HJ5.out; have := HK2.out; omega
         case rel => exact ⟨(wrap64 (x11_2 + 1)), (wrap64 (x34_2 + 1)), S.eA, S.eA, H', ⟨by have := HJ5.out; have := HK2.out; omega⟩, ⟨S.uB BK327.out⟩, ⟨S.uB BK328.out⟩, ⟨S.bG⟩⟩
        ·have H' := Aside0.mk H
         clear H
         have hnb45 := NB327_328.out
         have hnc45 := NB328_327.out
         obtain ⟨Z46a, Z46b, Y46a, Y46b⟩ := S.c2 BK327.out
         go_wp2_with (first | ((with_reducible refine gate_callee (f := 43) rfl ?_); refine S.gL (some 40) Try.func43 #[.agg #[.int .i64 a0_0, .int .i64 a0_1], .int .i64 a2, .int .i64 0, .int .i64 x34_2] ?_; (with_reducible refine (impl_InWindow.calls a0_0 a0_1 a2 0 x34_2 true _ A36.out).mono ?_); rintro e w47 ⟨rfl, hb⟩; refine ⟨_, rfl, ?_⟩; replace BK327 := S.kb BK327 hb; replace BK328 := S.kb BK328 hb; replace HB := S.sG hb; (try clear hb); obtain ⟨Z48a, Z48b, Y48a, Y48b⟩ := S.c2 BK328.out) | (go_at_call 43; (with_reducible refine (impl_InWindow.calls a1_0 a1_1 a2 a4 (wrap64 (x34_2 + a3)) false _ A38.out).mono ?_); rintro e w49 ⟨rfl, hb⟩; replace BK327 := S.kb BK327 hb; replace BK328 := S.kb BK328 hb; replace HB := S.sG hb; (try clear hb)))
         go_roundg k2
         case measure => have := HJ5.out; have := HK2.out; omega
         case rel => exact ⟨(x11_2), (wrap64 (x34_2 + 1)), S.eA, S.eA, H', ⟨by have := HJ5.out; have := HK2.out; omega⟩, ⟨S.uB BK327.out⟩, ⟨S.uB BK328.out⟩, ⟨S.bG⟩⟩
       ·have H' := Aside0.mk H
        clear H
        have hnb50 := NB327_328.out
        have hnc50 := NB328_327.out
        obtain ⟨Z51a, Z51b, Y51a, Y51b⟩ := S.c2 BK327.out
        go_wp2_with (first | ((with_reducible refine gate_callee (f := 43) rfl ?_); refine S.gL (some 40) Try.func43 #[.agg #[.int .i64 a0_0, .int .i64 a0_1], .int .i64 a2, .int .i64 0, .int .i64 x34_2] ?_; (with_reducible refine (impl_InWindow.calls a0_0 a0_1 a2 0 x34_2 false _ A36.out).mono ?_); rintro e w52 ⟨rfl, hb⟩; refine ⟨_, rfl, ?_⟩; replace BK327 := S.kb BK327 hb; replace BK328 := S.kb BK328 hb; replace HB := S.sG hb; (try clear hb)))
        go_roundg k2
        case measure => have := HJ5.out; have := HK2.out; omega
        case rel => exact ⟨(x11_2), (wrap64 (x34_2 + 1)), S.eA, S.eA, H', ⟨by have := HJ5.out; have := HK2.out; omega⟩, ⟨S.uB BK327.out⟩, ⟨S.uB BK328.out⟩, ⟨S.bG⟩⟩
      ·obtain rfl := Option.some.inj H
       go_wp2
       go_ret
       exact ⟨S.eW, S.bG⟩

/-! ### impl_GreatestBand: function 37 -/
def impl_GreatestBand.f (a0_0 : Int) (a0_1 : Int) (a1_0 : Int) (a1_1 : Int) (a2 : Int) : Option (Int) := (impl_IsWindow.f a0_0 a0_1 a2).bind fun t337 => (if t337 = true then ((impl_IsWindow.f a1_0 a1_1 a2).bind fun t338 => (if t338 = true then (some (mn a0_1 a1_1)) else (some 0))) else (some 0))
set_option maxHeartbeats 8000000 in
set_option maxRecDepth 100000 in
theorem impl_GreatestBand.calls (a0_0 : Int) (a0_1 : Int) (a1_0 : Int) (a1_1 : Int) (a2 : Int) (r : Int) (w : World) (h : impl_GreatestBand.f a0_0 a0_1 a1_0 a1_1 a2 = some r) :
  Calls Try.prog 37 #[.agg #[.int .i64 a0_0, .int .i64 a0_1], .agg #[.int .i64 a1_0, .int .i64 a1_1], .int .i64 a2] w fun e w' => e = .returned (.int .i64 r) ∧ Below w.heap.size w w' := by
 have hu45 := Try.underlying45
 have HB := Aside0.mk (Below.refl w.heap.size w)
 have H : ((impl_IsWindow.f a0_0 a0_1 a2).bind fun t337 => (if t337 = true then ((impl_IsWindow.f a1_0 a1_1 a2).bind fun t338 => (if t338 = true then (some (mn a0_1 a1_1)) else (some 0))) else (some 0))) = some r := h
 clear h
 replace H := S.bd H; obtain ⟨t337, A4, H⟩ := H
 (try dsimp only at H)
 replace H := S.db H; rcases H with ⟨rfl, H⟩ | ⟨rfl, H⟩
 ·replace H := S.bd H; obtain ⟨t338, A6, H⟩ := H
  (try dsimp only at H)
  replace H := S.db H; rcases H with ⟨rfl, H⟩ | ⟨rfl, H⟩
  ·obtain ⟨ji8, hji8⟩ : ∃ j_ : Int, (mn a0_1 a1_1) = j_ := ⟨_, rfl⟩
   replace H : (some ji8) = some r := by first | (rw [hji8] at H; exact H) | (simp only [hji8] at H ⊢; exact H)
   (try rw [hji8] at A4)
   (try rw [hji8] at A6)
   have hji8_ : (if a1_1 < a0_1 then a1_1 else a0_1) = ji8 := hji8
   obtain rfl := Option.some.inj H
   go_enter Try.func37, Try.ntmps37
   go_wp2_with (first | ((with_reducible refine gate_dst (N := 3) rfl ?_); refine S.bx 3 (cs := #[.int .i64 a0_0, .int .i64 a0_1]) (t := 45) ?_; intro gb335 hg w9 hbox hb; have BK335 := Aside0.mk hbox; have GW335 := S.geA hg; have GE335 := S.geA hg; replace HB := S.sA hb; clear hb hbox hg) | ((with_reducible refine gate_dst (N := 4) rfl ?_); refine S.bx 4 (cs := #[.int .i64 a1_0, .int .i64 a1_1]) (t := 45) ?_; intro gb336 hg w10 hbox hb; have BK336 := Aside0.mk hbox; have GW336 := S.geG hg; have GE336 := S.geG hg; replace HB := S.sG hb; have NB335_336 := S.nl hg BK335; have NB336_335 := S.ng hg BK335; replace BK335 := S.kb BK335 hb; clear hb hbox hg; have hnb11 := NB335_336.out; have hnc11 := NB336_335.out; obtain ⟨Z12a, Z12b, Y12a, Y12b⟩ := S.c2 BK335.out) | ((with_reducible refine gate_callee (f := 39) rfl ?_); refine S.gL (some 9) Try.func39 #[.agg #[.int .i64 a0_0, .int .i64 a0_1], .int .i64 a2] ?_; (with_reducible refine (impl_IsWindow.calls a0_0 a0_1 a2 true _ A4.out).mono ?_); rintro e w13 ⟨rfl, hb⟩; refine ⟨_, rfl, ?_⟩; replace BK335 := S.kb BK335 hb; replace BK336 := S.kb BK336 hb; replace HB := S.sG hb; (try clear hb); obtain ⟨Z14a, Z14b, Y14a, Y14b⟩ := S.c2 BK336.out) | (go_at_call 39; (with_reducible refine (impl_IsWindow.calls a1_0 a1_1 a2 true _ A6.out).mono ?_); rintro e w15 ⟨rfl, hb⟩; replace BK335 := S.kb BK335 hb; replace BK336 := S.kb BK336 hb; replace HB := S.sG hb; (try clear hb); obtain ⟨Z16a, Z16b, Y16a, Y16b⟩ := S.c2 BK335.out; obtain ⟨Z17a, Z17b, Y17a, Y17b⟩ := S.c2 BK336.out))
   go_ret
   exact ⟨by first | rfl | (simp [errW_none, errW_some] <;> rfl) | (simp only [← hji8]; first | rfl | (simp [errW_none, errW_some] <;> rfl)) | (simp [*, errW_none, errW_some] <;> rfl), S.bG⟩
  ·obtain rfl := Option.some.inj H
   go_enter Try.func37, Try.ntmps37
   go_wp2_with (first | ((with_reducible refine gate_dst (N := 3) rfl ?_); refine S.bx 3 (cs := #[.int .i64 a0_0, .int .i64 a0_1]) (t := 45) ?_; intro gb335 hg w18 hbox hb; have BK335 := Aside0.mk hbox; have GW335 := S.geA hg; have GE335 := S.geA hg; replace HB := S.sA hb; clear hb hbox hg) | ((with_reducible refine gate_dst (N := 4) rfl ?_); refine S.bx 4 (cs := #[.int .i64 a1_0, .int .i64 a1_1]) (t := 45) ?_; intro gb336 hg w19 hbox hb; have BK336 := Aside0.mk hbox; have GW336 := S.geG hg; have GE336 := S.geG hg; replace HB := S.sG hb; have NB335_336 := S.nl hg BK335; have NB336_335 := S.ng hg BK335; replace BK335 := S.kb BK335 hb; clear hb hbox hg; have hnb20 := NB335_336.out; have hnc20 := NB336_335.out; obtain ⟨Z21a, Z21b, Y21a, Y21b⟩ := S.c2 BK335.out) | ((with_reducible refine gate_callee (f := 39) rfl ?_); refine S.gL (some 9) Try.func39 #[.agg #[.int .i64 a0_0, .int .i64 a0_1], .int .i64 a2] ?_; (with_reducible refine (impl_IsWindow.calls a0_0 a0_1 a2 true _ A4.out).mono ?_); rintro e w22 ⟨rfl, hb⟩; refine ⟨_, rfl, ?_⟩; replace BK335 := S.kb BK335 hb; replace BK336 := S.kb BK336 hb; replace HB := S.sG hb; (try clear hb); obtain ⟨Z23a, Z23b, Y23a, Y23b⟩ := S.c2 BK336.out) | (go_at_call 39; (with_reducible refine (impl_IsWindow.calls a1_0 a1_1 a2 false _ A6.out).mono ?_); rintro e w24 ⟨rfl, hb⟩; replace BK335 := S.kb BK335 hb; replace BK336 := S.kb BK336 hb; replace HB := S.sG hb; (try clear hb)))
   go_ret
   exact ⟨S.eW, S.bG⟩
 ·obtain rfl := Option.some.inj H
  go_enter Try.func37, Try.ntmps37
  go_wp2_with (first | ((with_reducible refine gate_dst (N := 3) rfl ?_); refine S.bx 3 (cs := #[.int .i64 a0_0, .int .i64 a0_1]) (t := 45) ?_; intro gb335 hg w25 hbox hb; have BK335 := Aside0.mk hbox; have GW335 := S.geA hg; have GE335 := S.geA hg; replace HB := S.sA hb; clear hb hbox hg) | ((with_reducible refine gate_dst (N := 4) rfl ?_); refine S.bx 4 (cs := #[.int .i64 a1_0, .int .i64 a1_1]) (t := 45) ?_; intro gb336 hg w26 hbox hb; have BK336 := Aside0.mk hbox; have GW336 := S.geG hg; have GE336 := S.geG hg; replace HB := S.sG hb; have NB335_336 := S.nl hg BK335; have NB336_335 := S.ng hg BK335; replace BK335 := S.kb BK335 hb; clear hb hbox hg; have hnb27 := NB335_336.out; have hnc27 := NB336_335.out; obtain ⟨Z28a, Z28b, Y28a, Y28b⟩ := S.c2 BK335.out) | ((with_reducible refine gate_callee (f := 39) rfl ?_); refine S.gL (some 9) Try.func39 #[.agg #[.int .i64 a0_0, .int .i64 a0_1], .int .i64 a2] ?_; (with_reducible refine (impl_IsWindow.calls a0_0 a0_1 a2 false _ A4.out).mono ?_); rintro e w29 ⟨rfl, hb⟩; refine ⟨_, rfl, ?_⟩; replace BK335 := S.kb BK335 hb; replace BK336 := S.kb BK336 hb; replace HB := S.sG hb; (try clear hb)))
  go_ret
  exact ⟨S.eW, S.bG⟩

/-! ### impl_BestOffset: function 38 -/
mutual
def impl_BestOffset.j0 : Nat → Int → Int → Bool → Int → Int → Int → Int → Option (Int)
 | 0, _, _, _, _, _, _, _ => none
 | k + 1, x2, x3, x27, x340000, x340001, x341000, x341001 => if x27 = true then (some (-1)) else (impl_BestOffset.l0 k x2 x3 0 (-1) x2 0 x340000 x340001 x341000 x341001)
def impl_BestOffset.l0 : Nat → Int → Int → Int → Int → Int → Int → Int → Int → Int → Int → Option (Int)
 | 0, _, _, _, _, _, _, _, _, _, _ => none
 | k + 1, x2, x3, x9, x10, x28, x29, x340000, x340001, x341000, x341001 => if x29 < x28 then ((impl_Band.f k x340000 x340001 x341000 x341001 x2 x3 x29).bind fun t344 => (if t344 > x10 then (impl_BestOffset.l0 k x2 x3 x29 t344 x28 (wrap64 (x29 + 1)) x340000 x340001 x341000 x341001) else (impl_BestOffset.l0 k x2 x3 x9 x10 x28 (wrap64 (x29 + 1)) x340000 x340001 x341000 x341001))) else (some x9)
end
def impl_BestOffset.f (k : Nat) (a0_0 : Int) (a0_1 : Int) (a1_0 : Int) (a1_1 : Int) (a2 : Int) (a3 : Int) : Option (Int) := (impl_IsWindow.f a0_0 a0_1 a2).bind fun t341 => (if t341 = true then ((impl_IsWindow.f a1_0 a1_1 a2).bind fun t342 => (if t342 = true then ((impl_InRange.f a3 0 100000).bind fun t343 => (impl_BestOffset.j0 k a2 a3 (!t343) a0_0 a0_1 a1_0 a1_1)) else (impl_BestOffset.j0 k a2 a3 true a0_0 a0_1 a1_0 a1_1))) else (impl_BestOffset.j0 k a2 a3 true a0_0 a0_1 a1_0 a1_1))
set_option maxHeartbeats 8000000 in
set_option maxRecDepth 100000 in
theorem impl_BestOffset.calls (k : Nat) (a0_0 : Int) (a0_1 : Int) (a1_0 : Int) (a1_1 : Int) (a2 : Int) (a3 : Int) (r : Int) (w : World) (h : impl_BestOffset.f k a0_0 a0_1 a1_0 a1_1 a2 a3 = some r) :
  Calls Try.prog 38 #[.agg #[.int .i64 a0_0, .int .i64 a0_1], .agg #[.int .i64 a1_0, .int .i64 a1_1], .int .i64 a2, .int .i64 a3] w fun e w' => e = .returned (.int .i64 r) ∧ Below w.heap.size w w' := by
 have hu45 := Try.underlying45
 have HB := Aside0.mk (Below.refl w.heap.size w)
 have H : ((impl_IsWindow.f a0_0 a0_1 a2).bind fun t341 => (if t341 = true then ((impl_IsWindow.f a1_0 a1_1 a2).bind fun t342 => (if t342 = true then ((impl_InRange.f a3 0 100000).bind fun t343 => (impl_BestOffset.j0 k a2 a3 (!t343) a0_0 a0_1 a1_0 a1_1)) else (impl_BestOffset.j0 k a2 a3 true a0_0 a0_1 a1_0 a1_1))) else (impl_BestOffset.j0 k a2 a3 true a0_0 a0_1 a1_0 a1_1))) = some r := h
 clear h
 have HC5 := Aside0.mk H
 clear H
 go_enter Try.func38, Try.ntmps38
 go_upto_region 1 with (first | ((with_reducible refine gate_dst (N := 4) rfl ?_); refine S.bx 4 (cs := #[.int .i64 a0_0, .int .i64 a0_1]) (t := 45) ?_; intro gb339 hg w6 hbox hb; have BK339 := Aside0.mk hbox; have GW339 := S.geA hg; have GE339 := S.geA hg; replace HB := S.sA hb; clear hb hbox hg) | ((with_reducible refine gate_dst (N := 5) rfl ?_); refine S.bx 5 (cs := #[.int .i64 a1_0, .int .i64 a1_1]) (t := 45) ?_; intro gb340 hg w7 hbox hb; have BK340 := Aside0.mk hbox; have GW340 := S.geG hg; have GE340 := S.geG hg; replace HB := S.sG hb; have NB339_340 := S.nl hg BK339; have NB340_339 := S.ng hg BK339; replace BK339 := S.kb BK339 hb; clear hb hbox hg))
 (try simp only [Act.put, List.setIfInBounds_toArray, List.set_cons_zero, List.set_cons_succ])
 go_cut [27] (fun v27 wc => ∃ (kq : Nat) (x27_4 : Bool), v27 = .bool x27_4 ∧ Aside0 (impl_BestOffset.j0 kq a2 a3 x27_4 a0_0 a0_1 a1_0 a1_1 = some r) ∧ Aside0 (kq ≤ k) ∧ Aside0 (wc.heap[gb339]? = some (.cells #[.int .i64 a0_0, .int .i64 a0_1] 45 (0, 0))) ∧ Aside0 (wc.heap[gb340]? = some (.cells #[.int .i64 a1_0, .int .i64 a1_1] 45 (0, 0))) ∧ Aside0 (Below w.heap.size w wc))
 case first =>
  have H := HC5.out
  clear HC5
  replace H := S.bd H; obtain ⟨t341, A8, H⟩ := H
  (try dsimp only at H)
  replace H := S.db H; rcases H with ⟨rfl, H⟩ | ⟨rfl, H⟩
  ·replace H := S.bd H; obtain ⟨t342, A10, H⟩ := H
   (try dsimp only at H)
   replace H := S.db H; rcases H with ⟨rfl, H⟩ | ⟨rfl, H⟩
   ·replace H := S.bd H; obtain ⟨t343, A12, H⟩ := H
    (try dsimp only at H)
    have H' := Aside0.mk H
    clear H
    have hnb13 := NB339_340.out
    have hnc13 := NB340_339.out
    obtain ⟨Z14a, Z14b, Y14a, Y14b⟩ := S.c2 BK339.out
    go_wp2_with (first | ((with_reducible refine gate_callee (f := 39) rfl ?_); refine S.gL (some 15) Try.func39 #[.agg #[.int .i64 a0_0, .int .i64 a0_1], .int .i64 a2] ?_; (with_reducible refine (impl_IsWindow.calls a0_0 a0_1 a2 true _ A8.out).mono ?_); rintro e w15 ⟨rfl, hb⟩; refine ⟨_, rfl, ?_⟩; replace BK339 := S.kb BK339 hb; replace BK340 := S.kb BK340 hb; replace HB := S.sG hb; (try clear hb); obtain ⟨Z16a, Z16b, Y16a, Y16b⟩ := S.c2 BK340.out) | (go_at_call 39; (with_reducible refine (impl_IsWindow.calls a1_0 a1_1 a2 true _ A10.out).mono ?_); rintro e w17 ⟨rfl, hb⟩; replace BK339 := S.kb BK339 hb; replace BK340 := S.kb BK340 hb; replace HB := S.sG hb; (try clear hb)) | (go_at_call 62; (with_reducible refine (impl_InRange.calls a3 0 100000 t343 _ A12.out).mono ?_); rintro e w' ⟨rfl, ⟨nd, rfl⟩⟩))
    go_meet
    case rel => exact ⟨_, (!t343), S.eA, H', S.le, ⟨S.uB BK339.out⟩, ⟨S.uB BK340.out⟩, ⟨S.bG⟩⟩
   ·have H' := Aside0.mk H
    clear H
    have hnb18 := NB339_340.out
    have hnc18 := NB340_339.out
    obtain ⟨Z19a, Z19b, Y19a, Y19b⟩ := S.c2 BK339.out
    go_wp2_with (first | ((with_reducible refine gate_callee (f := 39) rfl ?_); refine S.gL (some 15) Try.func39 #[.agg #[.int .i64 a0_0, .int .i64 a0_1], .int .i64 a2] ?_; (with_reducible refine (impl_IsWindow.calls a0_0 a0_1 a2 true _ A8.out).mono ?_); rintro e w20 ⟨rfl, hb⟩; refine ⟨_, rfl, ?_⟩; replace BK339 := S.kb BK339 hb; replace BK340 := S.kb BK340 hb; replace HB := S.sG hb; (try clear hb); obtain ⟨Z21a, Z21b, Y21a, Y21b⟩ := S.c2 BK340.out) | (go_at_call 39; (with_reducible refine (impl_IsWindow.calls a1_0 a1_1 a2 false _ A10.out).mono ?_); rintro e w22 ⟨rfl, hb⟩; replace BK339 := S.kb BK339 hb; replace BK340 := S.kb BK340 hb; replace HB := S.sG hb; (try clear hb)))
    go_meet
    case rel => exact ⟨_, (true), S.eA, H', S.le, ⟨S.uB BK339.out⟩, ⟨S.uB BK340.out⟩, ⟨S.bG⟩⟩
  ·have H' := Aside0.mk H
   clear H
   have hnb23 := NB339_340.out
   have hnc23 := NB340_339.out
   obtain ⟨Z24a, Z24b, Y24a, Y24b⟩ := S.c2 BK339.out
   go_wp2_with (first | ((with_reducible refine gate_callee (f := 39) rfl ?_); refine S.gL (some 15) Try.func39 #[.agg #[.int .i64 a0_0, .int .i64 a0_1], .int .i64 a2] ?_; (with_reducible refine (impl_IsWindow.calls a0_0 a0_1 a2 false _ A8.out).mono ?_); rintro e w25 ⟨rfl, hb⟩; refine ⟨_, rfl, ?_⟩; replace BK339 := S.kb BK339 hb; replace BK340 := S.kb BK340 hb; replace HB := S.sG hb; (try clear hb)))
   go_meet
   case rel => exact ⟨_, (true), S.eA, H', S.le, ⟨S.uB BK339.out⟩, ⟨S.uB BK340.out⟩, ⟨S.bG⟩⟩
 case rest =>
  clear HC5
  obtain ⟨kq, x27_4, rfl, HA, HJ4, BK339, BK340, HB⟩ := hcut
  cases kq with
  | zero => exact absurd HA.out (by simp [impl_BestOffset.j0])
  | succ kj4 =>
   have H := HA.out
   clear HA
   simp only [impl_BestOffset.j0] at H
   replace H := S.db H; rcases H with ⟨rfl, H⟩ | ⟨rfl, H⟩
   ·obtain rfl := Option.some.inj H
    go_wp2
    go_ret
    exact ⟨S.eW, S.bG⟩
   ·have H' := Aside0.mk H
    clear H
    go_wp2
    go_loopg [9, 10, 29] kj4 (fun kq v9 v10 v29 w' => ∃ (x9_2 : Int) (x10_2 : Int) (x29_2 : Int), v9 = .int .i64 x9_2 ∧ v10 = .int .i64 x10_2 ∧ v29 = .int .i64 x29_2 ∧ Aside0 (impl_BestOffset.l0 kq a2 a3 x9_2 x10_2 a2 x29_2 a0_0 a0_1 a1_0 a1_1 = some r) ∧ Aside0 (kq ≤ kj4) ∧ Aside0 (w'.heap[gb339]? = some (.cells #[.int .i64 a0_0, .int .i64 a0_1] 45 (0, 0))) ∧ Aside0 (w'.heap[gb340]? = some (.cells #[.int .i64 a1_0, .int .i64 a1_1] 45 (0, 0))) ∧ Aside0 (Below w.heap.size w w'))
    case atStart => exact ⟨(0), ((-1)), (0), S.eA, S.eA, S.eA, H', ⟨Nat.le_refl _⟩, ⟨S.uB BK339.out⟩, ⟨S.uB BK340.out⟩, ⟨S.bG⟩⟩
    case round =>
     clear H'
     try clear c26
     obtain ⟨x9_2, x10_2, x29_2, rfl, rfl, rfl, HA, HK2, BK339, BK340, HB⟩ := hrel
     cases gk with
     | zero => exact absurd HA.out (by simp [impl_BestOffset.l0])
     | succ k2 =>
      have H := HA.out
      clear HA
      simp only [impl_BestOffset.l0] at H
      replace H := S.dc H; rcases H with ⟨H, c27b0⟩ | ⟨H, c27b0⟩
      ·replace H := Option.bind_eq_some_iff.mp H
       obtain ⟨t344, A280, H⟩ := H
       replace H : (if t344 > x10_2 then (impl_BestOffset.l0 k2 a2 a3 x29_2 t344 a2 (wrap64 (x29_2 + 1)) a0_0 a0_1 a1_0 a1_1) else (impl_BestOffset.l0 k2 a2 a3 x9_2 x10_2 a2 (wrap64 (x29_2 + 1)) a0_0 a0_1 a1_0 a1_1)) = some r := H
       have A28 := Aside0.mk A280
       clear A280
       by_cases c29 : t344 > x10_2
       ·rw [if_pos c29] at H
        have c29b0 : decide (x10_2 < t344) = true := decide_eq_true c29
        clear c29
        have H' := Aside0.mk H
        clear H
        have hnb30 := NB339_340.out
        have hnc30 := NB340_339.out
        obtain ⟨Z31a, Z31b, Y31a, Y31b⟩ := S.c2 BK339.out
        obtain ⟨Z32a, Z32b, Y32a, Y32b⟩ := S.c2 BK340.out
        go_wp2_with (first | ((with_reducible refine gate_callee (f := 36) rfl ?_); refine S.gL (some 37) Try.func36 #[.agg #[.int .i64 a0_0, .int .i64 a0_1], .agg #[.int .i64 a1_0, .int .i64 a1_1], .int .i64 a2, .int .i64 a3, .int .i64 x29_2] ?_; (with_reducible refine (impl_Band.calls k2 a0_0 a0_1 a1_0 a1_1 a2 a3 x29_2 t344 _ A28.out).mono ?_); rintro e w33 ⟨rfl, hb⟩; refine ⟨_, rfl, ?_⟩; replace BK339 := S.kb BK339 hb; replace BK340 := S.kb BK340 hb; replace HB := S.sG hb; (try clear hb)))
        go_roundg k2
        case measure => have := HJ4.out; have := HK2.out; omega
        case rel => exact ⟨(x29_2), (t344), (wrap64 (x29_2 + 1)), S.eA, S.eA, S.eA, H', ⟨by have := HJ4.out; have := HK2.out; omega⟩, ⟨S.uB BK339.out⟩, ⟨S.uB BK340.out⟩, ⟨S.bG⟩⟩
       ·rw [if_neg c29] at H
        have c29b0 : decide (x10_2 < t344) = false := decide_eq_false c29
        clear c29
        have H' := Aside0.mk H
        clear H
        have hnb34 := NB339_340.out
        have hnc34 := NB340_339.out
        obtain ⟨Z35a, Z35b, Y35a, Y35b⟩ := S.c2 BK339.out
        obtain ⟨Z36a, Z36b, Y36a, Y36b⟩ := S.c2 BK340.out
        go_wp2_with (first | ((with_reducible refine gate_callee (f := 36) rfl ?_); refine S.gL (some 37) Try.func36 #[.agg #[.int .i64 a0_0, .int .i64 a0_1], .agg #[.int .i64 a1_0, .int .i64 a1_1], .int .i64 a2, .int .i64 a3, .int .i64 x29_2] ?_; (with_reducible refine (impl_Band.calls k2 a0_0 a0_1 a1_0 a1_1 a2 a3 x29_2 t344 _ A28.out).mono ?_); rintro e w37 ⟨rfl, hb⟩; refine ⟨_, rfl, ?_⟩; replace BK339 := S.kb BK339 hb; replace BK340 := S.kb BK340 hb; replace HB := S.sG hb; (try clear hb)))
        go_roundg k2
        case measure => have := HJ4.out; have := HK2.out; omega
        case rel => exact ⟨(x9_2), (x10_2), (wrap64 (x29_2 + 1)), S.eA, S.eA, S.eA, H', ⟨by have := HJ4.out; have := HK2.out; omega⟩, ⟨S.uB BK339.out⟩, ⟨S.uB BK340.out⟩, ⟨S.bG⟩⟩
      ·obtain rfl := Option.some.inj H
       go_wp2
       go_ret
       exact ⟨S.eW, S.bG⟩

/-! ### spec_l1In: function 58 -/
def spec_l1In.f (a0 : Int) (a1 : Int) (a2 : Int) : Option (Bool) := if a0 ≥ a1 then (some (decide (a0 ≤ a2))) else (some false)
set_option maxHeartbeats 8000000 in
set_option maxRecDepth 100000 in
theorem spec_l1In.calls (a0 : Int) (a1 : Int) (a2 : Int) (r : Bool) (w : World) (h : spec_l1In.f a0 a1 a2 = some r) :
  Calls Try.prog 58 #[.int .i64 a0, .int .i64 a1, .int .i64 a2] w fun e w' => e = .returned (.bool r) ∧ Drawn0 w w' := by
 have H : (if a0 ≥ a1 then (some (decide (a0 ≤ a2))) else (some false)) = some r := h
 clear h
 by_cases c4 : a0 ≥ a1
 ·rw [if_pos c4] at H
  have c4b0 : decide (a1 ≤ a0) = true := decide_eq_true c4
  clear c4
  obtain rfl := Option.some.inj H
  go_enter Try.func58, Try.ntmps58
  go_wp2
  go_ret
  exact ⟨S.eA, by repeat (first | exact Drawn0.refl _ | apply Drawn0.step)⟩
 ·rw [if_neg c4] at H
  have c4b0 : decide (a1 ≤ a0) = false := decide_eq_false c4
  clear c4
  obtain rfl := Option.some.inj H
  go_enter Try.func58, Try.ntmps58
  go_wp2
  go_ret
  exact ⟨S.eA, by repeat (first | exact Drawn0.refl _ | apply Drawn0.step)⟩

/-! ### spec_FindPath: function 96 -/
def spec_FindPath.l0 : Nat → List (S71) → Int → Int → Option (Int)
 | 0, _, _, _ => none
 | k + 1, x0, x1, x5 => if x5 < (x0.length : Int) then (if 0 ≤ x5 then (if ((rd_T71 x0 x5).f0) = x1 then (some x5) else (spec_FindPath.l0 k x0 x1 (wrap64 (x5 + 1)))) else (none)) else (some (-1))
def spec_FindPath.f (k : Nat) (l0 : List (S71)) (a1 : Int) : Option (Int) := spec_FindPath.l0 k l0 a1 0
set_option maxHeartbeats 8000000 in
set_option maxRecDepth 100000 in
theorem spec_FindPath.calls (k : Nat) (A0 : Option Addr) (c0 : Nat) (l0 : List (S71)) (a1 : Int) (r : Int) (w : World) (hr0 : Kd.C k71 w A0 l0.length l0) (hc0 : l0.length ≤ c0) (h : spec_FindPath.f k l0 a1 = some r) :
  Calls Try.prog 96 #[.slice A0 l0.length c0, .int .i64 a1] w fun e w' => e = .returned (.int .i64 r) ∧ Drawn0 w w' := by
 have HR0 := Aside0.mk hr0
 have HC0 := Aside0.mk hc0
 clear hr0 hc0
 have H : (spec_FindPath.l0 k l0 a1 0) = some r := h
 clear h
 have H' := Aside0.mk H
 clear H
 go_enter Try.func96, Try.ntmps96
 go_wp2
 go_loopg [5] k (fun kq v5 w' => ∃ (x5_1 : Int), v5 = .int .i64 x5_1 ∧ Aside0 (spec_FindPath.l0 kq l0 a1 x5_1 = some r) ∧ Aside0 (kq ≤ k) ∧ Drawn0 w w')
 case atStart => exact ⟨(0), S.eA, H', ⟨Nat.le_refl _⟩, by repeat (first | exact Drawn0.refl _ | apply Drawn0.step)⟩
 case round =>
  clear H'
  obtain ⟨x5_1, rfl, HA, HK1, ⟨m1, rfl⟩⟩ := hrel
  cases gk with
  | zero => exact absurd HA.out (by simp [spec_FindPath.l0])
  | succ k1 =>
   have H := HA.out
   clear HA
   simp only [spec_FindPath.l0] at H
   replace H := S.dc H; rcases H with ⟨H, c3b0⟩ | ⟨H, c3b0⟩
   ·by_cases c4 : 0 ≤ x5_1
    ·rw [if_pos c4] at H
     have c4b0 : decide (0 ≤ x5_1) = true := decide_eq_true c4
     clear c4
     by_cases c5 : ((rd_T71 l0 x5_1).f0) = a1
     ·rw [if_pos c5] at H
      have c5b0 : (((rd_T71 l0 x5_1).f0) == a1) = true := beq_iff_eq.mpr c5
      have c5b1 : (((rd_T71 l0 x5_1).f0) != a1) = false := bne_eq_false_iff_eq.mpr c5
      clear c5
      obtain rfl := Option.some.inj H
      have p345 : 0 ≤ (x5_1 : Int) := S.oD
      have q345 : x5_1 < (l0.length : Int) := S.oD
      obtain ⟨ad345, e345, hx345_0, hx345_1, hx345_2, hx345_3⟩ := at_T71 HR0.out x5_1 p345 q345
      cases e345
      replace p345 := eq_true p345
      replace q345 := eq_true q345
      go_wp2
      go_ret
      exact ⟨S.eA, by repeat (first | exact Drawn0.refl _ | apply Drawn0.step)⟩
     ·rw [if_neg c5] at H
      have c5b0 : (((rd_T71 l0 x5_1).f0) == a1) = false := beq_eq_false_iff_ne.mpr c5
      have c5b1 : (((rd_T71 l0 x5_1).f0) != a1) = true := bne_iff_ne.mpr c5
      have H' := Aside0.mk H
      clear H
      have p345 : 0 ≤ (x5_1 : Int) := S.oD
      have q345 : x5_1 < (l0.length : Int) := S.oD
      obtain ⟨ad345, e345, hx345_0, hx345_1, hx345_2, hx345_3⟩ := at_T71 HR0.out x5_1 p345 q345
      cases e345
      replace p345 := eq_true p345
      replace q345 := eq_true q345
      go_wp2
      go_roundg k1
      case measure => have := HK1.out; omega
      case rel => exact ⟨(wrap64 (x5_1 + 1)), S.eA, H', ⟨by have := HK1.out; omega⟩, by repeat (first | exact Drawn0.refl _ | apply Drawn0.step)⟩
    ·rw [if_neg c4] at H
     exact absurd H (by simp)
   ·obtain rfl := Option.some.inj H
    go_wp2
    go_ret
    exact ⟨S.eA, by repeat (first | exact Drawn0.refl _ | apply Drawn0.step)⟩
/-! ### spec_IsPath: function 135 -/
def spec_IsPath.f (a0_0 : Int) (a0_1 : Int) (a0_2 : Int) (a0_3 : Int) : Option (Bool) := (spec_l1In.f a0_0 1 20).bind fun t347 => (if t347 = true then ((spec_l1In.f a0_1 1 3).bind fun t348 => (if t348 = true then ((spec_l1In.f a0_2 0 3).bind fun t349 => (if t349 = true then ((spec_l1In.f a0_3 0 3).bind fun t350 => (if t350 = true then (some ((a0_2 == a0_3) == (a0_1 == 2))) else (some false))) else (some false))) else (some false))) else (some false))
set_option maxHeartbeats 8000000 in
set_option maxRecDepth 100000 in
theorem spec_IsPath.calls (a0_0 : Int) (a0_1 : Int) (a0_2 : Int) (a0_3 : Int) (r : Bool) (w : World) (h : spec_IsPath.f a0_0 a0_1 a0_2 a0_3 = some r) :
  Calls Try.prog 135 #[.agg #[.int .i64 a0_0, .int .i64 a0_1, .int .i64 a0_2, .int .i64 a0_3]] w fun e w' => e = .returned (.bool r) ∧ Below w.heap.size w w' := by
 have hu71 := Try.underlying71
 have HB := Aside0.mk (Below.refl w.heap.size w)
 have H : ((spec_l1In.f a0_0 1 20).bind fun t347 => (if t347 = true then ((spec_l1In.f a0_1 1 3).bind fun t348 => (if t348 = true then ((spec_l1In.f a0_2 0 3).bind fun t349 => (if t349 = true then ((spec_l1In.f a0_3 0 3).bind fun t350 => (if t350 = true then (some ((a0_2 == a0_3) == (a0_1 == 2))) else (some false))) else (some false))) else (some false))) else (some false))) = some r := h
 clear h
 replace H := S.bd H; obtain ⟨t347, A2, H⟩ := H
 (try dsimp only at H)
 replace H := S.db H; rcases H with ⟨rfl, H⟩ | ⟨rfl, H⟩
 ·replace H := S.bd H; obtain ⟨t348, A4, H⟩ := H
  (try dsimp only at H)
  replace H := S.db H; rcases H with ⟨rfl, H⟩ | ⟨rfl, H⟩
  ·replace H := S.bd H; obtain ⟨t349, A6, H⟩ := H
   (try dsimp only at H)
   replace H := S.db H; rcases H with ⟨rfl, H⟩ | ⟨rfl, H⟩
   ·replace H := S.bd H; obtain ⟨t350, A8, H⟩ := H
    (try dsimp only at H)
    replace H := S.db H; rcases H with ⟨rfl, H⟩ | ⟨rfl, H⟩
    ·obtain rfl := Option.some.inj H
     go_enter Try.func135, Try.ntmps135
     go_wp2_with (first | ((with_reducible refine gate_dst (N := 1) rfl ?_); refine S.bx 1 (cs := #[.int .i64 a0_0, .int .i64 a0_1, .int .i64 a0_2, .int .i64 a0_3]) (t := 71) ?_; intro gb346 hg w10 hbox hb; have BK346 := Aside0.mk hbox; have GW346 := S.geA hg; have GE346 := S.geA hg; replace HB := S.sA hb; clear hb hbox hg; obtain ⟨Z11a, Z11b, Z11c, Z11d, Y11a, Y11b, Y11c, Y11d⟩ := S.c4 BK346.out) | ((with_reducible refine gate_callee (f := 58) rfl ?_); refine S.gL (some 5) Try.func58 #[.int .i64 a0_0, .int .i64 1, .int .i64 20] ?_; (with_reducible refine (spec_l1In.calls a0_0 1 20 true _ A2.out).mono ?_); rintro e w' ⟨rfl, ⟨nd, rfl⟩⟩; refine ⟨_, rfl, ?_⟩) | (go_at_call 58; (with_reducible refine (spec_l1In.calls a0_1 1 3 true _ A4.out).mono ?_); rintro e w' ⟨rfl, ⟨nd, rfl⟩⟩) | (go_at_call 58; (with_reducible refine (spec_l1In.calls a0_2 0 3 true _ A6.out).mono ?_); rintro e w' ⟨rfl, ⟨nd, rfl⟩⟩) | (go_at_call 58; (with_reducible refine (spec_l1In.calls a0_3 0 3 true _ A8.out).mono ?_); rintro e w' ⟨rfl, ⟨nd, rfl⟩⟩))
     go_ret
     exact ⟨S.eW, S.bG⟩
    ·obtain rfl := Option.some.inj H
     go_enter Try.func135, Try.ntmps135
     go_wp2_with (first | ((with_reducible refine gate_dst (N := 1) rfl ?_); refine S.bx 1 (cs := #[.int .i64 a0_0, .int .i64 a0_1, .int .i64 a0_2, .int .i64 a0_3]) (t := 71) ?_; intro gb346 hg w12 hbox hb; have BK346 := Aside0.mk hbox; have GW346 := S.geA hg; have GE346 := S.geA hg; replace HB := S.sA hb; clear hb hbox hg; obtain ⟨Z13a, Z13b, Z13c, Z13d, Y13a, Y13b, Y13c, Y13d⟩ := S.c4 BK346.out) | ((with_reducible refine gate_callee (f := 58) rfl ?_); refine S.gL (some 5) Try.func58 #[.int .i64 a0_0, .int .i64 1, .int .i64 20] ?_; (with_reducible refine (spec_l1In.calls a0_0 1 20 true _ A2.out).mono ?_); rintro e w' ⟨rfl, ⟨nd, rfl⟩⟩; refine ⟨_, rfl, ?_⟩) | (go_at_call 58; (with_reducible refine (spec_l1In.calls a0_1 1 3 true _ A4.out).mono ?_); rintro e w' ⟨rfl, ⟨nd, rfl⟩⟩) | (go_at_call 58; (with_reducible refine (spec_l1In.calls a0_2 0 3 true _ A6.out).mono ?_); rintro e w' ⟨rfl, ⟨nd, rfl⟩⟩) | (go_at_call 58; (with_reducible refine (spec_l1In.calls a0_3 0 3 false _ A8.out).mono ?_); rintro e w' ⟨rfl, ⟨nd, rfl⟩⟩))
     go_ret
     exact ⟨S.eW, S.bG⟩
   ·obtain rfl := Option.some.inj H
    go_enter Try.func135, Try.ntmps135
    go_wp2_with (first | ((with_reducible refine gate_dst (N := 1) rfl ?_); refine S.bx 1 (cs := #[.int .i64 a0_0, .int .i64 a0_1, .int .i64 a0_2, .int .i64 a0_3]) (t := 71) ?_; intro gb346 hg w14 hbox hb; have BK346 := Aside0.mk hbox; have GW346 := S.geA hg; have GE346 := S.geA hg; replace HB := S.sA hb; clear hb hbox hg; obtain ⟨Z15a, Z15b, Z15c, Z15d, Y15a, Y15b, Y15c, Y15d⟩ := S.c4 BK346.out) | ((with_reducible refine gate_callee (f := 58) rfl ?_); refine S.gL (some 5) Try.func58 #[.int .i64 a0_0, .int .i64 1, .int .i64 20] ?_; (with_reducible refine (spec_l1In.calls a0_0 1 20 true _ A2.out).mono ?_); rintro e w' ⟨rfl, ⟨nd, rfl⟩⟩; refine ⟨_, rfl, ?_⟩) | (go_at_call 58; (with_reducible refine (spec_l1In.calls a0_1 1 3 true _ A4.out).mono ?_); rintro e w' ⟨rfl, ⟨nd, rfl⟩⟩) | (go_at_call 58; (with_reducible refine (spec_l1In.calls a0_2 0 3 false _ A6.out).mono ?_); rintro e w' ⟨rfl, ⟨nd, rfl⟩⟩))
    go_ret
    exact ⟨S.eW, S.bG⟩
  ·obtain rfl := Option.some.inj H
   go_enter Try.func135, Try.ntmps135
   go_wp2_with (first | ((with_reducible refine gate_dst (N := 1) rfl ?_); refine S.bx 1 (cs := #[.int .i64 a0_0, .int .i64 a0_1, .int .i64 a0_2, .int .i64 a0_3]) (t := 71) ?_; intro gb346 hg w16 hbox hb; have BK346 := Aside0.mk hbox; have GW346 := S.geA hg; have GE346 := S.geA hg; replace HB := S.sA hb; clear hb hbox hg; obtain ⟨Z17a, Z17b, Z17c, Z17d, Y17a, Y17b, Y17c, Y17d⟩ := S.c4 BK346.out) | ((with_reducible refine gate_callee (f := 58) rfl ?_); refine S.gL (some 5) Try.func58 #[.int .i64 a0_0, .int .i64 1, .int .i64 20] ?_; (with_reducible refine (spec_l1In.calls a0_0 1 20 true _ A2.out).mono ?_); rintro e w' ⟨rfl, ⟨nd, rfl⟩⟩; refine ⟨_, rfl, ?_⟩) | (go_at_call 58; (with_reducible refine (spec_l1In.calls a0_1 1 3 false _ A4.out).mono ?_); rintro e w' ⟨rfl, ⟨nd, rfl⟩⟩))
   go_ret
   exact ⟨S.eW, S.bG⟩
 ·obtain rfl := Option.some.inj H
  go_enter Try.func135, Try.ntmps135
  go_wp2_with (first | ((with_reducible refine gate_dst (N := 1) rfl ?_); refine S.bx 1 (cs := #[.int .i64 a0_0, .int .i64 a0_1, .int .i64 a0_2, .int .i64 a0_3]) (t := 71) ?_; intro gb346 hg w18 hbox hb; have BK346 := Aside0.mk hbox; have GW346 := S.geA hg; have GE346 := S.geA hg; replace HB := S.sA hb; clear hb hbox hg; obtain ⟨Z19a, Z19b, Z19c, Z19d, Y19a, Y19b, Y19c, Y19d⟩ := S.c4 BK346.out) | ((with_reducible refine gate_callee (f := 58) rfl ?_); refine S.gL (some 5) Try.func58 #[.int .i64 a0_0, .int .i64 1, .int .i64 20] ?_; (with_reducible refine (spec_l1In.calls a0_0 1 20 false _ A2.out).mono ?_); rintro e w' ⟨rfl, ⟨nd, rfl⟩⟩; refine ⟨_, rfl, ?_⟩))
  go_ret
  exact ⟨S.eW, S.bG⟩

/-! ### spec_Interleave: function 136 -/
mutual
def spec_Interleave.l0 : Nat → Int → Int → Int → Int → List Int → Int → Option (Bool)
 | 0, _, _, _, _, _, _ => none
 | k + 1, x0, x1, x2, x3, x9, x10 => if x10 < 4 then (spec_Interleave.l1 k x0 x1 x2 x3 x9 x10 0) else (spec_Interleave.l2 k x1 x2 x3 0 (Int.tmod (wrap64 (x0 + 1)) 8))
def spec_Interleave.l1 : Nat → Int → Int → Int → Int → List Int → Int → Int → Option (Bool)
 | 0, _, _, _, _, _, _, _ => none
 | k + 1, x0, x1, x2, x3, x9, x10, x11 => if x11 < x10 then (if 0 ≤ x10 then (if x10 < (x9.length : Int) then (if 0 ≤ x11 then (if x11 < (x9.length : Int) then (if (rd x9 x10) = (rd x9 x11) then (some false) else (spec_Interleave.l1 k x0 x1 x2 x3 x9 x10 (wrap64 (x11 + 1)))) else (none)) else (none)) else (none)) else (none)) else (if 0 ≤ x10 then (if x10 < (x9.length : Int) then ((spec_l1In.f (rd x9 x10) 0 7).bind fun t357 => (if t357 = true then (spec_Interleave.l0 k x0 x1 x2 x3 x9 (wrap64 (x10 + 1))) else (some false))) else (none)) else (none))
def spec_Interleave.l2 : Nat → Int → Int → Int → Int → Int → Option (Bool)
 | 0, _, _, _, _, _ => none
 | k + 1, x1, x2, x3, x12, x13 => if x13 = x1 then (some (x12 == 1)) else (if x13 = x2 then (spec_Interleave.l2 k x1 x2 x3 (wrap64 (x12 + 1)) (Int.tmod (wrap64 (x13 + 1)) 8)) else (if x13 = x3 then (spec_Interleave.l2 k x1 x2 x3 (wrap64 (x12 + 1)) (Int.tmod (wrap64 (x13 + 1)) 8)) else (spec_Interleave.l2 k x1 x2 x3 x12 (Int.tmod (wrap64 (x13 + 1)) 8))))
end
def spec_Interleave.f (k : Nat) (a0 : Int) (a1 : Int) (a2 : Int) (a3 : Int) : Option (Bool) := spec_Interleave.l0 k a0 a1 a2 a3 (([a0, a1, a2, a3] : List Int)) 0
theorem spec_Interleave.mono_l : ∀ k, (∀ y0 y1 y2 y3 y4 y5, LeO (spec_Interleave.l0 k y0 y1 y2 y3 y4 y5) (spec_Interleave.l0 (k + 1) y0 y1 y2 y3 y4 y5)) ∧ (∀ y0 y1 y2 y3 y4 y5 y6, LeO (spec_Interleave.l1 k y0 y1 y2 y3 y4 y5 y6) (spec_Interleave.l1 (k + 1) y0 y1 y2 y3 y4 y5 y6)) ∧ (∀ y0 y1 y2 y3 y4, LeO (spec_Interleave.l2 k y0 y1 y2 y3 y4) (spec_Interleave.l2 (k + 1) y0 y1 y2 y3 y4))
 | 0 => ⟨fun _ _ _ _ _ _ r h => by simp [spec_Interleave.l0] at h, fun _ _ _ _ _ _ _ r h => by simp [spec_Interleave.l1] at h, fun _ _ _ _ _ r h => by simp [spec_Interleave.l2] at h⟩
 | k + 1 => by
  obtain ⟨ih0, ih1, ih2⟩ := spec_Interleave.mono_l k
  refine ⟨?_, ?_, ?_⟩
  ·intro y0 y1 y2 y3 y4 y5
   unfold spec_Interleave.l0
   repeat' first
   | (with_reducible exact ih0 _ _ _ _ _ _)
   | (with_reducible exact ih1 _ _ _ _ _ _ _)
   | (with_reducible exact ih2 _ _ _ _ _)
   | (with_reducible exact LeO.refl _)
   | (with_reducible exact LeO.none _)
   | (with_reducible refine LeO.ite ?_ ?_)
   | (with_reducible refine LeO.bind ?_ (fun _ => ?_))
   | exact ih0 _ _ _ _ _ _
   | exact ih1 _ _ _ _ _ _ _
   | exact ih2 _ _ _ _ _
   | exact LeO.none _
   | refine LeO.ite ?_ ?_
   | refine LeO.bind ?_ (fun _ => ?_)
  ·intro y0 y1 y2 y3 y4 y5 y6
   unfold spec_Interleave.l1
   repeat' first
   | (with_reducible exact ih0 _ _ _ _ _ _)
   | (with_reducible exact ih1 _ _ _ _ _ _ _)
   | (with_reducible exact ih2 _ _ _ _ _)
   | (with_reducible exact LeO.refl _)
   | (with_reducible exact LeO.none _)
   | (with_reducible refine LeO.ite ?_ ?_)
   | (with_reducible refine LeO.bind ?_ (fun _ => ?_))
   | exact ih0 _ _ _ _ _ _
   | exact ih1 _ _ _ _ _ _ _
   | exact ih2 _ _ _ _ _
   | exact LeO.none _
   | refine LeO.ite ?_ ?_
   | refine LeO.bind ?_ (fun _ => ?_)
  ·intro y0 y1 y2 y3 y4
   unfold spec_Interleave.l2
   repeat' first
   | (with_reducible exact ih0 _ _ _ _ _ _)
   | (with_reducible exact ih1 _ _ _ _ _ _ _)
   | (with_reducible exact ih2 _ _ _ _ _)
   | (with_reducible exact LeO.refl _)
   | (with_reducible exact LeO.none _)
   | (with_reducible refine LeO.ite ?_ ?_)
   | (with_reducible refine LeO.bind ?_ (fun _ => ?_))
   | exact ih0 _ _ _ _ _ _
   | exact ih1 _ _ _ _ _ _ _
   | exact ih2 _ _ _ _ _
   | exact LeO.none _
   | refine LeO.ite ?_ ?_
   | refine LeO.bind ?_ (fun _ => ?_)
theorem spec_Interleave.mono : ∀ a0 a1 a2 a3 k, LeO (spec_Interleave.f k a0 a1 a2 a3) (spec_Interleave.f (k + 1) a0 a1 a2 a3) := by
 intro a0 a1 a2 a3 k
 obtain ⟨ih0, ih1, ih2⟩ := spec_Interleave.mono_l k
 unfold spec_Interleave.f
 repeat' first
   | (with_reducible exact ih0 _ _ _ _ _ _)
   | (with_reducible exact ih1 _ _ _ _ _ _ _)
   | (with_reducible exact ih2 _ _ _ _ _)
   | (with_reducible exact LeO.refl _)
   | (with_reducible exact LeO.none _)
   | (with_reducible refine LeO.ite ?_ ?_)
   | (with_reducible refine LeO.bind ?_ (fun _ => ?_))
   | exact ih0 _ _ _ _ _ _
   | exact ih1 _ _ _ _ _ _ _
   | exact ih2 _ _ _ _ _
   | exact LeO.none _
   | refine LeO.ite ?_ ?_
   | refine LeO.bind ?_ (fun _ => ?_)
set_option maxHeartbeats 8000000 in
set_option maxRecDepth 100000 in
theorem spec_Interleave.calls (k : Nat) (a0 : Int) (a1 : Int) (a2 : Int) (a3 : Int) (r : Bool) (w : World) (h : spec_Interleave.f k a0 a1 a2 a3 = some r) :
  Calls Try.prog 136 #[.int .i64 a0, .int .i64 a1, .int .i64 a2, .int .i64 a3] w fun e w' => e = .returned (.bool r) ∧ Below w.heap.size w w' := by
 have HB := Aside0.mk (Below.refl w.heap.size w)
 have H : (spec_Interleave.l0 k a0 a1 a2 a3 (([a0, a1, a2, a3] : List Int)) 0) = some r := h
 clear h
 obtain ⟨y351, hy351⟩ : ∃ y_ : List Int, y_ = (([a0, a1, a2, a3] : List Int)) := ⟨_, rfl⟩
 replace H : (spec_Interleave.l0 k a0 a1 a2 a3 y351 0) = some r := by first | (rw [hy351]; with_reducible exact H) | (have H2_ := (Option.bind_some _ _).symm.trans H; rw [hy351]; with_reducible exact H2_) | (have H2_ := (Option.bind_some _ _).symm.trans H; with_reducible exact H2_) | with_reducible exact H | (rw [hy351]; exact H) | exact H
 have Ny351 := Aside0.mk hy351
 clear hy351
 have H' := Aside0.mk H
 clear H
 go_enter Try.func136, Try.ntmps136
 go_wp2_with (first | ((with_reducible refine gate_dst (N := 18) rfl ?_); refine Kd.R_lit (Kd.int .i64) _ 3 ?hg (N := 18) ?hd (xs := ([a0, a1, a2, a3] : List Int)) (inner := [.int .i64 a0, .int .i64 a1, .int .i64 a2, .int .i64 a3]) (ok := fun _ => True) (okp := fun _ => True) ?hr ?hp (fun _ hk => hk) trivial (Below.refl _ _) (Nat.le_refl _) (by simp) ?_; (case hd => rfl); (case hg => rfl); (case hr => first | (go_simp; done) | (go_simp; rfl)); (case hp => exact (Reps.one (show Kd.M (Kd.int .i64) _ _ _ a0 [.int .i64 a0] from rfl) (Reps.one (show Kd.M (Kd.int .i64) _ _ _ a1 [.int .i64 a1] from rfl) (Reps.one (show Kd.M (Kd.int .i64) _ _ _ a2 [.int .i64 a2] from rfl) (Reps.one (show Kd.M (Kd.int .i64) _ _ _ a3 [.int .i64 a3] from rfl) (Reps.none _ _)))))); intro v352 w5 ho6 hb hg_ hnew_; clear hg_ hnew_; (first | rw [← Ny351.out] at ho6 | (simp only [Int.reduceToNat] at ho6; rw [← Ny351.out] at ho6)); have HO353 := S.lwA ho6; replace HB := S.sA hb; clear hb ho6))
 repeat (go_quiet (first | ((with_reducible refine gate_dst (N := 18) rfl ?_); refine Kd.R_lit (Kd.int .i64) _ 3 ?hg (N := 18) ?hd (xs := ([a0, a1, a2, a3] : List Int)) (inner := [.int .i64 a0, .int .i64 a1, .int .i64 a2, .int .i64 a3]) (ok := fun _ => True) (okp := fun _ => True) ?hr ?hp (fun _ hk => hk) trivial (Below.refl _ _) (Nat.le_refl _) (by simp) ?_; (case hd => rfl); (case hg => rfl); (case hr => first | (go_simp; done) | (go_simp; rfl)); (case hp => exact (Reps.one (show Kd.M (Kd.int .i64) _ _ _ a0 [.int .i64 a0] from rfl) (Reps.one (show Kd.M (Kd.int .i64) _ _ _ a1 [.int .i64 a1] from rfl) (Reps.one (show Kd.M (Kd.int .i64) _ _ _ a2 [.int .i64 a2] from rfl) (Reps.one (show Kd.M (Kd.int .i64) _ _ _ a3 [.int .i64 a3] from rfl) (Reps.none _ _)))))); intro v352 w5 ho6 hb hg_ hnew_; clear hg_ hnew_; (first | rw [← Ny351.out] at ho6 | (simp only [Int.reduceToNat] at ho6; rw [← Ny351.out] at ho6)); have HO353 := S.lwA ho6; replace HB := S.sA hb; clear hb ho6)); try go_wp2_with (first | ((with_reducible refine gate_dst (N := 18) rfl ?_); refine Kd.R_lit (Kd.int .i64) _ 3 ?hg (N := 18) ?hd (xs := ([a0, a1, a2, a3] : List Int)) (inner := [.int .i64 a0, .int .i64 a1, .int .i64 a2, .int .i64 a3]) (ok := fun _ => True) (okp := fun _ => True) ?hr ?hp (fun _ hk => hk) trivial (Below.refl _ _) (Nat.le_refl _) (by simp) ?_; (case hd => rfl); (case hg => rfl); (case hr => first | (go_simp; done) | (go_simp; rfl)); (case hp => exact (Reps.one (show Kd.M (Kd.int .i64) _ _ _ a0 [.int .i64 a0] from rfl) (Reps.one (show Kd.M (Kd.int .i64) _ _ _ a1 [.int .i64 a1] from rfl) (Reps.one (show Kd.M (Kd.int .i64) _ _ _ a2 [.int .i64 a2] from rfl) (Reps.one (show Kd.M (Kd.int .i64) _ _ _ a3 [.int .i64 a3] from rfl) (Reps.none _ _)))))); intro v352 w5 ho6 hb hg_ hnew_; clear hg_ hnew_; (first | rw [← Ny351.out] at ho6 | (simp only [Int.reduceToNat] at ho6; rw [← Ny351.out] at ho6)); have n0_ := S.lwA ho6; have n1_ := S.sA hb; clear HB; have HO353 := n0_; have HB := n1_; clear n0_ n1_; clear hb ho6)))
 go_loopg [10] k (fun kq v10 w' => ∃ (x10_1 : Int), v10 = .int .i64 x10_1 ∧ Aside0 (spec_Interleave.l0 kq a0 a1 a2 a3 y351 x10_1 = some r) ∧ Aside0 (kq ≤ k) ∧ Aside0 (Kd.R (Kd.int .i64) 3 w' w.heap.size (fun _ => True) v352 y351) ∧ Aside0 (Below w.heap.size w w'))
 case atStart => exact ⟨(0), S.eA, H', ⟨Nat.le_refl _⟩, ⟨S.uR HO353.out⟩, ⟨S.bA⟩⟩
 case round =>
  clear H'
  obtain ⟨x10_1, rfl, HA, HK1, HO_9, HB⟩ := hrel
  cases gk with
  | zero => exact absurd HA.out (by simp [spec_Interleave.l0])
  | succ k1 =>
   have H := HA.out
   clear HA
   simp only [spec_Interleave.l0] at H
   replace H := S.dc H; rcases H with ⟨H, c7b0⟩ | ⟨H, c7b0⟩
   ·have H' := Aside0.mk H
    clear H
    go_wp2
    repeat (go_quiet (fail); try go_wp2)
    go_loopg [11] k1 (fun kq v11 w' => ∃ (x11_2 : Int), v11 = .int .i64 x11_2 ∧ Aside0 (spec_Interleave.l1 kq a0 a1 a2 a3 y351 x10_1 x11_2 = some r) ∧ Aside0 (kq ≤ k1) ∧ Aside0 (Kd.R (Kd.int .i64) 3 w' w.heap.size (fun _ => True) v352 y351) ∧ Aside0 (Below w.heap.size w w'))
    case atStart => exact ⟨(0), S.eA, H', ⟨Nat.le_refl _⟩, ⟨S.uR HO_9.out⟩, ⟨S.bA⟩⟩
    case round =>
     clear H'
     try clear c7
     try clear c7b0
     obtain ⟨x11_2, rfl, HA, HK2, HO_9, HB⟩ := hrel
     cases gk with
     | zero => exact absurd HA.out (by simp [spec_Interleave.l1])
     | succ k2 =>
      have H := HA.out
      clear HA
      simp only [spec_Interleave.l1] at H
      replace H := S.dc H; rcases H with ⟨H, c8b0⟩ | ⟨H, c8b0⟩
      ·by_cases c9 : 0 ≤ x10_1
       ·rw [if_pos c9] at H
        have c9b0 : decide (0 ≤ x10_1) = true := decide_eq_true c9
        clear c9
        by_cases c10 : x10_1 < (y351.length : Int)
        ·rw [if_pos c10] at H
         have c10b0 : decide (x10_1 < (y351.length : Int)) = true := decide_eq_true c10
         clear c10
         by_cases c11 : 0 ≤ x11_2
         ·rw [if_pos c11] at H
          have c11b0 : decide (0 ≤ x11_2) = true := decide_eq_true c11
          clear c11
          by_cases c12 : x11_2 < (y351.length : Int)
          ·rw [if_pos c12] at H
           have c12b0 : decide (x11_2 < (y351.length : Int)) = true := decide_eq_true c12
           clear c12
           by_cases c13 : (rd y351 x10_1) = (rd y351 x11_2)
           ·rw [if_pos c13] at H
            have c13b0 : ((rd y351 x10_1) == (rd y351 x11_2)) = true := beq_iff_eq.mpr c13
            have c13b1 : ((rd y351 x10_1) != (rd y351 x11_2)) = false := bne_eq_false_iff_eq.mpr c13
            clear c13
            obtain rfl := Option.some.inj H
            obtain ⟨Ao14, co14, eo14⟩ := Kd.R_slice HO_9.out
            subst eo14
            have p354 : 0 ≤ (x10_1 : Int) := S.oD
            have q354 : x10_1 < (y351.length : Int) := S.oD
            obtain ⟨ad354, e354, hx354_0⟩ := Kd.at_int (Kd.R_reads' HO_9.out).2.2 x10_1 p354 q354
            cases e354
            replace p354 := eq_true p354
            replace q354 := eq_true q354
            have p355 : 0 ≤ (x11_2 : Int) := S.oD
            have q355 : x11_2 < (y351.length : Int) := S.oD
            obtain ⟨ad355, e355, hx355_0⟩ := Kd.at_int (Kd.R_reads' HO_9.out).2.2 x11_2 p355 q355
            obtain rfl : ad354 = ad355 := (by injection e355)
            replace p355 := eq_true p355
            replace q355 := eq_true q355
            go_wp2
            repeat (go_quiet (fail); try go_wp2)
            go_ret
            exact ⟨S.eW, S.bA⟩
           ·rw [if_neg c13] at H
            have c13b0 : ((rd y351 x10_1) == (rd y351 x11_2)) = false := beq_eq_false_iff_ne.mpr c13
            have c13b1 : ((rd y351 x10_1) != (rd y351 x11_2)) = true := bne_iff_ne.mpr c13
            have H' := Aside0.mk H
            clear H
            obtain ⟨Ao15, co15, eo15⟩ := Kd.R_slice HO_9.out
            subst eo15
            have p354 : 0 ≤ (x10_1 : Int) := S.oD
            have q354 : x10_1 < (y351.length : Int) := S.oD
            obtain ⟨ad354, e354, hx354_0⟩ := Kd.at_int (Kd.R_reads' HO_9.out).2.2 x10_1 p354 q354
            cases e354
            replace p354 := eq_true p354
            replace q354 := eq_true q354
            have p355 : 0 ≤ (x11_2 : Int) := S.oD
            have q355 : x11_2 < (y351.length : Int) := S.oD
            obtain ⟨ad355, e355, hx355_0⟩ := Kd.at_int (Kd.R_reads' HO_9.out).2.2 x11_2 p355 q355
            obtain rfl : ad354 = ad355 := (by injection e355)
            replace p355 := eq_true p355
            replace q355 := eq_true q355
            go_wp2
            repeat (go_quiet (fail); try go_wp2)
            go_roundg k2
            case measure => have := HK1.out; have := HK2.out; omega
            case rel => exact ⟨(wrap64 (x11_2 + 1)), S.eA, H', ⟨by have := HK1.out; have := HK2.out; omega⟩, ⟨S.uR HO_9.out⟩, ⟨S.bA⟩⟩
          ·rw [if_neg c12] at H
           exact absurd H (by simp)
         ·rw [if_neg c11] at H
          exact absurd H (by simp)
        ·rw [if_neg c10] at H
         exact absurd H (by simp)
       ·rw [if_neg c9] at H
        exact absurd H (by simp)
      ·by_cases c16 : 0 ≤ x10_1
       ·rw [if_pos c16] at H
        have c16b0 : decide (0 ≤ x10_1) = true := decide_eq_true c16
        clear c16
        by_cases c17 : x10_1 < (y351.length : Int)
        ·rw [if_pos c17] at H
         have c17b0 : decide (x10_1 < (y351.length : Int)) = true := decide_eq_true c17
         clear c17
         replace H := S.bd H; obtain ⟨t357, A18, H⟩ := H
         (try dsimp only at H)
         replace H := S.db H; rcases H with ⟨rfl, H⟩ | ⟨rfl, H⟩
         ·have H' := Aside0.mk H
          clear H
          obtain ⟨Ao20, co20, eo20⟩ := Kd.R_slice HO_9.out
          subst eo20
          have p356 : 0 ≤ (x10_1 : Int) := S.oD
          have q356 : x10_1 < (y351.length : Int) := S.oD
          obtain ⟨ad356, e356, hx356_0⟩ := Kd.at_int (Kd.R_reads' HO_9.out).2.2 x10_1 p356 q356
          cases e356
          replace p356 := eq_true p356
          replace q356 := eq_true q356
          go_wp2_with (first | (go_at_call 58; (with_reducible refine (spec_l1In.calls (rd y351 x10_1) 0 7 true _ A18.out).mono ?_); rintro e w' ⟨rfl, ⟨nd, rfl⟩⟩; (try first | exact ⟨rfl, _, World.drewN_drewN _ _ _⟩ | exact ⟨rfl, _, Eq.trans (World.drewN_drewN _ _ _) (congrArg (World.drewN _) (Nat.add_assoc _ _ _))⟩)))
          repeat (go_quiet (first | (go_at_call 58; (with_reducible refine (spec_l1In.calls (rd y351 x10_1) 0 7 true _ A18.out).mono ?_); rintro e w' ⟨rfl, ⟨nd, rfl⟩⟩; (try first | exact ⟨rfl, _, World.drewN_drewN _ _ _⟩ | exact ⟨rfl, _, Eq.trans (World.drewN_drewN _ _ _) (congrArg (World.drewN _) (Nat.add_assoc _ _ _))⟩))); try go_wp2_with (first | (go_at_call 58; (with_reducible refine (spec_l1In.calls (rd y351 x10_1) 0 7 true _ A18.out).mono ?_); rintro e w' ⟨rfl, ⟨nd, rfl⟩⟩; (try first | exact ⟨rfl, _, World.drewN_drewN _ _ _⟩ | exact ⟨rfl, _, Eq.trans (World.drewN_drewN _ _ _) (congrArg (World.drewN _) (Nat.add_assoc _ _ _))⟩))))
          go_roundg k2
          case measure => have := HK1.out; have := HK2.out; omega
          case rel => exact ⟨(wrap64 (x10_1 + 1)), S.eA, H', ⟨by have := HK1.out; have := HK2.out; omega⟩, ⟨S.uR HO_9.out⟩, ⟨S.bA⟩⟩
         ·obtain rfl := Option.some.inj H
          obtain ⟨Ao21, co21, eo21⟩ := Kd.R_slice HO_9.out
          subst eo21
          have p356 : 0 ≤ (x10_1 : Int) := S.oD
          have q356 : x10_1 < (y351.length : Int) := S.oD
          obtain ⟨ad356, e356, hx356_0⟩ := Kd.at_int (Kd.R_reads' HO_9.out).2.2 x10_1 p356 q356
          cases e356
          replace p356 := eq_true p356
          replace q356 := eq_true q356
          go_wp2_with (first | (go_at_call 58; (with_reducible refine (spec_l1In.calls (rd y351 x10_1) 0 7 false _ A18.out).mono ?_); rintro e w' ⟨rfl, ⟨nd, rfl⟩⟩; (try first | exact ⟨rfl, _, World.drewN_drewN _ _ _⟩ | exact ⟨rfl, _, Eq.trans (World.drewN_drewN _ _ _) (congrArg (World.drewN _) (Nat.add_assoc _ _ _))⟩)))
          repeat (go_quiet (first | (go_at_call 58; (with_reducible refine (spec_l1In.calls (rd y351 x10_1) 0 7 false _ A18.out).mono ?_); rintro e w' ⟨rfl, ⟨nd, rfl⟩⟩; (try first | exact ⟨rfl, _, World.drewN_drewN _ _ _⟩ | exact ⟨rfl, _, Eq.trans (World.drewN_drewN _ _ _) (congrArg (World.drewN _) (Nat.add_assoc _ _ _))⟩))); try go_wp2_with (first | (go_at_call 58; (with_reducible refine (spec_l1In.calls (rd y351 x10_1) 0 7 false _ A18.out).mono ?_); rintro e w' ⟨rfl, ⟨nd, rfl⟩⟩; (try first | exact ⟨rfl, _, World.drewN_drewN _ _ _⟩ | exact ⟨rfl, _, Eq.trans (World.drewN_drewN _ _ _) (congrArg (World.drewN _) (Nat.add_assoc _ _ _))⟩))))
          go_ret
          exact ⟨S.eW, S.bA⟩
        ·rw [if_neg c17] at H
         exact absurd H (by simp)
       ·rw [if_neg c16] at H
        exact absurd H (by simp)
   ·have H' := Aside0.mk H
    clear H
    go_wp2
    repeat (go_quiet (fail); try go_wp2)
    go_loopg [12, 13] k1 (fun kq v12 v13 w' => ∃ (x12_2 : Int) (x13_2 : Int), v12 = .int .i64 x12_2 ∧ v13 = .int .i64 x13_2 ∧ Aside0 (spec_Interleave.l2 kq a1 a2 a3 x12_2 x13_2 = some r) ∧ Aside0 (kq ≤ k1) ∧ Aside0 (Below w.heap.size w w'))
    case atStart => exact ⟨(0), (Int.tmod (wrap64 (a0 + 1)) 8), S.eA, S.eA, H', ⟨Nat.le_refl _⟩, ⟨S.bA⟩⟩
    case round =>
     clear H'
     try clear c7
     try clear c7b0
     obtain ⟨x12_2, x13_2, rfl, rfl, HA, HK2, HB⟩ := hrel
     cases gk with
     | zero => exact absurd HA.out (by simp [spec_Interleave.l2])
     | succ k2 =>
      have H := HA.out
      clear HA
      simp only [spec_Interleave.l2] at H
      by_cases c22 : x13_2 = a1
      ·rw [if_pos c22] at H
       have c22b0 : (x13_2 == a1) = true := beq_iff_eq.mpr c22
       have c22b1 : (x13_2 != a1) = false := bne_eq_false_iff_eq.mpr c22
       clear c22
       obtain rfl := Option.some.inj H
       go_wp2
       repeat (go_quiet (fail); try go_wp2)
       go_ret
       exact ⟨S.eW, S.bA⟩
      ·rw [if_neg c22] at H
       have c22b0 : (x13_2 == a1) = false := beq_eq_false_iff_ne.mpr c22
       have c22b1 : (x13_2 != a1) = true := bne_iff_ne.mpr c22
       by_cases c23 : x13_2 = a2
       ·rw [if_pos c23] at H
        have c23b0 : (x13_2 == a2) = true := beq_iff_eq.mpr c23
        have c23b1 : (x13_2 != a2) = false := bne_eq_false_iff_eq.mpr c23
        clear c23
        have H' := Aside0.mk H
        clear H
        go_wp2
        repeat (go_quiet (fail); try go_wp2)
        go_roundg k2
        case measure => have := HK1.out; have := HK2.out; omega
        case rel => exact ⟨(wrap64 (x12_2 + 1)), (Int.tmod (wrap64 (x13_2 + 1)) 8), S.eA, S.eA, H', ⟨by have := HK1.out; have := HK2.out; omega⟩, ⟨S.bA⟩⟩
       ·rw [if_neg c23] at H
        have c23b0 : (x13_2 == a2) = false := beq_eq_false_iff_ne.mpr c23
        have c23b1 : (x13_2 != a2) = true := bne_iff_ne.mpr c23
        by_cases c24 : x13_2 = a3
        ·rw [if_pos c24] at H
         have c24b0 : (x13_2 == a3) = true := beq_iff_eq.mpr c24
         have c24b1 : (x13_2 != a3) = false := bne_eq_false_iff_eq.mpr c24
         clear c24
         have H' := Aside0.mk H
         clear H
         go_wp2
         repeat (go_quiet (fail); try go_wp2)
         go_roundg k2
         case measure => have := HK1.out; have := HK2.out; omega
         case rel => exact ⟨(wrap64 (x12_2 + 1)), (Int.tmod (wrap64 (x13_2 + 1)) 8), S.eA, S.eA, H', ⟨by have := HK1.out; have := HK2.out; omega⟩, ⟨S.bA⟩⟩
        ·rw [if_neg c24] at H
         have c24b0 : (x13_2 == a3) = false := beq_eq_false_iff_ne.mpr c24
         have c24b1 : (x13_2 != a3) = true := bne_iff_ne.mpr c24
         have H' := Aside0.mk H
         clear H
         go_wp2
         repeat (go_quiet (fail); try go_wp2)
         go_roundg k2
         case measure => have := HK1.out; have := HK2.out; omega
         case rel => exact ⟨(x12_2), (Int.tmod (wrap64 (x13_2 + 1)) 8), S.eA, S.eA, H', ⟨by have := HK1.out; have := HK2.out; omega⟩, ⟨S.bA⟩⟩

/-! ### spec_InPlace: function 137 -/
def spec_InPlace.f (a0 : Int) : Option (Int) := (spec_l1In.f a0 0 3).bind fun t358 => (if t358 = true then (some (wrap64 (2 * a0))) else (some (-1)))
set_option maxHeartbeats 8000000 in
set_option maxRecDepth 100000 in
theorem spec_InPlace.calls (a0 : Int) (r : Int) (w : World) (h : spec_InPlace.f a0 = some r) :
  Calls Try.prog 137 #[.int .i64 a0] w fun e w' => e = .returned (.int .i64 r) ∧ Drawn0 w w' := by
 have H : ((spec_l1In.f a0 0 3).bind fun t358 => (if t358 = true then (some (wrap64 (2 * a0))) else (some (-1)))) = some r := h
 clear h
 replace H := S.bd H; obtain ⟨t358, A2, H⟩ := H
 (try dsimp only at H)
 replace H := S.db H; rcases H with ⟨rfl, H⟩ | ⟨rfl, H⟩
 ·obtain rfl := Option.some.inj H
  go_enter Try.func137, Try.ntmps137
  go_wp2_with (first | ((with_reducible refine gate_callee (f := 58) rfl ?_); refine S.gL (some 4) Try.func58 #[.int .i64 a0, .int .i64 0, .int .i64 3] ?_; (with_reducible refine (spec_l1In.calls a0 0 3 true _ A2.out).mono ?_); rintro e w' ⟨rfl, ⟨nd, rfl⟩⟩; refine ⟨_, rfl, ?_⟩))
  go_ret
  exact ⟨S.eA, by repeat (first | exact Drawn0.refl _ | apply Drawn0.step)⟩
 ·obtain rfl := Option.some.inj H
  go_enter Try.func137, Try.ntmps137
  go_wp2_with (first | ((with_reducible refine gate_callee (f := 58) rfl ?_); refine S.gL (some 4) Try.func58 #[.int .i64 a0, .int .i64 0, .int .i64 3] ?_; (with_reducible refine (spec_l1In.calls a0 0 3 false _ A2.out).mono ?_); rintro e w' ⟨rfl, ⟨nd, rfl⟩⟩; refine ⟨_, rfl, ?_⟩))
  go_ret
  exact ⟨S.eA, by repeat (first | exact Drawn0.refl _ | apply Drawn0.step)⟩

/-! ### spec_OutPlace: function 138 -/
def spec_OutPlace.f (a0 : Int) : Option (Int) := (spec_l1In.f a0 0 3).bind fun t359 => (if t359 = true then (some (wrap64 ((wrap64 (2 * a0)) + 1))) else (some (-1)))
set_option maxHeartbeats 8000000 in
set_option maxRecDepth 100000 in
theorem spec_OutPlace.calls (a0 : Int) (r : Int) (w : World) (h : spec_OutPlace.f a0 = some r) :
  Calls Try.prog 138 #[.int .i64 a0] w fun e w' => e = .returned (.int .i64 r) ∧ Drawn0 w w' := by
 have H : ((spec_l1In.f a0 0 3).bind fun t359 => (if t359 = true then (some (wrap64 ((wrap64 (2 * a0)) + 1))) else (some (-1)))) = some r := h
 clear h
 replace H := S.bd H; obtain ⟨t359, A2, H⟩ := H
 (try dsimp only at H)
 replace H := S.db H; rcases H with ⟨rfl, H⟩ | ⟨rfl, H⟩
 ·obtain rfl := Option.some.inj H
  go_enter Try.func138, Try.ntmps138
  go_wp2_with (first | ((with_reducible refine gate_callee (f := 58) rfl ?_); refine S.gL (some 4) Try.func58 #[.int .i64 a0, .int .i64 0, .int .i64 3] ?_; (with_reducible refine (spec_l1In.calls a0 0 3 true _ A2.out).mono ?_); rintro e w' ⟨rfl, ⟨nd, rfl⟩⟩; refine ⟨_, rfl, ?_⟩))
  go_ret
  exact ⟨S.eA, by repeat (first | exact Drawn0.refl _ | apply Drawn0.step)⟩
 ·obtain rfl := Option.some.inj H
  go_enter Try.func138, Try.ntmps138
  go_wp2_with (first | ((with_reducible refine gate_callee (f := 58) rfl ?_); refine S.gL (some 4) Try.func58 #[.int .i64 a0, .int .i64 0, .int .i64 3] ?_; (with_reducible refine (spec_l1In.calls a0 0 3 false _ A2.out).mono ?_); rintro e w' ⟨rfl, ⟨nd, rfl⟩⟩; refine ⟨_, rfl, ?_⟩))
  go_ret
  exact ⟨S.eA, by repeat (first | exact Drawn0.refl _ | apply Drawn0.step)⟩
end Go.Proofs.Ytjgigmghcfdomaa.PFnWaves
