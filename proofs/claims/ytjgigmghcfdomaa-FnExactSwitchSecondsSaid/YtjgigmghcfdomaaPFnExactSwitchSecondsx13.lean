/- Printed by a program: what the Go functions compute, as plain Lean functions (.f), and the proofs that the machine's calls come to just that (.calls). -/
import Derived.Test.YtjgigmghcfdomaaPFnExactSwitchSecondsx0
import Derived.Test.YtjgigmghcfdomaaPFnExactSwitchSecondsx12
namespace Go.Proofs.Ytjgigmghcfdomaa.PFnExactSwitchSeconds
open Go.RowKit Go.Proofs.YtjgigmghcfdomaaW.PrintWords Go.Proofs.YtjgigmghcfdomaaW.PrintLast Go.Proofs.YtjgigmghcfdomaaW.PrintMore
attribute [local go_sem] max2_int min2_int max_two min_two max_three min_three max_four min_four   -- for this text's walks alone
set_option linter.unusedVariables false
set_option linter.unusedSimpArgs false

/-! ### impl_FindPath: function 83 -/
set_option maxHeartbeats 8000000 in
set_option maxRecDepth 100000 in
theorem impl_FindPath.idx (p : S71 → Bool) (g : Nat) (lb : Array Value) (eg : ∀ args w, (callFunc g args).run Try.prog w = .ok (.enter g args) w) (A0 : Option Addr) (c0 : Nat) (l0 : List S71) (w : World)
  (hp : ∀ (W : World) (x : S71), Below w.heap.size w W → Calls Try.prog g (#[.agg #[.int .i64 x.f0, .int .i64 x.f1, .int .i64 x.f2, .int .i64 x.f3]] ++ lb) W fun e w' => e = .returned (.bool (p x)) ∧ Below w.heap.size w w')
  (hr0 : Kd.C k71 w A0 l0.length l0) (hc0 : l0.length ≤ c0) :
  Calls Try.prog 111 #[.slice A0 l0.length c0, .func (.func g) #[] lb] w fun e w' => e = .returned (.int .i64 (Go.Proofs.Ytjgigmghcfdomaa.Hnd.fidx p l0 0)) ∧ Below w.heap.size w w' := by
 have hbig : l0.length ≤ 9223372036854775807 := hr0.2.1
 have HR0 := Aside0.mk hr0
 have HP := Aside0.mk hp
 clear hr0 hp
 go_enter Try.func111, Try.ntmps111
 go_wp2
 go_loopg [5, 8] l0.length (fun gg _ s8 wr => ∃ kk : Nat, kk ≤ l0.length ∧ l0.length - kk ≤ gg ∧ s8 = .int .i64 kk ∧ Aside0 (Below w.heap.size w wr) ∧ Aside0 (Go.Proofs.Ytjgigmghcfdomaa.Hnd.fidx p l0 0 = Go.Proofs.Ytjgigmghcfdomaa.Hnd.fidx p (l0.drop kk) kk))
 case atStart => exact ⟨0, Nat.zero_le _, by omega, rfl, ⟨Below.refl _ w⟩, ⟨by simp⟩⟩
 case round =>
  obtain ⟨kk, hkk, hg, rfl, BW, A⟩ := hrel
  by_cases hlt : kk < l0.length
  ·have hltz : (kk : Int) < (l0.length : Int) := by omega
   obtain ⟨ad116, e116, hx0, hx1, hx2, hx3⟩ := at_T71 HR0.out (kk : Int) (by omega) hltz
   cases e116
   simp only [Int.toNat_natCast] at hx0 hx1 hx2 hx3
   replace hx0 := (BW.out.cell (World.block_lt_of_cell? w _ hx0)).trans hx0
   replace hx1 := (BW.out.cell (World.block_lt_of_cell? w _ hx1)).trans hx1
   replace hx2 := (BW.out.cell (World.block_lt_of_cell? w _ hx2)).trans hx2
   replace hx3 := (BW.out.cell (World.block_lt_of_cell? w _ hx3)).trans hx3
   have hcall := HP.out wr (rd_T71 l0 (kk : Int)) BW.out
   have hq0 : rd_T71 l0 (kk : Int) = l0[kk] := by simp [rd_T71, hlt]
   have E : Aside0 (Go.Proofs.Ytjgigmghcfdomaa.Hnd.fidx p l0 0 = if p (rd_T71 l0 (kk : Int)) = true then (kk : Int) else Go.Proofs.Ytjgigmghcfdomaa.Hnd.fidx p (l0.drop (kk + 1)) (kk + 1)) := ⟨by rw [A.out, List.drop_eq_getElem_cons hlt, hq0]; rfl⟩
   clear A hq0
   generalize rd_T71 l0 (kk : Int) = y at hx0 hx1 hx2 hx3 hcall E
   cases hq : p y with
   | true =>
    rw [hq] at hcall
    go_wp2_with (fail)
    refine hcall.mono ?_
    rintro e w' ⟨rfl, hb'⟩
    clear hcall
    dsimp only
    go_wp2_with (fail)
    go_ret
    exact ⟨by rw [E.out, if_pos hq]; rfl, hb'⟩
   | false =>
    rw [hq] at hcall
    go_wp2_with (fail)
    refine hcall.mono ?_
    rintro e w' ⟨rfl, hb'⟩
    clear hcall
    dsimp only
    go_wp2_with (fail)
    go_roundg (l0.length - (kk + 1))
    case measure => omega
    case rel => exact ⟨kk + 1, by omega, by omega, by go_num, ⟨hb'⟩, ⟨by rw [E.out, hq]; rfl⟩⟩
  ·have hltz : ¬ (kk : Int) < (l0.length : Int) := by omega
   have hkn : kk = l0.length := by omega
   have E : Aside0 (Go.Proofs.Ytjgigmghcfdomaa.Hnd.fidx p l0 0 = -1) := ⟨by rw [A.out, hkn, List.drop_length]; rfl⟩
   clear A
   subst hkn
   go_wp2
   go_ret
   exact ⟨by rw [E.out]; rfl, BW.out⟩

theorem impl_FindPath.pred (a1 : Int) (B0 : Nat) (w : World) (hB0 : B0 < w.heap.size) (hcB0 : w.cell? ⟨B0, 0, none⟩ = some (.int .i64 a1)) :
  ∀ (W : World) (x : S71), Below w.heap.size w W → Calls Try.prog 112 (#[.agg #[.int .i64 x.f0, .int .i64 x.f1, .int .i64 x.f2, .int .i64 x.f3]] ++ #[.pointer (some ⟨B0, 0, none⟩)]) W fun e w' => e = .returned (.bool (x.f0 == a1)) ∧ Below w.heap.size w w' := fun W x hb => by
 have cB0 : W.cell? ⟨B0, 0, none⟩ = some (.int .i64 a1) := (hb.cell (p := ⟨B0, 0, none⟩) hB0).trans hcB0
 have lB0 : B0 < W.heap.size := Nat.lt_of_lt_of_le hB0 hb.size
 have nB0 : B0 ≠ W.heap.size := by omega
 have hB2 := Aside0.mk hb
 clear hb hcB0
 show Calls Try.prog 112 #[.agg #[.int .i64 x.f0, .int .i64 x.f1, .int .i64 x.f2, .int .i64 x.f3], .pointer (some ⟨B0, 0, none⟩)] W _
 go_enter Try.func112, Try.ntmps112
 go_wp2
 go_ret
 exact ⟨by first | rfl | simp, hB2.out.alloc hB2.out.size _⟩
def impl_FindPath.f (l0 : List (S71)) (a1 : Int) : Option (Int) := some (Go.Proofs.Ytjgigmghcfdomaa.Hnd.fidx (fun x : S71 => x.f0 == a1) l0 0)
set_option maxHeartbeats 8000000 in
theorem impl_FindPath.calls (A0 : Option Addr) (c0 : Nat) (l0 : List (S71)) (a1 : Int) (r : Int) (w : World) (hr0 : Kd.C k71 w A0 l0.length l0) (hc0 : l0.length ≤ c0) (h : impl_FindPath.f l0 a1 = some r) :
  Calls Try.prog 83 #[.slice A0 l0.length c0, .int .i64 a1] w fun e w' => e = .returned (.int .i64 r) ∧ Below w.heap.size w w' := by
 obtain rfl := Option.some.inj h
 clear h
 have eg : ∀ args w, (callFunc 112 args).run Try.prog w = .ok (.enter 112 args) w := Go.Proofs.Ytjgigmghcfdomaa.Hnd.enters_fn Try.func112 (by kernel_rfl) rfl
 have hB1 : Below w.heap.size w (w.alloc (.cells #[.int .i64 a1] 3)) := ((Below.refl _ w).alloc (Nat.le_refl _) _)
 have hcon := impl_FindPath.idx (fun x : S71 => x.f0 == a1) 112 #[.pointer (some ⟨w.heap.size, 0, none⟩)] eg A0 c0 l0 (w.alloc (.cells #[.int .i64 a1] 3)) (impl_FindPath.pred a1 w.heap.size _ (by simp) (by simp)) (Kd.C_below hr0 hB1) hc0
 generalize Go.Proofs.Ytjgigmghcfdomaa.Hnd.fidx (fun x : S71 => x.f0 == a1) l0 0 = r at hcon ⊢
 clear hr0 eg
 have HB1 := Aside0.mk hB1
 clear hB1
 go_enter Try.func83, Try.ntmps83
 go_wp2_with (fail)
 refine hcon.mono ?_
 rintro e w' ⟨rfl, hb'⟩
 clear hcon
 dsimp only
 go_wp2_with (fail)
 go_ret
 exact ⟨rfl, HB1.out.trans (hb'.mono (by simp))⟩

/-! ### impl_IsPath: function 117 -/
def impl_IsPath.f (a0_0 : Int) (a0_1 : Int) (a0_2 : Int) (a0_3 : Int) : Option (Bool) := (impl_InRange.f a0_0 1 20).bind fun t274 => (if t274 = true then ((impl_InRange.f a0_1 1 3).bind fun t275 => (if t275 = true then ((impl_InRange.f a0_2 0 3).bind fun t276 => (if t276 = true then ((impl_InRange.f a0_3 0 3).bind fun t277 => (if t277 = true then (some ((a0_2 == a0_3) == (a0_1 == 2))) else (some false))) else (some false))) else (some false))) else (some false))
set_option maxHeartbeats 8000000 in
set_option maxRecDepth 100000 in
theorem impl_IsPath.calls (a0_0 : Int) (a0_1 : Int) (a0_2 : Int) (a0_3 : Int) (r : Bool) (w : World) (h : impl_IsPath.f a0_0 a0_1 a0_2 a0_3 = some r) :
  Calls Try.prog 117 #[.agg #[.int .i64 a0_0, .int .i64 a0_1, .int .i64 a0_2, .int .i64 a0_3]] w fun e w' => e = .returned (.bool r) ∧ Below w.heap.size w w' := by
 have hu71 := Try.underlying71
 have HB := Aside0.mk (Below.refl w.heap.size w)
 have H : ((impl_InRange.f a0_0 1 20).bind fun t274 => (if t274 = true then ((impl_InRange.f a0_1 1 3).bind fun t275 => (if t275 = true then ((impl_InRange.f a0_2 0 3).bind fun t276 => (if t276 = true then ((impl_InRange.f a0_3 0 3).bind fun t277 => (if t277 = true then (some ((a0_2 == a0_3) == (a0_1 == 2))) else (some false))) else (some false))) else (some false))) else (some false))) = some r := h
 clear h
 replace H := S.bd H; obtain ⟨t274, A2, H⟩ := H
 (try dsimp only at H)
 replace H := S.db H; rcases H with ⟨rfl, H⟩ | ⟨rfl, H⟩
 ·replace H := S.bd H; obtain ⟨t275, A4, H⟩ := H
  (try dsimp only at H)
  replace H := S.db H; rcases H with ⟨rfl, H⟩ | ⟨rfl, H⟩
  ·replace H := S.bd H; obtain ⟨t276, A6, H⟩ := H
   (try dsimp only at H)
   replace H := S.db H; rcases H with ⟨rfl, H⟩ | ⟨rfl, H⟩
   ·replace H := S.bd H; obtain ⟨t277, A8, H⟩ := H
    (try dsimp only at H)
    replace H := S.db H; rcases H with ⟨rfl, H⟩ | ⟨rfl, H⟩
    ·obtain rfl := Option.some.inj H
     go_enter Try.func117, Try.ntmps117
     go_wp2_with (first | ((with_reducible refine gate_dst (N := 1) rfl ?_); refine S.bx 1 (cs := #[.int .i64 a0_0, .int .i64 a0_1, .int .i64 a0_2, .int .i64 a0_3]) (t := 71) ?_; intro gb273 hg w10 hbox hb; have BK273 := Aside0.mk hbox; have GW273 := S.geA hg; have GE273 := S.geA hg; replace HB := S.sA hb; clear hb hbox hg; obtain ⟨Z11a, Z11b, Z11c, Z11d, Y11a, Y11b, Y11c, Y11d⟩ := S.c4 BK273.out) | ((with_reducible refine gate_callee (f := 62) rfl ?_); refine S.gL (some 5) Try.func62 #[.int .i64 a0_0, .int .i64 1, .int .i64 20] ?_; (with_reducible refine (impl_InRange.calls a0_0 1 20 true _ A2.out).mono ?_); rintro e w' ⟨rfl, ⟨nd, rfl⟩⟩; refine ⟨_, rfl, ?_⟩) | (go_at_call 62; (with_reducible refine (impl_InRange.calls a0_1 1 3 true _ A4.out).mono ?_); rintro e w' ⟨rfl, ⟨nd, rfl⟩⟩) | (go_at_call 62; (with_reducible refine (impl_InRange.calls a0_2 0 3 true _ A6.out).mono ?_); rintro e w' ⟨rfl, ⟨nd, rfl⟩⟩) | (go_at_call 62; (with_reducible refine (impl_InRange.calls a0_3 0 3 true _ A8.out).mono ?_); rintro e w' ⟨rfl, ⟨nd, rfl⟩⟩))
     go_ret
     exact ⟨S.eW, S.bG⟩
    ·obtain rfl := Option.some.inj H
     go_enter Try.func117, Try.ntmps117
     go_wp2_with (first | ((with_reducible refine gate_dst (N := 1) rfl ?_); refine S.bx 1 (cs := #[.int .i64 a0_0, .int .i64 a0_1, .int .i64 a0_2, .int .i64 a0_3]) (t := 71) ?_; intro gb273 hg w12 hbox hb; have BK273 := Aside0.mk hbox; have GW273 := S.geA hg; have GE273 := S.geA hg; replace HB := S.sA hb; clear hb hbox hg; obtain ⟨Z13a, Z13b, Z13c, Z13d, Y13a, Y13b, Y13c, Y13d⟩ := S.c4 BK273.out) | ((with_reducible refine gate_callee (f := 62) rfl ?_); refine S.gL (some 5) Try.func62 #[.int .i64 a0_0, .int .i64 1, .int .i64 20] ?_; (with_reducible refine (impl_InRange.calls a0_0 1 20 true _ A2.out).mono ?_); rintro e w' ⟨rfl, ⟨nd, rfl⟩⟩; refine ⟨_, rfl, ?_⟩) | (go_at_call 62; (with_reducible refine (impl_InRange.calls a0_1 1 3 true _ A4.out).mono ?_); rintro e w' ⟨rfl, ⟨nd, rfl⟩⟩) | (go_at_call 62; (with_reducible refine (impl_InRange.calls a0_2 0 3 true _ A6.out).mono ?_); rintro e w' ⟨rfl, ⟨nd, rfl⟩⟩) | (go_at_call 62; (with_reducible refine (impl_InRange.calls a0_3 0 3 false _ A8.out).mono ?_); rintro e w' ⟨rfl, ⟨nd, rfl⟩⟩))
     go_ret
     exact ⟨S.eW, S.bG⟩
   ·obtain rfl := Option.some.inj H
    go_enter Try.func117, Try.ntmps117
    go_wp2_with (first | ((with_reducible refine gate_dst (N := 1) rfl ?_); refine S.bx 1 (cs := #[.int .i64 a0_0, .int .i64 a0_1, .int .i64 a0_2, .int .i64 a0_3]) (t := 71) ?_; intro gb273 hg w14 hbox hb; have BK273 := Aside0.mk hbox; have GW273 := S.geA hg; have GE273 := S.geA hg; replace HB := S.sA hb; clear hb hbox hg; obtain ⟨Z15a, Z15b, Z15c, Z15d, Y15a, Y15b, Y15c, Y15d⟩ := S.c4 BK273.out) | ((with_reducible refine gate_callee (f := 62) rfl ?_); refine S.gL (some 5) Try.func62 #[.int .i64 a0_0, .int .i64 1, .int .i64 20] ?_; (with_reducible refine (impl_InRange.calls a0_0 1 20 true _ A2.out).mono ?_); rintro e w' ⟨rfl, ⟨nd, rfl⟩⟩; refine ⟨_, rfl, ?_⟩) | (go_at_call 62; (with_reducible refine (impl_InRange.calls a0_1 1 3 true _ A4.out).mono ?_); rintro e w' ⟨rfl, ⟨nd, rfl⟩⟩) | (go_at_call 62; (with_reducible refine (impl_InRange.calls a0_2 0 3 false _ A6.out).mono ?_); rintro e w' ⟨rfl, ⟨nd, rfl⟩⟩))
    go_ret
    exact ⟨S.eW, S.bG⟩
  ·obtain rfl := Option.some.inj H
   go_enter Try.func117, Try.ntmps117
   go_wp2_with (first | ((with_reducible refine gate_dst (N := 1) rfl ?_); refine S.bx 1 (cs := #[.int .i64 a0_0, .int .i64 a0_1, .int .i64 a0_2, .int .i64 a0_3]) (t := 71) ?_; intro gb273 hg w16 hbox hb; have BK273 := Aside0.mk hbox; have GW273 := S.geA hg; have GE273 := S.geA hg; replace HB := S.sA hb; clear hb hbox hg; obtain ⟨Z17a, Z17b, Z17c, Z17d, Y17a, Y17b, Y17c, Y17d⟩ := S.c4 BK273.out) | ((with_reducible refine gate_callee (f := 62) rfl ?_); refine S.gL (some 5) Try.func62 #[.int .i64 a0_0, .int .i64 1, .int .i64 20] ?_; (with_reducible refine (impl_InRange.calls a0_0 1 20 true _ A2.out).mono ?_); rintro e w' ⟨rfl, ⟨nd, rfl⟩⟩; refine ⟨_, rfl, ?_⟩) | (go_at_call 62; (with_reducible refine (impl_InRange.calls a0_1 1 3 false _ A4.out).mono ?_); rintro e w' ⟨rfl, ⟨nd, rfl⟩⟩))
   go_ret
   exact ⟨S.eW, S.bG⟩
 ·obtain rfl := Option.some.inj H
  go_enter Try.func117, Try.ntmps117
  go_wp2_with (first | ((with_reducible refine gate_dst (N := 1) rfl ?_); refine S.bx 1 (cs := #[.int .i64 a0_0, .int .i64 a0_1, .int .i64 a0_2, .int .i64 a0_3]) (t := 71) ?_; intro gb273 hg w18 hbox hb; have BK273 := Aside0.mk hbox; have GW273 := S.geA hg; have GE273 := S.geA hg; replace HB := S.sA hb; clear hb hbox hg; obtain ⟨Z19a, Z19b, Z19c, Z19d, Y19a, Y19b, Y19c, Y19d⟩ := S.c4 BK273.out) | ((with_reducible refine gate_callee (f := 62) rfl ?_); refine S.gL (some 5) Try.func62 #[.int .i64 a0_0, .int .i64 1, .int .i64 20] ?_; (with_reducible refine (impl_InRange.calls a0_0 1 20 false _ A2.out).mono ?_); rintro e w' ⟨rfl, ⟨nd, rfl⟩⟩; refine ⟨_, rfl, ?_⟩))
  go_ret
  exact ⟨S.eW, S.bG⟩

end Go.Proofs.Ytjgigmghcfdomaa.PFnExactSwitchSeconds
