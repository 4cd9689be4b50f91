/- Printed by a program: what the Go functions compute, as plain Lean functions (.f), and the proofs that the machine's calls come to just that (.calls). -/
import Derived.Test.YtjgigmghcfdomaaPFnSwitchedx0
import Derived.Test.YtjgigmghcfdomaaPFnSwitchedx3
import Derived.Test.YtjgigmghcfdomaaPFnSwitchedx4
namespace Go.Proofs.Ytjgigmghcfdomaa.PFnSwitched
open Go.RowKit Go.Proofs.YtjgigmghcfdomaaW.PrintWords Go.Proofs.YtjgigmghcfdomaaW.PrintLast Go.Proofs.YtjgigmghcfdomaaW.PrintMore
attribute [local go_sem] max2_int min2_int max_two min_two max_three min_three max_four min_four   -- for this text's walks alone
set_option linter.unusedVariables false
set_option linter.unusedSimpArgs false
set_option maxHeartbeats 8000000
set_option maxRecDepth 100000
/-! ### impl_SwitchAt: function 30 -/
mutual
def impl_SwitchAt.j0 : Nat → List (S71) → List (S85) → Int → List Int → Bool → Option (Int)
 | 0, _, _, _, _, _ => none
 | k + 1, x0, x1, x3, x9, x22 => if x22 = true then (some (-1)) else ((impl_Cycle.f k x0 x1).bind fun t251 => (impl_SwitchAt.l0 k x3 x9 t251))
def impl_SwitchAt.l0 : Nat → Int → List Int → Int → Option (Int)
 | 0, _, _, _ => none
 | k + 1, x3, x9, x10 => if x10 = 0 then (none) else ((slices_Contains_int_int.f k x9 (Int.tmod x3 x10)).bind fun t252 => (if t252 = true then (some x3) else (impl_SwitchAt.l0 k (wrap64 (x3 + 1)) x9 x10)))
end
def impl_SwitchAt.f (k : Nat) (l0 : List (S71)) (l1 : List (S85)) (l2 : List (S85)) (a3 : Int) : Option (Int) := (impl_SwitchSeconds.f k l0 l1 l2).bind fun t247 => (if (t247.length : Int) = 0 then (impl_SwitchAt.j0 k l0 l1 a3 t247 true) else ((impl_InRange.f a3 0 100000).bind fun t250 => (impl_SwitchAt.j0 k l0 l1 a3 t247 (!t250))))
theorem impl_SwitchAt.calls (k : Nat) (A0 : Option Addr) (c0 : Nat) (l0 : List (S71)) (A1 : Option Addr) (c1 : Nat) (l1 : List (S85)) (A2 : Option Addr) (c2 : Nat) (l2 : List (S85)) (a3 : Int) (r : Int) (w : World) (hr0 : Kd.C k71 w A0 l0.length l0) (hc0 : l0.length ≤ c0) (hr1 : Kd.C k85 w A1 l1.length l1) (hc1 : l1.length ≤ c1) (hr2 : Kd.C k85 w A2 l2.length l2) (hc2 : l2.length ≤ c2) (h : impl_SwitchAt.f k l0 l1 l2 a3 = some r) :
  Calls Try.prog 30 #[.slice A0 l0.length c0, .slice A1 l1.length c1, .slice A2 l2.length c2, .int .i64 a3] w fun e w' => e = .returned (.int .i64 r) ∧ Below w.heap.size w w' := by
 have HR0 := Aside0.mk hr0
 have HC0 := Aside0.mk hc0
 clear hr0 hc0
 have HR1 := Aside0.mk hr1
 have HC1 := Aside0.mk hc1
 clear hr1 hc1
 have HR2 := Aside0.mk hr2
 have HC2 := Aside0.mk hc2
 clear hr2 hc2
 have HB := Aside0.mk (Below.refl w.heap.size w)
 have H : ((impl_SwitchSeconds.f k l0 l1 l2).bind fun t247 => (if (t247.length : Int) = 0 then (impl_SwitchAt.j0 k l0 l1 a3 t247 true) else ((impl_InRange.f a3 0 100000).bind fun t250 => (impl_SwitchAt.j0 k l0 l1 a3 t247 (!t250))))) = some r := h
 clear h
 replace H := S.bd H; obtain ⟨t247, A5, H⟩ := H
 (try dsimp only at H)
 have HC6 := Aside0.mk H
 clear H
 go_enter Try.func30, Try.ntmps30
 go_upto_region 2 with (first | ((with_reducible refine gate_callee (f := 23) rfl ?_); refine S.gL (some 14) Try.func23 #[.slice A0 l0.length c0, .slice A1 l1.length c1, .slice A2 l2.length c2] ?_; (with_reducible refine (impl_SwitchSeconds.calls k _ _ l0 _ _ l1 _ _ l2 t247 _ ?s1 HC0.out ?s3 HC1.out ?s5 HC2.out A5.out).mono ?_); (case s1 => exact S.cD HR0.out); (case s3 => exact S.cD HR1.out); (case s5 => exact S.cD HR2.out); rintro e w7 ⟨v248, rfl, ho0, hb⟩; refine ⟨_, rfl, ?_⟩; have HO249 := S.lwA ho0; replace HB := S.sA hb; (try clear hb); (try clear ho0)))
 (try simp only [Act.put, List.setIfInBounds_toArray, List.set_cons_zero, List.set_cons_succ])
 go_cut [22] (fun v22 wc => ∃ (kq : Nat) (x22_5 : Bool), v22 = .bool x22_5 ∧ Aside0 (impl_SwitchAt.j0 kq l0 l1 a3 t247 x22_5 = some r) ∧ Aside0 (kq ≤ k) ∧ Aside0 (Kd.R (Kd.int .i64) 3 wc w.heap.size (fun _ => True) v248 t247) ∧ Aside0 (Below w.heap.size w wc))
 case first =>
  have H := HC6.out
  clear HC6
  by_cases c8 : (t247.length : Int) = 0
  ·rw [if_pos c8] at H
   have c8b0 : ((t247.length : Int) == 0) = true := beq_iff_eq.mpr c8
   have c8b1 : ((t247.length : Int) != 0) = false := bne_eq_false_iff_eq.mpr c8
   clear c8
   (first | rw [c8b0] | (simp only [i64_w, i32_w]; rw [c8b0]) | skip)
   have H' := Aside0.mk H
   clear H
   obtain ⟨Ao9, co9, eo9⟩ := Kd.R_slice HO249.out
   subst eo9
   go_wp2
   go_meet
   case rel => exact ⟨_, (true), S.eA, H', S.le, ⟨S.uR HO249.out⟩, ⟨S.bA⟩⟩
  ·rw [if_neg c8] at H
   have c8b0 : ((t247.length : Int) == 0) = false := beq_eq_false_iff_ne.mpr c8
   have c8b1 : ((t247.length : Int) != 0) = true := bne_iff_ne.mpr c8
   have c8b2 : ¬ (t247 = []) := fun h_ => c8 (by rw [h_]; rfl)
   (first | rw [c8b0] | (simp only [i64_w, i32_w]; rw [c8b0]) | skip)
   replace H := S.bd H; obtain ⟨t250, A10, H⟩ := H
   (try dsimp only at H)
   have H' := Aside0.mk H
   clear H
   obtain ⟨Ao11, co11, eo11⟩ := Kd.R_slice HO249.out
   subst eo11
   go_wp2_with (first | (go_at_call 62; (with_reducible refine (impl_InRange.calls a3 0 100000 t250 _ A10.out).mono ?_); rintro e w' ⟨rfl, ⟨nd, rfl⟩⟩))
   go_meet
   case rel => exact ⟨_, (!t250), S.eA, H', S.le, ⟨S.uR HO249.out⟩, ⟨S.bA⟩⟩
 case rest =>
  clear HC6
  try clear c1
  try clear c2
  obtain ⟨kq, x22_5, rfl, HA, HJ5, HO_9, HB⟩ := hcut
  cases kq with
  | zero => exact absurd HA.out (by simp [impl_SwitchAt.j0])
  | succ kj5 =>
   have H := HA.out
   clear HA
   simp only [impl_SwitchAt.j0] at H
   replace H := S.db H; rcases H with ⟨rfl, H⟩ | ⟨rfl, H⟩
   ·obtain rfl := Option.some.inj H
    go_wp2
    go_ret
    exact ⟨S.eW, S.bA⟩
   ·replace H := S.bd H; obtain ⟨t251, A13, H⟩ := H
    (try dsimp only at H)
    have H' := Aside0.mk H
    clear H
    go_wp2_with (first | ((with_reducible refine gate_callee (f := 41) rfl ?_); refine S.gL (some 25) Try.func41 #[.slice A0 l0.length c0, .slice A1 l1.length c1] ?_; (with_reducible refine (impl_Cycle.calls kj5 _ _ l0 _ _ l1 t251 _ ?s1 HC0.out ?s3 HC1.out A13.out).mono ?_); (case s1 => exact S.cA HR0.out); (case s3 => exact S.cA HR1.out); rintro e w14 ⟨rfl, hb⟩; refine ⟨_, rfl, ?_⟩; replace HO_9 := S.rb HO_9 hb; replace HB := S.sA hb; (try clear hb)))
    go_loopg [3] kj5 (fun kq v3 w' => ∃ (x3_2 : Int), v3 = .int .i64 x3_2 ∧ Aside0 (impl_SwitchAt.l0 kq x3_2 t247 t251 = some r) ∧ Aside0 (kq ≤ kj5) ∧ Aside0 (Kd.R (Kd.int .i64) 3 w' w.heap.size (fun _ => True) v248 t247) ∧ Aside0 (Below w.heap.size w w'))
    case atStart => exact ⟨(a3), S.eA, H', ⟨Nat.le_refl _⟩, ⟨S.uR HO_9.out⟩, ⟨S.bA⟩⟩
    case round =>
     clear H'
     try clear c1
     try clear c2
     try clear c12
     obtain ⟨x3_2, rfl, HA, HK2, HO_9, HB⟩ := hrel
     cases gk with
     | zero => exact absurd HA.out (by simp [impl_SwitchAt.l0])
     | succ k2 =>
      have H := HA.out
      clear HA
      simp only [impl_SwitchAt.l0] at H
      by_cases c15 : t251 = 0
      ·rw [if_pos c15] at H
       exact absurd H (by simp)
      ·rw [if_neg c15] at H
       have c15b0 : (t251 == 0) = false := beq_eq_false_iff_ne.mpr c15
       have c15b1 : (t251 != 0) = true := bne_iff_ne.mpr c15
       replace H := S.bd H; obtain ⟨t252, A16, H⟩ := H
       (try dsimp only at H)
       replace H := S.db H; rcases H with ⟨rfl, H⟩ | ⟨rfl, H⟩
       ·obtain rfl := Option.some.inj H
        obtain ⟨Ao18, co18, eo18⟩ := Kd.R_slice HO_9.out
        subst eo18
        go_wp2_with (first | ((with_reducible refine gate_callee (f := 73) rfl ?_); refine S.gL (some 30) Try.func73 #[.slice Ao18 t247.length co18, .int .i64 (Int.tmod x3_2 t251)] ?_; (with_reducible refine (slices_Contains_int_int.calls k2 _ _ t247 (Int.tmod x3_2 t251) true _ ?s1 (S.rl HO_9) A16.out).mono ?_); (case s1 => exact S.rd HO_9); rintro e w' ⟨rfl, ⟨nd, rfl⟩⟩; refine ⟨_, rfl, ?_⟩))
        go_ret
        exact ⟨S.eW, S.bA⟩
       ·have H' := Aside0.mk H
        clear H
        obtain ⟨Ao19, co19, eo19⟩ := Kd.R_slice HO_9.out
        subst eo19
        go_wp2_with (first | ((with_reducible refine gate_callee (f := 73) rfl ?_); refine S.gL (some 30) Try.func73 #[.slice Ao19 t247.length co19, .int .i64 (Int.tmod x3_2 t251)] ?_; (with_reducible refine (slices_Contains_int_int.calls k2 _ _ t247 (Int.tmod x3_2 t251) false _ ?s1 (S.rl HO_9) A16.out).mono ?_); (case s1 => exact S.rd HO_9); rintro e w' ⟨rfl, ⟨nd, rfl⟩⟩; refine ⟨_, rfl, ?_⟩))
        go_roundg k2
        case measure => have := HJ5.out; have := HK2.out; omega
        case rel => exact ⟨(wrap64 (x3_2 + 1)), S.eA, H', ⟨by have := HJ5.out; have := HK2.out; omega⟩, ⟨S.uR HO_9.out⟩, ⟨S.bA⟩⟩

/-! ### laws_big: function 34 -/
def laws_big.f (l0 : List Int) : Option (Bool) := some (decide ((l0.length : Int) > 1048576))
theorem laws_big.calls (A0 : Option Addr) (c0 : Nat) (l0 : List Int) (r : Bool) (w : World) (hr0 : Kd.C (Kd.int .u8) w A0 l0.length l0) (hc0 : l0.length ≤ c0) (h : laws_big.f l0 = some r) :
  Calls Try.prog 34 #[.slice A0 l0.length c0] w fun e w' => e = .returned (.bool r) ∧ Drawn0 w w' := by
 have HR0 := Aside0.mk hr0
 have HC0 := Aside0.mk hc0
 clear hr0 hc0
 have H : (some (decide ((l0.length : Int) > 1048576))) = some r := h
 clear h
 obtain rfl := Option.some.inj H
 go_enter Try.func34, Try.ntmps34
 go_wp2
 go_ret
 exact ⟨S.eA, by repeat (first | exact Drawn0.refl _ | apply Drawn0.step)⟩

/-! ### slices_Clone_int_int: function 115 -/
def slices_Clone_int_int.f (l0 : List (Int)) : Option (List (Int)) := if l0.length < 17592186044416 then some l0 else none
theorem slices_Clone_int_int.calls (A0 : Option Addr) (c0 : Nat) (l0 : List (Int)) (r : List (Int)) (w : World) (hr0 : Kd.C (Kd.int .i64) w A0 l0.length l0) (hc0 : l0.length ≤ c0) (h : slices_Clone_int_int.f l0 = some r) :
  Calls Try.prog 115 #[.slice A0 l0.length c0] w fun e w' => ∃ v0_ : Value, e = .returned (v0_) ∧ Kd.R (Kd.int .i64) 3 w' w.heap.size (fun _ => True) v0_ r ∧ Below w.heap.size w w' := by
 unfold slices_Clone_int_int.f at h
 by_cases hl : l0.length < 17592186044416
 ·rw [if_pos hl] at h
  obtain rfl := Option.some.inj h
  clear h
  have HB := Aside0.mk (Below.refl w.heap.size w)
  cases A0 with
  | none =>
   obtain rfl : l0 = [] := Go.Proofs.Ytjgigmghcfdomaa.Hnd.nil_of hr0
   clear hr0 hc0 hl
   have hE : ∀ W, (binOp .eql 36 (.slice none 0 c0) (.slice none 0 0)).run Try.prog W = .ok (.bool true) W := fun W => run_eql_slice_nil W 36 3 none 0 c0 Try.underlying36
   go_enter Try.func115, Try.ntmps115
   go_wp2
   go_ret
   exact ⟨_, rfl, Kd.R_nil _ _ _ _ _, HB.out⟩
  | some ad =>
   have HR0 := Aside0.mk hr0
   have HL := Aside0.mk hl
   clear hr0 hc0 hl
   obtain ⟨y, hy⟩ : ∃ y : List (Int), y = [] := ⟨_, rfl⟩
   have Ny := Aside0.mk hy
   obtain ⟨z, hz⟩ : ∃ z : List (Int), z = y ++ l0 := ⟨_, rfl⟩
   have Nz := Aside0.mk hz
   have Nz2 : Aside0 (z = l0) := ⟨by rw [hz, hy]; rfl⟩
   clear hy hz
   have hE : ∀ W, (binOp .eql 36 (.slice (some ad) l0.length c0) (.slice none 0 0)).run Try.prog W = .ok (.bool false) W := fun W => run_eql_slice_nil W 36 3 (some ad) _ c0 Try.underlying36
   go_enter Try.func115, Try.ntmps115
   go_wp2_with (first | ((with_reducible refine gate_dst (N := 5) rfl ?_); refine Kd.R_lit (Kd.int .i64) _ 3 ?hg (N := 5) ?hd (xs := ([] : List (Int))) (inner := []) (ok := fun _ => True) (okp := fun _ => True) ?hr ?hp (fun _ hk => hk) trivial (Below.refl _ _) (Nat.le_refl _) (by simp) ?_; (case hd => rfl); (case hg => rfl); (case hr => first | (go_simp; done) | (go_simp; rfl)); (case hp => exact (Reps.none _ _)); intro v110 w6 ho7 hb hg_ hnew_; clear hg_ hnew_; rw [← Ny.out] at ho7; have HO111 := Aside0.mk (Kd.R_lower ho7 (below_size (by exact HB.out))); replace HB := Aside0.mk (below_step (by exact HB.out) hb); clear hb ho7) | ((with_reducible refine gate_builtin (b := .append) (xs := #[.tmp 5, .tmp 6]) rfl ?_); at_builtin; refine Kd.R_append_rows (Kd.int .i64) (w0 := w) w.heap.size rfl (.tmp 5) (.tmp 6) 36 3 (.int .i64 0) 8 rfl Try.underlying36 info3 rfl (by decide) (by omega) v110 y l0 _ _ _ (fun _ => True) (fun _ => False) rfl rfl ?aO ?aR (fun _ _ h => h) (fun _ h => h.elim) ?aF ?aB ?aS ?aL ?_; (case aR => exact (Kd.C_below HR0.out HB.out)); (case aB => exact HB.out); (case aF => exact (fun _ _ => trivial)); (case aO => exact HO111.out); (case aS => exact (below_size HB.out)); (case aL => have := HL.out; have hy := Ny.out; subst hy; simp; omega); intro v113 w8 ho hb hg hat; rw [← Nz.out] at ho; have n0_ := Aside0.mk (hb); have n1_ := Aside0.mk (ho); clear HB; clear HO111; have HB := n0_; have HO114 := n1_; clear n0_ n1_; clear ho hb hg hat))
   go_ret
   exact ⟨_, rfl, by rw [← Nz2.out]; exact HO114.out, HB.out⟩
 ·rw [if_neg hl] at h
  exact absurd h (by simp)

/-! ### impl_clonePlan: function 86 -/
def impl_clonePlan.l0 : Nat → List (S85) → List (S85) → Int → Int → Option ((List (S85)))
 | 0, _, _, _, _ => none
 | k + 1, x3, x7, x8, x9 => if x9 < x8 then (if 0 ≤ x9 then (if x9 < (x7.length : Int) then ((slices_Clone_int_int.f ((rd_T85 x7 x9).f0)).bind fun t258 => (if x3.length < 4398046511104 then (impl_clonePlan.l0 k (x3 ++ [(⟨t258, (rd_T85 x7 x9).f1⟩ : S85)]) x7 x8 (wrap64 (x9 + 1))) else (none))) else (none)) else (none)) else (some x3)
def impl_clonePlan.f (k : Nat) (l0 : List (S85)) : Option ((List (S85))) := impl_clonePlan.l0 k (([] : List (S85))) l0 (l0.length : Int) 0
def impl_clonePlan.T5 : Bool × List (List Nat × List Nat) := (true, [([], []), ([], []), ([1], [1]), ([2], [2]), ([], []), ([4], [4]), ([3, 5], [3, 5]), ([6], [6]), ([0, 7, 3], [0, 7]), ([8, 8, 0, 1, 2, 3, 4, 5, 6, 7, 8], [0, 8])])
def impl_clonePlan.B5 : List Nat := [0, 0, 2, 6, 0, 16, 62, 126, 255, 511]
theorem impl_clonePlan.tab5 : rtab .any (opsOf Try.f86 5) = impl_clonePlan.T5 := by kernel_rfl
theorem impl_clonePlan.bits5 : waitsOk impl_clonePlan.T5.2 impl_clonePlan.B5 = true := by kernel_rfl
theorem impl_clonePlan.calls (k : Nat) (A0 : Option Addr) (c0 : Nat) (l0 : List (S85)) (r : List (S85)) (w : World) (hr0 : Kd.C k85 w A0 l0.length l0) (hc0 : l0.length ≤ c0) (h : impl_clonePlan.f k l0 = some r) :
  Calls Try.prog 86 #[.slice A0 l0.length c0] w fun e w' => ∃ v0_ : Value, e = .returned (v0_) ∧ Kd.R k85 85 w' w.heap.size (fun _ => True) v0_ r ∧ Below w.heap.size w w' := by
 have hu85 := Try.underlying85
 have HR0 := Aside0.mk hr0
 have HC0 := Aside0.mk hc0
 clear hr0 hc0
 have HB := Aside0.mk (Below.refl w.heap.size w)
 have H : (impl_clonePlan.l0 k (([] : List (S85))) l0 (l0.length : Int) 0) = some r := h
 clear h
 obtain ⟨y253, hy253⟩ : ∃ y_ : List (S85), y_ = (([] : List (S85))) := ⟨_, rfl⟩
 have hY_ := hy253; replace H : (impl_clonePlan.l0 k y253 l0 (l0.length : Int) 0) = some r := S.rh; clear hY_
 have Ny253 := Aside0.mk hy253
 clear hy253
 have H' := Aside0.mk H
 clear H
 go_enter Try.func86, Try.ntmps86
 go_wp2_with (first | ((with_reducible refine gate_dst (N := 6) rfl ?_); refine Kd.R_lit k85 _ 85 ?hg (N := 6) ?hd (xs := ([] : List (S85))) (inner := []) (ok := fun _ => True) (okp := fun _ => True) ?hr ?hp (fun _ hk => hk) trivial (Below.refl _ _) (Nat.le_refl _) (by simp) ?_; (case hd => rfl); (case hg => rfl); (case hr => first | (go_simp; done) | (go_simp; rfl)); (case hp => exact (Reps.none _ _)); intro v254 w2 ho3 hb hg_ hnew_; clear hg_ hnew_; (first | rw [← Ny253.out] at ho3 | (simp only [Int.reduceToNat] at ho3; rw [← Ny253.out] at ho3)); have HO255 := S.lwA ho3; replace HB := S.sA hb; clear hb ho3))
 go_loopg [3, 9] k (fun kq v3 v9 w' => ∃ (x3_1 : List (S85)) (x9_1 : Int), v9 = .int .i64 x9_1 ∧ Aside0 (impl_clonePlan.l0 kq x3_1 l0 (l0.length : Int) x9_1 = some r) ∧ Aside0 (kq ≤ k) ∧ Aside0 (Kd.R k85 85 w' w.heap.size (fun _ => True) v3 x3_1) ∧ Aside0 (Below w.heap.size w w'))
 case atStart => exact ⟨(y253), (0), S.eA, H', ⟨Nat.le_refl _⟩, ⟨S.uR HO255.out⟩, ⟨S.bA⟩⟩
 case round =>
  clear H'
  obtain ⟨x3_1, x9_1, rfl, HA, HK1, HO_3, HB⟩ := hrel
  cases gk with
  | zero => exact absurd HA.out (by simp [impl_clonePlan.l0])
  | succ k1 =>
   have H := HA.out
   clear HA
   simp only [impl_clonePlan.l0] at H
   replace H := S.dc H; rcases H with ⟨H, c4b0⟩ | ⟨H, c4b0⟩
   ·by_cases c5 : 0 ≤ x9_1
    ·rw [if_pos c5] at H
     have c5b0 : decide (0 ≤ x9_1) = true := decide_eq_true c5
     clear c5
     by_cases c6 : x9_1 < (l0.length : Int)
     ·rw [if_pos c6] at H
      have c6b0 : decide (x9_1 < (l0.length : Int)) = true := decide_eq_true c6
      clear c6
      replace H := S.bd H; obtain ⟨t258, A7, H⟩ := H
      (try dsimp only at H)
      by_cases c8 : x3_1.length < 4398046511104
      ·rw [if_pos c8] at H
       have LMc8 := Aside0.mk c8
       clear c8
       obtain ⟨y261, hy261⟩ : ∃ y_ : List (S85), y_ = (x3_1 ++ [(⟨t258, (rd_T85 l0 x9_1).f1⟩ : S85)]) := ⟨_, rfl⟩
       have hY_ := hy261; replace H : (impl_clonePlan.l0 k1 y261 l0 (l0.length : Int) (wrap64 (x9_1 + 1))) = some r := S.rh; clear hY_
       have Ny261 := Aside0.mk hy261
       clear hy261
       have H' := Aside0.mk H
       clear H
       have p256 : 0 ≤ (x9_1 : Int) := S.oD
       have q256 : x9_1 < (l0.length : Int) := S.oD
       obtain ⟨ad256, A256_0, c256_0, e256, hx256_0, hx256_1, hl256_0, hi256_0⟩ := at_T85 HR0.out x9_1 p256 q256
       cases e256
       replace hx256_0 := S.hb HB hx256_0
       replace hx256_1 := S.hb HB hx256_1
       have HR256_0 := Aside0.mk hi256_0
       have HC256_0 := Aside0.mk hl256_0
       clear hi256_0 hl256_0
       replace p256 := eq_true p256
       replace q256 := eq_true q256
       try go_wp2_with (first | ((with_reducible refine gate_dst (N := 5) rfl ?_); refine S.bx 5 (cs := #[.slice none 0 0, .int .i64 0]) (t := 85) ?_; intro gb257 hg w9 hbox hb; replace HO_3 := Aside0.mk (Kd.R_below (Kd.R_elderB (S.uR HO_3.out) gb257 (Nat.le_of_eq hg.symm)) hb); have BK257 := Aside0.mk hbox; have GW257 := S.geA hg; have GE257 := S.geA hg; replace HB := S.sA hb; clear hb hbox hg; obtain ⟨Z10a, Z10b, Y10a, Y10b⟩ := S.c2 BK257.out))
       have n0_ : Aside0 (Kd.R k85 85 ((w9.setCell ⟨gb257, 0, none⟩ (.slice A256_0 ((rd_T85 l0 x9_1).f0).length c256_0)).setCell ⟨gb257, 1, none⟩ (.int .i64 ((rd_T85 l0 x9_1).f1))) w.heap.size (fun k_ => k_ ≠ gb257) u3 x3_1) := ⟨by (with_reducible repeat (first | apply Kd.R_alloc | apply Kd.R_drewN | apply Kd.R_drew)); exact Kd.R_mono (Kd.R_far (p := ⟨gb257, 1, none⟩) (Kd.R_far (p := ⟨gb257, 0, none⟩) (Kd.R_mono HO_3.out (fun k_ hk => (⟨hk, hk.2⟩ : _ ∧ k_ ≠ gb257))) (fun _ hk => hk.2) (.slice A256_0 ((rd_T85 l0 x9_1).f0).length c256_0)) (fun _ hk => hk.2) (.int .i64 ((rd_T85 l0 x9_1).f1))) (fun _ hk => hk.1.2)⟩
       have n1_ : Aside0 (((w9.setCell ⟨gb257, 0, none⟩ (.slice A256_0 ((rd_T85 l0 x9_1).f0).length c256_0)).setCell ⟨gb257, 1, none⟩ (.int .i64 ((rd_T85 l0 x9_1).f1))).heap[gb257]? = some (.cells #[.slice A256_0 ((rd_T85 l0 x9_1).f0).length c256_0, .int .i64 ((rd_T85 l0 x9_1).f1)] 85 (0, 0))) := ⟨S.up2 BK257⟩
       have n2_ : Aside0 (Below w.heap.size w ((w9.setCell ⟨gb257, 0, none⟩ (.slice A256_0 ((rd_T85 l0 x9_1).f0).length c256_0)).setCell ⟨gb257, 1, none⟩ (.int .i64 ((rd_T85 l0 x9_1).f1)))) := ⟨S.bG⟩
       (try clear HO_3)
       (try clear BK257)
       (try clear HB)
       generalize ((w9.setCell ⟨gb257, 0, none⟩ (.slice A256_0 ((rd_T85 l0 x9_1).f0).length c256_0)).setCell ⟨gb257, 1, none⟩ (.int .i64 ((rd_T85 l0 x9_1).f1))) = w11 at n0_ n1_ n2_ ⊢
       have HO_3 := n0_
       have BK257 := n1_
       have HB := n2_
       clear n0_ n1_ n2_
       replace HO_3 := S.dr HO_3
       replace BK257 := Aside0.mk (blk_drew BK257.out)
       replace HB := Aside0.mk (below_drew1 HB.out)
       refine S.st (n := 10) (ds := []) #[false, false, false, false, false, false, false, false, false, false] (fun w_ h_ => have x_ := S.e2 (S.Q h_ BK257.out); x_) (fun hHeld => ?_); refine with_tabW impl_clonePlan.tab5 impl_clonePlan.bits5 (fun HT_ HW_ => ?_)
       generalize w11.drew = w12 at HO_3 BK257 HB hHeld ⊢
       refine S.pS 0 13 ?_
       refine S.pS 1 14 ?_
       refine S.pS 4 17 ?_
       refine S.tK 2 15 #[true, true, true, false, true, false, false, false, false, false] ?_
       refine S.tK 5 18 #[true, true, true, false, true, true, false, false, false, false] ?_
       refine S.oN 3 16 #[true, true, true, true, true, true, false, false, false, false] (fun K hK => ?_)
       refine S.go Try.func115 #[.slice A256_0 ((rd_T85 l0 x9_1).f0).length c256_0] ?_
       with_reducible refine (slices_Clone_int_int.calls _ _ ((rd_T85 l0 x9_1).f0) t258 _ ?s1 ?s2 A7.out).mono ?_
       (case s1 => exact S.cA HR256_0.out)
       (case s2 => exact HC256_0.out)
       rintro e w13 ⟨v259, rfl, ho0, hb⟩
       refine ⟨_, rfl, ?_⟩
       replace HO_3 := S.re HO_3 ho0 hb
       have HO260 := S.lwG ho0
       replace BK257 := S.kb BK257 hb
       replace HB := S.sG hb
       (try clear hb)
       (try clear hb2)
       (try clear hk)
       (try clear hi)
       (try clear ho0)
       obtain ⟨Ao14, co14, eo14⟩ := Kd.R_slice HO260.out
       (first | subst eo14 | (injection eo14 with f1_ f2_ f3_; have f4_ := f1_.symm; have f5_ := f3_.symm; clear f1_ f2_ f3_; subst f4_; subst f5_))
       refine hK.out _ _ (S.e2 BK257.out) (fun hHeld => ?_)
       clear hK K
       refine S.nm 16 ?_
       refine S.pS 6 19 ?_
       refine S.oN 7 20 #[true, true, true, true, true, true, true, true, false, false] (fun K hK => ?_)
       refine value_ (w1 := ?_) (v := ?_) (by rfl) rfl ?_ ?_
       rotate_left 2
       ·go_simp
        constructor
        ·rfl
        ·rfl
       refine hK.out _ _ (And.intro ((blk_cell (blk_alloc BK257.out _) 0).trans rfl) ((blk_cell (blk_alloc BK257.out _) 1).trans rfl)) (fun hHeld => ?_)
       clear hK K
       refine S.nm 20 ?_
       refine S.oN 8 21 #[true, true, true, true, true, true, true, true, true, false] (fun K hK => ?_)
       refine Kd.R_append_step k85 (w0 := w) w.heap.size (by rfl) (.tmp 13) (.tmp 20) 29 85 (.agg #[(.slice none 0 0), (.int .i64 0)]) 32 rfl Try.underlying29 info85 rfl (by decide) (by omega) u3 x3_1 (⟨t258, (rd_T85 l0 x9_1).f1⟩ : S85) [.slice Ao14 t258.length co14, .int .i64 ((rd_T85 l0 x9_1).f1)] (fun k_ => k_ ≠ gb257) (fun k_ => ((fun k_ => k_ ≠ gb257)) k_ ∧ some k_ ≠ (u3 : Value).ownBlock) rfl rfl ?aP (fun _ hk => hk) ?aF ?aO ?aB ?aS ?aL ?_
       (case aP => exact k85_mkM _ _ _ (⟨t258, (rd_T85 l0 x9_1).f1⟩ : S85) (Kd.R_mono (Kd.R_types (Kd.R_apart' (HO260.out) (Kd.R_typed HO_3.out) (by decide)) BK257.out (by decide)) (fun k_ hk => ⟨hk.2, hk.1.2⟩)))
       (case aB => exact S.bG)
       (case aF => exact (fun k_ hk => Kd.freshB (g := gb257) (o := .cells #[.slice A256_0 ((rd_T85 l0 x9_1).f0).length c256_0, .int .i64 ((rd_T85 l0 x9_1).f1)] 85 (0, 0)) (S.uB BK257.out) k_ hk))
       (case aO => exact (by (with_reducible repeat (first | apply Kd.R_alloc | apply Kd.R_drewN | apply Kd.R_drew)); exact Kd.R_mono HO_3.out (fun _ hk => hk.1)))
       (case aS => exact (below_size S.bG))
       (case aL => have := LMc8.out; omega)
       intro v262 w15 ho hb hg hat
       rw [← Ny261.out] at ho
       have n0_ := Aside0.mk (blk_grown (g := gb257) (o := .cells #[.slice A256_0 ((rd_T85 l0 x9_1).f0).length c256_0, .int .i64 ((rd_T85 l0 x9_1).f1)] 85 (0, 0)) (S.uB BK257.out) hg (Kd.R_away HO_3.out (fun _ hk => hk.1)))
       have n1_ := Aside0.mk (hb)
       have n2_ := Aside0.mk (ho)
       clear BK257
       clear HB
       clear HO_3
       clear HO260
       have BK257 := n0_
       have HB := n1_
       have HO263 := n2_
       clear n0_ n1_ n2_
       clear ho hb hg hat
       refine hK.out _ _ (S.e2 BK257.out) (fun hHeld => ?_)
       clear hK K
       refine S.nm 21 ?_
       refine S.pS 9 3 ?_
       refine done_ (done_of HT_.out (by kernel_rfl)) ?_
       try go_wp2
       go_roundg k1
       case measure => have := HK1.out; omega
       case rel => exact ⟨(y261), (wrap64 (x9_1 + 1)), S.eA, H', ⟨by have := HK1.out; omega⟩, ⟨by (with_reducible repeat (first | apply Kd.R_alloc | apply Kd.R_drewN | apply Kd.R_drew)); exact Kd.R_mono HO263.out (fun _ hk => trivial)⟩, ⟨S.bG⟩⟩
      ·rw [if_neg c8] at H
       exact absurd H (by simp)
     ·rw [if_neg c6] at H
      exact absurd H (by simp)
    ·rw [if_neg c5] at H
     exact absurd H (by simp)
   ·obtain rfl := Option.some.inj H
    go_wp2
    go_ret
    exact ⟨_, S.eW, S.uR HO_3.out, S.bA⟩

-- NOT PRINTED: function 122 (impl_Part_122)

-- NOT PRINTED: function 91 (impl_Part_91)

/-! ## rows taken apart and put together -/
namespace Rot
section
variable {α : Type} {d : Kd α} {e base : Nat} {w w1 : World} {ok ok' : Nat → Prop} {v : Value} {xs : List α}
theorem R_cells {A : Option Addr} {n c : Nat} (h : Kd.R d e w base ok (.slice A n c) xs) : ∃ (cells : List (List Value)), cells.length = xs.length ∧ (Kd.raw d.sz).C w A xs.length cells ∧
  ∀ (j : Nat) (x : α) (cs : List Value), xs[j]? = some x → cells[j]? = some cs → d.M w base ok x cs := by
 have hread := Kd.R_reads' h
 have hform := fun hp => Kd.R_form h hp
 obtain ⟨h0, inner, ho, hr⟩ := h
 have hM : ∀ j x, xs[j]? = some x → d.M w base ok x ((inner.drop (j * d.sz)).take d.sz) := fun j x hj => d.M_mono (fun k hk => hk.1) (hr.2 j x hj)
 refine ⟨(List.range xs.length).map (fun j => (inner.drop (j * d.sz)).take d.sz), by simp, ?_, fun j x cs hj hc => ?_⟩
 ·refine ⟨by simp, hread.2.2.2.1, fun hp => ?_⟩
  obtain ⟨g, cap, ev, _⟩ := hform hp
  injection ev with hA hn hcap
  refine ⟨_, hA, fun j p hj => ?_⟩
  have hj2 : j < xs.length := by
   have := (List.getElem?_eq_some_iff.1 hj).1
   simpa using this
  have hpe : p = (inner.drop (j * d.sz)).take d.sz := by
   rw [List.getElem?_map, List.getElem?_range hj2] at hj
   exact (Option.some.inj hj).symm
  have hK := d.K_of_M (hM j _ (List.getElem?_eq_getElem hj2))
  refine ⟨p, by rw [hpe]; exact d.K_len hK, ⟨rfl, by rw [hpe]; exact d.K_len hK, by rw [hpe]; exact d.K_one hK⟩, fun i u hu => ?_⟩
  rw [hpe, List.getElem?_take] at hu
  split at hu
  ·rw [List.getElem?_drop] at hu
   have := ho.cells (g := g) (by rw [hA]; simp [Value.ownBlock]) _ u hu
   rw [add_plain] at this
   rw [add_at, Nat.zero_add]
   exact this
  ·cases hu
 ·rw [List.getElem?_map] at hc
  obtain ⟨i, hi, rfl⟩ := Option.map_eq_some_iff.1 hc
  have : i = j := by
   obtain ⟨h1, h2⟩ := List.getElem?_eq_some_iff.1 hi
   simpa using h2.symm
  subst this
  exact hM i x hj
theorem R_rebuild {cells : List (List Value)} {ok0 : Nat → Prop} {base0 : Nat} (h : (Kd.raw d.sz).R e w base0 ok0 v cells) (hb : base ≤ base0) (hl : cells.length = xs.length)
  (hM : ∀ (j : Nat) (x : α) (cs : List Value), xs[j]? = some x → cells[j]? = some cs → d.M w base (fun k => ok k ∧ some k ≠ v.ownBlock) x cs) (h0 : ∀ k, v.ownBlock = some k → ok k) : Kd.R d e w base ok v xs := by
 obtain ⟨_, inner, ho, hr⟩ := h
 refine ⟨h0, inner, by rw [← hl]; exact own_weaken ho hb, by rw [← hl]; exact hr.1, fun j x hx => ?_⟩
 have hj : j < cells.length := by rw [hl]; exact (List.getElem?_eq_some_iff.1 hx).1
 have hc := hr.2 j _ (List.getElem?_eq_getElem hj)
 refine hM j x _ hx ?_
 rw [List.getElem?_eq_getElem hj]
 exact congrArg some hc.1.symm
end
theorem turn_at {α : Type} (xs : List α) (i j : Nat) (hi : i ≤ xs.length) : (xs.drop i ++ xs.take i)[j]? = if j < xs.length - i then xs[i + j]? else if j < xs.length then xs[j - (xs.length - i)]? else none := by
 by_cases h : j < xs.length - i
 ·rw [if_pos h, List.getElem?_append_left (by rw [List.length_drop]; exact h), List.getElem?_drop]
 ·rw [if_neg h, List.getElem?_append_right (by rw [List.length_drop]; omega), List.length_drop, List.getElem?_take]
  by_cases h2 : j < xs.length
  ·rw [if_pos h2, if_pos (by omega)]
  ·rw [if_neg h2, if_neg (by omega)]
end Rot
/-! ## slices.Grow at nil -/
theorem Rot.grow (m : Int) (w : World) (hm : 0 ≤ m) (hn : m ≤ 4398046511104) : Calls Try.prog 122 #[.slice none 0 0, .int .i64 m] w fun e w' => ∃ v : Value, e = .returned v ∧ (Kd.raw 2).R 85 w' w.heap.size (fun _ => True) v [] ∧ Below w.heap.size w w' := by
 obtain ⟨n, rfl⟩ := Int.eq_ofNat_of_zero_le hm
 by_cases h0 : n = 0
 ·subst h0
  go_enter Try.func122, Try.ntmps122
  go_wp2
  go_ret
  exact ⟨_, rfl, Kd.R_nil _ _ _ _ _, Below.refl _ _⟩
 ·obtain ⟨i0, hi, hz0, hz1, hz2⟩ := info_parts info85
  have happ := Lib.run_append_nil_zeros (P := Try.prog) w 29 3 29 85 i0 _ .i64 .i64 Try.underlying29 Try.underlying3 hi hz0 n (by omega) (by omega) (by omega) (by rw [hz2]; omega)
  generalize hcap : grownCap w n 0 85 = cap2 at happ
  have hcapge : n ≤ cap2 := by rw [← hcap]; exact grownCap_ge w _ 0 85
  have hcaple : cap2 ≤ maxLen := by rw [← hcap]; exact grownCap_le_maxLen w _ 0 85 (by unfold maxLen; omega)
  generalize hZ : (Builtin.zeroCells (Value.agg #[.slice none 0 0, .int .i64 0]).cells n ++ Builtin.zeroCells (Value.agg #[.slice none 0 0, .int .i64 0]).cells (cap2 - n)) = Z at happ
  have hZs : Z.size = cap2 * 2 := by rw [← hZ]; simp [size_zeroCells, Value.cells]; omega
  clear hcap hZ
  have HG := Aside0.mk hcapge
  have HL := Aside0.mk hcaple
  have HZ := Aside0.mk hZs
  clear hcaple hZs
  have hpos : (0 : Int) < (n : Int) := by omega
  have hpos2 : decide ((n : Int) > 0) = true := decide_eq_true hpos
  have hneg : decide ((n : Int) < 0) = false := decide_eq_false (by omega)
  go_enter Try.func122, Try.ntmps122
  go_wp2_with (at_builtin; refine Lib.wpList_append_run _ rfl _ _ _ _ rfl _ _ rfl rfl _ _ happ ?_)
  go_ret
  refine ⟨_, rfl, ⟨fun _ _ => trivial, [], ⟨by simp, .inr ⟨_, _, Z, rfl, Nat.le_refl _, ?_, Nat.zero_le _, HL.out, HZ.out, by simp⟩⟩, Reps.none _ _⟩, ?_⟩
  ·exact heap_alloc_new w _
  ·exact ⟨rfl, rfl, rfl, by simp, fun k hk => Below.heap_alloc w _ k hk⟩
/-! ## slices.Concat of two rows of cells -/
theorem Rot.concat (A1 A2 : Option Addr) (n1 n2 c1 c2 g : Nat) (xs ys : List (List Value)) (w : World) (hx : (Kd.raw 2).C w A1 n1 xs) (hcx : n1 ≤ c1) (hy : (Kd.raw 2).C w A2 n2 ys) (hcy : n2 ≤ c2)
  (h0 : w.cell? ⟨g, 0, none⟩ = some (.slice A1 n1 c1)) (h1 : w.cell? ⟨g, 1, none⟩ = some (.slice A2 n2 c2)) (hn : n1 + n2 < 4398046511104) :
  Calls Try.prog 91 #[.slice (some ⟨g, 0, none⟩) 2 2] w fun e w' => ∃ v : Value, e = .returned v ∧ (Kd.raw 2).R 85 w' w.heap.size (fun _ => True) v (xs ++ ys) ∧ Below w.heap.size w w' := by
 obtain rfl : xs.length = n1 := hx.1
 obtain rfl : ys.length = n2 := hy.1
 have HX := Aside0.mk hx
 have HY := Aside0.mk hy
 have HN := Aside0.mk hn
 obtain ⟨zs, hzs⟩ : ∃ z, z = xs ++ ys := ⟨_, rfl⟩
 have NZ := Aside0.mk hzs
 rw [← hzs]
 clear hx hy hzs
 have hpx : (0 : Int) ≤ (xs.length : Int) := by omega
 have hw1 : wrap64 ((0 : Int) + (xs.length : Int)) = (xs.length : Int) := by unfold wrap64; omega
 have hw2 : wrap64 ((xs.length : Int) + (ys.length : Int)) = ((xs.length + ys.length : Nat) : Int) := by unfold wrap64; omega
 have hneg1 : decide ((xs.length : Int) < 0) = false := decide_eq_false (by omega)
 have hneg2 : decide (((xs.length : Int) + (ys.length : Int)) < 0) = false := decide_eq_false (by omega)
 go_enter Try.func91, Try.ntmps91
 go_wp2
 go_loopg [3, 5, 11] 2 (fun gg v3 _ v11 wr => w = wr ∧ ((v11 = .int .i64 0 ∧ v3 = .int .i64 0 ∧ 2 ≤ gg) ∨ (v11 = .int .i64 1 ∧ v3 = .int .i64 (xs.length : Int) ∧ 1 ≤ gg) ∨ (v11 = .int .i64 2 ∧ v3 = .int .i64 ((xs.length : Int) + (ys.length : Int)))))
 case atStart => exact ⟨rfl, .inl ⟨rfl, rfl, Nat.le_refl _⟩⟩
 case round =>
  obtain ⟨rfl, ⟨rfl, rfl, hg⟩ | ⟨rfl, rfl, hg⟩ | ⟨rfl, rfl⟩⟩ := hrel
  ·go_wp2
   go_roundg 1
   case measure => omega
   case rel => exact ⟨rfl, .inr (.inl ⟨by go_num, by go_num, Nat.le_refl _⟩)⟩
  ·go_wp2
   go_roundg 0
   case measure => omega
   case rel => exact ⟨rfl, .inr (.inr ⟨by go_num, by go_num⟩)⟩
  ·go_wp2_with (first | ((with_reducible refine gate_callee (f := 122) rfl ?_); refine S.gL (some 24) Try.func122 #[.slice none 0 0, .int .i64 ((xs.length : Int) + (ys.length : Int))] ?_; (with_reducible refine (Rot.grow _ _ ?s1 ?s2).mono ?_); (case s1 => omega); (case s2 => have := HN.out; omega); rintro e w1 ⟨v0, rfl, ho0, hb⟩; refine ⟨_, rfl, ?_⟩; have HO := Aside0.mk ho0; have HB := Aside0.mk hb; clear hb ho0))
   go_loopg [6, 8, 27] 2 (fun gg v6 _ v27 wr => Aside0 (Below w.heap.size w wr) ∧ ((v27 = .int .i64 0 ∧ 2 ≤ gg ∧ Aside0 ((Kd.raw 2).R 85 wr w.heap.size (fun _ => True) v6 [])) ∨ (v27 = .int .i64 1 ∧ 1 ≤ gg ∧ Aside0 ((Kd.raw 2).R 85 wr w.heap.size (fun _ => True) v6 xs)) ∨ (v27 = .int .i64 2 ∧ Aside0 ((Kd.raw 2).R 85 wr w.heap.size (fun _ => True) v6 zs))))
   case atStart => exact ⟨HB, .inl ⟨rfl, Nat.le_refl _, HO⟩⟩
   case round =>
    clear HO HB
    obtain ⟨HB, ⟨rfl, hg, HO⟩ | ⟨rfl, hg, HO⟩ | ⟨rfl, HO⟩⟩ := hrel
    ·replace h0 := S.hb HB h0
     replace h1 := S.hb HB h1
     go_wp2_with (first | ((with_reducible refine gate_builtin (b := .append) (xs := #[.tmp 31, .tmp 32]) rfl ?_); at_builtin; refine Kd.R_append_rows (Kd.raw 2) (w0 := w) w.heap.size rfl (.tmp 31) (.tmp 32) 29 85 (.agg #[.slice none 0 0, .int .i64 0]) 32 rfl Try.underlying29 info85 rfl (by decide) (by omega) u6 [] xs _ _ _ (fun _ => True) (fun _ => False) rfl rfl ?aO ?aR (fun _ _ h => h) (fun _ h => h.elim) (fun _ _ => trivial) ?aB ?aS ?aL ?_; (case aR => exact (Kd.C_below HX.out HB.out)); (case aB => exact HB.out); (case aO => exact HO.out); (case aS => exact (below_size HB.out)); (case aL => have := HN.out; simp only [List.length_nil]; omega); intro v113 w8 ho hb hg2 hat; rw [List.nil_append] at ho; replace HO := Aside0.mk ho; replace HB := Aside0.mk hb; clear ho hb hg2 hat))
     go_roundg 1
     case measure => omega
     case rel => exact ⟨HB, .inr (.inl ⟨by go_num, Nat.le_refl _, HO⟩)⟩
    ·replace h0 := S.hb HB h0
     replace h1 := S.hb HB h1
     go_wp2_with (first | ((with_reducible refine gate_builtin (b := .append) (xs := #[.tmp 31, .tmp 32]) rfl ?_); at_builtin; refine Kd.R_append_rows (Kd.raw 2) (w0 := w) w.heap.size rfl (.tmp 31) (.tmp 32) 29 85 (.agg #[.slice none 0 0, .int .i64 0]) 32 rfl Try.underlying29 info85 rfl (by decide) (by omega) u6 xs ys _ _ _ (fun _ => True) (fun _ => False) rfl rfl ?aO ?aR (fun _ _ h => h) (fun _ h => h.elim) (fun _ _ => trivial) ?aB ?aS ?aL ?_; (case aR => exact (Kd.C_below HY.out HB.out)); (case aB => exact HB.out); (case aO => exact HO.out); (case aS => exact (below_size HB.out)); (case aL => have := HN.out; omega); intro v113 w8 ho hb hg2 hat; rw [← NZ.out] at ho; replace HO := Aside0.mk ho; replace HB := Aside0.mk hb; clear ho hb hg2 hat))
     go_roundg 0
     case measure => omega
     case rel => exact ⟨HB, .inr (.inr ⟨by go_num, HO⟩)⟩
    ·go_wp2
     go_ret
     exact ⟨_, rfl, HO.out, HB.out⟩
/-! ### impl_RotatePlan: function 53 -/
def impl_RotatePlan.f (k : Nat) (l0 : List (S85)) (a1 : Int) : Option (List (S85)) := (impl_clonePlan.f k l0).bind fun t => if t.length < 4398046511104 then (if 0 ≤ a1 then (if a1 < (l0.length : Int) then (if a1 ≤ (t.length : Int) then some (t.drop a1.toNat ++ t.take a1.toNat) else none) else some t) else some t) else none
theorem impl_RotatePlan.calls (k : Nat) (A0 : Option Addr) (c0 : Nat) (l0 : List (S85)) (a1 : Int) (r : List (S85)) (w : World) (hr0 : Kd.C k85 w A0 l0.length l0) (hc0 : l0.length ≤ c0) (h : impl_RotatePlan.f k l0 a1 = some r) :
 Calls Try.prog 53 #[.slice A0 l0.length c0, .int .i64 a1] w fun e w' => ∃ v0_ : Value, e = .returned (v0_) ∧ Kd.R k85 85 w' w.heap.size (fun _ => True) v0_ r ∧ Below w.heap.size w w' := by
 have HR0 := Aside0.mk hr0
 have HC0 := Aside0.mk hc0
 have hbig : l0.length ≤ 9223372036854775807 := hr0.2.1
 clear hr0 hc0
 unfold impl_RotatePlan.f at h
 obtain ⟨t, ht, h⟩ := Option.bind_eq_some_iff.1 h
 have AT := Aside0.mk ht
 clear ht
 by_cases hn : t.length < 4398046511104
 ·rw [if_pos hn] at h
  have HN := Aside0.mk hn
  clear hn
  by_cases h1 : 0 ≤ a1
  ·rw [if_pos h1] at h
   have d1 : decide (a1 < 0) = false := decide_eq_false (by omega)
   by_cases h2 : a1 < (l0.length : Int)
   ·rw [if_pos h2] at h
    have d2 : decide ((l0.length : Int) ≤ a1) = false := decide_eq_false (by omega)
    by_cases h3 : a1 ≤ (t.length : Int)
    ·rw [if_pos h3] at h
     have H := Aside0.mk (Option.some.inj h)
     have H3 := Aside0.mk h3
     clear h h3
     go_enter Try.func53, Try.ntmps53
     go_wp2_with (first | ((with_reducible refine gate_callee (f := 86) rfl ?_); refine S.gL (some 7) Try.func86 #[.slice A0 l0.length c0] ?_; (with_reducible refine (impl_clonePlan.calls k _ _ l0 t _ HR0.out HC0.out AT.out).mono ?_); rintro e w1 ⟨v0, rfl, ho0, hb⟩; refine ⟨_, rfl, ?_⟩; have HO := Aside0.mk ho0; have HB := Aside0.mk hb; clear hb ho0; obtain ⟨Ao, co, eo⟩ := Kd.R_slice HO.out; subst eo))
     obtain ⟨cells, hcl, hcC, hcM⟩ := Rot.R_cells HO.out
     have hlen : t.length ≤ co := (Kd.R_reads' HO.out).2.1
     have hi3 : a1.toNat ≤ t.length := by have := H3.out; omega
     obtain ⟨i0, hi0, _, hsz0, _⟩ := info_parts info85
     have hcutA := cut_from (P := Try.prog) 29 85 .i64 Try.underlying29 hi0 2 hsz0 Ao t.length co a1 h1 (by have := H3.out; omega)
     have hcutB := cut_to (P := Try.prog) 29 85 .i64 Try.underlying29 hi0 Ao t.length co a1 h1 (by have := H3.out; omega) hlen
     have hcC2 : (Kd.raw 2).C w1 Ao cells.length cells := by rw [hcl]; exact hcC
     have hcx : (Kd.raw 2).C w1 (if co = a1.toNat then Ao else Ao.map (·.add (a1.toNat * 2))) (cells.drop a1.toNat).length (cells.drop a1.toNat) := Kd.C_drop hcC2 (by omega) (by omega)
     have hcy : (Kd.raw 2).C w1 Ao (cells.take a1.toNat).length (cells.take a1.toNat) := Kd.C_take hcC2 (by omega)
     rw [List.length_drop, hcl] at hcx
     rw [List.length_take, show min a1.toNat cells.length = a1.toNat by omega] at hcy
     generalize (if co = a1.toNat then Ao else Ao.map (·.add (a1.toNat * 2))) = Ax at hcutA hcx
     have HCX := Aside0.mk hcx
     have HCY := Aside0.mk hcy
     have HCL := Aside0.mk hcl
     have HCM := Aside0.mk hcM
     have HI3 := Aside0.mk hi3
     have HLEN := Aside0.mk hlen
     have hb2 : Below w1.heap.size w1 w1.drew := below_drew (Below.refl _ _)
     have HB2 := Aside0.mk hb2
     clear hcx hcy hcl hcM hcC hcC2 hi0 hsz0 hi3 hlen hb2
     go_still_tail 6, (by kernel_rfl)
     change wpList _ _ _ _ _ w1.drew
     generalize w1.drew = w2 at HB2 ⊢
     go_wp2_with (fail)
     refine (Rot.concat Ax Ao (t.length - a1.toNat) a1.toNat (co - a1.toNat) co w2.heap.size (cells.drop a1.toNat) (cells.take a1.toNat) _ ?x1 ?x2 ?x3 ?x4 ?x5 ?x6 ?x7).mono ?_
     case x1 => exact Kd.C_below HCX.out (below_alloc HB2.out _)
     case x2 => have := HLEN.out; omega
     case x3 => exact Kd.C_below HCY.out (below_alloc HB2.out _)
     case x4 => have := HLEN.out; have := HI3.out; omega
     case x5 => simp
     case x6 => simp
     case x7 => have := HN.out; have := HI3.out; omega
     rintro e w3 ⟨v, rfl, hr, hb⟩
     dsimp only
     have hB3 := below_step (below_alloc HB2.out (.cells #[Value.slice Ax (t.length - a1.toNat) (co - a1.toNat), Value.slice Ao a1.toNat co] 29)) hb
     have HB3 := Aside0.mk hB3
     have HR := Aside0.mk hr
     have HS := Aside0.mk (below_size (below_step HB.out (below_alloc HB2.out (.cells #[Value.slice Ax (t.length - a1.toNat) (co - a1.toNat), Value.slice Ao a1.toNat co] 29))))
     have HS1 := Aside0.mk (below_size (below_alloc HB2.out (.cells #[Value.slice Ax (t.length - a1.toNat) (co - a1.toNat), Value.slice Ao a1.toNat co] 29)))
     clear hb hr hB3
     go_wp2_with (fail)
     go_ret
     refine ⟨_, rfl, ?_, below_step HB.out HB3.out⟩
     rw [← H.out]
     have hcl := HCL.out
     have hi3 := HI3.out
     refine Rot.R_rebuild (d := k85) HR.out HS.out (by simp only [List.length_append, List.length_drop, List.length_take]; omega) (fun j x cs hx hc => ?_) (fun _ _ => trivial)
     have hap : ∀ k, k < w1.heap.size → True ∧ some k ≠ v.ownBlock := fun k hk => ⟨trivial, fun h6 => by
      have h7 := Kd.R_base HR.out k h6.symm
      have h8 := HS1.out
      omega⟩
     rw [Rot.turn_at _ _ _ hi3] at hx
     rw [Rot.turn_at _ _ _ (by omega), hcl] at hc
     by_cases hj : j < t.length - a1.toNat
     ·rw [if_pos hj] at hx hc
      exact k85.M_mono (fun k hk => hap k hk.2.2.1) (Kd.M_below (k85.M_bound (HCM.out _ x cs hx hc)) HB3.out)
     ·rw [if_neg hj] at hx hc
      by_cases hj2 : j < t.length
      ·rw [if_pos hj2] at hx hc
       exact k85.M_mono (fun k hk => hap k hk.2.2.1) (Kd.M_below (k85.M_bound (HCM.out _ x cs hx hc)) HB3.out)
      ·rw [if_neg hj2] at hx
       cases hx
    ·rw [if_neg h3] at h
     cases h
   ·rw [if_neg h2] at h
    have d2 : decide ((l0.length : Int) ≤ a1) = true := decide_eq_true (by omega)
    obtain rfl := Option.some.inj h
    clear h
    go_enter Try.func53, Try.ntmps53
    go_wp2_with (first | ((with_reducible refine gate_callee (f := 86) rfl ?_); refine S.gL (some 7) Try.func86 #[.slice A0 l0.length c0] ?_; (with_reducible refine (impl_clonePlan.calls k _ _ l0 t _ HR0.out HC0.out AT.out).mono ?_); rintro e w1 ⟨v0, rfl, ho0, hb⟩; refine ⟨_, rfl, ?_⟩; have HO := Aside0.mk ho0; have HB := Aside0.mk hb; clear hb ho0))
    go_ret
    exact ⟨_, rfl, HO.out, HB.out⟩
  ·rw [if_neg h1] at h
   have d1 : decide (a1 < 0) = true := decide_eq_true (by omega)
   obtain rfl := Option.some.inj h
   clear h
   go_enter Try.func53, Try.ntmps53
   go_wp2_with (first | ((with_reducible refine gate_callee (f := 86) rfl ?_); refine S.gL (some 7) Try.func86 #[.slice A0 l0.length c0] ?_; (with_reducible refine (impl_clonePlan.calls k _ _ l0 t _ HR0.out HC0.out AT.out).mono ?_); rintro e w1 ⟨v0, rfl, ho0, hb⟩; refine ⟨_, rfl, ?_⟩; have HO := Aside0.mk ho0; have HB := Aside0.mk hb; clear hb ho0))
   go_ret
   exact ⟨_, rfl, HO.out, HB.out⟩
 ·rw [if_neg hn] at h
  cases h
/-! ### impl_MakeSwitch: function 46 -/
def impl_MakeSwitch.l0 : Nat → List (S71) → List (S85) → List (S85) → Int → Int → Option ((List (S85)) × Bool)
 | 0, _, _, _, _, _ => none
 | k + 1, x0, x1, x2, x11, x12 => if x12 < x11 then ((impl_RotatePlan.f k x2 x12).bind fun t268 => ((impl_CanSwitch.f k x0 x1 t268).bind fun t271 => (if t271 = true then (some (t268, true)) else (impl_MakeSwitch.l0 k x0 x1 x2 x11 (wrap64 (x12 + 1)))))) else ((impl_clonePlan.f k x2).bind fun t265 => (some (t265, false)))
def impl_MakeSwitch.f (k : Nat) (l0 : List (S71)) (l1 : List (S85)) (l2 : List (S85)) : Option ((List (S85)) × Bool) := impl_MakeSwitch.l0 k l0 l1 l2 (l2.length : Int) 0
theorem impl_MakeSwitch.calls (k : Nat) (A0 : Option Addr) (c0 : Nat) (l0 : List (S71)) (A1 : Option Addr) (c1 : Nat) (l1 : List (S85)) (A2 : Option Addr) (c2 : Nat) (l2 : List (S85)) (r1 : List (S85)) (r2 : Bool) (w : World) (hr0 : Kd.C k71 w A0 l0.length l0) (hc0 : l0.length ≤ c0) (hr1 : Kd.C k85 w A1 l1.length l1) (hc1 : l1.length ≤ c1) (hr2 : Kd.C k85 w A2 l2.length l2) (hc2 : l2.length ≤ c2) (h : impl_MakeSwitch.f k l0 l1 l2 = some (r1, r2)) :
  Calls Try.prog 46 #[.slice A0 l0.length c0, .slice A1 l1.length c1, .slice A2 l2.length c2] w fun e w' => ∃ v0_ : Value, e = .returned (.tuple #[v0_, .bool r2]) ∧ Kd.R k85 85 w' w.heap.size (fun _ => True) v0_ r1 ∧ Below w.heap.size w w' := by
 have HR0 := Aside0.mk hr0
 have HC0 := Aside0.mk hc0
 clear hr0 hc0
 have HR1 := Aside0.mk hr1
 have HC1 := Aside0.mk hc1
 clear hr1 hc1
 have HR2 := Aside0.mk hr2
 have HC2 := Aside0.mk hc2
 clear hr2 hc2
 have HB := Aside0.mk (Below.refl w.heap.size w)
 have H : (impl_MakeSwitch.l0 k l0 l1 l2 (l2.length : Int) 0) = some (r1, r2) := h
 clear h
 have H' := Aside0.mk H
 clear H
 go_enter Try.func46, Try.ntmps46
 go_wp2
 go_loopg [12] k (fun kq v12 w' => ∃ (x12_1 : Int), v12 = .int .i64 x12_1 ∧ Aside0 (impl_MakeSwitch.l0 kq l0 l1 l2 (l2.length : Int) x12_1 = some (r1, r2)) ∧ Aside0 (kq ≤ k) ∧ Aside0 (Below w.heap.size w w'))
 case atStart => exact ⟨(0), S.eA, H', ⟨Nat.le_refl _⟩, ⟨S.bA⟩⟩
 case round =>
  clear H'
  try clear c1
  try clear c2
  obtain ⟨x12_1, rfl, HA, HK1, HB⟩ := hrel
  cases gk with
  | zero => exact absurd HA.out (by simp [impl_MakeSwitch.l0])
  | succ k1 =>
   have H := HA.out
   clear HA
   simp only [impl_MakeSwitch.l0] at H
   replace H := S.dc H; rcases H with ⟨H, c4b0⟩ | ⟨H, c4b0⟩
   ·replace H := Option.bind_eq_some_iff.mp H
    obtain ⟨t268, A50, H⟩ := H
    replace H : ((impl_CanSwitch.f k1 l0 l1 t268).bind fun t271 => (if t271 = true then (some (t268, true)) else (impl_MakeSwitch.l0 k1 l0 l1 l2 (l2.length : Int) (wrap64 (x12_1 + 1))))) = some (r1, r2) := H
    have A5 := Aside0.mk A50
    clear A50
    replace H := S.bd H; obtain ⟨t271, A6, H⟩ := H
    (try dsimp only at H)
    replace H := S.db H; rcases H with ⟨rfl, H⟩ | ⟨rfl, H⟩
    ·simp only [Option.some.injEq, Prod.mk.injEq] at H
     obtain ⟨rfl, rfl⟩ := H
     go_wp2_with (first | ((with_reducible refine gate_callee (f := 53) rfl ?_); refine S.gL (some 17) Try.func53 #[.slice A2 l2.length c2, .int .i64 x12_1] ?_; (with_reducible refine (impl_RotatePlan.calls k1 _ _ l2 x12_1 t268 _ ?s1 HC2.out A5.out).mono ?_); (case s1 => exact S.cA HR2.out); rintro e w8 ⟨v269, rfl, ho0, hb⟩; refine ⟨_, rfl, ?_⟩; have HO270 := S.lwA ho0; replace HB := S.sA hb; (try clear hb); (try clear ho0); obtain ⟨Ao9, co9, eo9⟩ := Kd.R_slice HO270.out; subst eo9) | ((with_reducible refine gate_callee (f := 21) rfl ?_); refine S.gL (some 21) Try.func21 #[.slice A0 l0.length c0, .slice A1 l1.length c1, .slice Ao9 t268.length co9] ?_; (with_reducible refine (impl_CanSwitch.calls k1 _ _ l0 _ _ l1 _ _ t268 true _ ?s1 HC0.out ?s3 HC1.out ?s5 (S.rl HO270) A6.out).mono ?_); (case s1 => exact S.cA HR0.out); (case s3 => exact S.cA HR1.out); (case s5 => exact S.rd HO270); rintro e w10 ⟨rfl, hb⟩; refine ⟨_, rfl, ?_⟩; replace HO270 := S.rb HO270 hb; replace HB := S.sA hb; (try clear hb)))
     go_ret2
     exact ⟨_, S.eW, S.uR HO270.out, S.bA⟩
    ·have H' := Aside0.mk H
     clear H
     go_wp2_with (first | ((with_reducible refine gate_callee (f := 53) rfl ?_); refine S.gL (some 17) Try.func53 #[.slice A2 l2.length c2, .int .i64 x12_1] ?_; (with_reducible refine (impl_RotatePlan.calls k1 _ _ l2 x12_1 t268 _ ?s1 HC2.out A5.out).mono ?_); (case s1 => exact S.cA HR2.out); rintro e w11 ⟨v269, rfl, ho0, hb⟩; refine ⟨_, rfl, ?_⟩; have HO270 := S.lwA ho0; replace HB := S.sA hb; (try clear hb); (try clear ho0); obtain ⟨Ao12, co12, eo12⟩ := Kd.R_slice HO270.out; subst eo12) | ((with_reducible refine gate_callee (f := 21) rfl ?_); refine S.gL (some 21) Try.func21 #[.slice A0 l0.length c0, .slice A1 l1.length c1, .slice Ao12 t268.length co12] ?_; (with_reducible refine (impl_CanSwitch.calls k1 _ _ l0 _ _ l1 _ _ t268 false _ ?s1 HC0.out ?s3 HC1.out ?s5 (S.rl HO270) A6.out).mono ?_); (case s1 => exact S.cA HR0.out); (case s3 => exact S.cA HR1.out); (case s5 => exact S.rd HO270); rintro e w13 ⟨rfl, hb⟩; refine ⟨_, rfl, ?_⟩; replace HO270 := S.rb HO270 hb; replace HB := S.sA hb; (try clear hb)))
     go_roundg k1
     case measure => have := HK1.out; omega
     case rel => exact ⟨(wrap64 (x12_1 + 1)), S.eA, H', ⟨by have := HK1.out; omega⟩, ⟨S.bA⟩⟩
   ·replace H := Option.bind_eq_some_iff.mp H
    obtain ⟨t265, A140, H⟩ := H
    replace H : (some (t265, false)) = some (r1, r2) := H
    have A14 := Aside0.mk A140
    clear A140
    simp only [Option.some.injEq, Prod.mk.injEq] at H
    obtain ⟨rfl, rfl⟩ := H
    go_wp2_with (first | ((with_reducible refine gate_callee (f := 86) rfl ?_); refine S.gL (some 25) Try.func86 #[.slice A2 l2.length c2] ?_; (with_reducible refine (impl_clonePlan.calls k1 _ _ l2 t265 _ ?s1 HC2.out A14.out).mono ?_); (case s1 => exact S.cA HR2.out); rintro e w15 ⟨v266, rfl, ho0, hb⟩; refine ⟨_, rfl, ?_⟩; have HO267 := S.lwA ho0; replace HB := S.sA hb; (try clear hb); (try clear ho0)))
    go_ret2
    exact ⟨_, S.eW, S.uR HO267.out, S.bA⟩

/-- A state of type 114 at block g of W; what its slices lead to came in by w0. -/
def IsS114 (w0 W : World) (g : Nat) (f0 : List Int) (f1 : Int) (f2 : Int) : Prop := ∃ A0 c0, W.heap[g]? = some (.cells #[.slice A0 f0.length c0, .int .i64 f1, .int .i64 f2] 114 (0, 0)) ∧ w0.heap.size ≤ g ∧ Kd.C (Kd.int .u8) w0 A0 f0.length f0
theorem IsS114.grown {w0 W : World} {g : Nat} {f0 : List Int} {f1 : Int} {f2 : Int} {W1 : World} {row : Option Nat} (h : IsS114 w0 W g f0 f1 f2) (hw : W.grownBy W1 row) (hne : some g ≠ row) : IsS114 w0 W1 g f0 f1 f2 := by
 obtain ⟨A0, c0, hb, hg, hr0⟩ := h
 exact ⟨A0, c0, blk_grown hb hw hne, hg, hr0⟩
theorem IsS114.own_neN {w0 W : World} {g : Nat} {f0 : List Int} {f1 : Int} {f2 : Int} {α : Type} {d : Kd α} {e : Nat} {base : Nat} {ok : Nat → Prop} {v : Value} {xs : List α} (h : IsS114 w0 W g f0 f1 f2) (ho : Kd.N d e W base ok v xs) (ht : e ≠ 114) : some g ≠ v.ownBlock := by
 obtain ⟨A0, c0, hb, hg, hr0⟩ := h
 exact Kd.N_ne ho hb ht
theorem IsS114.fresh {w0 W : World} {g : Nat} {f0 : List Int} {f1 : Int} {f2 : Int} (h : IsS114 w0 W g f0 f1 f2) : ∀ k, W.heap.size ≤ k → k ≠ g := by
 obtain ⟨A0, c0, hb, hg, hr0⟩ := h
 exact Kd.freshB hb
theorem IsS114.below {w0 W : World} {g : Nat} {f0 : List Int} {f1 : Int} {f2 : Int} {W1 : World} (h : IsS114 w0 W g f0 f1 f2) (hw : Below W.heap.size W W1) : IsS114 w0 W1 g f0 f1 f2 := h.grown (grown_of_below hw none) (by simp)
theorem IsS114.alloc {w0 W : World} {g : Nat} {f0 : List Int} {f1 : Int} {f2 : Int} (h : IsS114 w0 W g f0 f1 f2) (o : Obj) : IsS114 w0 (W.alloc o) g f0 f1 f2 := h.below (below_alloc (Below.refl _ _) o)
theorem IsS114.drewN {w0 W : World} {g : Nat} {f0 : List Int} {f1 : Int} {f2 : Int} (h : IsS114 w0 W g f0 f1 f2) (m : Nat) : IsS114 w0 (W.drewN m) g f0 f1 f2 := h
theorem IsS114.drew {w0 W : World} {g : Nat} {f0 : List Int} {f1 : Int} {f2 : Int} (h : IsS114 w0 W g f0 f1 f2) : IsS114 w0 W.drew g f0 f1 f2 := h
theorem IsS114.apart {w0 W : World} {g : Nat} {f0 : List Int} {f1 : Int} {f2 : Int} {α : Type} {d : Kd α} {e : Nat} {base : Nat} {ok : Nat → Prop} {v : Value} {xs : List α} (h : IsS114 w0 W g f0 f1 f2) (ho : d.R e W base ok v xs) (ht : ∀ q, q ∈ e :: d.E → q ≠ 114) : d.R e W base (fun k => ok k ∧ k ≠ g) v xs := by
 obtain ⟨A0, c0, hb, hg, hr0⟩ := h
 exact Kd.R_types ho hb ht
theorem IsS114.own_ne {w0 W : World} {g : Nat} {f0 : List Int} {f1 : Int} {f2 : Int} {α : Type} {d : Kd α} {e : Nat} {base : Nat} {ok : Nat → Prop} {v : Value} {xs : List α} (h : IsS114 w0 W g f0 f1 f2) (ho : d.R e W base ok v xs) (ht : e ≠ 114) : some g ≠ v.ownBlock := by
 obtain ⟨A0, c0, hb, hg, hr0⟩ := h
 exact Kd.R_ne ho hb ht
theorem IsS114.lt {w0 W : World} {g : Nat} {f0 : List Int} {f1 : Int} {f2 : Int} (h : IsS114 w0 W g f0 f1 f2) : g < W.heap.size := by
 obtain ⟨A0, c0, hb, hg, hr0⟩ := h
 exact blk_lt hb
theorem IsS114.ge {w0 W : World} {g : Nat} {f0 : List Int} {f1 : Int} {f2 : Int} (h : IsS114 w0 W g f0 f1 f2) : w0.heap.size ≤ g := by
 obtain ⟨A0, c0, hb, hg, hr0⟩ := h
 exact hg
theorem IsS114.far {w0 W : World} {g : Nat} {f0 : List Int} {f1 : Int} {f2 : Int} {p : Addr} (h : IsS114 w0 W g f0 f1 f2) (hne : g ≠ p.block) (u : Value) : IsS114 w0 (W.setCell p u) g f0 f1 f2 := by
 obtain ⟨A0, c0, hb, hg, hr0⟩ := h
 exact ⟨A0, c0, blk_far hb hne u, hg, hr0⟩
theorem cellS114_0 {W : World} {g : Nat} {A0 : Option Addr} {c0 : Nat} {f0 : List Int} {f1 : Int} {f2 : Int} (h : W.heap[g]? = some (.cells #[.slice A0 f0.length c0, .int .i64 f1, .int .i64 f2] 114 (0, 0))) : W.cell? ⟨g, 0, none⟩ = some (.slice A0 f0.length c0) := (blk_cell h 0).trans rfl
theorem cellS114_1 {W : World} {g : Nat} {A0 : Option Addr} {c0 : Nat} {f0 : List Int} {f1 : Int} {f2 : Int} (h : W.heap[g]? = some (.cells #[.slice A0 f0.length c0, .int .i64 f1, .int .i64 f2] 114 (0, 0))) : W.cell? ⟨g, 1, none⟩ = some (.int .i64 f1) := (blk_cell h 1).trans rfl
theorem IsS114.set_1 {w0 W : World} {g : Nat} {f0 : List Int} {f1 : Int} {f2 : Int} (h : IsS114 w0 W g f0 f1 f2) (x : Int) : IsS114 w0 (W.setCell ⟨g, 1, none⟩ (.int .i64 x)) g f0 x f2 := by
 obtain ⟨A0, c0, hb, hg, hr0⟩ := h
 exact ⟨A0, c0, by simpa using blk_set hb 1 (.int .i64 x), hg, hr0⟩
theorem cellS114_2 {W : World} {g : Nat} {A0 : Option Addr} {c0 : Nat} {f0 : List Int} {f1 : Int} {f2 : Int} (h : W.heap[g]? = some (.cells #[.slice A0 f0.length c0, .int .i64 f1, .int .i64 f2] 114 (0, 0))) : W.cell? ⟨g, 2, none⟩ = some (.int .i64 f2) := (blk_cell h 2).trans rfl
theorem IsS114.set_2 {w0 W : World} {g : Nat} {f0 : List Int} {f1 : Int} {f2 : Int} (h : IsS114 w0 W g f0 f1 f2) (x : Int) : IsS114 w0 (W.setCell ⟨g, 2, none⟩ (.int .i64 x)) g f0 f1 x := by
 obtain ⟨A0, c0, hb, hg, hr0⟩ := h
 exact ⟨A0, c0, by simpa using blk_set hb 2 (.int .i64 x), hg, hr0⟩
/-! ### spec_l1New: function 76 -/
def spec_l1New.l0 : Nat → List Int → Int → Int → Option (List Int × Int × Int)
 | 0, _, _, _ => none
 | k + 1, x0, x3, x4 => if x4 < (x0.length : Int) then (if x4 < 4000 then (if 0 ≤ x4 then (spec_l1New.l0 k x0 (Go.bits .and .i64 (wrap64 ((wrap64 ((wrap64 (x3 * 137)) + (wrap64 (rd x0 x4)))) + 11)) 1073741823) (wrap64 (x4 + 1))) else (none)) else (some (x0, 0, x3))) else (some (x0, 0, x3))
def spec_l1New.f (k : Nat) (l0 : List Int) : Option (List Int × Int × Int) := spec_l1New.l0 k l0 (wrap64 (193017 + (l0.length : Int))) 0
theorem spec_l1New.calls (k : Nat) (A0 : Option Addr) (c0 : Nat) (l0 : List Int) (r1 : List Int) (r2 : Int) (r3 : Int) (w0 w : World) (hB : Below w0.heap.size w0 w) (hr0 : Kd.C (Kd.int .u8) w0 A0 l0.length l0) (hc0 : l0.length ≤ c0) (h : spec_l1New.f k l0 = some (r1, r2, r3)) :
  Calls Try.prog 76 #[.slice A0 l0.length c0] w fun e w' => ∃ g_ : Nat, e = .returned (.pointer (some ⟨g_, 0, none⟩)) ∧ IsS114 w0 w' g_ r1 r2 r3 ∧ Below w0.heap.size w0 w' ∧ Below w.heap.size w w' := by
 have hu114 := Try.underlying114
 have HR0 := Aside0.mk hr0
 have HC0 := Aside0.mk hc0
 clear hr0 hc0
 have HBW := Aside0.mk (Below.refl w.heap.size w)
 have HW0 := Aside0.mk hB.size
 have HB := Aside0.mk hB
 clear hB
 have H : (spec_l1New.l0 k l0 (wrap64 (193017 + (l0.length : Int))) 0) = some (r1, r2, r3) := h
 clear h
 have H' := Aside0.mk H
 clear H
 go_enter Try.func76, Try.ntmps76
 go_wp2
 go_loopg [3, 4] k (fun kq v3 v4 w' => ∃ (x3_1 : Int) (x4_1 : Int), v3 = .int .i64 x3_1 ∧ v4 = .int .i64 x4_1 ∧ Aside0 (spec_l1New.l0 kq l0 x3_1 x4_1 = some (r1, r2, r3)) ∧ Aside0 (kq ≤ k) ∧ Aside0 (Below w0.heap.size w0 w') ∧ Aside0 (Below w.heap.size w w'))
 case atStart => exact ⟨(wrap64 (193017 + (l0.length : Int))), (0), S.eA, S.eA, H', ⟨Nat.le_refl _⟩, ⟨S.bA⟩, ⟨by repeat (first | (with_reducible first | exact HBW.out | apply below_alloc | apply pw_below_drewN | apply below_drew1) | exact HBW.out)⟩⟩
 case round =>
  clear H'
  obtain ⟨x3_1, x4_1, rfl, rfl, HA, HK1, HB, HBW⟩ := hrel
  cases gk with
  | zero => exact absurd HA.out (by simp [spec_l1New.l0])
  | succ k1 =>
   have H := HA.out
   clear HA
   simp only [spec_l1New.l0] at H
   replace H := S.dc H; rcases H with ⟨H, c2b0⟩ | ⟨H, c2b0⟩
   ·by_cases c3 : x4_1 < 4000
    ·rw [if_pos c3] at H
     have c3b0 : decide (x4_1 < 4000) = true := decide_eq_true c3
     clear c3
     by_cases c4 : 0 ≤ x4_1
     ·rw [if_pos c4] at H
      have c4b0 : decide (0 ≤ x4_1) = true := decide_eq_true c4
      clear c4
      have H' := Aside0.mk H
      clear H
      have p272 : 0 ≤ (x4_1 : Int) := S.oD
      have q272 : x4_1 < (l0.length : Int) := S.oD
      obtain ⟨ad272, e272, hx272_0⟩ := Kd.at_int HR0.out x4_1 p272 q272
      cases e272
      replace hx272_0 := pw_cell_below HB.out hx272_0
      replace p272 := eq_true p272
      replace q272 := eq_true q272
      go_wp2
      go_roundg k1
      case measure => have := HK1.out; omega
      case rel => exact ⟨(Go.bits .and .i64 (wrap64 ((wrap64 ((wrap64 (x3_1 * 137)) + (wrap64 (rd l0 x4_1)))) + 11)) 1073741823), (wrap64 (x4_1 + 1)), S.eA, S.eA, H', ⟨by have := HK1.out; omega⟩, ⟨S.bA⟩, ⟨by repeat (first | (with_reducible first | exact HBW.out | apply below_alloc | apply pw_below_drewN | apply below_drew1) | exact HBW.out)⟩⟩
     ·rw [if_neg c4] at H
      exact absurd H (by simp)
    ·rw [if_neg c3] at H
     have c3b0 : decide (x4_1 < 4000) = false := decide_eq_false c3
     clear c3
     simp only [Option.some.injEq, Prod.mk.injEq] at H
     obtain ⟨rfl, rfl, rfl⟩ := H
     go_wp2_with (first | ((with_reducible refine gate_dst (N := 31) rfl ?_); refine S.bx 31 (cs := #[.slice A0 l0.length c0, .int .i64 0, .int .i64 x3_1]) (t := 114) ?_; intro gb273 hg w5 hbox hb; replace HB := S.sA hb; have BK273 := Aside0.mk hbox; have GW273 := Aside0.mk ((by rw [hg]; exact (below_size (by repeat (first | (with_reducible first | exact HBW.out | apply below_alloc | apply pw_below_drewN | apply below_drew1) | exact HBW.out))) : w.heap.size ≤ gb273)); have GE273 := Aside0.mk ((Nat.le_trans HW0.out (by rw [hg]; exact (below_size (by repeat (first | (with_reducible first | exact HBW.out | apply below_alloc | apply pw_below_drewN | apply below_drew1) | exact HBW.out))) : w.heap.size ≤ gb273) : w0.heap.size ≤ gb273)); replace HBW := Aside0.mk (below_step HBW.out hb); clear hb hbox hg))
     go_ret
     exact ⟨_, rfl, (show IsS114 w0 _ gb273 l0 0 x3_1 from ⟨_, _, S.uB BK273.out, GE273.out, HR0.out⟩), S.bG, by repeat (first | (with_reducible first | exact HBW.out | apply below_alloc | apply pw_below_drewN | apply below_drew1 | refine below_set ?_ GW273.out) | exact HBW.out)⟩
   ·simp only [Option.some.injEq, Prod.mk.injEq] at H
    obtain ⟨rfl, rfl, rfl⟩ := H
    go_wp2_with (first | ((with_reducible refine gate_dst (N := 31) rfl ?_); refine S.bx 31 (cs := #[.slice A0 l0.length c0, .int .i64 0, .int .i64 x3_1]) (t := 114) ?_; intro gb274 hg w6 hbox hb; replace HB := S.sA hb; have BK274 := Aside0.mk hbox; have GW274 := Aside0.mk ((by rw [hg]; exact (below_size (by repeat (first | (with_reducible first | exact HBW.out | apply below_alloc | apply pw_below_drewN | apply below_drew1) | exact HBW.out))) : w.heap.size ≤ gb274)); have GE274 := Aside0.mk ((Nat.le_trans HW0.out (by rw [hg]; exact (below_size (by repeat (first | (with_reducible first | exact HBW.out | apply below_alloc | apply pw_below_drewN | apply below_drew1) | exact HBW.out))) : w.heap.size ≤ gb274) : w0.heap.size ≤ gb274)); replace HBW := Aside0.mk (below_step HBW.out hb); clear hb hbox hg))
    go_ret
    exact ⟨_, rfl, (show IsS114 w0 _ gb274 l0 0 x3_1 from ⟨_, _, S.uB BK274.out, GE274.out, HR0.out⟩), S.bG, by repeat (first | (with_reducible first | exact HBW.out | apply below_alloc | apply pw_below_drewN | apply below_drew1 | refine below_set ?_ GW274.out) | exact HBW.out)⟩

/-! ### spec_l1Byte: function 121 -/
def spec_l1Byte.f (s0_0 : List Int) (s0_1 : Int) (s0_2 : Int) : Option (Int × Int × Int) := if s0_1 < (s0_0.length : Int) then (if 0 ≤ s0_1 then (some (Go.bits .and .i64 (wrap64 ((Go.bits .and .i64 (Go.bits .xor .i64 ((wrap64 ((wrap64 (s0_2 * 6364136223846793005)) + 1442695040888963407)) / 8589934592) ((wrap64 ((wrap64 (s0_2 * 6364136223846793005)) + 1442695040888963407)) / 140737488355328)) 255) + (wrap64 (rd s0_0 s0_1)))) 255, wrap64 (s0_1 + 1), wrap64 ((wrap64 (s0_2 * 6364136223846793005)) + 1442695040888963407))) else (none)) else (some (Go.bits .and .i64 (Go.bits .xor .i64 ((wrap64 ((wrap64 (s0_2 * 6364136223846793005)) + 1442695040888963407)) / 8589934592) ((wrap64 ((wrap64 (s0_2 * 6364136223846793005)) + 1442695040888963407)) / 140737488355328)) 255, s0_1, wrap64 ((wrap64 (s0_2 * 6364136223846793005)) + 1442695040888963407)))
theorem spec_l1Byte.calls (g : Nat) (s0_0 : List Int) (s0_1 : Int) (s0_2 : Int) (r1 : Int) (r2 : Int) (r3 : Int) (w0 w : World) (hI : IsS114 w0 w g s0_0 s0_1 s0_2) (hB : Below w0.heap.size w0 w) (h : spec_l1Byte.f s0_0 s0_1 s0_2 = some (r1, r2, r3)) :
  Calls Try.prog 121 #[.pointer (some ⟨g, 0, none⟩)] w fun e w' => e = .returned (.int .i64 r1) ∧ IsS114 w0 w' g s0_0 r2 r3 ∧ Below w0.heap.size w0 w' ∧ KeepBut w w' g none := by
 have HI0 := Aside0.mk hI
 have HK := Aside0.mk (KeepBut.refl w g none)
 have HL := Aside0.mk hB.size
 clear hI
 have HW0 := Aside0.mk hB.size
 have HB := Aside0.mk hB
 clear hB
 have H : (if s0_1 < (s0_0.length : Int) then (if 0 ≤ s0_1 then (some (Go.bits .and .i64 (wrap64 ((Go.bits .and .i64 (Go.bits .xor .i64 ((wrap64 ((wrap64 (s0_2 * 6364136223846793005)) + 1442695040888963407)) / 8589934592) ((wrap64 ((wrap64 (s0_2 * 6364136223846793005)) + 1442695040888963407)) / 140737488355328)) 255) + (wrap64 (rd s0_0 s0_1)))) 255, wrap64 (s0_1 + 1), wrap64 ((wrap64 (s0_2 * 6364136223846793005)) + 1442695040888963407))) else (none)) else (some (Go.bits .and .i64 (Go.bits .xor .i64 ((wrap64 ((wrap64 (s0_2 * 6364136223846793005)) + 1442695040888963407)) / 8589934592) ((wrap64 ((wrap64 (s0_2 * 6364136223846793005)) + 1442695040888963407)) / 140737488355328)) 255, s0_1, wrap64 ((wrap64 (s0_2 * 6364136223846793005)) + 1442695040888963407)))) = some (r1, r2, r3) := h
 clear h
 replace H := S.dc H; rcases H with ⟨H, c2b0⟩ | ⟨H, c2b0⟩
 ·by_cases c3 : 0 ≤ s0_1
  ·rw [if_pos c3] at H
   have c3b0 : decide (0 ≤ s0_1) = true := decide_eq_true c3
   clear c3
   simp only [Option.some.injEq, Prod.mk.injEq] at H
   obtain ⟨rfl, rfl, rfl⟩ := H
   obtain ⟨ASz4_0, cSz4_0, HGz4, hgz4, HSz4_0⟩ := HI0.out
   have Z4a := cellS114_0 HGz4
   have Z4b := cellS114_1 HGz4
   have Z4c := cellS114_2 HGz4
   have Y4b := blk_frozen HGz4 1
   have Y4c := blk_frozen HGz4 2
   clear HGz4 hgz4
   have p275 : 0 ≤ (s0_1 : Int) := S.oD
   have q275 : s0_1 < (s0_0.length : Int) := S.oD
   obtain ⟨ad275, e275, hx275_0⟩ := Kd.at_int HSz4_0 s0_1 p275 q275
   cases e275
   have hn275_0 : ad275.block ≠ g := Nat.ne_of_lt (Nat.lt_of_lt_of_le (by have := World.block_lt_of_cell? _ _ hx275_0; first | rwa [add_block] at this | exact this) (IsS114.ge HI0.out))
   replace hx275_0 := pw_cell_below HB.out hx275_0
   replace hx275_0 := (cell_far (p := ⟨g, 2, none⟩) (by first | (rw [add_block]; exact hn275_0) | (show (Addr.add _ _).block ≠ _; rw [add_block]; exact hn275_0) | exact hn275_0) (.int .i64 (wrap64 ((wrap64 (s0_2 * 6364136223846793005)) + 1442695040888963407)))).trans hx275_0
   (try have hy275_0 := fun (n_ : Nat) => (show (((w.drewN n_).setCell ⟨g, 2, none⟩ (.int .i64 (wrap64 ((wrap64 (s0_2 * 6364136223846793005)) + 1442695040888963407))))).cell? _ = some _ from hx275_0))
   clear hn275_0
   replace p275 := eq_true p275
   replace q275 := eq_true q275
   go_enter Try.func121, Try.ntmps121
   go_wp2
   repeat (go_quiet (fail); try go_wp2)
   go_ret
   exact ⟨S.eW, S.iI, S.bI, S.kA⟩
  ·rw [if_neg c3] at H
   exact absurd H (by simp)
 ·simp only [Option.some.injEq, Prod.mk.injEq] at H
  obtain ⟨rfl, rfl, rfl⟩ := H
  obtain ⟨ASz5_0, cSz5_0, HGz5, hgz5, HSz5_0⟩ := HI0.out
  have Z5a := cellS114_0 HGz5
  have Z5b := cellS114_1 HGz5
  have Z5c := cellS114_2 HGz5
  have Y5b := blk_frozen HGz5 1
  have Y5c := blk_frozen HGz5 2
  clear HGz5 hgz5
  go_enter Try.func121, Try.ntmps121
  go_wp2
  repeat (go_quiet (fail); try go_wp2)
  go_ret
  exact ⟨S.eW, S.iI, S.bI, S.kA⟩

/-! ### spec_l1Below: function 90 -/
def spec_l1Below.f (s0_0 : List Int) (s0_1 : Int) (s0_2 : Int) (a1 : Int) : Option (Int × Int × Int) := if a1 ≤ 0 then (some (0, s0_1, s0_2)) else (if a1 ≤ 256 then ((spec_l1Byte.f s0_0 s0_1 s0_2).bind fun bt276 => (if a1 = 0 then (none) else (some (Int.tmod bt276.1 a1, bt276.2.1, bt276.2.2)))) else ((spec_l1Byte.f s0_0 s0_1 s0_2).bind fun bt279 => ((spec_l1Byte.f s0_0 bt279.2.1 bt279.2.2).bind fun bt282 => ((spec_l1Byte.f s0_0 bt282.2.1 bt282.2.2).bind fun bt285 => (if a1 = 0 then (none) else (some (Int.tmod (wrap64 ((wrap64 ((wrap64 (bt279.1 * 65536)) + (wrap64 (bt282.1 * 256)))) + bt285.1)) a1, bt285.2.1, bt285.2.2)))))))
theorem spec_l1Below.calls (g : Nat) (s0_0 : List Int) (s0_1 : Int) (s0_2 : Int) (a1 : Int) (r1 : Int) (r2 : Int) (r3 : Int) (w0 w : World) (hI : IsS114 w0 w g s0_0 s0_1 s0_2) (hB : Below w0.heap.size w0 w) (h : spec_l1Below.f s0_0 s0_1 s0_2 a1 = some (r1, r2, r3)) :
  Calls Try.prog 90 #[.pointer (some ⟨g, 0, none⟩), .int .i64 a1] w fun e w' => e = .returned (.int .i64 r1) ∧ IsS114 w0 w' g s0_0 r2 r3 ∧ Below w0.heap.size w0 w' ∧ KeepBut w w' g none := by
 have HI0 := Aside0.mk hI
 have HK := Aside0.mk (KeepBut.refl w g none)
 have HL := Aside0.mk hB.size
 clear hI
 have HW0 := Aside0.mk hB.size
 have HB := Aside0.mk hB
 clear hB
 have H : (if a1 ≤ 0 then (some (0, s0_1, s0_2)) else (if a1 ≤ 256 then ((spec_l1Byte.f s0_0 s0_1 s0_2).bind fun bt276 => (if a1 = 0 then (none) else (some (Int.tmod bt276.1 a1, bt276.2.1, bt276.2.2)))) else ((spec_l1Byte.f s0_0 s0_1 s0_2).bind fun bt279 => ((spec_l1Byte.f s0_0 bt279.2.1 bt279.2.2).bind fun bt282 => ((spec_l1Byte.f s0_0 bt282.2.1 bt282.2.2).bind fun bt285 => (if a1 = 0 then (none) else (some (Int.tmod (wrap64 ((wrap64 ((wrap64 (bt279.1 * 65536)) + (wrap64 (bt282.1 * 256)))) + bt285.1)) a1, bt285.2.1, bt285.2.2)))))))) = some (r1, r2, r3) := h
 clear h
 replace H := S.dc H; rcases H with ⟨H, c3b0⟩ | ⟨H, c3b0⟩
 ·simp only [Option.some.injEq, Prod.mk.injEq] at H
  obtain ⟨rfl, rfl, rfl⟩ := H
  go_enter Try.func90, Try.ntmps90
  go_wp2
  go_ret
  exact ⟨S.eW, S.iI, S.bI, S.kA⟩
 ·by_cases c4 : a1 ≤ 256
  ·rw [if_pos c4] at H
   have c4b0 : decide (a1 ≤ 256) = true := decide_eq_true c4
   clear c4
   replace H := S.bd H; obtain ⟨⟨t276, t277, t278⟩, A5, H⟩ := H
   (try dsimp only at H)
   by_cases c6 : a1 = 0
   ·rw [if_pos c6] at H
    exact absurd H (by simp)
   ·rw [if_neg c6] at H
    have c6b0 : (a1 == 0) = false := beq_eq_false_iff_ne.mpr c6
    have c6b1 : (a1 != 0) = true := bne_iff_ne.mpr c6
    simp only [Option.some.injEq, Prod.mk.injEq] at H
    obtain ⟨rfl, rfl, rfl⟩ := H
    go_enter Try.func90, Try.ntmps90
    go_wp2_with (first | ((with_reducible refine gate_callee (f := 121) rfl ?_); refine S.gL (some 13) Try.func121 #[.pointer (some ⟨g, 0, none⟩)] ?_; (with_reducible refine (spec_l1Byte.calls g s0_0 s0_1 s0_2 t276 t277 t278 w0 _ ?s1 ?s2 A5.out).mono ?_); (case s1 => exact S.iI); (case s2 => exact S.bI); rintro e w7 ⟨rfl, hi, hb, hk⟩; refine ⟨_, rfl, ?_⟩; replace HK := Aside0.mk (KeepBut.trans S.kA hk (.inl rfl)); replace HB := Aside0.mk (hb); replace HI0 := Aside0.mk (hi); (try clear hb); (try clear hk); (try clear hi)))
    go_ret
    exact ⟨S.eW, S.iI, S.bI, S.kA⟩
  ·rw [if_neg c4] at H
   have c4b0 : decide (a1 ≤ 256) = false := decide_eq_false c4
   clear c4
   replace H := S.bd H; obtain ⟨⟨t279, t280, t281⟩, A8, H⟩ := H
   (try dsimp only at H)
   replace H := S.bd H; obtain ⟨⟨t282, t283, t284⟩, A9, H⟩ := H
   (try dsimp only at H)
   replace H := S.bd H; obtain ⟨⟨t285, t286, t287⟩, A10, H⟩ := H
   (try dsimp only at H)
   by_cases c11 : a1 = 0
   ·rw [if_pos c11] at H
    exact absurd H (by simp)
   ·rw [if_neg c11] at H
    have c11b0 : (a1 == 0) = false := beq_eq_false_iff_ne.mpr c11
    have c11b1 : (a1 != 0) = true := bne_iff_ne.mpr c11
    simp only [Option.some.injEq, Prod.mk.injEq] at H
    obtain ⟨rfl, rfl, rfl⟩ := H
    go_enter Try.func90, Try.ntmps90
    go_wp2_with (first | ((with_reducible refine gate_callee (f := 121) rfl ?_); refine S.gL (some 17) Try.func121 #[.pointer (some ⟨g, 0, none⟩)] ?_; (with_reducible refine (spec_l1Byte.calls g s0_0 s0_1 s0_2 t279 t280 t281 w0 _ ?s1 ?s2 A8.out).mono ?_); (case s1 => exact S.iI); (case s2 => exact S.bI); rintro e w12 ⟨rfl, hi, hb, hk⟩; refine ⟨_, rfl, ?_⟩; replace HK := Aside0.mk (KeepBut.trans S.kA hk (.inl rfl)); replace HB := Aside0.mk (hb); replace HI0 := Aside0.mk (hi); (try clear hb); (try clear hk); (try clear hi)) | ((with_reducible refine gate_callee (f := 121) rfl ?_); refine S.gL (some 19) Try.func121 #[.pointer (some ⟨g, 0, none⟩)] ?_; (with_reducible refine (spec_l1Byte.calls g s0_0 t280 t281 t282 t283 t284 w0 _ ?s1 ?s2 A9.out).mono ?_); (case s1 => exact S.iI); (case s2 => exact S.bI); rintro e w13 ⟨rfl, hi, hb, hk⟩; refine ⟨_, rfl, ?_⟩; replace HK := Aside0.mk (KeepBut.trans S.kA hk (.inl rfl)); replace HB := Aside0.mk (hb); replace HI0 := Aside0.mk (hi); (try clear hb); (try clear hk); (try clear hi)) | ((with_reducible refine gate_callee (f := 121) rfl ?_); refine S.gL (some 21) Try.func121 #[.pointer (some ⟨g, 0, none⟩)] ?_; (with_reducible refine (spec_l1Byte.calls g s0_0 t283 t284 t285 t286 t287 w0 _ ?s1 ?s2 A10.out).mono ?_); (case s1 => exact S.iI); (case s2 => exact S.bI); rintro e w14 ⟨rfl, hi, hb, hk⟩; refine ⟨_, rfl, ?_⟩; replace HK := Aside0.mk (KeepBut.trans S.kA hk (.inl rfl)); replace HB := Aside0.mk (hb); replace HI0 := Aside0.mk (hi); (try clear hb); (try clear hk); (try clear hi)))
    go_ret
    exact ⟨S.eW, S.iI, S.bI, S.kA⟩

/-! ### spec_l1Int: function 79 -/
def spec_l1Int.f (s0_0 : List Int) (s0_1 : Int) (s0_2 : Int) (l1 : List Int) : Option (Int × Int × Int) := (spec_l1Below.f s0_0 s0_1 s0_2 (l1.length : Int)).bind fun bt288 => (if 0 ≤ bt288.1 then (if bt288.1 < (l1.length : Int) then (some (rd l1 bt288.1, bt288.2.1, bt288.2.2)) else (none)) else (none))
theorem spec_l1Int.calls (g : Nat) (s0_0 : List Int) (s0_1 : Int) (s0_2 : Int) (A1 : Option Addr) (c1 : Nat) (l1 : List Int) (r1 : Int) (r2 : Int) (r3 : Int) (w0 w : World) (hI : IsS114 w0 w g s0_0 s0_1 s0_2) (hB : Below w0.heap.size w0 w) (hr1 : Kd.C (Kd.int .i64) w A1 l1.length l1) (hc1 : l1.length ≤ c1) (hf1 : ∀ ad, A1 = some ad → 0 < l1.length → ad.block ≠ g) (h : spec_l1Int.f s0_0 s0_1 s0_2 l1 = some (r1, r2, r3)) :
  Calls Try.prog 79 #[.pointer (some ⟨g, 0, none⟩), .slice A1 l1.length c1] w fun e w' => e = .returned (.int .i64 r1) ∧ IsS114 w0 w' g s0_0 r2 r3 ∧ Below w0.heap.size w0 w' ∧ KeepBut w w' g none := by
 have HR1 := Aside0.mk hr1
 have HC1 := Aside0.mk hc1
 clear hr1 hc1
 have HI0 := Aside0.mk hI
 have HK := Aside0.mk (KeepBut.refl w g none)
 have HL := Aside0.mk hB.size
 clear hI
 have HW0 := Aside0.mk hB.size
 have HB := Aside0.mk hB
 clear hB
 have H : ((spec_l1Below.f s0_0 s0_1 s0_2 (l1.length : Int)).bind fun bt288 => (if 0 ≤ bt288.1 then (if bt288.1 < (l1.length : Int) then (some (rd l1 bt288.1, bt288.2.1, bt288.2.2)) else (none)) else (none))) = some (r1, r2, r3) := h
 clear h
 replace H := S.bd H; obtain ⟨⟨t288, t289, t290⟩, A3, H⟩ := H
 (try dsimp only at H)
 by_cases c4 : 0 ≤ t288
 ·rw [if_pos c4] at H
  have c4b0 : decide (0 ≤ t288) = true := decide_eq_true c4
  clear c4
  by_cases c5 : t288 < (l1.length : Int)
  ·rw [if_pos c5] at H
   have c5b0 : decide (t288 < (l1.length : Int)) = true := decide_eq_true c5
   clear c5
   simp only [Option.some.injEq, Prod.mk.injEq] at H
   obtain ⟨rfl, rfl, rfl⟩ := H
   go_enter Try.func79, Try.ntmps79
   go_wp2_with (first | ((with_reducible refine gate_callee (f := 90) rfl ?_); refine S.gL (some 9) Try.func90 #[.pointer (some ⟨g, 0, none⟩), .int .i64 (l1.length : Int)] ?_; (with_reducible refine (spec_l1Below.calls g s0_0 s0_1 s0_2 (l1.length : Int) t288 t289 t290 w0 _ ?s1 ?s2 A3.out).mono ?_); (case s1 => exact S.iI); (case s2 => exact S.bI); rintro e w6 ⟨rfl, hi, hb, hk⟩; refine ⟨_, rfl, ?_⟩; replace HK := Aside0.mk (KeepBut.trans S.kA hk (.inl rfl)); replace HB := Aside0.mk (hb); replace HI0 := Aside0.mk (hi); (try clear hb); (try clear hk); (try clear hi); have p291 : 0 ≤ (t288 : Int) := S.oD; have q291 : t288 < (l1.length : Int) := S.oD; obtain ⟨ad291, e291, hx291_0⟩ := Kd.at_int HR1.out t288 p291 q291; cases e291; replace hx291_0 := keep_cell HK.out hx291_0 (by first | (rw [add_block]; exact hf1 _ rfl (by omega)) | exact hf1 _ rfl (by omega) | exact hf1 ad291 rfl (by omega)); replace p291 := eq_true p291; replace q291 := eq_true q291))
   go_ret
   exact ⟨S.eW, S.iI, S.bI, S.kA⟩
  ·rw [if_neg c5] at H
   exact absurd H (by simp)
 ·rw [if_neg c4] at H
  exact absurd H (by simp)

/-! ### spec_l1In: function 58 -/
def spec_l1In.f (a0 : Int) (a1 : Int) (a2 : Int) : Option (Bool) := if a0 ≥ a1 then (some (decide (a0 ≤ a2))) else (some false)
theorem spec_l1In.calls (a0 : Int) (a1 : Int) (a2 : Int) (r : Bool) (w : World) (h : spec_l1In.f a0 a1 a2 = some r) :
  Calls Try.prog 58 #[.int .i64 a0, .int .i64 a1, .int .i64 a2] w fun e w' => e = .returned (.bool r) ∧ Drawn0 w w' := by
 have H : (if a0 ≥ a1 then (some (decide (a0 ≤ a2))) else (some false)) = some r := h
 clear h
 by_cases c4 : a0 ≥ a1
 ·rw [if_pos c4] at H
  have c4b0 : decide (a1 ≤ a0) = true := decide_eq_true c4
  clear c4
  obtain rfl := Option.some.inj H
  go_enter Try.func58, Try.ntmps58
  go_wp2
  go_ret
  exact ⟨S.eA, by repeat (first | exact Drawn0.refl _ | apply Drawn0.step)⟩
 ·rw [if_neg c4] at H
  have c4b0 : decide (a1 ≤ a0) = false := decide_eq_false c4
  clear c4
  obtain rfl := Option.some.inj H
  go_enter Try.func58, Try.ntmps58
  go_wp2
  go_ret
  exact ⟨S.eA, by repeat (first | exact Drawn0.refl _ | apply Drawn0.step)⟩

/-! ### spec_l8Copy: function 85 -/
def spec_l8Copy.l0 : Nat → List (S85) → List (S85) → Int → Option ((List (S85)))
 | 0, _, _, _ => none
 | k + 1, x0, x3, x4 => if x4 < (x0.length : Int) then ((some (([] : List Int) : List Int)).bind fun y295 => (if 0 ≤ x4 then (if y295.length + ((rd_T85 x0 x4).f0).length < 17592186044416 then (if x3.length < 4398046511104 then (spec_l8Copy.l0 k x0 (x3 ++ [(⟨(y295 ++ ((rd_T85 x0 x4).f0)), (rd_T85 x0 x4).f1⟩ : S85)]) (wrap64 (x4 + 1))) else (none)) else (none)) else (none))) else (some x3)
def spec_l8Copy.f (k : Nat) (l0 : List (S85)) : Option ((List (S85))) := spec_l8Copy.l0 k l0 (([] : List (S85))) 0
def spec_l8Copy.T5 : Bool × List (List Nat × List Nat) := (true, [([], []), ([], []), ([], []), ([], []), ([2, 3], [2, 3]), ([4], [4]), ([5], [5]), ([1, 6], [1, 6]), ([], []), ([], []), ([8, 9], [8, 9]), ([10], [10]), ([11], [11]), ([7, 12], [7, 12]), ([13], [13]), ([0, 14, 7], [0, 14]), ([15, 15, 0, 1, 2, 3, 4, 5, 6, 7, 8, 9, 10, 11, 12, 13, 14, 15], [0, 15])])
def spec_l8Copy.B5 : List Nat := [0, 0, 0, 0, 12, 28, 60, 126, 0, 0, 768, 1792, 3840, 8190, 16382, 32767, 65535]
theorem spec_l8Copy.tab5 : rtab .any (opsOf Try.f85 5) = spec_l8Copy.T5 := by kernel_rfl
theorem spec_l8Copy.bits5 : waitsOk spec_l8Copy.T5.2 spec_l8Copy.B5 = true := by kernel_rfl
theorem spec_l8Copy.calls (k : Nat) (A0 : Option Addr) (c0 : Nat) (l0 : List (S85)) (r : List (S85)) (w : World) (hr0 : Kd.C k85 w A0 l0.length l0) (hc0 : l0.length ≤ c0) (h : spec_l8Copy.f k l0 = some r) :
  Calls Try.prog 85 #[.slice A0 l0.length c0] w fun e w' => ∃ v0_ : Value, e = .returned (v0_) ∧ Kd.R k85 85 w' w.heap.size (fun _ => True) v0_ r ∧ Below w.heap.size w w' := by
 have hu85 := Try.underlying85
 have HR0 := Aside0.mk hr0
 have HC0 := Aside0.mk hc0
 clear hr0 hc0
 have HB := Aside0.mk (Below.refl w.heap.size w)
 have H : (spec_l8Copy.l0 k l0 (([] : List (S85))) 0) = some r := h
 clear h
 obtain ⟨y292, hy292⟩ : ∃ y_ : List (S85), y_ = (([] : List (S85))) := ⟨_, rfl⟩
 have hY_ := hy292; replace H : (spec_l8Copy.l0 k l0 y292 0) = some r := S.rh; clear hY_
 have Ny292 := Aside0.mk hy292
 clear hy292
 have H' := Aside0.mk H
 clear H
 go_enter Try.func85, Try.ntmps85
 go_wp2_with (first | ((with_reducible refine gate_dst (N := 5) rfl ?_); refine Kd.R_lit k85 _ 85 ?hg (N := 5) ?hd (xs := ([] : List (S85))) (inner := []) (ok := fun _ => True) (okp := fun _ => True) ?hr ?hp (fun _ hk => hk) trivial (Below.refl _ _) (Nat.le_refl _) (by simp) ?_; (case hd => rfl); (case hg => rfl); (case hr => first | (go_simp; done) | (go_simp; rfl)); (case hp => exact (Reps.none _ _)); intro v293 w2 ho3 hb hg_ hnew_; clear hg_ hnew_; (first | rw [← Ny292.out] at ho3 | (simp only [Int.reduceToNat] at ho3; rw [← Ny292.out] at ho3)); have HO294 := S.lwA ho3; replace HB := S.sA hb; clear hb ho3))
 go_loopg [3, 4] k (fun kq v3 v4 w' => ∃ (x3_1 : List (S85)) (x4_1 : Int), v4 = .int .i64 x4_1 ∧ Aside0 (spec_l8Copy.l0 kq l0 x3_1 x4_1 = some r) ∧ Aside0 (kq ≤ k) ∧ Aside0 (Kd.R k85 85 w' w.heap.size (fun _ => True) v3 x3_1) ∧ Aside0 (Below w.heap.size w w'))
 case atStart => exact ⟨(y292), (0), S.eA, H', ⟨Nat.le_refl _⟩, ⟨S.uR HO294.out⟩, ⟨S.bA⟩⟩
 case round =>
  clear H'
  obtain ⟨x3_1, x4_1, rfl, HA, HK1, HO_3, HB⟩ := hrel
  cases gk with
  | zero => exact absurd HA.out (by simp [spec_l8Copy.l0])
  | succ k1 =>
   have H := HA.out
   clear HA
   simp only [spec_l8Copy.l0] at H
   replace H := S.dc H; rcases H with ⟨H, c4b0⟩ | ⟨H, c4b0⟩
   ·obtain ⟨y295, hy295⟩ : ∃ y_ : List Int, y_ = (([] : List Int)) := ⟨_, rfl⟩
    have hY_ := hy295; replace H : (if 0 ≤ x4_1 then (if y295.length + ((rd_T85 l0 x4_1).f0).length < 17592186044416 then (if x3_1.length < 4398046511104 then (spec_l8Copy.l0 k1 l0 (x3_1 ++ [(⟨(y295 ++ ((rd_T85 l0 x4_1).f0)), (rd_T85 l0 x4_1).f1⟩ : S85)]) (wrap64 (x4_1 + 1))) else (none)) else (none)) else (none)) = some r := S.rh; clear hY_
    have Ny295 := Aside0.mk hy295
    clear hy295
    by_cases c5 : 0 ≤ x4_1
    ·rw [if_pos c5] at H
     have c5b0 : decide (0 ≤ x4_1) = true := decide_eq_true c5
     clear c5
     by_cases c6 : y295.length + ((rd_T85 l0 x4_1).f0).length < 17592186044416
     ·rw [if_pos c6] at H
      have LMc6 := Aside0.mk c6
      clear c6
      obtain ⟨y299, hy299⟩ : ∃ y_ : List Int, y_ = (y295 ++ ((rd_T85 l0 x4_1).f0)) := ⟨_, rfl⟩
      have hY_ := hy299; replace H : (if x3_1.length < 4398046511104 then (spec_l8Copy.l0 k1 l0 (x3_1 ++ [(⟨y299, (rd_T85 l0 x4_1).f1⟩ : S85)]) (wrap64 (x4_1 + 1))) else (none)) = some r := S.rh; clear hY_
      have Ny299 := Aside0.mk hy299
      clear hy299
      by_cases c7 : x3_1.length < 4398046511104
      ·rw [if_pos c7] at H
       have LMc7 := Aside0.mk c7
       clear c7
       obtain ⟨y303, hy303⟩ : ∃ y_ : List (S85), y_ = (x3_1 ++ [(⟨y299, (rd_T85 l0 x4_1).f1⟩ : S85)]) := ⟨_, rfl⟩
       have hY_ := hy303; replace H : (spec_l8Copy.l0 k1 l0 y303 (wrap64 (x4_1 + 1))) = some r := S.rh; clear hY_
       have Ny303 := Aside0.mk hy303
       clear hy303
       have H' := Aside0.mk H
       clear H
       try go_wp2
       replace HO_3 := S.dr HO_3
       replace HB := Aside0.mk (below_drew1 HB.out)
       have p298 : 0 ≤ (x4_1 : Int) := S.oD
       have q298 : x4_1 < (l0.length : Int) := S.oD
       obtain ⟨ad298, A298_0, c298_0, e298, hx298_0, hx298_1, hl298_0, hi298_0⟩ := at_T85 HR0.out x4_1 p298 q298
       have hw298_1 := hx298_1
       have hw298_0 := hx298_0
       cases e298
       replace hx298_0 := S.hb HB hx298_0
       replace hx298_1 := S.hb HB hx298_1
       have HR298_0 := Aside0.mk hi298_0
       have HC298_0 := Aside0.mk hl298_0
       clear hi298_0 hl298_0
       replace p298 := eq_true p298
       replace q298 := eq_true q298
       have p302 : 0 ≤ (x4_1 : Int) := S.oD
       have q302 : x4_1 < (l0.length : Int) := S.oD
       obtain ⟨ad302, A302_0, c302_0, e302, hx302_0, hx302_1, hl302_0, hi302_0⟩ := at_T85 HR0.out x4_1 p302 q302
       have hw302_1 := hx302_1
       have hw302_0 := hx302_0
       obtain rfl : ad298 = ad302 := (by injection e302)
       replace hx302_0 := S.hb HB hx302_0
       replace hx302_1 := S.hb HB hx302_1
       have HR302_0 := Aside0.mk hi302_0
       have HC302_0 := Aside0.mk hl302_0
       clear hi302_0 hl302_0
       replace p302 := eq_true p302
       replace q302 := eq_true q302
       have ea_ := Option.some.inj (hx298_0.symm.trans hx302_0)
       injection ea_ with ea_ en_ ec_
       subst ea_
       subst ec_
       clear en_
       refine S.st (n := 17) (ds := []) #[false, false, false, false, false, false, false, false, false, false, false, false, false, false, false, false, false] (fun w_ h_ => have x_ := And.intro (S.q h_ (S.hb HB hw298_0)) (And.intro (S.q h_ (S.hb HB hw298_1)) (And.intro (S.q h_ (S.hb HB hw302_0)) (S.q h_ (S.hb HB hw302_1)))); x_) (fun hHeld => ?_); refine with_tabW spec_l8Copy.tab5 spec_l8Copy.bits5 (fun HT_ HW_ => ?_)
       generalize wr.drew = w8 at HO_3 HB HR298_0 HR302_0 hx298_0 hx298_1 hx302_0 hx302_1 hHeld ⊢
       refine S.pS 0 12 ?_
       refine S.pS 2 14 ?_
       refine S.pS 3 15 ?_
       refine S.pS 4 16 ?_
       refine S.pS 5 17 ?_
       refine S.pS 8 20 ?_
       refine S.pS 9 21 ?_
       refine S.pS 10 22 ?_
       refine S.pS 11 23 ?_
       refine S.tK 6 18 #[true, false, true, true, true, true, true, false, true, true, true, true, false, false, false, false, false] ?_
       refine S.tK 12 24 #[true, false, true, true, true, true, true, false, true, true, true, true, true, false, false, false, false] ?_
       refine S.oN 1 13 #[true, true, true, true, true, true, true, false, true, true, true, true, true, false, false, false, false] (fun K hK => ?_)
       refine Kd.R_lit_step (Kd.int .i64) _ 3 ?hg (N := 13) ?hd (xs := ([] : List Int)) (inner := []) (ok := fun _ => True) (okp := fun _ => True) ?hr ?hp (fun _ hk => hk) trivial (Below.refl _ _) (Nat.le_refl _) (by simp) ?_; (case hd => rfl); (case hg => rfl); (case hr => first | (go_simp; done) | (go_simp; rfl)); (case hp => exact (Reps.none _ _))
       intro v296 w9 ho10 hb hg_ hnew_
       clear hg_ hnew_
       (first | rw [← Ny295.out] at ho10 | (simp only [Int.reduceToNat] at ho10; rw [← Ny295.out] at ho10))
       replace HO_3 := S.re HO_3 ho10 hb
       have HO297 := S.lwA ho10
       replace HB := S.sA hb
       clear hb ho10
       refine hK.out _ _ ⟨(S.hb HB hw298_0 :), (S.hb HB hw298_1 :), (S.hb HB hw302_0 :), (S.hb HB hw302_1 :)⟩ (fun hHeld => ?_)
       clear hK K
       refine S.nm 13 ?_
       refine S.oN 7 19 #[true, true, true, true, true, true, true, true, true, true, true, true, true, false, false, false, false] (fun K hK => ?_)
       refine Kd.R_append_rows_step (Kd.int .i64) (w0 := w) w.heap.size (by rfl) (.tmp 13) (.tmp 18) 36 3 (.int .i64 0) 8 rfl Try.underlying36 info3 rfl (by decide) (by omega) v296 y295 ((rd_T85 l0 x4_1).f0) _ _ _ (fun _ => True) (fun _ => False) rfl rfl ?aO ?aR (fun _ _ h => h) (fun _ h => h.elim) ?aF ?aB ?aS ?aL ?_
       (case aR => exact S.cA HR298_0.out)
       (case aB => exact S.bA)
       (case aF => exact (fun _ _ => trivial))
       (case aO => exact (S.uR HO297.out))
       (case aS => exact (below_size S.bA))
       (case aL => have := LMc6.out; omega)
       intro v300 w11 ho hb hg hat
       rw [← Ny299.out] at ho
       have n0_ := Aside0.mk (Kd.R_after (ok := (fun _ => True)) (S.uR HO_3.out) hg hat)
       have n1_ := Aside0.mk (hb)
       have n2_ := Aside0.mk (ho)
       clear HO_3
       clear HB
       clear HO297
       have HO_3 := n0_
       have HB := n1_
       have HO301 := n2_
       clear n0_ n1_ n2_
       clear ho hb hg hat
       obtain ⟨Ao12, co12, eo12⟩ := Kd.R_slice HO301.out
       (first | subst eo12 | (injection eo12 with f1_ f2_ f3_; have f4_ := f1_.symm; have f5_ := f3_.symm; clear f1_ f2_ f3_; subst f4_; subst f5_))
       refine hK.out _ _ ⟨(S.hb HB hw298_0 :), (S.hb HB hw298_1 :), (S.hb HB hw302_0 :), (S.hb HB hw302_1 :)⟩ (fun hHeld => ?_)
       clear hK K
       refine S.nm 19 ?_
       refine S.pS 13 25 ?_
       refine S.oN 14 26 #[true, true, true, true, true, true, true, true, true, true, true, true, true, true, true, false, false] (fun K hK => ?_)
       refine value_ (w1 := ?_) (v := ?_) (by rfl) rfl ?_ ?_
       rotate_left 2
       ·go_simp
        constructor
        ·rfl
        ·rfl
       refine hK.out _ _ ⟨(World.cell?_alloc_lt _ _ _ (World.block_lt_of_cell? _ _ ((S.hb HB hw298_0 :)))).trans ((S.hb HB hw298_0 :)), (World.cell?_alloc_lt _ _ _ (World.block_lt_of_cell? _ _ ((S.hb HB hw298_1 :)))).trans ((S.hb HB hw298_1 :)), (World.cell?_alloc_lt _ _ _ (World.block_lt_of_cell? _ _ ((S.hb HB hw302_0 :)))).trans ((S.hb HB hw302_0 :)), (World.cell?_alloc_lt _ _ _ (World.block_lt_of_cell? _ _ ((S.hb HB hw302_1 :)))).trans ((S.hb HB hw302_1 :))⟩ (fun hHeld => ?_)
       clear hK K
       refine S.nm 26 ?_
       refine S.oN 15 27 #[true, true, true, true, true, true, true, true, true, true, true, true, true, true, true, true, false] (fun K hK => ?_)
       refine Kd.R_append_step k85 (w0 := w) w.heap.size (by rfl) (.tmp 12) (.tmp 26) 29 85 (.agg #[(.slice none 0 0), (.int .i64 0)]) 32 rfl Try.underlying29 info85 rfl (by decide) (by omega) u3 x3_1 (⟨y299, (rd_T85 l0 x4_1).f1⟩ : S85) [.slice Ao12 y299.length co12, .int .i64 ((rd_T85 l0 x4_1).f1)] (fun _ => True) (fun k_ => ((fun _ => True)) k_ ∧ some k_ ≠ (u3 : Value).ownBlock) rfl rfl ?aP (fun _ hk => hk) ?aF ?aO ?aB ?aS ?aL ?_
       (case aP => exact k85_mkM _ _ _ (⟨y299, (rd_T85 l0 x4_1).f1⟩ : S85) (Kd.R_mono (Kd.R_apart' (HO301.out) (Kd.R_typed HO_3.out) (by decide)) (fun k_ hk => ⟨trivial, hk.2⟩)))
       (case aB => exact S.bA)
       (case aF => exact (fun _ _ => trivial))
       (case aO => exact (by (with_reducible repeat (first | apply Kd.R_alloc | apply Kd.R_drewN | apply Kd.R_drew)); exact Kd.R_mono HO_3.out (fun _ hk => trivial)))
       (case aS => exact (below_size S.bA))
       (case aL => have := LMc7.out; omega)
       intro v304 w13 ho hb hg hat
       rw [← Ny303.out] at ho
       have n0_ := Aside0.mk (hb)
       have n1_ := Aside0.mk (ho)
       clear HB
       clear HO_3
       clear HO301
       have HB := n0_
       have HO305 := n1_
       clear n0_ n1_
       clear ho hb hg hat
       refine hK.out _ _ ⟨(S.hb HB hw298_0 :), (S.hb HB hw298_1 :), (S.hb HB hw302_0 :), (S.hb HB hw302_1 :)⟩ (fun hHeld => ?_)
       clear hK K
       refine S.nm 27 ?_
       refine S.pS 16 3 ?_
       refine done_ (done_of HT_.out (by kernel_rfl)) ?_
       try go_wp2
       go_roundg k1
       case measure => have := HK1.out; omega
       case rel => exact ⟨(y303), (wrap64 (x4_1 + 1)), S.eA, H', ⟨by have := HK1.out; omega⟩, ⟨S.uR HO305.out⟩, ⟨S.bA⟩⟩
      ·rw [if_neg c7] at H
       exact absurd H (by simp)
     ·rw [if_neg c6] at H
      exact absurd H (by simp)
    ·rw [if_neg c5] at H
     exact absurd H (by simp)
   ·obtain rfl := Option.some.inj H
    go_wp2
    go_ret
    exact ⟨_, S.eW, S.uR HO_3.out, S.bA⟩
end Go.Proofs.Ytjgigmghcfdomaa.PFnSwitched
