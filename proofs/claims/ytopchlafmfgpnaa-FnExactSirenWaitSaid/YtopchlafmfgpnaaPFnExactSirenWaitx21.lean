/- Printed by a program: what the Go functions compute, as plain Lean functions (.f), and the proofs that the machine's calls come to just that (.calls). -/
import Derived.Test.YtopchlafmfgpnaaPFnExactSirenWaitx0
import Derived.Test.YtopchlafmfgpnaaPFnExactSirenWaitx12
import Derived.Test.YtopchlafmfgpnaaPFnExactSirenWaitx17
import Derived.Test.YtopchlafmfgpnaaPFnExactSirenWaitx19
import Derived.Test.YtopchlafmfgpnaaPFnExactSirenWaitx20
namespace Go.Proofs.Ytopchlafmfgpnaa.PFnExactSirenWait
open Go.RowKit Go.Proofs.YtopchlafmfgpnaaW.PrintWords Go.Proofs.YtopchlafmfgpnaaW.PrintLast Go.Proofs.YtopchlafmfgpnaaW.PrintMore
attribute [local go_sem] max2_int min2_int max_two min_two max_three min_three max_four min_four   -- for this text's walks alone
set_option linter.unusedVariables false
set_option linter.unusedSimpArgs false

/-! ### impl_LightsOf: function 53 -/
def impl_LightsOf.l0 : Nat → List Int → List (S52) → Int → Int → List Int → Int → List Int → Int → Option (List Int)
 | 0, _, _, _, _, _, _, _, _ => none
 | k + 1, x5, x15, x16, x17, x462000, x462001, x462002, x462003 => if x17 < x16 then (if 0 ≤ x17 then (if x17 < (x15.length : Int) then ((slices_Contains_int_int.f k x462000 ((rd_T52 x15 x17).f0)).bind fun t468 => (if t468 = true then (if (x462002.length : Int) > 0 then ((slices_Contains_int_int.f k x462002 ((rd_T52 x15 x17).f0)).bind fun t469 => (if t469 = true then (if x5.length < 17592186044416 then (impl_LightsOf.l0 k (x5 ++ [1]) x15 x16 (wrap64 (x17 + 1)) x462000 x462001 x462002 x462003) else (none)) else (if x5.length < 17592186044416 then (impl_LightsOf.l0 k (x5 ++ [2]) x15 x16 (wrap64 (x17 + 1)) x462000 x462001 x462002 x462003) else (none)))) else (if x5.length < 17592186044416 then (impl_LightsOf.l0 k (x5 ++ [1]) x15 x16 (wrap64 (x17 + 1)) x462000 x462001 x462002 x462003) else (none))) else (if x5.length < 17592186044416 then (impl_LightsOf.l0 k (x5 ++ [0]) x15 x16 (wrap64 (x17 + 1)) x462000 x462001 x462002 x462003) else (none)))) else (none)) else (none)) else (some x5)
def impl_LightsOf.f (k : Nat) (l0 : List (S52)) (l1_0 : List Int) (a1_1 : Int) (l1_2 : List Int) (a1_3 : Int) : Option (List Int) := (some (([] : List Int) : List Int)).bind fun y462 => ((impl_IsControl.f k l0 l1_0 a1_1 l1_2 a1_3).bind fun t465 => (if t465 = true then (impl_LightsOf.l0 k y462 l0 (l0.length : Int) 0 l1_0 a1_1 l1_2 a1_3) else (some y462)))
set_option maxHeartbeats 8000000 in
set_option maxRecDepth 100000 in
theorem impl_LightsOf.calls (k : Nat) (A0 : Option Addr) (c0 : Nat) (l0 : List (S52)) (A1_0 : Option Addr) (c1_0 : Nat) (l1_0 : List Int) (a1_1 : Int) (A1_2 : Option Addr) (c1_2 : Nat) (l1_2 : List Int) (a1_3 : Int) (r : List Int) (w : World) (hr0 : Kd.C k52 w A0 l0.length l0) (hc0 : l0.length ≤ c0) (hr1_0 : Kd.C (Kd.int .i64) w A1_0 l1_0.length l1_0) (hc1_0 : l1_0.length ≤ c1_0) (hr1_2 : Kd.C (Kd.int .i64) w A1_2 l1_2.length l1_2) (hc1_2 : l1_2.length ≤ c1_2) (h : impl_LightsOf.f k l0 l1_0 a1_1 l1_2 a1_3 = some r) :
  Calls Try.prog 53 #[.slice A0 l0.length c0, .agg #[.slice A1_0 l1_0.length c1_0, .int .i64 a1_1, .slice A1_2 l1_2.length c1_2, .int .i64 a1_3]] w fun e w' => ∃ v0_ : Value, e = .returned (v0_) ∧ Kd.R (Kd.int .i64) 3 w' w.heap.size (fun _ => True) v0_ r ∧ Below w.heap.size w w' := by
 have hu60 := Try.underlying60
 have hu52 := Try.underlying52
 have HR0 := Aside0.mk hr0
 have HC0 := Aside0.mk hc0
 clear hr0 hc0
 have HR1_0 := Aside0.mk hr1_0
 have HC1_0 := Aside0.mk hc1_0
 clear hr1_0 hc1_0
 have HR1_2 := Aside0.mk hr1_2
 have HC1_2 := Aside0.mk hc1_2
 clear hr1_2 hc1_2
 have HB := Aside0.mk (Below.refl w.heap.size w)
 have H : ((some (([] : List Int) : List Int)).bind fun y462 => ((impl_IsControl.f k l0 l1_0 a1_1 l1_2 a1_3).bind fun t465 => (if t465 = true then (impl_LightsOf.l0 k y462 l0 (l0.length : Int) 0 l1_0 a1_1 l1_2 a1_3) else (some y462)))) = some r := h
 clear h
 obtain ⟨y462, hy462⟩ : ∃ y_ : List Int, y_ = (([] : List Int)) := ⟨_, rfl⟩
 replace H : ((impl_IsControl.f k l0 l1_0 a1_1 l1_2 a1_3).bind fun t465 => (if t465 = true then (impl_LightsOf.l0 k y462 l0 (l0.length : Int) 0 l1_0 a1_1 l1_2 a1_3) else (some y462))) = some r := by first | (rw [hy462]; with_reducible exact H) | (have H2_ := (Option.bind_some _ _).symm.trans H; rw [hy462]; with_reducible exact H2_) | (have H2_ := (Option.bind_some _ _).symm.trans H; with_reducible exact H2_) | with_reducible exact H | (rw [hy462]; exact H) | exact H
 have Ny462 := Aside0.mk hy462
 clear hy462
 replace H := S.bd H; obtain ⟨t465, A3, H⟩ := H
 (try dsimp only at H)
 replace H := S.db H; rcases H with ⟨rfl, H⟩ | ⟨rfl, H⟩
 ·have H' := Aside0.mk H
  clear H
  go_enter Try.func53, Try.ntmps53
  go_wp2_with (first | ((with_reducible refine gate_dst (N := 3) rfl ?_); refine S.bx 3 (cs := #[.slice A1_0 l1_0.length c1_0, .int .i64 a1_1, .slice A1_2 l1_2.length c1_2, .int .i64 a1_3]) (t := 60) ?_; intro gb461 hg w5 hbox hb; have BK461 := Aside0.mk hbox; have GW461 := S.geA hg; have GE461 := S.geA hg; replace HB := S.sA hb; clear hb hbox hg) | ((with_reducible refine gate_dst (N := 9) rfl ?_); refine Kd.R_lit (Kd.int .i64) _ 3 ?hg (N := 9) ?hd (xs := ([] : List Int)) (inner := []) (ok := fun _ => True) (okp := fun _ => True) ?hr ?hp (fun _ hk => hk) trivial (Below.refl _ _) (Nat.le_refl _) (by simp) ?_; (case hd => rfl); (case hg => rfl); (case hr => first | (go_simp; done) | (go_simp; rfl)); (case hp => exact (Reps.none _ _)); intro v463 w6 ho7 hb hg_ hnew_; clear hg_ hnew_; (first | rw [← Ny462.out] at ho7 | (simp only [Int.reduceToNat] at ho7; rw [← Ny462.out] at ho7)); have HO464 := S.lwG ho7; replace BK461 := S.kb BK461 hb; replace HB := S.sG hb; clear hb ho7; obtain ⟨Z8a, Z8b, Z8c, Z8d, Y8a, Y8b, Y8c, Y8d⟩ := S.c4 BK461.out) | ((with_reducible refine gate_callee (f := 54) rfl ?_); refine S.gL (some 12) Try.func54 #[.slice A0 l0.length c0, .agg #[.slice A1_0 l1_0.length c1_0, .int .i64 a1_1, .slice A1_2 l1_2.length c1_2, .int .i64 a1_3]] ?_; (with_reducible refine (impl_IsControl.calls k _ _ l0 _ _ l1_0 a1_1 _ _ l1_2 a1_3 true _ ?s1 HC0.out ?s3 HC1_0.out ?s5 HC1_2.out A3.out).mono ?_); (case s1 => exact S.cA HR0.out); (case s3 => exact S.cA HR1_0.out); (case s5 => exact S.cA HR1_2.out); rintro e w9 ⟨rfl, hb⟩; refine ⟨_, rfl, ?_⟩; replace HO464 := S.rb HO464 hb; replace BK461 := S.kb BK461 hb; replace HB := S.sG hb; (try clear hb)))
  go_loopg [5, 17] k (fun kq v5 v17 w' => ∃ (x5_1 : List Int) (x17_1 : Int), v17 = .int .i64 x17_1 ∧ Aside0 (impl_LightsOf.l0 kq x5_1 l0 (l0.length : Int) x17_1 l1_0 a1_1 l1_2 a1_3 = some r) ∧ Aside0 (kq ≤ k) ∧ Aside0 (Kd.R (Kd.int .i64) 3 w' w.heap.size (fun _ => True) v5 x5_1) ∧ Aside0 (w'.heap[gb461]? = some (.cells #[(.slice A1_0 l1_0.length c1_0), .int .i64 a1_1, (.slice A1_2 l1_2.length c1_2), .int .i64 a1_3] 60 (0, 0))) ∧ Aside0 (Below w.heap.size w w'))
  case atStart => exact ⟨(y462), (0), S.eA, H', ⟨Nat.le_refl _⟩, ⟨S.uR HO464.out⟩, ⟨S.uB BK461.out⟩, ⟨S.bG⟩⟩
  case round =>
   clear H'
   try clear c4
   try clear Z8a
   try clear Z8b
   try clear Z8c
   try clear Z8d
   try clear Y8a
   try clear Y8b
   try clear Y8c
   try clear Y8d
   obtain ⟨x5_1, x17_1, rfl, HA, HK1, HO_5, BK461, HB⟩ := hrel
   cases gk with
   | zero => exact absurd HA.out (by simp [impl_LightsOf.l0])
   | succ k1 =>
    have H := HA.out
    clear HA
    simp only [impl_LightsOf.l0] at H
    replace H := S.dc H; rcases H with ⟨H, c10b0⟩ | ⟨H, c10b0⟩
    ·by_cases c11 : 0 ≤ x17_1
     ·rw [if_pos c11] at H
      have c11b0 : decide (0 ≤ x17_1) = true := decide_eq_true c11
      clear c11
      by_cases c12 : x17_1 < (l0.length : Int)
      ·rw [if_pos c12] at H
       have c12b0 : decide (x17_1 < (l0.length : Int)) = true := decide_eq_true c12
       clear c12
       replace H := S.bd H; obtain ⟨t468, A13, H⟩ := H
       (try dsimp only at H)
       replace H := S.db H; rcases H with ⟨rfl, H⟩ | ⟨rfl, H⟩
       ·by_cases c15 : (l1_2.length : Int) > 0
        ·rw [if_pos c15] at H
         have c15b0 : decide (0 < (l1_2.length : Int)) = true := decide_eq_true c15
         have c15b1 : decide (0 < l1_2.length) = true := decide_eq_true (by omega)
         clear c15
         replace H := S.bd H; obtain ⟨t469, A16, H⟩ := H
         (try dsimp only at H)
         replace H := S.db H; rcases H with ⟨rfl, H⟩ | ⟨rfl, H⟩
         ·by_cases c18 : x5_1.length < 17592186044416
          ·rw [if_pos c18] at H
           have LMc18 := Aside0.mk c18
           clear c18
           obtain ⟨y470, hy470⟩ : ∃ y_ : List Int, y_ = (x5_1 ++ [1]) := ⟨_, rfl⟩
           replace H : (impl_LightsOf.l0 k1 y470 l0 (l0.length : Int) (wrap64 (x17_1 + 1)) l1_0 a1_1 l1_2 a1_3) = some r := by first | (rw [hy470]; with_reducible exact H) | (have H2_ := (Option.bind_some _ _).symm.trans H; rw [hy470]; with_reducible exact H2_) | (have H2_ := (Option.bind_some _ _).symm.trans H; with_reducible exact H2_) | with_reducible exact H | (rw [hy470]; exact H) | exact H
           have Ny470 := Aside0.mk hy470
           clear hy470
           have H' := Aside0.mk H
           clear H
           have p466 : 0 ≤ (x17_1 : Int) := S.oD
           have q466 : x17_1 < (l0.length : Int) := S.oD
           obtain ⟨ad466, e466, hx466_0, hx466_1, hx466_2, hx466_3⟩ := at_T52 HR0.out x17_1 p466 q466
           cases e466
           replace hx466_0 := S.hb HB hx466_0
           replace hx466_1 := S.hb HB hx466_1
           replace hx466_2 := S.hb HB hx466_2
           replace hx466_3 := S.hb HB hx466_3
           replace p466 := eq_true p466
           replace q466 := eq_true q466
           go_wp2_with (first | ((with_reducible refine gate_dst (N := 7) rfl ?_); refine S.bx 7 (cs := #[.int .i64 0, .int .i64 0, .int .i64 0, .int .i64 0]) (t := 52) ?_; intro gb467 hg w19 hbox hb; replace HO_5 := S.rb HO_5 hb; have BK467 := Aside0.mk hbox; have GW467 := S.geG hg; have GE467 := S.geG hg; replace HB := S.sG hb; have NB461_467 := S.nl hg BK461; have NB467_461 := S.ng hg BK461; replace BK461 := S.kb BK461 hb; clear hb hbox hg; have hnb20 := NB467_461.out; have hnc20 := NB461_467.out; obtain ⟨Z21a, Z21b, Z21c, Z21d, Y21a, Y21b, Y21c, Y21d⟩ := S.c4 BK467.out; obtain ⟨Z22a, Z22b, Z22c, Z22d, Y22a, Y22b, Y22c, Y22d⟩ := S.c4 BK461.out) | ((with_reducible refine gate_callee (f := 82) rfl ?_); refine S.gL (some 25) Try.func82 #[.slice A1_0 l1_0.length c1_0, .int .i64 ((rd_T52 l0 x17_1).f0)] ?_; (with_reducible refine (slices_Contains_int_int.calls k1 _ _ l1_0 ((rd_T52 l0 x17_1).f0) true _ ?s1 HC1_0.out A13.out).mono ?_); (case s1 => exact Kd.C_below HR1_0.out S.bG); rintro e w' ⟨rfl, ⟨nd, rfl⟩⟩; refine ⟨_, rfl, ?_⟩) | (go_at_call 82; (with_reducible refine (slices_Contains_int_int.calls k1 _ _ l1_2 ((rd_T52 l0 x17_1).f0) true _ ?s1 HC1_2.out A16.out).mono ?_); (case s1 => exact Kd.C_below HR1_2.out S.bG); rintro e w' ⟨rfl, ⟨nd, rfl⟩⟩) | ((with_reducible refine gate_builtin (b := .append) (xs := #[.tmp 38, .tmp 40]) rfl ?_); at_builtin; refine Kd.R_append (Kd.int .i64) (w0 := w) w.heap.size rfl (.tmp 38) (.tmp 40) 24 3 (.int .i64 0) 8 rfl Try.underlying24 info3 rfl (by decide) (by omega) u5 x5_1 1 [.int .i64 1] (fun _ => True) (fun _ => False) rfl (by first | (go_simp; done) | (go_simp; rfl)) ?aP (fun _ hk => hk.elim) ?aF ?aO ?aB ?aS ?aL ?_; (case aP => exact rfl); (case aB => exact S.bG); (case aF => exact (fun _ _ => trivial)); (case aO => exact (by (with_reducible repeat (first | apply Kd.R_alloc | apply Kd.R_drewN | apply Kd.R_drew)); exact Kd.R_mono (Kd.R_far (p := ⟨gb467, 3, none⟩) (Kd.R_far (p := ⟨gb467, 2, none⟩) (Kd.R_far (p := ⟨gb467, 1, none⟩) (Kd.R_far (p := ⟨gb467, 0, none⟩) (Kd.R_types HO_5.out BK467.out (by decide)) (fun _ hk => hk.2) (.int .i64 ((rd_T52 l0 x17_1).f0))) (fun _ hk => hk.2) (.int .i64 ((rd_T52 l0 x17_1).f1))) (fun _ hk => hk.2) (.int .i64 ((rd_T52 l0 x17_1).f2))) (fun _ hk => hk.2) (.int .i64 ((rd_T52 l0 x17_1).f3))) (fun _ hk => trivial))); (case aS => exact (below_size S.bG)); (case aL => have := LMc18.out; omega); intro v471 w23 ho hb hg hat; rw [← Ny470.out] at ho; have n0_ := Aside0.mk (blk_grown (g := gb461) (o := .cells #[.slice A1_0 l1_0.length c1_0, .int .i64 a1_1, .slice A1_2 l1_2.length c1_2, .int .i64 a1_3] 60 (0, 0)) (by (with_reducible repeat (first | refine blk_drewN ?_ _ | refine blk_drew ?_ | refine blk_alloc ?_ _)); refine blk_far ?_ NB461_467.out _; (with_reducible repeat (first | refine blk_drewN ?_ _ | refine blk_drew ?_ | refine blk_alloc ?_ _)); refine blk_far ?_ NB461_467.out _; (with_reducible repeat (first | refine blk_drewN ?_ _ | refine blk_drew ?_ | refine blk_alloc ?_ _)); refine blk_far ?_ NB461_467.out _; (with_reducible repeat (first | refine blk_drewN ?_ _ | refine blk_drew ?_ | refine blk_alloc ?_ _)); refine blk_far ?_ NB461_467.out _; (with_reducible repeat (first | refine blk_drewN ?_ _ | refine blk_drew ?_ | refine blk_alloc ?_ _)); exact BK461.out) hg (Kd.R_ne HO_5.out BK461.out (by decide))); have n1_ := Aside0.mk (blk_grown (g := gb467) (o := .cells #[.int .i64 ((rd_T52 l0 x17_1).f0), .int .i64 ((rd_T52 l0 x17_1).f1), .int .i64 ((rd_T52 l0 x17_1).f2), .int .i64 ((rd_T52 l0 x17_1).f3)] 52 (0, 0)) (by (with_reducible repeat (first | refine blk_drewN ?_ _ | refine blk_drew ?_ | refine blk_alloc ?_ _)); refine blk_put (cs := #[.int .i64 ((rd_T52 l0 x17_1).f0), .int .i64 ((rd_T52 l0 x17_1).f1), .int .i64 ((rd_T52 l0 x17_1).f2), .int .i64 0]) ?_ 3 _ rfl; (with_reducible repeat (first | refine blk_drewN ?_ _ | refine blk_drew ?_ | refine blk_alloc ?_ _)); refine blk_put (cs := #[.int .i64 ((rd_T52 l0 x17_1).f0), .int .i64 ((rd_T52 l0 x17_1).f1), .int .i64 0, .int .i64 0]) ?_ 2 _ rfl; (with_reducible repeat (first | refine blk_drewN ?_ _ | refine blk_drew ?_ | refine blk_alloc ?_ _)); refine blk_put (cs := #[.int .i64 ((rd_T52 l0 x17_1).f0), .int .i64 0, .int .i64 0, .int .i64 0]) ?_ 1 _ rfl; (with_reducible repeat (first | refine blk_drewN ?_ _ | refine blk_drew ?_ | refine blk_alloc ?_ _)); refine blk_put (cs := #[.int .i64 0, .int .i64 0, .int .i64 0, .int .i64 0]) ?_ 0 _ rfl; (with_reducible repeat (first | refine blk_drewN ?_ _ | refine blk_drew ?_ | refine blk_alloc ?_ _)); exact BK467.out) hg (Kd.R_ne HO_5.out BK467.out (by decide))); have n2_ := Aside0.mk (hb); have n3_ := Aside0.mk (ho); clear BK461; clear BK467; clear HB; clear HO_5; have BK461 := n0_; have BK467 := n1_; have HB := n2_; have HO472 := n3_; clear n0_ n1_ n2_ n3_; clear ho hb hg hat))
           go_roundg k1
           case measure => have := HK1.out; omega
           case rel => exact ⟨(y470), (wrap64 (x17_1 + 1)), S.eA, H', ⟨by have := HK1.out; omega⟩, ⟨S.uR HO472.out⟩, ⟨S.uB BK461.out⟩, ⟨S.bG⟩⟩
          ·rw [if_neg c18] at H
           exact absurd H (by simp)
         ·by_cases c24 : x5_1.length < 17592186044416
          ·rw [if_pos c24] at H
           have LMc24 := Aside0.mk c24
           clear c24
           obtain ⟨y473, hy473⟩ : ∃ y_ : List Int, y_ = (x5_1 ++ [2]) := ⟨_, rfl⟩
           replace H : (impl_LightsOf.l0 k1 y473 l0 (l0.length : Int) (wrap64 (x17_1 + 1)) l1_0 a1_1 l1_2 a1_3) = some r := by first | (rw [hy473]; with_reducible exact H) | (have H2_ := (Option.bind_some _ _).symm.trans H; rw [hy473]; with_reducible exact H2_) | (have H2_ := (Option.bind_some _ _).symm.trans H; with_reducible exact H2_) | with_reducible exact H | (rw [hy473]; exact H) | exact H
           have Ny473 := Aside0.mk hy473
           clear hy473
           have H' := Aside0.mk H
           clear H
           have p466 : 0 ≤ (x17_1 : Int) := S.oD
           have q466 : x17_1 < (l0.length : Int) := S.oD
           obtain ⟨ad466, e466, hx466_0, hx466_1, hx466_2, hx466_3⟩ := at_T52 HR0.out x17_1 p466 q466
           cases e466
           replace hx466_0 := S.hb HB hx466_0
           replace hx466_1 := S.hb HB hx466_1
           replace hx466_2 := S.hb HB hx466_2
           replace hx466_3 := S.hb HB hx466_3
           replace p466 := eq_true p466
           replace q466 := eq_true q466
           go_wp2_with (first | ((with_reducible refine gate_dst (N := 7) rfl ?_); refine S.bx 7 (cs := #[.int .i64 0, .int .i64 0, .int .i64 0, .int .i64 0]) (t := 52) ?_; intro gb467 hg w25 hbox hb; replace HO_5 := S.rb HO_5 hb; have BK467 := Aside0.mk hbox; have GW467 := S.geG hg; have GE467 := S.geG hg; replace HB := S.sG hb; have NB461_467 := S.nl hg BK461; have NB467_461 := S.ng hg BK461; replace BK461 := S.kb BK461 hb; clear hb hbox hg; have hnb26 := NB467_461.out; have hnc26 := NB461_467.out; obtain ⟨Z27a, Z27b, Z27c, Z27d, Y27a, Y27b, Y27c, Y27d⟩ := S.c4 BK467.out; obtain ⟨Z28a, Z28b, Z28c, Z28d, Y28a, Y28b, Y28c, Y28d⟩ := S.c4 BK461.out) | ((with_reducible refine gate_callee (f := 82) rfl ?_); refine S.gL (some 25) Try.func82 #[.slice A1_0 l1_0.length c1_0, .int .i64 ((rd_T52 l0 x17_1).f0)] ?_; (with_reducible refine (slices_Contains_int_int.calls k1 _ _ l1_0 ((rd_T52 l0 x17_1).f0) true _ ?s1 HC1_0.out A13.out).mono ?_); (case s1 => exact Kd.C_below HR1_0.out S.bG); rintro e w' ⟨rfl, ⟨nd, rfl⟩⟩; refine ⟨_, rfl, ?_⟩) | (go_at_call 82; (with_reducible refine (slices_Contains_int_int.calls k1 _ _ l1_2 ((rd_T52 l0 x17_1).f0) false _ ?s1 HC1_2.out A16.out).mono ?_); (case s1 => exact Kd.C_below HR1_2.out S.bG); rintro e w' ⟨rfl, ⟨nd, rfl⟩⟩) | ((with_reducible refine gate_builtin (b := .append) (xs := #[.tmp 38, .tmp 40]) rfl ?_); at_builtin; refine Kd.R_append (Kd.int .i64) (w0 := w) w.heap.size rfl (.tmp 38) (.tmp 40) 24 3 (.int .i64 0) 8 rfl Try.underlying24 info3 rfl (by decide) (by omega) u5 x5_1 2 [.int .i64 2] (fun _ => True) (fun _ => False) rfl (by first | (go_simp; done) | (go_simp; rfl)) ?aP (fun _ hk => hk.elim) ?aF ?aO ?aB ?aS ?aL ?_; (case aP => exact rfl); (case aB => exact S.bG); (case aF => exact (fun _ _ => trivial)); (case aO => exact (by (with_reducible repeat (first | apply Kd.R_alloc | apply Kd.R_drewN | apply Kd.R_drew)); exact Kd.R_mono (Kd.R_far (p := ⟨gb467, 3, none⟩) (Kd.R_far (p := ⟨gb467, 2, none⟩) (Kd.R_far (p := ⟨gb467, 1, none⟩) (Kd.R_far (p := ⟨gb467, 0, none⟩) (Kd.R_types HO_5.out BK467.out (by decide)) (fun _ hk => hk.2) (.int .i64 ((rd_T52 l0 x17_1).f0))) (fun _ hk => hk.2) (.int .i64 ((rd_T52 l0 x17_1).f1))) (fun _ hk => hk.2) (.int .i64 ((rd_T52 l0 x17_1).f2))) (fun _ hk => hk.2) (.int .i64 ((rd_T52 l0 x17_1).f3))) (fun _ hk => trivial))); (case aS => exact (below_size S.bG)); (case aL => have := LMc24.out; omega); intro v474 w29 ho hb hg hat; rw [← Ny473.out] at ho; have n0_ := Aside0.mk (blk_grown (g := gb461) (o := .cells #[.slice A1_0 l1_0.length c1_0, .int .i64 a1_1, .slice A1_2 l1_2.length c1_2, .int .i64 a1_3] 60 (0, 0)) (by (with_reducible repeat (first | refine blk_drewN ?_ _ | refine blk_drew ?_ | refine blk_alloc ?_ _)); refine blk_far ?_ NB461_467.out _; (with_reducible repeat (first | refine blk_drewN ?_ _ | refine blk_drew ?_ | refine blk_alloc ?_ _)); refine blk_far ?_ NB461_467.out _; (with_reducible repeat (first | refine blk_drewN ?_ _ | refine blk_drew ?_ | refine blk_alloc ?_ _)); refine blk_far ?_ NB461_467.out _; (with_reducible repeat (first | refine blk_drewN ?_ _ | refine blk_drew ?_ | refine blk_alloc ?_ _)); refine blk_far ?_ NB461_467.out _; (with_reducible repeat (first | refine blk_drewN ?_ _ | refine blk_drew ?_ | refine blk_alloc ?_ _)); exact BK461.out) hg (Kd.R_ne HO_5.out BK461.out (by decide))); have n1_ := Aside0.mk (blk_grown (g := gb467) (o := .cells #[.int .i64 ((rd_T52 l0 x17_1).f0), .int .i64 ((rd_T52 l0 x17_1).f1), .int .i64 ((rd_T52 l0 x17_1).f2), .int .i64 ((rd_T52 l0 x17_1).f3)] 52 (0, 0)) (by (with_reducible repeat (first | refine blk_drewN ?_ _ | refine blk_drew ?_ | refine blk_alloc ?_ _)); refine blk_put (cs := #[.int .i64 ((rd_T52 l0 x17_1).f0), .int .i64 ((rd_T52 l0 x17_1).f1), .int .i64 ((rd_T52 l0 x17_1).f2), .int .i64 0]) ?_ 3 _ rfl; (with_reducible repeat (first | refine blk_drewN ?_ _ | refine blk_drew ?_ | refine blk_alloc ?_ _)); refine blk_put (cs := #[.int .i64 ((rd_T52 l0 x17_1).f0), .int .i64 ((rd_T52 l0 x17_1).f1), .int .i64 0, .int .i64 0]) ?_ 2 _ rfl; (with_reducible repeat (first | refine blk_drewN ?_ _ | refine blk_drew ?_ | refine blk_alloc ?_ _)); refine blk_put (cs := #[.int .i64 ((rd_T52 l0 x17_1).f0), .int .i64 0, .int .i64 0, .int .i64 0]) ?_ 1 _ rfl; (with_reducible repeat (first | refine blk_drewN ?_ _ | refine blk_drew ?_ | refine blk_alloc ?_ _)); refine blk_put (cs := #[.int .i64 0, .int .i64 0, .int .i64 0, .int .i64 0]) ?_ 0 _ rfl; (with_reducible repeat (first | refine blk_drewN ?_ _ | refine blk_drew ?_ | refine blk_alloc ?_ _)); exact BK467.out) hg (Kd.R_ne HO_5.out BK467.out (by decide))); have n2_ := Aside0.mk (hb); have n3_ := Aside0.mk (ho); clear BK461; clear BK467; clear HB; clear HO_5; have BK461 := n0_; have BK467 := n1_; have HB := n2_; have HO475 := n3_; clear n0_ n1_ n2_ n3_; clear ho hb hg hat))
           go_roundg k1
           case measure => have := HK1.out; omega
           case rel => exact ⟨(y473), (wrap64 (x17_1 + 1)), S.eA, H', ⟨by have := HK1.out; omega⟩, ⟨S.uR HO475.out⟩, ⟨S.uB BK461.out⟩, ⟨S.bG⟩⟩
          ·rw [if_neg c24] at H
           exact absurd H (by simp)
        ·rw [if_neg c15] at H
         have c15b0 : decide (0 < (l1_2.length : Int)) = false := decide_eq_false c15
         have c15b1 : decide (0 < l1_2.length) = false := decide_eq_false (by omega)
         clear c15
         by_cases c30 : x5_1.length < 17592186044416
         ·rw [if_pos c30] at H
          have LMc30 := Aside0.mk c30
          clear c30
          obtain ⟨y476, hy476⟩ : ∃ y_ : List Int, y_ = (x5_1 ++ [1]) := ⟨_, rfl⟩
          replace H : (impl_LightsOf.l0 k1 y476 l0 (l0.length : Int) (wrap64 (x17_1 + 1)) l1_0 a1_1 l1_2 a1_3) = some r := by first | (rw [hy476]; with_reducible exact H) | (have H2_ := (Option.bind_some _ _).symm.trans H; rw [hy476]; with_reducible exact H2_) | (have H2_ := (Option.bind_some _ _).symm.trans H; with_reducible exact H2_) | with_reducible exact H | (rw [hy476]; exact H) | exact H
          have Ny476 := Aside0.mk hy476
          clear hy476
          have H' := Aside0.mk H
          clear H
          have p466 : 0 ≤ (x17_1 : Int) := S.oD
          have q466 : x17_1 < (l0.length : Int) := S.oD
          obtain ⟨ad466, e466, hx466_0, hx466_1, hx466_2, hx466_3⟩ := at_T52 HR0.out x17_1 p466 q466
          cases e466
          replace hx466_0 := S.hb HB hx466_0
          replace hx466_1 := S.hb HB hx466_1
          replace hx466_2 := S.hb HB hx466_2
          replace hx466_3 := S.hb HB hx466_3
          replace p466 := eq_true p466
          replace q466 := eq_true q466
          go_wp2_with (first | ((with_reducible refine gate_dst (N := 7) rfl ?_); refine S.bx 7 (cs := #[.int .i64 0, .int .i64 0, .int .i64 0, .int .i64 0]) (t := 52) ?_; intro gb467 hg w31 hbox hb; replace HO_5 := S.rb HO_5 hb; have BK467 := Aside0.mk hbox; have GW467 := S.geG hg; have GE467 := S.geG hg; replace HB := S.sG hb; have NB461_467 := S.nl hg BK461; have NB467_461 := S.ng hg BK461; replace BK461 := S.kb BK461 hb; clear hb hbox hg; have hnb32 := NB467_461.out; have hnc32 := NB461_467.out; obtain ⟨Z33a, Z33b, Z33c, Z33d, Y33a, Y33b, Y33c, Y33d⟩ := S.c4 BK467.out; obtain ⟨Z34a, Z34b, Z34c, Z34d, Y34a, Y34b, Y34c, Y34d⟩ := S.c4 BK461.out) | ((with_reducible refine gate_callee (f := 82) rfl ?_); refine S.gL (some 25) Try.func82 #[.slice A1_0 l1_0.length c1_0, .int .i64 ((rd_T52 l0 x17_1).f0)] ?_; (with_reducible refine (slices_Contains_int_int.calls k1 _ _ l1_0 ((rd_T52 l0 x17_1).f0) true _ ?s1 HC1_0.out A13.out).mono ?_); (case s1 => exact Kd.C_below HR1_0.out S.bG); rintro e w' ⟨rfl, ⟨nd, rfl⟩⟩; refine ⟨_, rfl, ?_⟩) | ((with_reducible refine gate_builtin (b := .append) (xs := #[.tmp 38, .tmp 40]) rfl ?_); at_builtin; refine Kd.R_append (Kd.int .i64) (w0 := w) w.heap.size rfl (.tmp 38) (.tmp 40) 24 3 (.int .i64 0) 8 rfl Try.underlying24 info3 rfl (by decide) (by omega) u5 x5_1 1 [.int .i64 1] (fun _ => True) (fun _ => False) rfl (by first | (go_simp; done) | (go_simp; rfl)) ?aP (fun _ hk => hk.elim) ?aF ?aO ?aB ?aS ?aL ?_; (case aP => exact rfl); (case aB => exact S.bG); (case aF => exact (fun _ _ => trivial)); (case aO => exact (by (with_reducible repeat (first | apply Kd.R_alloc | apply Kd.R_drewN | apply Kd.R_drew)); exact Kd.R_mono (Kd.R_far (p := ⟨gb467, 3, none⟩) (Kd.R_far (p := ⟨gb467, 2, none⟩) (Kd.R_far (p := ⟨gb467, 1, none⟩) (Kd.R_far (p := ⟨gb467, 0, none⟩) (Kd.R_types HO_5.out BK467.out (by decide)) (fun _ hk => hk.2) (.int .i64 ((rd_T52 l0 x17_1).f0))) (fun _ hk => hk.2) (.int .i64 ((rd_T52 l0 x17_1).f1))) (fun _ hk => hk.2) (.int .i64 ((rd_T52 l0 x17_1).f2))) (fun _ hk => hk.2) (.int .i64 ((rd_T52 l0 x17_1).f3))) (fun _ hk => trivial))); (case aS => exact (below_size S.bG)); (case aL => have := LMc30.out; omega); intro v477 w35 ho hb hg hat; rw [← Ny476.out] at ho; have n0_ := Aside0.mk (blk_grown (g := gb461) (o := .cells #[.slice A1_0 l1_0.length c1_0, .int .i64 a1_1, .slice A1_2 l1_2.length c1_2, .int .i64 a1_3] 60 (0, 0)) (by (with_reducible repeat (first | refine blk_drewN ?_ _ | refine blk_drew ?_ | refine blk_alloc ?_ _)); refine blk_far ?_ NB461_467.out _; (with_reducible repeat (first | refine blk_drewN ?_ _ | refine blk_drew ?_ | refine blk_alloc ?_ _)); refine blk_far ?_ NB461_467.out _; (with_reducible repeat (first | refine blk_drewN ?_ _ | refine blk_drew ?_ | refine blk_alloc ?_ _)); refine blk_far ?_ NB461_467.out _; (with_reducible repeat (first | refine blk_drewN ?_ _ | refine blk_drew ?_ | refine blk_alloc ?_ _)); refine blk_far ?_ NB461_467.out _; (with_reducible repeat (first | refine blk_drewN ?_ _ | refine blk_drew ?_ | refine blk_alloc ?_ _)); exact BK461.out) hg (Kd.R_ne HO_5.out BK461.out (by decide))); have n1_ := Aside0.mk (blk_grown (g := gb467) (o := .cells #[.int .i64 ((rd_T52 l0 x17_1).f0), .int .i64 ((rd_T52 l0 x17_1).f1), .int .i64 ((rd_T52 l0 x17_1).f2), .int .i64 ((rd_T52 l0 x17_1).f3)] 52 (0, 0)) (by (with_reducible repeat (first | refine blk_drewN ?_ _ | refine blk_drew ?_ | refine blk_alloc ?_ _)); refine blk_put (cs := #[.int .i64 ((rd_T52 l0 x17_1).f0), .int .i64 ((rd_T52 l0 x17_1).f1), .int .i64 ((rd_T52 l0 x17_1).f2), .int .i64 0]) ?_ 3 _ rfl; (with_reducible repeat (first | refine blk_drewN ?_ _ | refine blk_drew ?_ | refine blk_alloc ?_ _)); refine blk_put (cs := #[.int .i64 ((rd_T52 l0 x17_1).f0), .int .i64 ((rd_T52 l0 x17_1).f1), .int .i64 0, .int .i64 0]) ?_ 2 _ rfl; (with_reducible repeat (first | refine blk_drewN ?_ _ | refine blk_drew ?_ | refine blk_alloc ?_ _)); refine blk_put (cs := #[.int .i64 ((rd_T52 l0 x17_1).f0), .int .i64 0, .int .i64 0, .int .i64 0]) ?_ 1 _ rfl; (with_reducible repeat (first | refine blk_drewN ?_ _ | refine blk_drew ?_ | refine blk_alloc ?_ _)); refine blk_put (cs := #[.int .i64 0, .int .i64 0, .int .i64 0, .int .i64 0]) ?_ 0 _ rfl; (with_reducible repeat (first | refine blk_drewN ?_ _ | refine blk_drew ?_ | refine blk_alloc ?_ _)); exact BK467.out) hg (Kd.R_ne HO_5.out BK467.out (by decide))); have n2_ := Aside0.mk (hb); have n3_ := Aside0.mk (ho); clear BK461; clear BK467; clear HB; clear HO_5; have BK461 := n0_; have BK467 := n1_; have HB := n2_; have HO478 := n3_; clear n0_ n1_ n2_ n3_; clear ho hb hg hat))
          go_roundg k1
          case measure => have := HK1.out; omega
          case rel => exact ⟨(y476), (wrap64 (x17_1 + 1)), S.eA, H', ⟨by have := HK1.out; omega⟩, ⟨S.uR HO478.out⟩, ⟨S.uB BK461.out⟩, ⟨S.bG⟩⟩
         ·rw [if_neg c30] at H
          exact absurd H (by simp)
       ·by_cases c36 : x5_1.length < 17592186044416
        ·rw [if_pos c36] at H
         have LMc36 := Aside0.mk c36
         clear c36
         obtain ⟨y479, hy479⟩ : ∃ y_ : List Int, y_ = (x5_1 ++ [0]) := ⟨_, rfl⟩
         replace H : (impl_LightsOf.l0 k1 y479 l0 (l0.length : Int) (wrap64 (x17_1 + 1)) l1_0 a1_1 l1_2 a1_3) = some r := by first | (rw [hy479]; with_reducible exact H) | (have H2_ := (Option.bind_some _ _).symm.trans H; rw [hy479]; with_reducible exact H2_) | (have H2_ := (Option.bind_some _ _).symm.trans H; with_reducible exact H2_) | with_reducible exact H | (rw [hy479]; exact H) | exact H
         have Ny479 := Aside0.mk hy479
         clear hy479
         have H' := Aside0.mk H
         clear H
         have p466 : 0 ≤ (x17_1 : Int) := S.oD
         have q466 : x17_1 < (l0.length : Int) := S.oD
         obtain ⟨ad466, e466, hx466_0, hx466_1, hx466_2, hx466_3⟩ := at_T52 HR0.out x17_1 p466 q466
         cases e466
         replace hx466_0 := S.hb HB hx466_0
         replace hx466_1 := S.hb HB hx466_1
         replace hx466_2 := S.hb HB hx466_2
         replace hx466_3 := S.hb HB hx466_3
         replace p466 := eq_true p466
         replace q466 := eq_true q466
         go_wp2_with (first | ((with_reducible refine gate_dst (N := 7) rfl ?_); refine S.bx 7 (cs := #[.int .i64 0, .int .i64 0, .int .i64 0, .int .i64 0]) (t := 52) ?_; intro gb467 hg w37 hbox hb; replace HO_5 := S.rb HO_5 hb; have BK467 := Aside0.mk hbox; have GW467 := S.geG hg; have GE467 := S.geG hg; replace HB := S.sG hb; have NB461_467 := S.nl hg BK461; have NB467_461 := S.ng hg BK461; replace BK461 := S.kb BK461 hb; clear hb hbox hg; have hnb38 := NB467_461.out; have hnc38 := NB461_467.out; obtain ⟨Z39a, Z39b, Z39c, Z39d, Y39a, Y39b, Y39c, Y39d⟩ := S.c4 BK467.out; obtain ⟨Z40a, Z40b, Z40c, Z40d, Y40a, Y40b, Y40c, Y40d⟩ := S.c4 BK461.out) | ((with_reducible refine gate_callee (f := 82) rfl ?_); refine S.gL (some 25) Try.func82 #[.slice A1_0 l1_0.length c1_0, .int .i64 ((rd_T52 l0 x17_1).f0)] ?_; (with_reducible refine (slices_Contains_int_int.calls k1 _ _ l1_0 ((rd_T52 l0 x17_1).f0) false _ ?s1 HC1_0.out A13.out).mono ?_); (case s1 => exact Kd.C_below HR1_0.out S.bG); rintro e w' ⟨rfl, ⟨nd, rfl⟩⟩; refine ⟨_, rfl, ?_⟩) | ((with_reducible refine gate_builtin (b := .append) (xs := #[.tmp 38, .tmp 40]) rfl ?_); at_builtin; refine Kd.R_append (Kd.int .i64) (w0 := w) w.heap.size rfl (.tmp 38) (.tmp 40) 24 3 (.int .i64 0) 8 rfl Try.underlying24 info3 rfl (by decide) (by omega) u5 x5_1 0 [.int .i64 0] (fun _ => True) (fun _ => False) rfl (by first | (go_simp; done) | (go_simp; rfl)) ?aP (fun _ hk => hk.elim) ?aF ?aO ?aB ?aS ?aL ?_; (case aP => exact rfl); (case aB => exact S.bG); (case aF => exact (fun _ _ => trivial)); (case aO => exact (by (with_reducible repeat (first | apply Kd.R_alloc | apply Kd.R_drewN | apply Kd.R_drew)); exact Kd.R_mono (Kd.R_far (p := ⟨gb467, 3, none⟩) (Kd.R_far (p := ⟨gb467, 2, none⟩) (Kd.R_far (p := ⟨gb467, 1, none⟩) (Kd.R_far (p := ⟨gb467, 0, none⟩) (Kd.R_types HO_5.out BK467.out (by decide)) (fun _ hk => hk.2) (.int .i64 ((rd_T52 l0 x17_1).f0))) (fun _ hk => hk.2) (.int .i64 ((rd_T52 l0 x17_1).f1))) (fun _ hk => hk.2) (.int .i64 ((rd_T52 l0 x17_1).f2))) (fun _ hk => hk.2) (.int .i64 ((rd_T52 l0 x17_1).f3))) (fun _ hk => trivial))); (case aS => exact (below_size S.bG)); (case aL => have := LMc36.out; omega); intro v480 w41 ho hb hg hat; rw [← Ny479.out] at ho; have n0_ := Aside0.mk (blk_grown (g := gb461) (o := .cells #[.slice A1_0 l1_0.length c1_0, .int .i64 a1_1, .slice A1_2 l1_2.length c1_2, .int .i64 a1_3] 60 (0, 0)) (by (with_reducible repeat (first | refine blk_drewN ?_ _ | refine blk_drew ?_ | refine blk_alloc ?_ _)); refine blk_far ?_ NB461_467.out _; (with_reducible repeat (first | refine blk_drewN ?_ _ | refine blk_drew ?_ | refine blk_alloc ?_ _)); refine blk_far ?_ NB461_467.out _; (with_reducible repeat (first | refine blk_drewN ?_ _ | refine blk_drew ?_ | refine blk_alloc ?_ _)); refine blk_far ?_ NB461_467.out _; (with_reducible repeat (first | refine blk_drewN ?_ _ | refine blk_drew ?_ | refine blk_alloc ?_ _)); refine blk_far ?_ NB461_467.out _; (with_reducible repeat (first | refine blk_drewN ?_ _ | refine blk_drew ?_ | refine blk_alloc ?_ _)); exact BK461.out) hg (Kd.R_ne HO_5.out BK461.out (by decide))); have n1_ := Aside0.mk (blk_grown (g := gb467) (o := .cells #[.int .i64 ((rd_T52 l0 x17_1).f0), .int .i64 ((rd_T52 l0 x17_1).f1), .int .i64 ((rd_T52 l0 x17_1).f2), .int .i64 ((rd_T52 l0 x17_1).f3)] 52 (0, 0)) (by (with_reducible repeat (first | refine blk_drewN ?_ _ | refine blk_drew ?_ | refine blk_alloc ?_ _)); refine blk_put (cs := #[.int .i64 ((rd_T52 l0 x17_1).f0), .int .i64 ((rd_T52 l0 x17_1).f1), .int .i64 ((rd_T52 l0 x17_1).f2), .int .i64 0]) ?_ 3 _ rfl; (with_reducible repeat (first | refine blk_drewN ?_ _ | refine blk_drew ?_ | refine blk_alloc ?_ _)); refine blk_put (cs := #[.int .i64 ((rd_T52 l0 x17_1).f0), .int .i64 ((rd_T52 l0 x17_1).f1), .int .i64 0, .int .i64 0]) ?_ 2 _ rfl; (with_reducible repeat (first | refine blk_drewN ?_ _ | refine blk_drew ?_ | refine blk_alloc ?_ _)); refine blk_put (cs := #[.int .i64 ((rd_T52 l0 x17_1).f0), .int .i64 0, .int .i64 0, .int .i64 0]) ?_ 1 _ rfl; (with_reducible repeat (first | refine blk_drewN ?_ _ | refine blk_drew ?_ | refine blk_alloc ?_ _)); refine blk_put (cs := #[.int .i64 0, .int .i64 0, .int .i64 0, .int .i64 0]) ?_ 0 _ rfl; (with_reducible repeat (first | refine blk_drewN ?_ _ | refine blk_drew ?_ | refine blk_alloc ?_ _)); exact BK467.out) hg (Kd.R_ne HO_5.out BK467.out (by decide))); have n2_ := Aside0.mk (hb); have n3_ := Aside0.mk (ho); clear BK461; clear BK467; clear HB; clear HO_5; have BK461 := n0_; have BK467 := n1_; have HB := n2_; have HO481 := n3_; clear n0_ n1_ n2_ n3_; clear ho hb hg hat))
         go_roundg k1
         case measure => have := HK1.out; omega
         case rel => exact ⟨(y479), (wrap64 (x17_1 + 1)), S.eA, H', ⟨by have := HK1.out; omega⟩, ⟨S.uR HO481.out⟩, ⟨S.uB BK461.out⟩, ⟨S.bG⟩⟩
        ·rw [if_neg c36] at H
         exact absurd H (by simp)
      ·rw [if_neg c12] at H
       exact absurd H (by simp)
     ·rw [if_neg c11] at H
      exact absurd H (by simp)
    ·obtain rfl := Option.some.inj H
     go_wp2
     go_ret
     exact ⟨_, S.eW, S.uR HO_5.out, S.bG⟩
 ·obtain rfl := Option.some.inj H
  go_enter Try.func53, Try.ntmps53
  go_wp2_with (first | ((with_reducible refine gate_dst (N := 3) rfl ?_); refine S.bx 3 (cs := #[.slice A1_0 l1_0.length c1_0, .int .i64 a1_1, .slice A1_2 l1_2.length c1_2, .int .i64 a1_3]) (t := 60) ?_; intro gb461 hg w42 hbox hb; have BK461 := Aside0.mk hbox; have GW461 := S.geA hg; have GE461 := S.geA hg; replace HB := S.sA hb; clear hb hbox hg) | ((with_reducible refine gate_dst (N := 9) rfl ?_); refine Kd.R_lit (Kd.int .i64) _ 3 ?hg (N := 9) ?hd (xs := ([] : List Int)) (inner := []) (ok := fun _ => True) (okp := fun _ => True) ?hr ?hp (fun _ hk => hk) trivial (Below.refl _ _) (Nat.le_refl _) (by simp) ?_; (case hd => rfl); (case hg => rfl); (case hr => first | (go_simp; done) | (go_simp; rfl)); (case hp => exact (Reps.none _ _)); intro v463 w43 ho44 hb hg_ hnew_; clear hg_ hnew_; (first | rw [← Ny462.out] at ho44 | (simp only [Int.reduceToNat] at ho44; rw [← Ny462.out] at ho44)); have HO464 := S.lwG ho44; replace BK461 := S.kb BK461 hb; replace HB := S.sG hb; clear hb ho44; obtain ⟨Z45a, Z45b, Z45c, Z45d, Y45a, Y45b, Y45c, Y45d⟩ := S.c4 BK461.out) | ((with_reducible refine gate_callee (f := 54) rfl ?_); refine S.gL (some 12) Try.func54 #[.slice A0 l0.length c0, .agg #[.slice A1_0 l1_0.length c1_0, .int .i64 a1_1, .slice A1_2 l1_2.length c1_2, .int .i64 a1_3]] ?_; (with_reducible refine (impl_IsControl.calls k _ _ l0 _ _ l1_0 a1_1 _ _ l1_2 a1_3 false _ ?s1 HC0.out ?s3 HC1_0.out ?s5 HC1_2.out A3.out).mono ?_); (case s1 => exact S.cA HR0.out); (case s3 => exact S.cA HR1_0.out); (case s5 => exact S.cA HR1_2.out); rintro e w46 ⟨rfl, hb⟩; refine ⟨_, rfl, ?_⟩; replace HO464 := S.rb HO464 hb; replace BK461 := S.kb BK461 hb; replace HB := S.sG hb; (try clear hb)))
  go_ret
  exact ⟨_, S.eW, S.uR HO464.out, S.bG⟩

/-! ### impl_SirenWait: function 46 -/
mutual
def impl_SirenWait.j0 : Nat → List (S52) → Int → Bool → List Int → Int → List Int → Int → Option (Int)
 | 0, _, _, _, _, _, _, _ => none
 | k + 1, x0, x2, x18, x483000, x483001, x483002, x483003 => if x18 = true then (some (-1)) else ((impl_FindPath.f x0 x2).bind fun t485 => (impl_SirenWait.l0 k x0 x2 t485 0 x483000 x483001 x483002 x483003))
def impl_SirenWait.l0 : Nat → List (S52) → Int → Int → Int → List Int → Int → List Int → Int → Option (Int)
 | 0, _, _, _, _, _, _, _, _ => none
 | k + 1, x0, x2, x7, x8, x483000, x483001, x483002, x483003 => (impl_LightsOf.f k x0 x483000 x483001 x483002 x483003).bind fun t486 => (if 0 ≤ x7 then (if x7 < (t486.length : Int) then (if (rd t486 x7) = 1 then (some x8) else ((impl_StepSiren.f k x0 x483000 x483001 x483002 x483003 x2).bind fun bt490 => (impl_SirenWait.l0 k x0 x2 x7 (wrap64 (x8 + 1)) bt490.1 bt490.2.1 bt490.2.2.1 bt490.2.2.2))) else (none)) else (none))
end
def impl_SirenWait.f (k : Nat) (l0 : List (S52)) (l1_0 : List Int) (a1_1 : Int) (l1_2 : List Int) (a1_3 : Int) (a2 : Int) : Option (Int) := (impl_IsControl.f k l0 l1_0 a1_1 l1_2 a1_3).bind fun t483 => (if t483 = true then ((impl_isRoadway.f l0 a2).bind fun t484 => (impl_SirenWait.j0 k l0 a2 (!t484) l1_0 a1_1 l1_2 a1_3)) else (impl_SirenWait.j0 k l0 a2 true l1_0 a1_1 l1_2 a1_3))
set_option maxHeartbeats 8000000 in
set_option maxRecDepth 100000 in
theorem impl_SirenWait.calls (k : Nat) (A0 : Option Addr) (c0 : Nat) (l0 : List (S52)) (P1_0_ : Nat → Prop) (A1_0 : Option Addr) (c1_0 : Nat) (l1_0 : List Int) (a1_1 : Int) (P1_2_ : Nat → Prop) (A1_2 : Option Addr) (c1_2 : Nat) (l1_2 : List Int) (a1_3 : Int) (a2 : Int) (r : Int) (w : World) (hr0 : Kd.C k52 w A0 l0.length l0) (hc0 : l0.length ≤ c0) (hs1_0 : Kd.V (Kd.int .i64) 3 w w.heap.size (fun k_ => P1_0_ k_) (.slice A1_0 l1_0.length c1_0) l1_0) (hs1_2 : Kd.V (Kd.int .i64) 3 w w.heap.size (fun k_ => P1_2_ k_) (.slice A1_2 l1_2.length c1_2) l1_2) (h : impl_SirenWait.f k l0 l1_0 a1_1 l1_2 a1_3 a2 = some r) :
  Calls Try.prog 46 #[.slice A0 l0.length c0, .agg #[.slice A1_0 l1_0.length c1_0, .int .i64 a1_1, .slice A1_2 l1_2.length c1_2, .int .i64 a1_3], .int .i64 a2] w fun e w' => e = .returned (.int .i64 r) ∧ Below w.heap.size w w' := by
 have hu60 := Try.underlying60
 have HR0 := Aside0.mk hr0
 have HC0 := Aside0.mk hc0
 clear hr0 hc0
 have HO1_0 := Aside0.mk (show Kd.V (Kd.int .i64) 3 w w.heap.size (fun k_ => ((P1_0_ k_ ∨ P1_2_ k_) ∨ w.heap.size ≤ k_)) (.slice A1_0 l1_0.length c1_0) l1_0 from Kd.V_mono hs1_0 (fun k_ hk => .inl (.inl hk)))
 have HO1_2 := Aside0.mk (show Kd.V (Kd.int .i64) 3 w w.heap.size (fun k_ => ((P1_0_ k_ ∨ P1_2_ k_) ∨ w.heap.size ≤ k_)) (.slice A1_2 l1_2.length c1_2) l1_2 from Kd.V_mono hs1_2 (fun k_ hk => .inl (.inr hk)))
 have HB := Aside0.mk (Below.refl w.heap.size w)
 have H : ((impl_IsControl.f k l0 l1_0 a1_1 l1_2 a1_3).bind fun t483 => (if t483 = true then ((impl_isRoadway.f l0 a2).bind fun t484 => (impl_SirenWait.j0 k l0 a2 (!t484) l1_0 a1_1 l1_2 a1_3)) else (impl_SirenWait.j0 k l0 a2 true l1_0 a1_1 l1_2 a1_3))) = some r := h
 clear h
 have HC4 := Aside0.mk H
 clear H
 go_enter Try.func46, Try.ntmps46
 go_upto_region 1 with (first | ((with_reducible refine gate_dst (N := 4) rfl ?_); refine S.bx 4 (cs := #[.slice A1_0 l1_0.length c1_0, .int .i64 a1_1, .slice A1_2 l1_2.length c1_2, .int .i64 a1_3]) (t := 60) ?_; intro gb482 hg w5 hbox hb; replace HO1_0 := Aside0.mk (Kd.V_below (Kd.V_elderB (S.uV HO1_0.out) gb482 (Nat.le_of_eq hg.symm)) hb); replace HO1_2 := Aside0.mk (Kd.V_below (Kd.V_elderB (S.uV HO1_2.out) gb482 (Nat.le_of_eq hg.symm)) hb); have BK482 := Aside0.mk hbox; have GW482 := S.geA hg; have GE482 := S.geA hg; replace HB := S.sA hb; clear hb hbox hg))
 (try simp only [Act.put, List.setIfInBounds_toArray, List.set_cons_zero, List.set_cons_succ])
 go_cut [18] (fun v18 wc => ∃ (kq : Nat) (x18_3 : Bool), v18 = .bool x18_3 ∧ Aside0 (impl_SirenWait.j0 kq l0 a2 x18_3 l1_0 a1_1 l1_2 a1_3 = some r) ∧ Aside0 (kq ≤ k) ∧ Aside0 (Kd.V (Kd.int .i64) 3 wc w.heap.size (fun k_ => ((P1_0_ k_ ∨ P1_2_ k_) ∨ w.heap.size ≤ k_) ∧ k_ ≠ gb482) (.slice A1_0 l1_0.length c1_0) l1_0) ∧ Aside0 (Kd.V (Kd.int .i64) 3 wc w.heap.size (fun k_ => ((P1_0_ k_ ∨ P1_2_ k_) ∨ w.heap.size ≤ k_) ∧ k_ ≠ gb482) (.slice A1_2 l1_2.length c1_2) l1_2) ∧ Aside0 (wc.heap[gb482]? = some (.cells #[(.slice A1_0 l1_0.length c1_0), .int .i64 a1_1, (.slice A1_2 l1_2.length c1_2), .int .i64 a1_3] 60 (0, 0))) ∧ Aside0 (Below w.heap.size w wc))
 case first =>
  have H := HC4.out
  clear HC4
  replace H := S.bd H; obtain ⟨t483, A6, H⟩ := H
  (try dsimp only at H)
  replace H := S.db H; rcases H with ⟨rfl, H⟩ | ⟨rfl, H⟩
  ·replace H := S.bd H; obtain ⟨t484, A8, H⟩ := H
   (try dsimp only at H)
   have H' := Aside0.mk H
   clear H
   obtain ⟨Z9a, Z9b, Z9c, Z9d, Y9a, Y9b, Y9c, Y9d⟩ := S.c4 BK482.out
   go_wp2_with (first | ((with_reducible refine gate_callee (f := 54) rfl ?_); refine S.gL (some 11) Try.func54 #[.slice A0 l0.length c0, .agg #[.slice A1_0 l1_0.length c1_0, .int .i64 a1_1, .slice A1_2 l1_2.length c1_2, .int .i64 a1_3]] ?_; (with_reducible refine (impl_IsControl.calls k _ _ l0 _ _ l1_0 a1_1 _ _ l1_2 a1_3 true _ ?s1 HC0.out ?s3 ?s4 ?s5 ?s6 A6.out).mono ?_); (case s1 => exact S.cA HR0.out); (case s3 => repeat (first | exact (Kd.V_reads' HO1_0.out).2.2 | (with_reducible refine Kd.C_alloc ?_ _) | (with_reducible refine Kd.C_drewN ?_ _) | (with_reducible refine Kd.C_drew ?_))); (case s4 => exact (Kd.V_reads' HO1_0.out).2.1); (case s5 => repeat (first | exact (Kd.V_reads' HO1_2.out).2.2 | (with_reducible refine Kd.C_alloc ?_ _) | (with_reducible refine Kd.C_drewN ?_ _) | (with_reducible refine Kd.C_drew ?_))); (case s6 => exact (Kd.V_reads' HO1_2.out).2.1); rintro e w10 ⟨rfl, hb⟩; refine ⟨_, rfl, ?_⟩; replace HO1_0 := Aside0.mk (Kd.V_below (S.uV HO1_0.out) hb); replace HO1_2 := Aside0.mk (Kd.V_below (S.uV HO1_2.out) hb); replace BK482 := S.kb BK482 hb; replace HB := S.sG hb; (try clear hb)) | (go_at_call 88; (with_reducible refine (impl_isRoadway.calls _ _ l0 a2 t484 _ ?s1 HC0.out A8.out).mono ?_); (case s1 => exact S.cA HR0.out); rintro e w11 ⟨rfl, hb⟩; replace HO1_0 := Aside0.mk (Kd.V_below (S.uV HO1_0.out) hb); replace HO1_2 := Aside0.mk (Kd.V_below (S.uV HO1_2.out) hb); replace BK482 := S.kb BK482 hb; replace HB := S.sG hb; (try clear hb)))
   go_meet
   case rel => exact ⟨_, (!t484), S.eA, H', S.le, ⟨S.uV HO1_0.out⟩, ⟨S.uV HO1_2.out⟩, ⟨S.uB BK482.out⟩, ⟨S.bG⟩⟩
  ·have H' := Aside0.mk H
   clear H
   obtain ⟨Z12a, Z12b, Z12c, Z12d, Y12a, Y12b, Y12c, Y12d⟩ := S.c4 BK482.out
   go_wp2_with (first | ((with_reducible refine gate_callee (f := 54) rfl ?_); refine S.gL (some 11) Try.func54 #[.slice A0 l0.length c0, .agg #[.slice A1_0 l1_0.length c1_0, .int .i64 a1_1, .slice A1_2 l1_2.length c1_2, .int .i64 a1_3]] ?_; (with_reducible refine (impl_IsControl.calls k _ _ l0 _ _ l1_0 a1_1 _ _ l1_2 a1_3 false _ ?s1 HC0.out ?s3 ?s4 ?s5 ?s6 A6.out).mono ?_); (case s1 => exact S.cA HR0.out); (case s3 => repeat (first | exact (Kd.V_reads' HO1_0.out).2.2 | (with_reducible refine Kd.C_alloc ?_ _) | (with_reducible refine Kd.C_drewN ?_ _) | (with_reducible refine Kd.C_drew ?_))); (case s4 => exact (Kd.V_reads' HO1_0.out).2.1); (case s5 => repeat (first | exact (Kd.V_reads' HO1_2.out).2.2 | (with_reducible refine Kd.C_alloc ?_ _) | (with_reducible refine Kd.C_drewN ?_ _) | (with_reducible refine Kd.C_drew ?_))); (case s6 => exact (Kd.V_reads' HO1_2.out).2.1); rintro e w13 ⟨rfl, hb⟩; refine ⟨_, rfl, ?_⟩; replace HO1_0 := Aside0.mk (Kd.V_below (S.uV HO1_0.out) hb); replace HO1_2 := Aside0.mk (Kd.V_below (S.uV HO1_2.out) hb); replace BK482 := S.kb BK482 hb; replace HB := S.sG hb; (try clear hb)))
   go_meet
   case rel => exact ⟨_, (true), S.eA, H', S.le, ⟨S.uV HO1_0.out⟩, ⟨S.uV HO1_2.out⟩, ⟨S.uB BK482.out⟩, ⟨S.bG⟩⟩
 case rest =>
  clear HC4
  obtain ⟨kq, x18_3, rfl, HA, HJ3, HO_483000, HO_483002, BK482, HB⟩ := hcut
  cases kq with
  | zero => exact absurd HA.out (by simp [impl_SirenWait.j0])
  | succ kj3 =>
   have H := HA.out
   clear HA
   simp only [impl_SirenWait.j0] at H
   replace H := S.db H; rcases H with ⟨rfl, H⟩ | ⟨rfl, H⟩
   ·obtain rfl := Option.some.inj H
    go_wp2
    go_ret
    exact ⟨S.eW, S.bG⟩
   ·replace H := S.bd H; obtain ⟨t485, A15, H⟩ := H
    (try dsimp only at H)
    have H' := Aside0.mk H
    clear H
    go_wp2_with (first | ((with_reducible refine gate_callee (f := 91) rfl ?_); refine S.gL (some 21) Try.func91 #[.slice A0 l0.length c0, .int .i64 a2] ?_; (with_reducible refine (impl_FindPath.calls _ _ l0 a2 t485 _ ?s1 HC0.out A15.out).mono ?_); (case s1 => exact S.cA HR0.out); rintro e w16 ⟨rfl, hb⟩; refine ⟨_, rfl, ?_⟩; replace HO_483000 := Aside0.mk (Kd.V_below (S.uV HO_483000.out) hb); replace HO_483002 := Aside0.mk (Kd.V_below (S.uV HO_483002.out) hb); replace BK482 := S.kb BK482 hb; replace HB := S.sG hb; (try clear hb)))
    go_loopg [8] kj3 (fun kq v8 w' => ∃ (x8_2 : Int) (x483000_2 : List Int) (x483001_2 : Int) (x483002_2 : List Int) (x483003_2 : Int) (u483000 : Value) (u483002 : Value), v8 = .int .i64 x8_2 ∧ Aside0 (impl_SirenWait.l0 kq l0 a2 t485 x8_2 x483000_2 x483001_2 x483002_2 x483003_2 = some r) ∧ Aside0 (kq ≤ kj3) ∧ Aside0 (Kd.V (Kd.int .i64) 3 w' w.heap.size (fun k_ => ((P1_0_ k_ ∨ P1_2_ k_) ∨ w.heap.size ≤ k_) ∧ k_ ≠ gb482) u483000 x483000_2) ∧ Aside0 (Kd.V (Kd.int .i64) 3 w' w.heap.size (fun k_ => ((P1_0_ k_ ∨ P1_2_ k_) ∨ w.heap.size ≤ k_) ∧ k_ ≠ gb482) u483002 x483002_2) ∧ Aside0 (w'.heap[gb482]? = some (.cells #[u483000, .int .i64 x483001_2, u483002, .int .i64 x483003_2] 60 (0, 0))) ∧ Aside0 (Below w.heap.size w w'))
    case atStart => exact ⟨(0), (l1_0), (a1_1), (l1_2), (a1_3), (.slice A1_0 l1_0.length c1_0), (.slice A1_2 l1_2.length c1_2), S.eA, H', ⟨Nat.le_refl _⟩, ⟨S.uV HO_483000.out⟩, ⟨S.uV HO_483002.out⟩, ⟨S.uB BK482.out⟩, ⟨S.bG⟩⟩
    case round =>
     clear H'
     try clear c14
     obtain ⟨x8_2, x483000_2, x483001_2, x483002_2, x483003_2, u483000, u483002, rfl, HA, HK2, HO_483000, HO_483002, BK482, HB⟩ := hrel
     cases gk with
     | zero => exact absurd HA.out (by simp [impl_SirenWait.l0])
     | succ k2 =>
      have H := HA.out
      clear HA
      simp only [impl_SirenWait.l0] at H
      replace H := S.bd H; obtain ⟨t486, A17, H⟩ := H
      (try dsimp only at H)
      by_cases c18 : 0 ≤ t485
      ·rw [if_pos c18] at H
       have c18b0 : decide (0 ≤ t485) = true := decide_eq_true c18
       clear c18
       by_cases c19 : t485 < (t486.length : Int)
       ·rw [if_pos c19] at H
        have c19b0 : decide (t485 < (t486.length : Int)) = true := decide_eq_true c19
        clear c19
        by_cases c20 : (rd t486 t485) = 1
        ·rw [if_pos c20] at H
         have c20b0 : ((rd t486 t485) == 1) = true := beq_iff_eq.mpr c20
         have c20b1 : ((rd t486 t485) != 1) = false := bne_eq_false_iff_eq.mpr c20
         clear c20
         obtain rfl := Option.some.inj H
         obtain ⟨Z21a, Z21b, Z21c, Z21d, Y21a, Y21b, Y21c, Y21d⟩ := S.c4 BK482.out
         obtain ⟨Ao22, co22, eo22⟩ := Kd.V_slice HO_483000.out
         subst eo22
         obtain ⟨Ao23, co23, eo23⟩ := Kd.V_slice HO_483002.out
         subst eo23
         go_wp2_with (first | ((with_reducible refine gate_callee (f := 53) rfl ?_); refine S.gL (some 24) Try.func53 #[.slice A0 l0.length c0, .agg #[.slice Ao22 x483000_2.length co22, .int .i64 x483001_2, .slice Ao23 x483002_2.length co23, .int .i64 x483003_2]] ?_; (with_reducible refine (impl_LightsOf.calls k2 _ _ l0 _ _ x483000_2 x483001_2 _ _ x483002_2 x483003_2 t486 _ ?s1 HC0.out ?s3 ?s4 ?s5 ?s6 A17.out).mono ?_); (case s1 => exact S.cA HR0.out); (case s3 => repeat (first | exact (Kd.V_reads' HO_483000.out).2.2 | (with_reducible refine Kd.C_alloc ?_ _) | (with_reducible refine Kd.C_drewN ?_ _) | (with_reducible refine Kd.C_drew ?_))); (case s4 => exact (Kd.V_reads' HO_483000.out).2.1); (case s5 => repeat (first | exact (Kd.V_reads' HO_483002.out).2.2 | (with_reducible refine Kd.C_alloc ?_ _) | (with_reducible refine Kd.C_drewN ?_ _) | (with_reducible refine Kd.C_drew ?_))); (case s6 => exact (Kd.V_reads' HO_483002.out).2.1); rintro e w24 ⟨v487, rfl, ho0, hb⟩; refine ⟨_, rfl, ?_⟩; replace HO_483000 := Aside0.mk (Kd.V_elder' (S.uV HO_483000.out) (Kd.R_base ho0) hb); replace HO_483002 := Aside0.mk (Kd.V_elder' (S.uV HO_483002.out) (Kd.R_base ho0) hb); have HO488 := Aside0.mk (Kd.R_lower (Kd.R_newM (M := fun k_ => (w.heap.size ≤ k_)) ho0 (below_size S.bG) (fun k_ h_ => h_)) (below_size S.bG)); replace BK482 := S.kb BK482 hb; replace HB := S.sG hb; (try clear hb); (try clear ho0); obtain ⟨Ao25, co25, eo25⟩ := Kd.R_slice HO488.out; subst eo25; have p489 : 0 ≤ (t485 : Int) := S.oD; have q489 : t485 < (t486.length : Int) := S.oD; obtain ⟨ad489, e489, hx489_0⟩ := Kd.at_int (Kd.R_reads' HO488.out).2.2 t485 p489 q489; cases e489; replace p489 := eq_true p489; replace q489 := eq_true q489))
         go_ret
         exact ⟨S.eW, S.bG⟩
        ·rw [if_neg c20] at H
         have c20b0 : ((rd t486 t485) == 1) = false := beq_eq_false_iff_ne.mpr c20
         have c20b1 : ((rd t486 t485) != 1) = true := bne_iff_ne.mpr c20
         replace H := S.bd H; obtain ⟨⟨t490, t493, t494, t497⟩, A26, H⟩ := H
         (try dsimp only at H)
         have H' := Aside0.mk H
         clear H
         obtain ⟨Z27a, Z27b, Z27c, Z27d, Y27a, Y27b, Y27c, Y27d⟩ := S.c4 BK482.out
         obtain ⟨Ao28, co28, eo28⟩ := Kd.V_slice HO_483000.out
         subst eo28
         obtain ⟨Ao29, co29, eo29⟩ := Kd.V_slice HO_483002.out
         subst eo29
         go_wp2_with (first | ((with_reducible refine gate_callee (f := 53) rfl ?_); refine S.gL (some 24) Try.func53 #[.slice A0 l0.length c0, .agg #[.slice Ao28 x483000_2.length co28, .int .i64 x483001_2, .slice Ao29 x483002_2.length co29, .int .i64 x483003_2]] ?_; (with_reducible refine (impl_LightsOf.calls k2 _ _ l0 _ _ x483000_2 x483001_2 _ _ x483002_2 x483003_2 t486 _ ?s1 HC0.out ?s3 ?s4 ?s5 ?s6 A17.out).mono ?_); (case s1 => exact S.cA HR0.out); (case s3 => repeat (first | exact (Kd.V_reads' HO_483000.out).2.2 | (with_reducible refine Kd.C_alloc ?_ _) | (with_reducible refine Kd.C_drewN ?_ _) | (with_reducible refine Kd.C_drew ?_))); (case s4 => exact (Kd.V_reads' HO_483000.out).2.1); (case s5 => repeat (first | exact (Kd.V_reads' HO_483002.out).2.2 | (with_reducible refine Kd.C_alloc ?_ _) | (with_reducible refine Kd.C_drewN ?_ _) | (with_reducible refine Kd.C_drew ?_))); (case s6 => exact (Kd.V_reads' HO_483002.out).2.1); rintro e w30 ⟨v487, rfl, ho0, hb⟩; refine ⟨_, rfl, ?_⟩; replace HO_483000 := Aside0.mk (Kd.V_elder' (S.uV HO_483000.out) (Kd.R_base ho0) hb); replace HO_483002 := Aside0.mk (Kd.V_elder' (S.uV HO_483002.out) (Kd.R_base ho0) hb); have HO488 := Aside0.mk (Kd.R_lower (Kd.R_newM (M := fun k_ => (w.heap.size ≤ k_)) ho0 (below_size S.bG) (fun k_ h_ => h_)) (below_size S.bG)); replace BK482 := S.kb BK482 hb; replace HB := S.sG hb; (try clear hb); (try clear ho0); obtain ⟨Ao31, co31, eo31⟩ := Kd.R_slice HO488.out; subst eo31; have p489 : 0 ≤ (t485 : Int) := S.oD; have q489 : t485 < (t486.length : Int) := S.oD; obtain ⟨ad489, e489, hx489_0⟩ := Kd.at_int (Kd.R_reads' HO488.out).2.2 t485 p489 q489; cases e489; replace p489 := eq_true p489; replace q489 := eq_true q489; obtain ⟨Z32a, Z32b, Z32c, Z32d, Y32a, Y32b, Y32c, Y32d⟩ := S.c4 BK482.out) | ((with_reducible refine gate_callee (f := 48) rfl ?_); refine S.gL (some 32) Try.func48 #[.slice A0 l0.length c0, .agg #[.slice Ao28 x483000_2.length co28, .int .i64 x483001_2, .slice Ao29 x483002_2.length co29, .int .i64 x483003_2], .int .i64 a2] ?_; (with_reducible refine (impl_StepSiren.calls k2 _ _ l0 _ _ x483000_2 x483001_2 _ _ x483002_2 x483003_2 a2 t490 t493 t494 t497 _ ?s1 HC0.out ?s3 ?s4 ?s5 ?s6 A26.out).mono ?_); (case s1 => exact S.cA HR0.out); (case s3 => repeat (first | exact (Kd.V_reads' HO_483000.out).2.2 | (with_reducible refine Kd.C_alloc ?_ _) | (with_reducible refine Kd.C_drewN ?_ _) | (with_reducible refine Kd.C_drew ?_))); (case s4 => exact (Kd.V_reads' HO_483000.out).2.1); (case s5 => repeat (first | exact (Kd.V_reads' HO_483002.out).2.2 | (with_reducible refine Kd.C_alloc ?_ _) | (with_reducible refine Kd.C_drewN ?_ _) | (with_reducible refine Kd.C_drew ?_))); (case s6 => exact (Kd.V_reads' HO_483002.out).2.1); rintro e w33 ⟨v491, v495, rfl, ho0, ho1, hb⟩; refine ⟨_, rfl, ?_⟩; replace HO_483000 := Aside0.mk (Kd.V_mono (Kd.V_told (Kd.V_told (Kd.V_old (S.uV HO_483000.out) hb) (Kd.R_base ho0)) (Kd.R_base ho1)) (fun _ h_ => h_.1)); replace HO_483002 := Aside0.mk (Kd.V_mono (Kd.V_told (Kd.V_told (Kd.V_old (S.uV HO_483002.out) hb) (Kd.R_base ho0)) (Kd.R_base ho1)) (fun _ h_ => h_.1)); have HO492 := Aside0.mk (Kd.R_lower (Kd.R_new' (Kd.R_newM (M := fun k_ => (w.heap.size ≤ k_)) ho0 (below_size S.bG) (fun k_ h_ => h_)) (Kd.R_lt (S.uR HO488.out))) (below_size S.bG)); have HO496 := Aside0.mk (Kd.R_lower (Kd.R_new' (Kd.R_newM (M := fun k_ => (w.heap.size ≤ k_)) ho1 (below_size S.bG) (fun k_ h_ => h_)) (Kd.R_lt (S.uR HO488.out))) (below_size S.bG)); replace HO488 := Aside0.mk (Kd.R_mono (Kd.R_told (Kd.R_told (Kd.R_old (S.uR HO488.out) hb) (Kd.R_base ho0)) (Kd.R_base ho1)) (fun _ h_ => h_.1)); replace BK482 := S.kb BK482 hb; replace HB := S.sG hb; (try clear hb); (try clear ho0); (try clear ho1); obtain ⟨Ao34, co34, eo34⟩ := Kd.R_slice HO492.out; subst eo34; obtain ⟨Z35a, Z35b, Z35c, Z35d, Y35a, Y35b, Y35c, Y35d⟩ := S.c4 BK482.out; obtain ⟨Ao36, co36, eo36⟩ := Kd.R_slice HO496.out; subst eo36))
         go_roundg k2
         case measure => have := HJ3.out; have := HK2.out; omega
         case rel => exact ⟨(wrap64 (x8_2 + 1)), (t490), (t493), (t494), (t497), (.slice Ao34 t490.length co34), (.slice Ao36 t494.length co36), S.eA, H', ⟨by have := HJ3.out; have := HK2.out; omega⟩, ⟨Kd.V_mono (ok := fun k_ => w.heap.size ≤ k_ ∧ k_ ≠ gb482) (Kd.R_V (by (with_reducible repeat (first | apply Kd.R_alloc | apply Kd.R_drewN | apply Kd.R_drew)); exact Kd.R_mono (Kd.R_far (p := ⟨gb482, 3, none⟩) (Kd.R_far (p := ⟨gb482, 2, none⟩) (Kd.R_far (p := ⟨gb482, 1, none⟩) (Kd.R_far (p := ⟨gb482, 0, none⟩) (Kd.R_types (Kd.R_types HO492.out BK482.out (by decide)) BK482.out (by decide)) (fun _ hk => hk.2) (.slice Ao34 t490.length co34)) (fun _ hk => hk.2) (.int .i64 t493)) (fun _ hk => hk.2) (.slice Ao36 t494.length co36)) (fun _ hk => hk.2) (.int .i64 t497)) (fun _ hk => ⟨hk.1.1.1.1, hk.1.2⟩))) (fun k_ hk => by first | exact ⟨(.inr (hk.1)), hk.2⟩ | exact (.inr (hk)))⟩, ⟨Kd.V_mono (ok := fun k_ => w.heap.size ≤ k_ ∧ k_ ≠ gb482) (Kd.R_V (by (with_reducible repeat (first | apply Kd.R_alloc | apply Kd.R_drewN | apply Kd.R_drew)); exact Kd.R_mono (Kd.R_far (p := ⟨gb482, 3, none⟩) (Kd.R_far (p := ⟨gb482, 2, none⟩) (Kd.R_far (p := ⟨gb482, 1, none⟩) (Kd.R_far (p := ⟨gb482, 0, none⟩) (Kd.R_types (Kd.R_types HO496.out BK482.out (by decide)) BK482.out (by decide)) (fun _ hk => hk.2) (.slice Ao34 t490.length co34)) (fun _ hk => hk.2) (.int .i64 t493)) (fun _ hk => hk.2) (.slice Ao36 t494.length co36)) (fun _ hk => hk.2) (.int .i64 t497)) (fun _ hk => ⟨hk.1.1.1.1, hk.1.2⟩))) (fun k_ hk => by first | exact ⟨(.inr (hk.1)), hk.2⟩ | exact (.inr (hk)))⟩, ⟨S.up4 BK482⟩, ⟨S.bG⟩⟩
       ·rw [if_neg c19] at H
        exact absurd H (by simp)
      ·rw [if_neg c18] at H
       exact absurd H (by simp)

end Go.Proofs.Ytopchlafmfgpnaa.PFnExactSirenWait
