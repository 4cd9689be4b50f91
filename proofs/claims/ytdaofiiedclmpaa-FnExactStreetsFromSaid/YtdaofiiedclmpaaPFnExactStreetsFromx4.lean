/- Printed by a program: what the Go functions compute, as plain Lean functions (.f), and the proofs that the machine's calls come to just that (.calls). -/
import Derived.Test.YtdaofiiedclmpaaSorts
import Derived.Test.YtdaofiiedclmpaaPFnExactStreetsFromx0
import Derived.Test.YtdaofiiedclmpaaPFnExactStreetsFromx1
import Derived.Test.YtdaofiiedclmpaaPFnExactStreetsFromx2
import Derived.Test.YtdaofiiedclmpaaPFnExactStreetsFromx3
namespace Go.Proofs.Ytdaofiiedclmpaa.PFnExactStreetsFrom
open Go.RowKit Go.Proofs.YtdaofiiedclmpaaW.PrintWords Go.Proofs.YtdaofiiedclmpaaW.PrintLast Go.Proofs.YtdaofiiedclmpaaW.PrintMore
attribute [local go_sem] max2_int min2_int max_two min_two max_three min_three max_four min_four   -- for this text's walks alone
set_option linter.unusedVariables false
set_option linter.unusedSimpArgs false

/-! ### spec_StreetsFrom: function 33 -/
def spec_StreetsFrom.l0 : Nat → List (S47) → Int → List Int → Int → Option (List Int)
 | 0, _, _, _, _ => none
 | k + 1, x0, x1, x5, x6 => if x6 < (x0.length : Int) then (if 0 ≤ x6 then (if ((rd_T47 x0 x6).f0) = x1 then ((spec_l6Put.f k x5 ((rd_T47 x0 x6).f1)).bind fun t171 => (spec_StreetsFrom.l0 k x0 x1 t171 (wrap64 (x6 + 1)))) else (spec_StreetsFrom.l0 k x0 x1 x5 (wrap64 (x6 + 1)))) else (none)) else (some x5)
def spec_StreetsFrom.f (k : Nat) (l0 : List (S47)) (a1 : Int) : Option (List Int) := spec_StreetsFrom.l0 k l0 a1 (([] : List Int)) 0
set_option maxHeartbeats 8000000 in
set_option maxRecDepth 100000 in
theorem spec_StreetsFrom.calls (k : Nat) (A0 : Option Addr) (c0 : Nat) (l0 : List (S47)) (a1 : Int) (r : List Int) (w : World) (hr0 : Kd.C k47 w A0 l0.length l0) (hc0 : l0.length ≤ c0) (h : spec_StreetsFrom.f k l0 a1 = some r) :
  Calls Try.prog 33 #[.slice A0 l0.length c0, .int .i64 a1] w fun e w' => ∃ v0_ : Value, e = .returned (v0_) ∧ Kd.R (Kd.int .i64) 3 w' w.heap.size (fun _ => True) v0_ r ∧ Below w.heap.size w w' := by
 have HR0 := Aside0.mk hr0
 have HC0 := Aside0.mk hc0
 clear hr0 hc0
 have HB := Aside0.mk (Below.refl w.heap.size w)
 have H : (spec_StreetsFrom.l0 k l0 a1 (([] : List Int)) 0) = some r := h
 clear h
 obtain ⟨y166, hy166⟩ : ∃ y_ : List Int, y_ = (([] : List Int)) := ⟨_, rfl⟩
 replace H : (spec_StreetsFrom.l0 k l0 a1 y166 0) = some r := by first | (rw [hy166]; with_reducible exact H) | (have H2_ := (Option.bind_some _ _).symm.trans H; rw [hy166]; with_reducible exact H2_) | (have H2_ := (Option.bind_some _ _).symm.trans H; with_reducible exact H2_) | with_reducible exact H | (rw [hy166]; exact H) | exact H
 have Ny166 := Aside0.mk hy166
 clear hy166
 have H' := Aside0.mk H
 clear H
 go_enter Try.func33, Try.ntmps33
 go_wp2_with (first | ((with_reducible refine gate_dst (N := 7) rfl ?_); refine Kd.R_lit (Kd.int .i64) _ 3 ?hg (N := 7) ?hd (xs := ([] : List Int)) (inner := []) (ok := fun _ => True) (okp := fun _ => True) ?hr ?hp (fun _ hk => hk) trivial (Below.refl _ _) (Nat.le_refl _) (by simp) ?_; (case hd => rfl); (case hg => rfl); (case hr => first | (go_simp; done) | (go_simp; rfl)); (case hp => exact (Reps.none _ _)); intro v167 w3 ho4 hb hg_ hnew_; clear hg_ hnew_; (first | rw [← Ny166.out] at ho4 | (simp only [Int.reduceToNat] at ho4; rw [← Ny166.out] at ho4)); have HO168 := S.lwA ho4; replace HB := S.sA hb; clear hb ho4))
 go_loopg [5, 6] k (fun kq v5 v6 w' => ∃ (x5_1 : List Int) (x6_1 : Int), v6 = .int .i64 x6_1 ∧ Aside0 (spec_StreetsFrom.l0 kq l0 a1 x5_1 x6_1 = some r) ∧ Aside0 (kq ≤ k) ∧ Aside0 (Kd.R (Kd.int .i64) 3 w' w.heap.size (fun _ => True) v5 x5_1) ∧ Aside0 (Below w.heap.size w w'))
 case atStart => exact ⟨(y166), (0), S.eA, H', ⟨Nat.le_refl _⟩, ⟨S.uR HO168.out⟩, ⟨S.bA⟩⟩
 case round =>
  clear H'
  obtain ⟨x5_1, x6_1, rfl, HA, HK1, HO_5, HB⟩ := hrel
  cases gk with
  | zero => exact absurd HA.out (by simp [spec_StreetsFrom.l0])
  | succ k1 =>
   have H := HA.out
   clear HA
   simp only [spec_StreetsFrom.l0] at H
   replace H := S.dc H; rcases H with ⟨H, c5b0⟩ | ⟨H, c5b0⟩
   ·by_cases c6 : 0 ≤ x6_1
    ·rw [if_pos c6] at H
     have c6b0 : decide (0 ≤ x6_1) = true := decide_eq_true c6
     clear c6
     by_cases c7 : ((rd_T47 l0 x6_1).f0) = a1
     ·rw [if_pos c7] at H
      have c7b0 : (((rd_T47 l0 x6_1).f0) == a1) = true := beq_iff_eq.mpr c7
      have c7b1 : (((rd_T47 l0 x6_1).f0) != a1) = false := bne_eq_false_iff_eq.mpr c7
      clear c7
      replace H := S.bd H; obtain ⟨t171, A8, H⟩ := H
      (try dsimp only at H)
      have H' := Aside0.mk H
      clear H
      have p169 : 0 ≤ (x6_1 : Int) := S.oD
      have q169 : x6_1 < (l0.length : Int) := S.oD
      obtain ⟨ad169, e169, hx169_0, hx169_1, hx169_2⟩ := at_T47 HR0.out x6_1 p169 q169
      cases e169
      replace hx169_0 := S.hb HB hx169_0
      replace hx169_1 := S.hb HB hx169_1
      replace hx169_2 := S.hb HB hx169_2
      replace p169 := eq_true p169
      replace q169 := eq_true q169
      have p170 : 0 ≤ (x6_1 : Int) := S.oD
      have q170 : x6_1 < (l0.length : Int) := S.oD
      obtain ⟨ad170, e170, hx170_0, hx170_1, hx170_2⟩ := at_T47 HR0.out x6_1 p170 q170
      obtain rfl : ad169 = ad170 := (by injection e170)
      replace hx170_0 := S.hb HB hx170_0
      replace hx170_1 := S.hb HB hx170_1
      replace hx170_2 := S.hb HB hx170_2
      replace p170 := eq_true p170
      replace q170 := eq_true q170
      obtain ⟨Ao9, co9, eo9⟩ := Kd.R_slice HO_5.out
      subst eo9
      go_wp2_with (first | ((with_reducible refine gate_callee (f := 67) rfl ?_); refine S.gL (some 27) Try.func67 #[.slice Ao9 x5_1.length co9, .int .i64 ((rd_T47 l0 x6_1).f1)] ?_; (with_reducible refine (spec_l6Put.calls k1 _ _ x5_1 ((rd_T47 l0 x6_1).f1) t171 _ ?s1 (S.rl HO_5) A8.out).mono ?_); (case s1 => exact S.rd HO_5); rintro e w10 ⟨v172, rfl, ho0, hb⟩; refine ⟨_, rfl, ?_⟩; have HO173 := S.rnA ho0 HO_5; replace HO_5 := S.re HO_5 ho0 hb; replace HB := S.sA hb; (try clear hb); (try clear ho0)))
      go_roundg k1
      case measure => have := HK1.out; omega
      case rel => exact ⟨(t171), (wrap64 (x6_1 + 1)), S.eA, H', ⟨by have := HK1.out; omega⟩, ⟨by (with_reducible repeat (first | apply Kd.R_alloc | apply Kd.R_drewN | apply Kd.R_drew)); exact Kd.R_mono HO173.out (fun _ hk => trivial)⟩, ⟨S.bA⟩⟩
     ·rw [if_neg c7] at H
      have c7b0 : (((rd_T47 l0 x6_1).f0) == a1) = false := beq_eq_false_iff_ne.mpr c7
      have c7b1 : (((rd_T47 l0 x6_1).f0) != a1) = true := bne_iff_ne.mpr c7
      have H' := Aside0.mk H
      clear H
      have p169 : 0 ≤ (x6_1 : Int) := S.oD
      have q169 : x6_1 < (l0.length : Int) := S.oD
      obtain ⟨ad169, e169, hx169_0, hx169_1, hx169_2⟩ := at_T47 HR0.out x6_1 p169 q169
      cases e169
      replace hx169_0 := S.hb HB hx169_0
      replace hx169_1 := S.hb HB hx169_1
      replace hx169_2 := S.hb HB hx169_2
      replace p169 := eq_true p169
      replace q169 := eq_true q169
      go_wp2
      go_roundg k1
      case measure => have := HK1.out; omega
      case rel => exact ⟨(x5_1), (wrap64 (x6_1 + 1)), S.eA, H', ⟨by have := HK1.out; omega⟩, ⟨S.uR HO_5.out⟩, ⟨S.bA⟩⟩
    ·rw [if_neg c6] at H
     exact absurd H (by simp)
   ·obtain rfl := Option.some.inj H
    go_wp2
    go_ret
    exact ⟨_, S.eW, S.uR HO_5.out, S.bA⟩

/-! ### impl_StreetsFrom: function 34 -/
def impl_StreetsFrom.l0 : Nat → Int → List Int → List (S47) → Int → Int → Option (List Int)
 | 0, _, _, _, _, _ => none
 | k + 1, x1, x5, x9, x10, x11 => if x11 < x10 then (if 0 ≤ x11 then (if x11 < (x9.length : Int) then (if ((rd_T47 x9 x11).f0) = x1 then (if x5.length < 17592186044416 then (impl_StreetsFrom.l0 k x1 (x5 ++ [(rd_T47 x9 x11).f1]) x9 x10 (wrap64 (x11 + 1))) else (none)) else (impl_StreetsFrom.l0 k x1 x5 x9 x10 (wrap64 (x11 + 1)))) else (none)) else (none)) else (if x5.length < 4611686018427387904 then (some (Go.Lib.compact (Go.Proofs.Ytdaofiiedclmpaa.Srt.sorted x5))) else (none))
def impl_StreetsFrom.f (k : Nat) (l0 : List (S47)) (a1 : Int) : Option (List Int) := impl_StreetsFrom.l0 k a1 (([] : List Int)) l0 (l0.length : Int) 0
set_option maxHeartbeats 8000000 in
set_option maxRecDepth 100000 in
theorem impl_StreetsFrom.calls (k : Nat) (A0 : Option Addr) (c0 : Nat) (l0 : List (S47)) (a1 : Int) (r : List Int) (w : World) (hr0 : Kd.C k47 w A0 l0.length l0) (hc0 : l0.length ≤ c0) (h : impl_StreetsFrom.f k l0 a1 = some r) :
  Calls Try.prog 34 #[.slice A0 l0.length c0, .int .i64 a1] w fun e w' => ∃ v0_ : Value, e = .returned (v0_) ∧ Kd.R (Kd.int .i64) 3 w' w.heap.size (fun _ => True) v0_ r ∧ Below w.heap.size w w' := by
 have hu47 := Try.underlying47
 have HR0 := Aside0.mk hr0
 have HC0 := Aside0.mk hc0
 clear hr0 hc0
 have HB := Aside0.mk (Below.refl w.heap.size w)
 have H : (impl_StreetsFrom.l0 k a1 (([] : List Int)) l0 (l0.length : Int) 0) = some r := h
 clear h
 obtain ⟨y174, hy174⟩ : ∃ y_ : List Int, y_ = (([] : List Int)) := ⟨_, rfl⟩
 replace H : (impl_StreetsFrom.l0 k a1 y174 l0 (l0.length : Int) 0) = some r := by first | (rw [hy174]; with_reducible exact H) | (have H2_ := (Option.bind_some _ _).symm.trans H; rw [hy174]; with_reducible exact H2_) | (have H2_ := (Option.bind_some _ _).symm.trans H; with_reducible exact H2_) | with_reducible exact H | (rw [hy174]; exact H) | exact H
 have Ny174 := Aside0.mk hy174
 clear hy174
 have H' := Aside0.mk H
 clear H
 go_enter Try.func34, Try.ntmps34
 go_wp2_with (first | ((with_reducible refine gate_dst (N := 8) rfl ?_); refine Kd.R_lit (Kd.int .i64) _ 3 ?hg (N := 8) ?hd (xs := ([] : List Int)) (inner := []) (ok := fun _ => True) (okp := fun _ => True) ?hr ?hp (fun _ hk => hk) trivial (Below.refl _ _) (Nat.le_refl _) (by simp) ?_; (case hd => rfl); (case hg => rfl); (case hr => first | (go_simp; done) | (go_simp; rfl)); (case hp => exact (Reps.none _ _)); intro v175 w3 ho4 hb hg_ hnew_; clear hg_ hnew_; (first | rw [← Ny174.out] at ho4 | (simp only [Int.reduceToNat] at ho4; rw [← Ny174.out] at ho4)); have HO176 := S.lwA ho4; replace HB := S.sA hb; clear hb ho4))
 go_loopg [5, 11] k (fun kq v5 v11 w' => ∃ (x5_1 : List Int) (x11_1 : Int), v11 = .int .i64 x11_1 ∧ Aside0 (impl_StreetsFrom.l0 kq a1 x5_1 l0 (l0.length : Int) x11_1 = some r) ∧ Aside0 (kq ≤ k) ∧ Aside0 (Kd.R (Kd.int .i64) 3 w' w.heap.size (fun _ => True) v5 x5_1) ∧ Aside0 (Below w.heap.size w w'))
 case atStart => exact ⟨(y174), (0), S.eA, H', ⟨Nat.le_refl _⟩, ⟨S.uR HO176.out⟩, ⟨S.bA⟩⟩
 case round =>
  clear H'
  obtain ⟨x5_1, x11_1, rfl, HA, HK1, HO_5, HB⟩ := hrel
  cases gk with
  | zero => exact absurd HA.out (by simp [impl_StreetsFrom.l0])
  | succ k1 =>
   have H := HA.out
   clear HA
   simp only [impl_StreetsFrom.l0] at H
   replace H := S.dc H; rcases H with ⟨H, c5b0⟩ | ⟨H, c5b0⟩
   ·by_cases c6 : 0 ≤ x11_1
    ·rw [if_pos c6] at H
     have c6b0 : decide (0 ≤ x11_1) = true := decide_eq_true c6
     clear c6
     by_cases c7 : x11_1 < (l0.length : Int)
     ·rw [if_pos c7] at H
      have c7b0 : decide (x11_1 < (l0.length : Int)) = true := decide_eq_true c7
      clear c7
      by_cases c8 : ((rd_T47 l0 x11_1).f0) = a1
      ·rw [if_pos c8] at H
       have c8b0 : (((rd_T47 l0 x11_1).f0) == a1) = true := beq_iff_eq.mpr c8
       have c8b1 : (((rd_T47 l0 x11_1).f0) != a1) = false := bne_eq_false_iff_eq.mpr c8
       clear c8
       by_cases c9 : x5_1.length < 17592186044416
       ·rw [if_pos c9] at H
        have LMc9 := Aside0.mk c9
        clear c9
        obtain ⟨y179, hy179⟩ : ∃ y_ : List Int, y_ = (x5_1 ++ [(rd_T47 l0 x11_1).f1]) := ⟨_, rfl⟩
        replace H : (impl_StreetsFrom.l0 k1 a1 y179 l0 (l0.length : Int) (wrap64 (x11_1 + 1))) = some r := by first | (rw [hy179]; with_reducible exact H) | (have H2_ := (Option.bind_some _ _).symm.trans H; rw [hy179]; with_reducible exact H2_) | (have H2_ := (Option.bind_some _ _).symm.trans H; with_reducible exact H2_) | with_reducible exact H | (rw [hy179]; exact H) | exact H
        have Ny179 := Aside0.mk hy179
        clear hy179
        have H' := Aside0.mk H
        clear H
        have p177 : 0 ≤ (x11_1 : Int) := S.oD
        have q177 : x11_1 < (l0.length : Int) := S.oD
        obtain ⟨ad177, e177, hx177_0, hx177_1, hx177_2⟩ := at_T47 HR0.out x11_1 p177 q177
        cases e177
        replace hx177_0 := S.hb HB hx177_0
        replace hx177_1 := S.hb HB hx177_1
        replace hx177_2 := S.hb HB hx177_2
        replace p177 := eq_true p177
        replace q177 := eq_true q177
        go_wp2_with (first | ((with_reducible refine gate_dst (N := 7) rfl ?_); refine S.bx 7 (cs := #[.int .i64 0, .int .i64 0, .int .i64 0]) (t := 47) ?_; intro gb178 hg w10 hbox hb; replace HO_5 := S.rb HO_5 hb; have BK178 := Aside0.mk hbox; have GW178 := S.geA hg; have GE178 := S.geA hg; replace HB := S.sA hb; clear hb hbox hg; obtain ⟨Z11a, Z11b, Z11c, Y11a, Y11b, Y11c⟩ := S.c3 BK178.out) | ((with_reducible refine gate_builtin (b := .append) (xs := #[.tmp 19, .tmp 22]) rfl ?_); at_builtin; refine Kd.R_append (Kd.int .i64) (w0 := w) w.heap.size rfl (.tmp 19) (.tmp 22) 31 3 (.int .i64 0) 8 rfl Try.underlying31 info3 rfl (by decide) (by omega) u5 x5_1 ((rd_T47 l0 x11_1).f1) [.int .i64 ((rd_T47 l0 x11_1).f1)] (fun _ => True) (fun _ => False) rfl (by first | (go_simp; done) | (go_simp; rfl)) ?aP (fun _ hk => hk.elim) ?aF ?aO ?aB ?aS ?aL ?_; (case aP => exact rfl); (case aB => exact S.bG); (case aF => exact (fun _ _ => trivial)); (case aO => exact (by (with_reducible repeat (first | apply Kd.R_alloc | apply Kd.R_drewN | apply Kd.R_drew)); exact Kd.R_mono (Kd.R_far (p := ⟨gb178, 2, none⟩) (Kd.R_far (p := ⟨gb178, 1, none⟩) (Kd.R_far (p := ⟨gb178, 0, none⟩) (Kd.R_types HO_5.out BK178.out (by decide)) (fun _ hk => hk.2) (.int .i64 ((rd_T47 l0 x11_1).f0))) (fun _ hk => hk.2) (.int .i64 ((rd_T47 l0 x11_1).f1))) (fun _ hk => hk.2) (.int .i64 ((rd_T47 l0 x11_1).f2))) (fun _ hk => trivial))); (case aS => exact (below_size S.bG)); (case aL => have := LMc9.out; omega); intro v180 w12 ho hb hg hat; rw [← Ny179.out] at ho; have n0_ := Aside0.mk (blk_grown (g := gb178) (o := .cells #[.int .i64 ((rd_T47 l0 x11_1).f0), .int .i64 ((rd_T47 l0 x11_1).f1), .int .i64 ((rd_T47 l0 x11_1).f2)] 47 (0, 0)) (by (with_reducible repeat (first | refine blk_drewN ?_ _ | refine blk_drew ?_ | refine blk_alloc ?_ _)); refine blk_put (cs := #[.int .i64 ((rd_T47 l0 x11_1).f0), .int .i64 ((rd_T47 l0 x11_1).f1), .int .i64 0]) ?_ 2 _ rfl; (with_reducible repeat (first | refine blk_drewN ?_ _ | refine blk_drew ?_ | refine blk_alloc ?_ _)); refine blk_put (cs := #[.int .i64 ((rd_T47 l0 x11_1).f0), .int .i64 0, .int .i64 0]) ?_ 1 _ rfl; (with_reducible repeat (first | refine blk_drewN ?_ _ | refine blk_drew ?_ | refine blk_alloc ?_ _)); refine blk_put (cs := #[.int .i64 0, .int .i64 0, .int .i64 0]) ?_ 0 _ rfl; (with_reducible repeat (first | refine blk_drewN ?_ _ | refine blk_drew ?_ | refine blk_alloc ?_ _)); exact BK178.out) hg (Kd.R_ne HO_5.out BK178.out (by decide))); have n1_ := Aside0.mk (hb); have n2_ := Aside0.mk (ho); clear BK178; clear HB; clear HO_5; have BK178 := n0_; have HB := n1_; have HO181 := n2_; clear n0_ n1_ n2_; clear ho hb hg hat))
        go_roundg k1
        case measure => have := HK1.out; omega
        case rel => exact ⟨(y179), (wrap64 (x11_1 + 1)), S.eA, H', ⟨by have := HK1.out; omega⟩, ⟨S.uR HO181.out⟩, ⟨S.bG⟩⟩
       ·rw [if_neg c9] at H
        exact absurd H (by simp)
      ·rw [if_neg c8] at H
       have c8b0 : (((rd_T47 l0 x11_1).f0) == a1) = false := beq_eq_false_iff_ne.mpr c8
       have c8b1 : (((rd_T47 l0 x11_1).f0) != a1) = true := bne_iff_ne.mpr c8
       have H' := Aside0.mk H
       clear H
       have p177 : 0 ≤ (x11_1 : Int) := S.oD
       have q177 : x11_1 < (l0.length : Int) := S.oD
       obtain ⟨ad177, e177, hx177_0, hx177_1, hx177_2⟩ := at_T47 HR0.out x11_1 p177 q177
       cases e177
       replace hx177_0 := S.hb HB hx177_0
       replace hx177_1 := S.hb HB hx177_1
       replace hx177_2 := S.hb HB hx177_2
       replace p177 := eq_true p177
       replace q177 := eq_true q177
       go_wp2_with (first | ((with_reducible refine gate_dst (N := 7) rfl ?_); refine S.bx 7 (cs := #[.int .i64 0, .int .i64 0, .int .i64 0]) (t := 47) ?_; intro gb178 hg w13 hbox hb; replace HO_5 := S.rb HO_5 hb; have BK178 := Aside0.mk hbox; have GW178 := S.geA hg; have GE178 := S.geA hg; replace HB := S.sA hb; clear hb hbox hg; obtain ⟨Z14a, Z14b, Z14c, Y14a, Y14b, Y14c⟩ := S.c3 BK178.out))
       go_roundg k1
       case measure => have := HK1.out; omega
       case rel => exact ⟨(x5_1), (wrap64 (x11_1 + 1)), S.eA, H', ⟨by have := HK1.out; omega⟩, ⟨by (with_reducible repeat (first | apply Kd.R_alloc | apply Kd.R_drewN | apply Kd.R_drew)); exact Kd.R_mono (Kd.R_far (p := ⟨gb178, 2, none⟩) (Kd.R_far (p := ⟨gb178, 1, none⟩) (Kd.R_far (p := ⟨gb178, 0, none⟩) (Kd.R_types HO_5.out BK178.out (by decide)) (fun _ hk => hk.2) (.int .i64 ((rd_T47 l0 x11_1).f0))) (fun _ hk => hk.2) (.int .i64 ((rd_T47 l0 x11_1).f1))) (fun _ hk => hk.2) (.int .i64 ((rd_T47 l0 x11_1).f2))) (fun _ hk => trivial)⟩, ⟨S.bG⟩⟩
     ·rw [if_neg c7] at H
      exact absurd H (by simp)
    ·rw [if_neg c6] at H
     exact absurd H (by simp)
   ·by_cases cL : x5_1.length < 4611686018427387904
    ·rw [if_pos cL] at H
     obtain rfl := Option.some.inj H
     go_wp2_with (first | (go_at_call 68; refine (Go.Proofs.Ytdaofiiedclmpaa.Srt.sort_row cL HB.out HO_5.out).mono ?_; rintro e w' ⟨rfl, hR_, hB_⟩; have n0_ := Aside0.mk hR_; have n1_ := Aside0.mk hB_; clear hR_ hB_ HO_5 HB; have HO_5 := n0_; have HB := n1_; clear n0_ n1_) | (go_at_call 69; refine (Go.Proofs.Ytdaofiiedclmpaa.Srt.compact_row HB.out HO_5.out).mono ?_; rintro e w' ⟨v_, rfl, hR_, hB_⟩; have n0_ := Aside0.mk hR_; have n1_ := Aside0.mk hB_; clear hR_ hB_ HO_5 HB; have HO_5 := n0_; have HB := n1_; clear n0_ n1_))
     go_ret
     exact ⟨_, rfl, HO_5.out, HB.out⟩
    ·rw [if_neg cL] at H
     exact absurd H (by simp)

/-! ### laws_FnExactStreetsFrom: function 8 -/
def laws_FnExactStreetsFrom.j0 : Nat → List (S79) → Int → List Int → List Int → Bool → Option (Bool)
 | 0, _, _, _, _, _ => none
 | k + 1, x0, x1, x6, x8, x46 => if x46 = true then (some false) else ((laws_markIntS.f k x8 1).bind fun bt203 => ((laws_heldIntS.f k bt203.2 1).bind fun t205 => (if t205 < 0 then (some false) else (if t205 = bt203.1 then ((laws_toStreetS.f k x0).bind fun t206 => ((impl_StreetsFrom.f k t206 x1).bind fun t209 => ((laws_eqIntS.f k t209 x6).bind fun t212 => (if t212 = true then ((laws_heldIntS.f k bt203.2 1).bind fun t213 => (if t213 < 0 then (some false) else (if t213 = bt203.1 then (some true) else (some false)))) else (some false))))) else (some false)))))
def laws_FnExactStreetsFrom.f (k : Nat) (l0 : List (S79)) (a1 : Int) : Option (Bool) := (laws_szStreetS.f l0 1048576).bind fun t182 => (if t182 < 0 then (some true) else ((laws_toStreetS.f k l0).bind fun t183 => ((spec_StreetsFrom.f k t183 a1).bind fun t186 => ((laws_toStreetS.f k l0).bind fun t189 => ((impl_StreetsFrom.f k t189 a1).bind fun t192 => ((laws_eqIntS.f k t192 t186).bind fun t195 => (if t195 = true then ((laws_toStreetS.f k l0).bind fun t196 => ((laws_eqStreetS.f k t189 t196).bind fun t199 => (if t199 = true then ((laws_markStreetS.f k t189 1).bind fun bt200 => (if bt200.1 < 0 then (laws_FnExactStreetsFrom.j0 k l0 a1 t186 t192 true) else ((laws_eqIntS.f k t192 t186).bind fun t202 => (laws_FnExactStreetsFrom.j0 k l0 a1 t186 t192 (!t202))))) else (some false)))) else (some false))))))))
set_option maxHeartbeats 8000000 in
set_option maxRecDepth 100000 in
theorem laws_FnExactStreetsFrom.calls (k : Nat) (A0 : Option Addr) (c0 : Nat) (l0 : List (S79)) (a1 : Int) (r : Bool) (w : World) (hr0 : Kd.C k79 w A0 l0.length l0) (hc0 : l0.length ≤ c0) (h : laws_FnExactStreetsFrom.f k l0 a1 = some r) :
  Calls Try.prog 8 #[.slice A0 l0.length c0, .int .i64 a1] w fun e w' => e = .returned (.bool r) ∧ Below w.heap.size w w' := by
 have HR0 := Aside0.mk hr0
 have HC0 := Aside0.mk hc0
 clear hr0 hc0
 have HB := Aside0.mk (Below.refl w.heap.size w)
 have H : ((laws_szStreetS.f l0 1048576).bind fun t182 => (if t182 < 0 then (some true) else ((laws_toStreetS.f k l0).bind fun t183 => ((spec_StreetsFrom.f k t183 a1).bind fun t186 => ((laws_toStreetS.f k l0).bind fun t189 => ((impl_StreetsFrom.f k t189 a1).bind fun t192 => ((laws_eqIntS.f k t192 t186).bind fun t195 => (if t195 = true then ((laws_toStreetS.f k l0).bind fun t196 => ((laws_eqStreetS.f k t189 t196).bind fun t199 => (if t199 = true then ((laws_markStreetS.f k t189 1).bind fun bt200 => (if bt200.1 < 0 then (laws_FnExactStreetsFrom.j0 k l0 a1 t186 t192 true) else ((laws_eqIntS.f k t192 t186).bind fun t202 => (laws_FnExactStreetsFrom.j0 k l0 a1 t186 t192 (!t202))))) else (some false)))) else (some false))))))))) = some r := h
 clear h
 replace H := S.bd H; obtain ⟨t182, A3, H⟩ := H
 (try dsimp only at H)
 replace H := S.dc H; rcases H with ⟨H, c4b0⟩ | ⟨H, c4b0⟩
 ·obtain rfl := Option.some.inj H
  go_enter Try.func8, Try.ntmps8
  go_wp2_with (first | ((with_reducible refine gate_callee (f := 15) rfl ?_); refine S.gL (some 15) Try.func15 #[.slice A0 l0.length c0, .int .i64 1048576] ?_; (with_reducible refine (laws_szStreetS.calls _ _ l0 1048576 t182 _ ?s1 HC0.out A3.out).mono ?_); (case s1 => repeat (first | exact HR0.out | (with_reducible refine Kd.C_alloc ?_ _) | (with_reducible refine Kd.C_drewN ?_ _) | (with_reducible refine Kd.C_drew ?_))); rintro e w' ⟨rfl, ⟨nd, rfl⟩⟩; refine ⟨_, rfl, ?_⟩))
  go_ret
  exact ⟨S.eW, S.bA⟩
 ·replace H := Option.bind_eq_some_iff.mp H
  obtain ⟨t183, A50, H⟩ := H
  replace H : ((spec_StreetsFrom.f k t183 a1).bind fun t186 => ((laws_toStreetS.f k l0).bind fun t189 => ((impl_StreetsFrom.f k t189 a1).bind fun t192 => ((laws_eqIntS.f k t192 t186).bind fun t195 => (if t195 = true then ((laws_toStreetS.f k l0).bind fun t196 => ((laws_eqStreetS.f k t189 t196).bind fun t199 => (if t199 = true then ((laws_markStreetS.f k t189 1).bind fun bt200 => (if bt200.1 < 0 then (laws_FnExactStreetsFrom.j0 k l0 a1 t186 t192 true) else ((laws_eqIntS.f k t192 t186).bind fun t202 => (laws_FnExactStreetsFrom.j0 k l0 a1 t186 t192 (!t202))))) else (some false)))) else (some false)))))) = some r := H
  have A5 := Aside0.mk A50
  clear A50
  replace H := S.bd H; obtain ⟨t186, A6, H⟩ := H
  (try dsimp only at H)
  replace H := S.bd H; obtain ⟨t189, A7, H⟩ := H
  (try dsimp only at H)
  replace H := S.bd H; obtain ⟨t192, A8, H⟩ := H
  (try dsimp only at H)
  replace H := S.bd H; obtain ⟨t195, A9, H⟩ := H
  (try dsimp only at H)
  replace H := S.db H; rcases H with ⟨rfl, H⟩ | ⟨rfl, H⟩
  ·replace H := S.bd H; obtain ⟨t196, A11, H⟩ := H
   (try dsimp only at H)
   replace H := S.bd H; obtain ⟨t199, A12, H⟩ := H
   (try dsimp only at H)
   replace H := S.db H; rcases H with ⟨rfl, H⟩ | ⟨rfl, H⟩
   ·replace H := S.bd H; obtain ⟨⟨t200, t201⟩, A14, H⟩ := H
    (try dsimp only at H)
    have HC15 := Aside0.mk H
    clear H
    go_enter Try.func8, Try.ntmps8
    go_upto_region 14 with (first | ((with_reducible refine gate_callee (f := 15) rfl ?_); refine S.gL (some 15) Try.func15 #[.slice A0 l0.length c0, .int .i64 1048576] ?_; (with_reducible refine (laws_szStreetS.calls _ _ l0 1048576 t182 _ ?s1 HC0.out A3.out).mono ?_); (case s1 => repeat (first | exact HR0.out | (with_reducible refine Kd.C_alloc ?_ _) | (with_reducible refine Kd.C_drewN ?_ _) | (with_reducible refine Kd.C_drew ?_))); rintro e w' ⟨rfl, ⟨nd, rfl⟩⟩; refine ⟨_, rfl, ?_⟩) | ((with_reducible refine gate_callee (f := 17) rfl ?_); refine S.gL (some 19) Try.func17 #[.slice A0 l0.length c0] ?_; (with_reducible refine (laws_toStreetS.calls k _ _ l0 t183 _ ?s1 HC0.out A5.out).mono ?_); (case s1 => repeat (first | exact HR0.out | (with_reducible refine Kd.C_alloc ?_ _) | (with_reducible refine Kd.C_drewN ?_ _) | (with_reducible refine Kd.C_drew ?_))); rintro e w16 ⟨v184, rfl, ho0, hb⟩; refine ⟨_, rfl, ?_⟩; have HO185 := S.lwA ho0; replace HB := S.sA hb; (try clear hb); (try clear ho0); obtain ⟨Ao17, co17, eo17⟩ := Kd.R_slice HO185.out; subst eo17) | ((with_reducible refine gate_callee (f := 33) rfl ?_); refine S.gL (some 21) Try.func33 #[.slice Ao17 t183.length co17, .int .i64 a1] ?_; (with_reducible refine (spec_StreetsFrom.calls k _ _ t183 a1 t186 _ ?s1 (S.rl HO185) A6.out).mono ?_); (case s1 => exact S.rd HO185); rintro e w18 ⟨v187, rfl, ho0, hb⟩; refine ⟨_, rfl, ?_⟩; replace HO185 := S.rb HO185 hb; have HO188 := S.lwA ho0; replace HB := S.sA hb; (try clear hb); (try clear ho0)) | ((with_reducible refine gate_callee (f := 17) rfl ?_); refine S.gL (some 23) Try.func17 #[.slice A0 l0.length c0] ?_; (with_reducible refine (laws_toStreetS.calls k _ _ l0 t189 _ ?s1 HC0.out A7.out).mono ?_); (case s1 => exact S.cA HR0.out); rintro e w19 ⟨v190, rfl, ho0, hb⟩; refine ⟨_, rfl, ?_⟩; replace HO188 := S.rb HO188 hb; have HO191 := S.rnA ho0 HO185; replace HO185 := S.re HO185 ho0 hb; replace HB := S.sA hb; (try clear hb); (try clear ho0); obtain ⟨Ao20, co20, eo20⟩ := Kd.R_slice HO191.out; subst eo20) | ((with_reducible refine gate_callee (f := 34) rfl ?_); refine S.gL (some 26) Try.func34 #[.slice Ao20 t189.length co20, .int .i64 a1] ?_; (with_reducible refine (impl_StreetsFrom.calls k _ _ t189 a1 t192 _ ?s1 (S.rl HO191) A8.out).mono ?_); (case s1 => exact S.rd HO191); rintro e w21 ⟨v193, rfl, ho0, hb⟩; refine ⟨_, rfl, ?_⟩; replace HO185 := S.rb HO185 hb; replace HO191 := S.rb HO191 hb; have HO194 := S.rnA ho0 HO188; replace HO188 := S.re HO188 ho0 hb; replace HB := S.sA hb; (try clear hb); (try clear ho0); obtain ⟨Ao22, co22, eo22⟩ := Kd.R_slice HO194.out; subst eo22; obtain ⟨Ao23, co23, eo23⟩ := Kd.R_slice HO188.out; subst eo23) | ((with_reducible refine gate_callee (f := 24) rfl ?_); refine S.gL (some 29) Try.func24 #[.slice Ao22 t192.length co22, .slice Ao23 t186.length co23] ?_; (with_reducible refine (laws_eqIntS.calls k _ _ t192 _ _ t186 true _ ?s1 (S.rl HO194) ?s3 (S.rl HO188) A9.out).mono ?_); (case s1 => exact S.rd HO194); (case s3 => exact S.rd HO188); rintro e w' ⟨rfl, ⟨nd, rfl⟩⟩; refine ⟨_, rfl, ?_⟩) | ((with_reducible refine gate_callee (f := 17) rfl ?_); refine S.gL (some 33) Try.func17 #[.slice A0 l0.length c0] ?_; (with_reducible refine (laws_toStreetS.calls k _ _ l0 t196 _ ?s1 HC0.out A11.out).mono ?_); (case s1 => repeat (first | exact (Kd.C_below HR0.out S.bA) | (with_reducible refine Kd.C_alloc ?_ _) | (with_reducible refine Kd.C_drewN ?_ _) | (with_reducible refine Kd.C_drew ?_))); rintro e w24 ⟨v197, rfl, ho0, hb⟩; refine ⟨_, rfl, ?_⟩; replace HO188 := S.rb HO188 hb; replace HO194 := S.rb HO194 hb; have HO198 := Aside0.mk (Kd.R_lower (Kd.R_new' (Kd.R_new' ho0 (Kd.R_lt (S.uR HO185.out))) (Kd.R_lt (S.uR HO191.out))) (below_size S.bA)); replace HO185 := S.re HO185 ho0 hb; replace HO191 := S.re HO191 ho0 hb; replace HB := S.sA hb; (try clear hb); (try clear ho0); obtain ⟨Ao25, co25, eo25⟩ := Kd.R_slice HO198.out; subst eo25) | ((with_reducible refine gate_callee (f := 19) rfl ?_); refine S.gL (some 34) Try.func19 #[.slice Ao20 t189.length co20, .slice Ao25 t196.length co25] ?_; (with_reducible refine (laws_eqStreetS.calls k _ _ t189 _ _ t196 true _ ?s1 (S.rl HO191) ?s3 (S.rl HO198) A12.out).mono ?_); (case s1 => exact S.rd HO191); (case s3 => exact S.rd HO198); rintro e w26 ⟨rfl, hb⟩; refine ⟨_, rfl, ?_⟩; replace HO185 := S.rb HO185 hb; replace HO188 := S.rb HO188 hb; replace HO191 := S.rb HO191 hb; replace HO194 := S.rb HO194 hb; replace HO198 := S.rb HO198 hb; replace HB := S.sA hb; (try clear hb)) | ((with_reducible refine gate_callee (f := 25) rfl ?_); refine S.gL (some 38) Try.func25 #[.slice Ao20 t189.length co20, .int .i64 1] ?_; (with_reducible refine (laws_markStreetS.calls k (fun k_ => some k_ = (.slice Ao20 t189.length co20 : Value).ownBlock) (.slice Ao20 t189.length co20) t189 1 t200 t201 w _ ?s1 ?s2 A14.out).mono ?_); (case s1 => exact S.bA); (case s2 => exact Kd.R_tight rfl HO191.out); rintro e w27 ⟨rfl, hy0, hb, hkp⟩; refine ⟨_, rfl, ?_⟩; replace HO185 := Aside0.mk (Kd.R_mono (ok' := fun k_ => S.N k_ (.slice Ao20 t189.length co20) ∧ S.N k_ (.slice Ao25 t196.length co25)) (Kd.R_keptB (HO185.out) hkp (fun k_ hk_ hs_ => (hk_.1.2) hs_)) (fun k_ hk_ => ⟨hk_.1.1.2, hk_.1.2⟩)); replace HO188 := Aside0.mk (Kd.R_mono (ok' := fun k_ => S.N k_ (.slice Ao22 t192.length co22)) (Kd.R_keptB ((Kd.R_apart' HO188.out (Kd.R_typed HO191.out) (by decide))) hkp (fun k_ hk_ hs_ => (hk_.2) hs_)) (fun k_ hk_ => hk_.1.1.2)); replace HO194 := Aside0.mk (Kd.R_mono (ok' := fun k_ => S.N k_ (.slice Ao23 t186.length co23)) (Kd.R_keptB ((Kd.R_apart' HO194.out (Kd.R_typed HO191.out) (by decide))) hkp (fun k_ hk_ hs_ => (hk_.2) hs_)) (fun k_ hk_ => hk_.1.1.2)); replace HO191 := Aside0.mk (Kd.R_reok rfl hy0 (fun k_ e_ => HO191.out.1 k_ e_)); replace HO198 := Aside0.mk (Kd.R_mono (ok' := fun k_ => S.N k_ (.slice Ao17 t183.length co17) ∧ S.N k_ (.slice Ao20 t189.length co20)) (Kd.R_keptB (HO198.out) hkp (fun k_ hk_ hs_ => (hk_.2) hs_)) (fun k_ hk_ => ⟨hk_.1.1.2, hk_.1.2⟩)); replace HB := Aside0.mk (hb); (try clear hb); (try clear hkp); (try clear hy0)))
    (try simp only [Act.put, List.setIfInBounds_toArray, List.set_cons_zero, List.set_cons_succ])
    go_cut [46] (fun v46 wc => ∃ (kq : Nat) (x46_14 : Bool), v46 = .bool x46_14 ∧ Aside0 (laws_FnExactStreetsFrom.j0 kq l0 a1 t186 t192 x46_14 = some r) ∧ Aside0 (kq ≤ k) ∧ Aside0 (Kd.R (Kd.int .i64) 3 wc w.heap.size (fun k_ => some k_ ≠ ((.slice Ao22 t192.length co22) : Value).ownBlock) (.slice Ao23 t186.length co23) t186) ∧ Aside0 (Kd.R (Kd.int .i64) 3 wc w.heap.size (fun k_ => some k_ ≠ ((.slice Ao23 t186.length co23) : Value).ownBlock) (.slice Ao22 t192.length co22) t192) ∧ Aside0 (Below w.heap.size w wc))
    case first =>
     have H := HC15.out
     clear HC15
     replace H := S.dc H; rcases H with ⟨H, c28b0⟩ | ⟨H, c28b0⟩
     ·(first | rw [c28b0] | (simp only [i64_w, i32_w]; rw [c28b0]) | skip)
      have H' := Aside0.mk H
      clear H
      go_wp2
      go_meet
      case rel => exact ⟨_, (true), S.eA, H', S.le, ⟨S.uR HO188.out⟩, ⟨S.uR HO194.out⟩, ⟨S.bA⟩⟩
     ·(first | rw [c28b0] | (simp only [i64_w, i32_w]; rw [c28b0]) | skip)
      replace H := S.bd H; obtain ⟨t202, A29, H⟩ := H
      (try dsimp only at H)
      have H' := Aside0.mk H
      clear H
      go_wp2_with (first | (go_at_call 24; (with_reducible refine (laws_eqIntS.calls k _ _ t192 _ _ t186 t202 _ ?s1 (S.rl HO194) ?s3 (S.rl HO188) A29.out).mono ?_); (case s1 => exact S.rd HO194); (case s3 => exact S.rd HO188); rintro e w' ⟨rfl, ⟨nd, rfl⟩⟩))
      go_meet
      case rel => exact ⟨_, (!t202), S.eA, H', S.le, ⟨S.uR HO188.out⟩, ⟨S.uR HO194.out⟩, ⟨S.bA⟩⟩
    case rest =>
     clear HC15
     try clear c4
     try clear c4b0
     try clear c10
     try clear c13
     obtain ⟨kq, x46_14, rfl, HA, HJ14, HO_6, HO_8, HB⟩ := hcut
     cases kq with
     | zero => exact absurd HA.out (by simp [laws_FnExactStreetsFrom.j0])
     | succ kj14 =>
      have H := HA.out
      clear HA
      simp only [laws_FnExactStreetsFrom.j0] at H
      replace H := S.db H; rcases H with ⟨rfl, H⟩ | ⟨rfl, H⟩
      ·obtain rfl := Option.some.inj H
       go_wp2
       go_ret
       exact ⟨S.eW, S.bA⟩
      ·replace H := S.bd H; obtain ⟨⟨t203, t204⟩, A31, H⟩ := H
       (try dsimp only at H)
       replace H := S.bd H; obtain ⟨t205, A32, H⟩ := H
       (try dsimp only at H)
       replace H := S.dc H; rcases H with ⟨H, c33b0⟩ | ⟨H, c33b0⟩
       ·obtain rfl := Option.some.inj H
        go_wp2_with (first | ((with_reducible refine gate_callee (f := 26) rfl ?_); refine S.gL (some 49) Try.func26 #[.slice Ao22 t192.length co22, .int .i64 1] ?_; (with_reducible refine (laws_markIntS.calls kj14 (fun k_ => some k_ = (.slice Ao22 t192.length co22 : Value).ownBlock) (.slice Ao22 t192.length co22) t192 1 t203 t204 w _ ?s1 ?s2 A31.out).mono ?_); (case s1 => exact S.bA); (case s2 => exact Kd.R_tight rfl HO_8.out); rintro e w34 ⟨rfl, hy0, hb, hkp⟩; refine ⟨_, rfl, ?_⟩; replace HO_6 := Aside0.mk (Kd.R_mono (ok' := fun k_ => S.N k_ (.slice Ao22 t192.length co22)) (Kd.R_keptB (HO_6.out) hkp (fun k_ hk_ hs_ => (hk_) hs_)) (fun k_ hk_ => hk_.1)); replace HO_8 := Aside0.mk (Kd.R_reok rfl hy0 (fun k_ e_ => HO_8.out.1 k_ e_)); replace HB := Aside0.mk (hb); (try clear hb); (try clear hkp); (try clear hy0)) | ((with_reducible refine gate_callee (f := 27) rfl ?_); refine goesL_ (some 52) rfl rfl Try.func27 (by kernel_rfl) rfl #[.slice Ao22 t204.length co22, .int .i64 1] rfl (by (try simp only [List.map_toArray, List.map_cons, List.map_nil]); first | done | (rw [show t204.length = t192.length from (Kd.R_reads' HO_8.out).1.symm] <;> rfl) | rfl | (simp only [List.length_drop, List.length_take]; rfl)) ?_; (with_reducible refine (laws_heldIntS.calls kj14 _ _ t204 1 t205 _ ?s1 ?s2 A32.out).mono ?_); (case s1 => exact S.rd HO_8); (case s2 => rw [show t204.length = t192.length from (Kd.R_reads' HO_8.out).1.symm]; exact S.rl HO_8); rintro e w' ⟨rfl, ⟨nd, rfl⟩⟩; refine ⟨_, rfl, ?_⟩))
        go_ret
        exact ⟨S.eW, S.bA⟩
       ·by_cases c35 : t205 = t203
        ·rw [if_pos c35] at H
         have c35b0 : (t205 == t203) = true := beq_iff_eq.mpr c35
         have c35b1 : (t205 != t203) = false := bne_eq_false_iff_eq.mpr c35
         clear c35
         replace H := S.bd H; obtain ⟨t206, A36, H⟩ := H
         (try dsimp only at H)
         replace H := S.bd H; obtain ⟨t209, A37, H⟩ := H
         (try dsimp only at H)
         replace H := S.bd H; obtain ⟨t212, A38, H⟩ := H
         (try dsimp only at H)
         replace H := S.db H; rcases H with ⟨rfl, H⟩ | ⟨rfl, H⟩
         ·replace H := S.bd H; obtain ⟨t213, A40, H⟩ := H
          (try dsimp only at H)
          replace H := S.dc H; rcases H with ⟨H, c41b0⟩ | ⟨H, c41b0⟩
          ·obtain rfl := Option.some.inj H
           go_wp2_with (first | ((with_reducible refine gate_callee (f := 26) rfl ?_); refine S.gL (some 49) Try.func26 #[.slice Ao22 t192.length co22, .int .i64 1] ?_; (with_reducible refine (laws_markIntS.calls kj14 (fun k_ => some k_ = (.slice Ao22 t192.length co22 : Value).ownBlock) (.slice Ao22 t192.length co22) t192 1 t203 t204 w _ ?s1 ?s2 A31.out).mono ?_); (case s1 => exact S.bA); (case s2 => exact Kd.R_tight rfl HO_8.out); rintro e w42 ⟨rfl, hy0, hb, hkp⟩; refine ⟨_, rfl, ?_⟩; replace HO_6 := Aside0.mk (Kd.R_mono (ok' := fun k_ => S.N k_ (.slice Ao22 t192.length co22)) (Kd.R_keptB (HO_6.out) hkp (fun k_ hk_ hs_ => (hk_) hs_)) (fun k_ hk_ => hk_.1)); replace HO_8 := Aside0.mk (Kd.R_reok rfl hy0 (fun k_ e_ => HO_8.out.1 k_ e_)); replace HB := Aside0.mk (hb); (try clear hb); (try clear hkp); (try clear hy0)) | ((with_reducible refine gate_callee (f := 27) rfl ?_); refine goesL_ (some 52) rfl rfl Try.func27 (by kernel_rfl) rfl #[.slice Ao22 t204.length co22, .int .i64 1] rfl (by (try simp only [List.map_toArray, List.map_cons, List.map_nil]); first | done | (rw [show t204.length = t192.length from (Kd.R_reads' HO_8.out).1.symm] <;> rfl) | rfl | (simp only [List.length_drop, List.length_take]; rfl)) ?_; (with_reducible refine (laws_heldIntS.calls kj14 _ _ t204 1 t205 _ ?s1 ?s2 A32.out).mono ?_); (case s1 => exact S.rd HO_8); (case s2 => rw [show t204.length = t192.length from (Kd.R_reads' HO_8.out).1.symm]; exact S.rl HO_8); rintro e w' ⟨rfl, ⟨nd, rfl⟩⟩; refine ⟨_, rfl, ?_⟩) | ((with_reducible refine gate_callee (f := 17) rfl ?_); refine S.gL (some 59) Try.func17 #[.slice A0 l0.length c0] ?_; (with_reducible refine (laws_toStreetS.calls kj14 _ _ l0 t206 _ ?s1 HC0.out A36.out).mono ?_); (case s1 => repeat (first | exact (Kd.C_below HR0.out S.bA) | (with_reducible refine Kd.C_alloc ?_ _) | (with_reducible refine Kd.C_drewN ?_ _) | (with_reducible refine Kd.C_drew ?_))); rintro e w43 ⟨v207, rfl, ho0, hb⟩; refine ⟨_, rfl, ?_⟩; replace HO_6 := S.rb HO_6 hb; replace HO_8 := S.rb HO_8 hb; have HO208 := S.lwA ho0; replace HB := S.sA hb; (try clear hb); (try clear ho0); obtain ⟨Ao44, co44, eo44⟩ := Kd.R_slice HO208.out; subst eo44) | ((with_reducible refine gate_callee (f := 34) rfl ?_); refine S.gL (some 61) Try.func34 #[.slice Ao44 t206.length co44, .int .i64 a1] ?_; (with_reducible refine (impl_StreetsFrom.calls kj14 _ _ t206 a1 t209 _ ?s1 (S.rl HO208) A37.out).mono ?_); (case s1 => exact S.rd HO208); rintro e w45 ⟨v210, rfl, ho0, hb⟩; refine ⟨_, rfl, ?_⟩; replace HO208 := S.rb HO208 hb; have HO211 := Aside0.mk (Kd.R_lower (Kd.R_new' (Kd.R_new' ho0 (Kd.R_lt (S.uR HO_6.out))) (Kd.R_lt (S.uR HO_8.out))) (below_size S.bA)); replace HO_6 := S.re HO_6 ho0 hb; replace HO_8 := S.re HO_8 ho0 hb; replace HB := S.sA hb; (try clear hb); (try clear ho0); obtain ⟨Ao46, co46, eo46⟩ := Kd.R_slice HO211.out; subst eo46) | ((with_reducible refine gate_callee (f := 24) rfl ?_); refine S.gL (some 64) Try.func24 #[.slice Ao46 t209.length co46, .slice Ao23 t186.length co23] ?_; (with_reducible refine (laws_eqIntS.calls kj14 _ _ t209 _ _ t186 true _ ?s1 (S.rl HO211) ?s3 (S.rl HO_6) A38.out).mono ?_); (case s1 => exact S.rd HO211); (case s3 => exact S.rd HO_6); rintro e w' ⟨rfl, ⟨nd, rfl⟩⟩; refine ⟨_, rfl, ?_⟩) | ((with_reducible refine gate_callee (f := 27) rfl ?_); refine goesL_ (some 68) rfl rfl Try.func27 (by kernel_rfl) rfl #[.slice Ao22 t204.length co22, .int .i64 1] rfl (by (try simp only [List.map_toArray, List.map_cons, List.map_nil]); first | done | (rw [show t204.length = t192.length from (Kd.R_reads' HO_8.out).1.symm] <;> rfl) | rfl | (simp only [List.length_drop, List.length_take]; rfl)) ?_; (with_reducible refine (laws_heldIntS.calls kj14 _ _ t204 1 t213 _ ?s1 ?s2 A40.out).mono ?_); (case s1 => exact S.rd HO_8); (case s2 => rw [show t204.length = t192.length from (Kd.R_reads' HO_8.out).1.symm]; exact S.rl HO_8); rintro e w' ⟨rfl, ⟨nd, rfl⟩⟩; refine ⟨_, rfl, ?_⟩))
           go_ret
           exact ⟨S.eW, S.bA⟩
          ·by_cases c47 : t213 = t203
           ·rw [if_pos c47] at H
            have c47b0 : (t213 == t203) = true := beq_iff_eq.mpr c47
            have c47b1 : (t213 != t203) = false := bne_eq_false_iff_eq.mpr c47
            clear c47
            obtain rfl := Option.some.inj H
            go_wp2_with (first | ((with_reducible refine gate_callee (f := 26) rfl ?_); refine S.gL (some 49) Try.func26 #[.slice Ao22 t192.length co22, .int .i64 1] ?_; (with_reducible refine (laws_markIntS.calls kj14 (fun k_ => some k_ = (.slice Ao22 t192.length co22 : Value).ownBlock) (.slice Ao22 t192.length co22) t192 1 t203 t204 w _ ?s1 ?s2 A31.out).mono ?_); (case s1 => exact S.bA); (case s2 => exact Kd.R_tight rfl HO_8.out); rintro e w48 ⟨rfl, hy0, hb, hkp⟩; refine ⟨_, rfl, ?_⟩; replace HO_6 := Aside0.mk (Kd.R_mono (ok' := fun k_ => S.N k_ (.slice Ao22 t192.length co22)) (Kd.R_keptB (HO_6.out) hkp (fun k_ hk_ hs_ => (hk_) hs_)) (fun k_ hk_ => hk_.1)); replace HO_8 := Aside0.mk (Kd.R_reok rfl hy0 (fun k_ e_ => HO_8.out.1 k_ e_)); replace HB := Aside0.mk (hb); (try clear hb); (try clear hkp); (try clear hy0)) | ((with_reducible refine gate_callee (f := 27) rfl ?_); refine goesL_ (some 52) rfl rfl Try.func27 (by kernel_rfl) rfl #[.slice Ao22 t204.length co22, .int .i64 1] rfl (by (try simp only [List.map_toArray, List.map_cons, List.map_nil]); first | done | (rw [show t204.length = t192.length from (Kd.R_reads' HO_8.out).1.symm] <;> rfl) | rfl | (simp only [List.length_drop, List.length_take]; rfl)) ?_; (with_reducible refine (laws_heldIntS.calls kj14 _ _ t204 1 t205 _ ?s1 ?s2 A32.out).mono ?_); (case s1 => exact S.rd HO_8); (case s2 => rw [show t204.length = t192.length from (Kd.R_reads' HO_8.out).1.symm]; exact S.rl HO_8); rintro e w' ⟨rfl, ⟨nd, rfl⟩⟩; refine ⟨_, rfl, ?_⟩) | ((with_reducible refine gate_callee (f := 17) rfl ?_); refine S.gL (some 59) Try.func17 #[.slice A0 l0.length c0] ?_; (with_reducible refine (laws_toStreetS.calls kj14 _ _ l0 t206 _ ?s1 HC0.out A36.out).mono ?_); (case s1 => repeat (first | exact (Kd.C_below HR0.out S.bA) | (with_reducible refine Kd.C_alloc ?_ _) | (with_reducible refine Kd.C_drewN ?_ _) | (with_reducible refine Kd.C_drew ?_))); rintro e w49 ⟨v207, rfl, ho0, hb⟩; refine ⟨_, rfl, ?_⟩; replace HO_6 := S.rb HO_6 hb; replace HO_8 := S.rb HO_8 hb; have HO208 := S.lwA ho0; replace HB := S.sA hb; (try clear hb); (try clear ho0); obtain ⟨Ao50, co50, eo50⟩ := Kd.R_slice HO208.out; subst eo50) | ((with_reducible refine gate_callee (f := 34) rfl ?_); refine S.gL (some 61) Try.func34 #[.slice Ao50 t206.length co50, .int .i64 a1] ?_; (with_reducible refine (impl_StreetsFrom.calls kj14 _ _ t206 a1 t209 _ ?s1 (S.rl HO208) A37.out).mono ?_); (case s1 => exact S.rd HO208); rintro e w51 ⟨v210, rfl, ho0, hb⟩; refine ⟨_, rfl, ?_⟩; replace HO208 := S.rb HO208 hb; have HO211 := Aside0.mk (Kd.R_lower (Kd.R_new' (Kd.R_new' ho0 (Kd.R_lt (S.uR HO_6.out))) (Kd.R_lt (S.uR HO_8.out))) (below_size S.bA)); replace HO_6 := S.re HO_6 ho0 hb; replace HO_8 := S.re HO_8 ho0 hb; replace HB := S.sA hb; (try clear hb); (try clear ho0); obtain ⟨Ao52, co52, eo52⟩ := Kd.R_slice HO211.out; subst eo52) | ((with_reducible refine gate_callee (f := 24) rfl ?_); refine S.gL (some 64) Try.func24 #[.slice Ao52 t209.length co52, .slice Ao23 t186.length co23] ?_; (with_reducible refine (laws_eqIntS.calls kj14 _ _ t209 _ _ t186 true _ ?s1 (S.rl HO211) ?s3 (S.rl HO_6) A38.out).mono ?_); (case s1 => exact S.rd HO211); (case s3 => exact S.rd HO_6); rintro e w' ⟨rfl, ⟨nd, rfl⟩⟩; refine ⟨_, rfl, ?_⟩) | ((with_reducible refine gate_callee (f := 27) rfl ?_); refine goesL_ (some 68) rfl rfl Try.func27 (by kernel_rfl) rfl #[.slice Ao22 t204.length co22, .int .i64 1] rfl (by (try simp only [List.map_toArray, List.map_cons, List.map_nil]); first | done | (rw [show t204.length = t192.length from (Kd.R_reads' HO_8.out).1.symm] <;> rfl) | rfl | (simp only [List.length_drop, List.length_take]; rfl)) ?_; (with_reducible refine (laws_heldIntS.calls kj14 _ _ t204 1 t213 _ ?s1 ?s2 A40.out).mono ?_); (case s1 => exact S.rd HO_8); (case s2 => rw [show t204.length = t192.length from (Kd.R_reads' HO_8.out).1.symm]; exact S.rl HO_8); rintro e w' ⟨rfl, ⟨nd, rfl⟩⟩; refine ⟨_, rfl, ?_⟩))
            go_ret
            exact ⟨S.eW, S.bA⟩
           ·rw [if_neg c47] at H
            have c47b0 : (t213 == t203) = false := beq_eq_false_iff_ne.mpr c47
            have c47b1 : (t213 != t203) = true := bne_iff_ne.mpr c47
            obtain rfl := Option.some.inj H
            go_wp2_with (first | ((with_reducible refine gate_callee (f := 26) rfl ?_); refine S.gL (some 49) Try.func26 #[.slice Ao22 t192.length co22, .int .i64 1] ?_; (with_reducible refine (laws_markIntS.calls kj14 (fun k_ => some k_ = (.slice Ao22 t192.length co22 : Value).ownBlock) (.slice Ao22 t192.length co22) t192 1 t203 t204 w _ ?s1 ?s2 A31.out).mono ?_); (case s1 => exact S.bA); (case s2 => exact Kd.R_tight rfl HO_8.out); rintro e w53 ⟨rfl, hy0, hb, hkp⟩; refine ⟨_, rfl, ?_⟩; replace HO_6 := Aside0.mk (Kd.R_mono (ok' := fun k_ => S.N k_ (.slice Ao22 t192.length co22)) (Kd.R_keptB (HO_6.out) hkp (fun k_ hk_ hs_ => (hk_) hs_)) (fun k_ hk_ => hk_.1)); replace HO_8 := Aside0.mk (Kd.R_reok rfl hy0 (fun k_ e_ => HO_8.out.1 k_ e_)); replace HB := Aside0.mk (hb); (try clear hb); (try clear hkp); (try clear hy0)) | ((with_reducible refine gate_callee (f := 27) rfl ?_); refine goesL_ (some 52) rfl rfl Try.func27 (by kernel_rfl) rfl #[.slice Ao22 t204.length co22, .int .i64 1] rfl (by (try simp only [List.map_toArray, List.map_cons, List.map_nil]); first | done | (rw [show t204.length = t192.length from (Kd.R_reads' HO_8.out).1.symm] <;> rfl) | rfl | (simp only [List.length_drop, List.length_take]; rfl)) ?_; (with_reducible refine (laws_heldIntS.calls kj14 _ _ t204 1 t205 _ ?s1 ?s2 A32.out).mono ?_); (case s1 => exact S.rd HO_8); (case s2 => rw [show t204.length = t192.length from (Kd.R_reads' HO_8.out).1.symm]; exact S.rl HO_8); rintro e w' ⟨rfl, ⟨nd, rfl⟩⟩; refine ⟨_, rfl, ?_⟩) | ((with_reducible refine gate_callee (f := 17) rfl ?_); refine S.gL (some 59) Try.func17 #[.slice A0 l0.length c0] ?_; (with_reducible refine (laws_toStreetS.calls kj14 _ _ l0 t206 _ ?s1 HC0.out A36.out).mono ?_); (case s1 => repeat (first | exact (Kd.C_below HR0.out S.bA) | (with_reducible refine Kd.C_alloc ?_ _) | (with_reducible refine Kd.C_drewN ?_ _) | (with_reducible refine Kd.C_drew ?_))); rintro e w54 ⟨v207, rfl, ho0, hb⟩; refine ⟨_, rfl, ?_⟩; replace HO_6 := S.rb HO_6 hb; replace HO_8 := S.rb HO_8 hb; have HO208 := S.lwA ho0; replace HB := S.sA hb; (try clear hb); (try clear ho0); obtain ⟨Ao55, co55, eo55⟩ := Kd.R_slice HO208.out; subst eo55) | ((with_reducible refine gate_callee (f := 34) rfl ?_); refine S.gL (some 61) Try.func34 #[.slice Ao55 t206.length co55, .int .i64 a1] ?_; (with_reducible refine (impl_StreetsFrom.calls kj14 _ _ t206 a1 t209 _ ?s1 (S.rl HO208) A37.out).mono ?_); (case s1 => exact S.rd HO208); rintro e w56 ⟨v210, rfl, ho0, hb⟩; refine ⟨_, rfl, ?_⟩; replace HO208 := S.rb HO208 hb; have HO211 := Aside0.mk (Kd.R_lower (Kd.R_new' (Kd.R_new' ho0 (Kd.R_lt (S.uR HO_6.out))) (Kd.R_lt (S.uR HO_8.out))) (below_size S.bA)); replace HO_6 := S.re HO_6 ho0 hb; replace HO_8 := S.re HO_8 ho0 hb; replace HB := S.sA hb; (try clear hb); (try clear ho0); obtain ⟨Ao57, co57, eo57⟩ := Kd.R_slice HO211.out; subst eo57) | ((with_reducible refine gate_callee (f := 24) rfl ?_); refine S.gL (some 64) Try.func24 #[.slice Ao57 t209.length co57, .slice Ao23 t186.length co23] ?_; (with_reducible refine (laws_eqIntS.calls kj14 _ _ t209 _ _ t186 true _ ?s1 (S.rl HO211) ?s3 (S.rl HO_6) A38.out).mono ?_); (case s1 => exact S.rd HO211); (case s3 => exact S.rd HO_6); rintro e w' ⟨rfl, ⟨nd, rfl⟩⟩; refine ⟨_, rfl, ?_⟩) | ((with_reducible refine gate_callee (f := 27) rfl ?_); refine goesL_ (some 68) rfl rfl Try.func27 (by kernel_rfl) rfl #[.slice Ao22 t204.length co22, .int .i64 1] rfl (by (try simp only [List.map_toArray, List.map_cons, List.map_nil]); first | done | (rw [show t204.length = t192.length from (Kd.R_reads' HO_8.out).1.symm] <;> rfl) | rfl | (simp only [List.length_drop, List.length_take]; rfl)) ?_; (with_reducible refine (laws_heldIntS.calls kj14 _ _ t204 1 t213 _ ?s1 ?s2 A40.out).mono ?_); (case s1 => exact S.rd HO_8); (case s2 => rw [show t204.length = t192.length from (Kd.R_reads' HO_8.out).1.symm]; exact S.rl HO_8); rintro e w' ⟨rfl, ⟨nd, rfl⟩⟩; refine ⟨_, rfl, ?_⟩))
            go_ret
            exact ⟨S.eW, S.bA⟩
         ·obtain rfl := Option.some.inj H
          go_wp2_with (first | ((with_reducible refine gate_callee (f := 26) rfl ?_); refine S.gL (some 49) Try.func26 #[.slice Ao22 t192.length co22, .int .i64 1] ?_; (with_reducible refine (laws_markIntS.calls kj14 (fun k_ => some k_ = (.slice Ao22 t192.length co22 : Value).ownBlock) (.slice Ao22 t192.length co22) t192 1 t203 t204 w _ ?s1 ?s2 A31.out).mono ?_); (case s1 => exact S.bA); (case s2 => exact Kd.R_tight rfl HO_8.out); rintro e w58 ⟨rfl, hy0, hb, hkp⟩; refine ⟨_, rfl, ?_⟩; replace HO_6 := Aside0.mk (Kd.R_mono (ok' := fun k_ => S.N k_ (.slice Ao22 t192.length co22)) (Kd.R_keptB (HO_6.out) hkp (fun k_ hk_ hs_ => (hk_) hs_)) (fun k_ hk_ => hk_.1)); replace HO_8 := Aside0.mk (Kd.R_reok rfl hy0 (fun k_ e_ => HO_8.out.1 k_ e_)); replace HB := Aside0.mk (hb); (try clear hb); (try clear hkp); (try clear hy0)) | ((with_reducible refine gate_callee (f := 27) rfl ?_); refine goesL_ (some 52) rfl rfl Try.func27 (by kernel_rfl) rfl #[.slice Ao22 t204.length co22, .int .i64 1] rfl (by (try simp only [List.map_toArray, List.map_cons, List.map_nil]); first | done | (rw [show t204.length = t192.length from (Kd.R_reads' HO_8.out).1.symm] <;> rfl) | rfl | (simp only [List.length_drop, List.length_take]; rfl)) ?_; (with_reducible refine (laws_heldIntS.calls kj14 _ _ t204 1 t205 _ ?s1 ?s2 A32.out).mono ?_); (case s1 => exact S.rd HO_8); (case s2 => rw [show t204.length = t192.length from (Kd.R_reads' HO_8.out).1.symm]; exact S.rl HO_8); rintro e w' ⟨rfl, ⟨nd, rfl⟩⟩; refine ⟨_, rfl, ?_⟩) | ((with_reducible refine gate_callee (f := 17) rfl ?_); refine S.gL (some 59) Try.func17 #[.slice A0 l0.length c0] ?_; (with_reducible refine (laws_toStreetS.calls kj14 _ _ l0 t206 _ ?s1 HC0.out A36.out).mono ?_); (case s1 => repeat (first | exact (Kd.C_below HR0.out S.bA) | (with_reducible refine Kd.C_alloc ?_ _) | (with_reducible refine Kd.C_drewN ?_ _) | (with_reducible refine Kd.C_drew ?_))); rintro e w59 ⟨v207, rfl, ho0, hb⟩; refine ⟨_, rfl, ?_⟩; replace HO_6 := S.rb HO_6 hb; replace HO_8 := S.rb HO_8 hb; have HO208 := S.lwA ho0; replace HB := S.sA hb; (try clear hb); (try clear ho0); obtain ⟨Ao60, co60, eo60⟩ := Kd.R_slice HO208.out; subst eo60) | ((with_reducible refine gate_callee (f := 34) rfl ?_); refine S.gL (some 61) Try.func34 #[.slice Ao60 t206.length co60, .int .i64 a1] ?_; (with_reducible refine (impl_StreetsFrom.calls kj14 _ _ t206 a1 t209 _ ?s1 (S.rl HO208) A37.out).mono ?_); (case s1 => exact S.rd HO208); rintro e w61 ⟨v210, rfl, ho0, hb⟩; refine ⟨_, rfl, ?_⟩; replace HO208 := S.rb HO208 hb; have HO211 := Aside0.mk (Kd.R_lower (Kd.R_new' (Kd.R_new' ho0 (Kd.R_lt (S.uR HO_6.out))) (Kd.R_lt (S.uR HO_8.out))) (below_size S.bA)); replace HO_6 := S.re HO_6 ho0 hb; replace HO_8 := S.re HO_8 ho0 hb; replace HB := S.sA hb; (try clear hb); (try clear ho0); obtain ⟨Ao62, co62, eo62⟩ := Kd.R_slice HO211.out; subst eo62) | ((with_reducible refine gate_callee (f := 24) rfl ?_); refine S.gL (some 64) Try.func24 #[.slice Ao62 t209.length co62, .slice Ao23 t186.length co23] ?_; (with_reducible refine (laws_eqIntS.calls kj14 _ _ t209 _ _ t186 false _ ?s1 (S.rl HO211) ?s3 (S.rl HO_6) A38.out).mono ?_); (case s1 => exact S.rd HO211); (case s3 => exact S.rd HO_6); rintro e w' ⟨rfl, ⟨nd, rfl⟩⟩; refine ⟨_, rfl, ?_⟩))
          go_ret
          exact ⟨S.eW, S.bA⟩
        ·rw [if_neg c35] at H
         have c35b0 : (t205 == t203) = false := beq_eq_false_iff_ne.mpr c35
         have c35b1 : (t205 != t203) = true := bne_iff_ne.mpr c35
         obtain rfl := Option.some.inj H
         go_wp2_with (first | ((with_reducible refine gate_callee (f := 26) rfl ?_); refine S.gL (some 49) Try.func26 #[.slice Ao22 t192.length co22, .int .i64 1] ?_; (with_reducible refine (laws_markIntS.calls kj14 (fun k_ => some k_ = (.slice Ao22 t192.length co22 : Value).ownBlock) (.slice Ao22 t192.length co22) t192 1 t203 t204 w _ ?s1 ?s2 A31.out).mono ?_); (case s1 => exact S.bA); (case s2 => exact Kd.R_tight rfl HO_8.out); rintro e w63 ⟨rfl, hy0, hb, hkp⟩; refine ⟨_, rfl, ?_⟩; replace HO_6 := Aside0.mk (Kd.R_mono (ok' := fun k_ => S.N k_ (.slice Ao22 t192.length co22)) (Kd.R_keptB (HO_6.out) hkp (fun k_ hk_ hs_ => (hk_) hs_)) (fun k_ hk_ => hk_.1)); replace HO_8 := Aside0.mk (Kd.R_reok rfl hy0 (fun k_ e_ => HO_8.out.1 k_ e_)); replace HB := Aside0.mk (hb); (try clear hb); (try clear hkp); (try clear hy0)) | ((with_reducible refine gate_callee (f := 27) rfl ?_); refine goesL_ (some 52) rfl rfl Try.func27 (by kernel_rfl) rfl #[.slice Ao22 t204.length co22, .int .i64 1] rfl (by (try simp only [List.map_toArray, List.map_cons, List.map_nil]); first | done | (rw [show t204.length = t192.length from (Kd.R_reads' HO_8.out).1.symm] <;> rfl) | rfl | (simp only [List.length_drop, List.length_take]; rfl)) ?_; (with_reducible refine (laws_heldIntS.calls kj14 _ _ t204 1 t205 _ ?s1 ?s2 A32.out).mono ?_); (case s1 => exact S.rd HO_8); (case s2 => rw [show t204.length = t192.length from (Kd.R_reads' HO_8.out).1.symm]; exact S.rl HO_8); rintro e w' ⟨rfl, ⟨nd, rfl⟩⟩; refine ⟨_, rfl, ?_⟩))
         go_ret
         exact ⟨S.eW, S.bA⟩
   ·obtain rfl := Option.some.inj H
    go_enter Try.func8, Try.ntmps8
    go_wp2_with (first | ((with_reducible refine gate_callee (f := 15) rfl ?_); refine S.gL (some 15) Try.func15 #[.slice A0 l0.length c0, .int .i64 1048576] ?_; (with_reducible refine (laws_szStreetS.calls _ _ l0 1048576 t182 _ ?s1 HC0.out A3.out).mono ?_); (case s1 => repeat (first | exact HR0.out | (with_reducible refine Kd.C_alloc ?_ _) | (with_reducible refine Kd.C_drewN ?_ _) | (with_reducible refine Kd.C_drew ?_))); rintro e w' ⟨rfl, ⟨nd, rfl⟩⟩; refine ⟨_, rfl, ?_⟩) | ((with_reducible refine gate_callee (f := 17) rfl ?_); refine S.gL (some 19) Try.func17 #[.slice A0 l0.length c0] ?_; (with_reducible refine (laws_toStreetS.calls k _ _ l0 t183 _ ?s1 HC0.out A5.out).mono ?_); (case s1 => repeat (first | exact HR0.out | (with_reducible refine Kd.C_alloc ?_ _) | (with_reducible refine Kd.C_drewN ?_ _) | (with_reducible refine Kd.C_drew ?_))); rintro e w64 ⟨v184, rfl, ho0, hb⟩; refine ⟨_, rfl, ?_⟩; have HO185 := S.lwA ho0; replace HB := S.sA hb; (try clear hb); (try clear ho0); obtain ⟨Ao65, co65, eo65⟩ := Kd.R_slice HO185.out; subst eo65) | ((with_reducible refine gate_callee (f := 33) rfl ?_); refine S.gL (some 21) Try.func33 #[.slice Ao65 t183.length co65, .int .i64 a1] ?_; (with_reducible refine (spec_StreetsFrom.calls k _ _ t183 a1 t186 _ ?s1 (S.rl HO185) A6.out).mono ?_); (case s1 => exact S.rd HO185); rintro e w66 ⟨v187, rfl, ho0, hb⟩; refine ⟨_, rfl, ?_⟩; replace HO185 := S.rb HO185 hb; have HO188 := S.lwA ho0; replace HB := S.sA hb; (try clear hb); (try clear ho0)) | ((with_reducible refine gate_callee (f := 17) rfl ?_); refine S.gL (some 23) Try.func17 #[.slice A0 l0.length c0] ?_; (with_reducible refine (laws_toStreetS.calls k _ _ l0 t189 _ ?s1 HC0.out A7.out).mono ?_); (case s1 => exact S.cA HR0.out); rintro e w67 ⟨v190, rfl, ho0, hb⟩; refine ⟨_, rfl, ?_⟩; replace HO188 := S.rb HO188 hb; have HO191 := S.rnA ho0 HO185; replace HO185 := S.re HO185 ho0 hb; replace HB := S.sA hb; (try clear hb); (try clear ho0); obtain ⟨Ao68, co68, eo68⟩ := Kd.R_slice HO191.out; subst eo68) | ((with_reducible refine gate_callee (f := 34) rfl ?_); refine S.gL (some 26) Try.func34 #[.slice Ao68 t189.length co68, .int .i64 a1] ?_; (with_reducible refine (impl_StreetsFrom.calls k _ _ t189 a1 t192 _ ?s1 (S.rl HO191) A8.out).mono ?_); (case s1 => exact S.rd HO191); rintro e w69 ⟨v193, rfl, ho0, hb⟩; refine ⟨_, rfl, ?_⟩; replace HO185 := S.rb HO185 hb; replace HO191 := S.rb HO191 hb; have HO194 := S.rnA ho0 HO188; replace HO188 := S.re HO188 ho0 hb; replace HB := S.sA hb; (try clear hb); (try clear ho0); obtain ⟨Ao70, co70, eo70⟩ := Kd.R_slice HO194.out; subst eo70; obtain ⟨Ao71, co71, eo71⟩ := Kd.R_slice HO188.out; subst eo71) | ((with_reducible refine gate_callee (f := 24) rfl ?_); refine S.gL (some 29) Try.func24 #[.slice Ao70 t192.length co70, .slice Ao71 t186.length co71] ?_; (with_reducible refine (laws_eqIntS.calls k _ _ t192 _ _ t186 true _ ?s1 (S.rl HO194) ?s3 (S.rl HO188) A9.out).mono ?_); (case s1 => exact S.rd HO194); (case s3 => exact S.rd HO188); rintro e w' ⟨rfl, ⟨nd, rfl⟩⟩; refine ⟨_, rfl, ?_⟩) | ((with_reducible refine gate_callee (f := 17) rfl ?_); refine S.gL (some 33) Try.func17 #[.slice A0 l0.length c0] ?_; (with_reducible refine (laws_toStreetS.calls k _ _ l0 t196 _ ?s1 HC0.out A11.out).mono ?_); (case s1 => repeat (first | exact (Kd.C_below HR0.out S.bA) | (with_reducible refine Kd.C_alloc ?_ _) | (with_reducible refine Kd.C_drewN ?_ _) | (with_reducible refine Kd.C_drew ?_))); rintro e w72 ⟨v197, rfl, ho0, hb⟩; refine ⟨_, rfl, ?_⟩; replace HO188 := S.rb HO188 hb; replace HO194 := S.rb HO194 hb; have HO198 := Aside0.mk (Kd.R_lower (Kd.R_new' (Kd.R_new' ho0 (Kd.R_lt (S.uR HO185.out))) (Kd.R_lt (S.uR HO191.out))) (below_size S.bA)); replace HO185 := S.re HO185 ho0 hb; replace HO191 := S.re HO191 ho0 hb; replace HB := S.sA hb; (try clear hb); (try clear ho0); obtain ⟨Ao73, co73, eo73⟩ := Kd.R_slice HO198.out; subst eo73) | ((with_reducible refine gate_callee (f := 19) rfl ?_); refine S.gL (some 34) Try.func19 #[.slice Ao68 t189.length co68, .slice Ao73 t196.length co73] ?_; (with_reducible refine (laws_eqStreetS.calls k _ _ t189 _ _ t196 false _ ?s1 (S.rl HO191) ?s3 (S.rl HO198) A12.out).mono ?_); (case s1 => exact S.rd HO191); (case s3 => exact S.rd HO198); rintro e w74 ⟨rfl, hb⟩; refine ⟨_, rfl, ?_⟩; replace HO185 := S.rb HO185 hb; replace HO188 := S.rb HO188 hb; replace HO191 := S.rb HO191 hb; replace HO194 := S.rb HO194 hb; replace HO198 := S.rb HO198 hb; replace HB := S.sA hb; (try clear hb)))
    go_ret
    exact ⟨S.eW, S.bA⟩
  ·obtain rfl := Option.some.inj H
   go_enter Try.func8, Try.ntmps8
   go_wp2_with (first | ((with_reducible refine gate_callee (f := 15) rfl ?_); refine S.gL (some 15) Try.func15 #[.slice A0 l0.length c0, .int .i64 1048576] ?_; (with_reducible refine (laws_szStreetS.calls _ _ l0 1048576 t182 _ ?s1 HC0.out A3.out).mono ?_); (case s1 => repeat (first | exact HR0.out | (with_reducible refine Kd.C_alloc ?_ _) | (with_reducible refine Kd.C_drewN ?_ _) | (with_reducible refine Kd.C_drew ?_))); rintro e w' ⟨rfl, ⟨nd, rfl⟩⟩; refine ⟨_, rfl, ?_⟩) | ((with_reducible refine gate_callee (f := 17) rfl ?_); refine S.gL (some 19) Try.func17 #[.slice A0 l0.length c0] ?_; (with_reducible refine (laws_toStreetS.calls k _ _ l0 t183 _ ?s1 HC0.out A5.out).mono ?_); (case s1 => repeat (first | exact HR0.out | (with_reducible refine Kd.C_alloc ?_ _) | (with_reducible refine Kd.C_drewN ?_ _) | (with_reducible refine Kd.C_drew ?_))); rintro e w75 ⟨v184, rfl, ho0, hb⟩; refine ⟨_, rfl, ?_⟩; have HO185 := S.lwA ho0; replace HB := S.sA hb; (try clear hb); (try clear ho0); obtain ⟨Ao76, co76, eo76⟩ := Kd.R_slice HO185.out; subst eo76) | ((with_reducible refine gate_callee (f := 33) rfl ?_); refine S.gL (some 21) Try.func33 #[.slice Ao76 t183.length co76, .int .i64 a1] ?_; (with_reducible refine (spec_StreetsFrom.calls k _ _ t183 a1 t186 _ ?s1 (S.rl HO185) A6.out).mono ?_); (case s1 => exact S.rd HO185); rintro e w77 ⟨v187, rfl, ho0, hb⟩; refine ⟨_, rfl, ?_⟩; replace HO185 := S.rb HO185 hb; have HO188 := S.lwA ho0; replace HB := S.sA hb; (try clear hb); (try clear ho0)) | ((with_reducible refine gate_callee (f := 17) rfl ?_); refine S.gL (some 23) Try.func17 #[.slice A0 l0.length c0] ?_; (with_reducible refine (laws_toStreetS.calls k _ _ l0 t189 _ ?s1 HC0.out A7.out).mono ?_); (case s1 => exact S.cA HR0.out); rintro e w78 ⟨v190, rfl, ho0, hb⟩; refine ⟨_, rfl, ?_⟩; replace HO188 := S.rb HO188 hb; have HO191 := S.rnA ho0 HO185; replace HO185 := S.re HO185 ho0 hb; replace HB := S.sA hb; (try clear hb); (try clear ho0); obtain ⟨Ao79, co79, eo79⟩ := Kd.R_slice HO191.out; subst eo79) | ((with_reducible refine gate_callee (f := 34) rfl ?_); refine S.gL (some 26) Try.func34 #[.slice Ao79 t189.length co79, .int .i64 a1] ?_; (with_reducible refine (impl_StreetsFrom.calls k _ _ t189 a1 t192 _ ?s1 (S.rl HO191) A8.out).mono ?_); (case s1 => exact S.rd HO191); rintro e w80 ⟨v193, rfl, ho0, hb⟩; refine ⟨_, rfl, ?_⟩; replace HO185 := S.rb HO185 hb; replace HO191 := S.rb HO191 hb; have HO194 := S.rnA ho0 HO188; replace HO188 := S.re HO188 ho0 hb; replace HB := S.sA hb; (try clear hb); (try clear ho0); obtain ⟨Ao81, co81, eo81⟩ := Kd.R_slice HO194.out; subst eo81; obtain ⟨Ao82, co82, eo82⟩ := Kd.R_slice HO188.out; subst eo82) | ((with_reducible refine gate_callee (f := 24) rfl ?_); refine S.gL (some 29) Try.func24 #[.slice Ao81 t192.length co81, .slice Ao82 t186.length co82] ?_; (with_reducible refine (laws_eqIntS.calls k _ _ t192 _ _ t186 false _ ?s1 (S.rl HO194) ?s3 (S.rl HO188) A9.out).mono ?_); (case s1 => exact S.rd HO194); (case s3 => exact S.rd HO188); rintro e w' ⟨rfl, ⟨nd, rfl⟩⟩; refine ⟨_, rfl, ?_⟩))
   go_ret
   exact ⟨S.eW, S.bA⟩

end Go.Proofs.Ytdaofiiedclmpaa.PFnExactStreetsFrom
