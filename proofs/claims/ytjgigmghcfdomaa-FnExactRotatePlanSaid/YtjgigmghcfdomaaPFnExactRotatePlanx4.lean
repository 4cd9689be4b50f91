/- Printed by a program: what the Go functions compute, as plain Lean functions (.f), and the proofs that the machine's calls come to just that (.calls). -/
import Derived.Test.YtjgigmghcfdomaaPFnExactRotatePlanx0
import Derived.Test.YtjgigmghcfdomaaPFnExactRotatePlanx3
namespace Go.Proofs.Ytjgigmghcfdomaa.PFnExactRotatePlan
open Go.RowKit Go.Proofs.YtjgigmghcfdomaaW.PrintWords Go.Proofs.YtjgigmghcfdomaaW.PrintLast Go.Proofs.YtjgigmghcfdomaaW.PrintMore
attribute [local go_sem] max2_int min2_int max_two min_two max_three min_three max_four min_four   -- for this text's walks alone
set_option linter.unusedVariables false
set_option linter.unusedSimpArgs false

/-! ### spec_l8Copy: function 85 -/
def spec_l8Copy.l0 : Nat → List (S85) → List (S85) → Int → Option ((List (S85)))
 | 0, _, _, _ => none
 | k + 1, x0, x3, x4 => if x4 < (x0.length : Int) then ((some (([] : List Int) : List Int)).bind fun y153 => (if 0 ≤ x4 then (if y153.length + ((rd_T85 x0 x4).f0).length < 17592186044416 then (if x3.length < 4398046511104 then (spec_l8Copy.l0 k x0 (x3 ++ [(⟨(y153 ++ ((rd_T85 x0 x4).f0)), (rd_T85 x0 x4).f1⟩ : S85)]) (wrap64 (x4 + 1))) else (none)) else (none)) else (none))) else (some x3)
def spec_l8Copy.f (k : Nat) (l0 : List (S85)) : Option ((List (S85))) := spec_l8Copy.l0 k l0 (([] : List (S85))) 0
def spec_l8Copy.T5 : Bool × List (List Nat × List Nat) := (true, [([], []), ([], []), ([], []), ([], []), ([2, 3], [2, 3]), ([4], [4]), ([5], [5]), ([1, 6], [1, 6]), ([], []), ([], []), ([8, 9], [8, 9]), ([10], [10]), ([11], [11]), ([7, 12], [7, 12]), ([13], [13]), ([0, 14, 7], [0, 14]), ([15, 15, 0, 1, 2, 3, 4, 5, 6, 7, 8, 9, 10, 11, 12, 13, 14, 15], [0, 15])])
def spec_l8Copy.B5 : List Nat := [0, 0, 0, 0, 12, 28, 60, 126, 0, 0, 768, 1792, 3840, 8190, 16382, 32767, 65535]
theorem spec_l8Copy.tab5 : rtab .any (opsOf Try.f85 5) = spec_l8Copy.T5 := by kernel_rfl
theorem spec_l8Copy.bits5 : waitsOk spec_l8Copy.T5.2 spec_l8Copy.B5 = true := by kernel_rfl
set_option maxHeartbeats 8000000 in
set_option maxRecDepth 100000 in
theorem spec_l8Copy.calls (k : Nat) (A0 : Option Addr) (c0 : Nat) (l0 : List (S85)) (r : List (S85)) (w : World) (hr0 : Kd.C k85 w A0 l0.length l0) (hc0 : l0.length ≤ c0) (h : spec_l8Copy.f k l0 = some r) :
  Calls Try.prog 85 #[.slice A0 l0.length c0] w fun e w' => ∃ v0_ : Value, e = .returned (v0_) ∧ Kd.S k85 85 w' w.heap.size (fun _ => True) v0_ r ∧ Below w.heap.size w w' := by
 have hu85 := Try.underlying85
 have HR0 := Aside0.mk hr0
 have HC0 := Aside0.mk hc0
 clear hr0 hc0
 have HB := Aside0.mk (Below.refl w.heap.size w)
 have H : (spec_l8Copy.l0 k l0 (([] : List (S85))) 0) = some r := h
 clear h
 obtain ⟨y150, hy150⟩ : ∃ y_ : List (S85), y_ = (([] : List (S85))) := ⟨_, rfl⟩
 replace H : (spec_l8Copy.l0 k l0 y150 0) = some r := by first | (rw [hy150]; with_reducible exact H) | (have H2_ := (Option.bind_some _ _).symm.trans H; rw [hy150]; with_reducible exact H2_) | (have H2_ := (Option.bind_some _ _).symm.trans H; with_reducible exact H2_) | with_reducible exact H | (rw [hy150]; exact H) | exact H
 have Ny150 := Aside0.mk hy150
 clear hy150
 have H' := Aside0.mk H
 clear H
 go_enter Try.func85, Try.ntmps85
 go_wp2_with (first | ((with_reducible refine gate_dst (N := 5) rfl ?_); refine Kd.S_lit k85 _ 85 ?hg (N := 5) ?hd (xs := ([] : List (S85))) (inner := []) (ok := fun _ => True) (okp := fun _ => True) ?hr ?hp (fun _ hk => hk) trivial (Below.refl _ _) (Nat.le_refl _) (by simp) ?_; (case hd => rfl); (case hg => rfl); (case hr => first | (go_simp; done) | (go_simp; rfl)); (case hp => exact (Reps.none _ _)); intro v151 w2 ho3 hb hg_ hnew_; clear hg_ hnew_; (first | rw [← Ny150.out] at ho3 | (simp only [Int.reduceToNat] at ho3; rw [← Ny150.out] at ho3)); have HO152 := Aside0.mk (Kd.S_lower ho3 (below_size S.bA)); replace HB := S.sA hb; clear hb ho3))
 go_loopg [3, 4] k (fun kq v3 v4 w' => ∃ (x3_1 : List (S85)) (x4_1 : Int), v4 = .int .i64 x4_1 ∧ Aside0 (spec_l8Copy.l0 kq l0 x3_1 x4_1 = some r) ∧ Aside0 (kq ≤ k) ∧ Aside0 (Kd.S k85 85 w' w.heap.size (fun _ => True) v3 x3_1) ∧ Aside0 (Below w.heap.size w w'))
 case atStart => exact ⟨(y150), (0), S.eA, H', ⟨Nat.le_refl _⟩, ⟨by (with_reducible repeat (first | apply Kd.S_alloc | apply Kd.S_drewN | apply Kd.S_drew)); exact HO152.out⟩, ⟨S.bA⟩⟩
 case round =>
  clear H'
  obtain ⟨x3_1, x4_1, rfl, HA, HK1, HO_3, HB⟩ := hrel
  cases gk with
  | zero => exact absurd HA.out (by simp [spec_l8Copy.l0])
  | succ k1 =>
   have H := HA.out
   clear HA
   simp only [spec_l8Copy.l0] at H
   replace H := S.dc H; rcases H with ⟨H, c4b0⟩ | ⟨H, c4b0⟩
   ·obtain ⟨y153, hy153⟩ : ∃ y_ : List Int, y_ = (([] : List Int)) := ⟨_, rfl⟩
    replace H : (if 0 ≤ x4_1 then (if y153.length + ((rd_T85 l0 x4_1).f0).length < 17592186044416 then (if x3_1.length < 4398046511104 then (spec_l8Copy.l0 k1 l0 (x3_1 ++ [(⟨(y153 ++ ((rd_T85 l0 x4_1).f0)), (rd_T85 l0 x4_1).f1⟩ : S85)]) (wrap64 (x4_1 + 1))) else (none)) else (none)) else (none)) = some r := by first | (rw [hy153]; with_reducible exact H) | (have H2_ := (Option.bind_some _ _).symm.trans H; rw [hy153]; with_reducible exact H2_) | (have H2_ := (Option.bind_some _ _).symm.trans H; with_reducible exact H2_) | with_reducible exact H | (rw [hy153]; exact H) | exact H
    have Ny153 := Aside0.mk hy153
    clear hy153
    by_cases c5 : 0 ≤ x4_1
    ·rw [if_pos c5] at H
     have c5b0 : decide (0 ≤ x4_1) = true := decide_eq_true c5
     clear c5
     by_cases c6 : y153.length + ((rd_T85 l0 x4_1).f0).length < 17592186044416
     ·rw [if_pos c6] at H
      have LMc6 := Aside0.mk c6
      clear c6
      obtain ⟨y157, hy157⟩ : ∃ y_ : List Int, y_ = (y153 ++ ((rd_T85 l0 x4_1).f0)) := ⟨_, rfl⟩
      replace H : (if x3_1.length < 4398046511104 then (spec_l8Copy.l0 k1 l0 (x3_1 ++ [(⟨y157, (rd_T85 l0 x4_1).f1⟩ : S85)]) (wrap64 (x4_1 + 1))) else (none)) = some r := by first | (rw [hy157]; with_reducible exact H) | (have H2_ := (Option.bind_some _ _).symm.trans H; rw [hy157]; with_reducible exact H2_) | (have H2_ := (Option.bind_some _ _).symm.trans H; with_reducible exact H2_) | with_reducible exact H | (rw [hy157]; exact H) | exact H
      have Ny157 := Aside0.mk hy157
      clear hy157
      by_cases c7 : x3_1.length < 4398046511104
      ·rw [if_pos c7] at H
       have LMc7 := Aside0.mk c7
       clear c7
       obtain ⟨y161, hy161⟩ : ∃ y_ : List (S85), y_ = (x3_1 ++ [(⟨y157, (rd_T85 l0 x4_1).f1⟩ : S85)]) := ⟨_, rfl⟩
       replace H : (spec_l8Copy.l0 k1 l0 y161 (wrap64 (x4_1 + 1))) = some r := by first | (rw [hy161]; with_reducible exact H) | (have H2_ := (Option.bind_some _ _).symm.trans H; rw [hy161]; with_reducible exact H2_) | (have H2_ := (Option.bind_some _ _).symm.trans H; with_reducible exact H2_) | with_reducible exact H | (rw [hy161]; exact H) | exact H
       have Ny161 := Aside0.mk hy161
       clear hy161
       have H' := Aside0.mk H
       clear H
       try go_wp2
       replace HO_3 := Aside0.mk (Kd.S_drew HO_3.out)
       replace HB := Aside0.mk (below_drew1 HB.out)
       have p156 : 0 ≤ (x4_1 : Int) := S.oD
       have q156 : x4_1 < (l0.length : Int) := S.oD
       obtain ⟨ad156, A156_0, c156_0, e156, hx156_0, hx156_1, hl156_0, hi156_0⟩ := at_T85 HR0.out x4_1 p156 q156
       have hw156_1 := hx156_1
       have hw156_0 := hx156_0
       cases e156
       replace hx156_0 := S.hb HB hx156_0
       replace hx156_1 := S.hb HB hx156_1
       have HR156_0 := Aside0.mk hi156_0
       have HC156_0 := Aside0.mk hl156_0
       clear hi156_0 hl156_0
       replace p156 := eq_true p156
       replace q156 := eq_true q156
       have p160 : 0 ≤ (x4_1 : Int) := S.oD
       have q160 : x4_1 < (l0.length : Int) := S.oD
       obtain ⟨ad160, A160_0, c160_0, e160, hx160_0, hx160_1, hl160_0, hi160_0⟩ := at_T85 HR0.out x4_1 p160 q160
       have hw160_1 := hx160_1
       have hw160_0 := hx160_0
       obtain rfl : ad156 = ad160 := (by injection e160)
       replace hx160_0 := S.hb HB hx160_0
       replace hx160_1 := S.hb HB hx160_1
       have HR160_0 := Aside0.mk hi160_0
       have HC160_0 := Aside0.mk hl160_0
       clear hi160_0 hl160_0
       replace p160 := eq_true p160
       replace q160 := eq_true q160
       have ea_ := Option.some.inj (hx156_0.symm.trans hx160_0)
       injection ea_ with ea_ en_ ec_
       subst ea_
       subst ec_
       clear en_
       refine S.st (n := 17) (ds := []) #[false, false, false, false, false, false, false, false, false, false, false, false, false, false, false, false, false] (fun w_ h_ => have x_ := And.intro (S.q h_ (S.hb HB hw156_0)) (And.intro (S.q h_ (S.hb HB hw156_1)) (And.intro (S.q h_ (S.hb HB hw160_0)) (S.q h_ (S.hb HB hw160_1)))); x_) (fun hHeld => ?_); refine with_tabW spec_l8Copy.tab5 spec_l8Copy.bits5 (fun HT_ HW_ => ?_)
       generalize wr.drew = w8 at HO_3 HB HR156_0 HR160_0 hx156_0 hx156_1 hx160_0 hx160_1 hHeld ⊢
       refine S.pS 0 12 ?_
       refine S.pS 2 14 ?_
       refine S.pS 3 15 ?_
       refine S.pS 4 16 ?_
       refine S.pS 5 17 ?_
       refine S.pS 8 20 ?_
       refine S.pS 9 21 ?_
       refine S.pS 10 22 ?_
       refine S.pS 11 23 ?_
       refine S.tK 6 18 #[true, false, true, true, true, true, true, false, true, true, true, true, false, false, false, false, false] ?_
       refine S.tK 12 24 #[true, false, true, true, true, true, true, false, true, true, true, true, true, false, false, false, false] ?_
       refine S.oN 1 13 #[true, true, true, true, true, true, true, false, true, true, true, true, true, false, false, false, false] (fun K hK => ?_)
       refine Kd.R_lit_step (Kd.int .i64) _ 3 ?hg (N := 13) ?hd (xs := ([] : List Int)) (inner := []) (ok := fun _ => True) (okp := fun _ => True) ?hr ?hp (fun _ hk => hk) trivial (Below.refl _ _) (Nat.le_refl _) (by simp) ?_; (case hd => rfl); (case hg => rfl); (case hr => first | (go_simp; done) | (go_simp; rfl)); (case hp => exact (Reps.none _ _))
       intro v154 w9 ho10 hb hg_ hnew_
       clear hg_ hnew_
       (first | rw [← Ny153.out] at ho10 | (simp only [Int.reduceToNat] at ho10; rw [← Ny153.out] at ho10))
       replace HO_3 := Aside0.mk (Kd.S_elder' (by (with_reducible repeat (first | apply Kd.S_alloc | apply Kd.S_drewN | apply Kd.S_drew)); exact HO_3.out) (Kd.R_base ho10) hb)
       have HO155 := S.lwA ho10
       replace HB := S.sA hb
       clear hb ho10
       refine hK.out _ _ ⟨(S.hb HB hw156_0 :), (S.hb HB hw156_1 :), (S.hb HB hw160_0 :), (S.hb HB hw160_1 :)⟩ (fun hHeld => ?_)
       clear hK K
       refine S.nm 13 ?_
       refine S.oN 7 19 #[true, true, true, true, true, true, true, true, true, true, true, true, true, false, false, false, false] (fun K hK => ?_)
       refine Kd.R_append_rows_step (Kd.int .i64) (w0 := w) w.heap.size (by rfl) (.tmp 13) (.tmp 18) 36 3 (.int .i64 0) 8 rfl Try.underlying36 info3 rfl (by decide) (by omega) v154 y153 ((rd_T85 l0 x4_1).f0) _ _ _ (fun _ => True) (fun _ => False) rfl rfl ?aO ?aR (fun _ _ h => h) (fun _ h => h.elim) ?aF ?aB ?aS ?aL ?_
       (case aR => exact S.cA HR156_0.out)
       (case aB => exact S.bA)
       (case aF => exact (fun _ _ => trivial))
       (case aO => exact (S.uR HO155.out))
       (case aS => exact (below_size S.bA))
       (case aL => have := LMc6.out; omega)
       intro v158 w11 ho hb hg hat
       rw [← Ny157.out] at ho
       have n0_ := Aside0.mk (Kd.S_after (ok := (fun _ => True)) (by (with_reducible repeat (first | apply Kd.S_alloc | apply Kd.S_drewN | apply Kd.S_drew)); exact HO_3.out) hg hat)
       have n1_ := Aside0.mk (hb)
       have n2_ := Aside0.mk (ho)
       clear HO_3
       clear HB
       clear HO155
       have HO_3 := n0_
       have HB := n1_
       have HO159 := n2_
       clear n0_ n1_ n2_
       clear ho hb hg hat
       obtain ⟨Ao12, co12, eo12⟩ := Kd.R_slice HO159.out
       (first | subst eo12 | (injection eo12 with f1_ f2_ f3_; have f4_ := f1_.symm; have f5_ := f3_.symm; clear f1_ f2_ f3_; subst f4_; subst f5_))
       refine hK.out _ _ ⟨(S.hb HB hw156_0 :), (S.hb HB hw156_1 :), (S.hb HB hw160_0 :), (S.hb HB hw160_1 :)⟩ (fun hHeld => ?_)
       clear hK K
       refine S.nm 19 ?_
       refine S.pS 13 25 ?_
       refine S.oN 14 26 #[true, true, true, true, true, true, true, true, true, true, true, true, true, true, true, false, false] (fun K hK => ?_)
       refine value_ (w1 := ?_) (v := ?_) (by rfl) rfl ?_ ?_
       rotate_left 2
       ·go_simp
        constructor
        ·rfl
        ·rfl
       refine hK.out _ _ ⟨(World.cell?_alloc_lt _ _ _ (World.block_lt_of_cell? _ _ ((S.hb HB hw156_0 :)))).trans ((S.hb HB hw156_0 :)), (World.cell?_alloc_lt _ _ _ (World.block_lt_of_cell? _ _ ((S.hb HB hw156_1 :)))).trans ((S.hb HB hw156_1 :)), (World.cell?_alloc_lt _ _ _ (World.block_lt_of_cell? _ _ ((S.hb HB hw160_0 :)))).trans ((S.hb HB hw160_0 :)), (World.cell?_alloc_lt _ _ _ (World.block_lt_of_cell? _ _ ((S.hb HB hw160_1 :)))).trans ((S.hb HB hw160_1 :))⟩ (fun hHeld => ?_)
       clear hK K
       refine S.nm 26 ?_
       refine S.oN 15 27 #[true, true, true, true, true, true, true, true, true, true, true, true, true, true, true, true, false] (fun K hK => ?_)
       refine Kd.S_append_step k85 (w0 := w) w.heap.size (by rfl) (.tmp 12) (.tmp 26) 29 85 (.agg #[(.slice none 0 0), (.int .i64 0)]) 32 rfl Try.underlying29 info85 rfl (by decide) (by omega) u3 x3_1 (⟨y157, (rd_T85 l0 x4_1).f1⟩ : S85) [.slice Ao12 y157.length co12, .int .i64 ((rd_T85 l0 x4_1).f1)] (fun _ => True) (fun k_ => some k_ = (.slice Ao12 y157.length co12 : Value).ownBlock) rfl rfl ?aP (fun k_ hk_ => ((Kd.R_mono (ok' := fun k_ => ((fun _ => True)) k_ ∧ some k_ ≠ (u3 : Value).ownBlock) (Kd.R_apart' (HO159.out) (Kd.S_typed HO_3.out) (by decide)) (fun k_ hk => ⟨trivial, hk.2⟩))).1 k_ hk_.symm) ?aF ?aO ?aB ?aS ?aL ?_
       (case aP => exact k85_mkM _ _ _ (⟨y157, (rd_T85 l0 x4_1).f1⟩ : S85) (Kd.R_mono (Kd.R_tight rfl (Kd.R_mono (ok' := fun k_ => ((fun _ => True)) k_ ∧ some k_ ≠ (u3 : Value).ownBlock) (Kd.R_apart' (HO159.out) (Kd.S_typed HO_3.out) (by decide)) (fun k_ hk => ⟨trivial, hk.2⟩))) (fun _ h_ => h_)))
       (case aB => exact S.bA)
       (case aF => exact (fun _ _ => trivial))
       (case aO => exact (by (with_reducible repeat (first | apply Kd.S_alloc | apply Kd.S_drewN | apply Kd.S_drew)); exact Kd.S_mono HO_3.out (fun k_ hk => ⟨trivial, fun e_ => hk.2 e_⟩)))
       (case aS => exact (below_size S.bA))
       (case aL => have := LMc7.out; omega)
       intro v162 w13 ho hb hg hat
       rw [← Ny161.out] at ho
       have n0_ := Aside0.mk (hb)
       have n1_ := Aside0.mk (ho)
       clear HB
       clear HO_3
       clear HO159
       have HB := n0_
       have HO163 := n1_
       clear n0_ n1_
       clear ho hb hg hat
       refine hK.out _ _ ⟨(S.hb HB hw156_0 :), (S.hb HB hw156_1 :), (S.hb HB hw160_0 :), (S.hb HB hw160_1 :)⟩ (fun hHeld => ?_)
       clear hK K
       refine S.nm 27 ?_
       refine S.pS 16 3 ?_
       refine done_ (done_of HT_.out (by kernel_rfl)) ?_
       try go_wp2
       go_roundg k1
       case measure => have := HK1.out; omega
       case rel => exact ⟨(y161), (wrap64 (x4_1 + 1)), S.eA, H', ⟨by have := HK1.out; omega⟩, ⟨by (with_reducible repeat (first | apply Kd.S_alloc | apply Kd.S_drewN | apply Kd.S_drew)); exact HO163.out⟩, ⟨S.bA⟩⟩
      ·rw [if_neg c7] at H
       exact absurd H (by simp)
     ·rw [if_neg c6] at H
      exact absurd H (by simp)
    ·rw [if_neg c5] at H
     exact absurd H (by simp)
   ·obtain rfl := Option.some.inj H
    go_wp2
    go_ret
    exact ⟨_, S.eW, by (with_reducible repeat (first | apply Kd.S_alloc | apply Kd.S_drewN | apply Kd.S_drew)); exact HO_3.out, S.bA⟩

/-! ### spec_RotatePlan: function 56 -/
def spec_RotatePlan.f (k : Nat) (l0 : List (S85)) (a1 : Int) : Option ((List (S85))) := (spec_l1In.f a1 0 (wrap64 ((l0.length : Int) - 1))).bind fun t164 => (if t164 = true then (if 0 ≤ a1 then (if a1 ≤ (l0.length : Int) then ((spec_l8Copy.f k (l0.drop (a1 : Int).toNat)).bind fun t169 => ((spec_l8Copy.f k (l0.take (a1 : Int).toNat)).bind fun t176 => (if t169.length + t176.length < 4398046511104 then (some (t169 ++ t176)) else (none)))) else (none)) else (none)) else ((spec_l8Copy.f k l0).bind fun t182 => (some t182)))
def spec_RotatePlan.T3 : Bool × List (List Nat × List Nat) := (true, [([], []), ([], []), ([0, 1], [0, 1]), ([2], [2]), ([], []), ([], []), ([4, 5], [4, 5]), ([6, 3], [6]), ([3, 7, 7], [3, 7]), ([8, 8, 0, 1, 2, 3, 4, 5, 6, 7, 8], [8])])
def spec_RotatePlan.B3 : List Nat := [0, 0, 3, 7, 0, 0, 48, 127, 255, 511]
theorem spec_RotatePlan.tab3 : rtab .any (opsOf Try.f56 3) = spec_RotatePlan.T3 := by kernel_rfl
theorem spec_RotatePlan.bits3 : waitsOk spec_RotatePlan.T3.2 spec_RotatePlan.B3 = true := by kernel_rfl
set_option maxHeartbeats 8000000 in
set_option maxRecDepth 100000 in
theorem spec_RotatePlan.calls (k : Nat) (A0 : Option Addr) (c0 : Nat) (l0 : List (S85)) (a1 : Int) (r : List (S85)) (w : World) (hr0 : Kd.C k85 w A0 l0.length l0) (hc0 : l0.length ≤ c0) (h : spec_RotatePlan.f k l0 a1 = some r) :
  Calls Try.prog 56 #[.slice A0 l0.length c0, .int .i64 a1] w fun e w' => ∃ v0_ : Value, e = .returned (v0_) ∧ Kd.N k85 85 w' w.heap.size (fun k_ => (w.heap.size ≤ k_)) v0_ r ∧ Below w.heap.size w w' := by
 have HR0 := Aside0.mk hr0
 have HC0 := Aside0.mk hc0
 clear hr0 hc0
 have HB := Aside0.mk (Below.refl w.heap.size w)
 have H : ((spec_l1In.f a1 0 (wrap64 ((l0.length : Int) - 1))).bind fun t164 => (if t164 = true then (if 0 ≤ a1 then (if a1 ≤ (l0.length : Int) then ((spec_l8Copy.f k (l0.drop (a1 : Int).toNat)).bind fun t169 => ((spec_l8Copy.f k (l0.take (a1 : Int).toNat)).bind fun t176 => (if t169.length + t176.length < 4398046511104 then (some (t169 ++ t176)) else (none)))) else (none)) else (none)) else ((spec_l8Copy.f k l0).bind fun t182 => (some t182)))) = some r := h
 clear h
 replace H := S.bd H; obtain ⟨t164, A3, H⟩ := H
 (try dsimp only at H)
 replace H := S.db H; rcases H with ⟨rfl, H⟩ | ⟨rfl, H⟩
 ·by_cases c5 : 0 ≤ a1
  ·rw [if_pos c5] at H
   have c5b0 := eq_true c5
   have c5b1 : decide (0 ≤ a1) = true := decide_eq_true c5
   clear c5
   by_cases c6 : a1 ≤ (l0.length : Int)
   ·rw [if_pos c6] at H
    have c6b0 := eq_true c6
    have c6b1 : decide (a1 ≤ (l0.length : Int)) = true := decide_eq_true c6
    clear c6
    obtain ⟨y165, hy165⟩ : ∃ y_ : List (S85), y_ = (l0.drop (a1 : Int).toNat) := ⟨_, rfl⟩
    replace H : ((spec_l8Copy.f k y165).bind fun t169 => ((spec_l8Copy.f k (l0.take (a1 : Int).toNat)).bind fun t176 => (if t169.length + t176.length < 4398046511104 then (some (t169 ++ t176)) else (none)))) = some r := by first | (rw [hy165]; with_reducible exact H) | (have H2_ := (Option.bind_some _ _).symm.trans H; rw [hy165]; with_reducible exact H2_) | (have H2_ := (Option.bind_some _ _).symm.trans H; with_reducible exact H2_) | with_reducible exact H | (rw [hy165]; exact H) | exact H
    have Ny165 := Aside0.mk hy165
    clear hy165
    replace H := S.bd H; obtain ⟨t169, A7, H⟩ := H
    (try dsimp only at H)
    have c8b0 := eq_true (S.oD : 0 ≤ a1)
    have c9b0 := eq_true (S.oD : a1 ≤ (l0.length : Int))
    obtain ⟨y172, hy172⟩ : ∃ y_ : List (S85), y_ = (l0.take (a1 : Int).toNat) := ⟨_, rfl⟩
    replace H : ((spec_l8Copy.f k y172).bind fun t176 => (if t169.length + t176.length < 4398046511104 then (some (t169 ++ t176)) else (none))) = some r := by first | (rw [hy172]; with_reducible exact H) | (have H2_ := (Option.bind_some _ _).symm.trans H; rw [hy172]; with_reducible exact H2_) | (have H2_ := (Option.bind_some _ _).symm.trans H; with_reducible exact H2_) | with_reducible exact H | (rw [hy172]; exact H) | exact H
    have Ny172 := Aside0.mk hy172
    clear hy172
    replace H := S.bd H; obtain ⟨t176, A10, H⟩ := H
    (try dsimp only at H)
    by_cases c11 : t169.length + t176.length < 4398046511104
    ·rw [if_pos c11] at H
     have LMc11 := Aside0.mk c11
     clear c11
     obtain ⟨y179, hy179⟩ : ∃ y_ : List (S85), y_ = (t169 ++ t176) := ⟨_, rfl⟩
     replace H : (some y179) = some r := by first | (rw [hy179]; with_reducible exact H) | (have H2_ := (Option.bind_some _ _).symm.trans H; rw [hy179]; with_reducible exact H2_) | (have H2_ := (Option.bind_some _ _).symm.trans H; with_reducible exact H2_) | with_reducible exact H | (rw [hy179]; exact H) | exact H
     have Ny179 := Aside0.mk hy179
     clear hy179
     obtain rfl := Option.some.inj H
     go_enter Try.func56, Try.ntmps56
     try go_wp2_with (first | ((with_reducible refine gate_callee (f := 58) rfl ?_); refine S.gL (some 9) Try.func58 #[.int .i64 a1, .int .i64 0, .int .i64 (wrap64 ((l0.length : Int) - 1))] ?_; (with_reducible refine (spec_l1In.calls a1 0 (wrap64 ((l0.length : Int) - 1)) true _ A3.out).mono ?_); rintro e w' ⟨rfl, ⟨nd, rfl⟩⟩; refine ⟨_, rfl, ?_⟩))
     replace HB := Aside0.mk (below_drew1 HB.out)
     have q13 : (a1 : Int) ≤ ((l0.length : Int) : Int) := S.oD
     obtain ⟨i013, hi013, _, hsz13, _⟩ := info_parts info85
     have hroom13 : l0.length ≤ c0 := HC0.out
     have hC13 : Kd.C k85 _ A0 l0.length l0 := HR0.out
     have q013 : (0 : Int) ≤ (a1 : Int) := S.oD
     have hcut13 := cut_from (P := Try.prog) 29 85 .i64 Try.underlying29 hi013 2 hsz13 A0 l0.length c0 a1 q013 q13
     have hr13 := Kd.C_drop (m := (a1 : Int).toNat) (c := c0) hC13 (by omega) hroom13
     obtain ⟨A13, hA13⟩ : ∃ A1, A1 = (if c0 = (a1 : Int).toNat then A0 else (A0 : Option Addr).map (·.add ((a1 : Int).toNat * 2))) := ⟨_, rfl⟩
     obtain ⟨c13, hc13⟩ : ∃ c1, c1 = c0 - (a1 : Int).toNat := ⟨_, rfl⟩
     have hy13 : y165.length = l0.length - (a1 : Int).toNat := (by rw [Ny165.out, List.length_drop] <;> omega)
     rw [show (l0).drop (a1 : Int).toNat = y165 from Ny165.out.symm] at hr13
     replace hr13 : Kd.C k85 _ A13 y165.length y165 := (by rw [hA13]; exact hr13)
     rw [← hy13, ← hA13, ← hc13] at hcut13
     have HR168 := Aside0.mk hr13
     have HC168 := Aside0.mk (show y165.length ≤ c13 from by rw [hy13, hc13]; exact Nat.sub_le_sub_right hroom13 _)
     clear hr13 hC13 hroom13 hi013 hsz13 hc13
     have KY13 := Aside0.mk hy13
     have KA13 := Aside0.mk hA13
     clear hy13 hA13
     replace q13 := eq_true q13
     have q14 : (a1 : Int) ≤ ((l0.length : Int) : Int) := S.oD
     obtain ⟨i014, hi014, _, hsz14, _⟩ := info_parts info85
     have hroom14 : l0.length ≤ c0 := HC0.out
     have hC14 : Kd.C k85 _ A0 l0.length l0 := HR0.out
     have hcut14 := cut_to (P := Try.prog) 29 85 .i64 Try.underlying29 hi014 A0 l0.length c0 a1 (S.oD) q14 hroom14
     have hr14 := Kd.C_take (m := (a1 : Int).toNat) hC14 (by omega)
     have hy14 : y172.length = (a1 : Int).toNat := (by rw [Ny172.out, List.length_take]; omega)
     rw [← Ny172.out] at hr14
     rw [← hy14] at hcut14
     have HR175 := Aside0.mk hr14
     have HC175 := Aside0.mk (show y172.length ≤ c0 from by omega)
     clear hr14 hC14 hroom14 hi014 hsz14
     have KY14 := Aside0.mk hy14
     clear hy14
     replace q14 := eq_true q14
     refine start_ (n := 10) (S := fun w' => True) (ds := []) #[false, false, false, false, false, false, false, false, false, false] (by kernel_rfl) rfl rfl trivial (fun hHeld => ?_); refine with_tabW spec_RotatePlan.tab3 spec_RotatePlan.bits3 (fun HT_ HW_ => ?_)
     replace HB := Aside0.mk (below_drew1 (pw_below_drewN (Below.refl w.heap.size w) nd))
     generalize (w.drewN nd).drew = w12 at HB hHeld ⊢
     refine S.pS 0 13 ?_
     refine S.pS 1 14 ?_
     refine S.pS 2 15 ?_
     refine S.pS 4 17 ?_
     refine S.pS 5 18 ?_
     refine S.pS 6 19 ?_
     refine S.oN 3 16 #[true, true, true, true, true, true, true, false, false, false] (fun K hK => ?_)
     refine S.go Try.func85 #[.slice A13 y165.length c13] ?_
     with_reducible refine (spec_l8Copy.calls k _ _ y165 t169 _ ?s1 ?s2 A7.out).mono ?_
     (case s1 => exact S.cA HR168.out)
     (case s2 => exact HC168.out)
     rintro e w15 ⟨v170, rfl, ho0, hb⟩
     refine ⟨_, rfl, ?_⟩
     have HO171 := Aside0.mk (Kd.N_lower (Kd.N_mono (ok' := fun k_ => (w.heap.size ≤ k_)) (Kd.S_N (Kd.S_bound ho0)) (fun k_ hk_ => (Nat.le_trans (below_size S.bA) hk_.2.1))) (below_size S.bA))
     replace HB := S.sA hb
     (try clear hb)
     (try clear hb2)
     (try clear hk)
     (try clear hi)
     (try clear ho0)
     refine hK.out _ _ trivial (fun hHeld => ?_)
     clear hK K
     refine S.nm 16 ?_
     refine S.oN 7 20 #[true, true, true, true, true, true, true, true, false, false] (fun K hK => ?_)
     refine S.go Try.func85 #[.slice A0 y172.length c0] ?_
     with_reducible refine (spec_l8Copy.calls k _ _ y172 t176 _ ?s1 ?s2 A10.out).mono ?_
     (case s1 => exact S.cA HR175.out)
     (case s2 => exact HC175.out)
     rintro e w16 ⟨v177, rfl, ho0, hb⟩
     refine ⟨_, rfl, ?_⟩
     have HO178 := Aside0.mk (Kd.N_lower (Kd.N_mono (ok' := fun k_ => (w.heap.size ≤ k_) ∧ S.N k_ v170) (Kd.S_N (Kd.S_bound ho0)) (fun k_ hk_ => ⟨(Nat.le_trans (below_size S.bA) hk_.2.1), (Kd.fresh' (Kd.N_lt (by (with_reducible repeat (first | apply Kd.N_alloc | apply Kd.N_drewN | apply Kd.N_drew)); exact HO171.out)) k_ hk_.2.1)⟩)) (below_size S.bA))
     replace HO171 := Aside0.mk (Kd.N_elder' (by (with_reducible repeat (first | apply Kd.N_alloc | apply Kd.N_drewN | apply Kd.N_drew)); exact HO171.out) (Kd.N_base (Kd.S_N ho0)) hb)
     replace HB := S.sA hb
     (try clear hb)
     (try clear hb2)
     (try clear hk)
     (try clear hi)
     (try clear ho0)
     obtain ⟨Ao18, co18, eo18⟩ := Kd.N_slice HO178.out
     (first | subst eo18 | (injection eo18 with f1_ f2_ f3_; have f4_ := f1_.symm; have f5_ := f3_.symm; clear f1_ f2_ f3_; subst f4_; subst f5_))
     refine hK.out _ _ trivial (fun hHeld => ?_)
     clear hK K
     refine S.nm 20 ?_
     refine S.oN 8 21 #[true, true, true, true, true, true, true, true, true, false] (fun K hK => ?_)
     refine Kd.N_append_rows_step k85 (w0 := w) w.heap.size (by rfl) (.tmp 16) (.tmp 20) 29 85 (.agg #[(.slice none 0 0), (.int .i64 0)]) 32 rfl Try.underlying29 info85 rfl (by decide) (by omega) v170 t169 t176 _ _ _ (fun k_ => (w.heap.size ≤ k_)) (fun k_ => ((fun k_ => (w.heap.size ≤ k_))) k_ ∧ S.N k_ v170) rfl rfl ?aO ?aR (fun _ hk => hk) ?aF ?aB ?aS ?aL ?_
     (case aR => exact (by skip; exact Kd.N_F (Kd.N_mono (ok' := (fun k_ => ((fun k_ => (w.heap.size ≤ k_))) k_ ∧ S.N k_ v170)) (HO178.out) (fun k_ hk => ⟨hk.1, hk.2⟩))))
     (case aB => exact S.bA)
     (case aF => exact (fun k_ hk => (Nat.le_trans (below_size S.bA) hk)))
     (case aO => exact (by (with_reducible repeat (first | apply Kd.N_alloc | apply Kd.N_drewN | apply Kd.N_drew)); exact Kd.N_mono HO171.out (fun _ hk => hk.1)))
     (case aS => exact (below_size S.bA))
     (case aL => have := LMc11.out; omega)
     intro v180 w17 ho hb hg hat
     rw [← Ny179.out] at ho
     have n0_ := Aside0.mk (Kd.N_afterv (ok := (fun k_ => (w.heap.size ≤ k_))) (by (with_reducible repeat (first | apply Kd.N_alloc | apply Kd.N_drewN | apply Kd.N_drew)); exact HO178.out) hg hat)
     have n1_ := Aside0.mk (hb)
     have n2_ := Aside0.mk (ho)
     clear HO178
     clear HB
     clear HO171
     have HO178 := n0_
     have HB := n1_
     have HO181 := n2_
     clear n0_ n1_ n2_
     clear ho hb hg hat
     refine hK.out _ _ trivial (fun hHeld => ?_)
     clear hK K
     refine S.nm 21 ?_
     refine S.pS 9 4 ?_
     refine done_ (done_of HT_.out (by kernel_rfl)) ?_
     try go_wp2
     go_ret
     exact ⟨_, S.eW, by (with_reducible repeat (first | apply Kd.N_alloc | apply Kd.N_drewN | apply Kd.N_drew)); exact HO181.out, S.bA⟩
    ·rw [if_neg c11] at H
     exact absurd H (by simp)
   ·rw [if_neg c6] at H
    exact absurd H (by simp)
  ·rw [if_neg c5] at H
   exact absurd H (by simp)
 ·replace H := S.bd H; obtain ⟨t182, A19, H⟩ := H
  (try dsimp only at H)
  obtain rfl := Option.some.inj H
  go_enter Try.func56, Try.ntmps56
  go_wp2_with (first | ((with_reducible refine gate_callee (f := 58) rfl ?_); refine S.gL (some 9) Try.func58 #[.int .i64 a1, .int .i64 0, .int .i64 (wrap64 ((l0.length : Int) - 1))] ?_; (with_reducible refine (spec_l1In.calls a1 0 (wrap64 ((l0.length : Int) - 1)) false _ A3.out).mono ?_); rintro e w' ⟨rfl, ⟨nd, rfl⟩⟩; refine ⟨_, rfl, ?_⟩) | ((with_reducible refine gate_callee (f := 85) rfl ?_); refine S.gL (some 12) Try.func85 #[.slice A0 l0.length c0] ?_; (with_reducible refine (spec_l8Copy.calls k _ _ l0 t182 _ ?s1 HC0.out A19.out).mono ?_); (case s1 => repeat (first | exact HR0.out | (with_reducible refine Kd.C_alloc ?_ _) | (with_reducible refine Kd.C_drewN ?_ _) | (with_reducible refine Kd.C_drew ?_))); rintro e w20 ⟨v183, rfl, ho0, hb⟩; refine ⟨_, rfl, ?_⟩; have HO184 := Aside0.mk (Kd.N_lower (Kd.N_mono (ok' := fun k_ => (w.heap.size ≤ k_)) (Kd.S_N (Kd.S_bound ho0)) (fun k_ hk_ => (Nat.le_trans (below_size S.bA) hk_.2.1))) (below_size S.bA)); replace HB := S.sA hb; (try clear hb); (try clear ho0)))
  go_ret
  exact ⟨_, S.eW, by (with_reducible repeat (first | apply Kd.N_alloc | apply Kd.N_drewN | apply Kd.N_drew)); exact HO184.out, S.bA⟩

-- NOT PRINTED: function 11 (laws_FnExactRotatePlan)

end Go.Proofs.Ytjgigmghcfdomaa.PFnExactRotatePlan
