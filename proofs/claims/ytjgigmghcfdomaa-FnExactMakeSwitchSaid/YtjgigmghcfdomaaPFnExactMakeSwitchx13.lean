/- Printed by a program: what the Go functions compute, as plain Lean functions (.f), and the proofs that the machine's calls come to just that (.calls). -/
import Derived.Test.YtjgigmghcfdomaaPFnExactMakeSwitchx0
import Derived.Test.YtjgigmghcfdomaaPFnExactMakeSwitchx3
import Derived.Test.YtjgigmghcfdomaaPFnExactMakeSwitchx12
namespace Go.Proofs.Ytjgigmghcfdomaa.PFnExactMakeSwitch
open Go.RowKit Go.Proofs.YtjgigmghcfdomaaW.PrintWords Go.Proofs.YtjgigmghcfdomaaW.PrintLast Go.Proofs.YtjgigmghcfdomaaW.PrintMore
attribute [local go_sem] max2_int min2_int max_two min_two max_three min_three max_four min_four   -- for this text's walks alone
set_option linter.unusedVariables false
set_option linter.unusedSimpArgs false

/-! ### spec_l8Copy: function 85 -/
def spec_l8Copy.l0 : Nat → List (S85) → List (S85) → Int → Option ((List (S85)))
 | 0, _, _, _ => none
 | k + 1, x0, x3, x4 => if x4 < (x0.length : Int) then ((some (([] : List Int) : List Int)).bind fun y284 => (if 0 ≤ x4 then (if y284.length + ((rd_T85 x0 x4).f0).length < 17592186044416 then (if x3.length < 4398046511104 then (spec_l8Copy.l0 k x0 (x3 ++ [(⟨(y284 ++ ((rd_T85 x0 x4).f0)), (rd_T85 x0 x4).f1⟩ : S85)]) (wrap64 (x4 + 1))) else (none)) else (none)) else (none))) else (some x3)
def spec_l8Copy.f (k : Nat) (l0 : List (S85)) : Option ((List (S85))) := spec_l8Copy.l0 k l0 (([] : List (S85))) 0
def spec_l8Copy.T5 : Bool × List (List Nat × List Nat) := (true, [([], []), ([], []), ([], []), ([], []), ([2, 3], [2, 3]), ([4], [4]), ([5], [5]), ([1, 6], [1, 6]), ([], []), ([], []), ([8, 9], [8, 9]), ([10], [10]), ([11], [11]), ([7, 12], [7, 12]), ([13], [13]), ([0, 14, 7], [0, 14]), ([15, 15, 0, 1, 2, 3, 4, 5, 6, 7, 8, 9, 10, 11, 12, 13, 14, 15], [0, 15])])
def spec_l8Copy.B5 : List Nat := [0, 0, 0, 0, 12, 28, 60, 126, 0, 0, 768, 1792, 3840, 8190, 16382, 32767, 65535]
theorem spec_l8Copy.tab5 : rtab .any (opsOf Try.f85 5) = spec_l8Copy.T5 := by kernel_rfl
theorem spec_l8Copy.bits5 : waitsOk spec_l8Copy.T5.2 spec_l8Copy.B5 = true := by kernel_rfl
set_option maxHeartbeats 8000000 in
set_option maxRecDepth 100000 in
theorem spec_l8Copy.calls (k : Nat) (A0 : Option Addr) (c0 : Nat) (l0 : List (S85)) (r : List (S85)) (w : World) (hr0 : Kd.C k85 w A0 l0.length l0) (hc0 : l0.length ≤ c0) (h : spec_l8Copy.f k l0 = some r) :
  Calls Try.prog 85 #[.slice A0 l0.length c0] w fun e w' => ∃ v0_ : Value, e = .returned (v0_) ∧ Kd.S k85 85 w' w.heap.size (fun _ => True) v0_ r ∧ Below w.heap.size w w' := by
 have hu85 := Try.underlying85
 have HR0 := Aside0.mk hr0
 have HC0 := Aside0.mk hc0
 clear hr0 hc0
 have HB := Aside0.mk (Below.refl w.heap.size w)
 have H : (spec_l8Copy.l0 k l0 (([] : List (S85))) 0) = some r := h
 clear h
 obtain ⟨y281, hy281⟩ : ∃ y_ : List (S85), y_ = (([] : List (S85))) := ⟨_, rfl⟩
 replace H : (spec_l8Copy.l0 k l0 y281 0) = some r := by first | (rw [hy281]; with_reducible exact H) | (have H2_ := (Option.bind_some _ _).symm.trans H; rw [hy281]; with_reducible exact H2_) | (have H2_ := (Option.bind_some _ _).symm.trans H; with_reducible exact H2_) | with_reducible exact H | (rw [hy281]; exact H) | exact H
 have Ny281 := Aside0.mk hy281
 clear hy281
 have H' := Aside0.mk H
 clear H
 go_enter Try.func85, Try.ntmps85
 go_wp2_with (first | ((with_reducible refine gate_dst (N := 5) rfl ?_); refine Kd.S_lit k85 _ 85 ?hg (N := 5) ?hd (xs := ([] : List (S85))) (inner := []) (ok := fun _ => True) (okp := fun _ => True) ?hr ?hp (fun _ hk => hk) trivial (Below.refl _ _) (Nat.le_refl _) (by simp) ?_; (case hd => rfl); (case hg => rfl); (case hr => first | (go_simp; done) | (go_simp; rfl)); (case hp => exact (Reps.none _ _)); intro v282 w2 ho3 hb hg_ hnew_; clear hg_ hnew_; (first | rw [← Ny281.out] at ho3 | (simp only [Int.reduceToNat] at ho3; rw [← Ny281.out] at ho3)); have HO283 := Aside0.mk (Kd.S_lower ho3 (below_size S.bA)); replace HB := S.sA hb; clear hb ho3))
 go_loopg [3, 4] k (fun kq v3 v4 w' => ∃ (x3_1 : List (S85)) (x4_1 : Int), v4 = .int .i64 x4_1 ∧ Aside0 (spec_l8Copy.l0 kq l0 x3_1 x4_1 = some r) ∧ Aside0 (kq ≤ k) ∧ Aside0 (Kd.S k85 85 w' w.heap.size (fun _ => True) v3 x3_1) ∧ Aside0 (Below w.heap.size w w'))
 case atStart => exact ⟨(y281), (0), S.eA, H', ⟨Nat.le_refl _⟩, ⟨by (with_reducible repeat (first | apply Kd.S_alloc | apply Kd.S_drewN | apply Kd.S_drew)); exact HO283.out⟩, ⟨S.bA⟩⟩
 case round =>
  clear H'
  obtain ⟨x3_1, x4_1, rfl, HA, HK1, HO_3, HB⟩ := hrel
  cases gk with
  | zero => exact absurd HA.out (by simp [spec_l8Copy.l0])
  | succ k1 =>
   have H := HA.out
   clear HA
   simp only [spec_l8Copy.l0] at H
   replace H := S.dc H; rcases H with ⟨H, c4b0⟩ | ⟨H, c4b0⟩
   ·obtain ⟨y284, hy284⟩ : ∃ y_ : List Int, y_ = (([] : List Int)) := ⟨_, rfl⟩
    replace H : (if 0 ≤ x4_1 then (if y284.length + ((rd_T85 l0 x4_1).f0).length < 17592186044416 then (if x3_1.length < 4398046511104 then (spec_l8Copy.l0 k1 l0 (x3_1 ++ [(⟨(y284 ++ ((rd_T85 l0 x4_1).f0)), (rd_T85 l0 x4_1).f1⟩ : S85)]) (wrap64 (x4_1 + 1))) else (none)) else (none)) else (none)) = some r := by first | (rw [hy284]; with_reducible exact H) | (have H2_ := (Option.bind_some _ _).symm.trans H; rw [hy284]; with_reducible exact H2_) | (have H2_ := (Option.bind_some _ _).symm.trans H; with_reducible exact H2_) | with_reducible exact H | (rw [hy284]; exact H) | exact H
    have Ny284 := Aside0.mk hy284
    clear hy284
    by_cases c5 : 0 ≤ x4_1
    ·rw [if_pos c5] at H
     have c5b0 : decide (0 ≤ x4_1) = true := decide_eq_true c5
     clear c5
     by_cases c6 : y284.length + ((rd_T85 l0 x4_1).f0).length < 17592186044416
     ·rw [if_pos c6] at H
      have LMc6 := Aside0.mk c6
      clear c6
      obtain ⟨y288, hy288⟩ : ∃ y_ : List Int, y_ = (y284 ++ ((rd_T85 l0 x4_1).f0)) := ⟨_, rfl⟩
      replace H : (if x3_1.length < 4398046511104 then (spec_l8Copy.l0 k1 l0 (x3_1 ++ [(⟨y288, (rd_T85 l0 x4_1).f1⟩ : S85)]) (wrap64 (x4_1 + 1))) else (none)) = some r := by first | (rw [hy288]; with_reducible exact H) | (have H2_ := (Option.bind_some _ _).symm.trans H; rw [hy288]; with_reducible exact H2_) | (have H2_ := (Option.bind_some _ _).symm.trans H; with_reducible exact H2_) | with_reducible exact H | (rw [hy288]; exact H) | exact H
      have Ny288 := Aside0.mk hy288
      clear hy288
      by_cases c7 : x3_1.length < 4398046511104
      ·rw [if_pos c7] at H
       have LMc7 := Aside0.mk c7
       clear c7
       obtain ⟨y292, hy292⟩ : ∃ y_ : List (S85), y_ = (x3_1 ++ [(⟨y288, (rd_T85 l0 x4_1).f1⟩ : S85)]) := ⟨_, rfl⟩
       replace H : (spec_l8Copy.l0 k1 l0 y292 (wrap64 (x4_1 + 1))) = some r := by first | (rw [hy292]; with_reducible exact H) | (have H2_ := (Option.bind_some _ _).symm.trans H; rw [hy292]; with_reducible exact H2_) | (have H2_ := (Option.bind_some _ _).symm.trans H; with_reducible exact H2_) | with_reducible exact H | (rw [hy292]; exact H) | exact H
       have Ny292 := Aside0.mk hy292
       clear hy292
       have H' := Aside0.mk H
       clear H
       try go_wp2
       replace HO_3 := Aside0.mk (Kd.S_drew HO_3.out)
       replace HB := Aside0.mk (below_drew1 HB.out)
       have p287 : 0 ≤ (x4_1 : Int) := S.oD
       have q287 : x4_1 < (l0.length : Int) := S.oD
       obtain ⟨ad287, A287_0, c287_0, e287, hx287_0, hx287_1, hl287_0, hi287_0⟩ := at_T85 HR0.out x4_1 p287 q287
       have hw287_1 := hx287_1
       have hw287_0 := hx287_0
       cases e287
       replace hx287_0 := S.hb HB hx287_0
       replace hx287_1 := S.hb HB hx287_1
       have HR287_0 := Aside0.mk hi287_0
       have HC287_0 := Aside0.mk hl287_0
       clear hi287_0 hl287_0
       replace p287 := eq_true p287
       replace q287 := eq_true q287
       have p291 : 0 ≤ (x4_1 : Int) := S.oD
       have q291 : x4_1 < (l0.length : Int) := S.oD
       obtain ⟨ad291, A291_0, c291_0, e291, hx291_0, hx291_1, hl291_0, hi291_0⟩ := at_T85 HR0.out x4_1 p291 q291
       have hw291_1 := hx291_1
       have hw291_0 := hx291_0
       obtain rfl : ad287 = ad291 := (by injection e291)
       replace hx291_0 := S.hb HB hx291_0
       replace hx291_1 := S.hb HB hx291_1
       have HR291_0 := Aside0.mk hi291_0
       have HC291_0 := Aside0.mk hl291_0
       clear hi291_0 hl291_0
       replace p291 := eq_true p291
       replace q291 := eq_true q291
       have ea_ := Option.some.inj (hx287_0.symm.trans hx291_0)
       injection ea_ with ea_ en_ ec_
       subst ea_
       subst ec_
       clear en_
       refine S.st (n := 17) (ds := []) #[false, false, false, false, false, false, false, false, false, false, false, false, false, false, false, false, false] (fun w_ h_ => have x_ := And.intro (S.q h_ (S.hb HB hw287_0)) (And.intro (S.q h_ (S.hb HB hw287_1)) (And.intro (S.q h_ (S.hb HB hw291_0)) (S.q h_ (S.hb HB hw291_1)))); x_) (fun hHeld => ?_); refine with_tabW spec_l8Copy.tab5 spec_l8Copy.bits5 (fun HT_ HW_ => ?_)
       generalize wr.drew = w8 at HO_3 HB HR287_0 HR291_0 hx287_0 hx287_1 hx291_0 hx291_1 hHeld ⊢
       refine S.pS 0 12 ?_
       refine S.pS 2 14 ?_
       refine S.pS 3 15 ?_
       refine S.pS 4 16 ?_
       refine S.pS 5 17 ?_
       refine S.pS 8 20 ?_
       refine S.pS 9 21 ?_
       refine S.pS 10 22 ?_
       refine S.pS 11 23 ?_
       refine S.tK 6 18 #[true, false, true, true, true, true, true, false, true, true, true, true, false, false, false, false, false] ?_
       refine S.tK 12 24 #[true, false, true, true, true, true, true, false, true, true, true, true, true, false, false, false, false] ?_
       refine S.oN 1 13 #[true, true, true, true, true, true, true, false, true, true, true, true, true, false, false, false, false] (fun K hK => ?_)
       refine Kd.R_lit_step (Kd.int .i64) _ 3 ?hg (N := 13) ?hd (xs := ([] : List Int)) (inner := []) (ok := fun _ => True) (okp := fun _ => True) ?hr ?hp (fun _ hk => hk) trivial (Below.refl _ _) (Nat.le_refl _) (by simp) ?_; (case hd => rfl); (case hg => rfl); (case hr => first | (go_simp; done) | (go_simp; rfl)); (case hp => exact (Reps.none _ _))
       intro v285 w9 ho10 hb hg_ hnew_
       clear hg_ hnew_
       (first | rw [← Ny284.out] at ho10 | (simp only [Int.reduceToNat] at ho10; rw [← Ny284.out] at ho10))
       replace HO_3 := Aside0.mk (Kd.S_elder' (by (with_reducible repeat (first | apply Kd.S_alloc | apply Kd.S_drewN | apply Kd.S_drew)); exact HO_3.out) (Kd.R_base ho10) hb)
       have HO286 := S.lwA ho10
       replace HB := S.sA hb
       clear hb ho10
       refine hK.out _ _ ⟨(S.hb HB hw287_0 :), (S.hb HB hw287_1 :), (S.hb HB hw291_0 :), (S.hb HB hw291_1 :)⟩ (fun hHeld => ?_)
       clear hK K
       refine S.nm 13 ?_
       refine S.oN 7 19 #[true, true, true, true, true, true, true, true, true, true, true, true, true, false, false, false, false] (fun K hK => ?_)
       refine Kd.R_append_rows_step (Kd.int .i64) (w0 := w) w.heap.size (by rfl) (.tmp 13) (.tmp 18) 36 3 (.int .i64 0) 8 rfl Try.underlying36 info3 rfl (by decide) (by omega) v285 y284 ((rd_T85 l0 x4_1).f0) _ _ _ (fun _ => True) (fun _ => False) rfl rfl ?aO ?aR (fun _ _ h => h) (fun _ h => h.elim) ?aF ?aB ?aS ?aL ?_
       (case aR => exact S.cA HR287_0.out)
       (case aB => exact S.bA)
       (case aF => exact (fun _ _ => trivial))
       (case aO => exact (S.uR HO286.out))
       (case aS => exact (below_size S.bA))
       (case aL => have := LMc6.out; omega)
       intro v289 w11 ho hb hg hat
       rw [← Ny288.out] at ho
       have n0_ := Aside0.mk (Kd.S_after (ok := (fun _ => True)) (by (with_reducible repeat (first | apply Kd.S_alloc | apply Kd.S_drewN | apply Kd.S_drew)); exact HO_3.out) hg hat)
       have n1_ := Aside0.mk (hb)
       have n2_ := Aside0.mk (ho)
       clear HO_3
       clear HB
       clear HO286
       have HO_3 := n0_
       have HB := n1_
       have HO290 := n2_
       clear n0_ n1_ n2_
       clear ho hb hg hat
       obtain ⟨Ao12, co12, eo12⟩ := Kd.R_slice HO290.out
       (first | subst eo12 | (injection eo12 with f1_ f2_ f3_; have f4_ := f1_.symm; have f5_ := f3_.symm; clear f1_ f2_ f3_; subst f4_; subst f5_))
       refine hK.out _ _ ⟨(S.hb HB hw287_0 :), (S.hb HB hw287_1 :), (S.hb HB hw291_0 :), (S.hb HB hw291_1 :)⟩ (fun hHeld => ?_)
       clear hK K
       refine S.nm 19 ?_
       refine S.pS 13 25 ?_
       refine S.oN 14 26 #[true, true, true, true, true, true, true, true, true, true, true, true, true, true, true, false, false] (fun K hK => ?_)
       refine value_ (w1 := ?_) (v := ?_) (by rfl) rfl ?_ ?_
       rotate_left 2
       ·go_simp
        constructor
        ·rfl
        ·rfl
       refine hK.out _ _ ⟨(World.cell?_alloc_lt _ _ _ (World.block_lt_of_cell? _ _ ((S.hb HB hw287_0 :)))).trans ((S.hb HB hw287_0 :)), (World.cell?_alloc_lt _ _ _ (World.block_lt_of_cell? _ _ ((S.hb HB hw287_1 :)))).trans ((S.hb HB hw287_1 :)), (World.cell?_alloc_lt _ _ _ (World.block_lt_of_cell? _ _ ((S.hb HB hw291_0 :)))).trans ((S.hb HB hw291_0 :)), (World.cell?_alloc_lt _ _ _ (World.block_lt_of_cell? _ _ ((S.hb HB hw291_1 :)))).trans ((S.hb HB hw291_1 :))⟩ (fun hHeld => ?_)
       clear hK K
       refine S.nm 26 ?_
       refine S.oN 15 27 #[true, true, true, true, true, true, true, true, true, true, true, true, true, true, true, true, false] (fun K hK => ?_)
       refine Kd.S_append_step k85 (w0 := w) w.heap.size (by rfl) (.tmp 12) (.tmp 26) 29 85 (.agg #[(.slice none 0 0), (.int .i64 0)]) 32 rfl Try.underlying29 info85 rfl (by decide) (by omega) u3 x3_1 (⟨y288, (rd_T85 l0 x4_1).f1⟩ : S85) [.slice Ao12 y288.length co12, .int .i64 ((rd_T85 l0 x4_1).f1)] (fun _ => True) (fun k_ => some k_ = (.slice Ao12 y288.length co12 : Value).ownBlock) rfl rfl ?aP (fun k_ hk_ => ((Kd.R_mono (ok' := fun k_ => ((fun _ => True)) k_ ∧ some k_ ≠ (u3 : Value).ownBlock) (Kd.R_apart' (HO290.out) (Kd.S_typed HO_3.out) (by decide)) (fun k_ hk => ⟨trivial, hk.2⟩))).1 k_ hk_.symm) ?aF ?aO ?aB ?aS ?aL ?_
       (case aP => exact k85_mkM _ _ _ (⟨y288, (rd_T85 l0 x4_1).f1⟩ : S85) (Kd.R_mono (Kd.R_tight rfl (Kd.R_mono (ok' := fun k_ => ((fun _ => True)) k_ ∧ some k_ ≠ (u3 : Value).ownBlock) (Kd.R_apart' (HO290.out) (Kd.S_typed HO_3.out) (by decide)) (fun k_ hk => ⟨trivial, hk.2⟩))) (fun _ h_ => h_)))
       (case aB => exact S.bA)
       (case aF => exact (fun _ _ => trivial))
       (case aO => exact (by (with_reducible repeat (first | apply Kd.S_alloc | apply Kd.S_drewN | apply Kd.S_drew)); exact Kd.S_mono HO_3.out (fun k_ hk => ⟨trivial, fun e_ => hk.2 e_⟩)))
       (case aS => exact (below_size S.bA))
       (case aL => have := LMc7.out; omega)
       intro v293 w13 ho hb hg hat
       rw [← Ny292.out] at ho
       have n0_ := Aside0.mk (hb)
       have n1_ := Aside0.mk (ho)
       clear HB
       clear HO_3
       clear HO290
       have HB := n0_
       have HO294 := n1_
       clear n0_ n1_
       clear ho hb hg hat
       refine hK.out _ _ ⟨(S.hb HB hw287_0 :), (S.hb HB hw287_1 :), (S.hb HB hw291_0 :), (S.hb HB hw291_1 :)⟩ (fun hHeld => ?_)
       clear hK K
       refine S.nm 27 ?_
       refine S.pS 16 3 ?_
       refine done_ (done_of HT_.out (by kernel_rfl)) ?_
       try go_wp2
       go_roundg k1
       case measure => have := HK1.out; omega
       case rel => exact ⟨(y292), (wrap64 (x4_1 + 1)), S.eA, H', ⟨by have := HK1.out; omega⟩, ⟨by (with_reducible repeat (first | apply Kd.S_alloc | apply Kd.S_drewN | apply Kd.S_drew)); exact HO294.out⟩, ⟨S.bA⟩⟩
      ·rw [if_neg c7] at H
       exact absurd H (by simp)
     ·rw [if_neg c6] at H
      exact absurd H (by simp)
    ·rw [if_neg c5] at H
     exact absurd H (by simp)
   ·obtain rfl := Option.some.inj H
    go_wp2
    go_ret
    exact ⟨_, S.eW, by (with_reducible repeat (first | apply Kd.S_alloc | apply Kd.S_drewN | apply Kd.S_drew)); exact HO_3.out, S.bA⟩

/-! ### spec_RotatePlan: function 56 -/
def spec_RotatePlan.f (k : Nat) (l0 : List (S85)) (a1 : Int) : Option ((List (S85))) := (spec_l1In.f a1 0 (wrap64 ((l0.length : Int) - 1))).bind fun t295 => (if t295 = true then (if 0 ≤ a1 then (if a1 ≤ (l0.length : Int) then ((spec_l8Copy.f k (l0.drop (a1 : Int).toNat)).bind fun t300 => ((spec_l8Copy.f k (l0.take (a1 : Int).toNat)).bind fun t307 => (if t300.length + t307.length < 4398046511104 then (some (t300 ++ t307)) else (none)))) else (none)) else (none)) else ((spec_l8Copy.f k l0).bind fun t313 => (some t313)))
def spec_RotatePlan.T3 : Bool × List (List Nat × List Nat) := (true, [([], []), ([], []), ([0, 1], [0, 1]), ([2], [2]), ([], []), ([], []), ([4, 5], [4, 5]), ([6, 3], [6]), ([3, 7, 7], [3, 7]), ([8, 8, 0, 1, 2, 3, 4, 5, 6, 7, 8], [8])])
def spec_RotatePlan.B3 : List Nat := [0, 0, 3, 7, 0, 0, 48, 127, 255, 511]
theorem spec_RotatePlan.tab3 : rtab .any (opsOf Try.f56 3) = spec_RotatePlan.T3 := by kernel_rfl
theorem spec_RotatePlan.bits3 : waitsOk spec_RotatePlan.T3.2 spec_RotatePlan.B3 = true := by kernel_rfl
set_option maxHeartbeats 8000000 in
set_option maxRecDepth 100000 in
theorem spec_RotatePlan.calls (k : Nat) (A0 : Option Addr) (c0 : Nat) (l0 : List (S85)) (a1 : Int) (r : List (S85)) (w : World) (hr0 : Kd.C k85 w A0 l0.length l0) (hc0 : l0.length ≤ c0) (h : spec_RotatePlan.f k l0 a1 = some r) :
  Calls Try.prog 56 #[.slice A0 l0.length c0, .int .i64 a1] w fun e w' => ∃ v0_ : Value, e = .returned (v0_) ∧ Kd.N k85 85 w' w.heap.size (fun k_ => (w.heap.size ≤ k_)) v0_ r ∧ Below w.heap.size w w' := by
 have HR0 := Aside0.mk hr0
 have HC0 := Aside0.mk hc0
 clear hr0 hc0
 have HB := Aside0.mk (Below.refl w.heap.size w)
 have H : ((spec_l1In.f a1 0 (wrap64 ((l0.length : Int) - 1))).bind fun t295 => (if t295 = true then (if 0 ≤ a1 then (if a1 ≤ (l0.length : Int) then ((spec_l8Copy.f k (l0.drop (a1 : Int).toNat)).bind fun t300 => ((spec_l8Copy.f k (l0.take (a1 : Int).toNat)).bind fun t307 => (if t300.length + t307.length < 4398046511104 then (some (t300 ++ t307)) else (none)))) else (none)) else (none)) else ((spec_l8Copy.f k l0).bind fun t313 => (some t313)))) = some r := h
 clear h
 replace H := S.bd H; obtain ⟨t295, A3, H⟩ := H
 (try dsimp only at H)
 replace H := S.db H; rcases H with ⟨rfl, H⟩ | ⟨rfl, H⟩
 ·by_cases c5 : 0 ≤ a1
  ·rw [if_pos c5] at H
   have c5b0 := eq_true c5
   have c5b1 : decide (0 ≤ a1) = true := decide_eq_true c5
   clear c5
   by_cases c6 : a1 ≤ (l0.length : Int)
   ·rw [if_pos c6] at H
    have c6b0 := eq_true c6
    have c6b1 : decide (a1 ≤ (l0.length : Int)) = true := decide_eq_true c6
    clear c6
    obtain ⟨y296, hy296⟩ : ∃ y_ : List (S85), y_ = (l0.drop (a1 : Int).toNat) := ⟨_, rfl⟩
    replace H : ((spec_l8Copy.f k y296).bind fun t300 => ((spec_l8Copy.f k (l0.take (a1 : Int).toNat)).bind fun t307 => (if t300.length + t307.length < 4398046511104 then (some (t300 ++ t307)) else (none)))) = some r := by first | (rw [hy296]; with_reducible exact H) | (have H2_ := (Option.bind_some _ _).symm.trans H; rw [hy296]; with_reducible exact H2_) | (have H2_ := (Option.bind_some _ _).symm.trans H; with_reducible exact H2_) | with_reducible exact H | (rw [hy296]; exact H) | exact H
    have Ny296 := Aside0.mk hy296
    clear hy296
    replace H := S.bd H; obtain ⟨t300, A7, H⟩ := H
    (try dsimp only at H)
    have c8b0 := eq_true (S.oD : 0 ≤ a1)
    have c9b0 := eq_true (S.oD : a1 ≤ (l0.length : Int))
    obtain ⟨y303, hy303⟩ : ∃ y_ : List (S85), y_ = (l0.take (a1 : Int).toNat) := ⟨_, rfl⟩
    replace H : ((spec_l8Copy.f k y303).bind fun t307 => (if t300.length + t307.length < 4398046511104 then (some (t300 ++ t307)) else (none))) = some r := by first | (rw [hy303]; with_reducible exact H) | (have H2_ := (Option.bind_some _ _).symm.trans H; rw [hy303]; with_reducible exact H2_) | (have H2_ := (Option.bind_some _ _).symm.trans H; with_reducible exact H2_) | with_reducible exact H | (rw [hy303]; exact H) | exact H
    have Ny303 := Aside0.mk hy303
    clear hy303
    replace H := S.bd H; obtain ⟨t307, A10, H⟩ := H
    (try dsimp only at H)
    by_cases c11 : t300.length + t307.length < 4398046511104
    ·rw [if_pos c11] at H
     have LMc11 := Aside0.mk c11
     clear c11
     obtain ⟨y310, hy310⟩ : ∃ y_ : List (S85), y_ = (t300 ++ t307) := ⟨_, rfl⟩
     replace H : (some y310) = some r := by first | (rw [hy310]; with_reducible exact H) | (have H2_ := (Option.bind_some _ _).symm.trans H; rw [hy310]; with_reducible exact H2_) | (have H2_ := (Option.bind_some _ _).symm.trans H; with_reducible exact H2_) | with_reducible exact H | (rw [hy310]; exact H) | exact H
     have Ny310 := Aside0.mk hy310
     clear hy310
     obtain rfl := Option.some.inj H
     go_enter Try.func56, Try.ntmps56
     try go_wp2_with (first | ((with_reducible refine gate_callee (f := 58) rfl ?_); refine S.gL (some 9) Try.func58 #[.int .i64 a1, .int .i64 0, .int .i64 (wrap64 ((l0.length : Int) - 1))] ?_; (with_reducible refine (spec_l1In.calls a1 0 (wrap64 ((l0.length : Int) - 1)) true _ A3.out).mono ?_); rintro e w' ⟨rfl, ⟨nd, rfl⟩⟩; refine ⟨_, rfl, ?_⟩))
     replace HB := Aside0.mk (below_drew1 HB.out)
     have q13 : (a1 : Int) ≤ ((l0.length : Int) : Int) := S.oD
     obtain ⟨i013, hi013, _, hsz13, _⟩ := info_parts info85
     have hroom13 : l0.length ≤ c0 := HC0.out
     have hC13 : Kd.C k85 _ A0 l0.length l0 := HR0.out
     have q013 : (0 : Int) ≤ (a1 : Int) := S.oD
     have hcut13 := cut_from (P := Try.prog) 29 85 .i64 Try.underlying29 hi013 2 hsz13 A0 l0.length c0 a1 q013 q13
     have hr13 := Kd.C_drop (m := (a1 : Int).toNat) (c := c0) hC13 (by omega) hroom13
     obtain ⟨A13, hA13⟩ : ∃ A1, A1 = (if c0 = (a1 : Int).toNat then A0 else (A0 : Option Addr).map (·.add ((a1 : Int).toNat * 2))) := ⟨_, rfl⟩
     obtain ⟨c13, hc13⟩ : ∃ c1, c1 = c0 - (a1 : Int).toNat := ⟨_, rfl⟩
     have hy13 : y296.length = l0.length - (a1 : Int).toNat := (by rw [Ny296.out, List.length_drop] <;> omega)
     rw [show (l0).drop (a1 : Int).toNat = y296 from Ny296.out.symm] at hr13
     replace hr13 : Kd.C k85 _ A13 y296.length y296 := (by rw [hA13]; exact hr13)
     rw [← hy13, ← hA13, ← hc13] at hcut13
     have HR299 := Aside0.mk hr13
     have HC299 := Aside0.mk (show y296.length ≤ c13 from by rw [hy13, hc13]; exact Nat.sub_le_sub_right hroom13 _)
     clear hr13 hC13 hroom13 hi013 hsz13 hc13
     have KY13 := Aside0.mk hy13
     have KA13 := Aside0.mk hA13
     clear hy13 hA13
     replace q13 := eq_true q13
     have q14 : (a1 : Int) ≤ ((l0.length : Int) : Int) := S.oD
     obtain ⟨i014, hi014, _, hsz14, _⟩ := info_parts info85
     have hroom14 : l0.length ≤ c0 := HC0.out
     have hC14 : Kd.C k85 _ A0 l0.length l0 := HR0.out
     have hcut14 := cut_to (P := Try.prog) 29 85 .i64 Try.underlying29 hi014 A0 l0.length c0 a1 (S.oD) q14 hroom14
     have hr14 := Kd.C_take (m := (a1 : Int).toNat) hC14 (by omega)
     have hy14 : y303.length = (a1 : Int).toNat := (by rw [Ny303.out, List.length_take]; omega)
     rw [← Ny303.out] at hr14
     rw [← hy14] at hcut14
     have HR306 := Aside0.mk hr14
     have HC306 := Aside0.mk (show y303.length ≤ c0 from by omega)
     clear hr14 hC14 hroom14 hi014 hsz14
     have KY14 := Aside0.mk hy14
     clear hy14
     replace q14 := eq_true q14
     refine start_ (n := 10) (S := fun w' => True) (ds := []) #[false, false, false, false, false, false, false, false, false, false] (by kernel_rfl) rfl rfl trivial (fun hHeld => ?_); refine with_tabW spec_RotatePlan.tab3 spec_RotatePlan.bits3 (fun HT_ HW_ => ?_)
     replace HB := Aside0.mk (below_drew1 (pw_below_drewN (Below.refl w.heap.size w) nd))
     generalize (w.drewN nd).drew = w12 at HB hHeld ⊢
     refine S.pS 0 13 ?_
     refine S.pS 1 14 ?_
     refine S.pS 2 15 ?_
     refine S.pS 4 17 ?_
     refine S.pS 5 18 ?_
     refine S.pS 6 19 ?_
     refine S.oN 3 16 #[true, true, true, true, true, true, true, false, false, false] (fun K hK => ?_)
     refine S.go Try.func85 #[.slice A13 y296.length c13] ?_
     with_reducible refine (spec_l8Copy.calls k _ _ y296 t300 _ ?s1 ?s2 A7.out).mono ?_
     (case s1 => exact S.cA HR299.out)
     (case s2 => exact HC299.out)
     rintro e w15 ⟨v301, rfl, ho0, hb⟩
     refine ⟨_, rfl, ?_⟩
     have HO302 := Aside0.mk (Kd.N_lower (Kd.N_mono (ok' := fun k_ => (w.heap.size ≤ k_)) (Kd.S_N (Kd.S_bound ho0)) (fun k_ hk_ => (Nat.le_trans (below_size S.bA) hk_.2.1))) (below_size S.bA))
     replace HB := S.sA hb
     (try clear hb)
     (try clear hb2)
     (try clear hk)
     (try clear hi)
     (try clear ho0)
     refine hK.out _ _ trivial (fun hHeld => ?_)
     clear hK K
     refine S.nm 16 ?_
     refine S.oN 7 20 #[true, true, true, true, true, true, true, true, false, false] (fun K hK => ?_)
     refine S.go Try.func85 #[.slice A0 y303.length c0] ?_
     with_reducible refine (spec_l8Copy.calls k _ _ y303 t307 _ ?s1 ?s2 A10.out).mono ?_
     (case s1 => exact S.cA HR306.out)
     (case s2 => exact HC306.out)
     rintro e w16 ⟨v308, rfl, ho0, hb⟩
     refine ⟨_, rfl, ?_⟩
     have HO309 := Aside0.mk (Kd.N_lower (Kd.N_mono (ok' := fun k_ => (w.heap.size ≤ k_) ∧ S.N k_ v301) (Kd.S_N (Kd.S_bound ho0)) (fun k_ hk_ => ⟨(Nat.le_trans (below_size S.bA) hk_.2.1), (Kd.fresh' (Kd.N_lt (by (with_reducible repeat (first | apply Kd.N_alloc | apply Kd.N_drewN | apply Kd.N_drew)); exact HO302.out)) k_ hk_.2.1)⟩)) (below_size S.bA))
     replace HO302 := Aside0.mk (Kd.N_elder' (by (with_reducible repeat (first | apply Kd.N_alloc | apply Kd.N_drewN | apply Kd.N_drew)); exact HO302.out) (Kd.N_base (Kd.S_N ho0)) hb)
     replace HB := S.sA hb
     (try clear hb)
     (try clear hb2)
     (try clear hk)
     (try clear hi)
     (try clear ho0)
     obtain ⟨Ao18, co18, eo18⟩ := Kd.N_slice HO309.out
     (first | subst eo18 | (injection eo18 with f1_ f2_ f3_; have f4_ := f1_.symm; have f5_ := f3_.symm; clear f1_ f2_ f3_; subst f4_; subst f5_))
     refine hK.out _ _ trivial (fun hHeld => ?_)
     clear hK K
     refine S.nm 20 ?_
     refine S.oN 8 21 #[true, true, true, true, true, true, true, true, true, false] (fun K hK => ?_)
     refine Kd.N_append_rows_step k85 (w0 := w) w.heap.size (by rfl) (.tmp 16) (.tmp 20) 29 85 (.agg #[(.slice none 0 0), (.int .i64 0)]) 32 rfl Try.underlying29 info85 rfl (by decide) (by omega) v301 t300 t307 _ _ _ (fun k_ => (w.heap.size ≤ k_)) (fun k_ => ((fun k_ => (w.heap.size ≤ k_))) k_ ∧ S.N k_ v301) rfl rfl ?aO ?aR (fun _ hk => hk) ?aF ?aB ?aS ?aL ?_
     (case aR => exact (by skip; exact Kd.N_F (Kd.N_mono (ok' := (fun k_ => ((fun k_ => (w.heap.size ≤ k_))) k_ ∧ S.N k_ v301)) (HO309.out) (fun k_ hk => ⟨hk.1, hk.2⟩))))
     (case aB => exact S.bA)
     (case aF => exact (fun k_ hk => (Nat.le_trans (below_size S.bA) hk)))
     (case aO => exact (by (with_reducible repeat (first | apply Kd.N_alloc | apply Kd.N_drewN | apply Kd.N_drew)); exact Kd.N_mono HO302.out (fun _ hk => hk.1)))
     (case aS => exact (below_size S.bA))
     (case aL => have := LMc11.out; omega)
     intro v311 w17 ho hb hg hat
     rw [← Ny310.out] at ho
     have n0_ := Aside0.mk (Kd.N_afterv (ok := (fun k_ => (w.heap.size ≤ k_))) (by (with_reducible repeat (first | apply Kd.N_alloc | apply Kd.N_drewN | apply Kd.N_drew)); exact HO309.out) hg hat)
     have n1_ := Aside0.mk (hb)
     have n2_ := Aside0.mk (ho)
     clear HO309
     clear HB
     clear HO302
     have HO309 := n0_
     have HB := n1_
     have HO312 := n2_
     clear n0_ n1_ n2_
     clear ho hb hg hat
     refine hK.out _ _ trivial (fun hHeld => ?_)
     clear hK K
     refine S.nm 21 ?_
     refine S.pS 9 4 ?_
     refine done_ (done_of HT_.out (by kernel_rfl)) ?_
     try go_wp2
     go_ret
     exact ⟨_, S.eW, by (with_reducible repeat (first | apply Kd.N_alloc | apply Kd.N_drewN | apply Kd.N_drew)); exact HO312.out, S.bA⟩
    ·rw [if_neg c11] at H
     exact absurd H (by simp)
   ·rw [if_neg c6] at H
    exact absurd H (by simp)
  ·rw [if_neg c5] at H
   exact absurd H (by simp)
 ·replace H := S.bd H; obtain ⟨t313, A19, H⟩ := H
  (try dsimp only at H)
  obtain rfl := Option.some.inj H
  go_enter Try.func56, Try.ntmps56
  go_wp2_with (first | ((with_reducible refine gate_callee (f := 58) rfl ?_); refine S.gL (some 9) Try.func58 #[.int .i64 a1, .int .i64 0, .int .i64 (wrap64 ((l0.length : Int) - 1))] ?_; (with_reducible refine (spec_l1In.calls a1 0 (wrap64 ((l0.length : Int) - 1)) false _ A3.out).mono ?_); rintro e w' ⟨rfl, ⟨nd, rfl⟩⟩; refine ⟨_, rfl, ?_⟩) | ((with_reducible refine gate_callee (f := 85) rfl ?_); refine S.gL (some 12) Try.func85 #[.slice A0 l0.length c0] ?_; (with_reducible refine (spec_l8Copy.calls k _ _ l0 t313 _ ?s1 HC0.out A19.out).mono ?_); (case s1 => repeat (first | exact HR0.out | (with_reducible refine Kd.C_alloc ?_ _) | (with_reducible refine Kd.C_drewN ?_ _) | (with_reducible refine Kd.C_drew ?_))); rintro e w20 ⟨v314, rfl, ho0, hb⟩; refine ⟨_, rfl, ?_⟩; have HO315 := Aside0.mk (Kd.N_lower (Kd.N_mono (ok' := fun k_ => (w.heap.size ≤ k_)) (Kd.S_N (Kd.S_bound ho0)) (fun k_ hk_ => (Nat.le_trans (below_size S.bA) hk_.2.1))) (below_size S.bA)); replace HB := S.sA hb; (try clear hb); (try clear ho0)))
  go_ret
  exact ⟨_, S.eW, by (with_reducible repeat (first | apply Kd.N_alloc | apply Kd.N_drewN | apply Kd.N_drew)); exact HO315.out, S.bA⟩

/-! ### spec_MakeSwitch: function 45 -/
def spec_MakeSwitch.l0 : Nat → List (S71) → List (S85) → List (S85) → Int → Option ((List (S85)) × Bool)
 | 0, _, _, _, _ => none
 | k + 1, x0, x1, x2, x8 => if x8 < (x2.length : Int) then ((spec_RotatePlan.f k x2 x8).bind fun t319 => ((spec_CanSwitch.f k x0 x1 t319).bind fun t322 => (if t322 = true then (some (t319, true)) else (spec_MakeSwitch.l0 k x0 x1 x2 (wrap64 (x8 + 1)))))) else ((spec_l8Copy.f k x2).bind fun t316 => (some (t316, false)))
def spec_MakeSwitch.f (k : Nat) (l0 : List (S71)) (l1 : List (S85)) (l2 : List (S85)) : Option ((List (S85)) × Bool) := spec_MakeSwitch.l0 k l0 l1 l2 0
set_option maxHeartbeats 8000000 in
set_option maxRecDepth 100000 in
theorem spec_MakeSwitch.calls (k : Nat) (A0 : Option Addr) (c0 : Nat) (l0 : List (S71)) (A1 : Option Addr) (c1 : Nat) (l1 : List (S85)) (A2 : Option Addr) (c2 : Nat) (l2 : List (S85)) (r1 : List (S85)) (r2 : Bool) (w : World) (hr0 : Kd.C k71 w A0 l0.length l0) (hc0 : l0.length ≤ c0) (hr1 : Kd.C k85 w A1 l1.length l1) (hc1 : l1.length ≤ c1) (hr2 : Kd.C k85 w A2 l2.length l2) (hc2 : l2.length ≤ c2) (h : spec_MakeSwitch.f k l0 l1 l2 = some (r1, r2)) :
  Calls Try.prog 45 #[.slice A0 l0.length c0, .slice A1 l1.length c1, .slice A2 l2.length c2] w fun e w' => ∃ v0_ : Value, e = .returned (.tuple #[v0_, .bool r2]) ∧ Kd.N k85 85 w' w.heap.size (fun k_ => (w.heap.size ≤ k_)) v0_ r1 ∧ Below w.heap.size w w' := by
 have HR0 := Aside0.mk hr0
 have HC0 := Aside0.mk hc0
 clear hr0 hc0
 have HR1 := Aside0.mk hr1
 have HC1 := Aside0.mk hc1
 clear hr1 hc1
 have HR2 := Aside0.mk hr2
 have HC2 := Aside0.mk hc2
 clear hr2 hc2
 have HB := Aside0.mk (Below.refl w.heap.size w)
 have H : (spec_MakeSwitch.l0 k l0 l1 l2 0) = some (r1, r2) := h
 clear h
 have H' := Aside0.mk H
 clear H
 go_enter Try.func45, Try.ntmps45
 go_wp2
 go_loopg [8] k (fun kq v8 w' => ∃ (x8_1 : Int), v8 = .int .i64 x8_1 ∧ Aside0 (spec_MakeSwitch.l0 kq l0 l1 l2 x8_1 = some (r1, r2)) ∧ Aside0 (kq ≤ k) ∧ Aside0 (Below w.heap.size w w'))
 case atStart => exact ⟨(0), S.eA, H', ⟨Nat.le_refl _⟩, ⟨S.bA⟩⟩
 case round =>
  clear H'
  try clear c1
  try clear c2
  obtain ⟨x8_1, rfl, HA, HK1, HB⟩ := hrel
  cases gk with
  | zero => exact absurd HA.out (by simp [spec_MakeSwitch.l0])
  | succ k1 =>
   have H := HA.out
   clear HA
   simp only [spec_MakeSwitch.l0] at H
   replace H := S.dc H; rcases H with ⟨H, c4b0⟩ | ⟨H, c4b0⟩
   ·replace H := Option.bind_eq_some_iff.mp H
    obtain ⟨t319, A50, H⟩ := H
    replace H : ((spec_CanSwitch.f k1 l0 l1 t319).bind fun t322 => (if t322 = true then (some (t319, true)) else (spec_MakeSwitch.l0 k1 l0 l1 l2 (wrap64 (x8_1 + 1))))) = some (r1, r2) := H
    have A5 := Aside0.mk A50
    clear A50
    replace H := S.bd H; obtain ⟨t322, A6, H⟩ := H
    (try dsimp only at H)
    replace H := S.db H; rcases H with ⟨rfl, H⟩ | ⟨rfl, H⟩
    ·simp only [Option.some.injEq, Prod.mk.injEq] at H
     obtain ⟨rfl, rfl⟩ := H
     go_wp2_with (first | ((with_reducible refine gate_callee (f := 56) rfl ?_); refine S.gL (some 18) Try.func56 #[.slice A2 l2.length c2, .int .i64 x8_1] ?_; (with_reducible refine (spec_RotatePlan.calls k1 _ _ l2 x8_1 t319 _ ?s1 HC2.out A5.out).mono ?_); (case s1 => exact S.cA HR2.out); rintro e w8 ⟨v320, rfl, ho0, hb⟩; refine ⟨_, rfl, ?_⟩; have HO321 := Aside0.mk (Kd.N_lower (Kd.N_mono (ok' := fun k_ => (w.heap.size ≤ k_)) ho0 (fun k_ hk_ => (Nat.le_trans (below_size S.bA) hk_))) (below_size S.bA)); replace HB := S.sA hb; (try clear hb); (try clear ho0); obtain ⟨Ao9, co9, eo9⟩ := Kd.N_slice HO321.out; subst eo9) | ((with_reducible refine gate_callee (f := 20) rfl ?_); refine S.gL (some 22) Try.func20 #[.slice A0 l0.length c0, .slice A1 l1.length c1, .slice Ao9 t319.length co9] ?_; (with_reducible refine (spec_CanSwitch.calls k1 _ _ l0 _ _ l1 _ _ t319 true _ ?s1 HC0.out ?s3 HC1.out ?s5 ?s6 A6.out).mono ?_); (case s1 => exact S.cA HR0.out); (case s3 => exact S.cA HR1.out); (case s5 => repeat (first | exact (Kd.N_reads' HO321.out).2.2 | (with_reducible refine Kd.C_alloc ?_ _) | (with_reducible refine Kd.C_drewN ?_ _) | (with_reducible refine Kd.C_drew ?_))); (case s6 => exact (Kd.N_reads' HO321.out).2.1); rintro e w10 ⟨rfl, hb⟩; refine ⟨_, rfl, ?_⟩; replace HO321 := Aside0.mk (Kd.N_below (by (with_reducible repeat (first | apply Kd.N_alloc | apply Kd.N_drewN | apply Kd.N_drew)); exact HO321.out) hb); replace HB := S.sA hb; (try clear hb)))
     go_ret2
     exact ⟨_, S.eW, by (with_reducible repeat (first | apply Kd.N_alloc | apply Kd.N_drewN | apply Kd.N_drew)); exact HO321.out, S.bA⟩
    ·have H' := Aside0.mk H
     clear H
     go_wp2_with (first | ((with_reducible refine gate_callee (f := 56) rfl ?_); refine S.gL (some 18) Try.func56 #[.slice A2 l2.length c2, .int .i64 x8_1] ?_; (with_reducible refine (spec_RotatePlan.calls k1 _ _ l2 x8_1 t319 _ ?s1 HC2.out A5.out).mono ?_); (case s1 => exact S.cA HR2.out); rintro e w11 ⟨v320, rfl, ho0, hb⟩; refine ⟨_, rfl, ?_⟩; have HO321 := Aside0.mk (Kd.N_lower (Kd.N_mono (ok' := fun k_ => (w.heap.size ≤ k_)) ho0 (fun k_ hk_ => (Nat.le_trans (below_size S.bA) hk_))) (below_size S.bA)); replace HB := S.sA hb; (try clear hb); (try clear ho0); obtain ⟨Ao12, co12, eo12⟩ := Kd.N_slice HO321.out; subst eo12) | ((with_reducible refine gate_callee (f := 20) rfl ?_); refine S.gL (some 22) Try.func20 #[.slice A0 l0.length c0, .slice A1 l1.length c1, .slice Ao12 t319.length co12] ?_; (with_reducible refine (spec_CanSwitch.calls k1 _ _ l0 _ _ l1 _ _ t319 false _ ?s1 HC0.out ?s3 HC1.out ?s5 ?s6 A6.out).mono ?_); (case s1 => exact S.cA HR0.out); (case s3 => exact S.cA HR1.out); (case s5 => repeat (first | exact (Kd.N_reads' HO321.out).2.2 | (with_reducible refine Kd.C_alloc ?_ _) | (with_reducible refine Kd.C_drewN ?_ _) | (with_reducible refine Kd.C_drew ?_))); (case s6 => exact (Kd.N_reads' HO321.out).2.1); rintro e w13 ⟨rfl, hb⟩; refine ⟨_, rfl, ?_⟩; replace HO321 := Aside0.mk (Kd.N_below (by (with_reducible repeat (first | apply Kd.N_alloc | apply Kd.N_drewN | apply Kd.N_drew)); exact HO321.out) hb); replace HB := S.sA hb; (try clear hb)))
     go_roundg k1
     case measure => have := HK1.out; omega
     case rel => exact ⟨(wrap64 (x8_1 + 1)), S.eA, H', ⟨by have := HK1.out; omega⟩, ⟨S.bA⟩⟩
   ·replace H := Option.bind_eq_some_iff.mp H
    obtain ⟨t316, A140, H⟩ := H
    replace H : (some (t316, false)) = some (r1, r2) := H
    have A14 := Aside0.mk A140
    clear A140
    simp only [Option.some.injEq, Prod.mk.injEq] at H
    obtain ⟨rfl, rfl⟩ := H
    go_wp2_with (first | ((with_reducible refine gate_callee (f := 85) rfl ?_); refine S.gL (some 25) Try.func85 #[.slice A2 l2.length c2] ?_; (with_reducible refine (spec_l8Copy.calls k1 _ _ l2 t316 _ ?s1 HC2.out A14.out).mono ?_); (case s1 => exact S.cA HR2.out); rintro e w15 ⟨v317, rfl, ho0, hb⟩; refine ⟨_, rfl, ?_⟩; have HO318 := Aside0.mk (Kd.N_lower (Kd.N_mono (ok' := fun k_ => (w.heap.size ≤ k_)) (Kd.S_N (Kd.S_bound ho0)) (fun k_ hk_ => (Nat.le_trans (below_size S.bA) hk_.2.1))) (below_size S.bA)); replace HB := S.sA hb; (try clear hb); (try clear ho0)))
    go_ret2
    exact ⟨_, S.eW, by (with_reducible repeat (first | apply Kd.N_alloc | apply Kd.N_drewN | apply Kd.N_drew)); exact HO318.out, S.bA⟩

/-! ### impl_InRange: function 62 -/
def impl_InRange.f (a0 : Int) (a1 : Int) (a2 : Int) : Option (Bool) := if a1 ≤ a0 then (some (decide (a0 ≤ a2))) else (some false)
set_option maxHeartbeats 8000000 in
set_option maxRecDepth 100000 in
theorem impl_InRange.calls (a0 : Int) (a1 : Int) (a2 : Int) (r : Bool) (w : World) (h : impl_InRange.f a0 a1 a2 = some r) :
  Calls Try.prog 62 #[.int .i64 a0, .int .i64 a1, .int .i64 a2] w fun e w' => e = .returned (.bool r) ∧ Drawn0 w w' := by
 have H : (if a1 ≤ a0 then (some (decide (a0 ≤ a2))) else (some false)) = some r := h
 clear h
 replace H := S.dc H; rcases H with ⟨H, c4b0⟩ | ⟨H, c4b0⟩
 ·obtain rfl := Option.some.inj H
  go_enter Try.func62, Try.ntmps62
  go_wp2
  go_ret
  exact ⟨S.eA, by repeat (first | exact Drawn0.refl _ | apply Drawn0.step)⟩
 ·obtain rfl := Option.some.inj H
  go_enter Try.func62, Try.ntmps62
  go_wp2
  go_ret
  exact ⟨S.eA, by repeat (first | exact Drawn0.refl _ | apply Drawn0.step)⟩

-- NOT PRINTED: function 111 (impl_Path)

/-! ### impl_FindPath: function 83 -/
set_option maxHeartbeats 8000000 in
set_option maxRecDepth 100000 in
theorem impl_FindPath.idx (p : S71 → Bool) (g : Nat) (lb : Array Value) (eg : ∀ args w, (callFunc g args).run Try.prog w = .ok (.enter g args) w) (A0 : Option Addr) (c0 : Nat) (l0 : List S71) (w : World)
  (hp : ∀ (W : World) (x : S71), Below w.heap.size w W → Calls Try.prog g (#[.agg #[.int .i64 x.f0, .int .i64 x.f1, .int .i64 x.f2, .int .i64 x.f3]] ++ lb) W fun e w' => e = .returned (.bool (p x)) ∧ Below w.heap.size w w')
  (hr0 : Kd.C k71 w A0 l0.length l0) (hc0 : l0.length ≤ c0) :
  Calls Try.prog 111 #[.slice A0 l0.length c0, .func (.func g) #[] lb] w fun e w' => e = .returned (.int .i64 (Go.Proofs.Ytjgigmghcfdomaa.Hnd.fidx p l0 0)) ∧ Below w.heap.size w w' := by
 have hbig : l0.length ≤ 9223372036854775807 := hr0.2.1
 have HR0 := Aside0.mk hr0
 have HP := Aside0.mk hp
 clear hr0 hp
 go_enter Try.func111, Try.ntmps111
 go_wp2
 go_loopg [5, 8] l0.length (fun gg _ s8 wr => ∃ kk : Nat, kk ≤ l0.length ∧ l0.length - kk ≤ gg ∧ s8 = .int .i64 kk ∧ Aside0 (Below w.heap.size w wr) ∧ Aside0 (Go.Proofs.Ytjgigmghcfdomaa.Hnd.fidx p l0 0 = Go.Proofs.Ytjgigmghcfdomaa.Hnd.fidx p (l0.drop kk) kk))
 case atStart => exact ⟨0, Nat.zero_le _, by omega, rfl, ⟨Below.refl _ w⟩, ⟨by simp⟩⟩
 case round =>
  obtain ⟨kk, hkk, hg, rfl, BW, A⟩ := hrel
  by_cases hlt : kk < l0.length
  ·have hltz : (kk : Int) < (l0.length : Int) := by omega
   obtain ⟨ad116, e116, hx0, hx1, hx2, hx3⟩ := at_T71 HR0.out (kk : Int) (by omega) hltz
   cases e116
   simp only [Int.toNat_natCast] at hx0 hx1 hx2 hx3
   replace hx0 := (BW.out.cell (World.block_lt_of_cell? w _ hx0)).trans hx0
   replace hx1 := (BW.out.cell (World.block_lt_of_cell? w _ hx1)).trans hx1
   replace hx2 := (BW.out.cell (World.block_lt_of_cell? w _ hx2)).trans hx2
   replace hx3 := (BW.out.cell (World.block_lt_of_cell? w _ hx3)).trans hx3
   have hcall := HP.out wr (rd_T71 l0 (kk : Int)) BW.out
   have hq0 : rd_T71 l0 (kk : Int) = l0[kk] := by simp [rd_T71, hlt]
   have E : Aside0 (Go.Proofs.Ytjgigmghcfdomaa.Hnd.fidx p l0 0 = if p (rd_T71 l0 (kk : Int)) = true then (kk : Int) else Go.Proofs.Ytjgigmghcfdomaa.Hnd.fidx p (l0.drop (kk + 1)) (kk + 1)) := ⟨by rw [A.out, List.drop_eq_getElem_cons hlt, hq0]; rfl⟩
   clear A hq0
   generalize rd_T71 l0 (kk : Int) = y at hx0 hx1 hx2 hx3 hcall E
   cases hq : p y with
   | true =>
    rw [hq] at hcall
    go_wp2_with (fail)
    refine hcall.mono ?_
    rintro e w' ⟨rfl, hb'⟩
    clear hcall
    dsimp only
    go_wp2_with (fail)
    go_ret
    exact ⟨by rw [E.out, if_pos hq]; rfl, hb'⟩
   | false =>
    rw [hq] at hcall
    go_wp2_with (fail)
    refine hcall.mono ?_
    rintro e w' ⟨rfl, hb'⟩
    clear hcall
    dsimp only
    go_wp2_with (fail)
    go_roundg (l0.length - (kk + 1))
    case measure => omega
    case rel => exact ⟨kk + 1, by omega, by omega, by go_num, ⟨hb'⟩, ⟨by rw [E.out, hq]; rfl⟩⟩
  ·have hltz : ¬ (kk : Int) < (l0.length : Int) := by omega
   have hkn : kk = l0.length := by omega
   have E : Aside0 (Go.Proofs.Ytjgigmghcfdomaa.Hnd.fidx p l0 0 = -1) := ⟨by rw [A.out, hkn, List.drop_length]; rfl⟩
   clear A
   subst hkn
   go_wp2
   go_ret
   exact ⟨by rw [E.out]; rfl, BW.out⟩

theorem impl_FindPath.pred (a1 : Int) (B0 : Nat) (w : World) (hB0 : B0 < w.heap.size) (hcB0 : w.cell? ⟨B0, 0, none⟩ = some (.int .i64 a1)) :
  ∀ (W : World) (x : S71), Below w.heap.size w W → Calls Try.prog 112 (#[.agg #[.int .i64 x.f0, .int .i64 x.f1, .int .i64 x.f2, .int .i64 x.f3]] ++ #[.pointer (some ⟨B0, 0, none⟩)]) W fun e w' => e = .returned (.bool (x.f0 == a1)) ∧ Below w.heap.size w w' := fun W x hb => by
 have cB0 : W.cell? ⟨B0, 0, none⟩ = some (.int .i64 a1) := (hb.cell (p := ⟨B0, 0, none⟩) hB0).trans hcB0
 have lB0 : B0 < W.heap.size := Nat.lt_of_lt_of_le hB0 hb.size
 have nB0 : B0 ≠ W.heap.size := by omega
 have hB2 := Aside0.mk hb
 clear hb hcB0
 show Calls Try.prog 112 #[.agg #[.int .i64 x.f0, .int .i64 x.f1, .int .i64 x.f2, .int .i64 x.f3], .pointer (some ⟨B0, 0, none⟩)] W _
 go_enter Try.func112, Try.ntmps112
 go_wp2
 go_ret
 exact ⟨by first | rfl | simp, hB2.out.alloc hB2.out.size _⟩
def impl_FindPath.f (l0 : List (S71)) (a1 : Int) : Option (Int) := some (Go.Proofs.Ytjgigmghcfdomaa.Hnd.fidx (fun x : S71 => x.f0 == a1) l0 0)
set_option maxHeartbeats 8000000 in
theorem impl_FindPath.calls (A0 : Option Addr) (c0 : Nat) (l0 : List (S71)) (a1 : Int) (r : Int) (w : World) (hr0 : Kd.C k71 w A0 l0.length l0) (hc0 : l0.length ≤ c0) (h : impl_FindPath.f l0 a1 = some r) :
  Calls Try.prog 83 #[.slice A0 l0.length c0, .int .i64 a1] w fun e w' => e = .returned (.int .i64 r) ∧ Below w.heap.size w w' := by
 obtain rfl := Option.some.inj h
 clear h
 have eg : ∀ args w, (callFunc 112 args).run Try.prog w = .ok (.enter 112 args) w := Go.Proofs.Ytjgigmghcfdomaa.Hnd.enters_fn Try.func112 (by kernel_rfl) rfl
 have hB1 : Below w.heap.size w (w.alloc (.cells #[.int .i64 a1] 3)) := ((Below.refl _ w).alloc (Nat.le_refl _) _)
 have hcon := impl_FindPath.idx (fun x : S71 => x.f0 == a1) 112 #[.pointer (some ⟨w.heap.size, 0, none⟩)] eg A0 c0 l0 (w.alloc (.cells #[.int .i64 a1] 3)) (impl_FindPath.pred a1 w.heap.size _ (by simp) (by simp)) (Kd.C_below hr0 hB1) hc0
 generalize Go.Proofs.Ytjgigmghcfdomaa.Hnd.fidx (fun x : S71 => x.f0 == a1) l0 0 = r at hcon ⊢
 clear hr0 eg
 have HB1 := Aside0.mk hB1
 clear hB1
 go_enter Try.func83, Try.ntmps83
 go_wp2_with (fail)
 refine hcon.mono ?_
 rintro e w' ⟨rfl, hb'⟩
 clear hcon
 dsimp only
 go_wp2_with (fail)
 go_ret
 exact ⟨rfl, HB1.out.trans (hb'.mono (by simp))⟩

end Go.Proofs.Ytjgigmghcfdomaa.PFnExactMakeSwitch
