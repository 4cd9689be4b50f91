/- Printed by a program: what the Go functions compute, as plain Lean functions (.f), and the proofs that the machine's calls come to just that (.calls). -/
import Derived.Test.YtopchlafmfgpnaaPFnExactCutForx0
import Derived.Test.YtopchlafmfgpnaaPFnExactCutForx3
import Derived.Test.YtopchlafmfgpnaaPFnExactCutForx8
import Derived.Test.YtopchlafmfgpnaaPFnExactCutForx9
import Derived.Test.YtopchlafmfgpnaaPFnExactCutForx10
namespace Go.Proofs.Ytopchlafmfgpnaa.PFnExactCutFor
open Go.RowKit Go.Proofs.YtopchlafmfgpnaaW.PrintWords Go.Proofs.YtopchlafmfgpnaaW.PrintLast Go.Proofs.YtopchlafmfgpnaaW.PrintMore
attribute [local go_sem] max2_int min2_int max_two min_two max_three min_three max_four min_four   -- for this text's walks alone
set_option linter.unusedVariables false
set_option linter.unusedSimpArgs false

/-! ### spec_l14Copy: function 84 -/
def spec_l14Copy.f (l0_0 : List Int) (a0_1 : Int) (l0_2 : List Int) (a0_3 : Int) : Option (List Int × Int × List Int × Int) := (some (([] : List Int) : List Int)).bind fun y234 => (if y234.length + l0_0.length < 17592186044416 then ((some (([] : List Int) : List Int)).bind fun y240 => (if y240.length + l0_2.length < 17592186044416 then (some ((y234 ++ l0_0), a0_1, (y240 ++ l0_2), a0_3)) else (none))) else (none))
def spec_l14Copy.T1 : Bool × List (List Nat × List Nat) := (true, [([], []), ([], []), ([1], [1]), ([0, 2], [0, 2]), ([], []), ([4], [4]), ([], []), ([], []), ([7], [7]), ([6, 8, 3], [6, 8]), ([], []), ([10], [10]), ([3, 5, 9, 11], [3, 5, 9, 11]), ([12, 9, 0, 1, 2, 3, 4, 5, 6, 7, 8, 9, 10, 11, 12], [12])])
def spec_l14Copy.B1 : List Nat := [0, 0, 2, 7, 0, 16, 0, 0, 128, 463, 0, 1024, 4095, 8191]
theorem spec_l14Copy.tab1 : rtab .any (opsOf Try.f84 1) = spec_l14Copy.T1 := by kernel_rfl
theorem spec_l14Copy.bits1 : waitsOk spec_l14Copy.T1.2 spec_l14Copy.B1 = true := by kernel_rfl
set_option maxHeartbeats 8000000 in
set_option maxRecDepth 100000 in
theorem spec_l14Copy.calls (A0_0 : Option Addr) (c0_0 : Nat) (l0_0 : List Int) (a0_1 : Int) (A0_2 : Option Addr) (c0_2 : Nat) (l0_2 : List Int) (a0_3 : Int) (r1 : List Int) (r2 : Int) (r3 : List Int) (r4 : Int) (w : World) (hr0_0 : Kd.C (Kd.int .i64) w A0_0 l0_0.length l0_0) (hc0_0 : l0_0.length ≤ c0_0) (hr0_2 : Kd.C (Kd.int .i64) w A0_2 l0_2.length l0_2) (hc0_2 : l0_2.length ≤ c0_2) (h : spec_l14Copy.f l0_0 a0_1 l0_2 a0_3 = some (r1, r2, r3, r4)) :
  Calls Try.prog 84 #[.agg #[.slice A0_0 l0_0.length c0_0, .int .i64 a0_1, .slice A0_2 l0_2.length c0_2, .int .i64 a0_3]] w fun e w' => ∃ v0_ v2_ : Value, e = .returned (.agg #[v0_, .int .i64 r2, v2_, .int .i64 r4]) ∧ Kd.R (Kd.int .i64) 3 w' w.heap.size (fun k_ => some k_ ≠ (v2_ : Value).ownBlock) v0_ r1 ∧ Kd.R (Kd.int .i64) 3 w' w.heap.size (fun k_ => some k_ ≠ (v0_ : Value).ownBlock) v2_ r3 ∧ Below w.heap.size w w' := by
 have hu60 := Try.underlying60
 have HR0_0 := Aside0.mk hr0_0
 have HC0_0 := Aside0.mk hc0_0
 clear hr0_0 hc0_0
 have HR0_2 := Aside0.mk hr0_2
 have HC0_2 := Aside0.mk hc0_2
 clear hr0_2 hc0_2
 have HB := Aside0.mk (Below.refl w.heap.size w)
 have H : ((some (([] : List Int) : List Int)).bind fun y234 => (if y234.length + l0_0.length < 17592186044416 then ((some (([] : List Int) : List Int)).bind fun y240 => (if y240.length + l0_2.length < 17592186044416 then (some ((y234 ++ l0_0), a0_1, (y240 ++ l0_2), a0_3)) else (none))) else (none))) = some (r1, r2, r3, r4) := h
 clear h
 obtain ⟨y234, hy234⟩ : ∃ y_ : List Int, y_ = (([] : List Int)) := ⟨_, rfl⟩
 replace H : (if y234.length + l0_0.length < 17592186044416 then ((some (([] : List Int) : List Int)).bind fun y240 => (if y240.length + l0_2.length < 17592186044416 then (some ((y234 ++ l0_0), a0_1, (y240 ++ l0_2), a0_3)) else (none))) else (none)) = some (r1, r2, r3, r4) := by first | (rw [hy234]; with_reducible exact H) | (have H2_ := (Option.bind_some _ _).symm.trans H; rw [hy234]; with_reducible exact H2_) | (have H2_ := (Option.bind_some _ _).symm.trans H; with_reducible exact H2_) | with_reducible exact H | (rw [hy234]; exact H) | exact H
 have Ny234 := Aside0.mk hy234
 clear hy234
 by_cases c2 : y234.length + l0_0.length < 17592186044416
 ·rw [if_pos c2] at H
  have LMc2 := Aside0.mk c2
  clear c2
  obtain ⟨y237, hy237⟩ : ∃ y_ : List Int, y_ = (y234 ++ l0_0) := ⟨_, rfl⟩
  replace H : ((some (([] : List Int) : List Int)).bind fun y240 => (if y240.length + l0_2.length < 17592186044416 then (some (y237, a0_1, (y240 ++ l0_2), a0_3)) else (none))) = some (r1, r2, r3, r4) := by first | (rw [hy237]; with_reducible exact H) | (have H2_ := (Option.bind_some _ _).symm.trans H; rw [hy237]; with_reducible exact H2_) | (have H2_ := (Option.bind_some _ _).symm.trans H; with_reducible exact H2_) | with_reducible exact H | (rw [hy237]; exact H) | exact H
  have Ny237 := Aside0.mk hy237
  clear hy237
  obtain ⟨y240, hy240⟩ : ∃ y_ : List Int, y_ = (([] : List Int)) := ⟨_, rfl⟩
  replace H : (if y240.length + l0_2.length < 17592186044416 then (some (y237, a0_1, (y240 ++ l0_2), a0_3)) else (none)) = some (r1, r2, r3, r4) := by first | (rw [hy240]; with_reducible exact H) | (have H2_ := (Option.bind_some _ _).symm.trans H; rw [hy240]; with_reducible exact H2_) | (have H2_ := (Option.bind_some _ _).symm.trans H; with_reducible exact H2_) | with_reducible exact H | (rw [hy240]; exact H) | exact H
  have Ny240 := Aside0.mk hy240
  clear hy240
  by_cases c3 : y240.length + l0_2.length < 17592186044416
  ·rw [if_pos c3] at H
   have LMc3 := Aside0.mk c3
   clear c3
   obtain ⟨y243, hy243⟩ : ∃ y_ : List Int, y_ = (y240 ++ l0_2) := ⟨_, rfl⟩
   replace H : (some (y237, a0_1, y243, a0_3)) = some (r1, r2, r3, r4) := by first | (rw [hy243]; with_reducible exact H) | (have H2_ := (Option.bind_some _ _).symm.trans H; rw [hy243]; with_reducible exact H2_) | (have H2_ := (Option.bind_some _ _).symm.trans H; with_reducible exact H2_) | with_reducible exact H | (rw [hy243]; exact H) | exact H
   have Ny243 := Aside0.mk hy243
   clear hy243
   simp only [Option.some.injEq, Prod.mk.injEq] at H
   obtain ⟨rfl, rfl, rfl, rfl⟩ := H
   go_enter Try.func84, Try.ntmps84
   try go_wp2_with (first | ((with_reducible refine gate_dst (N := 1) rfl ?_); refine S.bx 1 (cs := #[.slice A0_0 l0_0.length c0_0, .int .i64 a0_1, .slice A0_2 l0_2.length c0_2, .int .i64 a0_3]) (t := 60) ?_; intro gb232 hg w4 hbox hb; have BK232 := Aside0.mk hbox; have GW232 := S.geA hg; have GE232 := S.geA hg; replace HB := S.sA hb; clear hb hbox hg) | ((with_reducible refine gate_dst (N := 2) rfl ?_); refine S.bx 2 (cs := #[.slice none 0 0, .int .i64 0, .slice none 0 0, .int .i64 0]) (t := 60) ?_; intro gb233 hg w5 hbox hb; have BK233 := Aside0.mk hbox; have GW233 := S.geG hg; have GE233 := S.geG hg; replace HB := S.sG hb; have NB232_233 := S.nl hg BK232; have NB233_232 := S.ng hg BK232; replace BK232 := S.kb BK232 hb; clear hb hbox hg))
   replace BK232 := Aside0.mk (blk_drew BK232.out)
   replace BK233 := Aside0.mk (blk_drew BK233.out)
   replace HB := Aside0.mk (below_drew1 HB.out)
   refine S.st (n := 14) (ds := []) #[false, false, false, false, false, false, false, false, false, false, false, false, false, false] (fun w_ h_ => have x_ := S.e4 (S.Q h_ BK232.out); x_) (fun hHeld => ?_); refine with_tabW spec_l14Copy.tab1 spec_l14Copy.bits1 (fun HT_ HW_ => ?_)
   generalize w5.drew = w6 at BK232 BK233 HB hHeld ⊢
   refine S.pS 1 4 ?_
   refine S.pS 4 7 ?_
   refine S.pS 7 10 ?_
   refine S.pS 10 13 ?_
   refine S.tK 2 5 #[false, true, true, false, true, false, false, true, false, false, true, false, false, false] ?_
   refine S.tK 5 8 #[false, true, true, false, true, true, false, true, false, false, true, false, false, false] ?_
   refine S.tK 8 11 #[false, true, true, false, true, true, false, true, true, false, true, false, false, false] ?_
   refine S.tK 11 14 #[false, true, true, false, true, true, false, true, true, false, true, true, false, false] ?_
   refine join_ (σ := Value × Value × Value) 3 #[true, true, true, true, true, true, true, true, true, false, true, true, false, false] (fun s_ => [(3, s_.1), (6, s_.2.1), (9, s_.2.2)]) (fun s_ w' => (w'.cell? ⟨gb232, 0, none⟩ = some (.slice A0_0 l0_0.length c0_0) ∧ w'.cell? ⟨gb232, 1, none⟩ = some (.int .i64 a0_1) ∧ w'.cell? ⟨gb232, 2, none⟩ = some (.slice A0_2 l0_2.length c0_2) ∧ w'.cell? ⟨gb232, 3, none⟩ = some (.int .i64 a0_3)) ∧ (Kd.R (Kd.int .i64) 3 w' w.heap.size (fun k_ => some k_ ≠ (s_.2.2 : Value).ownBlock) s_.2.1 y237) ∧ (Kd.R (Kd.int .i64) 3 w' w.heap.size (fun k_ => some k_ ≠ (s_.2.1 : Value).ownBlock) s_.2.2 y240) ∧ (w'.heap[gb232]? = some (.cells #[.slice A0_0 l0_0.length c0_0, .int .i64 a0_1, .slice A0_2 l0_2.length c0_2, .int .i64 a0_3] 60 (0, 0))) ∧ (w'.heap[gb233]? = some (.cells #[.slice none 0 0, .int .i64 0, .slice none 0 0, .int .i64 0] 60 (0, 0))) ∧ (Below w.heap.size w w')) ?_ ?_
   rotate_left
   ·intro hCont
    refine two_ (i := 0) (j := 6) (Ni := some 3) (Nj := some 9) #[true, true, true, false, true, true, false, true, true, false, true, true, false, false] #[false, true, true, false, true, true, true, true, true, false, true, true, false, false] rfl rfl rfl rfl (two_of HT_.out (by kernel_rfl)) (by decide) (by decide) (fun K hK => ?_) (fun K hK => ?_)
    ·skip
     refine Kd.R_lit_step (Kd.int .i64) _ 3 ?hg (N := 3) ?hd (xs := ([] : List Int)) (inner := []) (ok := fun _ => True) (okp := fun _ => True) ?hr ?hp (fun _ hk => hk) trivial (Below.refl _ _) (Nat.le_refl _) (by simp) ?_; (case hd => rfl); (case hg => rfl); (case hr => first | (go_simp; done) | (go_simp; rfl)); (case hp => exact (Reps.none _ _))
     intro v235 w7 ho8 hb hg_ hnew_
     clear hg_ hnew_
     (first | rw [← Ny234.out] at ho8 | (simp only [Int.reduceToNat] at ho8; rw [← Ny234.out] at ho8))
     have HO236 := S.lwG ho8
     replace BK232 := S.kb BK232 hb
     replace BK233 := S.kb BK233 hb
     replace HB := S.sG hb
     clear hb ho8
     refine hK.out _ _ (S.e4 BK232.out) (fun hHeld => ?_)
     clear hK K
     refine S.nm 3 ?_
     refine two_ (i := 3) (j := 6) (Ni := some 6) (Nj := some 9) #[true, true, true, true, true, true, false, true, true, false, true, true, false, false] #[true, true, true, false, true, true, true, true, true, false, true, true, false, false] rfl rfl rfl rfl (two_of HT_.out (by kernel_rfl)) (by decide) (by decide) (fun K hK => ?_) (fun K hK => ?_)
     ·skip
      refine Kd.R_append_rows_step (Kd.int .i64) (w0 := w) w.heap.size (by rfl) (.tmp 3) (.tmp 5) 24 3 (.int .i64 0) 8 rfl Try.underlying24 info3 rfl (by decide) (by omega) v235 y234 l0_0 _ _ _ (fun _ => True) (fun _ => False) rfl rfl ?aO ?aR (fun _ _ h => h) (fun _ h => h.elim) ?aF ?aB ?aS ?aL ?_
      (case aR => exact S.cA HR0_0.out)
      (case aB => exact S.bG)
      (case aF => exact (fun _ _ => trivial))
      (case aO => exact (S.uR HO236.out))
      (case aS => exact (below_size S.bG))
      (case aL => have := LMc2.out; omega)
      intro v238 w9 ho hb hg hat
      rw [← Ny237.out] at ho
      have n0_ := Aside0.mk (blk_grown (g := gb232) (o := .cells #[.slice A0_0 l0_0.length c0_0, .int .i64 a0_1, .slice A0_2 l0_2.length c0_2, .int .i64 a0_3] 60 (0, 0)) (S.uB BK232.out) hg (Kd.R_ne HO236.out BK232.out (by decide)))
      have n1_ := Aside0.mk (blk_grown (g := gb233) (o := .cells #[.slice none 0 0, .int .i64 0, .slice none 0 0, .int .i64 0] 60 (0, 0)) (S.uB BK233.out) hg (Kd.R_ne HO236.out BK233.out (by decide)))
      have n2_ := Aside0.mk (hb)
      have n3_ := Aside0.mk (ho)
      clear BK232
      clear BK233
      clear HB
      clear HO236
      have BK232 := n0_
      have BK233 := n1_
      have HB := n2_
      have HO239 := n3_
      clear n0_ n1_ n2_ n3_
      clear ho hb hg hat
      refine hK.out _ _ (S.e4 BK232.out) (fun hHeld => ?_)
      clear hK K
      refine S.nm 6 ?_
      refine S.oN 6 9 #[true, true, true, true, true, true, true, true, true, false, true, true, false, false] (fun K hK => ?_)
      refine Kd.R_lit_step (Kd.int .i64) _ 3 ?hg (N := 9) ?hd (xs := ([] : List Int)) (inner := []) (ok := fun _ => True) (okp := fun _ => True) ?hr ?hp (fun _ hk => hk) trivial (Below.refl _ _) (Nat.le_refl _) (by simp) ?_; (case hd => rfl); (case hg => rfl); (case hr => first | (go_simp; done) | (go_simp; rfl)); (case hp => exact (Reps.none _ _))
      intro v241 w10 ho11 hb hg_ hnew_
      clear hg_ hnew_
      (first | rw [← Ny240.out] at ho11 | (simp only [Int.reduceToNat] at ho11; rw [← Ny240.out] at ho11))
      have HO242 := S.rnG ho11 HO239
      replace HO239 := S.re HO239 ho11 hb
      replace BK232 := S.kb BK232 hb
      replace BK233 := S.kb BK233 hb
      replace HB := S.sG hb
      clear hb ho11
      refine hK.out _ _ (S.e4 BK232.out) (fun hHeld => ?_)
      clear hK K
      refine S.nm 9 ?_
      exact norm_ (by simp only [putAll, Act.put, List.setIfInBounds_toArray, List.set_cons_zero, List.set_cons_succ]) (hCont (v235, v238, v241) _ ⟨hHeld, (by (with_reducible repeat (first | apply Kd.R_alloc | apply Kd.R_drewN | apply Kd.R_drew)); exact Kd.R_mono HO239.out (fun _ hk => hk.2)), (by (with_reducible repeat (first | apply Kd.R_alloc | apply Kd.R_drewN | apply Kd.R_drew)); exact Kd.R_mono HO242.out (fun _ hk => hk.2)), (S.uB BK232.out), (S.uB BK233.out), S.bG⟩)
     ·skip
      refine Kd.R_lit_step (Kd.int .i64) _ 3 ?hg (N := 9) ?hd (xs := ([] : List Int)) (inner := []) (ok := fun _ => True) (okp := fun _ => True) ?hr ?hp (fun _ hk => hk) trivial (Below.refl _ _) (Nat.le_refl _) (by simp) ?_; (case hd => rfl); (case hg => rfl); (case hr => first | (go_simp; done) | (go_simp; rfl)); (case hp => exact (Reps.none _ _))
      intro v241 w9 ho10 hb hg_ hnew_
      clear hg_ hnew_
      (first | rw [← Ny240.out] at ho10 | (simp only [Int.reduceToNat] at ho10; rw [← Ny240.out] at ho10))
      have HO242 := S.rnG ho10 HO236
      replace HO236 := S.re HO236 ho10 hb
      replace BK232 := S.kb BK232 hb
      replace BK233 := S.kb BK233 hb
      replace HB := S.sG hb
      clear hb ho10
      refine hK.out _ _ (S.e4 BK232.out) (fun hHeld => ?_)
      clear hK K
      refine S.nm 9 ?_
      refine S.oN 3 6 #[true, true, true, true, true, true, true, true, true, false, true, true, false, false] (fun K hK => ?_)
      refine Kd.R_append_rows_step (Kd.int .i64) (w0 := w) w.heap.size (by rfl) (.tmp 3) (.tmp 5) 24 3 (.int .i64 0) 8 rfl Try.underlying24 info3 rfl (by decide) (by omega) v235 y234 l0_0 _ _ _ (fun k_ => S.N k_ v241) (fun _ => False) rfl rfl ?aO ?aR (fun _ _ h => h) (fun _ h => h.elim) ?aF ?aB ?aS ?aL ?_
      (case aR => exact S.cA HR0_0.out)
      (case aB => exact S.bG)
      (case aF => exact (fun k_ hk => Kd.fresh' (Kd.R_lt (S.uR HO242.out)) k_ hk))
      (case aO => exact (by (with_reducible repeat (first | apply Kd.R_alloc | apply Kd.R_drewN | apply Kd.R_drew)); exact Kd.R_mono HO236.out (fun _ hk => hk.2)))
      (case aS => exact (below_size S.bG))
      (case aL => have := LMc2.out; omega)
      intro v238 w11 ho hb hg hat
      rw [← Ny237.out] at ho
      have n0_ := Aside0.mk (blk_grown (g := gb232) (o := .cells #[.slice A0_0 l0_0.length c0_0, .int .i64 a0_1, .slice A0_2 l0_2.length c0_2, .int .i64 a0_3] 60 (0, 0)) (S.uB BK232.out) hg (Kd.R_ne HO236.out BK232.out (by decide)))
      have n1_ := Aside0.mk (blk_grown (g := gb233) (o := .cells #[.slice none 0 0, .int .i64 0, .slice none 0 0, .int .i64 0] 60 (0, 0)) (S.uB BK233.out) hg (Kd.R_ne HO236.out BK233.out (by decide)))
      have n2_ := Aside0.mk (Kd.R_after (ok := (fun _ => True)) (S.uR HO242.out) hg hat)
      have n3_ := Aside0.mk (hb)
      have n4_ := Aside0.mk (ho)
      clear BK232
      clear BK233
      clear HO242
      clear HB
      clear HO236
      have BK232 := n0_
      have BK233 := n1_
      have HO242 := n2_
      have HB := n3_
      have HO239 := n4_
      clear n0_ n1_ n2_ n3_ n4_
      clear ho hb hg hat
      refine hK.out _ _ (S.e4 BK232.out) (fun hHeld => ?_)
      clear hK K
      refine S.nm 6 ?_
      exact norm_ (by simp only [putAll, Act.put, List.setIfInBounds_toArray, List.set_cons_zero, List.set_cons_succ]) (hCont (v235, v238, v241) _ ⟨hHeld, (S.uR HO239.out), (by (with_reducible repeat (first | apply Kd.R_alloc | apply Kd.R_drewN | apply Kd.R_drew)); exact Kd.R_mono HO242.out (fun _ hk => hk.2)), (S.uB BK232.out), (S.uB BK233.out), S.bG⟩)
    ·skip
     refine Kd.R_lit_step (Kd.int .i64) _ 3 ?hg (N := 9) ?hd (xs := ([] : List Int)) (inner := []) (ok := fun _ => True) (okp := fun _ => True) ?hr ?hp (fun _ hk => hk) trivial (Below.refl _ _) (Nat.le_refl _) (by simp) ?_; (case hd => rfl); (case hg => rfl); (case hr => first | (go_simp; done) | (go_simp; rfl)); (case hp => exact (Reps.none _ _))
     intro v241 w7 ho8 hb hg_ hnew_
     clear hg_ hnew_
     (first | rw [← Ny240.out] at ho8 | (simp only [Int.reduceToNat] at ho8; rw [← Ny240.out] at ho8))
     have HO242 := S.lwG ho8
     replace BK232 := S.kb BK232 hb
     replace BK233 := S.kb BK233 hb
     replace HB := S.sG hb
     clear hb ho8
     refine hK.out _ _ (S.e4 BK232.out) (fun hHeld => ?_)
     clear hK K
     refine S.nm 9 ?_
     refine S.oN 0 3 #[true, true, true, false, true, true, true, true, true, false, true, true, false, false] (fun K hK => ?_)
     refine Kd.R_lit_step (Kd.int .i64) _ 3 ?hg (N := 3) ?hd (xs := ([] : List Int)) (inner := []) (ok := fun _ => True) (okp := fun _ => True) ?hr ?hp (fun _ hk => hk) trivial (Below.refl _ _) (Nat.le_refl _) (by simp) ?_; (case hd => rfl); (case hg => rfl); (case hr => first | (go_simp; done) | (go_simp; rfl)); (case hp => exact (Reps.none _ _))
     intro v235 w9 ho10 hb hg_ hnew_
     clear hg_ hnew_
     (first | rw [← Ny234.out] at ho10 | (simp only [Int.reduceToNat] at ho10; rw [← Ny234.out] at ho10))
     have HO236 := S.rnG ho10 HO242
     replace HO242 := S.re HO242 ho10 hb
     replace BK232 := S.kb BK232 hb
     replace BK233 := S.kb BK233 hb
     replace HB := S.sG hb
     clear hb ho10
     refine hK.out _ _ (S.e4 BK232.out) (fun hHeld => ?_)
     clear hK K
     refine S.nm 3 ?_
     refine S.oN 3 6 #[true, true, true, true, true, true, true, true, true, false, true, true, false, false] (fun K hK => ?_)
     refine Kd.R_append_rows_step (Kd.int .i64) (w0 := w) w.heap.size (by rfl) (.tmp 3) (.tmp 5) 24 3 (.int .i64 0) 8 rfl Try.underlying24 info3 rfl (by decide) (by omega) v235 y234 l0_0 _ _ _ (fun k_ => S.N k_ v241) (fun _ => False) rfl rfl ?aO ?aR (fun _ _ h => h) (fun _ h => h.elim) ?aF ?aB ?aS ?aL ?_
     (case aR => exact S.cA HR0_0.out)
     (case aB => exact S.bG)
     (case aF => exact (fun k_ hk => Kd.fresh' (Kd.R_lt (S.uR HO242.out)) k_ hk))
     (case aO => exact (by (with_reducible repeat (first | apply Kd.R_alloc | apply Kd.R_drewN | apply Kd.R_drew)); exact Kd.R_mono HO236.out (fun _ hk => hk.2)))
     (case aS => exact (below_size S.bG))
     (case aL => have := LMc2.out; omega)
     intro v238 w11 ho hb hg hat
     rw [← Ny237.out] at ho
     have n0_ := Aside0.mk (blk_grown (g := gb232) (o := .cells #[.slice A0_0 l0_0.length c0_0, .int .i64 a0_1, .slice A0_2 l0_2.length c0_2, .int .i64 a0_3] 60 (0, 0)) (S.uB BK232.out) hg (Kd.R_ne HO236.out BK232.out (by decide)))
     have n1_ := Aside0.mk (blk_grown (g := gb233) (o := .cells #[.slice none 0 0, .int .i64 0, .slice none 0 0, .int .i64 0] 60 (0, 0)) (S.uB BK233.out) hg (Kd.R_ne HO236.out BK233.out (by decide)))
     have n2_ := Aside0.mk (Kd.R_after (ok := (fun _ => True)) (S.uR HO242.out) hg hat)
     have n3_ := Aside0.mk (hb)
     have n4_ := Aside0.mk (ho)
     clear BK232
     clear BK233
     clear HO242
     clear HB
     clear HO236
     have BK232 := n0_
     have BK233 := n1_
     have HO242 := n2_
     have HB := n3_
     have HO239 := n4_
     clear n0_ n1_ n2_ n3_ n4_
     clear ho hb hg hat
     refine hK.out _ _ (S.e4 BK232.out) (fun hHeld => ?_)
     clear hK K
     refine S.nm 6 ?_
     exact norm_ (by simp only [putAll, Act.put, List.setIfInBounds_toArray, List.set_cons_zero, List.set_cons_succ]) (hCont (v235, v238, v241) _ ⟨hHeld, (S.uR HO239.out), (by (with_reducible repeat (first | apply Kd.R_alloc | apply Kd.R_drewN | apply Kd.R_drew)); exact Kd.R_mono HO242.out (fun _ hk => hk.2)), (S.uB BK232.out), (S.uB BK233.out), S.bG⟩)
   rintro ⟨v235, v238, v241⟩ w12 ⟨hS_, h0_, h1_, h2_, h3_, h4_⟩
   have n0_ : Aside0 (Kd.R (Kd.int .i64) 3 w12 w.heap.size (fun k_ => S.N k_ v241) v238 y237) := ⟨h0_⟩
   have n1_ : Aside0 (Kd.R (Kd.int .i64) 3 w12 w.heap.size (fun k_ => S.N k_ v238) v241 y240) := ⟨h1_⟩
   have n2_ : Aside0 (w12.heap[gb232]? = some (.cells #[.slice A0_0 l0_0.length c0_0, .int .i64 a0_1, .slice A0_2 l0_2.length c0_2, .int .i64 a0_3] 60 (0, 0))) := ⟨h2_⟩
   have n3_ : Aside0 (w12.heap[gb233]? = some (.cells #[.slice none 0 0, .int .i64 0, .slice none 0 0, .int .i64 0] 60 (0, 0))) := ⟨h3_⟩
   have n4_ : Aside0 (Below w.heap.size w w12) := ⟨h4_⟩
   clear BK232
   clear BK233
   clear HB
   clear h0_ h1_ h2_ h3_ h4_
   have HO239 := n0_
   have HO242 := n1_
   have BK232 := n2_
   have BK233 := n3_
   have HB := n4_
   clear n0_ n1_ n2_ n3_ n4_
   have hHeld : w12.cell? ⟨gb232, 0, none⟩ = some (.slice A0_0 l0_0.length c0_0) ∧ w12.cell? ⟨gb232, 1, none⟩ = some (.int .i64 a0_1) ∧ w12.cell? ⟨gb232, 2, none⟩ = some (.slice A0_2 l0_2.length c0_2) ∧ w12.cell? ⟨gb232, 3, none⟩ = some (.int .i64 a0_3) := hS_
   refine norm_ (a' := ?_) ?_ ?_
   rotate_left
   ·simp only [putAll, Act.put, List.setIfInBounds_toArray, List.set_cons_zero, List.set_cons_succ]
    rfl
   refine S.oN 9 12 #[true, true, true, true, true, true, true, true, true, true, true, true, false, false] (fun K hK => ?_)
   refine Kd.R_append_rows_step (Kd.int .i64) (w0 := w) w.heap.size (by rfl) (.tmp 9) (.tmp 11) 24 3 (.int .i64 0) 8 rfl Try.underlying24 info3 rfl (by decide) (by omega) v241 y240 l0_2 _ _ _ (fun k_ => S.N k_ v238) (fun _ => False) rfl rfl ?aO ?aR (fun _ _ h => h) (fun _ h => h.elim) ?aF ?aB ?aS ?aL ?_
   (case aR => exact S.cA HR0_2.out)
   (case aB => exact S.bG)
   (case aF => exact (fun k_ hk => Kd.fresh' (Kd.R_lt (S.uR HO239.out)) k_ hk))
   (case aO => exact (S.uR HO242.out))
   (case aS => exact (below_size S.bG))
   (case aL => have := LMc3.out; omega)
   intro v244 w13 ho hb hg hat
   rw [← Ny243.out] at ho
   have n0_ := Aside0.mk (blk_grown (g := gb232) (o := .cells #[.slice A0_0 l0_0.length c0_0, .int .i64 a0_1, .slice A0_2 l0_2.length c0_2, .int .i64 a0_3] 60 (0, 0)) (S.uB BK232.out) hg (Kd.R_ne HO242.out BK232.out (by decide)))
   have n1_ := Aside0.mk (blk_grown (g := gb233) (o := .cells #[.slice none 0 0, .int .i64 0, .slice none 0 0, .int .i64 0] 60 (0, 0)) (S.uB BK233.out) hg (Kd.R_ne HO242.out BK233.out (by decide)))
   have n2_ := Aside0.mk (Kd.R_after (ok := (fun _ => True)) (by (with_reducible repeat (first | apply Kd.R_alloc | apply Kd.R_drewN | apply Kd.R_drew)); exact Kd.R_mono HO239.out (fun _ hk => ⟨trivial, hk⟩)) hg hat)
   have n3_ := Aside0.mk (hb)
   have n4_ := Aside0.mk (ho)
   clear BK232
   clear BK233
   clear HO239
   clear HB
   clear HO242
   have BK232 := n0_
   have BK233 := n1_
   have HO239 := n2_
   have HB := n3_
   have HO245 := n4_
   clear n0_ n1_ n2_ n3_ n4_
   clear ho hb hg hat
   obtain ⟨Ao14, co14, eo14⟩ := Kd.R_slice HO245.out
   (first | subst eo14 | (injection eo14 with f1_ f2_ f3_; have f4_ := f1_.symm; have f5_ := f3_.symm; clear f1_ f2_ f3_; subst f4_; subst f5_))
   obtain ⟨Ao15, co15, eo15⟩ := Kd.R_slice HO239.out
   (first | subst eo15 | (injection eo15 with f1_ f2_ f3_; have f4_ := f1_.symm; have f5_ := f3_.symm; clear f1_ f2_ f3_; subst f4_; subst f5_))
   refine hK.out _ _ (S.e4 BK232.out) (fun hHeld => ?_)
   clear hK K
   refine S.nm 12 ?_
   refine S.pS 12 15 ?_
   refine one_ (i := 13) (N := none) #[true, true, true, true, true, true, true, true, true, true, true, true, true, true] rfl rfl (one_of HT_.out (by kernel_rfl)) (by decide) (fun K hK => ?_)
   have hs16 : w13.cell? ⟨gb233, 0, none⟩ = some (.slice none 0 0) := (blk_cell BK233.out 0).trans rfl
   have hfs16 := blk_frozen BK233.out 0
   have hns16_0 := NB232_233.out
   have hms16_0 := NB233_232.out
   have hs17 : w13.cell? ⟨gb233, 1, none⟩ = some (.int .i64 0) := (blk_cell BK233.out 1).trans rfl
   have hfs17 := blk_frozen BK233.out 1
   have hns17_0 := NB232_233.out
   have hms17_0 := NB233_232.out
   have hs18 : w13.cell? ⟨gb233, 2, none⟩ = some (.slice none 0 0) := (blk_cell BK233.out 2).trans rfl
   have hfs18 := blk_frozen BK233.out 2
   have hns18_0 := NB232_233.out
   have hms18_0 := NB233_232.out
   have hs19 : w13.cell? ⟨gb233, 3, none⟩ = some (.int .i64 0) := (blk_cell BK233.out 3).trans rfl
   have hfs19 := blk_frozen BK233.out 3
   have hns19_0 := NB232_233.out
   have hms19_0 := NB233_232.out
   refine skip_ (w1 := ?_) (by rfl) rfl ?_ ?_
   rotate_left
   ·go_simp
    rfl
   refine hK.out _ _ ⟨((cell_far (p := ⟨gb233, _, none⟩) NB232_233.out _).trans (((cell_far (p := ⟨gb233, _, none⟩) NB232_233.out _).trans (((cell_far (p := ⟨gb233, _, none⟩) NB232_233.out _).trans (((cell_far (p := ⟨gb233, _, none⟩) NB232_233.out _).trans (hHeld.1)))))))), ((cell_far (p := ⟨gb233, _, none⟩) NB232_233.out _).trans (((cell_far (p := ⟨gb233, _, none⟩) NB232_233.out _).trans (((cell_far (p := ⟨gb233, _, none⟩) NB232_233.out _).trans (((cell_far (p := ⟨gb233, _, none⟩) NB232_233.out _).trans (hHeld.2.1)))))))), ((cell_far (p := ⟨gb233, _, none⟩) NB232_233.out _).trans (((cell_far (p := ⟨gb233, _, none⟩) NB232_233.out _).trans (((cell_far (p := ⟨gb233, _, none⟩) NB232_233.out _).trans (((cell_far (p := ⟨gb233, _, none⟩) NB232_233.out _).trans (hHeld.2.2.1)))))))), ((cell_far (p := ⟨gb233, _, none⟩) NB232_233.out _).trans (((cell_far (p := ⟨gb233, _, none⟩) NB232_233.out _).trans (((cell_far (p := ⟨gb233, _, none⟩) NB232_233.out _).trans (((cell_far (p := ⟨gb233, _, none⟩) NB232_233.out _).trans (hHeld.2.2.2))))))))⟩ (fun hHeld => ?_)
   clear hK K
   refine done_ (done_of HT_.out (by kernel_rfl)) ?_
   try go_wp2
   refine bodyPost_ret (results_cell_row rfl _ _ gb233 60 #[.slice Ao15 y237.length co15, .int .i64 a0_1, .slice Ao14 y243.length co14, .int .i64 a0_3] (0, 0) _ rfl (by (with_reducible repeat (first | refine blk_drewN ?_ _ | refine blk_drew ?_ | refine blk_alloc ?_ _)); refine blk_put (cs := #[.slice Ao15 y237.length co15, .int .i64 a0_1, .slice Ao14 y243.length co14, .int .i64 0]) ?_ 3 _ rfl; (with_reducible repeat (first | refine blk_drewN ?_ _ | refine blk_drew ?_ | refine blk_alloc ?_ _)); refine blk_put (cs := #[.slice Ao15 y237.length co15, .int .i64 a0_1, .slice none 0 0, .int .i64 0]) ?_ 2 _ rfl; (with_reducible repeat (first | refine blk_drewN ?_ _ | refine blk_drew ?_ | refine blk_alloc ?_ _)); refine blk_put (cs := #[.slice Ao15 y237.length co15, .int .i64 0, .slice none 0 0, .int .i64 0]) ?_ 1 _ rfl; (with_reducible repeat (first | refine blk_drewN ?_ _ | refine blk_drew ?_ | refine blk_alloc ?_ _)); refine blk_put (cs := #[.slice none 0 0, .int .i64 0, .slice none 0 0, .int .i64 0]) ?_ 0 _ rfl; (with_reducible repeat (first | refine blk_drewN ?_ _ | refine blk_drew ?_ | refine blk_alloc ?_ _)); exact BK233.out) Try.underlying60 rfl (by kernel_rfl)) rfl ?_
   exact ⟨_, _, S.eW, by (with_reducible repeat (first | apply Kd.R_alloc | apply Kd.R_drewN | apply Kd.R_drew)); exact Kd.R_mono (Kd.R_far (p := ⟨gb233, 3, none⟩) (Kd.R_far (p := ⟨gb233, 2, none⟩) (Kd.R_far (p := ⟨gb233, 1, none⟩) (Kd.R_far (p := ⟨gb233, 0, none⟩) (Kd.R_types HO239.out BK233.out (by decide)) (fun _ hk => hk.2) (.slice Ao15 y237.length co15)) (fun _ hk => hk.2) (.int .i64 a0_1)) (fun _ hk => hk.2) (.slice Ao14 y243.length co14)) (fun _ hk => hk.2) (.int .i64 a0_3)) (fun _ hk => hk.1.2), by (with_reducible repeat (first | apply Kd.R_alloc | apply Kd.R_drewN | apply Kd.R_drew)); exact Kd.R_mono (Kd.R_far (p := ⟨gb233, 3, none⟩) (Kd.R_far (p := ⟨gb233, 2, none⟩) (Kd.R_far (p := ⟨gb233, 1, none⟩) (Kd.R_far (p := ⟨gb233, 0, none⟩) (Kd.R_types HO245.out BK233.out (by decide)) (fun _ hk => hk.2) (.slice Ao15 y237.length co15)) (fun _ hk => hk.2) (.int .i64 a0_1)) (fun _ hk => hk.2) (.slice Ao14 y243.length co14)) (fun _ hk => hk.2) (.int .i64 a0_3)) (fun _ hk => hk.1), S.bG⟩
  ·rw [if_neg c3] at H
   exact absurd H (by simp)
 ·rw [if_neg c2] at H
  exact absurd H (by simp)

/-! ### spec_CutFor: function 41 -/
def spec_CutFor.j0 : Nat → List (S52) → Int → Bool → List Int → Int → List Int → Int → List Int → Int → List Int → Int → Option (List Int × Int × List Int × Int × Bool)
 | 0, _, _, _, _, _, _, _, _, _, _, _ => none
 | k + 1, x0, x2, x37, x247000, x247001, x247002, x247003, x257000, x257001, x257002, x257003 => if x37 = true then (some (x257000, x257001, x257002, x257003, false)) else ((spec_ClearBetween.f k x0 x247000 (([x2] : List Int))).bind fun t264 => (if t264 = 0 then (some ((([x2] : List Int)), 0, ([] : List Int), 0, true)) else (some (x257000, x257001, (([x2] : List Int)), t264, true))))
def spec_CutFor.f (k : Nat) (l0 : List (S52)) (l1_0 : List Int) (a1_1 : Int) (l1_2 : List Int) (a1_3 : Int) (a2 : Int) : Option (List Int × Int × List Int × Int × Bool) := (spec_l14Copy.f l1_0 a1_1 l1_2 a1_3).bind fun bt248 => ((spec_FindPath.f k l0 a2).bind fun t257 => ((spec_CanCut.f k l0 l1_0 a1_1 l1_2 a1_3).bind fun t258 => (if t258 = true then (if t257 < 0 then (spec_CutFor.j0 k l0 a2 true l1_0 a1_1 l1_2 a1_3 bt248.1 bt248.2.1 bt248.2.2.1 bt248.2.2.2) else (if 0 ≤ t257 then (if t257 < (l0.length : Int) then (if ((rd_T52 l0 t257).f1) = 2 then (spec_CutFor.j0 k l0 a2 true l1_0 a1_1 l1_2 a1_3 bt248.1 bt248.2.1 bt248.2.2.1 bt248.2.2.2) else ((spec_l6Has.f k l1_0 a2).bind fun t260 => (spec_CutFor.j0 k l0 a2 t260 l1_0 a1_1 l1_2 a1_3 bt248.1 bt248.2.1 bt248.2.2.1 bt248.2.2.2))) else (none)) else (none))) else (spec_CutFor.j0 k l0 a2 true l1_0 a1_1 l1_2 a1_3 bt248.1 bt248.2.1 bt248.2.2.1 bt248.2.2.2))))
set_option maxHeartbeats 8000000 in
set_option maxRecDepth 100000 in
theorem spec_CutFor.calls (k : Nat) (A0 : Option Addr) (c0 : Nat) (l0 : List (S52)) (A1_0 : Option Addr) (c1_0 : Nat) (l1_0 : List Int) (a1_1 : Int) (A1_2 : Option Addr) (c1_2 : Nat) (l1_2 : List Int) (a1_3 : Int) (a2 : Int) (r1 : List Int) (r2 : Int) (r3 : List Int) (r4 : Int) (r5 : Bool) (w : World) (hr0 : Kd.C k52 w A0 l0.length l0) (hc0 : l0.length ≤ c0) (hr1_0 : Kd.C (Kd.int .i64) w A1_0 l1_0.length l1_0) (hc1_0 : l1_0.length ≤ c1_0) (hr1_2 : Kd.C (Kd.int .i64) w A1_2 l1_2.length l1_2) (hc1_2 : l1_2.length ≤ c1_2) (h : spec_CutFor.f k l0 l1_0 a1_1 l1_2 a1_3 a2 = some (r1, r2, r3, r4, r5)) :
  Calls Try.prog 41 #[.slice A0 l0.length c0, .agg #[.slice A1_0 l1_0.length c1_0, .int .i64 a1_1, .slice A1_2 l1_2.length c1_2, .int .i64 a1_3], .int .i64 a2] w fun e w' => ∃ v0_ v2_ : Value, e = .returned (.tuple #[.agg #[v0_, .int .i64 r2, v2_, .int .i64 r4], .bool r5]) ∧ Kd.R (Kd.int .i64) 3 w' w.heap.size (fun k_ => some k_ ≠ (v2_ : Value).ownBlock) v0_ r1 ∧ Kd.R (Kd.int .i64) 3 w' w.heap.size (fun k_ => some k_ ≠ (v0_ : Value).ownBlock) v2_ r3 ∧ Below w.heap.size w w' := by
 have hu60 := Try.underlying60
 have HR0 := Aside0.mk hr0
 have HC0 := Aside0.mk hc0
 clear hr0 hc0
 have HR1_0 := Aside0.mk hr1_0
 have HC1_0 := Aside0.mk hc1_0
 clear hr1_0 hc1_0
 have HR1_2 := Aside0.mk hr1_2
 have HC1_2 := Aside0.mk hc1_2
 clear hr1_2 hc1_2
 have HB := Aside0.mk (Below.refl w.heap.size w)
 have H : ((spec_l14Copy.f l1_0 a1_1 l1_2 a1_3).bind fun bt248 => ((spec_FindPath.f k l0 a2).bind fun t257 => ((spec_CanCut.f k l0 l1_0 a1_1 l1_2 a1_3).bind fun t258 => (if t258 = true then (if t257 < 0 then (spec_CutFor.j0 k l0 a2 true l1_0 a1_1 l1_2 a1_3 bt248.1 bt248.2.1 bt248.2.2.1 bt248.2.2.2) else (if 0 ≤ t257 then (if t257 < (l0.length : Int) then (if ((rd_T52 l0 t257).f1) = 2 then (spec_CutFor.j0 k l0 a2 true l1_0 a1_1 l1_2 a1_3 bt248.1 bt248.2.1 bt248.2.2.1 bt248.2.2.2) else ((spec_l6Has.f k l1_0 a2).bind fun t260 => (spec_CutFor.j0 k l0 a2 t260 l1_0 a1_1 l1_2 a1_3 bt248.1 bt248.2.1 bt248.2.2.1 bt248.2.2.2))) else (none)) else (none))) else (spec_CutFor.j0 k l0 a2 true l1_0 a1_1 l1_2 a1_3 bt248.1 bt248.2.1 bt248.2.2.1 bt248.2.2.2))))) = some (r1, r2, r3, r4, r5) := h
 clear h
 replace H := S.bd H; obtain ⟨⟨t248, t251, t252, t255⟩, A4, H⟩ := H
 (try dsimp only at H)
 replace H := S.bd H; obtain ⟨t257, A5, H⟩ := H
 (try dsimp only at H)
 have HC6 := Aside0.mk H
 clear H
 go_enter Try.func41, Try.ntmps41
 go_upto_region 3 with (first | ((with_reducible refine gate_dst (N := 4) rfl ?_); refine S.bx 4 (cs := #[.slice A1_0 l1_0.length c1_0, .int .i64 a1_1, .slice A1_2 l1_2.length c1_2, .int .i64 a1_3]) (t := 60) ?_; intro gb246 hg w7 hbox hb; have BK246 := Aside0.mk hbox; have GW246 := S.geA hg; have GE246 := S.geA hg; replace HB := S.sA hb; clear hb hbox hg) | ((with_reducible refine gate_dst (N := 6) rfl ?_); refine S.bx 6 (cs := #[.slice none 0 0, .int .i64 0, .slice none 0 0, .int .i64 0]) (t := 60) ?_; intro gb247 hg w8 hbox hb; have BK247 := Aside0.mk hbox; have GW247 := S.geG hg; have GE247 := S.geG hg; replace HB := S.sG hb; have NB246_247 := S.nl hg BK246; have NB247_246 := S.ng hg BK246; replace BK246 := S.kb BK246 hb; clear hb hbox hg; have hnb9 := NB246_247.out; have hnc9 := NB247_246.out; obtain ⟨Z10a, Z10b, Z10c, Z10d, Y10a, Y10b, Y10c, Y10d⟩ := S.c4 BK246.out) | ((with_reducible refine gate_callee (f := 84) rfl ?_); refine S.gL (some 12) Try.func84 #[.agg #[.slice A1_0 l1_0.length c1_0, .int .i64 a1_1, .slice A1_2 l1_2.length c1_2, .int .i64 a1_3]] ?_; (with_reducible refine (spec_l14Copy.calls _ _ l1_0 a1_1 _ _ l1_2 a1_3 t248 t251 t252 t255 _ ?s1 HC1_0.out ?s3 HC1_2.out A4.out).mono ?_); (case s1 => exact S.cA HR1_0.out); (case s3 => exact S.cA HR1_2.out); rintro e w11 ⟨v249, v253, rfl, ho0, ho1, hb⟩; refine ⟨_, rfl, ?_⟩; have HO250 := S.lwG ho0; have HO254 := S.lwG ho1; replace BK246 := S.kb BK246 hb; replace BK247 := S.kb BK247 hb; replace HB := S.sG hb; (try clear hb); (try clear ho0); (try clear ho1)) | ((with_reducible refine gate_dst (N := 8) rfl ?_); refine S.bx 8 (cs := #[.slice none 0 0, .int .i64 0, .slice none 0 0, .int .i64 0]) (t := 60) ?_; intro gb256 hg w12 hbox hb; replace HO250 := S.rb HO250 hb; replace HO254 := S.rb HO254 hb; have BK256 := Aside0.mk hbox; have GW256 := S.geG hg; have GE256 := S.geG hg; replace HB := S.sG hb; have NB246_256 := S.nl hg BK246; have NB256_246 := S.ng hg BK246; replace BK246 := S.kb BK246 hb; have NB247_256 := S.nl hg BK247; have NB256_247 := S.ng hg BK247; replace BK247 := S.kb BK247 hb; clear hb hbox hg; obtain ⟨Ao13, co13, eo13⟩ := Kd.R_slice HO250.out; subst eo13; have hnb14 := NB256_246.out; have hnc14 := NB246_256.out; have hnb15 := NB256_247.out; have hnc15 := NB247_256.out; obtain ⟨Z16a, Z16b, Z16c, Z16d, Y16a, Y16b, Y16c, Y16d⟩ := S.c4 BK256.out; obtain ⟨Ao17, co17, eo17⟩ := Kd.R_slice HO254.out; subst eo17) | ((with_reducible refine gate_callee (f := 85) rfl ?_); refine S.gL (some 15) Try.func85 #[.slice A0 l0.length c0, .int .i64 a2] ?_; (with_reducible refine (spec_FindPath.calls k _ _ l0 a2 t257 _ ?s1 HC0.out A5.out).mono ?_); (case s1 => exact Kd.C_below HR0.out S.bG); rintro e w' ⟨rfl, ⟨nd, rfl⟩⟩; refine ⟨_, rfl, ?_⟩))
 (try simp only [Act.put, List.setIfInBounds_toArray, List.set_cons_zero, List.set_cons_succ])
 go_cut [37] (fun v37 wc => ∃ (kq : Nat) (x37_5 : Bool), v37 = .bool x37_5 ∧ Aside0 (spec_CutFor.j0 kq l0 a2 x37_5 l1_0 a1_1 l1_2 a1_3 t248 t251 t252 t255 = some (r1, r2, r3, r4, r5)) ∧ Aside0 (kq ≤ k) ∧ Aside0 (Kd.R (Kd.int .i64) 3 wc w.heap.size (fun k_ => some k_ ≠ ((.slice Ao17 t252.length co17) : Value).ownBlock) (.slice Ao13 t248.length co13) t248) ∧ Aside0 (Kd.R (Kd.int .i64) 3 wc w.heap.size (fun k_ => some k_ ≠ ((.slice Ao13 t248.length co13) : Value).ownBlock) (.slice Ao17 t252.length co17) t252) ∧ Aside0 (wc.heap[gb246]? = some (.cells #[(.slice A1_0 l1_0.length c1_0), .int .i64 a1_1, (.slice A1_2 l1_2.length c1_2), .int .i64 a1_3] 60 (0, 0))) ∧ Aside0 (wc.heap[gb247]? = some (.cells #[(.slice none 0 0), .int .i64 0, (.slice none 0 0), .int .i64 0] 60 (0, 0))) ∧ Aside0 (wc.heap[gb256]? = some (.cells #[(.slice Ao13 t248.length co13), .int .i64 t251, (.slice Ao17 t252.length co17), .int .i64 t255] 60 (0, 0))) ∧ Aside0 (Below w.heap.size w wc))
 case first =>
  have H := HC6.out
  clear HC6
  replace H := S.bd H; obtain ⟨t258, A18, H⟩ := H
  (try dsimp only at H)
  replace H := S.db H; rcases H with ⟨rfl, H⟩ | ⟨rfl, H⟩
  ·replace H := S.dc H; rcases H with ⟨H, c20b0⟩ | ⟨H, c20b0⟩
   ·(first | rw [c20b0] | (simp only [i64_w, i32_w]; rw [c20b0]) | skip)
    have H' := Aside0.mk H
    clear H
    have hnb21 := NB246_247.out
    have hnc21 := NB247_246.out
    have hnb22 := NB246_256.out
    have hnc22 := NB256_246.out
    obtain ⟨Z23a, Z23b, Z23c, Z23d, Y23a, Y23b, Y23c, Y23d⟩ := S.c4 BK246.out
    go_wp2_with (first | ((with_reducible refine gate_callee (f := 34) rfl ?_); refine S.gL (some 18) Try.func34 #[.slice A0 l0.length c0, .agg #[.slice A1_0 l1_0.length c1_0, .int .i64 a1_1, .slice A1_2 l1_2.length c1_2, .int .i64 a1_3]] ?_; (with_reducible refine (spec_CanCut.calls k _ _ l0 _ _ l1_0 a1_1 _ _ l1_2 a1_3 true _ ?s1 HC0.out ?s3 HC1_0.out ?s5 HC1_2.out A18.out).mono ?_); (case s1 => exact Kd.C_below HR0.out S.bG); (case s3 => exact Kd.C_below HR1_0.out S.bG); (case s5 => exact Kd.C_below HR1_2.out S.bG); rintro e w24 ⟨rfl, hb⟩; refine ⟨_, rfl, ?_⟩; replace HO250 := Aside0.mk (Kd.R_below (S.G4 HO250 BK256) hb); replace HO254 := Aside0.mk (Kd.R_below (S.G4 HO254 BK256) hb); replace BK246 := S.kf BK246 NB246_256 hb; replace BK247 := S.kf BK247 NB247_256 hb; replace BK256 := S.kp4 BK256 hb; replace HB := S.sG hb; (try clear hb)))
    go_meet
    case rel => exact ⟨_, (true), S.eA, H', S.le, ⟨S.uR HO250.out⟩, ⟨S.uR HO254.out⟩, ⟨S.uB BK246.out⟩, ⟨S.uB BK247.out⟩, ⟨S.uB BK256.out⟩, ⟨S.bG⟩⟩
   ·(first | rw [c20b0] | (simp only [i64_w, i32_w]; rw [c20b0]) | skip)
    by_cases c25 : 0 ≤ t257
    ·rw [if_pos c25] at H
     have c25b0 : decide (0 ≤ t257) = true := decide_eq_true c25
     clear c25
     by_cases c26 : t257 < (l0.length : Int)
     ·rw [if_pos c26] at H
      have c26b0 : decide (t257 < (l0.length : Int)) = true := decide_eq_true c26
      clear c26
      by_cases c27 : ((rd_T52 l0 t257).f1) = 2
      ·rw [if_pos c27] at H
       have c27b0 : (((rd_T52 l0 t257).f1) == 2) = true := beq_iff_eq.mpr c27
       have c27b1 : (((rd_T52 l0 t257).f1) != 2) = false := bne_eq_false_iff_eq.mpr c27
       clear c27
       have H' := Aside0.mk H
       clear H
       have hnb28 := NB246_247.out
       have hnc28 := NB247_246.out
       have hnb29 := NB246_256.out
       have hnc29 := NB256_246.out
       obtain ⟨Z30a, Z30b, Z30c, Z30d, Y30a, Y30b, Y30c, Y30d⟩ := S.c4 BK246.out
       go_wp2_with (first | ((with_reducible refine gate_callee (f := 34) rfl ?_); refine S.gL (some 18) Try.func34 #[.slice A0 l0.length c0, .agg #[.slice A1_0 l1_0.length c1_0, .int .i64 a1_1, .slice A1_2 l1_2.length c1_2, .int .i64 a1_3]] ?_; (with_reducible refine (spec_CanCut.calls k _ _ l0 _ _ l1_0 a1_1 _ _ l1_2 a1_3 true _ ?s1 HC0.out ?s3 HC1_0.out ?s5 HC1_2.out A18.out).mono ?_); (case s1 => exact Kd.C_below HR0.out S.bG); (case s3 => exact Kd.C_below HR1_0.out S.bG); (case s5 => exact Kd.C_below HR1_2.out S.bG); rintro e w31 ⟨rfl, hb⟩; refine ⟨_, rfl, ?_⟩; replace HO250 := Aside0.mk (Kd.R_below (S.G4 HO250 BK256) hb); replace HO254 := Aside0.mk (Kd.R_below (S.G4 HO254 BK256) hb); replace BK246 := S.kf BK246 NB246_256 hb; replace BK247 := S.kf BK247 NB247_256 hb; replace BK256 := S.kp4 BK256 hb; replace HB := S.sG hb; (try clear hb); have p259 : 0 ≤ (t257 : Int) := S.oD; have q259 : t257 < (l0.length : Int) := S.oD; obtain ⟨ad259, e259, hx259_0, hx259_1, hx259_2, hx259_3⟩ := at_T52 HR0.out t257 p259 q259; cases e259; replace hx259_0 := S.hb HB hx259_0; replace hx259_1 := S.hb HB hx259_1; replace hx259_2 := S.hb HB hx259_2; replace hx259_3 := S.hb HB hx259_3; replace p259 := eq_true p259; replace q259 := eq_true q259))
       go_meet
       case rel => exact ⟨_, (true), S.eA, H', S.le, ⟨S.uR HO250.out⟩, ⟨S.uR HO254.out⟩, ⟨S.uB BK246.out⟩, ⟨S.uB BK247.out⟩, ⟨S.uB BK256.out⟩, ⟨S.bG⟩⟩
      ·rw [if_neg c27] at H
       have c27b0 : (((rd_T52 l0 t257).f1) == 2) = false := beq_eq_false_iff_ne.mpr c27
       have c27b1 : (((rd_T52 l0 t257).f1) != 2) = true := bne_iff_ne.mpr c27
       replace H := S.bd H; obtain ⟨t260, A32, H⟩ := H
       (try dsimp only at H)
       have H' := Aside0.mk H
       clear H
       have hnb33 := NB246_247.out
       have hnc33 := NB247_246.out
       have hnb34 := NB246_256.out
       have hnc34 := NB256_246.out
       obtain ⟨Z35a, Z35b, Z35c, Z35d, Y35a, Y35b, Y35c, Y35d⟩ := S.c4 BK246.out
       go_wp2_with (first | ((with_reducible refine gate_callee (f := 34) rfl ?_); refine S.gL (some 18) Try.func34 #[.slice A0 l0.length c0, .agg #[.slice A1_0 l1_0.length c1_0, .int .i64 a1_1, .slice A1_2 l1_2.length c1_2, .int .i64 a1_3]] ?_; (with_reducible refine (spec_CanCut.calls k _ _ l0 _ _ l1_0 a1_1 _ _ l1_2 a1_3 true _ ?s1 HC0.out ?s3 HC1_0.out ?s5 HC1_2.out A18.out).mono ?_); (case s1 => exact Kd.C_below HR0.out S.bG); (case s3 => exact Kd.C_below HR1_0.out S.bG); (case s5 => exact Kd.C_below HR1_2.out S.bG); rintro e w36 ⟨rfl, hb⟩; refine ⟨_, rfl, ?_⟩; replace HO250 := Aside0.mk (Kd.R_below (S.G4 HO250 BK256) hb); replace HO254 := Aside0.mk (Kd.R_below (S.G4 HO254 BK256) hb); replace BK246 := S.kf BK246 NB246_256 hb; replace BK247 := S.kf BK247 NB247_256 hb; replace BK256 := S.kp4 BK256 hb; replace HB := S.sG hb; (try clear hb); have p259 : 0 ≤ (t257 : Int) := S.oD; have q259 : t257 < (l0.length : Int) := S.oD; obtain ⟨ad259, e259, hx259_0, hx259_1, hx259_2, hx259_3⟩ := at_T52 HR0.out t257 p259 q259; cases e259; replace hx259_0 := S.hb HB hx259_0; replace hx259_1 := S.hb HB hx259_1; replace hx259_2 := S.hb HB hx259_2; replace hx259_3 := S.hb HB hx259_3; replace p259 := eq_true p259; replace q259 := eq_true q259; obtain ⟨Z37a, Z37b, Z37c, Z37d, Y37a, Y37b, Y37c, Y37d⟩ := S.c4 BK246.out) | (go_at_call 79; (with_reducible refine (spec_l6Has.calls k _ _ l1_0 a2 t260 _ ?s1 HC1_0.out A32.out).mono ?_); (case s1 => exact S.cA HR1_0.out); rintro e w' ⟨rfl, ⟨nd, rfl⟩⟩))
       go_meet
       case rel => exact ⟨_, (t260), S.eA, H', S.le, ⟨S.uR HO250.out⟩, ⟨S.uR HO254.out⟩, ⟨S.uB BK246.out⟩, ⟨S.uB BK247.out⟩, ⟨S.uB BK256.out⟩, ⟨S.bG⟩⟩
     ·rw [if_neg c26] at H
      exact absurd H (by simp)
    ·rw [if_neg c25] at H
     exact absurd H (by simp)
  ·have H' := Aside0.mk H
   clear H
   have hnb38 := NB246_247.out
   have hnc38 := NB247_246.out
   have hnb39 := NB246_256.out
   have hnc39 := NB256_246.out
   obtain ⟨Z40a, Z40b, Z40c, Z40d, Y40a, Y40b, Y40c, Y40d⟩ := S.c4 BK246.out
   go_wp2_with (first | ((with_reducible refine gate_callee (f := 34) rfl ?_); refine S.gL (some 18) Try.func34 #[.slice A0 l0.length c0, .agg #[.slice A1_0 l1_0.length c1_0, .int .i64 a1_1, .slice A1_2 l1_2.length c1_2, .int .i64 a1_3]] ?_; (with_reducible refine (spec_CanCut.calls k _ _ l0 _ _ l1_0 a1_1 _ _ l1_2 a1_3 false _ ?s1 HC0.out ?s3 HC1_0.out ?s5 HC1_2.out A18.out).mono ?_); (case s1 => exact Kd.C_below HR0.out S.bG); (case s3 => exact Kd.C_below HR1_0.out S.bG); (case s5 => exact Kd.C_below HR1_2.out S.bG); rintro e w41 ⟨rfl, hb⟩; refine ⟨_, rfl, ?_⟩; replace HO250 := Aside0.mk (Kd.R_below (S.G4 HO250 BK256) hb); replace HO254 := Aside0.mk (Kd.R_below (S.G4 HO254 BK256) hb); replace BK246 := S.kf BK246 NB246_256 hb; replace BK247 := S.kf BK247 NB247_256 hb; replace BK256 := S.kp4 BK256 hb; replace HB := S.sG hb; (try clear hb)))
   go_meet
   case rel => exact ⟨_, (true), S.eA, H', S.le, ⟨S.uR HO250.out⟩, ⟨S.uR HO254.out⟩, ⟨S.uB BK246.out⟩, ⟨S.uB BK247.out⟩, ⟨S.uB BK256.out⟩, ⟨S.bG⟩⟩
 case rest =>
  clear HC6
  try clear Z10a
  try clear Z10b
  try clear Z10c
  try clear Z10d
  try clear Z16a
  try clear Z16b
  try clear Z16c
  try clear Z16d
  try clear Y10a
  try clear Y10b
  try clear Y10c
  try clear Y10d
  try clear Y16a
  try clear Y16b
  try clear Y16c
  try clear Y16d
  obtain ⟨kq, x37_5, rfl, HA, HJ5, HO_257000, HO_257002, BK246, BK247, BK256, HB⟩ := hcut
  cases kq with
  | zero => exact absurd HA.out (by simp [spec_CutFor.j0])
  | succ kj5 =>
   have H := HA.out
   clear HA
   simp only [spec_CutFor.j0] at H
   replace H := S.db H; rcases H with ⟨rfl, H⟩ | ⟨rfl, H⟩
   ·simp only [Option.some.injEq, Prod.mk.injEq] at H
    obtain ⟨rfl, rfl, rfl, rfl, rfl⟩ := H
    have hnb43 := NB256_246.out
    have hnc43 := NB246_256.out
    have hnb44 := NB256_247.out
    have hnc44 := NB247_256.out
    obtain ⟨Z45a, Z45b, Z45c, Z45d, Y45a, Y45b, Y45c, Y45d⟩ := S.c4 BK256.out
    have hnb46 := NB247_246.out
    have hnc46 := NB246_247.out
    obtain ⟨Z47a, Z47b, Z47c, Z47d, Y47a, Y47b, Y47c, Y47d⟩ := S.c4 BK247.out
    go_wp2
    refine bodyPost_ret (results_ct rfl _ _ gb247 60 #[.slice Ao13 t248.length co13, .int .i64 t251, .slice Ao17 t252.length co17, .int .i64 t255] (0, 0) _ rfl (by (with_reducible repeat (first | refine blk_drewN ?_ _ | refine blk_drew ?_ | refine blk_alloc ?_ _)); refine blk_put (cs := #[.slice Ao13 t248.length co13, .int .i64 t251, .slice Ao17 t252.length co17, .int .i64 0]) ?_ 3 _ rfl; (with_reducible repeat (first | refine blk_drewN ?_ _ | refine blk_drew ?_ | refine blk_alloc ?_ _)); refine blk_put (cs := #[.slice Ao13 t248.length co13, .int .i64 t251, .slice none 0 0, .int .i64 0]) ?_ 2 _ rfl; (with_reducible repeat (first | refine blk_drewN ?_ _ | refine blk_drew ?_ | refine blk_alloc ?_ _)); refine blk_put (cs := #[.slice Ao13 t248.length co13, .int .i64 0, .slice none 0 0, .int .i64 0]) ?_ 1 _ rfl; (with_reducible repeat (first | refine blk_drewN ?_ _ | refine blk_drew ?_ | refine blk_alloc ?_ _)); refine blk_put (cs := #[.slice none 0 0, .int .i64 0, .slice none 0 0, .int .i64 0]) ?_ 0 _ rfl; (with_reducible repeat (first | refine blk_drewN ?_ _ | refine blk_drew ?_ | refine blk_alloc ?_ _)); exact BK247.out) Try.underlying60 rfl (by kernel_rfl)) rfl ?_
    exact ⟨_, _, S.eW, by (with_reducible repeat (first | apply Kd.R_alloc | apply Kd.R_drewN | apply Kd.R_drew)); exact Kd.R_mono (Kd.R_far (p := ⟨gb247, 3, none⟩) (Kd.R_far (p := ⟨gb247, 2, none⟩) (Kd.R_far (p := ⟨gb247, 1, none⟩) (Kd.R_far (p := ⟨gb247, 0, none⟩) (Kd.R_types HO_257000.out BK247.out (by decide)) (fun _ hk => hk.2) (.slice Ao13 t248.length co13)) (fun _ hk => hk.2) (.int .i64 t251)) (fun _ hk => hk.2) (.slice Ao17 t252.length co17)) (fun _ hk => hk.2) (.int .i64 t255)) (fun _ hk => hk.1), by (with_reducible repeat (first | apply Kd.R_alloc | apply Kd.R_drewN | apply Kd.R_drew)); exact Kd.R_mono (Kd.R_far (p := ⟨gb247, 3, none⟩) (Kd.R_far (p := ⟨gb247, 2, none⟩) (Kd.R_far (p := ⟨gb247, 1, none⟩) (Kd.R_far (p := ⟨gb247, 0, none⟩) (Kd.R_types HO_257002.out BK247.out (by decide)) (fun _ hk => hk.2) (.slice Ao13 t248.length co13)) (fun _ hk => hk.2) (.int .i64 t251)) (fun _ hk => hk.2) (.slice Ao17 t252.length co17)) (fun _ hk => hk.2) (.int .i64 t255)) (fun _ hk => hk.1), S.bG⟩
   ·obtain ⟨y261, hy261⟩ : ∃ y_ : List Int, y_ = (([a2] : List Int)) := ⟨_, rfl⟩
    replace H : ((spec_ClearBetween.f kj5 l0 l1_0 y261).bind fun t264 => (if t264 = 0 then (some ((([a2] : List Int)), 0, ([] : List Int), 0, true)) else (some (t248, t251, (([a2] : List Int)), t264, true)))) = some (r1, r2, r3, r4, r5) := by first | (rw [hy261]; with_reducible exact H) | (have H2_ := (Option.bind_some _ _).symm.trans H; rw [hy261]; with_reducible exact H2_) | (have H2_ := (Option.bind_some _ _).symm.trans H; with_reducible exact H2_) | with_reducible exact H | (rw [hy261]; exact H) | exact H
    have Ny261 := Aside0.mk hy261
    clear hy261
    replace H := S.bd H; obtain ⟨t264, A48, H⟩ := H
    (try dsimp only at H)
    by_cases c49 : t264 = 0
    ·rw [if_pos c49] at H
     have c49b0 : (t264 == 0) = true := beq_iff_eq.mpr c49
     have c49b1 : (t264 != 0) = false := bne_eq_false_iff_eq.mpr c49
     clear c49
     obtain ⟨y265, hy265⟩ : ∃ y_ : List Int, y_ = (([a2] : List Int)) := ⟨_, rfl⟩
     replace H : (some (y265, 0, ([] : List Int), 0, true)) = some (r1, r2, r3, r4, r5) := by first | (rw [hy265]; with_reducible exact H) | (have H2_ := (Option.bind_some _ _).symm.trans H; rw [hy265]; with_reducible exact H2_) | (have H2_ := (Option.bind_some _ _).symm.trans H; with_reducible exact H2_) | with_reducible exact H | (rw [hy265]; exact H) | exact H
     have Ny265 := Aside0.mk hy265
     clear hy265
     simp only [Option.some.injEq, Prod.mk.injEq] at H
     obtain ⟨rfl, rfl, rfl, rfl, rfl⟩ := H
     have hnb50 := NB246_247.out
     have hnc50 := NB247_246.out
     have hnb51 := NB246_256.out
     have hnc51 := NB256_246.out
     obtain ⟨Z52a, Z52b, Z52c, Z52d, Y52a, Y52b, Y52c, Y52d⟩ := S.c4 BK246.out
     go_wp2_with (first | ((with_reducible refine gate_dst (N := 43) rfl ?_); refine Kd.R_lit (Kd.int .i64) _ 3 ?hg (N := 43) ?hd (xs := ([a2] : List Int)) (inner := [.int .i64 a2]) (ok := fun _ => True) (okp := fun _ => True) ?hr ?hp (fun _ hk => hk) trivial (Below.refl _ _) (Nat.le_refl _) (by simp) ?_; (case hd => rfl); (case hg => rfl); (case hr => first | (go_simp; done) | (go_simp; rfl)); (case hp => exact (Reps.one (show Kd.M (Kd.int .i64) _ _ _ a2 [.int .i64 a2] from rfl) (Reps.none _ _))); intro v262 w53 ho54 hb hg_ hnew_; clear hg_ hnew_; (first | rw [← Ny261.out] at ho54 | (simp only [Int.reduceToNat] at ho54; rw [← Ny261.out] at ho54)); have HO263 := Aside0.mk (Kd.R_lower (Kd.R_new' (Kd.R_new' ho54 (Kd.R_lt (S.uR HO_257000.out))) (Kd.R_lt (S.uR HO_257002.out))) (below_size S.bG)); replace HO_257000 := S.re HO_257000 ho54 hb; replace HO_257002 := S.re HO_257002 ho54 hb; replace BK246 := S.kb BK246 hb; replace BK247 := S.kb BK247 hb; replace BK256 := S.kb BK256 hb; replace HB := S.sG hb; clear hb ho54; obtain ⟨Ao55, co55, eo55⟩ := Kd.R_slice HO263.out; subst eo55) | ((with_reducible refine gate_callee (f := 86) rfl ?_); refine S.gL (some 44) Try.func86 #[.slice A0 l0.length c0, .slice A1_0 l1_0.length c1_0, .slice Ao55 y261.length co55] ?_; (with_reducible refine (spec_ClearBetween.calls kj5 _ _ l0 _ _ l1_0 _ _ y261 t264 _ ?s1 HC0.out ?s3 HC1_0.out ?s5 (S.rl HO263) A48.out).mono ?_); (case s1 => exact S.cA HR0.out); (case s3 => exact S.cA HR1_0.out); (case s5 => exact S.rd HO263); rintro e w56 ⟨rfl, hb⟩; refine ⟨_, rfl, ?_⟩; replace HO_257000 := S.rb HO_257000 hb; replace HO_257002 := S.rb HO_257002 hb; replace HO263 := S.rb HO263 hb; replace BK246 := S.kb BK246 hb; replace BK247 := S.kb BK247 hb; replace BK256 := S.kb BK256 hb; replace HB := S.sG hb; (try clear hb)) | ((with_reducible refine gate_dst (N := 48) rfl ?_); refine Kd.R_lit (Kd.int .i64) _ 3 ?hg (N := 48) ?hd (xs := ([a2] : List Int)) (inner := [.int .i64 a2]) (ok := fun _ => True) (okp := fun _ => True) ?hr ?hp (fun _ hk => hk) trivial (Below.refl _ _) (Nat.le_refl _) (by simp) ?_; (case hd => rfl); (case hg => rfl); (case hr => first | (go_simp; done) | (go_simp; rfl)); (case hp => exact (Reps.one (show Kd.M (Kd.int .i64) _ _ _ a2 [.int .i64 a2] from rfl) (Reps.none _ _))); intro v266 w57 ho58 hb hg_ hnew_; clear hg_ hnew_; (first | rw [← Ny265.out] at ho58 | (simp only [Int.reduceToNat] at ho58; rw [← Ny265.out] at ho58)); have HO267 := Aside0.mk (Kd.R_lower (Kd.R_new' (Kd.R_new' (Kd.R_new' ho58 (Kd.R_lt (S.uR HO_257000.out))) (Kd.R_lt (S.uR HO_257002.out))) (Kd.R_lt (S.uR HO263.out))) (below_size S.bG)); replace HO_257000 := S.re HO_257000 ho58 hb; replace HO_257002 := S.re HO_257002 ho58 hb; replace HO263 := S.re HO263 ho58 hb; replace BK246 := S.kb BK246 hb; replace BK247 := S.kb BK247 hb; replace BK256 := S.kb BK256 hb; replace HB := S.sG hb; clear hb ho58; obtain ⟨Ao59, co59, eo59⟩ := Kd.R_slice HO267.out; subst eo59; have hnb60 := NB247_256.out; have hnc60 := NB256_247.out; obtain ⟨Z61a, Z61b, Z61c, Z61d, Y61a, Y61b, Y61c, Y61d⟩ := S.c4 BK247.out))
     refine bodyPost_ret (results_ct rfl _ _ gb247 60 #[.slice Ao59 y265.length co59, .int .i64 0, .slice none 0 0, .int .i64 0] (0, 0) _ rfl (by (with_reducible repeat (first | refine blk_drewN ?_ _ | refine blk_drew ?_ | refine blk_alloc ?_ _)); refine blk_put (cs := #[.slice Ao59 y265.length co59, .int .i64 0, .slice none 0 0, .int .i64 0]) ?_ 3 _ rfl; (with_reducible repeat (first | refine blk_drewN ?_ _ | refine blk_drew ?_ | refine blk_alloc ?_ _)); refine blk_put (cs := #[.slice Ao59 y265.length co59, .int .i64 0, .slice none 0 0, .int .i64 0]) ?_ 2 _ rfl; (with_reducible repeat (first | refine blk_drewN ?_ _ | refine blk_drew ?_ | refine blk_alloc ?_ _)); refine blk_put (cs := #[.slice Ao59 y265.length co59, .int .i64 0, .slice none 0 0, .int .i64 0]) ?_ 1 _ rfl; (with_reducible repeat (first | refine blk_drewN ?_ _ | refine blk_drew ?_ | refine blk_alloc ?_ _)); refine blk_put (cs := #[.slice none 0 0, .int .i64 0, .slice none 0 0, .int .i64 0]) ?_ 0 _ rfl; (with_reducible repeat (first | refine blk_drewN ?_ _ | refine blk_drew ?_ | refine blk_alloc ?_ _)); exact BK247.out) Try.underlying60 rfl (by kernel_rfl)) rfl ?_
     exact ⟨_, _, S.eW, by (with_reducible repeat (first | apply Kd.R_alloc | apply Kd.R_drewN | apply Kd.R_drew)); exact Kd.R_mono (Kd.R_far (p := ⟨gb247, 3, none⟩) (Kd.R_far (p := ⟨gb247, 2, none⟩) (Kd.R_far (p := ⟨gb247, 1, none⟩) (Kd.R_far (p := ⟨gb247, 0, none⟩) (Kd.R_types HO267.out BK247.out (by decide)) (fun _ hk => hk.2) (.slice Ao59 y265.length co59)) (fun _ hk => hk.2) (.int .i64 0)) (fun _ hk => hk.2) (.slice none 0 0)) (fun _ hk => hk.2) (.int .i64 0)) (fun _ hk => (by simp [Value.ownBlock])), by first | exact Kd.R_nil _ _ _ _ _ | exact Kd.N_nil _ _ _ _ _ | exact Kd.V_nil _ _ _ _ _ | exact Kd.Q_nil _ _ _ _ _ | exact Kd.S_nil _ _ _ _ _, S.bG⟩
    ·rw [if_neg c49] at H
     have c49b0 : (t264 == 0) = false := beq_eq_false_iff_ne.mpr c49
     have c49b1 : (t264 != 0) = true := bne_iff_ne.mpr c49
     obtain ⟨y268, hy268⟩ : ∃ y_ : List Int, y_ = (([a2] : List Int)) := ⟨_, rfl⟩
     replace H : (some (t248, t251, y268, t264, true)) = some (r1, r2, r3, r4, r5) := by first | (rw [hy268]; with_reducible exact H) | (have H2_ := (Option.bind_some _ _).symm.trans H; rw [hy268]; with_reducible exact H2_) | (have H2_ := (Option.bind_some _ _).symm.trans H; with_reducible exact H2_) | with_reducible exact H | (rw [hy268]; exact H) | exact H
     have Ny268 := Aside0.mk hy268
     clear hy268
     simp only [Option.some.injEq, Prod.mk.injEq] at H
     obtain ⟨rfl, rfl, rfl, rfl, rfl⟩ := H
     have hnb62 := NB246_247.out
     have hnc62 := NB247_246.out
     have hnb63 := NB246_256.out
     have hnc63 := NB256_246.out
     obtain ⟨Z64a, Z64b, Z64c, Z64d, Y64a, Y64b, Y64c, Y64d⟩ := S.c4 BK246.out
     go_wp2_with (first | ((with_reducible refine gate_dst (N := 43) rfl ?_); refine Kd.R_lit (Kd.int .i64) _ 3 ?hg (N := 43) ?hd (xs := ([a2] : List Int)) (inner := [.int .i64 a2]) (ok := fun _ => True) (okp := fun _ => True) ?hr ?hp (fun _ hk => hk) trivial (Below.refl _ _) (Nat.le_refl _) (by simp) ?_; (case hd => rfl); (case hg => rfl); (case hr => first | (go_simp; done) | (go_simp; rfl)); (case hp => exact (Reps.one (show Kd.M (Kd.int .i64) _ _ _ a2 [.int .i64 a2] from rfl) (Reps.none _ _))); intro v262 w65 ho66 hb hg_ hnew_; clear hg_ hnew_; (first | rw [← Ny261.out] at ho66 | (simp only [Int.reduceToNat] at ho66; rw [← Ny261.out] at ho66)); have HO263 := Aside0.mk (Kd.R_lower (Kd.R_new' (Kd.R_new' ho66 (Kd.R_lt (S.uR HO_257000.out))) (Kd.R_lt (S.uR HO_257002.out))) (below_size S.bG)); replace HO_257000 := S.re HO_257000 ho66 hb; replace HO_257002 := S.re HO_257002 ho66 hb; replace BK246 := S.kb BK246 hb; replace BK247 := S.kb BK247 hb; replace BK256 := S.kb BK256 hb; replace HB := S.sG hb; clear hb ho66; obtain ⟨Ao67, co67, eo67⟩ := Kd.R_slice HO263.out; subst eo67) | ((with_reducible refine gate_callee (f := 86) rfl ?_); refine S.gL (some 44) Try.func86 #[.slice A0 l0.length c0, .slice A1_0 l1_0.length c1_0, .slice Ao67 y261.length co67] ?_; (with_reducible refine (spec_ClearBetween.calls kj5 _ _ l0 _ _ l1_0 _ _ y261 t264 _ ?s1 HC0.out ?s3 HC1_0.out ?s5 (S.rl HO263) A48.out).mono ?_); (case s1 => exact S.cA HR0.out); (case s3 => exact S.cA HR1_0.out); (case s5 => exact S.rd HO263); rintro e w68 ⟨rfl, hb⟩; refine ⟨_, rfl, ?_⟩; replace HO_257000 := S.rb HO_257000 hb; replace HO_257002 := S.rb HO_257002 hb; replace HO263 := S.rb HO263 hb; replace BK246 := S.kb BK246 hb; replace BK247 := S.kb BK247 hb; replace BK256 := S.kb BK256 hb; replace HB := S.sG hb; (try clear hb)) | ((with_reducible refine gate_dst (N := 51) rfl ?_); refine Kd.R_lit (Kd.int .i64) _ 3 ?hg (N := 51) ?hd (xs := ([a2] : List Int)) (inner := [.int .i64 a2]) (ok := fun _ => True) (okp := fun _ => True) ?hr ?hp (fun _ hk => hk) trivial (Below.refl _ _) (Nat.le_refl _) (by simp) ?_; (case hd => rfl); (case hg => rfl); (case hr => first | (go_simp; done) | (go_simp; rfl)); (case hp => exact (Reps.one (show Kd.M (Kd.int .i64) _ _ _ a2 [.int .i64 a2] from rfl) (Reps.none _ _))); intro v269 w69 ho70 hb hg_ hnew_; clear hg_ hnew_; (first | rw [← Ny268.out] at ho70 | (simp only [Int.reduceToNat] at ho70; rw [← Ny268.out] at ho70)); have HO270 := Aside0.mk (Kd.R_lower (Kd.R_new' (Kd.R_new' (Kd.R_new' ho70 (Kd.R_lt (S.uR HO_257000.out))) (Kd.R_lt (S.uR HO_257002.out))) (Kd.R_lt (S.uR HO263.out))) (below_size S.bG)); replace HO_257000 := S.re HO_257000 ho70 hb; replace HO_257002 := S.re HO_257002 ho70 hb; replace HO263 := S.re HO263 ho70 hb; replace BK246 := S.kb BK246 hb; replace BK247 := S.kb BK247 hb; replace BK256 := S.kb BK256 hb; replace HB := S.sG hb; clear hb ho70; obtain ⟨Ao71, co71, eo71⟩ := Kd.R_slice HO270.out; subst eo71; have hnb72 := NB256_247.out; have hnc72 := NB247_256.out; obtain ⟨Z73a, Z73b, Z73c, Z73d, Y73a, Y73b, Y73c, Y73d⟩ := S.c4 BK256.out; obtain ⟨Z74a, Z74b, Z74c, Z74d, Y74a, Y74b, Y74c, Y74d⟩ := S.c4 BK247.out))
     refine bodyPost_ret (results_ct rfl _ _ gb247 60 #[.slice Ao13 t248.length co13, .int .i64 t251, .slice Ao71 y268.length co71, .int .i64 t264] (0, 0) _ rfl (by (with_reducible repeat (first | refine blk_drewN ?_ _ | refine blk_drew ?_ | refine blk_alloc ?_ _)); refine blk_put (cs := #[.slice Ao13 t248.length co13, .int .i64 t251, .slice Ao71 y268.length co71, .int .i64 0]) ?_ 3 _ rfl; (with_reducible repeat (first | refine blk_drewN ?_ _ | refine blk_drew ?_ | refine blk_alloc ?_ _)); refine blk_put (cs := #[.slice Ao13 t248.length co13, .int .i64 t251, .slice none 0 0, .int .i64 0]) ?_ 2 _ rfl; (with_reducible repeat (first | refine blk_drewN ?_ _ | refine blk_drew ?_ | refine blk_alloc ?_ _)); refine blk_put (cs := #[.slice Ao13 t248.length co13, .int .i64 0, .slice none 0 0, .int .i64 0]) ?_ 1 _ rfl; (with_reducible repeat (first | refine blk_drewN ?_ _ | refine blk_drew ?_ | refine blk_alloc ?_ _)); refine blk_put (cs := #[.slice none 0 0, .int .i64 0, .slice none 0 0, .int .i64 0]) ?_ 0 _ rfl; (with_reducible repeat (first | refine blk_drewN ?_ _ | refine blk_drew ?_ | refine blk_alloc ?_ _)); refine blk_far ?_ NB247_256.out _; (with_reducible repeat (first | refine blk_drewN ?_ _ | refine blk_drew ?_ | refine blk_alloc ?_ _)); refine blk_far ?_ NB247_256.out _; (with_reducible repeat (first | refine blk_drewN ?_ _ | refine blk_drew ?_ | refine blk_alloc ?_ _)); exact BK247.out) Try.underlying60 rfl (by kernel_rfl)) rfl ?_
     exact ⟨_, _, S.eW, by (with_reducible repeat (first | apply Kd.R_alloc | apply Kd.R_drewN | apply Kd.R_drew)); exact Kd.R_mono (Kd.R_far (p := ⟨gb247, 3, none⟩) (Kd.R_far (p := ⟨gb247, 2, none⟩) (Kd.R_far (p := ⟨gb247, 1, none⟩) (Kd.R_far (p := ⟨gb247, 0, none⟩) (Kd.R_far (p := ⟨gb256, 3, none⟩) (Kd.R_far (p := ⟨gb256, 2, none⟩) (Kd.R_types (Kd.R_types HO_257000.out BK256.out (by decide)) BK247.out (by decide)) (fun _ hk => hk.1.2) (.slice Ao71 y268.length co71)) (fun _ hk => hk.1.2) (.int .i64 t264)) (fun _ hk => hk.2) (.slice Ao13 t248.length co13)) (fun _ hk => hk.2) (.int .i64 t251)) (fun _ hk => hk.2) (.slice Ao71 y268.length co71)) (fun _ hk => hk.2) (.int .i64 t264)) (fun _ hk => hk.1.1.2), by (with_reducible repeat (first | apply Kd.R_alloc | apply Kd.R_drewN | apply Kd.R_drew)); exact Kd.R_mono (Kd.R_far (p := ⟨gb247, 3, none⟩) (Kd.R_far (p := ⟨gb247, 2, none⟩) (Kd.R_far (p := ⟨gb247, 1, none⟩) (Kd.R_far (p := ⟨gb247, 0, none⟩) (Kd.R_far (p := ⟨gb256, 3, none⟩) (Kd.R_far (p := ⟨gb256, 2, none⟩) (Kd.R_types (Kd.R_types HO270.out BK256.out (by decide)) BK247.out (by decide)) (fun _ hk => hk.1.2) (.slice Ao71 y268.length co71)) (fun _ hk => hk.1.2) (.int .i64 t264)) (fun _ hk => hk.2) (.slice Ao13 t248.length co13)) (fun _ hk => hk.2) (.int .i64 t251)) (fun _ hk => hk.2) (.slice Ao71 y268.length co71)) (fun _ hk => hk.2) (.int .i64 t264)) (fun _ hk => hk.1.1.1.1.2), S.bG⟩

-- NOT PRINTED: function 119 (impl_Path)

end Go.Proofs.Ytopchlafmfgpnaa.PFnExactCutFor
