/- Printed by a program: what the Go functions compute, as plain Lean functions (.f), and the proofs that the machine's calls come to just that (.calls). -/
import Derived.Test.YtjgigmghcfdomaaPFnSwitchedx0
import Derived.Test.YtjgigmghcfdomaaPFnSwitchedx5
import Derived.Test.YtjgigmghcfdomaaPFnSwitchedx6
import Derived.Test.YtjgigmghcfdomaaPFnSwitchedx9
import Derived.Test.YtjgigmghcfdomaaPFnSwitchedx10
namespace Go.Proofs.Ytjgigmghcfdomaa.PFnSwitched
open Go.RowKit Go.Proofs.YtjgigmghcfdomaaW.PrintWords Go.Proofs.YtjgigmghcfdomaaW.PrintLast Go.Proofs.YtjgigmghcfdomaaW.PrintMore
attribute [local go_sem] max2_int min2_int max_two min_two max_three min_three max_four min_four   -- for this text's walks alone
set_option linter.unusedVariables false
set_option linter.unusedSimpArgs false
set_option maxHeartbeats 8000000
set_option maxRecDepth 100000
/-! ### spec_l8Any: function 128 -/
def spec_l8Any.f (k : Nat) (s0_0 : List Int) (s0_1 : Int) (s0_2 : Int) : Option ((List (S71)) × (List (S85)) × Int × Int) := (spec_l8Draw.f k s0_0 s0_1 s0_2).bind fun bt593 => (if (bt593.2.1.length : Int) = 0 then (some (bt593.1, bt593.2.1, bt593.2.2.1, bt593.2.2.2)) else ((spec_l1Below.f s0_0 bt593.2.2.1 bt593.2.2.2 (bt593.2.1.length : Int)).bind fun bt601 => ((spec_l1Below.f s0_0 bt601.2.1 bt601.2.2 10).bind fun bt604 => (if bt604.1 = 0 then ((spec_l1Int.f s0_0 bt604.2.1 bt604.2.2 (([4, 60, 61, 9223372036854775807] : List Int))).bind fun bt610 => (if 0 ≤ bt601.1 then (if bt601.1 < (bt593.2.1.length : Int) then (some (bt593.1, (bt593.2.1.set (bt601.1 : Int).toNat (⟨(rd_T85 bt593.2.1 bt601.1).f0, bt610.1⟩ : S85)), bt610.2.1, bt610.2.2)) else (none)) else (none))) else (if bt604.1 = 1 then (if 0 ≤ bt601.1 then (if bt601.1 < (bt593.2.1.length : Int) then (if 1 ≤ (((rd_T85 bt593.2.1 bt601.1).f0).length : Int) then (some (bt593.1, (bt593.2.1.set (bt601.1 : Int).toNat (⟨(((rd_T85 bt593.2.1 bt601.1).f0).drop 1), (rd_T85 bt593.2.1 bt601.1).f1⟩ : S85)), bt604.2.1, bt604.2.2)) else (none)) else (none)) else (none)) else (if bt604.1 = 2 then ((spec_l5Any.f k s0_0 bt604.2.1 bt604.2.2).bind fun bt621 => (some (bt621.1, bt593.2.1, bt621.2.1, bt621.2.2))) else (if bt604.1 = 3 then (if 1 ≤ (bt593.2.1.length : Int) then (some (bt593.1, (bt593.2.1.drop 1), bt604.2.1, bt604.2.2)) else (none)) else (some (bt593.1, bt593.2.1, bt604.2.1, bt604.2.2)))))))))
theorem spec_l8Any.calls (k : Nat) (g : Nat) (s0_0 : List Int) (s0_1 : Int) (s0_2 : Int) (r1 : List (S71)) (r2 : List (S85)) (r3 : Int) (r4 : Int) (w0 w : World) (hI : IsS114 w0 w g s0_0 s0_1 s0_2) (hB : Below w0.heap.size w0 w) (h : spec_l8Any.f k s0_0 s0_1 s0_2 = some (r1, r2, r3, r4)) :
  Calls Try.prog 128 #[.pointer (some ⟨g, 0, none⟩)] w fun e w' => ∃ v0_ v1_ : Value, e = .returned (.tuple #[v0_, v1_]) ∧ Kd.R k71 71 w' w.heap.size (fun k_ => (w.heap.size ≤ k_)) v0_ r1 ∧ Kd.V k85 85 w' w.heap.size (fun k_ => (w.heap.size ≤ k_) ∧ some k_ ≠ (v0_ : Value).ownBlock) v1_ r2 ∧ IsS114 w0 w' g s0_0 r3 r4 ∧ Below w0.heap.size w0 w' ∧ KeepBut w w' g none := by
 have HI0 := Aside0.mk hI
 have HK := Aside0.mk (KeepBut.refl w g none)
 have HL := Aside0.mk hB.size
 clear hI
 have HW0 := Aside0.mk hB.size
 have HB := Aside0.mk hB
 clear hB
 have H : ((spec_l8Draw.f k s0_0 s0_1 s0_2).bind fun bt593 => (if (bt593.2.1.length : Int) = 0 then (some (bt593.1, bt593.2.1, bt593.2.2.1, bt593.2.2.2)) else ((spec_l1Below.f s0_0 bt593.2.2.1 bt593.2.2.2 (bt593.2.1.length : Int)).bind fun bt601 => ((spec_l1Below.f s0_0 bt601.2.1 bt601.2.2 10).bind fun bt604 => (if bt604.1 = 0 then ((spec_l1Int.f s0_0 bt604.2.1 bt604.2.2 (([4, 60, 61, 9223372036854775807] : List Int))).bind fun bt610 => (if 0 ≤ bt601.1 then (if bt601.1 < (bt593.2.1.length : Int) then (some (bt593.1, (bt593.2.1.set (bt601.1 : Int).toNat (⟨(rd_T85 bt593.2.1 bt601.1).f0, bt610.1⟩ : S85)), bt610.2.1, bt610.2.2)) else (none)) else (none))) else (if bt604.1 = 1 then (if 0 ≤ bt601.1 then (if bt601.1 < (bt593.2.1.length : Int) then (if 1 ≤ (((rd_T85 bt593.2.1 bt601.1).f0).length : Int) then (some (bt593.1, (bt593.2.1.set (bt601.1 : Int).toNat (⟨(((rd_T85 bt593.2.1 bt601.1).f0).drop 1), (rd_T85 bt593.2.1 bt601.1).f1⟩ : S85)), bt604.2.1, bt604.2.2)) else (none)) else (none)) else (none)) else (if bt604.1 = 2 then ((spec_l5Any.f k s0_0 bt604.2.1 bt604.2.2).bind fun bt621 => (some (bt621.1, bt593.2.1, bt621.2.1, bt621.2.2))) else (if bt604.1 = 3 then (if 1 ≤ (bt593.2.1.length : Int) then (some (bt593.1, (bt593.2.1.drop 1), bt604.2.1, bt604.2.2)) else (none)) else (some (bt593.1, bt593.2.1, bt604.2.1, bt604.2.2)))))))))) = some (r1, r2, r3, r4) := h
 clear h
 replace H := S.bd H; obtain ⟨⟨t593, t596, t599, t600⟩, A2, H⟩ := H
 (try dsimp only at H)
 by_cases c3 : (t596.length : Int) = 0
 ·rw [if_pos c3] at H
  have c3b0 : ((t596.length : Int) == 0) = true := beq_iff_eq.mpr c3
  have c3b1 : ((t596.length : Int) != 0) = false := bne_eq_false_iff_eq.mpr c3
  clear c3
  simp only [Option.some.injEq, Prod.mk.injEq] at H
  obtain ⟨rfl, rfl, rfl, rfl⟩ := H
  go_enter Try.func128, Try.ntmps128
  go_wp2_with (first | ((with_reducible refine gate_callee (f := 142) rfl ?_); refine S.gL (some 9) Try.func142 #[.pointer (some ⟨g, 0, none⟩)] ?_; (with_reducible refine (spec_l8Draw.calls k g s0_0 s0_1 s0_2 t593 t596 t599 t600 w0 _ ?s1 ?s2 A2.out).mono ?_); (case s1 => exact S.iI); (case s2 => exact S.bI); rintro e w4 ⟨v594, v597, rfl, ho0, ho1, hi, hb, hk⟩; refine ⟨_, rfl, ?_⟩; have HO595 := Aside0.mk (Kd.R_lower (Kd.R_newM (M := fun k_ => (w.heap.size ≤ k_)) (Kd.R_mono (ok' := fun k_ => True) ho0 (fun _ hk_ => trivial)) (keep_size (w := w) (g := g) (row := none) S.kA) (fun k_ h_ => h_)) (keep_size (w := w) (g := g) (row := none) S.kA)); have HO598 := Aside0.mk (Kd.N_lower (Kd.N_mono (ok' := fun k_ => (w.heap.size ≤ k_) ∧ S.N k_ v594 ∧ k_ ≠ g) ho1 (fun k_ hk_ => ⟨(Nat.le_trans (keep_size (w := w) (g := g) (row := none) S.kA) hk_.1), hk_.2, (IsS114.fresh (S.iI) k_ hk_.1)⟩)) (keep_size (w := w) (g := g) (row := none) S.kA)); replace HK := Aside0.mk (KeepBut.trans S.kA hk (.inl rfl)); replace HB := Aside0.mk (hb); replace HI0 := Aside0.mk (hi); (try clear hb); (try clear hk); (try clear hi); (try clear ho0); (try clear ho1); obtain ⟨Ao5, co5, eo5⟩ := Kd.N_slice HO598.out; subst eo5))
  go_ret2
  exact ⟨_, _, S.eW, by (with_reducible repeat (first | apply Kd.R_alloc | apply Kd.R_drewN | apply Kd.R_drew)); exact Kd.R_mono HO595.out (fun _ hk => hk.1), Kd.N_V (by (with_reducible repeat (first | apply Kd.N_alloc | apply Kd.N_drewN | apply Kd.N_drew)); exact Kd.N_mono HO598.out (fun _ hk => ⟨hk.1, hk.2.1⟩)), S.iI, S.bI, S.kA⟩
 ·rw [if_neg c3] at H
  have c3b0 : ((t596.length : Int) == 0) = false := beq_eq_false_iff_ne.mpr c3
  have c3b1 : ((t596.length : Int) != 0) = true := bne_iff_ne.mpr c3
  have c3b2 : ¬ (t596 = []) := fun h_ => c3 (by rw [h_]; rfl)
  replace H := S.bd H; obtain ⟨⟨t601, t602, t603⟩, A6, H⟩ := H
  (try dsimp only at H)
  replace H := S.bd H; obtain ⟨⟨t604, t605, t606⟩, A7, H⟩ := H
  (try dsimp only at H)
  by_cases c8 : t604 = 0
  ·rw [if_pos c8] at H
   have c8b0 : (t604 == 0) = true := beq_iff_eq.mpr c8
   have c8b1 : (t604 != 0) = false := bne_eq_false_iff_eq.mpr c8
   clear c8
   obtain ⟨y607, hy607⟩ : ∃ y_ : List Int, y_ = (([4, 60, 61, 9223372036854775807] : List Int)) := ⟨_, rfl⟩
   have hY_ := hy607; replace H : ((spec_l1Int.f s0_0 t605 t606 y607).bind fun bt610 => (if 0 ≤ t601 then (if t601 < (t596.length : Int) then (some (t593, (t596.set (t601 : Int).toNat (⟨(rd_T85 t596 t601).f0, bt610.1⟩ : S85)), bt610.2.1, bt610.2.2)) else (none)) else (none))) = some (r1, r2, r3, r4) := S.rh; clear hY_
   have Ny607 := Aside0.mk hy607
   clear hy607
   replace H := S.bd H; obtain ⟨⟨t610, t611, t612⟩, A9, H⟩ := H
   (try dsimp only at H)
   by_cases c10 : 0 ≤ t601
   ·rw [if_pos c10] at H
    have c10b0 : decide (0 ≤ t601) = true := decide_eq_true c10
    clear c10
    by_cases c11 : t601 < (t596.length : Int)
    ·rw [if_pos c11] at H
     have c11b0 : decide (t601 < (t596.length : Int)) = true := decide_eq_true c11
     clear c11
     obtain ⟨y613, hy613⟩ : ∃ y_ : List (S85), y_ = (t596.set (t601 : Int).toNat (⟨(rd_T85 t596 t601).f0, t610⟩ : S85)) := ⟨_, rfl⟩
     have hY_ := hy613; replace H : (some (t593, y613, t611, t612)) = some (r1, r2, r3, r4) := S.rh; clear hY_
     have Ny613 := Aside0.mk hy613
     clear hy613
     simp only [Option.some.injEq, Prod.mk.injEq] at H
     obtain ⟨rfl, rfl, rfl, rfl⟩ := H
     go_enter Try.func128, Try.ntmps128
     go_wp2_with (first | ((with_reducible refine gate_callee (f := 142) rfl ?_); refine S.gL (some 9) Try.func142 #[.pointer (some ⟨g, 0, none⟩)] ?_; (with_reducible refine (spec_l8Draw.calls k g s0_0 s0_1 s0_2 t593 t596 t599 t600 w0 _ ?s1 ?s2 A2.out).mono ?_); (case s1 => exact S.iI); (case s2 => exact S.bI); rintro e w13 ⟨v594, v597, rfl, ho0, ho1, hi, hb, hk⟩; refine ⟨_, rfl, ?_⟩; have HO595 := Aside0.mk (Kd.R_lower (Kd.R_newM (M := fun k_ => (w.heap.size ≤ k_)) (Kd.R_mono (ok' := fun k_ => True) ho0 (fun _ hk_ => trivial)) (keep_size (w := w) (g := g) (row := none) S.kA) (fun k_ h_ => h_)) (keep_size (w := w) (g := g) (row := none) S.kA)); have HO598 := Aside0.mk (Kd.N_lower (Kd.N_mono (ok' := fun k_ => (w.heap.size ≤ k_) ∧ S.N k_ v594 ∧ k_ ≠ g) ho1 (fun k_ hk_ => ⟨(Nat.le_trans (keep_size (w := w) (g := g) (row := none) S.kA) hk_.1), hk_.2, (IsS114.fresh (S.iI) k_ hk_.1)⟩)) (keep_size (w := w) (g := g) (row := none) S.kA)); replace HK := Aside0.mk (KeepBut.trans S.kA hk (.inl rfl)); replace HB := Aside0.mk (hb); replace HI0 := Aside0.mk (hi); (try clear hb); (try clear hk); (try clear hi); (try clear ho0); (try clear ho1); obtain ⟨Ao14, co14, eo14⟩ := Kd.N_slice HO598.out; subst eo14) | ((with_reducible refine gate_callee (f := 90) rfl ?_); refine S.gL (some 20) Try.func90 #[.pointer (some ⟨g, 0, none⟩), .int .i64 (t596.length : Int)] ?_; (with_reducible refine (spec_l1Below.calls g s0_0 t599 t600 (t596.length : Int) t601 t602 t603 w0 _ ?s1 ?s2 A6.out).mono ?_); (case s1 => exact S.iI); (case s2 => exact S.bI); rintro e w15 ⟨rfl, hi, hb, hk⟩; refine ⟨_, rfl, ?_⟩; replace HO595 := Aside0.mk (Kd.R_mono (Kd.R_keep (IsS114.apart (show IsS114 w0 _ g s0_0 t599 t600 from S.iI) (S.uR HO595.out) (by decide)) hk (fun _ h => h.2)) (fun _ h => h.1)); replace HO598 := Aside0.mk (Kd.N_mono (Kd.N_keep (Kd.N_mono (ok := fun k_ => (((w.heap.size ≤ k_)) ∧ (S.N k_ v594 ∧ k_ ≠ g))) (by (with_reducible repeat (first | apply Kd.N_alloc | apply Kd.N_drewN | apply Kd.N_drew)); exact HO598.out) (fun k_ hk_ => (⟨hk_, hk_.2.2⟩ : _ ∧ k_ ≠ g))) hk (fun _ h => h.2)) (fun _ h => h.1)); replace HK := Aside0.mk (KeepBut.trans S.kA hk (.inl rfl)); replace HB := Aside0.mk (hb); replace HI0 := Aside0.mk (hi); (try clear hb); (try clear hk); (try clear hi)) | ((with_reducible refine gate_callee (f := 90) rfl ?_); refine S.gL (some 22) Try.func90 #[.pointer (some ⟨g, 0, none⟩), .int .i64 10] ?_; (with_reducible refine (spec_l1Below.calls g s0_0 t602 t603 10 t604 t605 t606 w0 _ ?s1 ?s2 A7.out).mono ?_); (case s1 => exact S.iI); (case s2 => exact S.bI); rintro e w16 ⟨rfl, hi, hb, hk⟩; refine ⟨_, rfl, ?_⟩; replace HO595 := Aside0.mk (Kd.R_mono (Kd.R_keep (IsS114.apart (show IsS114 w0 _ g s0_0 t602 t603 from S.iI) (S.uR HO595.out) (by decide)) hk (fun _ h => h.2)) (fun _ h => h.1)); replace HO598 := Aside0.mk (Kd.N_mono (Kd.N_keep (Kd.N_mono (ok := fun k_ => (((w.heap.size ≤ k_)) ∧ (S.N k_ v594 ∧ k_ ≠ g))) (by (with_reducible repeat (first | apply Kd.N_alloc | apply Kd.N_drewN | apply Kd.N_drew)); exact HO598.out) (fun k_ hk_ => (⟨hk_, hk_.2.2⟩ : _ ∧ k_ ≠ g))) hk (fun _ h => h.2)) (fun _ h => h.1)); replace HK := Aside0.mk (KeepBut.trans S.kA hk (.inl rfl)); replace HB := Aside0.mk (hb); replace HI0 := Aside0.mk (hi); (try clear hb); (try clear hk); (try clear hi)) | ((with_reducible refine gate_dst (N := 28) rfl ?_); refine Kd.R_lit (Kd.int .i64) _ 3 ?hg (N := 28) ?hd (xs := ([4, 60, 61, 9223372036854775807] : List Int)) (inner := [.int .i64 4, .int .i64 60, .int .i64 61, .int .i64 9223372036854775807]) (ok := fun _ => True) (okp := fun _ => True) ?hr ?hp (fun _ hk => hk) trivial (Below.refl _ _) (Nat.le_refl _) (by simp) ?_; (case hd => rfl); (case hg => rfl); (case hr => first | (go_simp; done) | (go_simp; rfl)); (case hp => exact (Reps.one (show Kd.M (Kd.int .i64) _ _ _ 4 [.int .i64 4] from rfl) (Reps.one (show Kd.M (Kd.int .i64) _ _ _ 60 [.int .i64 60] from rfl) (Reps.one (show Kd.M (Kd.int .i64) _ _ _ 61 [.int .i64 61] from rfl) (Reps.one (show Kd.M (Kd.int .i64) _ _ _ 9223372036854775807 [.int .i64 9223372036854775807] from rfl) (Reps.none _ _)))))); intro v608 w17 ho18 hb hg_ hnew_; clear hg_ hnew_; (first | rw [← Ny607.out] at ho18 | (simp only [Int.reduceToNat] at ho18; rw [← Ny607.out] at ho18)); replace HO595 := S.rb HO595 hb; replace HO598 := Aside0.mk (Kd.N_elder' (by (with_reducible repeat (first | apply Kd.N_alloc | apply Kd.N_drewN | apply Kd.N_drew)); exact HO598.out) (Kd.R_base ho18) hb); have HO609 := Aside0.mk (Kd.R_lower (Kd.R_newM (M := fun k_ => (w.heap.size ≤ k_)) ho18 (keep_size (w := w) (g := g) (row := none) S.kA) (fun k_ h_ => h_)) (keep_size (w := w) (g := g) (row := none) S.kA)); replace HK := Aside0.mk (KeepBut.trans S.kA (KeepBut.of_below hb g none) (.inl rfl)); replace HB := Aside0.mk (below_step (S.bI) hb); replace HI0 := Aside0.mk (IsS114.below (S.iI) hb); clear hb ho18; obtain ⟨Ao19, co19, eo19⟩ := Kd.R_slice HO609.out; subst eo19) | ((with_reducible refine gate_callee (f := 79) rfl ?_); refine S.gL (some 29) Try.func79 #[.pointer (some ⟨g, 0, none⟩), .slice Ao19 y607.length co19] ?_; (with_reducible refine (spec_l1Int.calls g s0_0 t605 t606 _ _ y607 t610 t611 t612 w0 _ ?s1 ?s2 ?s3 (S.rl HO609) ?s5 A9.out).mono ?_); (case s1 => exact S.iI); (case s2 => exact S.bI); (case s3 => exact S.rd HO609); (case s5 => exact far_slice (IsS114.own_ne HI0.out HO609.out (by decide))); rintro e w20 ⟨rfl, hi, hb, hk⟩; refine ⟨_, rfl, ?_⟩; replace HO595 := Aside0.mk (Kd.R_mono (Kd.R_keep (IsS114.apart (show IsS114 w0 _ g s0_0 t605 t606 from S.iI) (S.uR HO595.out) (by decide)) hk (fun _ h => h.2)) (fun _ h => h.1)); replace HO598 := Aside0.mk (Kd.N_mono (Kd.N_keep (Kd.N_mono (ok := fun k_ => ((((w.heap.size ≤ k_)) ∧ (S.N k_ v594 ∧ k_ ≠ g)) ∧ S.N k_ (.slice Ao19 y607.length co19))) (by (with_reducible repeat (first | apply Kd.N_alloc | apply Kd.N_drewN | apply Kd.N_drew)); exact HO598.out) (fun k_ hk_ => (⟨hk_, hk_.1.2.2⟩ : _ ∧ k_ ≠ g))) hk (fun _ h => h.2)) (fun _ h => h.1)); replace HO609 := Aside0.mk (Kd.R_mono (Kd.R_keep (IsS114.apart (show IsS114 w0 _ g s0_0 t605 t606 from S.iI) (S.uR HO609.out) (by decide)) hk (fun _ h => h.2)) (fun _ h => h.1)); replace HK := Aside0.mk (KeepBut.trans S.kA hk (.inl rfl)); replace HB := Aside0.mk (hb); replace HI0 := Aside0.mk (hi); (try clear hb); (try clear hk); (try clear hi); have p12 : 0 ≤ (t601 : Int) := S.oD; have q12 : (t601 : Int) < ((t596.length : Int) : Int) := S.oD; obtain ⟨go12, co12, eo12, gb12, gl12, cl12, HG12⟩ := Kd.N_form HO598.out (by omega); (first | cases eo12 | (injection eo12 with ea_ en_ ec_; (first | subst ea_ | (injection ea_ with ea_; subst ea_)); subst ec_; clear en_)); have GB12 := Aside0.mk gb12; have GG12 := Aside0.mk HG12; clear gb12 gl12 HG12; obtain ⟨ce12, hcl12, hM12, hcc12, hfr12⟩ := Kd.N_elem HO598.out z85 (t601 : Int) p12 q12; obtain ⟨ua12_0, uc12_0, rfl, ul12_0, ge12_0⟩ := k85_openF hM12; have hx12_0 : w20.cell? ⟨go12, (t601 : Int).toNat * 2, none⟩ = some (.slice ua12_0 ((rd_T85 t596 t601).f0).length uc12_0) := hcc12 0 _ rfl; have hx12_1 : w20.cell? ⟨go12, (t601 : Int).toNat * 2 + 1, none⟩ = some (.int .i64 ((rd_T85 t596 t601).f1)) := hcc12 1 _ rfl; have hf12_0 : w20.frozen? ⟨go12, (t601 : Int).toNat * 2, none⟩ = false := hfr12 0; have hf12_1 : w20.frozen? ⟨go12, (t601 : Int).toNat * 2 + 1, none⟩ = false := hfr12 1; clear hcl12 hcc12 hfr12 hM12; replace p12 := eq_true p12; replace q12 := eq_true q12; have n_ := Aside0.mk (Kd.N_mono (ok' := (fun k_ => (w.heap.size ≤ k_) ∧ S.N k_ v594 ∧ S.N k_ (.slice Ao19 y607.length co19))) HO598.out (fun k_ hk => ⟨hk.1.1, ⟨hk.1.2.1, hk.2⟩⟩)); clear HO598; have HO598 := n_; clear n_; have HX21 := Aside0.mk (show Kd.N k85 85 w20 w.heap.size (fun k_ => (w.heap.size ≤ k_) ∧ S.N k_ v594 ∧ S.N k_ (.slice Ao19 y607.length co19)) (.slice (some ⟨go12, 0, none⟩) t596.length co14) t596 from (by (with_reducible repeat (first | apply Kd.N_alloc | apply Kd.N_drewN | apply Kd.N_drew)); exact HO598.out)); obtain ⟨ce21, hcl21, hM21, hcc21, hfr21⟩ := Kd.N_elem HX21.out z85 (t601 : Int) (S.oD) (by have h_ : (t601 : Int) < ((t596.length : Int) : Int) := S.oD; first | exact h_ | (have e_ := (Kd.N_reads' HO598.out).1; omega) | simpa using h_); obtain ⟨ua21_0, uc21_0, rfl, ul21_0, ge21_0⟩ := k85_openF hM21; have HP21 := Kd.N_seg HX21.out (t601 : Int) (S.oD) (by have h_ : (t601 : Int) < ((t596.length : Int) : Int) := S.oD; first | exact h_ | (have e_ := (Kd.N_reads' HO598.out).1; omega) | simpa using h_) (seg := [.int .i64 t610]) (j := 1) hcl21 hcc21 (show 2 ≤ 2 from by decide) (x' := (⟨(rd_T85 t596 t601).f0, t610⟩ : S85)) (k85_mkF _ _ (⟨(rd_T85 t596 t601).f0, t610⟩ : S85) ul21_0 ge21_0) (fun _ hk => hk); have hx21_1 := hcc21 1 _ rfl; (try simp only [show (k85).sz = 2 from rfl, Nat.mul_one, Nat.add_zero] at hx21_1); have hf21_1 := hfr21 1; (try simp only [show (k85).sz = 2 from rfl, Nat.mul_one, Nat.add_zero] at hf21_1); clear hcl21 hcc21 hfr21 hM21) | ((with_reducible refine gate_store (t := 3) (p := 31) rfl ?_); refine store_event (t := 3) (p := 31) (v := ?vo_w22) (w1 := (w20.setCell ⟨go12, (t601 : Int).toNat * 2 + 1, none⟩ (.int .i64 t610))) ?hg ?ho ?hn ?hr ?_; (case ho => rfl); (case hg => rfl); (case hn => rfl); (case hr => first | (go_simp; done) | (go_simp; rfl)); intro w22 hw; have hg : w20.grownBy w22 (some go12) := (by rw [hw]; exact HP21.2); have hp_ : Kd.N k85 85 w22 w.heap.size (fun k_ => (w.heap.size ≤ k_) ∧ S.N k_ v594 ∧ S.N k_ (.slice Ao19 y607.length co19)) (.slice (some ⟨go12, 0, none⟩) t596.length co14) y613 := (by rw [hw, Ny613.out]; exact HP21.1); clear HP21; replace HI0 := Aside0.mk (IsS114.grown (S.iI) hg (IsS114.own_neN HI0.out HO598.out (by decide))); replace HO595 := Aside0.mk (Kd.R_over' (v := (.slice (some ⟨go12, 0, none⟩) t596.length co14)) (S.uR HO595.out) (Kd.N_typed HO598.out) (by decide) hg); replace HO609 := Aside0.mk (Kd.R_over' (v := (.slice (some ⟨go12, 0, none⟩) t596.length co14)) (S.uR HO609.out) (Kd.N_typed HO598.out) (by decide) hg); replace HB := Aside0.mk ((by rw [hw]; exact below_set (HB.out) (Nat.le_trans HL.out GB12.out) : Below w0.heap.size w0 w22)); replace HK := Aside0.mk (KeepBut.trans S.kA (KeepBut.of_grown hg g) (Kd.N_base2 HO598.out)); replace HO598 := Aside0.mk (hp_); clear hg hw hp_))
     go_ret2
     exact ⟨_, _, S.eW, by (with_reducible repeat (first | apply Kd.R_alloc | apply Kd.R_drewN | apply Kd.R_drew)); exact Kd.R_mono HO595.out (fun _ hk => hk.1), Kd.N_V (by (with_reducible repeat (first | apply Kd.N_alloc | apply Kd.N_drewN | apply Kd.N_drew)); exact Kd.N_mono HO598.out (fun _ hk => ⟨hk.1, hk.2.1⟩)), S.iI, S.bI, S.kA⟩
    ·rw [if_neg c11] at H
     exact absurd H (by simp)
   ·rw [if_neg c10] at H
    exact absurd H (by simp)
  ·rw [if_neg c8] at H
   have c8b0 : (t604 == 0) = false := beq_eq_false_iff_ne.mpr c8
   have c8b1 : (t604 != 0) = true := bne_iff_ne.mpr c8
   by_cases c23 : t604 = 1
   ·rw [if_pos c23] at H
    have c23b0 : (t604 == 1) = true := beq_iff_eq.mpr c23
    have c23b1 : (t604 != 1) = false := bne_eq_false_iff_eq.mpr c23
    clear c23
    by_cases c24 : 0 ≤ t601
    ·rw [if_pos c24] at H
     have c24b0 : decide (0 ≤ t601) = true := decide_eq_true c24
     clear c24
     by_cases c25 : t601 < (t596.length : Int)
     ·rw [if_pos c25] at H
      have c25b0 : decide (t601 < (t596.length : Int)) = true := decide_eq_true c25
      clear c25
      by_cases c26 : 1 ≤ (((rd_T85 t596 t601).f0).length : Int)
      ·rw [if_pos c26] at H
       have c26b0 := eq_true c26
       have c26b1 : decide (1 ≤ (((rd_T85 t596 t601).f0).length : Int)) = true := decide_eq_true c26
       clear c26
       obtain ⟨y615, hy615⟩ : ∃ y_ : List Int, y_ = (((rd_T85 t596 t601).f0).drop 1) := ⟨_, rfl⟩
       have hY_ := hy615; replace H : (some (t593, (t596.set (t601 : Int).toNat (⟨y615, (rd_T85 t596 t601).f1⟩ : S85)), t605, t606)) = some (r1, r2, r3, r4) := S.rh; clear hY_
       have Ny615 := Aside0.mk hy615
       clear hy615
       obtain ⟨y620, hy620⟩ : ∃ y_ : List (S85), y_ = (t596.set (t601 : Int).toNat (⟨y615, (rd_T85 t596 t601).f1⟩ : S85)) := ⟨_, rfl⟩
       have hY_ := hy620; replace H : (some (t593, y620, t605, t606)) = some (r1, r2, r3, r4) := S.rh; clear hY_
       have Ny620 := Aside0.mk hy620
       clear hy620
       simp only [Option.some.injEq, Prod.mk.injEq] at H
       obtain ⟨rfl, rfl, rfl, rfl⟩ := H
       go_enter Try.func128, Try.ntmps128
       go_wp2_with (first | ((with_reducible refine gate_callee (f := 142) rfl ?_); refine S.gL (some 9) Try.func142 #[.pointer (some ⟨g, 0, none⟩)] ?_; (with_reducible refine (spec_l8Draw.calls k g s0_0 s0_1 s0_2 t593 t596 t599 t600 w0 _ ?s1 ?s2 A2.out).mono ?_); (case s1 => exact S.iI); (case s2 => exact S.bI); rintro e w28 ⟨v594, v597, rfl, ho0, ho1, hi, hb, hk⟩; refine ⟨_, rfl, ?_⟩; have HO595 := Aside0.mk (Kd.R_lower (Kd.R_newM (M := fun k_ => (w.heap.size ≤ k_)) (Kd.R_mono (ok' := fun k_ => True) ho0 (fun _ hk_ => trivial)) (keep_size (w := w) (g := g) (row := none) S.kA) (fun k_ h_ => h_)) (keep_size (w := w) (g := g) (row := none) S.kA)); have HO598 := Aside0.mk (Kd.N_lower (Kd.N_mono (ok' := fun k_ => (w.heap.size ≤ k_) ∧ S.N k_ v594 ∧ k_ ≠ g) ho1 (fun k_ hk_ => ⟨(Nat.le_trans (keep_size (w := w) (g := g) (row := none) S.kA) hk_.1), hk_.2, (IsS114.fresh (S.iI) k_ hk_.1)⟩)) (keep_size (w := w) (g := g) (row := none) S.kA)); replace HK := Aside0.mk (KeepBut.trans S.kA hk (.inl rfl)); replace HB := Aside0.mk (hb); replace HI0 := Aside0.mk (hi); (try clear hb); (try clear hk); (try clear hi); (try clear ho0); (try clear ho1); obtain ⟨Ao29, co29, eo29⟩ := Kd.N_slice HO598.out; subst eo29) | ((with_reducible refine gate_callee (f := 90) rfl ?_); refine S.gL (some 20) Try.func90 #[.pointer (some ⟨g, 0, none⟩), .int .i64 (t596.length : Int)] ?_; (with_reducible refine (spec_l1Below.calls g s0_0 t599 t600 (t596.length : Int) t601 t602 t603 w0 _ ?s1 ?s2 A6.out).mono ?_); (case s1 => exact S.iI); (case s2 => exact S.bI); rintro e w30 ⟨rfl, hi, hb, hk⟩; refine ⟨_, rfl, ?_⟩; replace HO595 := Aside0.mk (Kd.R_mono (Kd.R_keep (IsS114.apart (show IsS114 w0 _ g s0_0 t599 t600 from S.iI) (S.uR HO595.out) (by decide)) hk (fun _ h => h.2)) (fun _ h => h.1)); replace HO598 := Aside0.mk (Kd.N_mono (Kd.N_keep (Kd.N_mono (ok := fun k_ => (((w.heap.size ≤ k_)) ∧ (S.N k_ v594 ∧ k_ ≠ g))) (by (with_reducible repeat (first | apply Kd.N_alloc | apply Kd.N_drewN | apply Kd.N_drew)); exact HO598.out) (fun k_ hk_ => (⟨hk_, hk_.2.2⟩ : _ ∧ k_ ≠ g))) hk (fun _ h => h.2)) (fun _ h => h.1)); replace HK := Aside0.mk (KeepBut.trans S.kA hk (.inl rfl)); replace HB := Aside0.mk (hb); replace HI0 := Aside0.mk (hi); (try clear hb); (try clear hk); (try clear hi)) | ((with_reducible refine gate_callee (f := 90) rfl ?_); refine S.gL (some 22) Try.func90 #[.pointer (some ⟨g, 0, none⟩), .int .i64 10] ?_; (with_reducible refine (spec_l1Below.calls g s0_0 t602 t603 10 t604 t605 t606 w0 _ ?s1 ?s2 A7.out).mono ?_); (case s1 => exact S.iI); (case s2 => exact S.bI); rintro e w31 ⟨rfl, hi, hb, hk⟩; refine ⟨_, rfl, ?_⟩; replace HO595 := Aside0.mk (Kd.R_mono (Kd.R_keep (IsS114.apart (show IsS114 w0 _ g s0_0 t602 t603 from S.iI) (S.uR HO595.out) (by decide)) hk (fun _ h => h.2)) (fun _ h => h.1)); replace HO598 := Aside0.mk (Kd.N_mono (Kd.N_keep (Kd.N_mono (ok := fun k_ => (((w.heap.size ≤ k_)) ∧ (S.N k_ v594 ∧ k_ ≠ g))) (by (with_reducible repeat (first | apply Kd.N_alloc | apply Kd.N_drewN | apply Kd.N_drew)); exact HO598.out) (fun k_ hk_ => (⟨hk_, hk_.2.2⟩ : _ ∧ k_ ≠ g))) hk (fun _ h => h.2)) (fun _ h => h.1)); replace HK := Aside0.mk (KeepBut.trans S.kA hk (.inl rfl)); replace HB := Aside0.mk (hb); replace HI0 := Aside0.mk (hi); (try clear hb); (try clear hk); (try clear hi); have p614 : 0 ≤ (t601 : Int) := S.oD; have q614 : t601 < (t596.length : Int) := S.oD; obtain ⟨ad614, A614_0, c614_0, e614, hx614_0, hx614_1, hl614_0, hi614_0⟩ := at_T85 (Kd.N_reads' HO598.out).2.2 t601 p614 q614; cases e614; obtain ⟨ce614, hce614, hMe614, hcc614⟩ := Kd.N_get HO598.out z85 t601 p614 (by first | exact q614 | exact S.oD | (have e_ := (Kd.N_reads' HO598.out).1; omega)); obtain ⟨ua614_0, uc614_0, rfl, ul614_0, ge614_0⟩ := k85_openF hMe614; have hv614_0 := hcc614 0 _ rfl; rw [Nat.add_zero] at hv614_0; replace hv614_0 := Option.some.inj (hv614_0.symm.trans hx614_0); injection hv614_0 with hva_ hvn_ hvc_; rw [hva_] at ge614_0; rw [hvc_] at ul614_0; have HL614_0 := Aside0.mk (show Kd.V (Kd.int .i64) 3 _ w.heap.size _ _ ((rd_T85 t596 t601).f0) from Kd.V_mk ul614_0 ge614_0); clear hva_ hvn_ hvc_ ge614_0 ul614_0; clear hcc614 hce614; have HR614_0 := Aside0.mk hi614_0; have HC614_0 := Aside0.mk hl614_0; clear hi614_0 hl614_0; replace p614 := eq_true p614; replace q614 := eq_true q614; have q32 : (1 : Int) ≤ ((((rd_T85 t596 t601).f0).length : Int) : Int) := S.oD; obtain ⟨i032, hi032, _, hsz32, _⟩ := info_parts info3; have hroom32 : ((rd_T85 t596 t601).f0).length ≤ c614_0 := HC614_0.out; have hC32 : Kd.F (Kd.int .i64) _ _ A614_0 ((rd_T85 t596 t601).f0).length ((rd_T85 t596 t601).f0) := (Kd.V_at (base := w.heap.size) HL614_0.out).2.2; have hcut32 := cut_from (P := Try.prog) 36 3 .i64 Try.underlying36 hi032 1 hsz32 A614_0 ((rd_T85 t596 t601).f0).length c614_0 1 (by omega) q32; have hr32 := Kd.F_cut (m := (1 : Int).toNat) (c := c614_0) hC32 (by omega) hroom32; obtain ⟨A32, hA32⟩ : ∃ A1, A1 = (if c614_0 = (1 : Int).toNat then A614_0 else (A614_0 : Option Addr).map (·.add ((1 : Int).toNat * 1))) := ⟨_, rfl⟩; obtain ⟨c32, hc32⟩ : ∃ c1, c1 = c614_0 - (1 : Int).toNat := ⟨_, rfl⟩; have hy32 : y615.length = ((rd_T85 t596 t601).f0).length - (1 : Int).toNat := (by rw [Ny615.out, List.length_drop] <;> omega); rw [show ((rd_T85 t596 t601).f0).drop (1 : Int).toNat = y615 from Ny615.out.symm] at hr32; replace hr32 : Kd.F (Kd.int .i64) _ _ A32 y615.length y615 := (by rw [hA32]; exact hr32); rw [← hy32, ← hA32, ← hc32] at hcut32; have HO619 := Aside0.mk (show Kd.V (Kd.int .i64) 3 _ w.heap.size _ (.slice A32 y615.length c32) y615 from Kd.V_mk (by rw [hy32, hc32]; exact Nat.sub_le_sub_right hroom32 _) hr32); have HC619 := Aside0.mk (show y615.length ≤ c32 from by rw [hy32, hc32]; exact Nat.sub_le_sub_right hroom32 _); clear hr32 hC32 hroom32 hi032 hsz32 hc32; have KY32 := Aside0.mk hy32; have KA32 := Aside0.mk hA32; clear hy32 hA32; replace q32 := eq_true q32; have p27 : 0 ≤ (t601 : Int) := S.oD; have q27 : (t601 : Int) < ((t596.length : Int) : Int) := S.oD; obtain ⟨go27, co27, eo27, gb27, gl27, cl27, HG27⟩ := Kd.N_form HO598.out (by omega); (first | cases eo27 | (injection eo27 with ea_ en_ ec_; (first | subst ea_ | (injection ea_ with ea_; subst ea_)); subst ec_; clear en_)); have GB27 := Aside0.mk gb27; have GG27 := Aside0.mk HG27; clear gb27 gl27 HG27; (first | simp only [add_plain] at hx614_0 | skip); (first | simp only [add_plain] at hx614_1 | skip); obtain ⟨ce27, hcl27, hM27, hcc27, hfr27⟩ := Kd.N_elem HO598.out z85 (t601 : Int) p27 q27; obtain ⟨ua27_0, uc27_0, rfl, ul27_0, ge27_0⟩ := k85_openF hM27; have hx27_0 : w31.cell? ⟨go27, (t601 : Int).toNat * 2, none⟩ = some (.slice ua27_0 ((rd_T85 t596 t601).f0).length uc27_0) := hcc27 0 _ rfl; have hx27_1 : w31.cell? ⟨go27, (t601 : Int).toNat * 2 + 1, none⟩ = some (.int .i64 ((rd_T85 t596 t601).f1)) := hcc27 1 _ rfl; have hf27_0 : w31.frozen? ⟨go27, (t601 : Int).toNat * 2, none⟩ = false := hfr27 0; have hf27_1 : w31.frozen? ⟨go27, (t601 : Int).toNat * 2 + 1, none⟩ = false := hfr27 1; clear hcl27 hcc27 hfr27 hM27; replace p27 := eq_true p27; replace q27 := eq_true q27; have HX33 := Aside0.mk (show Kd.N k85 85 w31 w.heap.size (fun k_ => (w.heap.size ≤ k_) ∧ S.N k_ v594 ∧ k_ ≠ g) (.slice (some ⟨go27, 0, none⟩) t596.length co29) t596 from (by (with_reducible repeat (first | apply Kd.N_alloc | apply Kd.N_drewN | apply Kd.N_drew)); exact HO598.out)); obtain ⟨ce33, hcl33, hM33, hcc33, hfr33⟩ := Kd.N_elem HX33.out z85 (t601 : Int) (S.oD) (by have h_ : (t601 : Int) < ((t596.length : Int) : Int) := S.oD; first | exact h_ | (have e_ := (Kd.N_reads' HO598.out).1; omega) | simpa using h_); obtain ⟨ua33_0, uc33_0, rfl, ul33_0, ge33_0⟩ := k85_openF hM33; have HP33 := Kd.N_seg HX33.out (t601 : Int) (S.oD) (by have h_ : (t601 : Int) < ((t596.length : Int) : Int) := S.oD; first | exact h_ | (have e_ := (Kd.N_reads' HO598.out).1; omega) | simpa using h_) (seg := [.slice A32 y615.length c32]) (j := 0) hcl33 hcc33 (show 1 ≤ 2 from by decide) (x' := (⟨y615, (rd_T85 t596 t601).f1⟩ : S85)) (k85_mkF _ _ (⟨y615, (rd_T85 t596 t601).f1⟩ : S85) (Kd.V_reads' (Kd.V_mono (ok' := (fun k_ => ((fun k_ => (w.heap.size ≤ k_) ∧ S.N k_ v594 ∧ k_ ≠ g)) k_ ∧ k_ ≠ go27)) (HO619.out) (fun k_ hk => ⟨⟨hk.1.1, ⟨hk.1.2.1, hk.1.2.2⟩⟩, fun e_ => (hk.2) (by rw [e_]; rfl)⟩))).2.1 (Kd.V_F (Kd.V_mono (ok' := (fun k_ => ((fun k_ => (w.heap.size ≤ k_) ∧ S.N k_ v594 ∧ k_ ≠ g)) k_ ∧ k_ ≠ go27)) (HO619.out) (fun k_ hk => ⟨⟨hk.1.1, ⟨hk.1.2.1, hk.1.2.2⟩⟩, fun e_ => (hk.2) (by rw [e_]; rfl)⟩)))) (fun _ hk => hk); have hx33_0 := hcc33 0 _ rfl; (try simp only [show (k85).sz = 2 from rfl, Nat.mul_one, Nat.add_zero] at hx33_0); have hf33_0 := hfr33 0; (try simp only [show (k85).sz = 2 from rfl, Nat.mul_one, Nat.add_zero] at hf33_0); clear hcl33 hcc33 hfr33 hM33) | ((with_reducible refine gate_store (t := 36) (p := 43) rfl ?_); refine store_event (t := 36) (p := 43) (v := ?vo_w34) (w1 := (w31.setCell ⟨go27, (t601 : Int).toNat * 2, none⟩ (.slice A32 y615.length c32))) ?hg ?ho ?hn ?hr ?_; (case ho => rfl); (case hg => rfl); (case hn => rfl); (case hr => first | (go_simp; done) | (go_simp; rfl)); intro w34 hw; have hg : w31.grownBy w34 (some go27) := (by rw [hw]; exact HP33.2); have hp_ : Kd.N k85 85 w34 w.heap.size (fun k_ => (w.heap.size ≤ k_) ∧ S.N k_ v594 ∧ k_ ≠ g) (.slice (some ⟨go27, 0, none⟩) t596.length co29) y620 := (by rw [hw, Ny620.out]; exact HP33.1); clear HP33; replace HI0 := Aside0.mk (IsS114.grown (S.iI) hg (IsS114.own_neN HI0.out HO598.out (by decide))); replace HO595 := Aside0.mk (Kd.R_over' (v := (.slice (some ⟨go27, 0, none⟩) t596.length co29)) (S.uR HO595.out) (Kd.N_typed HO598.out) (by decide) hg); replace HL614_0 := Aside0.mk (Kd.V_afterv (v := (.slice (some ⟨go27, 0, none⟩) t596.length co29)) (v1 := (.slice (some ⟨go27, 0, none⟩) t596.length co29)) (ok := (fun k_ => (w.heap.size ≤ k_) ∧ S.N k_ v594 ∧ k_ ≠ g)) (S.uV HL614_0.out) hg (.inl rfl)); replace HO619 := Aside0.mk (Kd.V_afterv (v := (.slice (some ⟨go27, 0, none⟩) t596.length co29)) (v1 := (.slice (some ⟨go27, 0, none⟩) t596.length co29)) (ok := (fun k_ => (w.heap.size ≤ k_) ∧ S.N k_ v594 ∧ k_ ≠ g)) (S.uV HO619.out) hg (.inl rfl)); replace HB := Aside0.mk ((by rw [hw]; exact below_set (HB.out) (Nat.le_trans HL.out GB27.out) : Below w0.heap.size w0 w34)); replace HK := Aside0.mk (KeepBut.trans S.kA (KeepBut.of_grown hg g) (Kd.N_base2 HO598.out)); replace HO598 := Aside0.mk (hp_); clear hg hw hp_))
       go_ret2
       exact ⟨_, _, S.eW, by (with_reducible repeat (first | apply Kd.R_alloc | apply Kd.R_drewN | apply Kd.R_drew)); exact Kd.R_mono HO595.out (fun _ hk => hk.1), Kd.N_V (by (with_reducible repeat (first | apply Kd.N_alloc | apply Kd.N_drewN | apply Kd.N_drew)); exact Kd.N_mono HO598.out (fun _ hk => ⟨hk.1, hk.2.1⟩)), S.iI, S.bI, S.kA⟩
      ·rw [if_neg c26] at H
       exact absurd H (by simp)
     ·rw [if_neg c25] at H
      exact absurd H (by simp)
    ·rw [if_neg c24] at H
     exact absurd H (by simp)
   ·rw [if_neg c23] at H
    have c23b0 : (t604 == 1) = false := beq_eq_false_iff_ne.mpr c23
    have c23b1 : (t604 != 1) = true := bne_iff_ne.mpr c23
    by_cases c35 : t604 = 2
    ·rw [if_pos c35] at H
     have c35b0 : (t604 == 2) = true := beq_iff_eq.mpr c35
     have c35b1 : (t604 != 2) = false := bne_eq_false_iff_eq.mpr c35
     clear c35
     replace H := S.bd H; obtain ⟨⟨t621, t624, t625⟩, A36, H⟩ := H
     (try dsimp only at H)
     simp only [Option.some.injEq, Prod.mk.injEq] at H
     obtain ⟨rfl, rfl, rfl, rfl⟩ := H
     go_enter Try.func128, Try.ntmps128
     go_wp2_with (first | ((with_reducible refine gate_callee (f := 142) rfl ?_); refine S.gL (some 9) Try.func142 #[.pointer (some ⟨g, 0, none⟩)] ?_; (with_reducible refine (spec_l8Draw.calls k g s0_0 s0_1 s0_2 t593 t596 t599 t600 w0 _ ?s1 ?s2 A2.out).mono ?_); (case s1 => exact S.iI); (case s2 => exact S.bI); rintro e w37 ⟨v594, v597, rfl, ho0, ho1, hi, hb, hk⟩; refine ⟨_, rfl, ?_⟩; have HO595 := Aside0.mk (Kd.R_lower (Kd.R_newM (M := fun k_ => (w.heap.size ≤ k_)) (Kd.R_mono (ok' := fun k_ => True) ho0 (fun _ hk_ => trivial)) (keep_size (w := w) (g := g) (row := none) S.kA) (fun k_ h_ => h_)) (keep_size (w := w) (g := g) (row := none) S.kA)); have HO598 := Aside0.mk (Kd.N_lower (Kd.N_mono (ok' := fun k_ => (w.heap.size ≤ k_) ∧ S.N k_ v594 ∧ k_ ≠ g) ho1 (fun k_ hk_ => ⟨(Nat.le_trans (keep_size (w := w) (g := g) (row := none) S.kA) hk_.1), hk_.2, (IsS114.fresh (S.iI) k_ hk_.1)⟩)) (keep_size (w := w) (g := g) (row := none) S.kA)); replace HK := Aside0.mk (KeepBut.trans S.kA hk (.inl rfl)); replace HB := Aside0.mk (hb); replace HI0 := Aside0.mk (hi); (try clear hb); (try clear hk); (try clear hi); (try clear ho0); (try clear ho1); obtain ⟨Ao38, co38, eo38⟩ := Kd.N_slice HO598.out; subst eo38) | ((with_reducible refine gate_callee (f := 90) rfl ?_); refine S.gL (some 20) Try.func90 #[.pointer (some ⟨g, 0, none⟩), .int .i64 (t596.length : Int)] ?_; (with_reducible refine (spec_l1Below.calls g s0_0 t599 t600 (t596.length : Int) t601 t602 t603 w0 _ ?s1 ?s2 A6.out).mono ?_); (case s1 => exact S.iI); (case s2 => exact S.bI); rintro e w39 ⟨rfl, hi, hb, hk⟩; refine ⟨_, rfl, ?_⟩; replace HO595 := Aside0.mk (Kd.R_mono (Kd.R_keep (IsS114.apart (show IsS114 w0 _ g s0_0 t599 t600 from S.iI) (S.uR HO595.out) (by decide)) hk (fun _ h => h.2)) (fun _ h => h.1)); replace HO598 := Aside0.mk (Kd.N_mono (Kd.N_keep (Kd.N_mono (ok := fun k_ => (((w.heap.size ≤ k_)) ∧ (S.N k_ v594 ∧ k_ ≠ g))) (by (with_reducible repeat (first | apply Kd.N_alloc | apply Kd.N_drewN | apply Kd.N_drew)); exact HO598.out) (fun k_ hk_ => (⟨hk_, hk_.2.2⟩ : _ ∧ k_ ≠ g))) hk (fun _ h => h.2)) (fun _ h => h.1)); replace HK := Aside0.mk (KeepBut.trans S.kA hk (.inl rfl)); replace HB := Aside0.mk (hb); replace HI0 := Aside0.mk (hi); (try clear hb); (try clear hk); (try clear hi)) | ((with_reducible refine gate_callee (f := 90) rfl ?_); refine S.gL (some 22) Try.func90 #[.pointer (some ⟨g, 0, none⟩), .int .i64 10] ?_; (with_reducible refine (spec_l1Below.calls g s0_0 t602 t603 10 t604 t605 t606 w0 _ ?s1 ?s2 A7.out).mono ?_); (case s1 => exact S.iI); (case s2 => exact S.bI); rintro e w40 ⟨rfl, hi, hb, hk⟩; refine ⟨_, rfl, ?_⟩; replace HO595 := Aside0.mk (Kd.R_mono (Kd.R_keep (IsS114.apart (show IsS114 w0 _ g s0_0 t602 t603 from S.iI) (S.uR HO595.out) (by decide)) hk (fun _ h => h.2)) (fun _ h => h.1)); replace HO598 := Aside0.mk (Kd.N_mono (Kd.N_keep (Kd.N_mono (ok := fun k_ => (((w.heap.size ≤ k_)) ∧ (S.N k_ v594 ∧ k_ ≠ g))) (by (with_reducible repeat (first | apply Kd.N_alloc | apply Kd.N_drewN | apply Kd.N_drew)); exact HO598.out) (fun k_ hk_ => (⟨hk_, hk_.2.2⟩ : _ ∧ k_ ≠ g))) hk (fun _ h => h.2)) (fun _ h => h.1)); replace HK := Aside0.mk (KeepBut.trans S.kA hk (.inl rfl)); replace HB := Aside0.mk (hb); replace HI0 := Aside0.mk (hi); (try clear hb); (try clear hk); (try clear hi)) | ((with_reducible refine gate_callee (f := 143) rfl ?_); refine S.gL (some 47) Try.func143 #[.pointer (some ⟨g, 0, none⟩)] ?_; (with_reducible refine (spec_l5Any.calls k g s0_0 t605 t606 t621 t624 t625 w0 _ ?s1 ?s2 A36.out).mono ?_); (case s1 => exact S.iI); (case s2 => exact S.bI); rintro e w41 ⟨v622, rfl, ho0, hi, hb, hk⟩; refine ⟨_, rfl, ?_⟩; replace HO598 := Aside0.mk (Kd.N_mono (Kd.N_told (Kd.N_oldK (Kd.N_mono (ok := fun k_ => (((w.heap.size ≤ k_)) ∧ (S.N k_ v594 ∧ k_ ≠ g))) (by (with_reducible repeat (first | apply Kd.N_alloc | apply Kd.N_drewN | apply Kd.N_drew)); exact HO598.out) (fun k_ hk_ => (⟨hk_, hk_.2.2⟩ : _ ∧ k_ ≠ g))) hk) (Kd.R_base ho0)) (fun _ h_ => h_.1)); have HO623 := Aside0.mk (Kd.R_lower (Kd.R_new' (Kd.R_newM (M := fun k_ => (w.heap.size ≤ k_)) ho0 (keep_size (w := w) (g := g) (row := none) S.kA) (fun k_ h_ => h_)) (Kd.R_lt (S.uR HO595.out))) (keep_size (w := w) (g := g) (row := none) S.kA)); replace HO595 := Aside0.mk (Kd.R_mono (Kd.R_told (Kd.R_oldK (IsS114.apart (show IsS114 w0 _ g s0_0 t605 t606 from S.iI) (S.uR HO595.out) (by decide)) hk) (Kd.R_base ho0)) (fun _ h_ => h_.1)); replace HK := Aside0.mk (KeepBut.trans S.kA hk (.inl rfl)); replace HB := Aside0.mk (hb); replace HI0 := Aside0.mk (hi); (try clear hb); (try clear hk); (try clear hi); (try clear ho0)))
     go_ret2
     exact ⟨_, _, S.eW, by (with_reducible repeat (first | apply Kd.R_alloc | apply Kd.R_drewN | apply Kd.R_drew)); exact Kd.R_mono HO623.out (fun _ hk => hk.1.1), Kd.N_V (by (with_reducible repeat (first | apply Kd.N_alloc | apply Kd.N_drewN | apply Kd.N_drew)); exact Kd.N_mono HO598.out (fun _ hk => ⟨hk.1.1, hk.2⟩)), S.iI, S.bI, S.kA⟩
    ·rw [if_neg c35] at H
     have c35b0 : (t604 == 2) = false := beq_eq_false_iff_ne.mpr c35
     have c35b1 : (t604 != 2) = true := bne_iff_ne.mpr c35
     by_cases c42 : t604 = 3
     ·rw [if_pos c42] at H
      have c42b0 : (t604 == 3) = true := beq_iff_eq.mpr c42
      have c42b1 : (t604 != 3) = false := bne_eq_false_iff_eq.mpr c42
      clear c42
      by_cases c43 : 1 ≤ (t596.length : Int)
      ·rw [if_pos c43] at H
       have c43b0 := eq_true c43
       have c43b1 : decide (1 ≤ (t596.length : Int)) = true := decide_eq_true c43
       clear c43
       obtain ⟨y626, hy626⟩ : ∃ y_ : List (S85), y_ = (t596.drop 1) := ⟨_, rfl⟩
       have hY_ := hy626; replace H : (some (t593, y626, t605, t606)) = some (r1, r2, r3, r4) := S.rh; clear hY_
       have Ny626 := Aside0.mk hy626
       clear hy626
       simp only [Option.some.injEq, Prod.mk.injEq] at H
       obtain ⟨rfl, rfl, rfl, rfl⟩ := H
       go_enter Try.func128, Try.ntmps128
       go_wp2_with (first | ((with_reducible refine gate_callee (f := 142) rfl ?_); refine S.gL (some 9) Try.func142 #[.pointer (some ⟨g, 0, none⟩)] ?_; (with_reducible refine (spec_l8Draw.calls k g s0_0 s0_1 s0_2 t593 t596 t599 t600 w0 _ ?s1 ?s2 A2.out).mono ?_); (case s1 => exact S.iI); (case s2 => exact S.bI); rintro e w44 ⟨v594, v597, rfl, ho0, ho1, hi, hb, hk⟩; refine ⟨_, rfl, ?_⟩; have HO595 := Aside0.mk (Kd.R_lower (Kd.R_newM (M := fun k_ => (w.heap.size ≤ k_)) (Kd.R_mono (ok' := fun k_ => True) ho0 (fun _ hk_ => trivial)) (keep_size (w := w) (g := g) (row := none) S.kA) (fun k_ h_ => h_)) (keep_size (w := w) (g := g) (row := none) S.kA)); have HO598 := Aside0.mk (Kd.N_lower (Kd.N_mono (ok' := fun k_ => (w.heap.size ≤ k_) ∧ S.N k_ v594 ∧ k_ ≠ g) ho1 (fun k_ hk_ => ⟨(Nat.le_trans (keep_size (w := w) (g := g) (row := none) S.kA) hk_.1), hk_.2, (IsS114.fresh (S.iI) k_ hk_.1)⟩)) (keep_size (w := w) (g := g) (row := none) S.kA)); replace HK := Aside0.mk (KeepBut.trans S.kA hk (.inl rfl)); replace HB := Aside0.mk (hb); replace HI0 := Aside0.mk (hi); (try clear hb); (try clear hk); (try clear hi); (try clear ho0); (try clear ho1); obtain ⟨Ao45, co45, eo45⟩ := Kd.N_slice HO598.out; subst eo45) | ((with_reducible refine gate_callee (f := 90) rfl ?_); refine S.gL (some 20) Try.func90 #[.pointer (some ⟨g, 0, none⟩), .int .i64 (t596.length : Int)] ?_; (with_reducible refine (spec_l1Below.calls g s0_0 t599 t600 (t596.length : Int) t601 t602 t603 w0 _ ?s1 ?s2 A6.out).mono ?_); (case s1 => exact S.iI); (case s2 => exact S.bI); rintro e w46 ⟨rfl, hi, hb, hk⟩; refine ⟨_, rfl, ?_⟩; replace HO595 := Aside0.mk (Kd.R_mono (Kd.R_keep (IsS114.apart (show IsS114 w0 _ g s0_0 t599 t600 from S.iI) (S.uR HO595.out) (by decide)) hk (fun _ h => h.2)) (fun _ h => h.1)); replace HO598 := Aside0.mk (Kd.N_mono (Kd.N_keep (Kd.N_mono (ok := fun k_ => (((w.heap.size ≤ k_)) ∧ (S.N k_ v594 ∧ k_ ≠ g))) (by (with_reducible repeat (first | apply Kd.N_alloc | apply Kd.N_drewN | apply Kd.N_drew)); exact HO598.out) (fun k_ hk_ => (⟨hk_, hk_.2.2⟩ : _ ∧ k_ ≠ g))) hk (fun _ h => h.2)) (fun _ h => h.1)); replace HK := Aside0.mk (KeepBut.trans S.kA hk (.inl rfl)); replace HB := Aside0.mk (hb); replace HI0 := Aside0.mk (hi); (try clear hb); (try clear hk); (try clear hi)) | ((with_reducible refine gate_callee (f := 90) rfl ?_); refine S.gL (some 22) Try.func90 #[.pointer (some ⟨g, 0, none⟩), .int .i64 10] ?_; (with_reducible refine (spec_l1Below.calls g s0_0 t602 t603 10 t604 t605 t606 w0 _ ?s1 ?s2 A7.out).mono ?_); (case s1 => exact S.iI); (case s2 => exact S.bI); rintro e w47 ⟨rfl, hi, hb, hk⟩; refine ⟨_, rfl, ?_⟩; replace HO595 := Aside0.mk (Kd.R_mono (Kd.R_keep (IsS114.apart (show IsS114 w0 _ g s0_0 t602 t603 from S.iI) (S.uR HO595.out) (by decide)) hk (fun _ h => h.2)) (fun _ h => h.1)); replace HO598 := Aside0.mk (Kd.N_mono (Kd.N_keep (Kd.N_mono (ok := fun k_ => (((w.heap.size ≤ k_)) ∧ (S.N k_ v594 ∧ k_ ≠ g))) (by (with_reducible repeat (first | apply Kd.N_alloc | apply Kd.N_drewN | apply Kd.N_drew)); exact HO598.out) (fun k_ hk_ => (⟨hk_, hk_.2.2⟩ : _ ∧ k_ ≠ g))) hk (fun _ h => h.2)) (fun _ h => h.1)); replace HK := Aside0.mk (KeepBut.trans S.kA hk (.inl rfl)); replace HB := Aside0.mk (hb); replace HI0 := Aside0.mk (hi); (try clear hb); (try clear hk); (try clear hi); have q48 : (1 : Int) ≤ ((t596.length : Int) : Int) := S.oD; obtain ⟨i048, hi048, _, hsz48, _⟩ := info_parts info85; have hroom48 : t596.length ≤ co45 := (Kd.N_reads' HO598.out).2.1; have hC48 : Kd.F k85 _ _ Ao45 t596.length t596 := (Kd.V_at (base := w.heap.size) (Kd.N_V HO598.out)).2.2; have hcut48 := cut_from (P := Try.prog) 29 85 .i64 Try.underlying29 hi048 2 hsz48 Ao45 t596.length co45 1 (by omega) q48; have hr48 := Kd.F_cut (m := (1 : Int).toNat) (c := co45) hC48 (by omega) hroom48; obtain ⟨A48, hA48⟩ : ∃ A1, A1 = (if co45 = (1 : Int).toNat then Ao45 else (Ao45 : Option Addr).map (·.add ((1 : Int).toNat * 2))) := ⟨_, rfl⟩; obtain ⟨c48, hc48⟩ : ∃ c1, c1 = co45 - (1 : Int).toNat := ⟨_, rfl⟩; have hy48 : y626.length = t596.length - (1 : Int).toNat := (by rw [Ny626.out, List.length_drop] <;> omega); rw [show (t596).drop (1 : Int).toNat = y626 from Ny626.out.symm] at hr48; replace hr48 : Kd.F k85 _ _ A48 y626.length y626 := (by rw [hA48]; exact hr48); rw [← hy48, ← hA48, ← hc48] at hcut48; have HO630 := Aside0.mk (show Kd.V k85 85 _ w.heap.size _ (.slice A48 y626.length c48) y626 from Kd.V_mk (by rw [hy48, hc48]; exact Nat.sub_le_sub_right hroom48 _) hr48); have HC630 := Aside0.mk (show y626.length ≤ c48 from by rw [hy48, hc48]; exact Nat.sub_le_sub_right hroom48 _); clear hr48 hC48 hroom48 hi048 hsz48 hc48; have KY48 := Aside0.mk hy48; have KA48 := Aside0.mk hA48; clear hy48 hA48; replace q48 := eq_true q48))
       go_ret2
       exact ⟨_, _, S.eW, by (with_reducible repeat (first | apply Kd.R_alloc | apply Kd.R_drewN | apply Kd.R_drew)); exact Kd.R_mono HO595.out (fun _ hk => hk.1), by (with_reducible repeat (first | apply Kd.V_alloc | apply Kd.V_drewN | apply Kd.V_drew)); exact Kd.V_mono HO630.out (fun _ hk => ⟨hk.1, hk.2.1⟩), S.iI, S.bI, S.kA⟩
      ·rw [if_neg c43] at H
       exact absurd H (by simp)
     ·rw [if_neg c42] at H
      have c42b0 : (t604 == 3) = false := beq_eq_false_iff_ne.mpr c42
      have c42b1 : (t604 != 3) = true := bne_iff_ne.mpr c42
      simp only [Option.some.injEq, Prod.mk.injEq] at H
      obtain ⟨rfl, rfl, rfl, rfl⟩ := H
      go_enter Try.func128, Try.ntmps128
      go_wp2_with (first | ((with_reducible refine gate_callee (f := 142) rfl ?_); refine S.gL (some 9) Try.func142 #[.pointer (some ⟨g, 0, none⟩)] ?_; (with_reducible refine (spec_l8Draw.calls k g s0_0 s0_1 s0_2 t593 t596 t599 t600 w0 _ ?s1 ?s2 A2.out).mono ?_); (case s1 => exact S.iI); (case s2 => exact S.bI); rintro e w49 ⟨v594, v597, rfl, ho0, ho1, hi, hb, hk⟩; refine ⟨_, rfl, ?_⟩; have HO595 := Aside0.mk (Kd.R_lower (Kd.R_newM (M := fun k_ => (w.heap.size ≤ k_)) (Kd.R_mono (ok' := fun k_ => True) ho0 (fun _ hk_ => trivial)) (keep_size (w := w) (g := g) (row := none) S.kA) (fun k_ h_ => h_)) (keep_size (w := w) (g := g) (row := none) S.kA)); have HO598 := Aside0.mk (Kd.N_lower (Kd.N_mono (ok' := fun k_ => (w.heap.size ≤ k_) ∧ S.N k_ v594 ∧ k_ ≠ g) ho1 (fun k_ hk_ => ⟨(Nat.le_trans (keep_size (w := w) (g := g) (row := none) S.kA) hk_.1), hk_.2, (IsS114.fresh (S.iI) k_ hk_.1)⟩)) (keep_size (w := w) (g := g) (row := none) S.kA)); replace HK := Aside0.mk (KeepBut.trans S.kA hk (.inl rfl)); replace HB := Aside0.mk (hb); replace HI0 := Aside0.mk (hi); (try clear hb); (try clear hk); (try clear hi); (try clear ho0); (try clear ho1); obtain ⟨Ao50, co50, eo50⟩ := Kd.N_slice HO598.out; subst eo50) | ((with_reducible refine gate_callee (f := 90) rfl ?_); refine S.gL (some 20) Try.func90 #[.pointer (some ⟨g, 0, none⟩), .int .i64 (t596.length : Int)] ?_; (with_reducible refine (spec_l1Below.calls g s0_0 t599 t600 (t596.length : Int) t601 t602 t603 w0 _ ?s1 ?s2 A6.out).mono ?_); (case s1 => exact S.iI); (case s2 => exact S.bI); rintro e w51 ⟨rfl, hi, hb, hk⟩; refine ⟨_, rfl, ?_⟩; replace HO595 := Aside0.mk (Kd.R_mono (Kd.R_keep (IsS114.apart (show IsS114 w0 _ g s0_0 t599 t600 from S.iI) (S.uR HO595.out) (by decide)) hk (fun _ h => h.2)) (fun _ h => h.1)); replace HO598 := Aside0.mk (Kd.N_mono (Kd.N_keep (Kd.N_mono (ok := fun k_ => (((w.heap.size ≤ k_)) ∧ (S.N k_ v594 ∧ k_ ≠ g))) (by (with_reducible repeat (first | apply Kd.N_alloc | apply Kd.N_drewN | apply Kd.N_drew)); exact HO598.out) (fun k_ hk_ => (⟨hk_, hk_.2.2⟩ : _ ∧ k_ ≠ g))) hk (fun _ h => h.2)) (fun _ h => h.1)); replace HK := Aside0.mk (KeepBut.trans S.kA hk (.inl rfl)); replace HB := Aside0.mk (hb); replace HI0 := Aside0.mk (hi); (try clear hb); (try clear hk); (try clear hi)) | ((with_reducible refine gate_callee (f := 90) rfl ?_); refine S.gL (some 22) Try.func90 #[.pointer (some ⟨g, 0, none⟩), .int .i64 10] ?_; (with_reducible refine (spec_l1Below.calls g s0_0 t602 t603 10 t604 t605 t606 w0 _ ?s1 ?s2 A7.out).mono ?_); (case s1 => exact S.iI); (case s2 => exact S.bI); rintro e w52 ⟨rfl, hi, hb, hk⟩; refine ⟨_, rfl, ?_⟩; replace HO595 := Aside0.mk (Kd.R_mono (Kd.R_keep (IsS114.apart (show IsS114 w0 _ g s0_0 t602 t603 from S.iI) (S.uR HO595.out) (by decide)) hk (fun _ h => h.2)) (fun _ h => h.1)); replace HO598 := Aside0.mk (Kd.N_mono (Kd.N_keep (Kd.N_mono (ok := fun k_ => (((w.heap.size ≤ k_)) ∧ (S.N k_ v594 ∧ k_ ≠ g))) (by (with_reducible repeat (first | apply Kd.N_alloc | apply Kd.N_drewN | apply Kd.N_drew)); exact HO598.out) (fun k_ hk_ => (⟨hk_, hk_.2.2⟩ : _ ∧ k_ ≠ g))) hk (fun _ h => h.2)) (fun _ h => h.1)); replace HK := Aside0.mk (KeepBut.trans S.kA hk (.inl rfl)); replace HB := Aside0.mk (hb); replace HI0 := Aside0.mk (hi); (try clear hb); (try clear hk); (try clear hi)))
      go_ret2
      exact ⟨_, _, S.eW, by (with_reducible repeat (first | apply Kd.R_alloc | apply Kd.R_drewN | apply Kd.R_drew)); exact Kd.R_mono HO595.out (fun _ hk => hk.1), Kd.N_V (by (with_reducible repeat (first | apply Kd.N_alloc | apply Kd.N_drewN | apply Kd.N_drew)); exact Kd.N_mono HO598.out (fun _ hk => ⟨hk.1, hk.2.1⟩)), S.iI, S.bI, S.kA⟩

/-! ### spec_Min: function 131 -/
def spec_Min.f (a0 : Int) (a1 : Int) : Option (Int) := if a1 < a0 then (some a1) else (some a0)
theorem spec_Min.calls (a0 : Int) (a1 : Int) (r : Int) (w : World) (h : spec_Min.f a0 a1 = some r) :
  Calls Try.prog 131 #[.int .i64 a0, .int .i64 a1] w fun e w' => e = .returned (.int .i64 r) ∧ Drawn0 w w' := by
 have H : (if a1 < a0 then (some a1) else (some a0)) = some r := h
 clear h
 replace H := S.dc H; rcases H with ⟨H, c3b0⟩ | ⟨H, c3b0⟩
 ·obtain rfl := Option.some.inj H
  go_enter Try.func131, Try.ntmps131
  go_wp2
  go_ret
  exact ⟨S.eA, by repeat (first | exact Drawn0.refl _ | apply Drawn0.step)⟩
 ·obtain rfl := Option.some.inj H
  go_enter Try.func131, Try.ntmps131
  go_wp2
  go_ret
  exact ⟨S.eA, by repeat (first | exact Drawn0.refl _ | apply Drawn0.step)⟩

/-! ### spec_Max: function 132 -/
def spec_Max.f (a0 : Int) (a1 : Int) : Option (Int) := if a1 > a0 then (some a1) else (some a0)
theorem spec_Max.calls (a0 : Int) (a1 : Int) (r : Int) (w : World) (h : spec_Max.f a0 a1 = some r) :
  Calls Try.prog 132 #[.int .i64 a0, .int .i64 a1] w fun e w' => e = .returned (.int .i64 r) ∧ Drawn0 w w' := by
 have H : (if a1 > a0 then (some a1) else (some a0)) = some r := h
 clear h
 by_cases c3 : a1 > a0
 ·rw [if_pos c3] at H
  have c3b0 : decide (a0 < a1) = true := decide_eq_true c3
  clear c3
  obtain rfl := Option.some.inj H
  go_enter Try.func132, Try.ntmps132
  go_wp2
  go_ret
  exact ⟨S.eA, by repeat (first | exact Drawn0.refl _ | apply Drawn0.step)⟩
 ·rw [if_neg c3] at H
  have c3b0 : decide (a0 < a1) = false := decide_eq_false c3
  clear c3
  obtain rfl := Option.some.inj H
  go_enter Try.func132, Try.ntmps132
  go_wp2
  go_ret
  exact ⟨S.eA, by repeat (first | exact Drawn0.refl _ | apply Drawn0.step)⟩

/-! ### spec_l18Two: function 116 -/
mutual
def spec_l18Two.l0 : Nat → List (S71) → List (S85) → List (S85) → Int → List Int → Int → Int → Option ((List (S71)) × (List (S85)) × (List (S85)) × Int × Int)
 | 0, _, _, _, _, _, _, _ => none
 | k + 1, x5, x6, x7, x8, x1000, x1001, x1002 => if x8 < (x7.length : Int) then (if 0 ≤ x8 then ((spec_Min.f 60 ((rd_T85 x7 x8).f1)).bind fun t643 => ((spec_l1Below.f x1000 x1001 x1002 5).bind fun bt644 => ((spec_Max.f 7 (wrap64 (t643 + bt644.1))).bind fun t647 => ((spec_Min.f 60 t647).bind fun t648 => (spec_l18Two.l0 k x5 x6 (x7.set (x8 : Int).toNat (⟨(rd_T85 x7 x8).f0, t648⟩ : S85)) (wrap64 (x8 + 1)) x1000 bt644.2.1 bt644.2.2))))) else (none)) else (if (x7.length : Int) > 0 then ((spec_l1Once.f x1000 x1001 x1002 2).bind fun bt650 => (spec_l18Two.j1 k x5 x6 x7 bt650.1 x1000 bt650.2.1 bt650.2.2)) else (spec_l18Two.j1 k x5 x6 x7 false x1000 x1001 x1002))
def spec_l18Two.j1 : Nat → List (S71) → List (S85) → List (S85) → Bool → List Int → Int → Int → Option ((List (S71)) × (List (S85)) × (List (S85)) × Int × Int)
 | 0, _, _, _, _, _, _, _ => none
 | k + 1, x5, x6, x7, x43, x1000, x1001, x1002 => if x43 = true then ((spec_l1Below.f x1000 x1001 x1002 (x7.length : Int)).bind fun bt653 => ((spec_RotatePlan.f k x7 bt653.1).bind fun t656 => (spec_l18Two.j2 k x5 x6 t656 x1000 bt653.2.1 bt653.2.2))) else (spec_l18Two.j2 k x5 x6 x7 x1000 x1001 x1002)
def spec_l18Two.j2 : Nat → List (S71) → List (S85) → List (S85) → List Int → Int → Int → Option ((List (S71)) × (List (S85)) × (List (S85)) × Int × Int)
 | 0, _, _, _, _, _, _ => none
 | k + 1, x5, x6, x7, x1000, x1001, x1002 => (spec_l1Once.f x1000 x1001 x1002 6).bind fun bt659 => (if bt659.1 = true then ((spec_PlanFor.f k x5).bind fun t662 => (some (x5, x6, t662, bt659.2.1, bt659.2.2))) else (some (x5, x6, x7, bt659.2.1, bt659.2.2)))
end
def spec_l18Two.f (k : Nat) (s0_0 : List Int) (s0_1 : Int) (s0_2 : Int) : Option ((List (S71)) × (List (S85)) × (List (S85)) × Int × Int) := (spec_l8Any.f k s0_0 s0_1 s0_2).bind fun bt631 => ((spec_l8Copy.f k bt631.2.1).bind fun t639 => (spec_l18Two.l0 k bt631.1 bt631.2.1 t639 0 s0_0 bt631.2.2.1 bt631.2.2.2))
theorem spec_l18Two.calls (k : Nat) (g : Nat) (s0_0 : List Int) (s0_1 : Int) (s0_2 : Int) (r1 : List (S71)) (r2 : List (S85)) (r3 : List (S85)) (r4 : Int) (r5 : Int) (w0 w : World) (hI : IsS114 w0 w g s0_0 s0_1 s0_2) (hB : Below w0.heap.size w0 w) (h : spec_l18Two.f k s0_0 s0_1 s0_2 = some (r1, r2, r3, r4, r5)) :
  Calls Try.prog 116 #[.pointer (some ⟨g, 0, none⟩)] w fun e w' => ∃ v0_ v1_ v2_ : Value, e = .returned (.tuple #[v0_, v1_, v2_]) ∧ Kd.R k71 71 w' w.heap.size (fun k_ => (w.heap.size ≤ k_)) v0_ r1 ∧ Kd.V k85 85 w' w.heap.size (fun k_ => (w.heap.size ≤ k_) ∧ some k_ ≠ (v0_ : Value).ownBlock ∧ some k_ ≠ (v2_ : Value).ownBlock) v1_ r2 ∧ Kd.N k85 85 w' w.heap.size (fun k_ => (w.heap.size ≤ k_) ∧ some k_ ≠ (v0_ : Value).ownBlock) v2_ r3 ∧ IsS114 w0 w' g s0_0 r4 r5 ∧ Below w0.heap.size w0 w' ∧ KeepBut w w' g none := by
 have HI0 := Aside0.mk hI
 have HK := Aside0.mk (KeepBut.refl w g none)
 have HL := Aside0.mk hB.size
 clear hI
 have HW0 := Aside0.mk hB.size
 have HB := Aside0.mk hB
 clear hB
 have H : ((spec_l8Any.f k s0_0 s0_1 s0_2).bind fun bt631 => ((spec_l8Copy.f k bt631.2.1).bind fun t639 => (spec_l18Two.l0 k bt631.1 bt631.2.1 t639 0 s0_0 bt631.2.2.1 bt631.2.2.2))) = some (r1, r2, r3, r4, r5) := h
 clear h
 replace H := S.bd H; obtain ⟨⟨t631, t634, t637, t638⟩, A2, H⟩ := H
 (try dsimp only at H)
 replace H := S.bd H; obtain ⟨t639, A3, H⟩ := H
 (try dsimp only at H)
 have H' := Aside0.mk H
 clear H
 go_enter Try.func116, Try.ntmps116
 go_wp2_with (first | ((with_reducible refine gate_callee (f := 128) rfl ?_); refine S.gL (some 11) Try.func128 #[.pointer (some ⟨g, 0, none⟩)] ?_; (with_reducible refine (spec_l8Any.calls k g s0_0 s0_1 s0_2 t631 t634 t637 t638 w0 _ ?s1 ?s2 A2.out).mono ?_); (case s1 => exact S.iI); (case s2 => exact S.bI); rintro e w4 ⟨v632, v635, rfl, ho0, ho1, hi, hb, hk⟩; refine ⟨_, rfl, ?_⟩; have HO633 := Aside0.mk (Kd.R_lower (Kd.R_newM (M := fun k_ => (w.heap.size ≤ k_)) (Kd.R_mono (ok' := fun k_ => True) ho0 (fun _ hk_ => trivial)) (keep_size (w := w) (g := g) (row := none) S.kA) (fun k_ h_ => h_)) (keep_size (w := w) (g := g) (row := none) S.kA)); have HO636 := Aside0.mk (Kd.V_lower (Kd.V_mono (ok' := fun k_ => (w.heap.size ≤ k_) ∧ S.N k_ v632 ∧ k_ ≠ g) ho1 (fun k_ hk_ => ⟨(Nat.le_trans (keep_size (w := w) (g := g) (row := none) S.kA) hk_.1), hk_.2, (IsS114.fresh (S.iI) k_ hk_.1)⟩)) (keep_size (w := w) (g := g) (row := none) S.kA)); replace HK := Aside0.mk (KeepBut.trans S.kA hk (.inl rfl)); replace HB := Aside0.mk (hb); replace HI0 := Aside0.mk (hi); (try clear hb); (try clear hk); (try clear hi); (try clear ho0); (try clear ho1); obtain ⟨Ao5, co5, eo5⟩ := Kd.V_slice HO636.out; subst eo5) | ((with_reducible refine gate_callee (f := 85) rfl ?_); refine S.gL (some 15) Try.func85 #[.slice Ao5 t634.length co5] ?_; (with_reducible refine (spec_l8Copy.calls k _ _ t634 t639 _ ?s1 ?s2 A3.out).mono ?_); (case s1 => exact S.cD (Kd.V_reads' HO636.out).2.2); (case s2 => exact (Kd.V_reads' HO636.out).2.1); rintro e w6 ⟨v640, rfl, ho0, hb⟩; refine ⟨_, rfl, ?_⟩; replace HO636 := Aside0.mk (Kd.V_elder' (S.uV HO636.out) (Kd.R_base ho0) hb); have HO641 := Aside0.mk (Kd.N_lower (Kd.N_mono (ok' := fun k_ => (w.heap.size ≤ k_) ∧ S.N k_ v632 ∧ k_ ≠ g) (Kd.R_N (Kd.R_bound ho0)) (fun k_ hk_ => ⟨(Nat.le_trans (keep_size (w := w) (g := g) (row := none) S.kA) hk_.2.1), (Kd.fresh' (Kd.R_lt (S.uR HO633.out)) k_ hk_.2.1), (IsS114.fresh (S.iI) k_ hk_.2.1)⟩)) (keep_size (w := w) (g := g) (row := none) S.kA)); replace HO633 := S.rb HO633 hb; replace HK := Aside0.mk (KeepBut.trans S.kA (KeepBut.of_below hb g none) (.inl rfl)); replace HB := Aside0.mk (below_step (S.bI) hb); replace HI0 := Aside0.mk (IsS114.below (S.iI) hb); (try clear hb); (try clear ho0)))
 go_loopg [8] k (fun kq v8 w' => ∃ (x7_1 : List (S85)) (x8_1 : Int) (x1001_1 : Int) (x1002_1 : Int), v8 = .int .i64 x8_1 ∧ Aside0 (spec_l18Two.l0 kq t631 t634 x7_1 x8_1 s0_0 x1001_1 x1002_1 = some (r1, r2, r3, r4, r5)) ∧ Aside0 (kq ≤ k) ∧ Aside0 (Kd.R k71 71 w' w.heap.size (fun k_ => (w.heap.size ≤ k_)) v632 t631) ∧ Aside0 (Kd.V k85 85 w' w.heap.size (fun k_ => (w.heap.size ≤ k_) ∧ S.N k_ v632 ∧ S.N k_ v640 ∧ k_ ≠ g) (.slice Ao5 t634.length co5) t634) ∧ Aside0 (Kd.N k85 85 w' w.heap.size (fun k_ => (w.heap.size ≤ k_) ∧ S.N k_ v632 ∧ k_ ≠ g) v640 x7_1) ∧ Aside0 (IsS114 w0 w' g s0_0 x1001_1 x1002_1) ∧ Aside0 (KeepBut w w' g none) ∧ Aside0 (Below w0.heap.size w0 w'))
 case atStart => exact ⟨(t639), (0), (t637), (t638), S.eA, H', ⟨Nat.le_refl _⟩, ⟨by (with_reducible repeat (first | apply Kd.R_alloc | apply Kd.R_drewN | apply Kd.R_drew)); exact Kd.R_mono HO633.out (fun _ hk => hk.1)⟩, ⟨by (with_reducible repeat (first | apply Kd.V_alloc | apply Kd.V_drewN | apply Kd.V_drew)); exact Kd.V_mono HO636.out (fun _ hk => ⟨hk.1.1, ⟨hk.1.2.1, ⟨hk.2, hk.1.2.2⟩⟩⟩)⟩, ⟨by (with_reducible repeat (first | apply Kd.N_alloc | apply Kd.N_drewN | apply Kd.N_drew)); exact HO641.out⟩, ⟨S.iI⟩, ⟨S.kA⟩, ⟨S.bI⟩⟩
 case round =>
  clear H'
  obtain ⟨x7_1, x8_1, x1001_1, x1002_1, rfl, HA, HK1, HO_5, HO_6, HO_7, HI0, HK, HB⟩ := hrel
  cases gk with
  | zero => exact absurd HA.out (by simp [spec_l18Two.l0])
  | succ k1 =>
   have H := HA.out
   clear HA
   simp only [spec_l18Two.l0] at H
   replace H := S.dc H; rcases H with ⟨H, c7b0⟩ | ⟨H, c7b0⟩
   ·by_cases c8 : 0 ≤ x8_1
    ·rw [if_pos c8] at H
     have c8b0 : decide (0 ≤ x8_1) = true := decide_eq_true c8
     clear c8
     replace H := S.bd H; obtain ⟨t643, A9, H⟩ := H
     (try dsimp only at H)
     replace H := S.bd H; obtain ⟨⟨t644, t645, t646⟩, A10, H⟩ := H
     (try dsimp only at H)
     replace H := S.bd H; obtain ⟨t647, A11, H⟩ := H
     (try dsimp only at H)
     replace H := S.bd H; obtain ⟨t648, A12, H⟩ := H
     (try dsimp only at H)
     obtain ⟨y649, hy649⟩ : ∃ y_ : List (S85), y_ = (x7_1.set (x8_1 : Int).toNat (⟨(rd_T85 x7_1 x8_1).f0, t648⟩ : S85)) := ⟨_, rfl⟩
     have hY_ := hy649; replace H : (spec_l18Two.l0 k1 t631 t634 y649 (wrap64 (x8_1 + 1)) s0_0 t645 t646) = some (r1, r2, r3, r4, r5) := S.rh; clear hY_
     have Ny649 := Aside0.mk hy649
     clear hy649
     have H' := Aside0.mk H
     clear H
     obtain ⟨Ao14, co14, eo14⟩ := Kd.N_slice HO_7.out
     subst eo14
     have p642 : 0 ≤ (x8_1 : Int) := S.oD
     have q642 : x8_1 < (x7_1.length : Int) := S.oD
     obtain ⟨ad642, A642_0, c642_0, e642, hx642_0, hx642_1, hl642_0, hi642_0⟩ := at_T85 (Kd.N_reads' HO_7.out).2.2 x8_1 p642 q642
     cases e642
     obtain ⟨ce642, hce642, hMe642, hcc642⟩ := Kd.N_get HO_7.out z85 x8_1 p642 (by first | exact q642 | exact S.oD | (have e_ := (Kd.N_reads' HO_7.out).1; omega))
     obtain ⟨ua642_0, uc642_0, rfl, ul642_0, ge642_0⟩ := k85_openF hMe642
     have hv642_0 := hcc642 0 _ rfl
     rw [Nat.add_zero] at hv642_0
     replace hv642_0 := Option.some.inj (hv642_0.symm.trans hx642_0)
     injection hv642_0 with hva_ hvn_ hvc_
     rw [hva_] at ge642_0
     rw [hvc_] at ul642_0
     have HL642_0 := Aside0.mk (show Kd.V (Kd.int .i64) 3 _ w.heap.size _ _ ((rd_T85 x7_1 x8_1).f0) from Kd.V_mk ul642_0 ge642_0)
     clear hva_ hvn_ hvc_ ge642_0 ul642_0
     clear hcc642 hce642
     have HR642_0 := Aside0.mk hi642_0
     have HC642_0 := Aside0.mk hl642_0
     clear hi642_0 hl642_0
     replace p642 := eq_true p642
     replace q642 := eq_true q642
     go_wp2_with (first | ((with_reducible refine gate_callee (f := 131) rfl ?_); refine S.gL (some 29) Try.func131 #[.int .i64 60, .int .i64 ((rd_T85 x7_1 x8_1).f1)] ?_; (with_reducible refine (spec_Min.calls 60 ((rd_T85 x7_1 x8_1).f1) t643 _ A9.out).mono ?_); rintro e w' ⟨rfl, ⟨nd, rfl⟩⟩; refine ⟨_, rfl, ?_⟩; (try (rw [drewN_self wr]; generalize hq_ : World.drewN wr _ = wr; have n0_ : Aside0 (Kd.V (Kd.int .i64) 3 wr w.heap.size (fun k_ => ((((w.heap.size ≤ k_)) ∧ (S.N k_ v632 ∧ k_ ≠ g)) ∧ some k_ ≠ (.slice (some ad642) x7_1.length co14 : Value).ownBlock)) (.slice A642_0 ((rd_T85 x7_1 x8_1).f0).length c642_0) ((rd_T85 x7_1 x8_1).f0)) := ⟨by rw [← hq_]; exact (S.uV HL642_0.out)⟩; have n1_ : Aside0 (Kd.R k71 71 wr w.heap.size (fun k_ => (w.heap.size ≤ k_)) v632 t631) := ⟨by rw [← hq_]; exact (S.uR HO_5.out)⟩; have n2_ : Aside0 (Kd.V k85 85 wr w.heap.size (fun k_ => (w.heap.size ≤ k_) ∧ S.N k_ v632 ∧ some k_ ≠ (.slice (some ad642) x7_1.length co14 : Value).ownBlock ∧ k_ ≠ g) (.slice Ao5 t634.length co5) t634) := ⟨by rw [← hq_]; exact (S.uV HO_6.out)⟩; have n3_ : Aside0 (Kd.N k85 85 wr w.heap.size (fun k_ => (w.heap.size ≤ k_) ∧ S.N k_ v632 ∧ k_ ≠ g) (.slice (some ad642) x7_1.length co14) x7_1) := ⟨by rw [← hq_]; exact (by (with_reducible repeat (first | apply Kd.N_alloc | apply Kd.N_drewN | apply Kd.N_drew)); exact HO_7.out)⟩; have n4_ : Aside0 (IsS114 w0 wr g s0_0 x1001_1 x1002_1) := ⟨by rw [← hq_]; exact (S.iI)⟩; have n5_ : Aside0 (KeepBut w wr g none) := ⟨by rw [← hq_]; exact S.kA⟩; have n6_ : Aside0 (Below w0.heap.size w0 wr) := ⟨by rw [← hq_]; exact (S.bI)⟩; have n7_ : Aside0 (Kd.C (Kd.int .i64) wr A642_0 ((rd_T85 x7_1 x8_1).f0).length ((rd_T85 x7_1 x8_1).f0)) := ⟨by rw [← hq_]; exact (by repeat (first | (with_reducible exact HR642_0.out) | (with_reducible refine Kd.C_alloc ?_ _) | (with_reducible refine Kd.C_drewN ?_ _) | (with_reducible refine Kd.C_drew ?_) | exact HR642_0.out))⟩; clear HL642_0 HO_5 HO_6 HO_7 HI0 HK HB HR642_0 hq_; have HL642_0 := n0_; have HO_5 := n1_; have HO_6 := n2_; have HO_7 := n3_; have HI0 := n4_; have HK := n5_; have HB := n6_; have HR642_0 := n7_; clear n0_ n1_ n2_ n3_ n4_ n5_ n6_ n7_))) | ((with_reducible refine gate_callee (f := 90) rfl ?_); refine S.gL (some 31) Try.func90 #[.pointer (some ⟨g, 0, none⟩), .int .i64 5] ?_; (with_reducible refine (spec_l1Below.calls g s0_0 x1001_1 x1002_1 5 t644 t645 t646 w0 _ ?s1 ?s2 A10.out).mono ?_); (case s1 => exact S.iI); (case s2 => exact S.bI); rintro e w15 ⟨rfl, hi, hb, hk⟩; refine ⟨_, rfl, ?_⟩; replace HO_5 := Aside0.mk (Kd.R_mono (Kd.R_keep (IsS114.apart (show IsS114 w0 _ g s0_0 x1001_1 x1002_1 from S.iI) (S.uR HO_5.out) (by decide)) hk (fun _ h => h.2)) (fun _ h => h.1)); replace HO_6 := Aside0.mk (Kd.V_mono (Kd.V_keep (Kd.V_mono (ok := fun k_ => (((w.heap.size ≤ k_)) ∧ (S.N k_ v632 ∧ (some k_ ≠ (.slice (some ad642) x7_1.length co14 : Value).ownBlock ∧ k_ ≠ g)))) (S.uV HO_6.out) (fun k_ hk_ => (⟨hk_, hk_.2.2.2⟩ : _ ∧ k_ ≠ g))) hk (fun _ h => h.2)) (fun _ h => h.1)); replace HO_7 := Aside0.mk (Kd.N_mono (Kd.N_keep (Kd.N_mono (ok := fun k_ => (((w.heap.size ≤ k_)) ∧ (S.N k_ v632 ∧ k_ ≠ g))) (by (with_reducible repeat (first | apply Kd.N_alloc | apply Kd.N_drewN | apply Kd.N_drew)); exact HO_7.out) (fun k_ hk_ => (⟨hk_, hk_.2.2⟩ : _ ∧ k_ ≠ g))) hk (fun _ h => h.2)) (fun _ h => h.1)); replace HL642_0 := Aside0.mk (Kd.V_mono (Kd.V_keep (Kd.V_mono (ok := fun k_ => ((((w.heap.size ≤ k_)) ∧ (S.N k_ v632 ∧ k_ ≠ g)) ∧ some k_ ≠ (.slice (some ad642) x7_1.length co14 : Value).ownBlock)) (S.uV HL642_0.out) (fun k_ hk_ => (⟨hk_, hk_.1.2.2⟩ : _ ∧ k_ ≠ g))) hk (fun _ h => h.2)) (fun _ h => h.1)); replace HK := Aside0.mk (KeepBut.trans S.kA hk (.inl rfl)); replace HB := Aside0.mk (hb); replace HI0 := Aside0.mk (hi); (try clear hb); (try clear hk); (try clear hi)) | ((with_reducible refine gate_callee (f := 132) rfl ?_); refine S.gL (some 33) Try.func132 #[.int .i64 7, .int .i64 (wrap64 (t643 + t644))] ?_; (with_reducible refine (spec_Max.calls 7 (wrap64 (t643 + t644)) t647 _ A11.out).mono ?_); rintro e w' ⟨rfl, ⟨nd, rfl⟩⟩; refine ⟨_, rfl, ?_⟩; (try (rw [drewN_self w15]; generalize hq_ : World.drewN w15 _ = w15; have n0_ : Aside0 (Kd.V (Kd.int .i64) 3 w15 w.heap.size (fun k_ => ((((w.heap.size ≤ k_)) ∧ (S.N k_ v632 ∧ k_ ≠ g)) ∧ some k_ ≠ (.slice (some ad642) x7_1.length co14 : Value).ownBlock)) (.slice A642_0 ((rd_T85 x7_1 x8_1).f0).length c642_0) ((rd_T85 x7_1 x8_1).f0)) := ⟨by rw [← hq_]; exact (S.uV HL642_0.out)⟩; have n1_ : Aside0 (Kd.R k71 71 w15 w.heap.size (fun k_ => (w.heap.size ≤ k_)) v632 t631) := ⟨by rw [← hq_]; exact (S.uR HO_5.out)⟩; have n2_ : Aside0 (Kd.V k85 85 w15 w.heap.size (fun k_ => (w.heap.size ≤ k_) ∧ S.N k_ v632 ∧ some k_ ≠ (.slice (some ad642) x7_1.length co14 : Value).ownBlock ∧ k_ ≠ g) (.slice Ao5 t634.length co5) t634) := ⟨by rw [← hq_]; exact (S.uV HO_6.out)⟩; have n3_ : Aside0 (Kd.N k85 85 w15 w.heap.size (fun k_ => (w.heap.size ≤ k_) ∧ S.N k_ v632 ∧ k_ ≠ g) (.slice (some ad642) x7_1.length co14) x7_1) := ⟨by rw [← hq_]; exact (by (with_reducible repeat (first | apply Kd.N_alloc | apply Kd.N_drewN | apply Kd.N_drew)); exact HO_7.out)⟩; have n4_ : Aside0 (IsS114 w0 w15 g s0_0 t645 t646) := ⟨by rw [← hq_]; exact (S.iI)⟩; have n5_ : Aside0 (KeepBut w w15 g none) := ⟨by rw [← hq_]; exact S.kA⟩; have n6_ : Aside0 (Below w0.heap.size w0 w15) := ⟨by rw [← hq_]; exact (S.bI)⟩; clear HL642_0 HO_5 HO_6 HO_7 HI0 HK HB hq_; have HL642_0 := n0_; have HO_5 := n1_; have HO_6 := n2_; have HO_7 := n3_; have HI0 := n4_; have HK := n5_; have HB := n6_; clear n0_ n1_ n2_ n3_ n4_ n5_ n6_))) | ((with_reducible refine gate_callee (f := 131) rfl ?_); refine S.gL (some 34) Try.func131 #[.int .i64 60, .int .i64 t647] ?_; (with_reducible refine (spec_Min.calls 60 t647 t648 _ A12.out).mono ?_); rintro e w' ⟨rfl, ⟨nd, rfl⟩⟩; refine ⟨_, rfl, ?_⟩; (try (rw [drewN_self w15]; generalize hq_ : World.drewN w15 _ = w15; have n0_ : Aside0 (Kd.V (Kd.int .i64) 3 w15 w.heap.size (fun k_ => ((((w.heap.size ≤ k_)) ∧ (S.N k_ v632 ∧ k_ ≠ g)) ∧ some k_ ≠ (.slice (some ad642) x7_1.length co14 : Value).ownBlock)) (.slice A642_0 ((rd_T85 x7_1 x8_1).f0).length c642_0) ((rd_T85 x7_1 x8_1).f0)) := ⟨by rw [← hq_]; exact (S.uV HL642_0.out)⟩; have n1_ : Aside0 (Kd.R k71 71 w15 w.heap.size (fun k_ => (w.heap.size ≤ k_)) v632 t631) := ⟨by rw [← hq_]; exact (S.uR HO_5.out)⟩; have n2_ : Aside0 (Kd.V k85 85 w15 w.heap.size (fun k_ => (w.heap.size ≤ k_) ∧ S.N k_ v632 ∧ some k_ ≠ (.slice (some ad642) x7_1.length co14 : Value).ownBlock ∧ k_ ≠ g) (.slice Ao5 t634.length co5) t634) := ⟨by rw [← hq_]; exact (S.uV HO_6.out)⟩; have n3_ : Aside0 (Kd.N k85 85 w15 w.heap.size (fun k_ => (w.heap.size ≤ k_) ∧ S.N k_ v632 ∧ k_ ≠ g) (.slice (some ad642) x7_1.length co14) x7_1) := ⟨by rw [← hq_]; exact (by (with_reducible repeat (first | apply Kd.N_alloc | apply Kd.N_drewN | apply Kd.N_drew)); exact HO_7.out)⟩; have n4_ : Aside0 (IsS114 w0 w15 g s0_0 t645 t646) := ⟨by rw [← hq_]; exact (S.iI)⟩; have n5_ : Aside0 (KeepBut w w15 g none) := ⟨by rw [← hq_]; exact S.kA⟩; have n6_ : Aside0 (Below w0.heap.size w0 w15) := ⟨by rw [← hq_]; exact (S.bI)⟩; clear HL642_0 HO_5 HO_6 HO_7 HI0 HK HB hq_; have HL642_0 := n0_; have HO_5 := n1_; have HO_6 := n2_; have HO_7 := n3_; have HI0 := n4_; have HK := n5_; have HB := n6_; clear n0_ n1_ n2_ n3_ n4_ n5_ n6_)); have p13 : 0 ≤ (x8_1 : Int) := S.oD; have q13 : (x8_1 : Int) < ((x7_1.length : Int) : Int) := S.oD; obtain ⟨go13, co13, eo13, gb13, gl13, cl13, HG13⟩ := Kd.N_form HO_7.out (by omega); (first | cases eo13 | (injection eo13 with ea_ en_ ec_; (first | subst ea_ | (injection ea_ with ea_; subst ea_)); subst ec_; clear en_)); have GB13 := Aside0.mk gb13; have GG13 := Aside0.mk HG13; clear gb13 gl13 HG13; (first | simp only [add_plain] at hx642_0 | skip); (first | simp only [add_plain] at hx642_1 | skip); obtain ⟨ce13, hcl13, hM13, hcc13, hfr13⟩ := Kd.N_elem HO_7.out z85 (x8_1 : Int) p13 q13; obtain ⟨ua13_0, uc13_0, rfl, ul13_0, ge13_0⟩ := k85_openF hM13; have hx13_0 : w15.cell? ⟨go13, (x8_1 : Int).toNat * 2, none⟩ = some (.slice ua13_0 ((rd_T85 x7_1 x8_1).f0).length uc13_0) := hcc13 0 _ rfl; have hx13_1 : w15.cell? ⟨go13, (x8_1 : Int).toNat * 2 + 1, none⟩ = some (.int .i64 ((rd_T85 x7_1 x8_1).f1)) := hcc13 1 _ rfl; have hf13_0 : w15.frozen? ⟨go13, (x8_1 : Int).toNat * 2, none⟩ = false := hfr13 0; have hf13_1 : w15.frozen? ⟨go13, (x8_1 : Int).toNat * 2 + 1, none⟩ = false := hfr13 1; clear hcl13 hcc13 hfr13 hM13; replace p13 := eq_true p13; replace q13 := eq_true q13; have HX16 := Aside0.mk (show Kd.N k85 85 w15 w.heap.size (fun k_ => (w.heap.size ≤ k_) ∧ S.N k_ v632 ∧ k_ ≠ g) (.slice (some ⟨go13, 0, none⟩) x7_1.length co14) x7_1 from (by (with_reducible repeat (first | apply Kd.N_alloc | apply Kd.N_drewN | apply Kd.N_drew)); exact HO_7.out)); obtain ⟨ce16, hcl16, hM16, hcc16, hfr16⟩ := Kd.N_elem HX16.out z85 (x8_1 : Int) (S.oD) (by have h_ : (x8_1 : Int) < ((x7_1.length : Int) : Int) := S.oD; first | exact h_ | (have e_ := (Kd.N_reads' HO_7.out).1; omega) | simpa using h_); obtain ⟨ua16_0, uc16_0, rfl, ul16_0, ge16_0⟩ := k85_openF hM16; have HP16 := Kd.N_seg HX16.out (x8_1 : Int) (S.oD) (by have h_ : (x8_1 : Int) < ((x7_1.length : Int) : Int) := S.oD; first | exact h_ | (have e_ := (Kd.N_reads' HO_7.out).1; omega) | simpa using h_) (seg := [.int .i64 t648]) (j := 1) hcl16 hcc16 (show 2 ≤ 2 from by decide) (x' := (⟨(rd_T85 x7_1 x8_1).f0, t648⟩ : S85)) (k85_mkF _ _ (⟨(rd_T85 x7_1 x8_1).f0, t648⟩ : S85) ul16_0 ge16_0) (fun _ hk => hk); have hx16_1 := hcc16 1 _ rfl; (try simp only [show (k85).sz = 2 from rfl, Nat.mul_one, Nat.add_zero] at hx16_1); have hf16_1 := hfr16 1; (try simp only [show (k85).sz = 2 from rfl, Nat.mul_one, Nat.add_zero] at hf16_1); clear hcl16 hcc16 hfr16 hM16) | ((with_reducible refine gate_store (t := 3) (p := 36) rfl ?_); refine store_event (t := 3) (p := 36) (v := ?vo_w17) (w1 := (w15.setCell ⟨go13, (x8_1 : Int).toNat * 2 + 1, none⟩ (.int .i64 t648))) ?hg ?ho ?hn ?hr ?_; (case ho => rfl); (case hg => rfl); (case hn => rfl); (case hr => first | (go_simp; done) | (go_simp; rfl)); intro w17 hw; have hg : w15.grownBy w17 (some go13) := (by rw [hw]; exact HP16.2); have hp_ : Kd.N k85 85 w17 w.heap.size (fun k_ => (w.heap.size ≤ k_) ∧ S.N k_ v632 ∧ k_ ≠ g) (.slice (some ⟨go13, 0, none⟩) x7_1.length co14) y649 := (by rw [hw, Ny649.out]; exact HP16.1); clear HP16; replace HO_5 := Aside0.mk (Kd.R_over' (v := (.slice (some ⟨go13, 0, none⟩) x7_1.length co14)) (S.uR HO_5.out) (Kd.N_typed HO_7.out) (by decide) hg); replace HO_6 := Aside0.mk (Kd.V_afterv (v := (.slice (some ⟨go13, 0, none⟩) x7_1.length co14)) (v1 := (.slice (some ⟨go13, 0, none⟩) x7_1.length co14)) (ok := (fun k_ => (w.heap.size ≤ k_) ∧ S.N k_ v632 ∧ k_ ≠ g)) (by (with_reducible repeat (first | apply Kd.V_alloc | apply Kd.V_drewN | apply Kd.V_drew)); exact Kd.V_mono HO_6.out (fun _ hk => ⟨⟨hk.1, ⟨hk.2.1, hk.2.2.2⟩⟩, hk.2.2.1⟩)) hg (.inl rfl)); replace HI0 := Aside0.mk (IsS114.grown (S.iI) hg (IsS114.own_neN HI0.out HO_7.out (by decide))); replace HL642_0 := Aside0.mk (Kd.V_afterv (v := (.slice (some ⟨go13, 0, none⟩) x7_1.length co14)) (v1 := (.slice (some ⟨go13, 0, none⟩) x7_1.length co14)) (ok := (fun k_ => (w.heap.size ≤ k_) ∧ S.N k_ v632 ∧ k_ ≠ g)) (S.uV HL642_0.out) hg (.inl rfl)); replace HB := Aside0.mk ((by rw [hw]; exact below_set (HB.out) (Nat.le_trans HL.out GB13.out) : Below w0.heap.size w0 w17)); replace HK := Aside0.mk (KeepBut.trans S.kA (KeepBut.of_grown hg g) (Kd.N_base2 HO_7.out)); replace HO_7 := Aside0.mk (hp_); clear hg hw hp_))
     go_roundg k1
     case measure => have := HK1.out; omega
     case rel => exact ⟨(y649), (wrap64 (x8_1 + 1)), (t645), (t646), S.eA, H', ⟨by have := HK1.out; omega⟩, ⟨S.uR HO_5.out⟩, ⟨by (with_reducible repeat (first | apply Kd.V_alloc | apply Kd.V_drewN | apply Kd.V_drew)); exact Kd.V_mono HO_6.out (fun _ hk => ⟨hk.1.1, ⟨hk.1.2.1, ⟨hk.2, hk.1.2.2⟩⟩⟩)⟩, ⟨by (with_reducible repeat (first | apply Kd.N_alloc | apply Kd.N_drewN | apply Kd.N_drew)); exact HO_7.out⟩, ⟨S.iI⟩, ⟨S.kA⟩, ⟨S.bI⟩⟩
    ·rw [if_neg c8] at H
     exact absurd H (by simp)
   ·have HC18 := Aside0.mk H
    clear H
    obtain ⟨Ao19, co19, eo19⟩ := Kd.N_slice HO_7.out
    subst eo19
    go_upto_region 7 with (fail)
    go_cut [43] (fun v43 wc => ∃ (kq : Nat) (x43_17 : Bool) (x1001_17 : Int) (x1002_17 : Int), v43 = .bool x43_17 ∧ Aside0 (spec_l18Two.j1 kq t631 t634 x7_1 x43_17 s0_0 x1001_17 x1002_17 = some (r1, r2, r3, r4, r5)) ∧ Aside0 (kq ≤ k1) ∧ Aside0 (Kd.R k71 71 wc w.heap.size (fun k_ => (w.heap.size ≤ k_)) v632 t631) ∧ Aside0 (Kd.V k85 85 wc w.heap.size (fun k_ => (w.heap.size ≤ k_) ∧ S.N k_ v632 ∧ some k_ ≠ ((.slice Ao19 x7_1.length co19) : Value).ownBlock ∧ k_ ≠ g) (.slice Ao5 t634.length co5) t634) ∧ Aside0 (Kd.N k85 85 wc w.heap.size (fun k_ => (w.heap.size ≤ k_) ∧ S.N k_ v632 ∧ k_ ≠ g) (.slice Ao19 x7_1.length co19) x7_1) ∧ Aside0 (IsS114 w0 wc g s0_0 x1001_17 x1002_17) ∧ Aside0 (KeepBut w wc g none) ∧ Aside0 (Below w0.heap.size w0 wc))
    case first =>
     have H := HC18.out
     clear HC18
     by_cases c20 : (x7_1.length : Int) > 0
     ·rw [if_pos c20] at H
      have c20b0 : decide (0 < (x7_1.length : Int)) = true := decide_eq_true c20
      have c20b1 : decide (0 < x7_1.length) = true := decide_eq_true (by omega)
      clear c20
      (first | rw [c20b0] | (simp only [i64_w, i32_w]; rw [c20b0]) | skip)
      replace H := S.bd H; obtain ⟨⟨t650, t651, t652⟩, A21, H⟩ := H
      (try dsimp only at H)
      have H' := Aside0.mk H
      clear H
      go_wp2_with (first | (go_at_call 133; (with_reducible refine (spec_l1Once.calls g s0_0 x1001_1 x1002_1 2 t650 t651 t652 w0 _ ?s1 ?s2 A21.out).mono ?_); (case s1 => exact S.iI); (case s2 => exact S.bI); rintro e w22 ⟨rfl, hi, hb, hk⟩; replace HO_5 := Aside0.mk (Kd.R_mono (Kd.R_keep (IsS114.apart (show IsS114 w0 _ g s0_0 x1001_1 x1002_1 from S.iI) (S.uR HO_5.out) (by decide)) hk (fun _ h => h.2)) (fun _ h => h.1)); replace HO_6 := Aside0.mk (Kd.V_mono (Kd.V_keep (Kd.V_mono (ok := fun k_ => (((w.heap.size ≤ k_)) ∧ (S.N k_ v632 ∧ (S.N k_ (.slice Ao19 x7_1.length co19) ∧ k_ ≠ g)))) (S.uV HO_6.out) (fun k_ hk_ => (⟨hk_, hk_.2.2.2⟩ : _ ∧ k_ ≠ g))) hk (fun _ h => h.2)) (fun _ h => h.1)); replace HO_7 := Aside0.mk (Kd.N_mono (Kd.N_keep (Kd.N_mono (ok := fun k_ => (((w.heap.size ≤ k_)) ∧ (S.N k_ v632 ∧ k_ ≠ g))) (by (with_reducible repeat (first | apply Kd.N_alloc | apply Kd.N_drewN | apply Kd.N_drew)); exact HO_7.out) (fun k_ hk_ => (⟨hk_, hk_.2.2⟩ : _ ∧ k_ ≠ g))) hk (fun _ h => h.2)) (fun _ h => h.1)); replace HK := Aside0.mk (KeepBut.trans S.kA hk (.inl rfl)); replace HB := Aside0.mk (hb); replace HI0 := Aside0.mk (hi); (try clear hb); (try clear hk); (try clear hi)))
      go_meet
      case rel => exact ⟨_, (t650), (t651), (t652), S.eA, H', ⟨by have := HK1.out; first | omega | exact Nat.le_refl _⟩, ⟨S.uR HO_5.out⟩, ⟨S.uV HO_6.out⟩, ⟨by (with_reducible repeat (first | apply Kd.N_alloc | apply Kd.N_drewN | apply Kd.N_drew)); exact HO_7.out⟩, ⟨S.iI⟩, ⟨S.kA⟩, ⟨S.bI⟩⟩
     ·rw [if_neg c20] at H
      have c20b0 : decide (0 < (x7_1.length : Int)) = false := decide_eq_false c20
      have c20b1 : decide (0 < x7_1.length) = false := decide_eq_false (by omega)
      clear c20
      (first | rw [c20b0] | (simp only [i64_w, i32_w]; rw [c20b0]) | skip)
      have H' := Aside0.mk H
      clear H
      go_wp2
      go_meet
      case rel => exact ⟨_, (false), (x1001_1), (x1002_1), S.eA, H', ⟨by have := HK1.out; first | omega | exact Nat.le_refl _⟩, ⟨S.uR HO_5.out⟩, ⟨S.uV HO_6.out⟩, ⟨by (with_reducible repeat (first | apply Kd.N_alloc | apply Kd.N_drewN | apply Kd.N_drew)); exact HO_7.out⟩, ⟨S.iI⟩, ⟨S.kA⟩, ⟨S.bI⟩⟩
    case rest =>
     clear HC18
     try clear c7
     try clear c7b0
     obtain ⟨kq, x43_17, x1001_17, x1002_17, rfl, HA, HJ17, HO_5, HO_6, HO_7, HI0, HK, HB⟩ := hcut
     cases kq with
     | zero => exact absurd HA.out (by simp [spec_l18Two.j1])
     | succ kj17 =>
      have H := HA.out
      clear HA
      simp only [spec_l18Two.j1] at H
      have HC23 := Aside0.mk H
      clear H
      go_upto_if 43 with (fail)
      go_cut [7] (fun v7 wc => ∃ (kq : Nat) (x7_22 : List (S85)) (x1001_22 : Int) (x1002_22 : Int), Aside0 (spec_l18Two.j2 kq t631 t634 x7_22 s0_0 x1001_22 x1002_22 = some (r1, r2, r3, r4, r5)) ∧ Aside0 (kq ≤ kj17) ∧ Aside0 (Kd.R k71 71 wc w.heap.size (fun k_ => (w.heap.size ≤ k_)) v632 t631) ∧ Aside0 (Kd.V k85 85 wc w.heap.size (fun k_ => (w.heap.size ≤ k_) ∧ S.N k_ v632 ∧ S.N k_ v7 ∧ k_ ≠ g) (.slice Ao5 t634.length co5) t634) ∧ Aside0 (Kd.N k85 85 wc w.heap.size (fun k_ => (w.heap.size ≤ k_) ∧ S.N k_ v632 ∧ k_ ≠ g) v7 x7_22) ∧ Aside0 (IsS114 w0 wc g s0_0 x1001_22 x1002_22) ∧ Aside0 (KeepBut w wc g none) ∧ Aside0 (Below w0.heap.size w0 wc))
      case first =>
       have H := HC23.out
       clear HC23
       replace H := S.db H; rcases H with ⟨rfl, H⟩ | ⟨rfl, H⟩
       ·replace H := S.bd H; obtain ⟨⟨t653, t654, t655⟩, A25, H⟩ := H
        (try dsimp only at H)
        replace H := S.bd H; obtain ⟨t656, A26, H⟩ := H
        (try dsimp only at H)
        have H' := Aside0.mk H
        clear H
        go_wp2_with (first | ((with_reducible refine gate_callee (f := 90) rfl ?_); refine S.gL (some 48) Try.func90 #[.pointer (some ⟨g, 0, none⟩), .int .i64 (x7_1.length : Int)] ?_; (with_reducible refine (spec_l1Below.calls g s0_0 x1001_17 x1002_17 (x7_1.length : Int) t653 t654 t655 w0 _ ?s1 ?s2 A25.out).mono ?_); (case s1 => exact S.iI); (case s2 => exact S.bI); rintro e w27 ⟨rfl, hi, hb, hk⟩; refine ⟨_, rfl, ?_⟩; replace HO_5 := Aside0.mk (Kd.R_mono (Kd.R_keep (IsS114.apart (show IsS114 w0 _ g s0_0 x1001_17 x1002_17 from S.iI) (S.uR HO_5.out) (by decide)) hk (fun _ h => h.2)) (fun _ h => h.1)); replace HO_6 := Aside0.mk (Kd.V_mono (Kd.V_keep (Kd.V_mono (ok := fun k_ => (((w.heap.size ≤ k_)) ∧ (S.N k_ v632 ∧ (S.N k_ (.slice Ao19 x7_1.length co19) ∧ k_ ≠ g)))) (S.uV HO_6.out) (fun k_ hk_ => (⟨hk_, hk_.2.2.2⟩ : _ ∧ k_ ≠ g))) hk (fun _ h => h.2)) (fun _ h => h.1)); replace HO_7 := Aside0.mk (Kd.N_mono (Kd.N_keep (Kd.N_mono (ok := fun k_ => (((w.heap.size ≤ k_)) ∧ (S.N k_ v632 ∧ k_ ≠ g))) (by (with_reducible repeat (first | apply Kd.N_alloc | apply Kd.N_drewN | apply Kd.N_drew)); exact HO_7.out) (fun k_ hk_ => (⟨hk_, hk_.2.2⟩ : _ ∧ k_ ≠ g))) hk (fun _ h => h.2)) (fun _ h => h.1)); replace HK := Aside0.mk (KeepBut.trans S.kA hk (.inl rfl)); replace HB := Aside0.mk (hb); replace HI0 := Aside0.mk (hi); (try clear hb); (try clear hk); (try clear hi)) | ((with_reducible refine gate_callee (f := 56) rfl ?_); refine S.gL (some 49) Try.func56 #[.slice Ao19 x7_1.length co19, .int .i64 t653] ?_; (with_reducible refine (spec_RotatePlan.calls kj17 _ _ x7_1 t653 t656 _ ?s1 ?s2 A26.out).mono ?_); (case s1 => exact S.cD (Kd.N_reads' HO_7.out).2.2); (case s2 => exact (Kd.N_reads' HO_7.out).2.1); rintro e w28 ⟨v657, rfl, ho0, hb⟩; refine ⟨_, rfl, ?_⟩; replace HO_6 := Aside0.mk (Kd.V_elder' (S.uV HO_6.out) (Kd.N_base ho0) hb); have HO658 := Aside0.mk (Kd.N_lower (Kd.N_mono (ok' := fun k_ => (w.heap.size ≤ k_) ∧ S.N k_ v632 ∧ S.N k_ (.slice Ao19 x7_1.length co19) ∧ k_ ≠ g) ho0 (fun k_ hk_ => ⟨(Nat.le_trans (keep_size (w := w) (g := g) (row := none) S.kA) hk_), (Kd.fresh' (Kd.R_lt (S.uR HO_5.out)) k_ hk_), (Kd.fresh' (Kd.N_lt (by (with_reducible repeat (first | apply Kd.N_alloc | apply Kd.N_drewN | apply Kd.N_drew)); exact HO_7.out)) k_ hk_), (IsS114.fresh (S.iI) k_ hk_)⟩)) (keep_size (w := w) (g := g) (row := none) S.kA)); replace HO_5 := S.rb HO_5 hb; replace HO_7 := Aside0.mk (Kd.N_elder' (by (with_reducible repeat (first | apply Kd.N_alloc | apply Kd.N_drewN | apply Kd.N_drew)); exact HO_7.out) (Kd.N_base ho0) hb); replace HK := Aside0.mk (KeepBut.trans S.kA (KeepBut.of_below hb g none) (.inl rfl)); replace HB := Aside0.mk (below_step (S.bI) hb); replace HI0 := Aside0.mk (IsS114.below (S.iI) hb); (try clear hb); (try clear ho0)))
        go_meet
        case rel => exact ⟨_, (t656), (t654), (t655), H', ⟨by have := HK1.out; have := HJ17.out; first | omega | exact Nat.le_refl _⟩, ⟨S.uR HO_5.out⟩, ⟨by (with_reducible repeat (first | apply Kd.V_alloc | apply Kd.V_drewN | apply Kd.V_drew)); exact Kd.V_mono HO_6.out (fun _ hk => ⟨hk.1.1, ⟨hk.1.2.1, ⟨hk.2, hk.1.2.2.2⟩⟩⟩)⟩, ⟨by (with_reducible repeat (first | apply Kd.N_alloc | apply Kd.N_drewN | apply Kd.N_drew)); exact Kd.N_mono HO658.out (fun _ hk => ⟨hk.1, ⟨hk.2.1, hk.2.2.2⟩⟩)⟩, ⟨S.iI⟩, ⟨S.kA⟩, ⟨S.bI⟩⟩
       ·have H' := Aside0.mk H
        clear H
        go_wp2
        go_meet
        case rel => exact ⟨_, (x7_1), (x1001_17), (x1002_17), H', ⟨by have := HK1.out; have := HJ17.out; first | omega | exact Nat.le_refl _⟩, ⟨S.uR HO_5.out⟩, ⟨S.uV HO_6.out⟩, ⟨by (with_reducible repeat (first | apply Kd.N_alloc | apply Kd.N_drewN | apply Kd.N_drew)); exact HO_7.out⟩, ⟨S.iI⟩, ⟨S.kA⟩, ⟨S.bI⟩⟩
      case rest =>
       clear HC23
       try clear c7
       try clear c7b0
       obtain ⟨kq, x7_22, x1001_22, x1002_22, HA, HJ22, HO_5, HO_6, HO_7, HI0, HK, HB⟩ := hcut
       cases kq with
       | zero => exact absurd HA.out (by simp [spec_l18Two.j2])
       | succ kj22 =>
        have H := HA.out
        clear HA
        simp only [spec_l18Two.j2] at H
        replace H := S.bd H; obtain ⟨⟨t659, t660, t661⟩, A29, H⟩ := H
        (try dsimp only at H)
        replace H := S.db H; rcases H with ⟨rfl, H⟩ | ⟨rfl, H⟩
        ·replace H := S.bd H; obtain ⟨t662, A31, H⟩ := H
         (try dsimp only at H)
         simp only [Option.some.injEq, Prod.mk.injEq] at H
         obtain ⟨rfl, rfl, rfl, rfl, rfl⟩ := H
         go_wp2_with (first | ((with_reducible refine gate_callee (f := 133) rfl ?_); refine S.gL (some 51) Try.func133 #[.pointer (some ⟨g, 0, none⟩), .int .i64 6] ?_; (with_reducible refine (spec_l1Once.calls g s0_0 x1001_22 x1002_22 6 true t660 t661 w0 _ ?s1 ?s2 A29.out).mono ?_); (case s1 => exact S.iI); (case s2 => exact S.bI); rintro e w32 ⟨rfl, hi, hb, hk⟩; refine ⟨_, rfl, ?_⟩; replace HO_5 := Aside0.mk (Kd.R_mono (Kd.R_keep (IsS114.apart (show IsS114 w0 _ g s0_0 x1001_22 x1002_22 from S.iI) (S.uR HO_5.out) (by decide)) hk (fun _ h => h.2)) (fun _ h => h.1)); replace HO_6 := Aside0.mk (Kd.V_mono (Kd.V_keep (Kd.V_mono (ok := fun k_ => (((w.heap.size ≤ k_)) ∧ (S.N k_ v632 ∧ (some k_ ≠ (u7 : Value).ownBlock ∧ k_ ≠ g)))) (S.uV HO_6.out) (fun k_ hk_ => (⟨hk_, hk_.2.2.2⟩ : _ ∧ k_ ≠ g))) hk (fun _ h => h.2)) (fun _ h => h.1)); replace HO_7 := Aside0.mk (Kd.N_mono (Kd.N_keep (Kd.N_mono (ok := fun k_ => (((w.heap.size ≤ k_)) ∧ (S.N k_ v632 ∧ k_ ≠ g))) (by (with_reducible repeat (first | apply Kd.N_alloc | apply Kd.N_drewN | apply Kd.N_drew)); exact HO_7.out) (fun k_ hk_ => (⟨hk_, hk_.2.2⟩ : _ ∧ k_ ≠ g))) hk (fun _ h => h.2)) (fun _ h => h.1)); replace HK := Aside0.mk (KeepBut.trans S.kA hk (.inl rfl)); replace HB := Aside0.mk (hb); replace HI0 := Aside0.mk (hi); (try clear hb); (try clear hk); (try clear hi); obtain ⟨Ao33, co33, eo33⟩ := Kd.R_slice HO_5.out; subst eo33) | ((with_reducible refine gate_callee (f := 134) rfl ?_); refine S.gL (some 53) Try.func134 #[.slice Ao33 t631.length co33] ?_; (with_reducible refine (spec_PlanFor.calls kj22 _ _ t631 t662 _ ?s1 (S.rl HO_5) A31.out).mono ?_); (case s1 => exact S.rd HO_5); rintro e w34 ⟨v663, rfl, ho0, hb⟩; refine ⟨_, rfl, ?_⟩; replace HO_6 := Aside0.mk (Kd.V_elder' (S.uV HO_6.out) (Kd.N_base ho0) hb); have HO664 := Aside0.mk (Kd.N_lower (Kd.N_mono (ok' := fun k_ => (w.heap.size ≤ k_) ∧ S.N k_ (.slice Ao33 t631.length co33) ∧ some k_ ≠ (u7 : Value).ownBlock ∧ k_ ≠ g) ho0 (fun k_ hk_ => ⟨(Nat.le_trans (keep_size (w := w) (g := g) (row := none) S.kA) hk_), (Kd.fresh' (Kd.R_lt (S.uR HO_5.out)) k_ hk_), (Kd.fresh' (Kd.N_lt (by (with_reducible repeat (first | apply Kd.N_alloc | apply Kd.N_drewN | apply Kd.N_drew)); exact HO_7.out)) k_ hk_), (IsS114.fresh (S.iI) k_ hk_)⟩)) (keep_size (w := w) (g := g) (row := none) S.kA)); replace HO_5 := S.rb HO_5 hb; replace HO_7 := Aside0.mk (Kd.N_elder' (by (with_reducible repeat (first | apply Kd.N_alloc | apply Kd.N_drewN | apply Kd.N_drew)); exact HO_7.out) (Kd.N_base ho0) hb); replace HK := Aside0.mk (KeepBut.trans S.kA (KeepBut.of_below hb g none) (.inl rfl)); replace HB := Aside0.mk (below_step (S.bI) hb); replace HI0 := Aside0.mk (IsS114.below (S.iI) hb); (try clear hb); (try clear ho0)))
         go_ret3
         exact ⟨_, _, _, S.eW, S.uR HO_5.out, by (with_reducible repeat (first | apply Kd.V_alloc | apply Kd.V_drewN | apply Kd.V_drew)); exact Kd.V_mono HO_6.out (fun _ hk => ⟨hk.1.1, ⟨hk.1.2.1, hk.2⟩⟩), by (with_reducible repeat (first | apply Kd.N_alloc | apply Kd.N_drewN | apply Kd.N_drew)); exact Kd.N_mono HO664.out (fun _ hk => ⟨hk.1, hk.2.1⟩), S.iI, S.bI, S.kA⟩
        ·simp only [Option.some.injEq, Prod.mk.injEq] at H
         obtain ⟨rfl, rfl, rfl, rfl, rfl⟩ := H
         go_wp2_with (first | ((with_reducible refine gate_callee (f := 133) rfl ?_); refine S.gL (some 51) Try.func133 #[.pointer (some ⟨g, 0, none⟩), .int .i64 6] ?_; (with_reducible refine (spec_l1Once.calls g s0_0 x1001_22 x1002_22 6 false t660 t661 w0 _ ?s1 ?s2 A29.out).mono ?_); (case s1 => exact S.iI); (case s2 => exact S.bI); rintro e w35 ⟨rfl, hi, hb, hk⟩; refine ⟨_, rfl, ?_⟩; replace HO_5 := Aside0.mk (Kd.R_mono (Kd.R_keep (IsS114.apart (show IsS114 w0 _ g s0_0 x1001_22 x1002_22 from S.iI) (S.uR HO_5.out) (by decide)) hk (fun _ h => h.2)) (fun _ h => h.1)); replace HO_6 := Aside0.mk (Kd.V_mono (Kd.V_keep (Kd.V_mono (ok := fun k_ => (((w.heap.size ≤ k_)) ∧ (S.N k_ v632 ∧ (some k_ ≠ (u7 : Value).ownBlock ∧ k_ ≠ g)))) (S.uV HO_6.out) (fun k_ hk_ => (⟨hk_, hk_.2.2.2⟩ : _ ∧ k_ ≠ g))) hk (fun _ h => h.2)) (fun _ h => h.1)); replace HO_7 := Aside0.mk (Kd.N_mono (Kd.N_keep (Kd.N_mono (ok := fun k_ => (((w.heap.size ≤ k_)) ∧ (S.N k_ v632 ∧ k_ ≠ g))) (by (with_reducible repeat (first | apply Kd.N_alloc | apply Kd.N_drewN | apply Kd.N_drew)); exact HO_7.out) (fun k_ hk_ => (⟨hk_, hk_.2.2⟩ : _ ∧ k_ ≠ g))) hk (fun _ h => h.2)) (fun _ h => h.1)); replace HK := Aside0.mk (KeepBut.trans S.kA hk (.inl rfl)); replace HB := Aside0.mk (hb); replace HI0 := Aside0.mk (hi); (try clear hb); (try clear hk); (try clear hi)))
         go_ret3
         exact ⟨_, _, _, S.eW, S.uR HO_5.out, by (with_reducible repeat (first | apply Kd.V_alloc | apply Kd.V_drewN | apply Kd.V_drew)); exact Kd.V_mono HO_6.out (fun _ hk => ⟨hk.1, ⟨hk.2.1, hk.2.2.1⟩⟩), by (with_reducible repeat (first | apply Kd.N_alloc | apply Kd.N_drewN | apply Kd.N_drew)); exact Kd.N_mono HO_7.out (fun _ hk => ⟨hk.1, hk.2.1⟩), S.iI, S.bI, S.kA⟩

/-! ### spec_DrawSwitchSeconds: function 87 -/
def spec_DrawSwitchSeconds.f (k : Nat) (l0 : List Int) : Option ((List (S71)) × (List (S85)) × (List (S85))) := (spec_l1New.f k l0).bind fun bt665 => ((spec_l18Two.f k bt665.1 bt665.2.1 bt665.2.2).bind fun bt669 => (some (bt669.1, bt669.2.1, bt669.2.2.1)))
theorem spec_DrawSwitchSeconds.calls (k : Nat) (A0 : Option Addr) (c0 : Nat) (l0 : List Int) (r1 : List (S71)) (r2 : List (S85)) (r3 : List (S85)) (w : World) (hr0 : Kd.C (Kd.int .u8) w A0 l0.length l0) (hc0 : l0.length ≤ c0) (h : spec_DrawSwitchSeconds.f k l0 = some (r1, r2, r3)) :
  Calls Try.prog 87 #[.slice A0 l0.length c0] w fun e w' => ∃ v0_ v1_ v2_ : Value, e = .returned (.tuple #[v0_, v1_, v2_]) ∧ Kd.R k71 71 w' w.heap.size (fun k_ => (w.heap.size ≤ k_)) v0_ r1 ∧ Kd.V k85 85 w' w.heap.size (fun k_ => (w.heap.size ≤ k_) ∧ some k_ ≠ (v0_ : Value).ownBlock ∧ some k_ ≠ (v2_ : Value).ownBlock) v1_ r2 ∧ Kd.N k85 85 w' w.heap.size (fun k_ => (w.heap.size ≤ k_) ∧ some k_ ≠ (v0_ : Value).ownBlock) v2_ r3 ∧ Below w.heap.size w w' := by
 have HR0 := Aside0.mk hr0
 have HC0 := Aside0.mk hc0
 clear hr0 hc0
 have HB := Aside0.mk (Below.refl w.heap.size w)
 have H : ((spec_l1New.f k l0).bind fun bt665 => ((spec_l18Two.f k bt665.1 bt665.2.1 bt665.2.2).bind fun bt669 => (some (bt669.1, bt669.2.1, bt669.2.2.1)))) = some (r1, r2, r3) := h
 clear h
 replace H := S.bd H; obtain ⟨⟨t665, t666, t667⟩, A2, H⟩ := H
 (try dsimp only at H)
 replace H := S.bd H; obtain ⟨⟨t669, t672, t675, t678, t679⟩, A3, H⟩ := H
 (try dsimp only at H)
 simp only [Option.some.injEq, Prod.mk.injEq] at H
 obtain ⟨rfl, rfl, rfl⟩ := H
 go_enter Try.func87, Try.ntmps87
 go_wp2_with (first | ((with_reducible refine gate_callee (f := 76) rfl ?_); refine S.gL (some 7) Try.func76 #[.slice A0 l0.length c0] ?_; (with_reducible refine (spec_l1New.calls k _ _ l0 t665 t666 t667 w _ ?s1 ?s2 HC0.out A2.out).mono ?_); (case s1 => exact S.bA); (case s2 => exact HR0.out); rintro e w4 ⟨g668, rfl, hi, hb, hb2⟩; refine ⟨_, rfl, ?_⟩; replace HB := Aside0.mk (hb); have HI668 := Aside0.mk (hi); (try clear hb); (try clear hb2); (try clear hi)) | ((with_reducible refine gate_callee (f := 116) rfl ?_); refine S.gL (some 9) Try.func116 #[.pointer (some ⟨g668, 0, none⟩)] ?_; (with_reducible refine (spec_l18Two.calls k g668 t665 t666 t667 t669 t672 t675 t678 t679 w _ ?s1 ?s2 A3.out).mono ?_); (case s1 => repeat (first | (with_reducible first | exact HI668.out | apply IsS114.alloc | apply IsS114.drewN | apply IsS114.drew | apply IsS114.set_1 | apply IsS114.set_2) | exact HI668.out)); (case s2 => repeat (first | (with_reducible first | exact HB.out | apply below_alloc | apply pw_below_drewN | apply below_drew1 | refine below_set ?_ (IsS114.ge HI668.out)) | exact HB.out)); rintro e w5 ⟨v670, v673, v676, rfl, ho0, ho1, ho2, hi, hb, hk⟩; refine ⟨_, rfl, ?_⟩; have HO671 := Aside0.mk (Kd.R_lower (Kd.R_newM (M := fun k_ => (w.heap.size ≤ k_)) (Kd.R_mono (ok' := fun k_ => True) ho0 (fun _ hk_ => trivial)) (below_size (by repeat (first | (with_reducible first | exact HB.out | apply below_alloc | apply pw_below_drewN | apply below_drew1 | refine below_set ?_ (IsS114.ge HI668.out)) | exact HB.out))) (fun k_ h_ => h_)) (below_size (by repeat (first | (with_reducible first | exact HB.out | apply below_alloc | apply pw_below_drewN | apply below_drew1 | refine below_set ?_ (IsS114.ge HI668.out)) | exact HB.out)))); have HO674 := Aside0.mk (Kd.V_lower (Kd.V_mono (ok' := fun k_ => (w.heap.size ≤ k_) ∧ S.N k_ v670 ∧ S.N k_ v676 ∧ k_ ≠ g668) ho1 (fun k_ hk_ => ⟨(Nat.le_trans (below_size (by repeat (first | (with_reducible first | exact HB.out | apply below_alloc | apply pw_below_drewN | apply below_drew1 | refine below_set ?_ (IsS114.ge HI668.out)) | exact HB.out))) hk_.1), hk_.2.1, hk_.2.2, (IsS114.fresh (by repeat (first | (with_reducible first | exact HI668.out | apply IsS114.alloc | apply IsS114.drewN | apply IsS114.drew | apply IsS114.set_1 | apply IsS114.set_2) | exact HI668.out)) k_ hk_.1)⟩)) (below_size (by repeat (first | (with_reducible first | exact HB.out | apply below_alloc | apply pw_below_drewN | apply below_drew1 | refine below_set ?_ (IsS114.ge HI668.out)) | exact HB.out)))); have HO677 := Aside0.mk (Kd.N_lower (Kd.N_mono (ok' := fun k_ => (w.heap.size ≤ k_) ∧ S.N k_ v670 ∧ k_ ≠ g668) ho2 (fun k_ hk_ => ⟨(Nat.le_trans (below_size (by repeat (first | (with_reducible first | exact HB.out | apply below_alloc | apply pw_below_drewN | apply below_drew1 | refine below_set ?_ (IsS114.ge HI668.out)) | exact HB.out))) hk_.1), hk_.2, (IsS114.fresh (by repeat (first | (with_reducible first | exact HI668.out | apply IsS114.alloc | apply IsS114.drewN | apply IsS114.drew | apply IsS114.set_1 | apply IsS114.set_2) | exact HI668.out)) k_ hk_.1)⟩)) (below_size (by repeat (first | (with_reducible first | exact HB.out | apply below_alloc | apply pw_below_drewN | apply below_drew1 | refine below_set ?_ (IsS114.ge HI668.out)) | exact HB.out)))); replace HB := Aside0.mk (hb); replace HI668 := Aside0.mk (hi); (try clear hb); (try clear hk); (try clear hi); (try clear ho0); (try clear ho1); (try clear ho2)))
 go_ret3
 exact ⟨_, _, _, S.eW, by (with_reducible repeat (first | apply Kd.R_alloc | apply Kd.R_drewN | apply Kd.R_drew)); exact Kd.R_mono HO671.out (fun _ hk => hk.1), by (with_reducible repeat (first | apply Kd.V_alloc | apply Kd.V_drewN | apply Kd.V_drew)); exact Kd.V_mono HO674.out (fun _ hk => ⟨hk.1, ⟨hk.2.1, hk.2.2.1⟩⟩), by (with_reducible repeat (first | apply Kd.N_alloc | apply Kd.N_drewN | apply Kd.N_drew)); exact Kd.N_mono HO677.out (fun _ hk => ⟨hk.1, hk.2.1⟩), by repeat (first | (with_reducible first | exact HB.out | apply below_alloc | apply pw_below_drewN | apply below_drew1 | refine below_set ?_ (IsS114.ge HI668.out)) | exact HB.out)⟩

/-! ### spec_DrawSwitchAt: function 48 -/
def spec_DrawSwitchAt.f (k : Nat) (l0 : List Int) : Option ((List (S71)) × (List (S85)) × (List (S85)) × Int) := (spec_DrawSwitchSeconds.f k l0).bind fun b => (spec_l1New.f k l0).bind fun c => (spec_l1Int.f c.1 c.2.1 c.2.2 ([0, 7, 33, 100000, 100001, (-1)] : List Int)).bind fun t => some (b.1, b.2.1, b.2.2, t.1)
theorem spec_DrawSwitchAt.calls (k : Nat) (A0 : Option Addr) (c0 : Nat) (l0 : List Int) (r1 : List (S71)) (r2 : List (S85)) (r3 : List (S85)) (r4 : Int) (w : World) (hr0 : Kd.C (Kd.int .u8) w A0 l0.length l0) (hc0 : l0.length ≤ c0) (h : spec_DrawSwitchAt.f k l0 = some (r1, r2, r3, r4)) :
 Calls Try.prog 48 #[.slice A0 l0.length c0] w fun e w' => ∃ v0_ v1_ v2_ : Value, e = .returned (.tuple #[v0_, v1_, v2_, .int .i64 r4]) ∧ Kd.R k71 71 w' w.heap.size (fun k_ => (w.heap.size ≤ k_)) v0_ r1 ∧ Kd.V k85 85 w' w.heap.size (fun k_ => (w.heap.size ≤ k_) ∧ some k_ ≠ (v0_ : Value).ownBlock ∧ some k_ ≠ (v2_ : Value).ownBlock) v1_ r2 ∧ Kd.N k85 85 w' w.heap.size (fun k_ => (w.heap.size ≤ k_) ∧ some k_ ≠ (v0_ : Value).ownBlock) v2_ r3 ∧ Below w.heap.size w w' := by
 have HR0 := Aside0.mk hr0
 have HC0 := Aside0.mk hc0
 clear hr0 hc0
 have HB := Aside0.mk (Below.refl w.heap.size w)
 unfold spec_DrawSwitchAt.f at h
 replace h := S.bd h; obtain ⟨⟨b1, b2, b3⟩, A1, h⟩ := h
 replace h := S.bd h; obtain ⟨⟨s0, s1, s2⟩, A2, h⟩ := h
 replace h := S.bd h; obtain ⟨⟨t0, t1, t2⟩, A3, h⟩ := h
 dsimp only at A2 A3 h
 injection h with h
 obtain ⟨rfl, rfl, rfl, rfl⟩ : b1 = r1 ∧ b2 = r2 ∧ b3 = r3 ∧ t0 = r4 := by simpa using h
 go_enter Try.func48, Try.ntmps48
 go_wp2_with (first | ((with_reducible refine gate_callee (f := 87) rfl ?_); refine S.gL (some 12) Try.func87 #[.slice A0 l0.length c0] ?_; (with_reducible refine (spec_DrawSwitchSeconds.calls k _ _ l0 b1 b2 b3 _ ?s1 HC0.out A1.out).mono ?_); (case s1 => exact S.cA HR0.out); rintro e w1 ⟨v0, v1, v2, rfl, hv0, hv1, hv2, hb⟩; refine ⟨_, rfl, ?_⟩; have HV0 := Aside0.mk hv0; have HV1 := Aside0.mk hv1; have HV2 := Aside0.mk hv2; replace HB := Aside0.mk hb; clear hv0 hv1 hv2 hb) | ((with_reducible refine gate_callee (f := 76) rfl ?_); refine S.gL (some 17) Try.func76 #[.slice A0 l0.length c0] ?_; (with_reducible refine (spec_l1New.calls k _ _ l0 s0 s1 s2 w1 _ ?s2 ?s1 HC0.out A2.out).mono ?_); (case s2 => first | exact Below.refl _ _ | exact below_drew (Below.refl _ _)); (case s1 => exact Kd.C_below HR0.out HB.out); rintro e w2 ⟨g, rfl, hi, hb, hb2⟩; refine ⟨_, rfl, ?_⟩; have HI := Aside0.mk hi; have HB1 := Aside0.mk hb; clear hi hb hb2) | ((with_reducible refine gate_dst (N := 22) rfl ?_); refine Kd.R_lit (Kd.int .i64) _ 3 ?hg (N := 22) ?hd (xs := ([0, 7, 33, 100000, 100001, (-1)] : List Int)) (inner := [.int .i64 0, .int .i64 7, .int .i64 33, .int .i64 100000, .int .i64 100001, .int .i64 (-1)]) (ok := fun _ => True) (okp := fun _ => True) ?hr ?hp (fun _ hk => hk) trivial (Below.refl _ _) (Nat.le_refl _) (by simp) ?_; (case hd => rfl); (case hg => rfl); (case hr => first | (go_simp; done) | (go_simp; rfl)); (case hp => exact (Reps.one (show Kd.M (Kd.int .i64) _ _ _ 0 [.int .i64 0] from rfl) (Reps.one (show Kd.M (Kd.int .i64) _ _ _ 7 [.int .i64 7] from rfl) (Reps.one (show Kd.M (Kd.int .i64) _ _ _ 33 [.int .i64 33] from rfl) (Reps.one (show Kd.M (Kd.int .i64) _ _ _ 100000 [.int .i64 100000] from rfl) (Reps.one (show Kd.M (Kd.int .i64) _ _ _ 100001 [.int .i64 100001] from rfl) (Reps.one (show Kd.M (Kd.int .i64) _ _ _ (-1) [.int .i64 (-1)] from rfl) (Reps.none _ _)))))))); intro v3 w4 ho3 hb hg_ hnew_; clear hg_ hnew_; have HO := Aside0.mk ho3; replace HI := Aside0.mk (IsS114.below (show IsS114 w1 w2 g s0 s1 s2 from HI.out) hb); replace HB1 := Aside0.mk (below_step (by repeat (first | (with_reducible first | exact HB1.out | apply below_alloc | apply pw_below_drewN | apply below_drew1) | exact HB1.out)) hb); clear ho3 hb; obtain ⟨Ao, co, eo⟩ := Kd.R_slice HO.out; subst eo) | ((with_reducible refine gate_callee (f := 79) rfl ?_); refine S.gL (some 23) Try.func79 #[.pointer (some ⟨g, 0, none⟩), .slice Ao (([0, 7, 33, 100000, 100001, (-1)] : List Int)).length co] ?_; (with_reducible refine (spec_l1Int.calls g s0 s1 s2 _ _ ([0, 7, 33, 100000, 100001, (-1)] : List Int) t0 t1 t2 w1 _ ?s1 ?s2 ?s3 ?s4 ?s5 A3.out).mono ?_); (case s1 => repeat (first | (with_reducible first | exact HI.out | apply IsS114.alloc | apply IsS114.drewN | apply IsS114.drew) | exact HI.out)); (case s2 => repeat (first | (with_reducible first | exact HB1.out | apply below_alloc | apply pw_below_drewN | apply below_drew1) | exact HB1.out)); (case s3 => exact S.rd HO); (case s4 => exact S.rl HO); (case s5 => exact far_slice (IsS114.own_ne HI.out HO.out (by decide))); rintro e w3 ⟨rfl, hi, hb, hk⟩; refine ⟨_, rfl, ?_⟩; replace HI := Aside0.mk hi; replace HB1 := Aside0.mk hb; clear hi hb hk))
 refine bodyPost_ret (results_list (rs := [.tmp 2, .tmp 3, .tmp 4, .tmp 5]) rfl (by simp) (.tmp (.tmp (.tmp (.tmp .nil))))) rfl ?_
 have HV0' := Kd.R_below HV0.out HB1.out
 have HV1' := Kd.V_step HV1.out (fun k _ hk => HB1.out.block k hk)
 have HV2' := Kd.N_below HV2.out HB1.out
 have HBB := below_step HB.out HB1.out
 exact ⟨v0, v1, v2, S.eW, by (with_reducible repeat (first | apply Kd.R_alloc | apply Kd.R_drewN | apply Kd.R_drew)); exact HV0', by (with_reducible repeat (first | apply Kd.V_alloc | apply Kd.V_drewN | apply Kd.V_drew)); exact HV1', by (with_reducible repeat (first | apply Kd.N_alloc | apply Kd.N_drewN | apply Kd.N_drew)); exact HV2', by repeat (first | (with_reducible first | exact HBB | apply below_alloc | apply pw_below_drewN | apply below_drew1) | exact HBB)⟩

/-! ### laws_ascends: function 49 -/
def laws_ascends.l0 : Nat → List Int → Int → Option (Bool)
 | 0, _, _ => none
 | k + 1, x0, x3 => if x3 < (x0.length : Int) then (if 0 ≤ (wrap64 (x3 - 1)) then (if (wrap64 (x3 - 1)) < (x0.length : Int) then (if 0 ≤ x3 then (if (rd x0 (wrap64 (x3 - 1))) ≥ (rd x0 x3) then (some false) else (laws_ascends.l0 k x0 (wrap64 (x3 + 1)))) else (none)) else (none)) else (none)) else (some true)
def laws_ascends.f (k : Nat) (l0 : List Int) : Option (Bool) := laws_ascends.l0 k l0 1
theorem laws_ascends.calls (k : Nat) (A0 : Option Addr) (c0 : Nat) (l0 : List Int) (r : Bool) (w : World) (hr0 : Kd.C (Kd.int .i64) w A0 l0.length l0) (hc0 : l0.length ≤ c0) (h : laws_ascends.f k l0 = some r) :
  Calls Try.prog 49 #[.slice A0 l0.length c0] w fun e w' => e = .returned (.bool r) ∧ Drawn0 w w' := by
 have HR0 := Aside0.mk hr0
 have HC0 := Aside0.mk hc0
 clear hr0 hc0
 have H : (laws_ascends.l0 k l0 1) = some r := h
 clear h
 have H' := Aside0.mk H
 clear H
 go_enter Try.func49, Try.ntmps49
 go_wp2
 repeat (go_quiet (fail); try go_wp2)
 go_loopg [3] k (fun kq v3 w' => ∃ (x3_1 : Int), v3 = .int .i64 x3_1 ∧ Aside0 (laws_ascends.l0 kq l0 x3_1 = some r) ∧ Aside0 (kq ≤ k) ∧ Drawn0 w w')
 case atStart => exact ⟨(1), S.eA, H', ⟨Nat.le_refl _⟩, by repeat (first | exact Drawn0.refl _ | apply Drawn0.step)⟩
 case round =>
  clear H'
  obtain ⟨x3_1, rfl, HA, HK1, ⟨m1, rfl⟩⟩ := hrel
  cases gk with
  | zero => exact absurd HA.out (by simp [laws_ascends.l0])
  | succ k1 =>
   have H := HA.out
   clear HA
   simp only [laws_ascends.l0] at H
   replace H := S.dc H; rcases H with ⟨H, c2b0⟩ | ⟨H, c2b0⟩
   ·obtain ⟨ji3, hji3⟩ : ∃ j_ : Int, (wrap64 (x3_1 - 1)) = j_ := ⟨_, rfl⟩
    replace H : (if 0 ≤ (ji3) then (if (ji3) < (l0.length : Int) then (if 0 ≤ x3_1 then (if (rd l0 (ji3)) ≥ (rd l0 x3_1) then (some false) else (laws_ascends.l0 k1 l0 (wrap64 (x3_1 + 1)))) else (none)) else (none)) else (none)) = some r := by first | (rw [hji3] at H; exact H) | (simp only [hji3] at H ⊢; exact H)
    have hji3w : (IntKind.i64.wrap (x3_1 - 1)) = ji3 := (i64_w _).trans hji3
    by_cases c4 : 0 ≤ (ji3)
    ·rw [if_pos c4] at H
     have c4b0 : decide (0 ≤ (ji3)) = true := decide_eq_true c4
     clear c4
     by_cases c5 : (ji3) < (l0.length : Int)
     ·rw [if_pos c5] at H
      have c5b0 : decide ((ji3) < (l0.length : Int)) = true := decide_eq_true c5
      clear c5
      by_cases c6 : 0 ≤ x3_1
      ·rw [if_pos c6] at H
       have c6b0 : decide (0 ≤ x3_1) = true := decide_eq_true c6
       clear c6
       by_cases c7 : (rd l0 (ji3)) ≥ (rd l0 x3_1)
       ·rw [if_pos c7] at H
        have c7b0 : decide ((rd l0 x3_1) ≤ (rd l0 (ji3))) = true := decide_eq_true c7
        clear c7
        obtain rfl := Option.some.inj H
        have p680 : 0 ≤ ((ji3) : Int) := S.oD
        have q680 : (ji3) < (l0.length : Int) := S.oD
        obtain ⟨ad680, e680, hx680_0⟩ := Kd.at_int HR0.out (ji3) p680 q680
        cases e680
        replace p680 := eq_true p680
        replace q680 := eq_true q680
        have p681 : 0 ≤ (x3_1 : Int) := S.oD
        have q681 : x3_1 < (l0.length : Int) := S.oD
        obtain ⟨ad681, e681, hx681_0⟩ := Kd.at_int HR0.out x3_1 p681 q681
        obtain rfl : ad680 = ad681 := (by injection e681)
        replace p681 := eq_true p681
        replace q681 := eq_true q681
        go_wp2
        repeat (go_quiet (fail); try go_wp2)
        go_ret
        exact ⟨by first | rfl | (simp; done) | (simp only [← hji3] <;> (first | rfl | simp)) | (simp [*]; done), by repeat (first | exact Drawn0.refl _ | apply Drawn0.step)⟩
       ·rw [if_neg c7] at H
        have c7b0 : decide ((rd l0 x3_1) ≤ (rd l0 (ji3))) = false := decide_eq_false c7
        clear c7
        have H' := Aside0.mk H
        clear H
        have p680 : 0 ≤ ((ji3) : Int) := S.oD
        have q680 : (ji3) < (l0.length : Int) := S.oD
        obtain ⟨ad680, e680, hx680_0⟩ := Kd.at_int HR0.out (ji3) p680 q680
        cases e680
        replace p680 := eq_true p680
        replace q680 := eq_true q680
        have p681 : 0 ≤ (x3_1 : Int) := S.oD
        have q681 : x3_1 < (l0.length : Int) := S.oD
        obtain ⟨ad681, e681, hx681_0⟩ := Kd.at_int HR0.out x3_1 p681 q681
        obtain rfl : ad680 = ad681 := (by injection e681)
        replace p681 := eq_true p681
        replace q681 := eq_true q681
        go_wp2
        repeat (go_quiet (fail); try go_wp2)
        go_roundg k1
        case measure => have := HK1.out; omega
        case rel => exact ⟨(wrap64 (x3_1 + 1)), S.eA, H', ⟨by have := HK1.out; omega⟩, by repeat (first | exact Drawn0.refl _ | apply Drawn0.step)⟩
      ·rw [if_neg c6] at H
       exact absurd H (by simp)
     ·rw [if_neg c5] at H
      exact absurd H (by simp)
    ·rw [if_neg c4] at H
     exact absurd H (by simp)
   ·obtain rfl := Option.some.inj H
    go_wp2
    repeat (go_quiet (fail); try go_wp2)
    go_ret
    exact ⟨S.eA, by repeat (first | exact Drawn0.refl _ | apply Drawn0.step)⟩
end Go.Proofs.Ytjgigmghcfdomaa.PFnSwitched
