/- Printed by a program: what the Go functions compute, as plain Lean functions (.f), and the proofs that the machine's calls come to just that (.calls). -/
import Derived.Test.YtjgigmghcfdomaaPFnWavesx0
import Derived.Test.YtjgigmghcfdomaaPFnWavesx7
import Derived.Test.YtjgigmghcfdomaaPFnWavesx8
namespace Go.Proofs.Ytjgigmghcfdomaa.PFnWaves
open Go.RowKit Go.Proofs.YtjgigmghcfdomaaW.PrintWords Go.Proofs.YtjgigmghcfdomaaW.PrintLast Go.Proofs.YtjgigmghcfdomaaW.PrintMore
attribute [local go_sem] max2_int min2_int max_two min_two max_three min_three max_four min_four   -- for this text's walks alone
set_option linter.unusedVariables false
set_option linter.unusedSimpArgs false
/-! ### spec_l6Put: function 150 -/
def spec_l6Put.l0 : Nat → List Int → Int → Int → Option (List Int)
 | 0, _, _, _ => none
 | k + 1, x0, x1, x5 => if x5 < (x0.length : Int) then (if 0 ≤ x5 then (if (rd x0 x5) < x1 then (spec_l6Put.l0 k x0 x1 (wrap64 (x5 + 1))) else (if (rd x0 x5) = x1 then ((some (([] : List Int) : List Int)).bind fun y414 => (if y414.length + x0.length < 17592186044416 then (some (y414 ++ x0)) else (none))) else ((some (([] : List Int) : List Int)).bind fun y420 => (if x5 ≤ (x0.length : Int) then (if y420.length + (x0.take (x5 : Int).toNat).length < 17592186044416 then ((some (y420 ++ (x0.take (x5 : Int).toNat) : List Int)).bind fun y424 => ((some (([x1] : List Int) : List Int)).bind fun y427 => (if y424.length + y427.length < 17592186044416 then ((some (y424 ++ y427 : List Int)).bind fun y430 => (if y430.length + (x0.drop (x5 : Int).toNat).length < 17592186044416 then (some (y430 ++ (x0.drop (x5 : Int).toNat))) else (none))) else (none)))) else (none)) else (none))))) else (none)) else ((some (([] : List Int) : List Int)).bind fun y437 => (if 0 ≤ x5 then (if x5 ≤ (x0.length : Int) then (if y437.length + (x0.take (x5 : Int).toNat).length < 17592186044416 then ((some (y437 ++ (x0.take (x5 : Int).toNat) : List Int)).bind fun y441 => ((some (([x1] : List Int) : List Int)).bind fun y444 => (if y441.length + y444.length < 17592186044416 then ((some (y441 ++ y444 : List Int)).bind fun y447 => (if y447.length + (x0.drop (x5 : Int).toNat).length < 17592186044416 then (some (y447 ++ (x0.drop (x5 : Int).toNat))) else (none))) else (none)))) else (none)) else (none)) else (none)))
def spec_l6Put.f (k : Nat) (l0 : List Int) (a1 : Int) : Option (List Int) := spec_l6Put.l0 k l0 a1 0
def spec_l6Put.T6 : Bool × List (List Nat × List Nat) := (true, [([], []), ([], []), ([], []), ([1, 2], [1, 2]), ([0, 3], [0, 3]), ([], []), ([5], [5]), ([4, 6, 4], [4, 6]), ([], []), ([], []), ([8, 9], [8, 9]), ([7, 10, 7], [7, 10]), ([11, 11, 0, 1, 2, 3, 4, 5, 6, 7, 8, 9, 10, 11], [11])])
def spec_l6Put.B6 : List Nat := [0, 0, 0, 6, 15, 0, 32, 127, 0, 0, 768, 2047, 4095]
theorem spec_l6Put.tab6 : rtab .any (opsOf Try.f150 6) = spec_l6Put.T6 := by kernel_rfl
theorem spec_l6Put.bits6 : waitsOk spec_l6Put.T6.2 spec_l6Put.B6 = true := by kernel_rfl
set_option maxHeartbeats 8000000 in
set_option maxRecDepth 100000 in
theorem spec_l6Put.calls (k : Nat) (A0 : Option Addr) (c0 : Nat) (l0 : List Int) (a1 : Int) (r : List Int) (w : World) (hr0 : Kd.C (Kd.int .i64) w A0 l0.length l0) (hc0 : l0.length ≤ c0) (h : spec_l6Put.f k l0 a1 = some r) :
  Calls Try.prog 150 #[.slice A0 l0.length c0, .int .i64 a1] w fun e w' => ∃ v0_ : Value, e = .returned (v0_) ∧ Kd.R (Kd.int .i64) 3 w' w.heap.size (fun _ => True) v0_ r ∧ Below w.heap.size w w' := by
 have HR0 := Aside0.mk hr0
 have HC0 := Aside0.mk hc0
 clear hr0 hc0
 have HB := Aside0.mk (Below.refl w.heap.size w)
 have H : (spec_l6Put.l0 k l0 a1 0) = some r := h
 clear h
 have H' := Aside0.mk H
 clear H
 go_enter Try.func150, Try.ntmps150
 go_wp2
 go_loopg [5] k (fun kq v5 w' => ∃ (x5_1 : Int), v5 = .int .i64 x5_1 ∧ Aside0 (spec_l6Put.l0 kq l0 a1 x5_1 = some r) ∧ Aside0 (kq ≤ k) ∧ Aside0 (Below w.heap.size w w'))
 case atStart => exact ⟨(0), S.eA, H', ⟨Nat.le_refl _⟩, ⟨S.bA⟩⟩
 case round =>
  clear H'
  obtain ⟨x5_1, rfl, HA, HK1, HB⟩ := hrel
  cases gk with
  | zero => exact absurd HA.out (by simp [spec_l6Put.l0])
  | succ k1 =>
   have H := HA.out
   clear HA
   simp only [spec_l6Put.l0] at H
   replace H := S.dc H; rcases H with ⟨H, c3b0⟩ | ⟨H, c3b0⟩
   ·by_cases c4 : 0 ≤ x5_1
    ·rw [if_pos c4] at H
     have c4b0 : decide (0 ≤ x5_1) = true := decide_eq_true c4
     clear c4
     replace H := S.dc H; rcases H with ⟨H, c5b0⟩ | ⟨H, c5b0⟩
     ·have H' := Aside0.mk H
      clear H
      have p412 : 0 ≤ (x5_1 : Int) := S.oD
      have q412 : x5_1 < (l0.length : Int) := S.oD
      obtain ⟨ad412, e412, hx412_0⟩ := Kd.at_int HR0.out x5_1 p412 q412
      cases e412
      replace hx412_0 := S.hb HB hx412_0
      replace p412 := eq_true p412
      replace q412 := eq_true q412
      go_wp2
      go_roundg k1
      case measure => have := HK1.out; omega
      case rel => exact ⟨(wrap64 (x5_1 + 1)), S.eA, H', ⟨by have := HK1.out; omega⟩, ⟨S.bA⟩⟩
     ·by_cases c6 : (rd l0 x5_1) = a1
      ·rw [if_pos c6] at H
       have c6b0 : ((rd l0 x5_1) == a1) = true := beq_iff_eq.mpr c6
       have c6b1 : ((rd l0 x5_1) != a1) = false := bne_eq_false_iff_eq.mpr c6
       clear c6
       obtain ⟨y414, hy414⟩ : ∃ y_ : List Int, y_ = (([] : List Int)) := ⟨_, rfl⟩
       replace H : (if y414.length + l0.length < 17592186044416 then (some (y414 ++ l0)) else (none)) = some r := by first | (rw [hy414]; with_reducible exact H) | (have H2_ := (Option.bind_some _ _).symm.trans H; rw [hy414]; with_reducible exact H2_) | (have H2_ := (Option.bind_some _ _).symm.trans H; with_reducible exact H2_) | with_reducible exact H | (rw [hy414]; exact H) | exact H
       have Ny414 := Aside0.mk hy414
       clear hy414
       by_cases c7 : y414.length + l0.length < 17592186044416
       ·rw [if_pos c7] at H
        have LMc7 := Aside0.mk c7
        clear c7
        obtain ⟨y417, hy417⟩ : ∃ y_ : List Int, y_ = (y414 ++ l0) := ⟨_, rfl⟩
        replace H : (some y417) = some r := by first | (rw [hy417]; with_reducible exact H) | (have H2_ := (Option.bind_some _ _).symm.trans H; rw [hy417]; with_reducible exact H2_) | (have H2_ := (Option.bind_some _ _).symm.trans H; with_reducible exact H2_) | with_reducible exact H | (rw [hy417]; exact H) | exact H
        have Ny417 := Aside0.mk hy417
        clear hy417
        obtain rfl := Option.some.inj H
        have p412 : 0 ≤ (x5_1 : Int) := S.oD
        have q412 : x5_1 < (l0.length : Int) := S.oD
        obtain ⟨ad412, e412, hx412_0⟩ := Kd.at_int HR0.out x5_1 p412 q412
        cases e412
        replace hx412_0 := S.hb HB hx412_0
        replace p412 := eq_true p412
        replace q412 := eq_true q412
        have p413 : 0 ≤ (x5_1 : Int) := S.oD
        have q413 : x5_1 < (l0.length : Int) := S.oD
        obtain ⟨ad413, e413, hx413_0⟩ := Kd.at_int HR0.out x5_1 p413 q413
        obtain rfl : ad412 = ad413 := (by injection e413)
        replace hx413_0 := S.hb HB hx413_0
        replace p413 := eq_true p413
        replace q413 := eq_true q413
        go_wp2_with (first | ((with_reducible refine gate_dst (N := 32) rfl ?_); refine Kd.R_lit (Kd.int .i64) _ 3 ?hg (N := 32) ?hd (xs := ([] : List Int)) (inner := []) (ok := fun _ => True) (okp := fun _ => True) ?hr ?hp (fun _ hk => hk) trivial (Below.refl _ _) (Nat.le_refl _) (by simp) ?_; (case hd => rfl); (case hg => rfl); (case hr => first | (go_simp; done) | (go_simp; rfl)); (case hp => exact (Reps.none _ _)); intro v415 w8 ho9 hb hg_ hnew_; clear hg_ hnew_; (first | rw [← Ny414.out] at ho9 | (simp only [Int.reduceToNat] at ho9; rw [← Ny414.out] at ho9)); have HO416 := S.lwA ho9; replace HB := S.sA hb; clear hb ho9) | ((with_reducible refine gate_builtin (b := .append) (xs := #[.tmp 32, .tmp 33]) rfl ?_); at_builtin; refine Kd.R_append_rows (Kd.int .i64) (w0 := w) w.heap.size rfl (.tmp 32) (.tmp 33) 36 3 (.int .i64 0) 8 rfl Try.underlying36 info3 rfl (by decide) (by omega) v415 y414 l0 _ _ _ (fun _ => True) (fun _ => False) rfl rfl ?aO ?aR (fun _ _ h => h) (fun _ h => h.elim) ?aF ?aB ?aS ?aL ?_; (case aR => exact S.cA HR0.out); (case aB => exact S.bA); (case aF => exact (fun _ _ => trivial)); (case aO => exact (S.uR HO416.out)); (case aS => exact (below_size S.bA)); (case aL => have := LMc7.out; omega); intro v418 w10 ho hb hg hat; rw [← Ny417.out] at ho; have n0_ := Aside0.mk (hb); have n1_ := Aside0.mk (ho); clear HB; clear HO416; have HB := n0_; have HO419 := n1_; clear n0_ n1_; clear ho hb hg hat))
        go_ret
        exact ⟨_, S.eW, S.uR HO419.out, S.bA⟩
       ·rw [if_neg c7] at H
        exact absurd H (by simp)
      ·rw [if_neg c6] at H
       have c6b0 : ((rd l0 x5_1) == a1) = false := beq_eq_false_iff_ne.mpr c6
       have c6b1 : ((rd l0 x5_1) != a1) = true := bne_iff_ne.mpr c6
       obtain ⟨y420, hy420⟩ : ∃ y_ : List Int, y_ = (([] : List Int)) := ⟨_, rfl⟩
       replace H : (if x5_1 ≤ (l0.length : Int) then (if y420.length + (l0.take (x5_1 : Int).toNat).length < 17592186044416 then ((some (y420 ++ (l0.take (x5_1 : Int).toNat) : List Int)).bind fun y424 => ((some (([a1] : List Int) : List Int)).bind fun y427 => (if y424.length + y427.length < 17592186044416 then ((some (y424 ++ y427 : List Int)).bind fun y430 => (if y430.length + (l0.drop (x5_1 : Int).toNat).length < 17592186044416 then (some (y430 ++ (l0.drop (x5_1 : Int).toNat))) else (none))) else (none)))) else (none)) else (none)) = some r := by first | (rw [hy420]; with_reducible exact H) | (have H2_ := (Option.bind_some _ _).symm.trans H; rw [hy420]; with_reducible exact H2_) | (have H2_ := (Option.bind_some _ _).symm.trans H; with_reducible exact H2_) | with_reducible exact H | (rw [hy420]; exact H) | exact H
       have Ny420 := Aside0.mk hy420
       clear hy420
       have c11b0 := eq_true (S.oD : 0 ≤ x5_1)
       by_cases c12 : x5_1 ≤ (l0.length : Int)
       ·rw [if_pos c12] at H
        have c12b0 := eq_true c12
        have c12b1 : decide (x5_1 ≤ (l0.length : Int)) = true := decide_eq_true c12
        clear c12
        by_cases c13 : y420.length + (l0.take (x5_1 : Int).toNat).length < 17592186044416
        ·rw [if_pos c13] at H
         have LMc13 := Aside0.mk c13
         clear c13
         obtain ⟨y424, hy424⟩ : ∃ y_ : List Int, y_ = (y420 ++ (l0.take (x5_1 : Int).toNat)) := ⟨_, rfl⟩
         replace H : ((some (([a1] : List Int) : List Int)).bind fun y427 => (if y424.length + y427.length < 17592186044416 then ((some (y424 ++ y427 : List Int)).bind fun y430 => (if y430.length + (l0.drop (x5_1 : Int).toNat).length < 17592186044416 then (some (y430 ++ (l0.drop (x5_1 : Int).toNat))) else (none))) else (none))) = some r := by first | (rw [hy424]; with_reducible exact H) | (have H2_ := (Option.bind_some _ _).symm.trans H; rw [hy424]; with_reducible exact H2_) | (have H2_ := (Option.bind_some _ _).symm.trans H; with_reducible exact H2_) | with_reducible exact H | (rw [hy424]; exact H) | exact H
         have Ny424 := Aside0.mk hy424
         clear hy424
         obtain ⟨y427, hy427⟩ : ∃ y_ : List Int, y_ = (([a1] : List Int)) := ⟨_, rfl⟩
         replace H : (if y424.length + y427.length < 17592186044416 then ((some (y424 ++ y427 : List Int)).bind fun y430 => (if y430.length + (l0.drop (x5_1 : Int).toNat).length < 17592186044416 then (some (y430 ++ (l0.drop (x5_1 : Int).toNat))) else (none))) else (none)) = some r := by first | (rw [hy427]; with_reducible exact H) | (have H2_ := (Option.bind_some _ _).symm.trans H; rw [hy427]; with_reducible exact H2_) | (have H2_ := (Option.bind_some _ _).symm.trans H; with_reducible exact H2_) | with_reducible exact H | (rw [hy427]; exact H) | exact H
         have Ny427 := Aside0.mk hy427
         clear hy427
         by_cases c14 : y424.length + y427.length < 17592186044416
         ·rw [if_pos c14] at H
          have LMc14 := Aside0.mk c14
          clear c14
          obtain ⟨y430, hy430⟩ : ∃ y_ : List Int, y_ = (y424 ++ y427) := ⟨_, rfl⟩
          replace H : (if y430.length + (l0.drop (x5_1 : Int).toNat).length < 17592186044416 then (some (y430 ++ (l0.drop (x5_1 : Int).toNat))) else (none)) = some r := by first | (rw [hy430]; with_reducible exact H) | (have H2_ := (Option.bind_some _ _).symm.trans H; rw [hy430]; with_reducible exact H2_) | (have H2_ := (Option.bind_some _ _).symm.trans H; with_reducible exact H2_) | with_reducible exact H | (rw [hy430]; exact H) | exact H
          have Ny430 := Aside0.mk hy430
          clear hy430
          have c15b0 := eq_true (S.oD : 0 ≤ x5_1)
          have c16b0 := eq_true (S.oD : x5_1 ≤ (l0.length : Int))
          by_cases c17 : y430.length + (l0.drop (x5_1 : Int).toNat).length < 17592186044416
          ·rw [if_pos c17] at H
           have LMc17 := Aside0.mk c17
           clear c17
           obtain ⟨y434, hy434⟩ : ∃ y_ : List Int, y_ = (y430 ++ (l0.drop (x5_1 : Int).toNat)) := ⟨_, rfl⟩
           replace H : (some y434) = some r := by first | (rw [hy434]; with_reducible exact H) | (have H2_ := (Option.bind_some _ _).symm.trans H; rw [hy434]; with_reducible exact H2_) | (have H2_ := (Option.bind_some _ _).symm.trans H; with_reducible exact H2_) | with_reducible exact H | (rw [hy434]; exact H) | exact H
           have Ny434 := Aside0.mk hy434
           clear hy434
           obtain rfl := Option.some.inj H
           have p412 : 0 ≤ (x5_1 : Int) := S.oD
           have q412 : x5_1 < (l0.length : Int) := S.oD
           obtain ⟨ad412, e412, hx412_0⟩ := Kd.at_int HR0.out x5_1 p412 q412
           cases e412
           replace hx412_0 := S.hb HB hx412_0
           replace p412 := eq_true p412
           replace q412 := eq_true q412
           have p413 : 0 ≤ (x5_1 : Int) := S.oD
           have q413 : x5_1 < (l0.length : Int) := S.oD
           obtain ⟨ad413, e413, hx413_0⟩ := Kd.at_int HR0.out x5_1 p413 q413
           obtain rfl : ad412 = ad413 := (by injection e413)
           replace hx413_0 := S.hb HB hx413_0
           replace p413 := eq_true p413
           replace q413 := eq_true q413
           try go_wp2
           replace HB := Aside0.mk (below_drew1 HB.out)
           obtain ⟨i019, hi019, _, hsz19, _⟩ := info_parts info3
           obtain ⟨hcut19, hA19, hC19⟩ := print_take_of (P := Try.prog) (Value.int .i64) 0 36 3 .i64 Try.underlying36 hi019 hsz19 (some ad412) c0 l0 x5_1 (S.oD) (S.oD) HC0.out
           have HR423 := Aside0.mk (Kd.C_of_reads (h1 := fun _ => rfl) (hA19 _ (Kd.reads_of_C HR0.out)))
           have HC423 := Aside0.mk hC19
           clear hA19 hC19 hi019 hsz19
           obtain ⟨i020, hi020, _, hsz20, _⟩ := info_parts info3
           obtain ⟨A20, hcut20, hA20, hC20⟩ := print_drop_of (P := Try.prog) (Value.int .i64) 0 36 3 .i64 Try.underlying36 hi020 hsz20 (some ad412) c0 l0 x5_1 (S.oD) (S.oD) HC0.out
           have HR433 := Aside0.mk (Kd.C_of_reads (h1 := fun _ => rfl) (hA20 _ (Kd.reads_of_C HR0.out)))
           have HC433 := Aside0.mk hC20
           clear hA20 hC20 hi020 hsz20
           refine start_ (n := 13) (S := fun w' => True) (ds := []) #[false, false, false, false, false, false, false, false, false, false, false, false, false] (by kernel_rfl) rfl rfl trivial (fun hHeld => ?_); refine with_tabW spec_l6Put.tab6 spec_l6Put.bits6 (fun HT_ HW_ => ?_)
           generalize wr.drew = w18 at HB HR423 HR433 hHeld ⊢
           refine S.pS 1 36 ?_
           refine S.pS 2 37 ?_
           refine S.pS 3 38 ?_
           refine S.pS 5 40 ?_
           refine S.pS 8 43 ?_
           refine S.pS 9 44 ?_
           refine S.pS 10 45 ?_
           refine join_ (σ := Value × Value × Value) 3 #[true, true, true, true, true, true, true, false, true, true, true, false, false] (fun s_ => [(35, s_.1), (39, s_.2.1), (41, s_.2.2)]) (fun s_ w' => (Kd.R (Kd.int .i64) 3 w' w.heap.size (fun k_ => some k_ ≠ (s_.2.2 : Value).ownBlock) s_.2.1 y424) ∧ (Kd.R (Kd.int .i64) 3 w' w.heap.size (fun k_ => some k_ ≠ (s_.2.1 : Value).ownBlock) s_.2.2 y427) ∧ (Below w.heap.size w w')) ?_ ?_
           rotate_left
           ·intro hCont
            refine two_ (i := 0) (j := 6) (Ni := some 35) (Nj := some 41) #[true, true, true, true, false, true, false, false, true, true, true, false, false] #[false, true, true, true, false, true, true, false, true, true, true, false, false] rfl rfl rfl rfl (two_of HT_.out (by kernel_rfl)) (by decide) (by decide) (fun K hK => ?_) (fun K hK => ?_)
            ·skip
             refine Kd.R_lit_step (Kd.int .i64) _ 3 ?hg (N := 35) ?hd (xs := ([] : List Int)) (inner := []) (ok := fun _ => True) (okp := fun _ => True) ?hr ?hp (fun _ hk => hk) trivial (Below.refl _ _) (Nat.le_refl _) (by simp) ?_; (case hd => rfl); (case hg => rfl); (case hr => first | (go_simp; done) | (go_simp; rfl)); (case hp => exact (Reps.none _ _))
             intro v421 w21 ho22 hb hg_ hnew_
             clear hg_ hnew_
             (first | rw [← Ny420.out] at ho22 | (simp only [Int.reduceToNat] at ho22; rw [← Ny420.out] at ho22))
             have HO422 := S.lwA ho22
             replace HB := S.sA hb
             clear hb ho22
             refine hK.out _ _ trivial (fun hHeld => ?_)
             clear hK K
             refine S.nm 35 ?_
             refine two_ (i := 4) (j := 6) (Ni := some 39) (Nj := some 41) #[true, true, true, true, true, true, false, false, true, true, true, false, false] #[true, true, true, true, false, true, true, false, true, true, true, false, false] rfl rfl rfl rfl (two_of HT_.out (by kernel_rfl)) (by decide) (by decide) (fun K hK => ?_) (fun K hK => ?_)
             ·skip
              refine Kd.R_append_rows_step (Kd.int .i64) (w0 := w) w.heap.size (by rfl) (.tmp 35) (.tmp 38) 36 3 (.int .i64 0) 8 rfl Try.underlying36 info3 rfl (by decide) (by omega) v421 y420 (l0.take (x5_1 : Int).toNat) _ _ _ (fun _ => True) (fun _ => False) rfl rfl ?aO ?aR (fun _ _ h => h) (fun _ h => h.elim) ?aF ?aB ?aS ?aL ?_
              (case aR => first | ((repeat (first | exact (Kd.C_below HR423.out HB.out) | (with_reducible refine Kd.C_alloc ?_ _) | (with_reducible refine Kd.C_drewN ?_ _) | (with_reducible refine Kd.C_drew ?_))); done) | (have e_ : (l0.take (x5_1 : Int).toNat).length = x5_1.toNat := (by rw [List.length_take]; have h_ : (x5_1 : Int) ≤ (l0.length : Int) := S.oD; omega); have q_ := Kd.C_below HR423.out HB.out; rw [e_] at q_; repeat (first | exact q_ | (with_reducible refine Kd.C_alloc ?_ _) | (with_reducible refine Kd.C_drewN ?_ _) | (with_reducible refine Kd.C_drew ?_))))
              (case aB => exact S.bA)
              (case aF => exact (fun _ _ => trivial))
              (case aO => exact (S.uR HO422.out))
              (case aS => exact (below_size S.bA))
              (case aL => have := LMc13.out; have hlx_ := (show (l0.take (x5_1 : Int).toNat).length = x5_1.toNat from (by rw [List.length_take]; have h_ : (x5_1 : Int) ≤ (l0.length : Int) := S.oD; omega)); omega)
              intro v425 w23 ho hb hg hat
              rw [← Ny424.out] at ho
              have n0_ := Aside0.mk (hb)
              have n1_ := Aside0.mk (ho)
              clear HB
              clear HO422
              have HB := n0_
              have HO426 := n1_
              clear n0_ n1_
              clear ho hb hg hat
              refine hK.out _ _ trivial (fun hHeld => ?_)
              clear hK K
              refine S.nm 39 ?_
              refine S.oN 6 41 #[true, true, true, true, true, true, true, false, true, true, true, false, false] (fun K hK => ?_)
              refine Kd.R_lit_step (Kd.int .i64) _ 3 ?hg (N := 41) ?hd (xs := ([a1] : List Int)) (inner := [.int .i64 a1]) (ok := fun _ => True) (okp := fun _ => True) ?hr ?hp (fun _ hk => hk) trivial (Below.refl _ _) (Nat.le_refl _) (by simp) ?_; (case hd => rfl); (case hg => rfl); (case hr => first | (go_simp; done) | (go_simp; rfl)); (case hp => exact (Reps.one (show Kd.M (Kd.int .i64) _ _ _ a1 [.int .i64 a1] from rfl) (Reps.none _ _)))
              intro v428 w24 ho25 hb hg_ hnew_
              clear hg_ hnew_
              (first | rw [← Ny427.out] at ho25 | (simp only [Int.reduceToNat] at ho25; rw [← Ny427.out] at ho25))
              have HO429 := S.rnA ho25 HO426
              replace HO426 := S.re HO426 ho25 hb
              replace HB := S.sA hb
              clear hb ho25
              refine hK.out _ _ trivial (fun hHeld => ?_)
              clear hK K
              refine S.nm 41 ?_
              exact norm_ (by simp only [putAll, Act.put, List.setIfInBounds_toArray, List.set_cons_zero, List.set_cons_succ]) (hCont (v421, v425, v428) _ ⟨(by (with_reducible repeat (first | apply Kd.R_alloc | apply Kd.R_drewN | apply Kd.R_drew)); exact Kd.R_mono HO426.out (fun _ hk => hk.2)), (by (with_reducible repeat (first | apply Kd.R_alloc | apply Kd.R_drewN | apply Kd.R_drew)); exact Kd.R_mono HO429.out (fun _ hk => hk.2)), S.bA⟩)
             ·skip
              refine Kd.R_lit_step (Kd.int .i64) _ 3 ?hg (N := 41) ?hd (xs := ([a1] : List Int)) (inner := [.int .i64 a1]) (ok := fun _ => True) (okp := fun _ => True) ?hr ?hp (fun _ hk => hk) trivial (Below.refl _ _) (Nat.le_refl _) (by simp) ?_; (case hd => rfl); (case hg => rfl); (case hr => first | (go_simp; done) | (go_simp; rfl)); (case hp => exact (Reps.one (show Kd.M (Kd.int .i64) _ _ _ a1 [.int .i64 a1] from rfl) (Reps.none _ _)))
              intro v428 w23 ho24 hb hg_ hnew_
              clear hg_ hnew_
              (first | rw [← Ny427.out] at ho24 | (simp only [Int.reduceToNat] at ho24; rw [← Ny427.out] at ho24))
              have HO429 := S.rnA ho24 HO422
              replace HO422 := S.re HO422 ho24 hb
              replace HB := S.sA hb
              clear hb ho24
              refine hK.out _ _ trivial (fun hHeld => ?_)
              clear hK K
              refine S.nm 41 ?_
              refine S.oN 4 39 #[true, true, true, true, true, true, true, false, true, true, true, false, false] (fun K hK => ?_)
              refine Kd.R_append_rows_step (Kd.int .i64) (w0 := w) w.heap.size (by rfl) (.tmp 35) (.tmp 38) 36 3 (.int .i64 0) 8 rfl Try.underlying36 info3 rfl (by decide) (by omega) v421 y420 (l0.take (x5_1 : Int).toNat) _ _ _ (fun k_ => S.N k_ v428) (fun _ => False) rfl rfl ?aO ?aR (fun _ _ h => h) (fun _ h => h.elim) ?aF ?aB ?aS ?aL ?_
              (case aR => first | ((repeat (first | exact (Kd.C_below HR423.out HB.out) | (with_reducible refine Kd.C_alloc ?_ _) | (with_reducible refine Kd.C_drewN ?_ _) | (with_reducible refine Kd.C_drew ?_))); done) | (have e_ : (l0.take (x5_1 : Int).toNat).length = x5_1.toNat := (by rw [List.length_take]; have h_ : (x5_1 : Int) ≤ (l0.length : Int) := S.oD; omega); have q_ := Kd.C_below HR423.out HB.out; rw [e_] at q_; repeat (first | exact q_ | (with_reducible refine Kd.C_alloc ?_ _) | (with_reducible refine Kd.C_drewN ?_ _) | (with_reducible refine Kd.C_drew ?_))))
              (case aB => exact S.bA)
              (case aF => exact (fun k_ hk => Kd.fresh' (Kd.R_lt (S.uR HO429.out)) k_ hk))
              (case aO => exact (by (with_reducible repeat (first | apply Kd.R_alloc | apply Kd.R_drewN | apply Kd.R_drew)); exact Kd.R_mono HO422.out (fun _ hk => hk.2)))
              (case aS => exact (below_size S.bA))
              (case aL => have := LMc13.out; have hlx_ := (show (l0.take (x5_1 : Int).toNat).length = x5_1.toNat from (by rw [List.length_take]; have h_ : (x5_1 : Int) ≤ (l0.length : Int) := S.oD; omega)); omega)
              intro v425 w25 ho hb hg hat
              rw [← Ny424.out] at ho
              have n0_ := Aside0.mk (Kd.R_after (ok := (fun _ => True)) (S.uR HO429.out) hg hat)
              have n1_ := Aside0.mk (hb)
              have n2_ := Aside0.mk (ho)
              clear HO429
              clear HB
              clear HO422
              have HO429 := n0_
              have HB := n1_
              have HO426 := n2_
              clear n0_ n1_ n2_
              clear ho hb hg hat
              refine hK.out _ _ trivial (fun hHeld => ?_)
              clear hK K
              refine S.nm 39 ?_
              exact norm_ (by simp only [putAll, Act.put, List.setIfInBounds_toArray, List.set_cons_zero, List.set_cons_succ]) (hCont (v421, v425, v428) _ ⟨(S.uR HO426.out), (by (with_reducible repeat (first | apply Kd.R_alloc | apply Kd.R_drewN | apply Kd.R_drew)); exact Kd.R_mono HO429.out (fun _ hk => hk.2)), S.bA⟩)
            ·skip
             refine Kd.R_lit_step (Kd.int .i64) _ 3 ?hg (N := 41) ?hd (xs := ([a1] : List Int)) (inner := [.int .i64 a1]) (ok := fun _ => True) (okp := fun _ => True) ?hr ?hp (fun _ hk => hk) trivial (Below.refl _ _) (Nat.le_refl _) (by simp) ?_; (case hd => rfl); (case hg => rfl); (case hr => first | (go_simp; done) | (go_simp; rfl)); (case hp => exact (Reps.one (show Kd.M (Kd.int .i64) _ _ _ a1 [.int .i64 a1] from rfl) (Reps.none _ _)))
             intro v428 w21 ho22 hb hg_ hnew_
             clear hg_ hnew_
             (first | rw [← Ny427.out] at ho22 | (simp only [Int.reduceToNat] at ho22; rw [← Ny427.out] at ho22))
             have HO429 := S.lwA ho22
             replace HB := S.sA hb
             clear hb ho22
             refine hK.out _ _ trivial (fun hHeld => ?_)
             clear hK K
             refine S.nm 41 ?_
             refine S.oN 0 35 #[true, true, true, true, false, true, true, false, true, true, true, false, false] (fun K hK => ?_)
             refine Kd.R_lit_step (Kd.int .i64) _ 3 ?hg (N := 35) ?hd (xs := ([] : List Int)) (inner := []) (ok := fun _ => True) (okp := fun _ => True) ?hr ?hp (fun _ hk => hk) trivial (Below.refl _ _) (Nat.le_refl _) (by simp) ?_; (case hd => rfl); (case hg => rfl); (case hr => first | (go_simp; done) | (go_simp; rfl)); (case hp => exact (Reps.none _ _))
             intro v421 w23 ho24 hb hg_ hnew_
             clear hg_ hnew_
             (first | rw [← Ny420.out] at ho24 | (simp only [Int.reduceToNat] at ho24; rw [← Ny420.out] at ho24))
             have HO422 := S.rnA ho24 HO429
             replace HO429 := S.re HO429 ho24 hb
             replace HB := S.sA hb
             clear hb ho24
             refine hK.out _ _ trivial (fun hHeld => ?_)
             clear hK K
             refine S.nm 35 ?_
             refine S.oN 4 39 #[true, true, true, true, true, true, true, false, true, true, true, false, false] (fun K hK => ?_)
             refine Kd.R_append_rows_step (Kd.int .i64) (w0 := w) w.heap.size (by rfl) (.tmp 35) (.tmp 38) 36 3 (.int .i64 0) 8 rfl Try.underlying36 info3 rfl (by decide) (by omega) v421 y420 (l0.take (x5_1 : Int).toNat) _ _ _ (fun k_ => S.N k_ v428) (fun _ => False) rfl rfl ?aO ?aR (fun _ _ h => h) (fun _ h => h.elim) ?aF ?aB ?aS ?aL ?_
             (case aR => first | ((repeat (first | exact (Kd.C_below HR423.out HB.out) | (with_reducible refine Kd.C_alloc ?_ _) | (with_reducible refine Kd.C_drewN ?_ _) | (with_reducible refine Kd.C_drew ?_))); done) | (have e_ : (l0.take (x5_1 : Int).toNat).length = x5_1.toNat := (by rw [List.length_take]; have h_ : (x5_1 : Int) ≤ (l0.length : Int) := S.oD; omega); have q_ := Kd.C_below HR423.out HB.out; rw [e_] at q_; repeat (first | exact q_ | (with_reducible refine Kd.C_alloc ?_ _) | (with_reducible refine Kd.C_drewN ?_ _) | (with_reducible refine Kd.C_drew ?_))))
             (case aB => exact S.bA)
             (case aF => exact (fun k_ hk => Kd.fresh' (Kd.R_lt (S.uR HO429.out)) k_ hk))
             (case aO => exact (by (with_reducible repeat (first | apply Kd.R_alloc | apply Kd.R_drewN | apply Kd.R_drew)); exact Kd.R_mono HO422.out (fun _ hk => hk.2)))
             (case aS => exact (below_size S.bA))
             (case aL => have := LMc13.out; have hlx_ := (show (l0.take (x5_1 : Int).toNat).length = x5_1.toNat from (by rw [List.length_take]; have h_ : (x5_1 : Int) ≤ (l0.length : Int) := S.oD; omega)); omega)
             intro v425 w25 ho hb hg hat
             rw [← Ny424.out] at ho
             have n0_ := Aside0.mk (Kd.R_after (ok := (fun _ => True)) (S.uR HO429.out) hg hat)
             have n1_ := Aside0.mk (hb)
             have n2_ := Aside0.mk (ho)
             clear HO429
             clear HB
             clear HO422
             have HO429 := n0_
             have HB := n1_
             have HO426 := n2_
             clear n0_ n1_ n2_
             clear ho hb hg hat
             refine hK.out _ _ trivial (fun hHeld => ?_)
             clear hK K
             refine S.nm 39 ?_
             exact norm_ (by simp only [putAll, Act.put, List.setIfInBounds_toArray, List.set_cons_zero, List.set_cons_succ]) (hCont (v421, v425, v428) _ ⟨(S.uR HO426.out), (by (with_reducible repeat (first | apply Kd.R_alloc | apply Kd.R_drewN | apply Kd.R_drew)); exact Kd.R_mono HO429.out (fun _ hk => hk.2)), S.bA⟩)
           rintro ⟨v421, v425, v428⟩ w26 ⟨h0_, h1_, h2_⟩
           have n0_ : Aside0 (Kd.R (Kd.int .i64) 3 w26 w.heap.size (fun k_ => S.N k_ v428) v425 y424) := ⟨h0_⟩
           have n1_ : Aside0 (Kd.R (Kd.int .i64) 3 w26 w.heap.size (fun k_ => S.N k_ v425) v428 y427) := ⟨h1_⟩
           have n2_ : Aside0 (Below w.heap.size w w26) := ⟨h2_⟩
           clear HB
           clear h0_ h1_ h2_
           have HO426 := n0_
           have HO429 := n1_
           have HB := n2_
           clear n0_ n1_ n2_
           have hHeld := trivial
           obtain ⟨Ao28, co28, eo28⟩ := Kd.R_slice HO429.out
           (first | subst eo28 | (injection eo28 with f1_ f2_ f3_; have f4_ := f1_.symm; have f5_ := f3_.symm; clear f1_ f2_ f3_; subst f4_; subst f5_))
           refine norm_ (a' := ?_) ?_ ?_
           rotate_left
           ·simp only [putAll, Act.put, List.setIfInBounds_toArray, List.set_cons_zero, List.set_cons_succ]
            rfl
           refine S.oN 7 42 #[true, true, true, true, true, true, true, true, true, true, true, false, false] (fun K hK => ?_)
           refine Kd.R_append_rows_step (Kd.int .i64) (w0 := w) w.heap.size (by rfl) (.tmp 39) (.tmp 41) 36 3 (.int .i64 0) 8 rfl Try.underlying36 info3 rfl (by decide) (by omega) v425 y424 y427 _ _ _ (fun k_ => S.N k_ (.slice Ao28 y427.length co28)) (fun _ => False) rfl rfl ?aO ?aR (fun _ _ h => h) (fun _ h => h.elim) ?aF ?aB ?aS ?aL ?_
           (case aR => exact S.rd HO429)
           (case aB => exact S.bA)
           (case aF => exact (fun k_ hk => Kd.fresh' (Kd.R_lt (S.uR HO429.out)) k_ hk))
           (case aO => exact (S.uR HO426.out))
           (case aS => exact (below_size S.bA))
           (case aL => have := LMc14.out; omega)
           intro v431 w27 ho hb hg hat
           rw [← Ny430.out] at ho
           have n0_ := Aside0.mk (Kd.R_after (ok := (fun _ => True)) (by (with_reducible repeat (first | apply Kd.R_alloc | apply Kd.R_drewN | apply Kd.R_drew)); exact Kd.R_mono HO429.out (fun _ hk => ⟨trivial, hk⟩)) hg hat)
           have n1_ := Aside0.mk (hb)
           have n2_ := Aside0.mk (ho)
           clear HO429
           clear HB
           clear HO426
           have HO429 := n0_
           have HB := n1_
           have HO432 := n2_
           clear n0_ n1_ n2_
           clear ho hb hg hat
           refine hK.out _ _ trivial (fun hHeld => ?_)
           clear hK K
           refine S.nm 42 ?_
           refine S.oN 11 46 #[true, true, true, true, true, true, true, true, true, true, true, true, false] (fun K hK => ?_)
           refine Kd.R_append_rows_step (Kd.int .i64) (w0 := w) w.heap.size (by rfl) (.tmp 42) (.tmp 45) 36 3 (.int .i64 0) 8 rfl Try.underlying36 info3 rfl (by decide) (by omega) v431 y430 (l0.drop (x5_1 : Int).toNat) _ _ _ (fun k_ => S.N k_ (.slice Ao28 y427.length co28)) (fun _ => False) rfl rfl ?aO ?aR (fun _ _ h => h) (fun _ h => h.elim) ?aF ?aB ?aS ?aL ?_
           (case aR => first | (rw [← show (l0.drop (x5_1 : Int).toNat).length = (l0.length - x5_1.toNat) from List.length_drop]; repeat (first | exact (Kd.C_below HR433.out HB.out) | (with_reducible refine Kd.C_alloc ?_ _) | (with_reducible refine Kd.C_drewN ?_ _) | (with_reducible refine Kd.C_drew ?_))) | (repeat (first | exact (Kd.C_below HR433.out HB.out) | (with_reducible refine Kd.C_alloc ?_ _) | (with_reducible refine Kd.C_drewN ?_ _) | (with_reducible refine Kd.C_drew ?_))))
           (case aB => exact S.bA)
           (case aF => exact (fun k_ hk => Kd.fresh' (Kd.R_lt (S.uR HO429.out)) k_ hk))
           (case aO => exact (S.uR HO432.out))
           (case aS => exact (below_size S.bA))
           (case aL => have := LMc17.out; have hlx_ := (show (l0.drop (x5_1 : Int).toNat).length = (l0.length - x5_1.toNat) from List.length_drop); omega)
           intro v435 w29 ho hb hg hat
           rw [← Ny434.out] at ho
           have n0_ := Aside0.mk (Kd.R_after (ok := (fun _ => True)) (S.uR HO429.out) hg hat)
           have n1_ := Aside0.mk (hb)
           have n2_ := Aside0.mk (ho)
           clear HO429
           clear HB
           clear HO432
           have HO429 := n0_
           have HB := n1_
           have HO436 := n2_
           clear n0_ n1_ n2_
           clear ho hb hg hat
           refine hK.out _ _ trivial (fun hHeld => ?_)
           clear hK K
           refine S.nm 46 ?_
           refine S.pS 12 4 ?_
           refine done_ (done_of HT_.out (by kernel_rfl)) ?_
           try go_wp2
           go_ret
           exact ⟨_, S.eW, by (with_reducible repeat (first | apply Kd.R_alloc | apply Kd.R_drewN | apply Kd.R_drew)); exact Kd.R_mono HO436.out (fun _ hk => trivial), S.bA⟩
          ·rw [if_neg c17] at H
           exact absurd H (by simp)
         ·rw [if_neg c14] at H
          exact absurd H (by simp)
        ·rw [if_neg c13] at H
         exact absurd H (by simp)
       ·rw [if_neg c12] at H
        exact absurd H (by simp)
    ·rw [if_neg c4] at H
     exact absurd H (by simp)
   ·obtain ⟨y437, hy437⟩ : ∃ y_ : List Int, y_ = (([] : List Int)) := ⟨_, rfl⟩
    replace H : (if 0 ≤ x5_1 then (if x5_1 ≤ (l0.length : Int) then (if y437.length + (l0.take (x5_1 : Int).toNat).length < 17592186044416 then ((some (y437 ++ (l0.take (x5_1 : Int).toNat) : List Int)).bind fun y441 => ((some (([a1] : List Int) : List Int)).bind fun y444 => (if y441.length + y444.length < 17592186044416 then ((some (y441 ++ y444 : List Int)).bind fun y447 => (if y447.length + (l0.drop (x5_1 : Int).toNat).length < 17592186044416 then (some (y447 ++ (l0.drop (x5_1 : Int).toNat))) else (none))) else (none)))) else (none)) else (none)) else (none)) = some r := by first | (rw [hy437]; with_reducible exact H) | (have H2_ := (Option.bind_some _ _).symm.trans H; rw [hy437]; with_reducible exact H2_) | (have H2_ := (Option.bind_some _ _).symm.trans H; with_reducible exact H2_) | with_reducible exact H | (rw [hy437]; exact H) | exact H
    have Ny437 := Aside0.mk hy437
    clear hy437
    by_cases c30 : 0 ≤ x5_1
    ·rw [if_pos c30] at H
     have c30b0 := eq_true c30
     have c30b1 : decide (0 ≤ x5_1) = true := decide_eq_true c30
     clear c30
     by_cases c31 : x5_1 ≤ (l0.length : Int)
     ·rw [if_pos c31] at H
      have c31b0 := eq_true c31
      have c31b1 : decide (x5_1 ≤ (l0.length : Int)) = true := decide_eq_true c31
      clear c31
      by_cases c32 : y437.length + (l0.take (x5_1 : Int).toNat).length < 17592186044416
      ·rw [if_pos c32] at H
       have LMc32 := Aside0.mk c32
       clear c32
       obtain ⟨y441, hy441⟩ : ∃ y_ : List Int, y_ = (y437 ++ (l0.take (x5_1 : Int).toNat)) := ⟨_, rfl⟩
       replace H : ((some (([a1] : List Int) : List Int)).bind fun y444 => (if y441.length + y444.length < 17592186044416 then ((some (y441 ++ y444 : List Int)).bind fun y447 => (if y447.length + (l0.drop (x5_1 : Int).toNat).length < 17592186044416 then (some (y447 ++ (l0.drop (x5_1 : Int).toNat))) else (none))) else (none))) = some r := by first | (rw [hy441]; with_reducible exact H) | (have H2_ := (Option.bind_some _ _).symm.trans H; rw [hy441]; with_reducible exact H2_) | (have H2_ := (Option.bind_some _ _).symm.trans H; with_reducible exact H2_) | with_reducible exact H | (rw [hy441]; exact H) | exact H
       have Ny441 := Aside0.mk hy441
       clear hy441
       obtain ⟨y444, hy444⟩ : ∃ y_ : List Int, y_ = (([a1] : List Int)) := ⟨_, rfl⟩
       replace H : (if y441.length + y444.length < 17592186044416 then ((some (y441 ++ y444 : List Int)).bind fun y447 => (if y447.length + (l0.drop (x5_1 : Int).toNat).length < 17592186044416 then (some (y447 ++ (l0.drop (x5_1 : Int).toNat))) else (none))) else (none)) = some r := by first | (rw [hy444]; with_reducible exact H) | (have H2_ := (Option.bind_some _ _).symm.trans H; rw [hy444]; with_reducible exact H2_) | (have H2_ := (Option.bind_some _ _).symm.trans H; with_reducible exact H2_) | with_reducible exact H | (rw [hy444]; exact H) | exact H
       have Ny444 := Aside0.mk hy444
       clear hy444
       by_cases c33 : y441.length + y444.length < 17592186044416
       ·rw [if_pos c33] at H
        have LMc33 := Aside0.mk c33
        clear c33
        obtain ⟨y447, hy447⟩ : ∃ y_ : List Int, y_ = (y441 ++ y444) := ⟨_, rfl⟩
        replace H : (if y447.length + (l0.drop (x5_1 : Int).toNat).length < 17592186044416 then (some (y447 ++ (l0.drop (x5_1 : Int).toNat))) else (none)) = some r := by first | (rw [hy447]; with_reducible exact H) | (have H2_ := (Option.bind_some _ _).symm.trans H; rw [hy447]; with_reducible exact H2_) | (have H2_ := (Option.bind_some _ _).symm.trans H; with_reducible exact H2_) | with_reducible exact H | (rw [hy447]; exact H) | exact H
        have Ny447 := Aside0.mk hy447
        clear hy447
        have c34b0 := eq_true (S.oD : 0 ≤ x5_1)
        have c35b0 := eq_true (S.oD : x5_1 ≤ (l0.length : Int))
        by_cases c36 : y447.length + (l0.drop (x5_1 : Int).toNat).length < 17592186044416
        ·rw [if_pos c36] at H
         have LMc36 := Aside0.mk c36
         clear c36
         obtain ⟨y451, hy451⟩ : ∃ y_ : List Int, y_ = (y447 ++ (l0.drop (x5_1 : Int).toNat)) := ⟨_, rfl⟩
         replace H : (some y451) = some r := by first | (rw [hy451]; with_reducible exact H) | (have H2_ := (Option.bind_some _ _).symm.trans H; rw [hy451]; with_reducible exact H2_) | (have H2_ := (Option.bind_some _ _).symm.trans H; with_reducible exact H2_) | with_reducible exact H | (rw [hy451]; exact H) | exact H
         have Ny451 := Aside0.mk hy451
         clear hy451
         obtain rfl := Option.some.inj H
         try go_wp2
         replace HB := Aside0.mk (below_drew1 HB.out)
         obtain ⟨i038, hi038, _, hsz38, _⟩ := info_parts info3
         obtain ⟨hcut38, hA38, hC38⟩ := print_take_of (P := Try.prog) (Value.int .i64) 0 36 3 .i64 Try.underlying36 hi038 hsz38 A0 c0 l0 x5_1 (S.oD) (S.oD) HC0.out
         have HR440 := Aside0.mk (Kd.C_of_reads (h1 := fun _ => rfl) (hA38 _ (Kd.reads_of_C HR0.out)))
         have HC440 := Aside0.mk hC38
         clear hA38 hC38 hi038 hsz38
         obtain ⟨i039, hi039, _, hsz39, _⟩ := info_parts info3
         obtain ⟨A39, hcut39, hA39, hC39⟩ := print_drop_of (P := Try.prog) (Value.int .i64) 0 36 3 .i64 Try.underlying36 hi039 hsz39 A0 c0 l0 x5_1 (S.oD) (S.oD) HC0.out
         have HR450 := Aside0.mk (Kd.C_of_reads (h1 := fun _ => rfl) (hA39 _ (Kd.reads_of_C HR0.out)))
         have HC450 := Aside0.mk hC39
         clear hA39 hC39 hi039 hsz39
         refine start_ (n := 13) (S := fun w' => True) (ds := []) #[false, false, false, false, false, false, false, false, false, false, false, false, false] (by kernel_rfl) rfl rfl trivial (fun hHeld => ?_); refine with_tabW spec_l6Put.tab6 spec_l6Put.bits6 (fun HT_ HW_ => ?_)
         generalize wr.drew = w37 at HB HR440 HR450 hHeld ⊢
         refine S.pS 1 36 ?_
         refine S.pS 2 37 ?_
         refine S.pS 3 38 ?_
         refine S.pS 5 40 ?_
         refine S.pS 8 43 ?_
         refine S.pS 9 44 ?_
         refine S.pS 10 45 ?_
         refine join_ (σ := Value × Value × Value) 3 #[true, true, true, true, true, true, true, false, true, true, true, false, false] (fun s_ => [(35, s_.1), (39, s_.2.1), (41, s_.2.2)]) (fun s_ w' => (Kd.R (Kd.int .i64) 3 w' w.heap.size (fun k_ => some k_ ≠ (s_.2.2 : Value).ownBlock) s_.2.1 y441) ∧ (Kd.R (Kd.int .i64) 3 w' w.heap.size (fun k_ => some k_ ≠ (s_.2.1 : Value).ownBlock) s_.2.2 y444) ∧ (Below w.heap.size w w')) ?_ ?_
         rotate_left
         ·intro hCont
          refine two_ (i := 0) (j := 6) (Ni := some 35) (Nj := some 41) #[true, true, true, true, false, true, false, false, true, true, true, false, false] #[false, true, true, true, false, true, true, false, true, true, true, false, false] rfl rfl rfl rfl (two_of HT_.out (by kernel_rfl)) (by decide) (by decide) (fun K hK => ?_) (fun K hK => ?_)
          ·skip
           refine Kd.R_lit_step (Kd.int .i64) _ 3 ?hg (N := 35) ?hd (xs := ([] : List Int)) (inner := []) (ok := fun _ => True) (okp := fun _ => True) ?hr ?hp (fun _ hk => hk) trivial (Below.refl _ _) (Nat.le_refl _) (by simp) ?_; (case hd => rfl); (case hg => rfl); (case hr => first | (go_simp; done) | (go_simp; rfl)); (case hp => exact (Reps.none _ _))
           intro v438 w40 ho41 hb hg_ hnew_
           clear hg_ hnew_
           (first | rw [← Ny437.out] at ho41 | (simp only [Int.reduceToNat] at ho41; rw [← Ny437.out] at ho41))
           have HO439 := S.lwA ho41
           replace HB := S.sA hb
           clear hb ho41
           refine hK.out _ _ trivial (fun hHeld => ?_)
           clear hK K
           refine S.nm 35 ?_
           refine two_ (i := 4) (j := 6) (Ni := some 39) (Nj := some 41) #[true, true, true, true, true, true, false, false, true, true, true, false, false] #[true, true, true, true, false, true, true, false, true, true, true, false, false] rfl rfl rfl rfl (two_of HT_.out (by kernel_rfl)) (by decide) (by decide) (fun K hK => ?_) (fun K hK => ?_)
           ·skip
            refine Kd.R_append_rows_step (Kd.int .i64) (w0 := w) w.heap.size (by rfl) (.tmp 35) (.tmp 38) 36 3 (.int .i64 0) 8 rfl Try.underlying36 info3 rfl (by decide) (by omega) v438 y437 (l0.take (x5_1 : Int).toNat) _ _ _ (fun _ => True) (fun _ => False) rfl rfl ?aO ?aR (fun _ _ h => h) (fun _ h => h.elim) ?aF ?aB ?aS ?aL ?_
            (case aR => first | ((repeat (first | exact (Kd.C_below HR440.out HB.out) | (with_reducible refine Kd.C_alloc ?_ _) | (with_reducible refine Kd.C_drewN ?_ _) | (with_reducible refine Kd.C_drew ?_))); done) | (have e_ : (l0.take (x5_1 : Int).toNat).length = x5_1.toNat := (by rw [List.length_take]; have h_ : (x5_1 : Int) ≤ (l0.length : Int) := S.oD; omega); have q_ := Kd.C_below HR440.out HB.out; rw [e_] at q_; repeat (first | exact q_ | (with_reducible refine Kd.C_alloc ?_ _) | (with_reducible refine Kd.C_drewN ?_ _) | (with_reducible refine Kd.C_drew ?_))))
            (case aB => exact S.bA)
            (case aF => exact (fun _ _ => trivial))
            (case aO => exact (S.uR HO439.out))
            (case aS => exact (below_size S.bA))
            (case aL => have := LMc32.out; have hlx_ := (show (l0.take (x5_1 : Int).toNat).length = x5_1.toNat from (by rw [List.length_take]; have h_ : (x5_1 : Int) ≤ (l0.length : Int) := S.oD; omega)); omega)
            intro v442 w42 ho hb hg hat
            rw [← Ny441.out] at ho
            have n0_ := Aside0.mk (hb)
            have n1_ := Aside0.mk (ho)
            clear HB
            clear HO439
            have HB := n0_
            have HO443 := n1_
            clear n0_ n1_
            clear ho hb hg hat
            refine hK.out _ _ trivial (fun hHeld => ?_)
            clear hK K
            refine S.nm 39 ?_
            refine S.oN 6 41 #[true, true, true, true, true, true, true, false, true, true, true, false, false] (fun K hK => ?_)
            refine Kd.R_lit_step (Kd.int .i64) _ 3 ?hg (N := 41) ?hd (xs := ([a1] : List Int)) (inner := [.int .i64 a1]) (ok := fun _ => True) (okp := fun _ => True) ?hr ?hp (fun _ hk => hk) trivial (Below.refl _ _) (Nat.le_refl _) (by simp) ?_; (case hd => rfl); (case hg => rfl); (case hr => first | (go_simp; done) | (go_simp; rfl)); (case hp => exact (Reps.one (show Kd.M (Kd.int .i64) _ _ _ a1 [.int .i64 a1] from rfl) (Reps.none _ _)))
            intro v445 w43 ho44 hb hg_ hnew_
            clear hg_ hnew_
            (first | rw [← Ny444.out] at ho44 | (simp only [Int.reduceToNat] at ho44; rw [← Ny444.out] at ho44))
            have HO446 := S.rnA ho44 HO443
            replace HO443 := S.re HO443 ho44 hb
            replace HB := S.sA hb
            clear hb ho44
            refine hK.out _ _ trivial (fun hHeld => ?_)
            clear hK K
            refine S.nm 41 ?_
            exact norm_ (by simp only [putAll, Act.put, List.setIfInBounds_toArray, List.set_cons_zero, List.set_cons_succ]) (hCont (v438, v442, v445) _ ⟨(by (with_reducible repeat (first | apply Kd.R_alloc | apply Kd.R_drewN | apply Kd.R_drew)); exact Kd.R_mono HO443.out (fun _ hk => hk.2)), (by (with_reducible repeat (first | apply Kd.R_alloc | apply Kd.R_drewN | apply Kd.R_drew)); exact Kd.R_mono HO446.out (fun _ hk => hk.2)), S.bA⟩)
           ·skip
            refine Kd.R_lit_step (Kd.int .i64) _ 3 ?hg (N := 41) ?hd (xs := ([a1] : List Int)) (inner := [.int .i64 a1]) (ok := fun _ => True) (okp := fun _ => True) ?hr ?hp (fun _ hk => hk) trivial (Below.refl _ _) (Nat.le_refl _) (by simp) ?_; (case hd => rfl); (case hg => rfl); (case hr => first | (go_simp; done) | (go_simp; rfl)); (case hp => exact (Reps.one (show Kd.M (Kd.int .i64) _ _ _ a1 [.int .i64 a1] from rfl) (Reps.none _ _)))
            intro v445 w42 ho43 hb hg_ hnew_
            clear hg_ hnew_
            (first | rw [← Ny444.out] at ho43 | (simp only [Int.reduceToNat] at ho43; rw [← Ny444.out] at ho43))
            have HO446 := S.rnA ho43 HO439
            replace HO439 := S.re HO439 ho43 hb
            replace HB := S.sA hb
            clear hb ho43
            refine hK.out _ _ trivial (fun hHeld => ?_)
            clear hK K
            refine S.nm 41 ?_
            refine S.oN 4 39 #[true, true, true, true, true, true, true, false, true, true, true, false, false] (fun K hK => ?_)
            refine Kd.R_append_rows_step (Kd.int .i64) (w0 := w) w.heap.size (by rfl) (.tmp 35) (.tmp 38) 36 3 (.int .i64 0) 8 rfl Try.underlying36 info3 rfl (by decide) (by omega) v438 y437 (l0.take (x5_1 : Int).toNat) _ _ _ (fun k_ => S.N k_ v445) (fun _ => False) rfl rfl ?aO ?aR (fun _ _ h => h) (fun _ h => h.elim) ?aF ?aB ?aS ?aL ?_
            (case aR => first | ((repeat (first | exact (Kd.C_below HR440.out HB.out) | (with_reducible refine Kd.C_alloc ?_ _) | (with_reducible refine Kd.C_drewN ?_ _) | (with_reducible refine Kd.C_drew ?_))); done) | (have e_ : (l0.take (x5_1 : Int).toNat).length = x5_1.toNat := (by rw [List.length_take]; have h_ : (x5_1 : Int) ≤ (l0.length : Int) := S.oD; omega); have q_ := Kd.C_below HR440.out HB.out; rw [e_] at q_; repeat (first | exact q_ | (with_reducible refine Kd.C_alloc ?_ _) | (with_reducible refine Kd.C_drewN ?_ _) | (with_reducible refine Kd.C_drew ?_))))
            (case aB => exact S.bA)
            (case aF => exact (fun k_ hk => Kd.fresh' (Kd.R_lt (S.uR HO446.out)) k_ hk))
            (case aO => exact (by (with_reducible repeat (first | apply Kd.R_alloc | apply Kd.R_drewN | apply Kd.R_drew)); exact Kd.R_mono HO439.out (fun _ hk => hk.2)))
            (case aS => exact (below_size S.bA))
            (case aL => have := LMc32.out; have hlx_ := (show (l0.take (x5_1 : Int).toNat).length = x5_1.toNat from (by rw [List.length_take]; have h_ : (x5_1 : Int) ≤ (l0.length : Int) := S.oD; omega)); omega)
            intro v442 w44 ho hb hg hat
            rw [← Ny441.out] at ho
            have n0_ := Aside0.mk (Kd.R_after (ok := (fun _ => True)) (S.uR HO446.out) hg hat)
            have n1_ := Aside0.mk (hb)
            have n2_ := Aside0.mk (ho)
            clear HO446
            clear HB
            clear HO439
            have HO446 := n0_
            have HB := n1_
            have HO443 := n2_
            clear n0_ n1_ n2_
            clear ho hb hg hat
            refine hK.out _ _ trivial (fun hHeld => ?_)
            clear hK K
            refine S.nm 39 ?_
            exact norm_ (by simp only [putAll, Act.put, List.setIfInBounds_toArray, List.set_cons_zero, List.set_cons_succ]) (hCont (v438, v442, v445) _ ⟨(S.uR HO443.out), (by (with_reducible repeat (first | apply Kd.R_alloc | apply Kd.R_drewN | apply Kd.R_drew)); exact Kd.R_mono HO446.out (fun _ hk => hk.2)), S.bA⟩)
          ·skip
           refine Kd.R_lit_step (Kd.int .i64) _ 3 ?hg (N := 41) ?hd (xs := ([a1] : List Int)) (inner := [.int .i64 a1]) (ok := fun _ => True) (okp := fun _ => True) ?hr ?hp (fun _ hk => hk) trivial (Below.refl _ _) (Nat.le_refl _) (by simp) ?_; (case hd => rfl); (case hg => rfl); (case hr => first | (go_simp; done) | (go_simp; rfl)); (case hp => exact (Reps.one (show Kd.M (Kd.int .i64) _ _ _ a1 [.int .i64 a1] from rfl) (Reps.none _ _)))
           intro v445 w40 ho41 hb hg_ hnew_
           clear hg_ hnew_
           (first | rw [← Ny444.out] at ho41 | (simp only [Int.reduceToNat] at ho41; rw [← Ny444.out] at ho41))
           have HO446 := S.lwA ho41
           replace HB := S.sA hb
           clear hb ho41
           refine hK.out _ _ trivial (fun hHeld => ?_)
           clear hK K
           refine S.nm 41 ?_
           refine S.oN 0 35 #[true, true, true, true, false, true, true, false, true, true, true, false, false] (fun K hK => ?_)
           refine Kd.R_lit_step (Kd.int .i64) _ 3 ?hg (N := 35) ?hd (xs := ([] : List Int)) (inner := []) (ok := fun _ => True) (okp := fun _ => True) ?hr ?hp (fun _ hk => hk) trivial (Below.refl _ _) (Nat.le_refl _) (by simp) ?_; (case hd => rfl); (case hg => rfl); (case hr => first | (go_simp; done) | (go_simp; rfl)); (case hp => exact (Reps.none _ _))
           intro v438 w42 ho43 hb hg_ hnew_
           clear hg_ hnew_
           (first | rw [← Ny437.out] at ho43 | (simp only [Int.reduceToNat] at ho43; rw [← Ny437.out] at ho43))
           have HO439 := S.rnA ho43 HO446
           replace HO446 := S.re HO446 ho43 hb
           replace HB := S.sA hb
           clear hb ho43
           refine hK.out _ _ trivial (fun hHeld => ?_)
           clear hK K
           refine S.nm 35 ?_
           refine S.oN 4 39 #[true, true, true, true, true, true, true, false, true, true, true, false, false] (fun K hK => ?_)
           refine Kd.R_append_rows_step (Kd.int .i64) (w0 := w) w.heap.size (by rfl) (.tmp 35) (.tmp 38) 36 3 (.int .i64 0) 8 rfl Try.underlying36 info3 rfl (by decide) (by omega) v438 y437 (l0.take (x5_1 : Int).toNat) _ _ _ (fun k_ => S.N k_ v445) (fun _ => False) rfl rfl ?aO ?aR (fun _ _ h => h) (fun _ h => h.elim) ?aF ?aB ?aS ?aL ?_
           (case aR => first | ((repeat (first | exact (Kd.C_below HR440.out HB.out) | (with_reducible refine Kd.C_alloc ?_ _) | (with_reducible refine Kd.C_drewN ?_ _) | (with_reducible refine Kd.C_drew ?_))); done) | (have e_ : (l0.take (x5_1 : Int).toNat).length = x5_1.toNat := (by rw [List.length_take]; have h_ : (x5_1 : Int) ≤ (l0.length : Int) := S.oD; omega); have q_ := Kd.C_below HR440.out HB.out; rw [e_] at q_; repeat (first | exact q_ | (with_reducible refine Kd.C_alloc ?_ _) | (with_reducible refine Kd.C_drewN ?_ _) | (with_reducible refine Kd.C_drew ?_))))
           (case aB => exact S.bA)
           (case aF => exact (fun k_ hk => Kd.fresh' (Kd.R_lt (S.uR HO446.out)) k_ hk))
           (case aO => exact (by (with_reducible repeat (first | apply Kd.R_alloc | apply Kd.R_drewN | apply Kd.R_drew)); exact Kd.R_mono HO439.out (fun _ hk => hk.2)))
           (case aS => exact (below_size S.bA))
           (case aL => have := LMc32.out; have hlx_ := (show (l0.take (x5_1 : Int).toNat).length = x5_1.toNat from (by rw [List.length_take]; have h_ : (x5_1 : Int) ≤ (l0.length : Int) := S.oD; omega)); omega)
           intro v442 w44 ho hb hg hat
           rw [← Ny441.out] at ho
           have n0_ := Aside0.mk (Kd.R_after (ok := (fun _ => True)) (S.uR HO446.out) hg hat)
           have n1_ := Aside0.mk (hb)
           have n2_ := Aside0.mk (ho)
           clear HO446
           clear HB
           clear HO439
           have HO446 := n0_
           have HB := n1_
           have HO443 := n2_
           clear n0_ n1_ n2_
           clear ho hb hg hat
           refine hK.out _ _ trivial (fun hHeld => ?_)
           clear hK K
           refine S.nm 39 ?_
           exact norm_ (by simp only [putAll, Act.put, List.setIfInBounds_toArray, List.set_cons_zero, List.set_cons_succ]) (hCont (v438, v442, v445) _ ⟨(S.uR HO443.out), (by (with_reducible repeat (first | apply Kd.R_alloc | apply Kd.R_drewN | apply Kd.R_drew)); exact Kd.R_mono HO446.out (fun _ hk => hk.2)), S.bA⟩)
         rintro ⟨v438, v442, v445⟩ w45 ⟨h0_, h1_, h2_⟩
         have n0_ : Aside0 (Kd.R (Kd.int .i64) 3 w45 w.heap.size (fun k_ => S.N k_ v445) v442 y441) := ⟨h0_⟩
         have n1_ : Aside0 (Kd.R (Kd.int .i64) 3 w45 w.heap.size (fun k_ => S.N k_ v442) v445 y444) := ⟨h1_⟩
         have n2_ : Aside0 (Below w.heap.size w w45) := ⟨h2_⟩
         clear HB
         clear h0_ h1_ h2_
         have HO443 := n0_
         have HO446 := n1_
         have HB := n2_
         clear n0_ n1_ n2_
         have hHeld := trivial
         obtain ⟨Ao47, co47, eo47⟩ := Kd.R_slice HO446.out
         (first | subst eo47 | (injection eo47 with f1_ f2_ f3_; have f4_ := f1_.symm; have f5_ := f3_.symm; clear f1_ f2_ f3_; subst f4_; subst f5_))
         refine norm_ (a' := ?_) ?_ ?_
         rotate_left
         ·simp only [putAll, Act.put, List.setIfInBounds_toArray, List.set_cons_zero, List.set_cons_succ]
          rfl
         refine S.oN 7 42 #[true, true, true, true, true, true, true, true, true, true, true, false, false] (fun K hK => ?_)
         refine Kd.R_append_rows_step (Kd.int .i64) (w0 := w) w.heap.size (by rfl) (.tmp 39) (.tmp 41) 36 3 (.int .i64 0) 8 rfl Try.underlying36 info3 rfl (by decide) (by omega) v442 y441 y444 _ _ _ (fun k_ => S.N k_ (.slice Ao47 y444.length co47)) (fun _ => False) rfl rfl ?aO ?aR (fun _ _ h => h) (fun _ h => h.elim) ?aF ?aB ?aS ?aL ?_
         (case aR => exact S.rd HO446)
         (case aB => exact S.bA)
         (case aF => exact (fun k_ hk => Kd.fresh' (Kd.R_lt (S.uR HO446.out)) k_ hk))
         (case aO => exact (S.uR HO443.out))
         (case aS => exact (below_size S.bA))
         (case aL => have := LMc33.out; omega)
         intro v448 w46 ho hb hg hat
         rw [← Ny447.out] at ho
         have n0_ := Aside0.mk (Kd.R_after (ok := (fun _ => True)) (by (with_reducible repeat (first | apply Kd.R_alloc | apply Kd.R_drewN | apply Kd.R_drew)); exact Kd.R_mono HO446.out (fun _ hk => ⟨trivial, hk⟩)) hg hat)
         have n1_ := Aside0.mk (hb)
         have n2_ := Aside0.mk (ho)
         clear HO446
         clear HB
         clear HO443
         have HO446 := n0_
         have HB := n1_
         have HO449 := n2_
         clear n0_ n1_ n2_
         clear ho hb hg hat
         refine hK.out _ _ trivial (fun hHeld => ?_)
         clear hK K
         refine S.nm 42 ?_
         refine S.oN 11 46 #[true, true, true, true, true, true, true, true, true, true, true, true, false] (fun K hK => ?_)
         refine Kd.R_append_rows_step (Kd.int .i64) (w0 := w) w.heap.size (by rfl) (.tmp 42) (.tmp 45) 36 3 (.int .i64 0) 8 rfl Try.underlying36 info3 rfl (by decide) (by omega) v448 y447 (l0.drop (x5_1 : Int).toNat) _ _ _ (fun k_ => S.N k_ (.slice Ao47 y444.length co47)) (fun _ => False) rfl rfl ?aO ?aR (fun _ _ h => h) (fun _ h => h.elim) ?aF ?aB ?aS ?aL ?_
         (case aR => first | (rw [← show (l0.drop (x5_1 : Int).toNat).length = (l0.length - x5_1.toNat) from List.length_drop]; repeat (first | exact (Kd.C_below HR450.out HB.out) | (with_reducible refine Kd.C_alloc ?_ _) | (with_reducible refine Kd.C_drewN ?_ _) | (with_reducible refine Kd.C_drew ?_))) | (repeat (first | exact (Kd.C_below HR450.out HB.out) | (with_reducible refine Kd.C_alloc ?_ _) | (with_reducible refine Kd.C_drewN ?_ _) | (with_reducible refine Kd.C_drew ?_))))
         (case aB => exact S.bA)
         (case aF => exact (fun k_ hk => Kd.fresh' (Kd.R_lt (S.uR HO446.out)) k_ hk))
         (case aO => exact (S.uR HO449.out))
         (case aS => exact (below_size S.bA))
         (case aL => have := LMc36.out; have hlx_ := (show (l0.drop (x5_1 : Int).toNat).length = (l0.length - x5_1.toNat) from List.length_drop); omega)
         intro v452 w48 ho hb hg hat
         rw [← Ny451.out] at ho
         have n0_ := Aside0.mk (Kd.R_after (ok := (fun _ => True)) (S.uR HO446.out) hg hat)
         have n1_ := Aside0.mk (hb)
         have n2_ := Aside0.mk (ho)
         clear HO446
         clear HB
         clear HO449
         have HO446 := n0_
         have HB := n1_
         have HO453 := n2_
         clear n0_ n1_ n2_
         clear ho hb hg hat
         refine hK.out _ _ trivial (fun hHeld => ?_)
         clear hK K
         refine S.nm 46 ?_
         refine S.pS 12 4 ?_
         refine done_ (done_of HT_.out (by kernel_rfl)) ?_
         try go_wp2
         go_ret
         exact ⟨_, S.eW, by (with_reducible repeat (first | apply Kd.R_alloc | apply Kd.R_drewN | apply Kd.R_drew)); exact Kd.R_mono HO453.out (fun _ hk => trivial), S.bA⟩
        ·rw [if_neg c36] at H
         exact absurd H (by simp)
       ·rw [if_neg c33] at H
        exact absurd H (by simp)
      ·rw [if_neg c32] at H
       exact absurd H (by simp)
     ·rw [if_neg c31] at H
      exact absurd H (by simp)
    ·rw [if_neg c30] at H
     exact absurd H (by simp)
/-! ### spec_AddToStage: function 149 -/
mutual
def spec_AddToStage.l0 : Nat → List (S71) → List Int → List Int → Int → Option (List Int)
 | 0, _, _, _, _ => none
 | k + 1, x0, x1, x5, x6 => if x6 < (x0.length : Int) then ((spec_IsTogether.f k x0 x1).bind fun t460 => (spec_AddToStage.j1 k x0 x1 x5 x6 t460)) else (spec_AddToStage.j1 k x0 x1 x5 x6 false)
def spec_AddToStage.j1 : Nat → List (S71) → List Int → List Int → Int → Bool → Option (List Int)
 | 0, _, _, _, _, _ => none
 | k + 1, x0, x1, x5, x6, x19 => if x19 = true then (if 0 ≤ x6 then (if x6 < (x0.length : Int) then ((spec_l6Put.f k x5 ((rd_T71 x0 x6).f0)).bind fun t462 => ((spec_IsTogether.f k x0 t462).bind fun t465 => (if t465 = true then (spec_AddToStage.l0 k x0 x1 t462 (wrap64 (x6 + 1))) else (spec_AddToStage.l0 k x0 x1 x5 (wrap64 (x6 + 1)))))) else (none)) else (none)) else (some x5)
end
def spec_AddToStage.f (k : Nat) (l0 : List (S71)) (l1 : List Int) : Option (List Int) := (some (([] : List Int) : List Int)).bind fun y454 => (if y454.length + l1.length < 17592186044416 then (spec_AddToStage.l0 k l0 l1 (y454 ++ l1) 0) else (none))
set_option maxHeartbeats 8000000 in
set_option maxRecDepth 100000 in
theorem spec_AddToStage.calls (k : Nat) (A0 : Option Addr) (c0 : Nat) (l0 : List (S71)) (A1 : Option Addr) (c1 : Nat) (l1 : List Int) (r : List Int) (w : World) (hr0 : Kd.C k71 w A0 l0.length l0) (hc0 : l0.length ≤ c0) (hr1 : Kd.C (Kd.int .i64) w A1 l1.length l1) (hc1 : l1.length ≤ c1) (h : spec_AddToStage.f k l0 l1 = some r) :
  Calls Try.prog 149 #[.slice A0 l0.length c0, .slice A1 l1.length c1] w fun e w' => ∃ v0_ : Value, e = .returned (v0_) ∧ Kd.R (Kd.int .i64) 3 w' w.heap.size (fun _ => True) v0_ r ∧ Below w.heap.size w w' := by
 have HR0 := Aside0.mk hr0
 have HC0 := Aside0.mk hc0
 clear hr0 hc0
 have HR1 := Aside0.mk hr1
 have HC1 := Aside0.mk hc1
 clear hr1 hc1
 have HB := Aside0.mk (Below.refl w.heap.size w)
 have H : ((some (([] : List Int) : List Int)).bind fun y454 => (if y454.length + l1.length < 17592186044416 then (spec_AddToStage.l0 k l0 l1 (y454 ++ l1) 0) else (none))) = some r := h
 clear h
 obtain ⟨y454, hy454⟩ : ∃ y_ : List Int, y_ = (([] : List Int)) := ⟨_, rfl⟩
 replace H : (if y454.length + l1.length < 17592186044416 then (spec_AddToStage.l0 k l0 l1 (y454 ++ l1) 0) else (none)) = some r := by first | (rw [hy454]; with_reducible exact H) | (have H2_ := (Option.bind_some _ _).symm.trans H; rw [hy454]; with_reducible exact H2_) | (have H2_ := (Option.bind_some _ _).symm.trans H; with_reducible exact H2_) | with_reducible exact H | (rw [hy454]; exact H) | exact H
 have Ny454 := Aside0.mk hy454
 clear hy454
 by_cases c3 : y454.length + l1.length < 17592186044416
 ·rw [if_pos c3] at H
  have LMc3 := Aside0.mk c3
  clear c3
  obtain ⟨y457, hy457⟩ : ∃ y_ : List Int, y_ = (y454 ++ l1) := ⟨_, rfl⟩
  replace H : (spec_AddToStage.l0 k l0 l1 y457 0) = some r := by first | (rw [hy457]; with_reducible exact H) | (have H2_ := (Option.bind_some _ _).symm.trans H; rw [hy457]; with_reducible exact H2_) | (have H2_ := (Option.bind_some _ _).symm.trans H; with_reducible exact H2_) | with_reducible exact H | (rw [hy457]; exact H) | exact H
  have Ny457 := Aside0.mk hy457
  clear hy457
  have H' := Aside0.mk H
  clear H
  go_enter Try.func149, Try.ntmps149
  go_wp2_with (first | ((with_reducible refine gate_dst (N := 8) rfl ?_); refine Kd.R_lit (Kd.int .i64) _ 3 ?hg (N := 8) ?hd (xs := ([] : List Int)) (inner := []) (ok := fun _ => True) (okp := fun _ => True) ?hr ?hp (fun _ hk => hk) trivial (Below.refl _ _) (Nat.le_refl _) (by simp) ?_; (case hd => rfl); (case hg => rfl); (case hr => first | (go_simp; done) | (go_simp; rfl)); (case hp => exact (Reps.none _ _)); intro v455 w4 ho5 hb hg_ hnew_; clear hg_ hnew_; (first | rw [← Ny454.out] at ho5 | (simp only [Int.reduceToNat] at ho5; rw [← Ny454.out] at ho5)); have HO456 := S.lwA ho5; replace HB := S.sA hb; clear hb ho5) | ((with_reducible refine gate_builtin (b := .append) (xs := #[.tmp 8, .tmp 9]) rfl ?_); at_builtin; refine Kd.R_append_rows (Kd.int .i64) (w0 := w) w.heap.size rfl (.tmp 8) (.tmp 9) 36 3 (.int .i64 0) 8 rfl Try.underlying36 info3 rfl (by decide) (by omega) v455 y454 l1 _ _ _ (fun _ => True) (fun _ => False) rfl rfl ?aO ?aR (fun _ _ h => h) (fun _ h => h.elim) ?aF ?aB ?aS ?aL ?_; (case aR => exact S.cA HR1.out); (case aB => exact S.bA); (case aF => exact (fun _ _ => trivial)); (case aO => exact (S.uR HO456.out)); (case aS => exact (below_size S.bA)); (case aL => have := LMc3.out; omega); intro v458 w6 ho hb hg hat; rw [← Ny457.out] at ho; have n0_ := Aside0.mk (hb); have n1_ := Aside0.mk (ho); clear HB; clear HO456; have HB := n0_; have HO459 := n1_; clear n0_ n1_; clear ho hb hg hat))
  go_loopg [5, 6] k (fun kq v5 v6 w' => ∃ (x5_1 : List Int) (x6_1 : Int), v6 = .int .i64 x6_1 ∧ Aside0 (spec_AddToStage.l0 kq l0 l1 x5_1 x6_1 = some r) ∧ Aside0 (kq ≤ k) ∧ Aside0 (Kd.R (Kd.int .i64) 3 w' w.heap.size (fun _ => True) v5 x5_1) ∧ Aside0 (Below w.heap.size w w'))
  case atStart => exact ⟨(y457), (0), S.eA, H', ⟨Nat.le_refl _⟩, ⟨S.uR HO459.out⟩, ⟨S.bA⟩⟩
  case round =>
   clear H'
   try clear c1
   try clear c3
   obtain ⟨x5_1, x6_1, rfl, HA, HK1, HO_5, HB⟩ := hrel
   cases gk with
   | zero => exact absurd HA.out (by simp [spec_AddToStage.l0])
   | succ k1 =>
    have H := HA.out
    clear HA
    simp only [spec_AddToStage.l0] at H
    have HC7 := Aside0.mk H
    clear H
    go_upto_region 3 with (fail)
    go_cut [19] (fun v19 wc => ∃ (kq : Nat) (x19_6 : Bool), v19 = .bool x19_6 ∧ Aside0 (spec_AddToStage.j1 kq l0 l1 x5_1 x6_1 x19_6 = some r) ∧ Aside0 (kq ≤ k1) ∧ Aside0 (Kd.R (Kd.int .i64) 3 wc w.heap.size (fun _ => True) u5 x5_1) ∧ Aside0 (Below w.heap.size w wc))
    case first =>
     have H := HC7.out
     clear HC7
     replace H := S.dc H; rcases H with ⟨H, c8b0⟩ | ⟨H, c8b0⟩
     ·(first | rw [c8b0] | (simp only [i64_w, i32_w]; rw [c8b0]) | skip)
      replace H := S.bd H; obtain ⟨t460, A9, H⟩ := H
      (try dsimp only at H)
      have H' := Aside0.mk H
      clear H
      go_wp2_with (first | (go_at_call 99; (with_reducible refine (spec_IsTogether.calls k1 _ _ l0 _ _ l1 t460 _ ?s1 HC0.out ?s3 HC1.out A9.out).mono ?_); (case s1 => exact S.cA HR0.out); (case s3 => exact S.cA HR1.out); rintro e w10 ⟨rfl, hb⟩; replace HO_5 := S.rb HO_5 hb; replace HB := S.sA hb; (try clear hb)))
      go_meet
      case rel => exact ⟨_, (t460), S.eA, H', ⟨by have := HK1.out; first | omega | exact Nat.le_refl _⟩, ⟨S.uR HO_5.out⟩, ⟨S.bA⟩⟩
     ·(first | rw [c8b0] | (simp only [i64_w, i32_w]; rw [c8b0]) | skip)
      have H' := Aside0.mk H
      clear H
      go_wp2
      go_meet
      case rel => exact ⟨_, (false), S.eA, H', ⟨by have := HK1.out; first | omega | exact Nat.le_refl _⟩, ⟨S.uR HO_5.out⟩, ⟨S.bA⟩⟩
    case rest =>
     clear HC7
     try clear c1
     try clear c3
     obtain ⟨kq, x19_6, rfl, HA, HJ6, HO_5, HB⟩ := hcut
     cases kq with
     | zero => exact absurd HA.out (by simp [spec_AddToStage.j1])
     | succ kj6 =>
      have H := HA.out
      clear HA
      simp only [spec_AddToStage.j1] at H
      replace H := S.db H; rcases H with ⟨rfl, H⟩ | ⟨rfl, H⟩
      ·by_cases c12 : 0 ≤ x6_1
       ·rw [if_pos c12] at H
        have c12b0 : decide (0 ≤ x6_1) = true := decide_eq_true c12
        clear c12
        by_cases c13 : x6_1 < (l0.length : Int)
        ·rw [if_pos c13] at H
         have c13b0 : decide (x6_1 < (l0.length : Int)) = true := decide_eq_true c13
         clear c13
         replace H := S.bd H; obtain ⟨t462, A14, H⟩ := H
         (try dsimp only at H)
         replace H := S.bd H; obtain ⟨t465, A15, H⟩ := H
         (try dsimp only at H)
         replace H := S.db H; rcases H with ⟨rfl, H⟩ | ⟨rfl, H⟩
         ·have H' := Aside0.mk H
          clear H
          have p461 : 0 ≤ (x6_1 : Int) := S.oD
          have q461 : x6_1 < (l0.length : Int) := S.oD
          obtain ⟨ad461, e461, hx461_0, hx461_1, hx461_2, hx461_3⟩ := at_T71 HR0.out x6_1 p461 q461
          cases e461
          replace hx461_0 := S.hb HB hx461_0
          replace hx461_1 := S.hb HB hx461_1
          replace hx461_2 := S.hb HB hx461_2
          replace hx461_3 := S.hb HB hx461_3
          replace p461 := eq_true p461
          replace q461 := eq_true q461
          obtain ⟨Ao17, co17, eo17⟩ := Kd.R_slice HO_5.out
          subst eo17
          go_wp2_with (first | ((with_reducible refine gate_callee (f := 150) rfl ?_); refine S.gL (some 28) Try.func150 #[.slice Ao17 x5_1.length co17, .int .i64 ((rd_T71 l0 x6_1).f0)] ?_; (with_reducible refine (spec_l6Put.calls kj6 _ _ x5_1 ((rd_T71 l0 x6_1).f0) t462 _ ?s1 (S.rl HO_5) A14.out).mono ?_); (case s1 => exact S.rd HO_5); rintro e w18 ⟨v463, rfl, ho0, hb⟩; refine ⟨_, rfl, ?_⟩; have HO464 := S.rnA ho0 HO_5; replace HO_5 := S.re HO_5 ho0 hb; replace HB := S.sA hb; (try clear hb); (try clear ho0); obtain ⟨Ao19, co19, eo19⟩ := Kd.R_slice HO464.out; subst eo19) | ((with_reducible refine gate_callee (f := 99) rfl ?_); refine S.gL (some 31) Try.func99 #[.slice (some ad461) l0.length c0, .slice Ao19 t462.length co19] ?_; (with_reducible refine (spec_IsTogether.calls kj6 _ _ l0 _ _ t462 true _ ?s1 HC0.out ?s3 (S.rl HO464) A15.out).mono ?_); (case s1 => exact S.cA HR0.out); (case s3 => exact S.rd HO464); rintro e w20 ⟨rfl, hb⟩; refine ⟨_, rfl, ?_⟩; replace HO_5 := S.rb HO_5 hb; replace HO464 := S.rb HO464 hb; replace HB := S.sA hb; (try clear hb)))
          go_roundg kj6
          case measure => have := HK1.out; have := HJ6.out; omega
          case rel => exact ⟨(t462), (wrap64 (x6_1 + 1)), S.eA, H', ⟨by have := HK1.out; have := HJ6.out; omega⟩, ⟨by (with_reducible repeat (first | apply Kd.R_alloc | apply Kd.R_drewN | apply Kd.R_drew)); exact Kd.R_mono HO464.out (fun _ hk => trivial)⟩, ⟨S.bA⟩⟩
         ·have H' := Aside0.mk H
          clear H
          have p461 : 0 ≤ (x6_1 : Int) := S.oD
          have q461 : x6_1 < (l0.length : Int) := S.oD
          obtain ⟨ad461, e461, hx461_0, hx461_1, hx461_2, hx461_3⟩ := at_T71 HR0.out x6_1 p461 q461
          cases e461
          replace hx461_0 := S.hb HB hx461_0
          replace hx461_1 := S.hb HB hx461_1
          replace hx461_2 := S.hb HB hx461_2
          replace hx461_3 := S.hb HB hx461_3
          replace p461 := eq_true p461
          replace q461 := eq_true q461
          obtain ⟨Ao21, co21, eo21⟩ := Kd.R_slice HO_5.out
          subst eo21
          go_wp2_with (first | ((with_reducible refine gate_callee (f := 150) rfl ?_); refine S.gL (some 28) Try.func150 #[.slice Ao21 x5_1.length co21, .int .i64 ((rd_T71 l0 x6_1).f0)] ?_; (with_reducible refine (spec_l6Put.calls kj6 _ _ x5_1 ((rd_T71 l0 x6_1).f0) t462 _ ?s1 (S.rl HO_5) A14.out).mono ?_); (case s1 => exact S.rd HO_5); rintro e w22 ⟨v463, rfl, ho0, hb⟩; refine ⟨_, rfl, ?_⟩; have HO464 := S.rnA ho0 HO_5; replace HO_5 := S.re HO_5 ho0 hb; replace HB := S.sA hb; (try clear hb); (try clear ho0); obtain ⟨Ao23, co23, eo23⟩ := Kd.R_slice HO464.out; subst eo23) | ((with_reducible refine gate_callee (f := 99) rfl ?_); refine S.gL (some 31) Try.func99 #[.slice (some ad461) l0.length c0, .slice Ao23 t462.length co23] ?_; (with_reducible refine (spec_IsTogether.calls kj6 _ _ l0 _ _ t462 false _ ?s1 HC0.out ?s3 (S.rl HO464) A15.out).mono ?_); (case s1 => exact S.cA HR0.out); (case s3 => exact S.rd HO464); rintro e w24 ⟨rfl, hb⟩; refine ⟨_, rfl, ?_⟩; replace HO_5 := S.rb HO_5 hb; replace HO464 := S.rb HO464 hb; replace HB := S.sA hb; (try clear hb)))
          go_roundg kj6
          case measure => have := HK1.out; have := HJ6.out; omega
          case rel => exact ⟨(x5_1), (wrap64 (x6_1 + 1)), S.eA, H', ⟨by have := HK1.out; have := HJ6.out; omega⟩, ⟨by (with_reducible repeat (first | apply Kd.R_alloc | apply Kd.R_drewN | apply Kd.R_drew)); exact Kd.R_mono HO_5.out (fun _ hk => trivial)⟩, ⟨S.bA⟩⟩
        ·rw [if_neg c13] at H
         exact absurd H (by simp)
       ·rw [if_neg c12] at H
        exact absurd H (by simp)
      ·obtain rfl := Option.some.inj H
       go_wp2
       go_ret
       exact ⟨_, S.eW, S.uR HO_5.out, S.bA⟩
 ·rw [if_neg c3] at H
  exact absurd H (by simp)

/-! ### spec_CoverOf: function 145 -/
mutual
def spec_CoverOf.l0 : Nat → List (S71) → List (List Int) → List Int → Int → Option ((List (List Int)))
 | 0, _, _, _, _ => none
 | k + 1, x0, x3, x4, x5 => if x5 < (x0.length : Int) then ((spec_ArePaths.f k x0).bind fun t472 => (spec_CoverOf.j1 k x0 x3 x4 x5 t472)) else (spec_CoverOf.j1 k x0 x3 x4 x5 false)
def spec_CoverOf.j1 : Nat → List (S71) → List (List Int) → List Int → Int → Bool → Option ((List (List Int)))
 | 0, _, _, _, _, _ => none
 | k + 1, x0, x3, x4, x5, x17 => if x17 = true then (if 0 ≤ x5 then (if x5 < (x0.length : Int) then ((spec_l6Has.f k x4 ((rd_T71 x0 x5).f0)).bind fun t474 => (if t474 = true then (spec_CoverOf.l0 k x0 x3 x4 (wrap64 (x5 + 1))) else ((spec_AddToStage.f k x0 (([(rd_T71 x0 x5).f0] : List Int))).bind fun t479 => (if x3.length < 5864062014805 then (spec_CoverOf.l1 k x0 (x3 ++ [t479]) x4 x5 t479 0) else (none))))) else (none)) else (none)) else (some x3)
def spec_CoverOf.l1 : Nat → List (S71) → List (List Int) → List Int → Int → List Int → Int → Option ((List (List Int)))
 | 0, _, _, _, _, _, _ => none
 | k + 1, x0, x3, x4, x5, x6, x7 => if x7 < (x6.length : Int) then (if 0 ≤ x7 then ((spec_l6Put.f k x4 (rd x6 x7)).bind fun t486 => (spec_CoverOf.l1 k x0 x3 t486 x5 x6 (wrap64 (x7 + 1)))) else (none)) else (spec_CoverOf.l0 k x0 x3 x4 (wrap64 (x5 + 1)))
end
def spec_CoverOf.f (k : Nat) (l0 : List (S71)) : Option ((List (List Int))) := spec_CoverOf.l0 k l0 (([] : List (List Int))) (([] : List Int)) 0
set_option maxHeartbeats 8000000 in
set_option maxRecDepth 100000 in
theorem spec_CoverOf.calls (k : Nat) (A0 : Option Addr) (c0 : Nat) (l0 : List (S71)) (r : List (List Int)) (w : World) (hr0 : Kd.C k71 w A0 l0.length l0) (hc0 : l0.length ≤ c0) (h : spec_CoverOf.f k l0 = some r) :
  Calls Try.prog 145 #[.slice A0 l0.length c0] w fun e w' => ∃ v0_ : Value, e = .returned (v0_) ∧ Kd.R (Kd.slice 3 (Kd.int .i64)) 36 w' w.heap.size (fun _ => True) v0_ r ∧ Below w.heap.size w w' := by
 have HR0 := Aside0.mk hr0
 have HC0 := Aside0.mk hc0
 clear hr0 hc0
 have HB := Aside0.mk (Below.refl w.heap.size w)
 have H : (spec_CoverOf.l0 k l0 (([] : List (List Int))) (([] : List Int)) 0) = some r := h
 clear h
 obtain ⟨y466, hy466⟩ : ∃ y_ : List (List Int), y_ = (([] : List (List Int))) := ⟨_, rfl⟩
 replace H : (spec_CoverOf.l0 k l0 y466 (([] : List Int)) 0) = some r := by first | (rw [hy466]; with_reducible exact H) | (have H2_ := (Option.bind_some _ _).symm.trans H; rw [hy466]; with_reducible exact H2_) | (have H2_ := (Option.bind_some _ _).symm.trans H; with_reducible exact H2_) | with_reducible exact H | (rw [hy466]; exact H) | exact H
 have Ny466 := Aside0.mk hy466
 clear hy466
 obtain ⟨y469, hy469⟩ : ∃ y_ : List Int, y_ = (([] : List Int)) := ⟨_, rfl⟩
 replace H : (spec_CoverOf.l0 k l0 y466 y469 0) = some r := by first | (rw [hy469]; with_reducible exact H) | (have H2_ := (Option.bind_some _ _).symm.trans H; rw [hy469]; with_reducible exact H2_) | (have H2_ := (Option.bind_some _ _).symm.trans H; with_reducible exact H2_) | with_reducible exact H | (rw [hy469]; exact H) | exact H
 have Ny469 := Aside0.mk hy469
 clear hy469
 have H' := Aside0.mk H
 clear H
 go_enter Try.func145, Try.ntmps145
 go_wp2_with (first | ((with_reducible refine gate_dst (N := 8) rfl ?_); refine Kd.R_lit (Kd.slice 3 (Kd.int .i64)) _ 36 ?hg (N := 8) ?hd (xs := ([] : List (List Int))) (inner := []) (ok := fun _ => True) (okp := fun _ => True) ?hr ?hp (fun _ hk => hk) trivial (Below.refl _ _) (Nat.le_refl _) (by simp) ?_; (case hd => rfl); (case hg => rfl); (case hr => first | (go_simp; done) | (go_simp; rfl)); (case hp => exact (Reps.none _ _)); intro v467 w2 ho3 hb hg_ hnew_; clear hg_ hnew_; (first | rw [← Ny466.out] at ho3 | (simp only [Int.reduceToNat] at ho3; rw [← Ny466.out] at ho3)); have HO468 := S.lwA ho3; replace HB := S.sA hb; clear hb ho3) | ((with_reducible refine gate_dst (N := 9) rfl ?_); refine Kd.R_lit (Kd.int .i64) _ 3 ?hg (N := 9) ?hd (xs := ([] : List Int)) (inner := []) (ok := fun _ => True) (okp := fun _ => True) ?hr ?hp (fun _ hk => hk) trivial (Below.refl _ _) (Nat.le_refl _) (by simp) ?_; (case hd => rfl); (case hg => rfl); (case hr => first | (go_simp; done) | (go_simp; rfl)); (case hp => exact (Reps.none _ _)); intro v470 w4 ho5 hb hg_ hnew_; clear hg_ hnew_; (first | rw [← Ny469.out] at ho5 | (simp only [Int.reduceToNat] at ho5; rw [← Ny469.out] at ho5)); replace HO468 := S.re HO468 ho5 hb; have HO471 := S.lwA ho5; replace HB := S.sA hb; clear hb ho5))
 go_loopg [3, 4, 5] k (fun kq v3 v4 v5 w' => ∃ (x3_1 : List (List Int)) (x4_1 : List Int) (x5_1 : Int), v5 = .int .i64 x5_1 ∧ Aside0 (spec_CoverOf.l0 kq l0 x3_1 x4_1 x5_1 = some r) ∧ Aside0 (kq ≤ k) ∧ Aside0 (Kd.R (Kd.slice 3 (Kd.int .i64)) 36 w' w.heap.size (fun k_ => S.N k_ v4) v3 x3_1) ∧ Aside0 (Kd.R (Kd.int .i64) 3 w' w.heap.size (fun _ => True) v4 x4_1) ∧ Aside0 (Below w.heap.size w w'))
 case atStart => exact ⟨(y466), (y469), (0), S.eA, H', ⟨Nat.le_refl _⟩, ⟨by (with_reducible repeat (first | apply Kd.R_alloc | apply Kd.R_drewN | apply Kd.R_drew)); exact Kd.R_mono HO468.out (fun _ hk => hk.2)⟩, ⟨S.uR HO471.out⟩, ⟨S.bA⟩⟩
 case round =>
  clear H'
  obtain ⟨x3_1, x4_1, x5_1, rfl, HA, HK1, HO_3, HO_4, HB⟩ := hrel
  cases gk with
  | zero => exact absurd HA.out (by simp [spec_CoverOf.l0])
  | succ k1 =>
   have H := HA.out
   clear HA
   simp only [spec_CoverOf.l0] at H
   have HC6 := Aside0.mk H
   clear H
   go_upto_region 4 with (fail)
   go_cut [17] (fun v17 wc => ∃ (kq : Nat) (x17_5 : Bool), v17 = .bool x17_5 ∧ Aside0 (spec_CoverOf.j1 kq l0 x3_1 x4_1 x5_1 x17_5 = some r) ∧ Aside0 (kq ≤ k1) ∧ Aside0 (Kd.R (Kd.slice 3 (Kd.int .i64)) 36 wc w.heap.size (fun k_ => some k_ ≠ (u4 : Value).ownBlock) u3 x3_1) ∧ Aside0 (Kd.R (Kd.int .i64) 3 wc w.heap.size (fun _ => True) u4 x4_1) ∧ Aside0 (Below w.heap.size w wc))
   case first =>
    have H := HC6.out
    clear HC6
    replace H := S.dc H; rcases H with ⟨H, c7b0⟩ | ⟨H, c7b0⟩
    ·(first | rw [c7b0] | (simp only [i64_w, i32_w]; rw [c7b0]) | skip)
     replace H := S.bd H; obtain ⟨t472, A8, H⟩ := H
     (try dsimp only at H)
     have H' := Aside0.mk H
     clear H
     go_wp2_with (first | (go_at_call 125; (with_reducible refine (spec_ArePaths.calls k1 _ _ l0 t472 _ ?s1 HC0.out A8.out).mono ?_); (case s1 => exact S.cA HR0.out); rintro e w9 ⟨rfl, hb⟩; replace HO_3 := S.rb HO_3 hb; replace HO_4 := S.rb HO_4 hb; replace HB := S.sA hb; (try clear hb)))
     go_meet
     case rel => exact ⟨_, (t472), S.eA, H', ⟨by have := HK1.out; first | omega | exact Nat.le_refl _⟩, ⟨S.uR HO_3.out⟩, ⟨S.uR HO_4.out⟩, ⟨S.bA⟩⟩
    ·(first | rw [c7b0] | (simp only [i64_w, i32_w]; rw [c7b0]) | skip)
     have H' := Aside0.mk H
     clear H
     go_wp2
     go_meet
     case rel => exact ⟨_, (false), S.eA, H', ⟨by have := HK1.out; first | omega | exact Nat.le_refl _⟩, ⟨S.uR HO_3.out⟩, ⟨S.uR HO_4.out⟩, ⟨S.bA⟩⟩
   case rest =>
    clear HC6
    obtain ⟨kq, x17_5, rfl, HA, HJ5, HO_3, HO_4, HB⟩ := hcut
    cases kq with
    | zero => exact absurd HA.out (by simp [spec_CoverOf.j1])
    | succ kj5 =>
     have H := HA.out
     clear HA
     simp only [spec_CoverOf.j1] at H
     replace H := S.db H; rcases H with ⟨rfl, H⟩ | ⟨rfl, H⟩
     ·by_cases c11 : 0 ≤ x5_1
      ·rw [if_pos c11] at H
       have c11b0 : decide (0 ≤ x5_1) = true := decide_eq_true c11
       clear c11
       by_cases c12 : x5_1 < (l0.length : Int)
       ·rw [if_pos c12] at H
        have c12b0 : decide (x5_1 < (l0.length : Int)) = true := decide_eq_true c12
        clear c12
        replace H := S.bd H; obtain ⟨t474, A13, H⟩ := H
        (try dsimp only at H)
        replace H := S.db H; rcases H with ⟨rfl, H⟩ | ⟨rfl, H⟩
        ·have H' := Aside0.mk H
         clear H
         have p473 : 0 ≤ (x5_1 : Int) := S.oD
         have q473 : x5_1 < (l0.length : Int) := S.oD
         obtain ⟨ad473, e473, hx473_0, hx473_1, hx473_2, hx473_3⟩ := at_T71 HR0.out x5_1 p473 q473
         cases e473
         replace hx473_0 := S.hb HB hx473_0
         replace hx473_1 := S.hb HB hx473_1
         replace hx473_2 := S.hb HB hx473_2
         replace hx473_3 := S.hb HB hx473_3
         replace p473 := eq_true p473
         replace q473 := eq_true q473
         obtain ⟨Ao15, co15, eo15⟩ := Kd.R_slice HO_4.out
         subst eo15
         go_wp2_with (first | ((with_reducible refine gate_callee (f := 72) rfl ?_); refine S.gL (some 26) Try.func72 #[.slice Ao15 x4_1.length co15, .int .i64 ((rd_T71 l0 x5_1).f0)] ?_; (with_reducible refine (spec_l6Has.calls kj5 _ _ x4_1 ((rd_T71 l0 x5_1).f0) true _ ?s1 (S.rl HO_4) A13.out).mono ?_); (case s1 => exact S.rd HO_4); rintro e w' ⟨rfl, ⟨nd, rfl⟩⟩; refine ⟨_, rfl, ?_⟩))
         go_roundg kj5
         case measure => have := HK1.out; have := HJ5.out; omega
         case rel => exact ⟨(x3_1), (x4_1), (wrap64 (x5_1 + 1)), S.eA, H', ⟨by have := HK1.out; have := HJ5.out; omega⟩, ⟨S.uR HO_3.out⟩, ⟨S.uR HO_4.out⟩, ⟨S.bA⟩⟩
        ·obtain ⟨y476, hy476⟩ : ∃ y_ : List Int, y_ = (([(rd_T71 l0 x5_1).f0] : List Int)) := ⟨_, rfl⟩
         replace H : ((spec_AddToStage.f kj5 l0 y476).bind fun t479 => (if x3_1.length < 5864062014805 then (spec_CoverOf.l1 kj5 l0 (x3_1 ++ [t479]) x4_1 x5_1 t479 0) else (none))) = some r := by first | (rw [hy476]; with_reducible exact H) | (have H2_ := (Option.bind_some _ _).symm.trans H; rw [hy476]; with_reducible exact H2_) | (have H2_ := (Option.bind_some _ _).symm.trans H; with_reducible exact H2_) | with_reducible exact H | (rw [hy476]; exact H) | exact H
         have Ny476 := Aside0.mk hy476
         clear hy476
         replace H := S.bd H; obtain ⟨t479, A16, H⟩ := H
         (try dsimp only at H)
         by_cases c17 : x3_1.length < 5864062014805
         ·rw [if_pos c17] at H
          have LMc17 := Aside0.mk c17
          clear c17
          obtain ⟨y482, hy482⟩ : ∃ y_ : List (List Int), y_ = (x3_1 ++ [t479]) := ⟨_, rfl⟩
          replace H : (spec_CoverOf.l1 kj5 l0 y482 x4_1 x5_1 t479 0) = some r := by first | (rw [hy482]; with_reducible exact H) | (have H2_ := (Option.bind_some _ _).symm.trans H; rw [hy482]; with_reducible exact H2_) | (have H2_ := (Option.bind_some _ _).symm.trans H; with_reducible exact H2_) | with_reducible exact H | (rw [hy482]; exact H) | exact H
          have Ny482 := Aside0.mk hy482
          clear hy482
          have H' := Aside0.mk H
          clear H
          have p473 : 0 ≤ (x5_1 : Int) := S.oD
          have q473 : x5_1 < (l0.length : Int) := S.oD
          obtain ⟨ad473, e473, hx473_0, hx473_1, hx473_2, hx473_3⟩ := at_T71 HR0.out x5_1 p473 q473
          cases e473
          replace hx473_0 := S.hb HB hx473_0
          replace hx473_1 := S.hb HB hx473_1
          replace hx473_2 := S.hb HB hx473_2
          replace hx473_3 := S.hb HB hx473_3
          replace p473 := eq_true p473
          replace q473 := eq_true q473
          obtain ⟨Ao18, co18, eo18⟩ := Kd.R_slice HO_4.out
          subst eo18
          go_wp2_with (first | ((with_reducible refine gate_callee (f := 72) rfl ?_); refine S.gL (some 26) Try.func72 #[.slice Ao18 x4_1.length co18, .int .i64 ((rd_T71 l0 x5_1).f0)] ?_; (with_reducible refine (spec_l6Has.calls kj5 _ _ x4_1 ((rd_T71 l0 x5_1).f0) false _ ?s1 (S.rl HO_4) A13.out).mono ?_); (case s1 => exact S.rd HO_4); rintro e w' ⟨rfl, ⟨nd, rfl⟩⟩; refine ⟨_, rfl, ?_⟩; have p475 : 0 ≤ (x5_1 : Int) := S.oD; have q475 : x5_1 < (l0.length : Int) := S.oD; obtain ⟨ad475, e475, hx475_0, hx475_1, hx475_2, hx475_3⟩ := at_T71 HR0.out x5_1 p475 q475; obtain rfl : ad473 = ad475 := (by injection e475); replace hx475_0 := S.hb HB hx475_0; replace hx475_1 := S.hb HB hx475_1; replace hx475_2 := S.hb HB hx475_2; replace hx475_3 := S.hb HB hx475_3; replace p475 := eq_true p475; replace q475 := eq_true q475) | ((with_reducible refine gate_dst (N := 33) rfl ?_); refine Kd.R_lit (Kd.int .i64) _ 3 ?hg (N := 33) ?hd (xs := ([(rd_T71 l0 x5_1).f0] : List Int)) (inner := [.int .i64 ((rd_T71 l0 x5_1).f0)]) (ok := fun _ => True) (okp := fun _ => True) ?hr ?hp (fun _ hk => hk) trivial (Below.refl _ _) (Nat.le_refl _) (by simp) ?_; (case hd => rfl); (case hg => rfl); (case hr => first | (go_simp; done) | (go_simp; rfl)); (case hp => exact (Reps.one (show Kd.M (Kd.int .i64) _ _ _ ((rd_T71 l0 x5_1).f0) [.int .i64 ((rd_T71 l0 x5_1).f0)] from rfl) (Reps.none _ _))); intro v477 w19 ho20 hb hg_ hnew_; clear hg_ hnew_; (first | rw [← Ny476.out] at ho20 | (simp only [Int.reduceToNat] at ho20; rw [← Ny476.out] at ho20)); replace HO_3 := S.re HO_3 ho20 hb; have HO478 := S.rnA ho20 HO_4; replace HO_4 := S.re HO_4 ho20 hb; replace HB := S.sA hb; clear hb ho20; obtain ⟨Ao21, co21, eo21⟩ := Kd.R_slice HO478.out; subst eo21) | ((with_reducible refine gate_callee (f := 149) rfl ?_); refine S.gL (some 34) Try.func149 #[.slice (some ad473) l0.length c0, .slice Ao21 y476.length co21] ?_; (with_reducible refine (spec_AddToStage.calls kj5 _ _ l0 _ _ y476 t479 _ ?s1 HC0.out ?s3 (S.rl HO478) A16.out).mono ?_); (case s1 => exact S.cA HR0.out); (case s3 => exact S.rd HO478); rintro e w22 ⟨v480, rfl, ho0, hb⟩; refine ⟨_, rfl, ?_⟩; replace HO_3 := S.re HO_3 ho0 hb; have HO481 := Aside0.mk (Kd.R_lower (Kd.R_new' (Kd.R_new' ho0 (Kd.R_lt (S.uR HO_4.out))) (Kd.R_lt (S.uR HO478.out))) (below_size S.bA)); replace HO_4 := S.re HO_4 ho0 hb; replace HO478 := S.re HO478 ho0 hb; replace HB := S.sA hb; (try clear hb); (try clear ho0); obtain ⟨Ao24, co24, eo24⟩ := Kd.R_slice HO481.out; subst eo24) | ((with_reducible refine gate_builtin (b := .append) (xs := #[.tmp 35, .tmp 37]) rfl ?_); at_builtin; refine Kd.R_append (Kd.slice 3 (Kd.int .i64)) (w0 := w) w.heap.size rfl (.tmp 35) (.tmp 37) 111 36 (.slice none 0 0) 24 rfl Try.underlying111 info36 rfl (by decide) (by omega) u3 x3_1 t479 [.slice Ao24 t479.length co24] (fun k_ => S.N k_ (.slice Ao18 x4_1.length co18) ∧ S.N k_ (.slice Ao21 y476.length co21)) (fun k_ => ((fun k_ => S.N k_ (.slice Ao18 x4_1.length co18) ∧ S.N k_ (.slice Ao21 y476.length co21))) k_ ∧ some k_ ≠ (u3 : Value).ownBlock) rfl rfl ?aP (fun _ hk => hk) ?aF ?aO ?aB ?aS ?aL ?_; (case aP => exact Kd.M_row (Kd.R_mono (Kd.R_apart' (HO481.out) (Kd.R_typed HO_3.out) (by decide)) (fun k_ hk => ⟨⟨hk.1.1.2, hk.1.2⟩, hk.2⟩))); (case aB => exact S.bA); (case aF => exact (fun k_ hk => ⟨Kd.fresh' (Kd.R_lt (S.uR HO_4.out)) k_ hk, Kd.fresh' (Kd.R_lt (S.uR HO478.out)) k_ hk⟩)); (case aO => exact (by (with_reducible repeat (first | apply Kd.R_alloc | apply Kd.R_drewN | apply Kd.R_drew)); exact Kd.R_mono HO_3.out (fun _ hk => ⟨hk.1.1, hk.1.2⟩))); (case aS => exact (below_size S.bA)); (case aL => have := LMc17.out; omega); intro v483 w23 ho hb hg hat; rw [← Ny482.out] at ho; have n0_ := Aside0.mk (Kd.R_over' (S.uR HO_4.out) (Kd.R_typed (S.uR HO_3.out)) (by decide) hg); have n1_ := Aside0.mk (Kd.R_over' (S.uR HO478.out) (Kd.R_typed (S.uR HO_3.out)) (by decide) hg); have n2_ := Aside0.mk (hb); have n3_ := Aside0.mk (ho); have n99_ := Aside0.mk (Kd.R_mono (ok' := fun _ => True) (Kd.R_over' (S.uR HO481.out) (Kd.R_typed (S.uR HO_3.out)) (by decide) hg) (fun _ _ => trivial)); clear HO_4; clear HO478; clear HB; clear HO_3; clear HO481; have HO_4 := n0_; have HO478 := n1_; have HB := n2_; have HO484 := n3_; have HO481 := n99_; clear n0_ n1_ n2_ n3_ n99_; clear ho hb hg hat))
          go_loopg [4, 7] kj5 (fun kq v4 v7 w' => ∃ (x4_3 : List Int) (x7_3 : Int), v7 = .int .i64 x7_3 ∧ Aside0 (spec_CoverOf.l1 kq l0 y482 x4_3 x5_1 t479 x7_3 = some r) ∧ Aside0 (kq ≤ kj5) ∧ Aside0 (Kd.R (Kd.slice 3 (Kd.int .i64)) 36 w' w.heap.size (fun k_ => S.N k_ v4) v483 y482) ∧ Aside0 (Kd.R (Kd.int .i64) 3 w' w.heap.size (fun k_ => some k_ ≠ ((.slice Ao24 t479.length co24) : Value).ownBlock) v4 x4_3) ∧ Aside0 (Kd.R (Kd.int .i64) 3 w' w.heap.size (fun _ => True) (.slice Ao24 t479.length co24) t479) ∧ Aside0 (Below w.heap.size w w'))
          case atStart => exact ⟨(x4_1), (0), S.eA, H', ⟨Nat.le_refl _⟩, ⟨by (with_reducible repeat (first | apply Kd.R_alloc | apply Kd.R_drewN | apply Kd.R_drew)); exact Kd.R_mono HO484.out (fun _ hk => hk.1)⟩, ⟨by (with_reducible repeat (first | apply Kd.R_alloc | apply Kd.R_drewN | apply Kd.R_drew)); exact Kd.R_mono HO_4.out (fun _ hk => hk.2)⟩, ⟨S.uR HO481.out⟩, ⟨S.bA⟩⟩
          case round =>
           clear H'
           try clear c10
           try clear c11
           try clear c11b0
           try clear c12
           try clear c12b0
           try clear c14
           try clear c17
           try clear hx473_0
           try clear hx473_1
           try clear hx473_2
           try clear hx473_3
           try clear hx475_0
           try clear hx475_1
           try clear hx475_2
           try clear hx475_3
           try clear p473
           try clear p475
           try clear q473
           try clear q475
           obtain ⟨x4_3, x7_3, rfl, HA, HK3, HO_3, HO_4, HO_6, HB⟩ := hrel
           cases gk with
           | zero => exact absurd HA.out (by simp [spec_CoverOf.l1])
           | succ k3 =>
            have H := HA.out
            clear HA
            simp only [spec_CoverOf.l1] at H
            replace H := S.dc H; rcases H with ⟨H, c25b0⟩ | ⟨H, c25b0⟩
            ·by_cases c26 : 0 ≤ x7_3
             ·rw [if_pos c26] at H
              have c26b0 : decide (0 ≤ x7_3) = true := decide_eq_true c26
              clear c26
              replace H := S.bd H; obtain ⟨t486, A27, H⟩ := H
              (try dsimp only at H)
              have H' := Aside0.mk H
              clear H
              have p485 : 0 ≤ (x7_3 : Int) := S.oD
              have q485 : x7_3 < (t479.length : Int) := S.oD
              obtain ⟨ad485, e485, hx485_0⟩ := Kd.at_int (Kd.R_reads' HO_6.out).2.2 x7_3 p485 q485
              cases e485
              replace p485 := eq_true p485
              replace q485 := eq_true q485
              obtain ⟨Ao28, co28, eo28⟩ := Kd.R_slice HO_4.out
              subst eo28
              go_wp2_with (first | ((with_reducible refine gate_callee (f := 150) rfl ?_); refine S.gL (some 50) Try.func150 #[.slice Ao28 x4_3.length co28, .int .i64 (rd t479 x7_3)] ?_; (with_reducible refine (spec_l6Put.calls k3 _ _ x4_3 (rd t479 x7_3) t486 _ ?s1 (S.rl HO_4) A27.out).mono ?_); (case s1 => exact S.rd HO_4); rintro e w29 ⟨v487, rfl, ho0, hb⟩; refine ⟨_, rfl, ?_⟩; replace HO_3 := S.re HO_3 ho0 hb; have HO488 := Aside0.mk (Kd.R_lower (Kd.R_new' (Kd.R_new' ho0 (Kd.R_lt (S.uR HO_4.out))) (Kd.R_lt (S.uR HO_6.out))) (below_size S.bA)); replace HO_4 := S.re HO_4 ho0 hb; replace HO_6 := S.re HO_6 ho0 hb; replace HB := S.sA hb; (try clear hb); (try clear ho0)))
              go_roundg k3
              case measure => have := HK1.out; have := HJ5.out; have := HK3.out; omega
              case rel => exact ⟨(t486), (wrap64 (x7_3 + 1)), S.eA, H', ⟨by have := HK1.out; have := HJ5.out; have := HK3.out; omega⟩, ⟨by (with_reducible repeat (first | apply Kd.R_alloc | apply Kd.R_drewN | apply Kd.R_drew)); exact Kd.R_mono HO_3.out (fun _ hk => hk.2)⟩, ⟨by (with_reducible repeat (first | apply Kd.R_alloc | apply Kd.R_drewN | apply Kd.R_drew)); exact Kd.R_mono HO488.out (fun _ hk => hk.2)⟩, ⟨by (with_reducible repeat (first | apply Kd.R_alloc | apply Kd.R_drewN | apply Kd.R_drew)); exact Kd.R_mono HO_6.out (fun _ hk => trivial)⟩, ⟨S.bA⟩⟩
             ·rw [if_neg c26] at H
              exact absurd H (by simp)
            ·have H' := Aside0.mk H
             clear H
             go_wp2
             go_roundg k3
             case measure => have := HK1.out; have := HJ5.out; have := HK3.out; omega
             case rel => exact ⟨(y482), (x4_3), (wrap64 (x5_1 + 1)), S.eA, H', ⟨by have := HK1.out; have := HJ5.out; have := HK3.out; omega⟩, ⟨S.uR HO_3.out⟩, ⟨by (with_reducible repeat (first | apply Kd.R_alloc | apply Kd.R_drewN | apply Kd.R_drew)); exact Kd.R_mono HO_4.out (fun _ hk => trivial)⟩, ⟨S.bA⟩⟩
         ·rw [if_neg c17] at H
          exact absurd H (by simp)
       ·rw [if_neg c12] at H
        exact absurd H (by simp)
      ·rw [if_neg c11] at H
       exact absurd H (by simp)
     ·obtain rfl := Option.some.inj H
      go_wp2
      go_ret
      exact ⟨_, S.eW, by (with_reducible repeat (first | apply Kd.R_alloc | apply Kd.R_drewN | apply Kd.R_drew)); exact Kd.R_mono HO_3.out (fun _ hk => trivial), S.bA⟩
end Go.Proofs.Ytjgigmghcfdomaa.PFnWaves
