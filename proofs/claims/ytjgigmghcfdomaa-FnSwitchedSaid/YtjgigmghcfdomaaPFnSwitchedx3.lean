/- Printed by a program: what the Go functions compute, as plain Lean functions (.f), and the proofs that the machine's calls come to just that (.calls). -/
import Derived.Test.YtjgigmghcfdomaaPFnSwitchedx0
import Derived.Test.YtjgigmghcfdomaaPFnSwitchedx1
import Derived.Test.YtjgigmghcfdomaaPFnSwitchedx2
namespace Go.Proofs.Ytjgigmghcfdomaa.PFnSwitched
open Go.RowKit Go.Proofs.YtjgigmghcfdomaaW.PrintWords Go.Proofs.YtjgigmghcfdomaaW.PrintLast Go.Proofs.YtjgigmghcfdomaaW.PrintMore
attribute [local go_sem] max2_int min2_int max_two min_two max_three min_three max_four min_four   -- for this text's walks alone
set_option linter.unusedVariables false
set_option linter.unusedSimpArgs false
set_option maxHeartbeats 8000000
set_option maxRecDepth 100000
/-! ### impl_ClearBetween: function 109 -/
mutual
def impl_ClearBetween.j0 : Nat → List (S71) → List Int → List Int → Int → Bool → Option (Int)
 | 0, _, _, _, _, _ => none
 | k + 1, x0, x1, x2, x7, x22 => if x22 = true then (some x7) else ((impl_Closes.f k x1 x2).bind fun t183 => (impl_ClearBetween.l0 k x0 x1 x2 x7 t183 (t183.length : Int) 0))
def impl_ClearBetween.l0 : Nat → List (S71) → List Int → List Int → Int → List Int → Int → Int → Option (Int)
 | 0, _, _, _, _, _, _, _ => none
 | k + 1, x0, x1, x2, x7, x26, x27, x28 => if x28 < x27 then (if 0 ≤ x28 then (if x28 < (x26.length : Int) then ((impl_Closes.f k x2 x1).bind fun t187 => (impl_ClearBetween.l1 k x0 x1 x2 x7 (rd x26 x28) x26 x27 x28 t187 (t187.length : Int) 0)) else (none)) else (none)) else (some x7)
def impl_ClearBetween.l1 : Nat → List (S71) → List Int → List Int → Int → Int → List Int → Int → Int → List Int → Int → Int → Option (Int)
 | 0, _, _, _, _, _, _, _, _, _, _, _ => none
 | k + 1, x0, x1, x2, x7, x9, x26, x27, x28, x34, x35, x36 => if x36 < x35 then (if 0 ≤ x36 then (if x36 < (x34.length : Int) then ((impl_FindPath.f x0 x9).bind fun t191 => (if 0 ≤ t191 then (if t191 < (x0.length : Int) then ((impl_FindPath.f x0 (rd x34 x36)).bind fun t194 => (if 0 ≤ t194 then (if t194 < (x0.length : Int) then ((impl_Conflict.f k ((rd_T71 x0 t191).f0) ((rd_T71 x0 t191).f1) ((rd_T71 x0 t191).f2) ((rd_T71 x0 t191).f3) ((rd_T71 x0 t194).f0) ((rd_T71 x0 t194).f1) ((rd_T71 x0 t194).f2) ((rd_T71 x0 t194).f3)).bind fun t196 => (if t196 = true then ((impl_ClearOf.f ((rd_T71 x0 t191).f0) ((rd_T71 x0 t191).f1) ((rd_T71 x0 t191).f2) ((rd_T71 x0 t191).f3)).bind fun t197 => (impl_ClearBetween.l1 k x0 x1 x2 (mx x7 t197) x9 x26 x27 x28 x34 x35 (wrap64 (x36 + 1)))) else (impl_ClearBetween.l1 k x0 x1 x2 x7 x9 x26 x27 x28 x34 x35 (wrap64 (x36 + 1))))) else (none)) else (none))) else (none)) else (none))) else (none)) else (none)) else (impl_ClearBetween.l0 k x0 x1 x2 x7 x26 x27 (wrap64 (x28 + 1)))
end
def impl_ClearBetween.f (k : Nat) (l0 : List (S71)) (l1 : List Int) (l2 : List Int) : Option (Int) := (impl_IsTogether.f k l0 l1).bind fun t181 => (if t181 = true then ((impl_IsTogether.f k l0 l2).bind fun t182 => (impl_ClearBetween.j0 k l0 l1 l2 0 (!t182))) else (impl_ClearBetween.j0 k l0 l1 l2 0 true))
def impl_ClearBetween.T11 : Bool × List (List Nat × List Nat) := (true, [([], []), ([], []), ([], []), ([], []), ([2, 3], [2, 3]), ([1, 4], [1, 4]), ([5], [5]), ([0, 6, 4], [0, 6])])
def impl_ClearBetween.B11 : List Nat := [0, 0, 0, 0, 12, 30, 62, 127]
theorem impl_ClearBetween.tab11 : rtab .any (opsOf Try.f109 11) = impl_ClearBetween.T11 := by kernel_rfl
theorem impl_ClearBetween.bits11 : waitsOk impl_ClearBetween.T11.2 impl_ClearBetween.B11 = true := by kernel_rfl
theorem impl_ClearBetween.calls (k : Nat) (A0 : Option Addr) (c0 : Nat) (l0 : List (S71)) (A1 : Option Addr) (c1 : Nat) (l1 : List Int) (A2 : Option Addr) (c2 : Nat) (l2 : List Int) (r : Int) (w : World) (hr0 : Kd.C k71 w A0 l0.length l0) (hc0 : l0.length ≤ c0) (hr1 : Kd.C (Kd.int .i64) w A1 l1.length l1) (hc1 : l1.length ≤ c1) (hr2 : Kd.C (Kd.int .i64) w A2 l2.length l2) (hc2 : l2.length ≤ c2) (h : impl_ClearBetween.f k l0 l1 l2 = some r) :
  Calls Try.prog 109 #[.slice A0 l0.length c0, .slice A1 l1.length c1, .slice A2 l2.length c2] w fun e w' => e = .returned (.int .i64 r) ∧ Below w.heap.size w w' := by
 have hu71 := Try.underlying71
 have HR0 := Aside0.mk hr0
 have HC0 := Aside0.mk hc0
 clear hr0 hc0
 have HR1 := Aside0.mk hr1
 have HC1 := Aside0.mk hc1
 clear hr1 hc1
 have HR2 := Aside0.mk hr2
 have HC2 := Aside0.mk hc2
 clear hr2 hc2
 have HB := Aside0.mk (Below.refl w.heap.size w)
 have H : ((impl_IsTogether.f k l0 l1).bind fun t181 => (if t181 = true then ((impl_IsTogether.f k l0 l2).bind fun t182 => (impl_ClearBetween.j0 k l0 l1 l2 0 (!t182))) else (impl_ClearBetween.j0 k l0 l1 l2 0 true))) = some r := h
 clear h
 have HC4 := Aside0.mk H
 clear H
 go_enter Try.func109, Try.ntmps109
 go_upto_region 2 with (fail)
 go_cut [22] (fun v22 wc => ∃ (kq : Nat) (x22_3 : Bool), v22 = .bool x22_3 ∧ Aside0 (impl_ClearBetween.j0 kq l0 l1 l2 0 x22_3 = some r) ∧ Aside0 (kq ≤ k) ∧ Aside0 (Below w.heap.size w wc))
 case first =>
  have H := HC4.out
  clear HC4
  replace H := S.bd H; obtain ⟨t181, A5, H⟩ := H
  (try dsimp only at H)
  replace H := S.db H; rcases H with ⟨rfl, H⟩ | ⟨rfl, H⟩
  ·replace H := S.bd H; obtain ⟨t182, A7, H⟩ := H
   (try dsimp only at H)
   have H' := Aside0.mk H
   clear H
   go_wp2_with (first | ((with_reducible refine gate_callee (f := 104) rfl ?_); refine S.gL (some 15) Try.func104 #[.slice A0 l0.length c0, .slice A1 l1.length c1] ?_; (with_reducible refine (impl_IsTogether.calls k _ _ l0 _ _ l1 true _ ?s1 HC0.out ?s3 HC1.out A5.out).mono ?_); (case s1 => exact S.cA HR0.out); (case s3 => exact S.cA HR1.out); rintro e w8 ⟨rfl, hb⟩; refine ⟨_, rfl, ?_⟩; replace HB := S.sA hb; (try clear hb)) | (go_at_call 104; (with_reducible refine (impl_IsTogether.calls k _ _ l0 _ _ l2 t182 _ ?s1 HC0.out ?s3 HC2.out A7.out).mono ?_); (case s1 => exact S.cA HR0.out); (case s3 => exact S.cA HR2.out); rintro e w9 ⟨rfl, hb⟩; replace HB := S.sA hb; (try clear hb)))
   go_meet
   case rel => exact ⟨_, (!t182), S.eA, H', S.le, ⟨S.bA⟩⟩
  ·have H' := Aside0.mk H
   clear H
   go_wp2_with (first | ((with_reducible refine gate_callee (f := 104) rfl ?_); refine S.gL (some 15) Try.func104 #[.slice A0 l0.length c0, .slice A1 l1.length c1] ?_; (with_reducible refine (impl_IsTogether.calls k _ _ l0 _ _ l1 false _ ?s1 HC0.out ?s3 HC1.out A5.out).mono ?_); (case s1 => exact S.cA HR0.out); (case s3 => exact S.cA HR1.out); rintro e w10 ⟨rfl, hb⟩; refine ⟨_, rfl, ?_⟩; replace HB := S.sA hb; (try clear hb)))
   go_meet
   case rel => exact ⟨_, (true), S.eA, H', S.le, ⟨S.bA⟩⟩
 case rest =>
  clear HC4
  try clear c1
  try clear c2
  obtain ⟨kq, x22_3, rfl, HA, HJ3, HB⟩ := hcut
  cases kq with
  | zero => exact absurd HA.out (by simp [impl_ClearBetween.j0])
  | succ kj3 =>
   have H := HA.out
   clear HA
   simp only [impl_ClearBetween.j0] at H
   replace H := S.db H; rcases H with ⟨rfl, H⟩ | ⟨rfl, H⟩
   ·obtain rfl := Option.some.inj H
    go_wp2
    go_ret
    exact ⟨S.eW, S.bA⟩
   ·replace H := S.bd H; obtain ⟨t183, A12, H⟩ := H
    (try dsimp only at H)
    have H' := Aside0.mk H
    clear H
    go_wp2_with (first | ((with_reducible refine gate_callee (f := 130) rfl ?_); refine S.gL (some 26) Try.func130 #[.slice A1 l1.length c1, .slice A2 l2.length c2] ?_; (with_reducible refine (impl_Closes.calls kj3 _ _ l1 _ _ l2 t183 _ ?s1 HC1.out ?s3 HC2.out A12.out).mono ?_); (case s1 => exact S.cA HR1.out); (case s3 => exact S.cA HR2.out); rintro e w13 ⟨v184, rfl, ho0, hb⟩; refine ⟨_, rfl, ?_⟩; have HO185 := S.lwA ho0; replace HB := S.sA hb; (try clear hb); (try clear ho0); obtain ⟨Ao14, co14, eo14⟩ := Kd.R_slice HO185.out; subst eo14))
    go_loopg [7, 28] kj3 (fun kq v7 v28 w' => ∃ (x7_2 : Int) (x28_2 : Int), v7 = .int .i64 x7_2 ∧ v28 = .int .i64 x28_2 ∧ Aside0 (impl_ClearBetween.l0 kq l0 l1 l2 x7_2 t183 (t183.length : Int) x28_2 = some r) ∧ Aside0 (kq ≤ kj3) ∧ Aside0 (Kd.R (Kd.int .i64) 3 w' w.heap.size (fun _ => True) (.slice Ao14 t183.length co14) t183) ∧ Aside0 (Below w.heap.size w w'))
    case atStart => exact ⟨(0), (0), S.eA, S.eA, H', ⟨Nat.le_refl _⟩, ⟨S.uR HO185.out⟩, ⟨S.bA⟩⟩
    case round =>
     clear H'
     try clear c1
     try clear c2
     try clear c11
     obtain ⟨x7_2, x28_2, rfl, rfl, HA, HK2, HO_26, HB⟩ := hrel
     cases gk with
     | zero => exact absurd HA.out (by simp [impl_ClearBetween.l0])
     | succ k2 =>
      have H := HA.out
      clear HA
      simp only [impl_ClearBetween.l0] at H
      replace H := S.dc H; rcases H with ⟨H, c15b0⟩ | ⟨H, c15b0⟩
      ·by_cases c16 : 0 ≤ x28_2
       ·rw [if_pos c16] at H
        have c16b0 : decide (0 ≤ x28_2) = true := decide_eq_true c16
        clear c16
        by_cases c17 : x28_2 < (t183.length : Int)
        ·rw [if_pos c17] at H
         have c17b0 : decide (x28_2 < (t183.length : Int)) = true := decide_eq_true c17
         clear c17
         replace H := S.bd H; obtain ⟨t187, A18, H⟩ := H
         (try dsimp only at H)
         have H' := Aside0.mk H
         clear H
         have p186 : 0 ≤ (x28_2 : Int) := S.oD
         have q186 : x28_2 < (t183.length : Int) := S.oD
         obtain ⟨ad186, e186, hx186_0⟩ := Kd.at_int (Kd.R_reads' HO_26.out).2.2 x28_2 p186 q186
         cases e186
         replace p186 := eq_true p186
         replace q186 := eq_true q186
         go_wp2_with (first | ((with_reducible refine gate_callee (f := 130) rfl ?_); refine S.gL (some 34) Try.func130 #[.slice A2 l2.length c2, .slice A1 l1.length c1] ?_; (with_reducible refine (impl_Closes.calls k2 _ _ l2 _ _ l1 t187 _ ?s1 HC2.out ?s3 HC1.out A18.out).mono ?_); (case s1 => exact S.cA HR2.out); (case s3 => exact S.cA HR1.out); rintro e w19 ⟨v188, rfl, ho0, hb⟩; refine ⟨_, rfl, ?_⟩; have HO189 := S.rnA ho0 HO_26; replace HO_26 := S.re HO_26 ho0 hb; replace HB := S.sA hb; (try clear hb); (try clear ho0); obtain ⟨Ao20, co20, eo20⟩ := Kd.R_slice HO189.out; subst eo20))
         go_loopg [7, 36] k2 (fun kq v7 v36 w' => ∃ (x7_3 : Int) (x36_3 : Int), v7 = .int .i64 x7_3 ∧ v36 = .int .i64 x36_3 ∧ Aside0 (impl_ClearBetween.l1 kq l0 l1 l2 x7_3 (rd t183 x28_2) t183 (t183.length : Int) x28_2 t187 (t187.length : Int) x36_3 = some r) ∧ Aside0 (kq ≤ k2) ∧ Aside0 (Kd.R (Kd.int .i64) 3 w' w.heap.size (fun k_ => some k_ ≠ ((.slice Ao20 t187.length co20) : Value).ownBlock) (.slice (some ad186) t183.length co14) t183) ∧ Aside0 (Kd.R (Kd.int .i64) 3 w' w.heap.size (fun k_ => some k_ ≠ ((.slice (some ad186) t183.length co14) : Value).ownBlock) (.slice Ao20 t187.length co20) t187) ∧ Aside0 (Below w.heap.size w w'))
         case atStart => exact ⟨(x7_2), (0), S.eA, S.eA, H', ⟨Nat.le_refl _⟩, ⟨by (with_reducible repeat (first | apply Kd.R_alloc | apply Kd.R_drewN | apply Kd.R_drew)); exact Kd.R_mono HO_26.out (fun _ hk => hk.2)⟩, ⟨by (with_reducible repeat (first | apply Kd.R_alloc | apply Kd.R_drewN | apply Kd.R_drew)); exact Kd.R_mono HO189.out (fun _ hk => hk.2)⟩, ⟨S.bA⟩⟩
         case round =>
          clear H'
          try clear c1
          try clear c2
          try clear c11
          try clear c15
          try clear c15b0
          try clear c16
          try clear c16b0
          try clear c17
          try clear c17b0
          try clear hx186_0
          try clear p186
          try clear q186
          obtain ⟨x7_3, x36_3, rfl, rfl, HA, HK3, HO_26, HO_34, HB⟩ := hrel
          cases gk with
          | zero => exact absurd HA.out (by simp [impl_ClearBetween.l1])
          | succ k3 =>
           have H := HA.out
           clear HA
           simp only [impl_ClearBetween.l1] at H
           replace H := S.dc H; rcases H with ⟨H, c21b0⟩ | ⟨H, c21b0⟩
           ·by_cases c22 : 0 ≤ x36_3
            ·rw [if_pos c22] at H
             have c22b0 : decide (0 ≤ x36_3) = true := decide_eq_true c22
             clear c22
             by_cases c23 : x36_3 < (t187.length : Int)
             ·rw [if_pos c23] at H
              have c23b0 : decide (x36_3 < (t187.length : Int)) = true := decide_eq_true c23
              clear c23
              replace H := S.bd H; obtain ⟨t191, A24, H⟩ := H
              (try dsimp only at H)
              by_cases c25 : 0 ≤ t191
              ·rw [if_pos c25] at H
               have c25b0 : decide (0 ≤ t191) = true := decide_eq_true c25
               clear c25
               by_cases c26 : t191 < (l0.length : Int)
               ·rw [if_pos c26] at H
                have c26b0 : decide (t191 < (l0.length : Int)) = true := decide_eq_true c26
                clear c26
                replace H := S.bd H; obtain ⟨t194, A27, H⟩ := H
                (try dsimp only at H)
                by_cases c28 : 0 ≤ t194
                ·rw [if_pos c28] at H
                 have c28b0 : decide (0 ≤ t194) = true := decide_eq_true c28
                 clear c28
                 by_cases c29 : t194 < (l0.length : Int)
                 ·rw [if_pos c29] at H
                  have c29b0 : decide (t194 < (l0.length : Int)) = true := decide_eq_true c29
                  clear c29
                  replace H := S.bd H; obtain ⟨t196, A30, H⟩ := H
                  (try dsimp only at H)
                  replace H := S.db H; rcases H with ⟨rfl, H⟩ | ⟨rfl, H⟩
                  ·replace H := S.bd H; obtain ⟨t197, A32, H⟩ := H
                   (try dsimp only at H)
                   obtain ⟨ji33, hji33⟩ : ∃ j_ : Int, (mx x7_3 t197) = j_ := ⟨_, rfl⟩
                   replace H : (impl_ClearBetween.l1 k3 l0 l1 l2 ji33 (rd t183 x28_2) t183 (t183.length : Int) x28_2 t187 (t187.length : Int) (wrap64 (x36_3 + 1))) = some r := by first | (rw [hji33] at H; exact H) | (simp only [hji33] at H ⊢; exact H)
                   (try rw [hji33] at A24)
                   (try rw [hji33] at A27)
                   (try rw [hji33] at A30)
                   (try rw [hji33] at A32)
                   have hji33_ : (if x7_3 < t197 then t197 else x7_3) = ji33 := hji33
                   have H' := Aside0.mk H
                   clear H
                   have p190 : 0 ≤ (x36_3 : Int) := S.oD
                   have q190 : x36_3 < (t187.length : Int) := S.oD
                   obtain ⟨ad190, e190, hx190_0⟩ := Kd.at_int (Kd.R_reads' HO_34.out).2.2 x36_3 p190 q190
                   cases e190
                   replace p190 := eq_true p190
                   replace q190 := eq_true q190
                   try go_wp2_with (first | ((with_reducible refine gate_callee (f := 83) rfl ?_); refine S.gL (some 43) Try.func83 #[.slice A0 l0.length c0, .int .i64 (rd t183 x28_2)] ?_; (with_reducible refine (impl_FindPath.calls _ _ l0 (rd t183 x28_2) t191 _ ?s1 HC0.out A24.out).mono ?_); (case s1 => exact S.cA HR0.out); rintro e w34 ⟨rfl, hb⟩; refine ⟨_, rfl, ?_⟩; replace HO_26 := S.rb HO_26 hb; replace HO_34 := S.rb HO_34 hb; replace HB := S.sA hb; (try clear hb); have p192 : 0 ≤ (t191 : Int) := S.oD; have q192 : t191 < (l0.length : Int) := S.oD; obtain ⟨ad192, e192, hx192_0, hx192_1, hx192_2, hx192_3⟩ := at_T71 HR0.out t191 p192 q192; cases e192; replace hx192_0 := S.hb HB hx192_0; replace hx192_1 := S.hb HB hx192_1; replace hx192_2 := S.hb HB hx192_2; replace hx192_3 := S.hb HB hx192_3; replace p192 := eq_true p192; replace q192 := eq_true q192) | ((with_reducible refine gate_dst (N := 12) rfl ?_); refine S.bx 12 (cs := #[.int .i64 0, .int .i64 0, .int .i64 0, .int .i64 0]) (t := 71) ?_; intro gb193 hg w35 hbox hb; replace HO_26 := S.rb HO_26 hb; replace HO_34 := S.rb HO_34 hb; have BK193 := Aside0.mk hbox; have GW193 := S.geA hg; have GE193 := S.geA hg; replace HB := S.sA hb; clear hb hbox hg; obtain ⟨Z36a, Z36b, Z36c, Z36d, Y36a, Y36b, Y36c, Y36d⟩ := S.c4 BK193.out))
                   generalize hq_ : ((((w35.setCell ⟨gb193, 0, none⟩ (.int .i64 ((rd_T71 l0 t191).f0))).setCell ⟨gb193, 1, none⟩ (.int .i64 ((rd_T71 l0 t191).f1))).setCell ⟨gb193, 2, none⟩ (.int .i64 ((rd_T71 l0 t191).f2))).setCell ⟨gb193, 3, none⟩ (.int .i64 ((rd_T71 l0 t191).f3))) = w37
                   replace HO_26 := S.f4 hq_ HO_26 BK193
                   replace HO_34 := S.f4 hq_ HO_34 BK193
                   replace BK193 := S.p4 hq_ BK193
                   replace HB := S.bQ hq_
                   clear hq_
                   replace HO_26 := S.dr HO_26
                   replace HO_34 := S.dr HO_34
                   replace BK193 := Aside0.mk (blk_drew BK193.out)
                   replace HB := Aside0.mk (below_drew1 HB.out)
                   have p195 : 0 ≤ (t194 : Int) := S.oD
                   have q195 : t194 < (l0.length : Int) := S.oD
                   obtain ⟨ad195, e195, hx195_0, hx195_1, hx195_2, hx195_3⟩ := at_T71 HR0.out t194 p195 q195
                   have hw195_3 := hx195_3
                   have hw195_2 := hx195_2
                   have hw195_1 := hx195_1
                   have hw195_0 := hx195_0
                   obtain rfl : ad192 = ad195 := (by injection e195)
                   replace hx195_0 := S.hb HB hx195_0
                   replace hx195_1 := S.hb HB hx195_1
                   replace hx195_2 := S.hb HB hx195_2
                   replace hx195_3 := S.hb HB hx195_3
                   replace p195 := eq_true p195
                   replace q195 := eq_true q195
                   refine S.st (n := 8) (ds := []) #[false, false, false, false, false, false, false, false] (fun w_ h_ => have x_ := S.d4 (S.Q h_ BK193.out) (And.intro (S.q h_ (S.hb HB hw195_0)) (And.intro (S.q h_ (S.hb HB hw195_1)) (And.intro (S.q h_ (S.hb HB hw195_2)) (S.q h_ (S.hb HB hw195_3))))); x_) (fun hHeld => ?_); refine with_tabW impl_ClearBetween.tab11 impl_ClearBetween.bits11 (fun HT_ HW_ => ?_)
                   generalize w37.drew = w38 at HO_26 HO_34 BK193 HB hx195_0 hx195_1 hx195_2 hx195_3 hHeld ⊢
                   refine S.pS 1 47 ?_
                   refine S.pS 2 48 ?_
                   refine S.pS 3 49 ?_
                   refine S.tK 0 46 #[true, true, true, true, false, false, false, false] ?_
                   refine S.oN 4 50 #[true, true, true, true, true, false, false, false] (fun K hK => ?_)
                   refine S.go Try.func83 #[.slice (some ad192) l0.length c0, .int .i64 (rd t187 x36_3)] ?_
                   with_reducible refine (impl_FindPath.calls _ _ l0 (rd t187 x36_3) t194 _ ?s1 ?s2 A27.out).mono ?_
                   (case s1 => exact S.cA HR0.out)
                   (case s2 => exact HC0.out)
                   rintro e w39 ⟨rfl, hb⟩
                   refine ⟨_, rfl, ?_⟩
                   replace HO_26 := S.rb HO_26 hb
                   replace HO_34 := S.rb HO_34 hb
                   replace BK193 := S.kb BK193 hb
                   replace HB := S.sG hb
                   (try clear hb)
                   (try clear hb2)
                   (try clear hk)
                   (try clear hi)
                   refine hK.out _ _ (S.d4 BK193.out (And.intro ((S.hb HB hw195_0 :)) (And.intro ((S.hb HB hw195_1 :)) (And.intro ((S.hb HB hw195_2 :)) ((S.hb HB hw195_3 :)))))) (fun hHeld => ?_)
                   clear hK K
                   refine S.nm 50 ?_
                   refine S.pS 5 51 ?_
                   refine S.tK 6 52 #[true, true, true, true, true, true, true, false] ?_
                   refine S.oN 7 53 #[true, true, true, true, true, true, true, true] (fun K hK => ?_)
                   refine S.go Try.func89 #[.agg #[.int .i64 ((rd_T71 l0 t191).f0), .int .i64 ((rd_T71 l0 t191).f1), .int .i64 ((rd_T71 l0 t191).f2), .int .i64 ((rd_T71 l0 t191).f3)], .agg #[.int .i64 ((rd_T71 l0 t194).f0), .int .i64 ((rd_T71 l0 t194).f1), .int .i64 ((rd_T71 l0 t194).f2), .int .i64 ((rd_T71 l0 t194).f3)]] ?_
                   with_reducible refine (impl_Conflict.calls k3 ((rd_T71 l0 t191).f0) ((rd_T71 l0 t191).f1) ((rd_T71 l0 t191).f2) ((rd_T71 l0 t191).f3) ((rd_T71 l0 t194).f0) ((rd_T71 l0 t194).f1) ((rd_T71 l0 t194).f2) ((rd_T71 l0 t194).f3) true _ A30.out).mono ?_
                   rintro e w40 ⟨rfl, hb⟩
                   refine ⟨_, rfl, ?_⟩
                   replace HO_26 := S.rb HO_26 hb
                   replace HO_34 := S.rb HO_34 hb
                   replace BK193 := S.kb BK193 hb
                   replace HB := S.sG hb
                   (try clear hb)
                   (try clear hb2)
                   (try clear hk)
                   (try clear hi)
                   refine hK.out _ _ (S.d4 BK193.out (And.intro ((S.hb HB hw195_0 :)) (And.intro ((S.hb HB hw195_1 :)) (And.intro ((S.hb HB hw195_2 :)) ((S.hb HB hw195_3 :)))))) (fun hHeld => ?_)
                   clear hK K
                   refine S.nm 53 ?_
                   refine done_ (done_of HT_.out (by kernel_rfl)) ?_
                   obtain ⟨Z41a, Z41b, Z41c, Z41d, Y41a, Y41b, Y41c, Y41d⟩ := S.c4 BK193.out
                   try go_wp2_with (first | ((with_reducible refine gate_callee (f := 114) rfl ?_); refine S.gL (some 56) Try.func114 #[.agg #[.int .i64 ((rd_T71 l0 t191).f0), .int .i64 ((rd_T71 l0 t191).f1), .int .i64 ((rd_T71 l0 t191).f2), .int .i64 ((rd_T71 l0 t191).f3)]] ?_; (with_reducible refine (impl_ClearOf.calls ((rd_T71 l0 t191).f0) ((rd_T71 l0 t191).f1) ((rd_T71 l0 t191).f2) ((rd_T71 l0 t191).f3) t197 _ A32.out).mono ?_); rintro e w42 ⟨rfl, hb⟩; refine ⟨_, rfl, ?_⟩; replace HO_26 := S.rb HO_26 hb; replace HO_34 := S.rb HO_34 hb; replace BK193 := S.kb BK193 hb; replace HB := S.sG hb; (try clear hb)))
                   go_roundg k3
                   case measure => have := HJ3.out; have := HK2.out; have := HK3.out; omega
                   case rel => exact ⟨(ji33), (wrap64 (x36_3 + 1)), (by first | rfl | (simp; done) | (simp only [← hji33] <;> (first | rfl | simp)) | (simp [*]; done)), S.eA, H', ⟨by have := HJ3.out; have := HK2.out; have := HK3.out; omega⟩, ⟨S.uR HO_26.out⟩, ⟨S.uR HO_34.out⟩, ⟨S.bG⟩⟩
                  ·have H' := Aside0.mk H
                   clear H
                   have p190 : 0 ≤ (x36_3 : Int) := S.oD
                   have q190 : x36_3 < (t187.length : Int) := S.oD
                   obtain ⟨ad190, e190, hx190_0⟩ := Kd.at_int (Kd.R_reads' HO_34.out).2.2 x36_3 p190 q190
                   cases e190
                   replace p190 := eq_true p190
                   replace q190 := eq_true q190
                   try go_wp2_with (first | ((with_reducible refine gate_callee (f := 83) rfl ?_); refine S.gL (some 43) Try.func83 #[.slice A0 l0.length c0, .int .i64 (rd t183 x28_2)] ?_; (with_reducible refine (impl_FindPath.calls _ _ l0 (rd t183 x28_2) t191 _ ?s1 HC0.out A24.out).mono ?_); (case s1 => exact S.cA HR0.out); rintro e w43 ⟨rfl, hb⟩; refine ⟨_, rfl, ?_⟩; replace HO_26 := S.rb HO_26 hb; replace HO_34 := S.rb HO_34 hb; replace HB := S.sA hb; (try clear hb); have p192 : 0 ≤ (t191 : Int) := S.oD; have q192 : t191 < (l0.length : Int) := S.oD; obtain ⟨ad192, e192, hx192_0, hx192_1, hx192_2, hx192_3⟩ := at_T71 HR0.out t191 p192 q192; cases e192; replace hx192_0 := S.hb HB hx192_0; replace hx192_1 := S.hb HB hx192_1; replace hx192_2 := S.hb HB hx192_2; replace hx192_3 := S.hb HB hx192_3; replace p192 := eq_true p192; replace q192 := eq_true q192) | ((with_reducible refine gate_dst (N := 12) rfl ?_); refine S.bx 12 (cs := #[.int .i64 0, .int .i64 0, .int .i64 0, .int .i64 0]) (t := 71) ?_; intro gb193 hg w44 hbox hb; replace HO_26 := S.rb HO_26 hb; replace HO_34 := S.rb HO_34 hb; have BK193 := Aside0.mk hbox; have GW193 := S.geA hg; have GE193 := S.geA hg; replace HB := S.sA hb; clear hb hbox hg; obtain ⟨Z45a, Z45b, Z45c, Z45d, Y45a, Y45b, Y45c, Y45d⟩ := S.c4 BK193.out))
                   generalize hq_ : ((((w44.setCell ⟨gb193, 0, none⟩ (.int .i64 ((rd_T71 l0 t191).f0))).setCell ⟨gb193, 1, none⟩ (.int .i64 ((rd_T71 l0 t191).f1))).setCell ⟨gb193, 2, none⟩ (.int .i64 ((rd_T71 l0 t191).f2))).setCell ⟨gb193, 3, none⟩ (.int .i64 ((rd_T71 l0 t191).f3))) = w46
                   replace HO_26 := S.f4 hq_ HO_26 BK193
                   replace HO_34 := S.f4 hq_ HO_34 BK193
                   replace BK193 := S.p4 hq_ BK193
                   replace HB := S.bQ hq_
                   clear hq_
                   replace HO_26 := S.dr HO_26
                   replace HO_34 := S.dr HO_34
                   replace BK193 := Aside0.mk (blk_drew BK193.out)
                   replace HB := Aside0.mk (below_drew1 HB.out)
                   have p195 : 0 ≤ (t194 : Int) := S.oD
                   have q195 : t194 < (l0.length : Int) := S.oD
                   obtain ⟨ad195, e195, hx195_0, hx195_1, hx195_2, hx195_3⟩ := at_T71 HR0.out t194 p195 q195
                   have hw195_3 := hx195_3
                   have hw195_2 := hx195_2
                   have hw195_1 := hx195_1
                   have hw195_0 := hx195_0
                   obtain rfl : ad192 = ad195 := (by injection e195)
                   replace hx195_0 := S.hb HB hx195_0
                   replace hx195_1 := S.hb HB hx195_1
                   replace hx195_2 := S.hb HB hx195_2
                   replace hx195_3 := S.hb HB hx195_3
                   replace p195 := eq_true p195
                   replace q195 := eq_true q195
                   refine S.st (n := 8) (ds := []) #[false, false, false, false, false, false, false, false] (fun w_ h_ => have x_ := S.d4 (S.Q h_ BK193.out) (And.intro (S.q h_ (S.hb HB hw195_0)) (And.intro (S.q h_ (S.hb HB hw195_1)) (And.intro (S.q h_ (S.hb HB hw195_2)) (S.q h_ (S.hb HB hw195_3))))); x_) (fun hHeld => ?_); refine with_tabW impl_ClearBetween.tab11 impl_ClearBetween.bits11 (fun HT_ HW_ => ?_)
                   generalize w46.drew = w47 at HO_26 HO_34 BK193 HB hx195_0 hx195_1 hx195_2 hx195_3 hHeld ⊢
                   refine S.pS 1 47 ?_
                   refine S.pS 2 48 ?_
                   refine S.pS 3 49 ?_
                   refine S.tK 0 46 #[true, true, true, true, false, false, false, false] ?_
                   refine S.oN 4 50 #[true, true, true, true, true, false, false, false] (fun K hK => ?_)
                   refine S.go Try.func83 #[.slice (some ad192) l0.length c0, .int .i64 (rd t187 x36_3)] ?_
                   with_reducible refine (impl_FindPath.calls _ _ l0 (rd t187 x36_3) t194 _ ?s1 ?s2 A27.out).mono ?_
                   (case s1 => exact S.cA HR0.out)
                   (case s2 => exact HC0.out)
                   rintro e w48 ⟨rfl, hb⟩
                   refine ⟨_, rfl, ?_⟩
                   replace HO_26 := S.rb HO_26 hb
                   replace HO_34 := S.rb HO_34 hb
                   replace BK193 := S.kb BK193 hb
                   replace HB := S.sG hb
                   (try clear hb)
                   (try clear hb2)
                   (try clear hk)
                   (try clear hi)
                   refine hK.out _ _ (S.d4 BK193.out (And.intro ((S.hb HB hw195_0 :)) (And.intro ((S.hb HB hw195_1 :)) (And.intro ((S.hb HB hw195_2 :)) ((S.hb HB hw195_3 :)))))) (fun hHeld => ?_)
                   clear hK K
                   refine S.nm 50 ?_
                   refine S.pS 5 51 ?_
                   refine S.tK 6 52 #[true, true, true, true, true, true, true, false] ?_
                   refine S.oN 7 53 #[true, true, true, true, true, true, true, true] (fun K hK => ?_)
                   refine S.go Try.func89 #[.agg #[.int .i64 ((rd_T71 l0 t191).f0), .int .i64 ((rd_T71 l0 t191).f1), .int .i64 ((rd_T71 l0 t191).f2), .int .i64 ((rd_T71 l0 t191).f3)], .agg #[.int .i64 ((rd_T71 l0 t194).f0), .int .i64 ((rd_T71 l0 t194).f1), .int .i64 ((rd_T71 l0 t194).f2), .int .i64 ((rd_T71 l0 t194).f3)]] ?_
                   with_reducible refine (impl_Conflict.calls k3 ((rd_T71 l0 t191).f0) ((rd_T71 l0 t191).f1) ((rd_T71 l0 t191).f2) ((rd_T71 l0 t191).f3) ((rd_T71 l0 t194).f0) ((rd_T71 l0 t194).f1) ((rd_T71 l0 t194).f2) ((rd_T71 l0 t194).f3) false _ A30.out).mono ?_
                   rintro e w49 ⟨rfl, hb⟩
                   refine ⟨_, rfl, ?_⟩
                   replace HO_26 := S.rb HO_26 hb
                   replace HO_34 := S.rb HO_34 hb
                   replace BK193 := S.kb BK193 hb
                   replace HB := S.sG hb
                   (try clear hb)
                   (try clear hb2)
                   (try clear hk)
                   (try clear hi)
                   refine hK.out _ _ (S.d4 BK193.out (And.intro ((S.hb HB hw195_0 :)) (And.intro ((S.hb HB hw195_1 :)) (And.intro ((S.hb HB hw195_2 :)) ((S.hb HB hw195_3 :)))))) (fun hHeld => ?_)
                   clear hK K
                   refine S.nm 53 ?_
                   refine done_ (done_of HT_.out (by kernel_rfl)) ?_
                   try go_wp2
                   go_roundg k3
                   case measure => have := HJ3.out; have := HK2.out; have := HK3.out; omega
                   case rel => exact ⟨(x7_3), (wrap64 (x36_3 + 1)), S.eA, S.eA, H', ⟨by have := HJ3.out; have := HK2.out; have := HK3.out; omega⟩, ⟨S.uR HO_26.out⟩, ⟨S.uR HO_34.out⟩, ⟨S.bG⟩⟩
                 ·rw [if_neg c29] at H
                  exact absurd H (by simp)
                ·rw [if_neg c28] at H
                 exact absurd H (by simp)
               ·rw [if_neg c26] at H
                exact absurd H (by simp)
              ·rw [if_neg c25] at H
               exact absurd H (by simp)
             ·rw [if_neg c23] at H
              exact absurd H (by simp)
            ·rw [if_neg c22] at H
             exact absurd H (by simp)
           ·have H' := Aside0.mk H
            clear H
            go_wp2
            go_roundg k3
            case measure => have := HJ3.out; have := HK2.out; have := HK3.out; omega
            case rel => exact ⟨(x7_3), (wrap64 (x28_2 + 1)), S.eA, S.eA, H', ⟨by have := HJ3.out; have := HK2.out; have := HK3.out; omega⟩, ⟨by (with_reducible repeat (first | apply Kd.R_alloc | apply Kd.R_drewN | apply Kd.R_drew)); exact Kd.R_mono HO_26.out (fun _ hk => trivial)⟩, ⟨S.bA⟩⟩
        ·rw [if_neg c17] at H
         exact absurd H (by simp)
       ·rw [if_neg c16] at H
        exact absurd H (by simp)
      ·obtain rfl := Option.some.inj H
       go_wp2
       go_ret
       exact ⟨S.eW, S.bA⟩
/-! ### impl_longOf: function 81 -/
def impl_longOf.f (k : Nat) (l0 : List (S71)) (l1 : List (S85)) (a2 : Int) : Option (Int) := if 0 ≤ a2 then (if a2 < (l1.length : Int) then ((impl_nextStage.f l1 a2).bind fun t200 => ((impl_ClearBetween.f k l0 ((rd_T85 l1 a2).f0) t200).bind fun t203 => (some (wrap64 (((rd_T85 l1 a2).f1) + t203))))) else (none)) else (none)
def impl_longOf.T1 : Bool × List (List Nat × List Nat) := (true, [([], []), ([], []), ([0, 1], [0, 1]), ([2], [2]), ([3], [3]), ([], []), ([], []), ([], []), ([6, 7], [6, 7]), ([8], [8]), ([9], [9]), ([], []), ([], []), ([11, 12], [11, 12]), ([5, 10, 13, 13], [5, 10, 13]), ([4, 14], [4, 14]), ([15, 14, 0, 1, 2, 3, 4, 5, 6, 7, 8, 9, 10, 11, 12, 13, 14, 15], [15])])
def impl_longOf.B1 : List Nat := [0, 0, 3, 7, 15, 0, 0, 0, 192, 448, 960, 0, 0, 6144, 16352, 32767, 65535]
theorem impl_longOf.tab1 : rtab .any (opsOf Try.f81 1) = impl_longOf.T1 := by kernel_rfl
theorem impl_longOf.bits1 : waitsOk impl_longOf.T1.2 impl_longOf.B1 = true := by kernel_rfl
theorem impl_longOf.calls (k : Nat) (A0 : Option Addr) (c0 : Nat) (l0 : List (S71)) (A1 : Option Addr) (c1 : Nat) (l1 : List (S85)) (a2 : Int) (r : Int) (w : World) (hr0 : Kd.C k71 w A0 l0.length l0) (hc0 : l0.length ≤ c0) (hr1 : Kd.C k85 w A1 l1.length l1) (hc1 : l1.length ≤ c1) (h : impl_longOf.f k l0 l1 a2 = some r) :
  Calls Try.prog 81 #[.slice A0 l0.length c0, .slice A1 l1.length c1, .int .i64 a2] w fun e w' => e = .returned (.int .i64 r) ∧ Below w.heap.size w w' := by
 have HR0 := Aside0.mk hr0
 have HC0 := Aside0.mk hc0
 clear hr0 hc0
 have HR1 := Aside0.mk hr1
 have HC1 := Aside0.mk hc1
 clear hr1 hc1
 have HB := Aside0.mk (Below.refl w.heap.size w)
 have H : (if 0 ≤ a2 then (if a2 < (l1.length : Int) then ((impl_nextStage.f l1 a2).bind fun t200 => ((impl_ClearBetween.f k l0 ((rd_T85 l1 a2).f0) t200).bind fun t203 => (some (wrap64 (((rd_T85 l1 a2).f1) + t203))))) else (none)) else (none)) = some r := h
 clear h
 by_cases c4 : 0 ≤ a2
 ·rw [if_pos c4] at H
  have c4b0 : decide (0 ≤ a2) = true := decide_eq_true c4
  clear c4
  by_cases c5 : a2 < (l1.length : Int)
  ·rw [if_pos c5] at H
   have c5b0 : decide (a2 < (l1.length : Int)) = true := decide_eq_true c5
   clear c5
   replace H := S.bd H; obtain ⟨t200, A6, H⟩ := H
   (try dsimp only at H)
   replace H := S.bd H; obtain ⟨t203, A7, H⟩ := H
   (try dsimp only at H)
   obtain rfl := Option.some.inj H
   go_enter Try.func81, Try.ntmps81
   try go_wp2
   replace HB := Aside0.mk (below_drew1 HB.out)
   have p198 : 0 ≤ (a2 : Int) := S.oD
   have q198 : a2 < (l1.length : Int) := S.oD
   obtain ⟨ad198, A198_0, c198_0, e198, hx198_0, hx198_1, hl198_0, hi198_0⟩ := at_T85 HR1.out a2 p198 q198
   have hw198_1 := hx198_1
   have hw198_0 := hx198_0
   cases e198
   replace hx198_0 := S.hb HB hx198_0
   replace hx198_1 := S.hb HB hx198_1
   have HR198_0 := Aside0.mk hi198_0
   have HC198_0 := Aside0.mk hl198_0
   clear hi198_0 hl198_0
   replace p198 := eq_true p198
   replace q198 := eq_true q198
   have p199 : 0 ≤ (a2 : Int) := S.oD
   have q199 : a2 < (l1.length : Int) := S.oD
   obtain ⟨ad199, A199_0, c199_0, e199, hx199_0, hx199_1, hl199_0, hi199_0⟩ := at_T85 HR1.out a2 p199 q199
   have hw199_1 := hx199_1
   have hw199_0 := hx199_0
   obtain rfl : ad198 = ad199 := (by injection e199)
   replace hx199_0 := S.hb HB hx199_0
   replace hx199_1 := S.hb HB hx199_1
   have HR199_0 := Aside0.mk hi199_0
   have HC199_0 := Aside0.mk hl199_0
   clear hi199_0 hl199_0
   replace p199 := eq_true p199
   replace q199 := eq_true q199
   have ea_ := Option.some.inj (hx198_0.symm.trans hx199_0)
   injection ea_ with ea_ en_ ec_
   subst ea_
   subst ec_
   clear en_
   refine S.st (n := 17) (ds := []) #[false, false, false, false, false, false, false, false, false, false, false, false, false, false, false, false, false] (fun w_ h_ => have x_ := And.intro (S.q h_ (S.hb HB hw198_0)) (And.intro (S.q h_ (S.hb HB hw198_1)) (And.intro (S.q h_ (S.hb HB hw199_0)) (S.q h_ (S.hb HB hw199_1)))); x_) (fun hHeld => ?_); refine with_tabW impl_longOf.tab1 impl_longOf.bits1 (fun HT_ HW_ => ?_)
   generalize w.drew = w8 at HB HR198_0 HR199_0 hx198_0 hx198_1 hx199_0 hx199_1 hHeld ⊢
   refine S.pS 0 7 ?_
   refine S.pS 1 8 ?_
   refine S.pS 2 9 ?_
   refine S.pS 3 10 ?_
   refine S.pS 5 12 ?_
   refine S.pS 6 13 ?_
   refine S.pS 7 14 ?_
   refine S.pS 8 15 ?_
   refine S.pS 9 16 ?_
   refine S.pS 11 18 ?_
   refine S.pS 12 19 ?_
   refine S.tK 4 11 #[true, true, true, true, true, true, true, true, true, true, false, true, true, false, false, false, false] ?_
   refine S.tK 10 17 #[true, true, true, true, true, true, true, true, true, true, true, true, true, false, false, false, false] ?_
   refine S.oN 13 20 #[true, true, true, true, true, true, true, true, true, true, true, true, true, true, false, false, false] (fun K hK => ?_)
   refine S.go Try.func110 #[.slice (some ad198) l1.length c1, .int .i64 a2] ?_
   with_reducible refine (impl_nextStage.calls (fun k_ => k_ < w.heap.size) _ _ l1 a2 t200 _ ?s1 A6.out).mono ?_
   (case s1 => exact Kd.V_mk HC1.out (Kd.F_below (Kd.C_F k85_heap HR1.out) S.bA))
   rintro e w9 ⟨v201, rfl, ho0, hb⟩
   refine ⟨_, rfl, ?_⟩
   have HO202 := Aside0.mk (Kd.V_lower (Kd.V_mono (ok' := fun k_ => True) ho0 (fun k_ hk_ => trivial)) (below_size S.bA))
   replace HB := S.sA hb
   (try clear hb)
   (try clear hb2)
   (try clear hk)
   (try clear hi)
   (try clear ho0)
   obtain ⟨Ao10, co10, eo10⟩ := Kd.V_slice HO202.out
   (first | subst eo10 | (injection eo10 with f1_ f2_ f3_; have f4_ := f1_.symm; have f5_ := f3_.symm; clear f1_ f2_ f3_; subst f4_; subst f5_))
   refine hK.out _ _ ⟨(S.hb HB hw198_0 :), (S.hb HB hw198_1 :), (S.hb HB hw199_0 :), (S.hb HB hw199_1 :)⟩ (fun hHeld => ?_)
   clear hK K
   refine S.nm 20 ?_
   refine S.oN 14 21 #[true, true, true, true, true, true, true, true, true, true, true, true, true, true, true, false, false] (fun K hK => ?_)
   refine S.go Try.func109 #[.slice A0 l0.length c0, .slice A198_0 ((rd_T85 l1 a2).f0).length c198_0, .slice Ao10 t200.length co10] ?_
   with_reducible refine (impl_ClearBetween.calls k _ _ l0 _ _ ((rd_T85 l1 a2).f0) _ _ t200 t203 _ ?s1 ?s2 ?s3 ?s4 ?s5 ?s6 A7.out).mono ?_
   (case s1 => exact S.cA HR0.out)
   (case s2 => exact HC0.out)
   (case s3 => exact S.cA HR199_0.out)
   (case s4 => exact HC199_0.out)
   (case s5 => exact S.cD (Kd.V_reads' HO202.out).2.2)
   (case s6 => exact (Kd.V_reads' HO202.out).2.1)
   rintro e w11 ⟨rfl, hb⟩
   refine ⟨_, rfl, ?_⟩
   replace HO202 := Aside0.mk (Kd.V_below (S.uV HO202.out) hb)
   replace HB := S.sA hb
   (try clear hb)
   (try clear hb2)
   (try clear hk)
   (try clear hi)
   refine hK.out _ _ ⟨(S.hb HB hw198_0 :), (S.hb HB hw198_1 :), (S.hb HB hw199_0 :), (S.hb HB hw199_1 :)⟩ (fun hHeld => ?_)
   clear hK K
   refine S.nm 21 ?_
   refine S.pS 15 22 ?_
   refine S.pS 16 6 ?_
   refine done_ (done_of HT_.out (by kernel_rfl)) ?_
   try go_wp2
   go_ret
   exact ⟨S.eW, S.bA⟩
  ·rw [if_neg c5] at H
   exact absurd H (by simp)
 ·rw [if_neg c4] at H
  exact absurd H (by simp)

/-! ### impl_Cycle: function 41 -/
def impl_Cycle.l0 : Nat → List (S71) → List (S85) → Int → Int → Int → Option (Int)
 | 0, _, _, _, _, _ => none
 | k + 1, x0, x1, x5, x12, x13 => if x13 < x12 then ((impl_longOf.f k x0 x1 x13).bind fun t205 => (impl_Cycle.l0 k x0 x1 (wrap64 (x5 + t205)) x12 (wrap64 (x13 + 1)))) else (some x5)
def impl_Cycle.f (k : Nat) (l0 : List (S71)) (l1 : List (S85)) : Option (Int) := (impl_IsPlan.f k l0 l1).bind fun t204 => (if t204 = true then (impl_Cycle.l0 k l0 l1 0 (l1.length : Int) 0) else (some 0))
theorem impl_Cycle.calls (k : Nat) (A0 : Option Addr) (c0 : Nat) (l0 : List (S71)) (A1 : Option Addr) (c1 : Nat) (l1 : List (S85)) (r : Int) (w : World) (hr0 : Kd.C k71 w A0 l0.length l0) (hc0 : l0.length ≤ c0) (hr1 : Kd.C k85 w A1 l1.length l1) (hc1 : l1.length ≤ c1) (h : impl_Cycle.f k l0 l1 = some r) :
  Calls Try.prog 41 #[.slice A0 l0.length c0, .slice A1 l1.length c1] w fun e w' => e = .returned (.int .i64 r) ∧ Below w.heap.size w w' := by
 have HR0 := Aside0.mk hr0
 have HC0 := Aside0.mk hc0
 clear hr0 hc0
 have HR1 := Aside0.mk hr1
 have HC1 := Aside0.mk hc1
 clear hr1 hc1
 have HB := Aside0.mk (Below.refl w.heap.size w)
 have H : ((impl_IsPlan.f k l0 l1).bind fun t204 => (if t204 = true then (impl_Cycle.l0 k l0 l1 0 (l1.length : Int) 0) else (some 0))) = some r := h
 clear h
 replace H := S.bd H; obtain ⟨t204, A3, H⟩ := H
 (try dsimp only at H)
 replace H := S.db H; rcases H with ⟨rfl, H⟩ | ⟨rfl, H⟩
 ·have H' := Aside0.mk H
  clear H
  go_enter Try.func41, Try.ntmps41
  go_wp2_with (first | ((with_reducible refine gate_callee (f := 68) rfl ?_); refine S.gL (some 9) Try.func68 #[.slice A0 l0.length c0, .slice A1 l1.length c1] ?_; (with_reducible refine (impl_IsPlan.calls k _ _ l0 (fun k_ => k_ < w.heap.size) _ _ l1 true _ ?s1 HC0.out ?s3 A3.out).mono ?_); (case s1 => exact S.cD HR0.out); (case s3 => exact Kd.V_mk HC1.out (Kd.F_below (Kd.C_F k85_heap HR1.out) S.bA)); rintro e w5 ⟨rfl, hb⟩; refine ⟨_, rfl, ?_⟩; replace HB := S.sA hb; (try clear hb)))
  go_loopg [5, 13] k (fun kq v5 v13 w' => ∃ (x5_1 : Int) (x13_1 : Int), v5 = .int .i64 x5_1 ∧ v13 = .int .i64 x13_1 ∧ Aside0 (impl_Cycle.l0 kq l0 l1 x5_1 (l1.length : Int) x13_1 = some r) ∧ Aside0 (kq ≤ k) ∧ Aside0 (Below w.heap.size w w'))
  case atStart => exact ⟨(0), (0), S.eA, S.eA, H', ⟨Nat.le_refl _⟩, ⟨S.bA⟩⟩
  case round =>
   clear H'
   try clear c1
   try clear c4
   obtain ⟨x5_1, x13_1, rfl, rfl, HA, HK1, HB⟩ := hrel
   cases gk with
   | zero => exact absurd HA.out (by simp [impl_Cycle.l0])
   | succ k1 =>
    have H := HA.out
    clear HA
    simp only [impl_Cycle.l0] at H
    replace H := S.dc H; rcases H with ⟨H, c6b0⟩ | ⟨H, c6b0⟩
    ·replace H := Option.bind_eq_some_iff.mp H
     obtain ⟨t205, A70, H⟩ := H
     replace H : (impl_Cycle.l0 k1 l0 l1 (wrap64 (x5_1 + t205)) (l1.length : Int) (wrap64 (x13_1 + 1))) = some r := H
     have A7 := Aside0.mk A70
     clear A70
     have H' := Aside0.mk H
     clear H
     go_wp2_with (first | ((with_reducible refine gate_callee (f := 81) rfl ?_); refine S.gL (some 20) Try.func81 #[.slice A0 l0.length c0, .slice A1 l1.length c1, .int .i64 x13_1] ?_; (with_reducible refine (impl_longOf.calls k1 _ _ l0 _ _ l1 x13_1 t205 _ ?s1 HC0.out ?s3 HC1.out A7.out).mono ?_); (case s1 => exact S.cA HR0.out); (case s3 => exact S.cA HR1.out); rintro e w8 ⟨rfl, hb⟩; refine ⟨_, rfl, ?_⟩; replace HB := S.sA hb; (try clear hb)))
     go_roundg k1
     case measure => have := HK1.out; omega
     case rel => exact ⟨(wrap64 (x5_1 + t205)), (wrap64 (x13_1 + 1)), S.eA, S.eA, H', ⟨by have := HK1.out; omega⟩, ⟨S.bA⟩⟩
    ·obtain rfl := Option.some.inj H
     go_wp2
     go_ret
     exact ⟨S.eW, S.bA⟩
 ·obtain rfl := Option.some.inj H
  go_enter Try.func41, Try.ntmps41
  go_wp2_with (first | ((with_reducible refine gate_callee (f := 68) rfl ?_); refine S.gL (some 9) Try.func68 #[.slice A0 l0.length c0, .slice A1 l1.length c1] ?_; (with_reducible refine (impl_IsPlan.calls k _ _ l0 (fun k_ => k_ < w.heap.size) _ _ l1 false _ ?s1 HC0.out ?s3 A3.out).mono ?_); (case s1 => exact S.cD HR0.out); (case s3 => exact Kd.V_mk HC1.out (Kd.F_below (Kd.C_F k85_heap HR1.out) S.bA)); rintro e w9 ⟨rfl, hb⟩; refine ⟨_, rfl, ?_⟩; replace HB := S.sA hb; (try clear hb)))
  go_ret
  exact ⟨S.eW, S.bA⟩

/-! ### impl_PartAt: function 113 -/
mutual
def impl_PartAt.j0 : Nat → List (S71) → List (S85) → Int → Int → Bool → Option (Int × Int)
 | 0, _, _, _, _, _ => none
 | k + 1, x0, x1, x2, x8, x20 => if x20 = true then (some ((-1), 0)) else (if x8 = 0 then (none) else (impl_PartAt.l0 k x0 x1 (Int.tmod x2 x8) 0))
def impl_PartAt.l0 : Nat → List (S71) → List (S85) → Int → Int → Option (Int × Int)
 | 0, _, _, _, _ => none
 | k + 1, x0, x1, x9, x10 => (impl_longOf.f k x0 x1 x10).bind fun t208 => (if x9 ≥ t208 then ((impl_longOf.f k x0 x1 x10).bind fun t209 => (impl_PartAt.l0 k x0 x1 (wrap64 (x9 - t209)) (wrap64 (x10 + 1)))) else (some (x10, x9)))
end
def impl_PartAt.f (k : Nat) (l0 : List (S71)) (l1 : List (S85)) (a2 : Int) : Option (Int × Int) := (impl_Cycle.f k l0 l1).bind fun t206 => (if t206 = 0 then (impl_PartAt.j0 k l0 l1 a2 t206 true) else ((impl_InRange.f a2 0 1000000).bind fun t207 => (impl_PartAt.j0 k l0 l1 a2 t206 (!t207))))
theorem impl_PartAt.calls (k : Nat) (A0 : Option Addr) (c0 : Nat) (l0 : List (S71)) (A1 : Option Addr) (c1 : Nat) (l1 : List (S85)) (a2 : Int) (r1 : Int) (r2 : Int) (w : World) (hr0 : Kd.C k71 w A0 l0.length l0) (hc0 : l0.length ≤ c0) (hr1 : Kd.C k85 w A1 l1.length l1) (hc1 : l1.length ≤ c1) (h : impl_PartAt.f k l0 l1 a2 = some (r1, r2)) :
  Calls Try.prog 113 #[.slice A0 l0.length c0, .slice A1 l1.length c1, .int .i64 a2] w fun e w' => e = .returned (.tuple #[.int .i64 r1, .int .i64 r2]) ∧ Below w.heap.size w w' := by
 have HR0 := Aside0.mk hr0
 have HC0 := Aside0.mk hc0
 clear hr0 hc0
 have HR1 := Aside0.mk hr1
 have HC1 := Aside0.mk hc1
 clear hr1 hc1
 have HB := Aside0.mk (Below.refl w.heap.size w)
 have H : ((impl_Cycle.f k l0 l1).bind fun t206 => (if t206 = 0 then (impl_PartAt.j0 k l0 l1 a2 t206 true) else ((impl_InRange.f a2 0 1000000).bind fun t207 => (impl_PartAt.j0 k l0 l1 a2 t206 (!t207))))) = some (r1, r2) := h
 clear h
 replace H := S.bd H; obtain ⟨t206, A4, H⟩ := H
 (try dsimp only at H)
 have HC5 := Aside0.mk H
 clear H
 go_enter Try.func113, Try.ntmps113
 go_upto_region 2 with (first | ((with_reducible refine gate_callee (f := 41) rfl ?_); refine S.gL (some 13) Try.func41 #[.slice A0 l0.length c0, .slice A1 l1.length c1] ?_; (with_reducible refine (impl_Cycle.calls k _ _ l0 _ _ l1 t206 _ ?s1 HC0.out ?s3 HC1.out A4.out).mono ?_); (case s1 => exact S.cD HR0.out); (case s3 => exact S.cD HR1.out); rintro e w6 ⟨rfl, hb⟩; refine ⟨_, rfl, ?_⟩; replace HB := S.sA hb; (try clear hb)))
 (try simp only [Act.put, List.setIfInBounds_toArray, List.set_cons_zero, List.set_cons_succ])
 go_cut [20] (fun v20 wc => ∃ (kq : Nat) (x20_4 : Bool), v20 = .bool x20_4 ∧ Aside0 (impl_PartAt.j0 kq l0 l1 a2 t206 x20_4 = some (r1, r2)) ∧ Aside0 (kq ≤ k) ∧ Aside0 (Below w.heap.size w wc))
 case first =>
  have H := HC5.out
  clear HC5
  by_cases c7 : t206 = 0
  ·rw [if_pos c7] at H
   have c7b0 : (t206 == 0) = true := beq_iff_eq.mpr c7
   have c7b1 : (t206 != 0) = false := bne_eq_false_iff_eq.mpr c7
   clear c7
   (first | rw [c7b0] | (simp only [i64_w, i32_w]; rw [c7b0]) | skip)
   have H' := Aside0.mk H
   clear H
   go_wp2
   go_meet
   case rel => exact ⟨_, (true), S.eA, H', S.le, ⟨S.bA⟩⟩
  ·rw [if_neg c7] at H
   have c7b0 : (t206 == 0) = false := beq_eq_false_iff_ne.mpr c7
   have c7b1 : (t206 != 0) = true := bne_iff_ne.mpr c7
   (first | rw [c7b0] | (simp only [i64_w, i32_w]; rw [c7b0]) | skip)
   replace H := S.bd H; obtain ⟨t207, A8, H⟩ := H
   (try dsimp only at H)
   have H' := Aside0.mk H
   clear H
   go_wp2_with (first | (go_at_call 62; (with_reducible refine (impl_InRange.calls a2 0 1000000 t207 _ A8.out).mono ?_); rintro e w' ⟨rfl, ⟨nd, rfl⟩⟩))
   go_meet
   case rel => exact ⟨_, (!t207), S.eA, H', S.le, ⟨S.bA⟩⟩
 case rest =>
  clear HC5
  try clear c1
  obtain ⟨kq, x20_4, rfl, HA, HJ4, HB⟩ := hcut
  cases kq with
  | zero => exact absurd HA.out (by simp [impl_PartAt.j0])
  | succ kj4 =>
   have H := HA.out
   clear HA
   simp only [impl_PartAt.j0] at H
   replace H := S.db H; rcases H with ⟨rfl, H⟩ | ⟨rfl, H⟩
   ·simp only [Option.some.injEq, Prod.mk.injEq] at H
    obtain ⟨rfl, rfl⟩ := H
    go_wp2
    go_ret2
    exact ⟨S.eW, S.bA⟩
   ·by_cases c10 : t206 = 0
    ·rw [if_pos c10] at H
     exact absurd H (by simp)
    ·rw [if_neg c10] at H
     have c10b0 : (t206 == 0) = false := beq_eq_false_iff_ne.mpr c10
     have c10b1 : (t206 != 0) = true := bne_iff_ne.mpr c10
     have H' := Aside0.mk H
     clear H
     go_wp2
     go_loopg [9, 10] kj4 (fun kq v9 v10 w' => ∃ (x9_2 : Int) (x10_2 : Int), v9 = .int .i64 x9_2 ∧ v10 = .int .i64 x10_2 ∧ Aside0 (impl_PartAt.l0 kq l0 l1 x9_2 x10_2 = some (r1, r2)) ∧ Aside0 (kq ≤ kj4) ∧ Aside0 (Below w.heap.size w w'))
     case atStart => exact ⟨(Int.tmod a2 t206), (0), S.eA, S.eA, H', ⟨Nat.le_refl _⟩, ⟨S.bA⟩⟩
     case round =>
      clear H'
      try clear c1
      try clear c9
      try clear c10
      try clear c10b0
      try clear c10b1
      obtain ⟨x9_2, x10_2, rfl, rfl, HA, HK2, HB⟩ := hrel
      cases gk with
      | zero => exact absurd HA.out (by simp [impl_PartAt.l0])
      | succ k2 =>
       have H := HA.out
       clear HA
       simp only [impl_PartAt.l0] at H
       replace H := S.bd H; obtain ⟨t208, A11, H⟩ := H
       (try dsimp only at H)
       by_cases c12 : x9_2 ≥ t208
       ·rw [if_pos c12] at H
        have c12b0 : decide (t208 ≤ x9_2) = true := decide_eq_true c12
        clear c12
        replace H := S.bd H; obtain ⟨t209, A13, H⟩ := H
        (try dsimp only at H)
        have H' := Aside0.mk H
        clear H
        go_wp2_with (first | ((with_reducible refine gate_callee (f := 81) rfl ?_); refine S.gL (some 28) Try.func81 #[.slice A0 l0.length c0, .slice A1 l1.length c1, .int .i64 x10_2] ?_; (with_reducible refine (impl_longOf.calls k2 _ _ l0 _ _ l1 x10_2 t208 _ ?s1 HC0.out ?s3 HC1.out A11.out).mono ?_); (case s1 => exact S.cA HR0.out); (case s3 => exact S.cA HR1.out); rintro e w14 ⟨rfl, hb⟩; refine ⟨_, rfl, ?_⟩; replace HB := S.sA hb; (try clear hb)) | ((with_reducible refine gate_callee (f := 81) rfl ?_); refine S.gL (some 34) Try.func81 #[.slice A0 l0.length c0, .slice A1 l1.length c1, .int .i64 x10_2] ?_; (with_reducible refine (impl_longOf.calls k2 _ _ l0 _ _ l1 x10_2 t209 _ ?s1 HC0.out ?s3 HC1.out A13.out).mono ?_); (case s1 => exact S.cA HR0.out); (case s3 => exact S.cA HR1.out); rintro e w15 ⟨rfl, hb⟩; refine ⟨_, rfl, ?_⟩; replace HB := S.sA hb; (try clear hb)))
        go_roundg k2
        case measure => have := HJ4.out; have := HK2.out; omega
        case rel => exact ⟨(wrap64 (x9_2 - t209)), (wrap64 (x10_2 + 1)), S.eA, S.eA, H', ⟨by have := HJ4.out; have := HK2.out; omega⟩, ⟨S.bA⟩⟩
       ·rw [if_neg c12] at H
        have c12b0 : decide (t208 ≤ x9_2) = false := decide_eq_false c12
        clear c12
        simp only [Option.some.injEq, Prod.mk.injEq] at H
        obtain ⟨rfl, rfl⟩ := H
        go_wp2_with (first | ((with_reducible refine gate_callee (f := 81) rfl ?_); refine S.gL (some 28) Try.func81 #[.slice A0 l0.length c0, .slice A1 l1.length c1, .int .i64 x10_2] ?_; (with_reducible refine (impl_longOf.calls k2 _ _ l0 _ _ l1 x10_2 t208 _ ?s1 HC0.out ?s3 HC1.out A11.out).mono ?_); (case s1 => exact S.cA HR0.out); (case s3 => exact S.cA HR1.out); rintro e w16 ⟨rfl, hb⟩; refine ⟨_, rfl, ?_⟩; replace HB := S.sA hb; (try clear hb)))
        go_ret2
        exact ⟨S.eW, S.bA⟩
/-! ### impl_shown: function 84 -/
mutual
def impl_shown.j0 : Nat → List (S85) → Int → Int → Bool → Int → Int → Int → Int → Option (Int)
 | 0, _, _, _, _, _, _, _, _ => none
 | k + 1, x1, x9, x10, x30, x211000, x211001, x211002, x211003 => if x30 = true then (some 0) else (if 0 ≤ x9 then (if x9 < (x1.length : Int) then (if x10 < ((rd_T85 x1 x9).f1) then (impl_shown.j1 k x1 x9 x10 true x211000 x211001 x211002 x211003) else ((impl_nextStage.f x1 x9).bind fun t216 => ((slices_Contains_int_int.f k t216 x211000).bind fun t219 => (impl_shown.j1 k x1 x9 x10 t219 x211000 x211001 x211002 x211003)))) else (none)) else (none))
def impl_shown.j1 : Nat → List (S85) → Int → Int → Bool → Int → Int → Int → Int → Option (Int)
 | 0, _, _, _, _, _, _, _, _ => none
 | k + 1, x1, x9, x10, x31, x211000, x211001, x211002, x211003 => if x31 = true then (some 1) else (if 0 ≤ x9 then (if x9 < (x1.length : Int) then ((impl_ClearOf.f x211000 x211001 x211002 x211003).bind fun t221 => (if x10 < (wrap64 (((rd_T85 x1 x9).f1) + t221)) then (some 2) else (some 0))) else (none)) else (none))
end
def impl_shown.f (k : Nat) (l0 : List (S71)) (l1 : List (S85)) (a2 : Int) (a3_0 : Int) (a3_1 : Int) (a3_2 : Int) (a3_3 : Int) : Option (Int) := (impl_PartAt.f k l0 l1 a2).bind fun bt211 => (if bt211.1 < 0 then (impl_shown.j0 k l1 bt211.1 bt211.2 true a3_0 a3_1 a3_2 a3_3) else (if 0 ≤ bt211.1 then (if bt211.1 < (l1.length : Int) then ((slices_Contains_int_int.f k ((rd_T85 l1 bt211.1).f0) a3_0).bind fun t214 => (impl_shown.j0 k l1 bt211.1 bt211.2 (!t214) a3_0 a3_1 a3_2 a3_3)) else (none)) else (none)))
def impl_shown.T2 : Bool × List (List Nat × List Nat) := (true, [([], []), ([0], [0]), ([1], [1]), ([2], [2]), ([2], [2]), ([3, 4, 2], [2, 3, 4]), ([5, 2], [2, 5]), ([6, 2], [2, 6]), ([2], [2]), ([8, 2], [2, 8]), ([7, 9, 2, 2], [2, 7, 9]), ([10, 2], [2, 10]), ([2, 11], [2, 11])])
def impl_shown.B2 : List Nat := [0, 1, 3, 7, 7, 31, 63, 127, 7, 263, 1023, 2047, 4095]
theorem impl_shown.tab2 : rtab .any (opsOf Try.f84 2) = impl_shown.T2 := by kernel_rfl
theorem impl_shown.bits2 : waitsOk impl_shown.T2.2 impl_shown.B2 = true := by kernel_rfl
def impl_shown.T4 : Bool × List (List Nat × List Nat) := (true, [([], []), ([], []), ([], []), ([1, 2], [1, 2]), ([3], [3]), ([4], [4]), ([0, 5], [0, 5]), ([6], [6]), ([7], [7]), ([7], [7]), ([8, 9, 7, 7], [7, 8, 9]), ([7], [7]), ([11, 7], [7, 11]), ([10, 12, 10, 7], [7, 10, 12]), ([7, 13], [7, 13]), ([14, 13], [14])])
def impl_shown.B4 : List Nat := [0, 0, 0, 6, 14, 30, 63, 127, 255, 255, 1023, 255, 2303, 8191, 16383, 32767]
theorem impl_shown.tab4 : rtab .any (opsOf Try.f84 4) = impl_shown.T4 := by kernel_rfl
theorem impl_shown.bits4 : waitsOk impl_shown.T4.2 impl_shown.B4 = true := by kernel_rfl
def impl_shown.T6 : Bool × List (List Nat × List Nat) := (true, [([], []), ([], []), ([], []), ([1, 2], [1, 2]), ([3], [3]), ([4], [4]), ([], []), ([6], [6]), ([5, 7], [5, 7]), ([0, 8], [0, 8]), ([9, 7], [9])])
def impl_shown.B6 : List Nat := [0, 0, 0, 6, 14, 30, 0, 64, 254, 511, 1023]
theorem impl_shown.tab6 : rtab .any (opsOf Try.f84 6) = impl_shown.T6 := by kernel_rfl
theorem impl_shown.bits6 : waitsOk impl_shown.T6.2 impl_shown.B6 = true := by kernel_rfl
theorem impl_shown.calls (k : Nat) (A0 : Option Addr) (c0 : Nat) (l0 : List (S71)) (A1 : Option Addr) (c1 : Nat) (l1 : List (S85)) (a2 : Int) (a3_0 : Int) (a3_1 : Int) (a3_2 : Int) (a3_3 : Int) (r : Int) (w : World) (hr0 : Kd.C k71 w A0 l0.length l0) (hc0 : l0.length ≤ c0) (hr1 : Kd.C k85 w A1 l1.length l1) (hc1 : l1.length ≤ c1) (h : impl_shown.f k l0 l1 a2 a3_0 a3_1 a3_2 a3_3 = some r) :
  Calls Try.prog 84 #[.slice A0 l0.length c0, .slice A1 l1.length c1, .int .i64 a2, .agg #[.int .i64 a3_0, .int .i64 a3_1, .int .i64 a3_2, .int .i64 a3_3]] w fun e w' => e = .returned (.int .i64 r) ∧ Below w.heap.size w w' := by
 have hu71 := Try.underlying71
 have HR0 := Aside0.mk hr0
 have HC0 := Aside0.mk hc0
 clear hr0 hc0
 have HR1 := Aside0.mk hr1
 have HC1 := Aside0.mk hc1
 clear hr1 hc1
 have HB := Aside0.mk (Below.refl w.heap.size w)
 have H : ((impl_PartAt.f k l0 l1 a2).bind fun bt211 => (if bt211.1 < 0 then (impl_shown.j0 k l1 bt211.1 bt211.2 true a3_0 a3_1 a3_2 a3_3) else (if 0 ≤ bt211.1 then (if bt211.1 < (l1.length : Int) then ((slices_Contains_int_int.f k ((rd_T85 l1 bt211.1).f0) a3_0).bind fun t214 => (impl_shown.j0 k l1 bt211.1 bt211.2 (!t214) a3_0 a3_1 a3_2 a3_3)) else (none)) else (none)))) = some r := h
 clear h
 replace H := S.bd H; obtain ⟨⟨t211, t212⟩, A5, H⟩ := H
 (try dsimp only at H)
 have HC6 := Aside0.mk H
 clear H
 go_enter Try.func84, Try.ntmps84
 go_upto_region 2 with (first | ((with_reducible refine gate_dst (N := 7) rfl ?_); refine S.bx 7 (cs := #[.int .i64 a3_0, .int .i64 a3_1, .int .i64 a3_2, .int .i64 a3_3]) (t := 71) ?_; intro gb210 hg w7 hbox hb; have BK210 := Aside0.mk hbox; have GW210 := S.geA hg; have GE210 := S.geA hg; replace HB := S.sA hb; clear hb hbox hg) | ((with_reducible refine gate_callee (f := 113) rfl ?_); refine S.gL (some 15) Try.func113 #[.slice A0 l0.length c0, .slice A1 l1.length c1, .int .i64 a2] ?_; (with_reducible refine (impl_PartAt.calls k _ _ l0 _ _ l1 a2 t211 t212 _ ?s1 HC0.out ?s3 HC1.out A5.out).mono ?_); (case s1 => exact S.cA HR0.out); (case s3 => exact S.cA HR1.out); rintro e w8 ⟨rfl, hb⟩; refine ⟨_, rfl, ?_⟩; replace BK210 := S.kb BK210 hb; replace HB := S.sG hb; (try clear hb)))
 (try simp only [Act.put, List.setIfInBounds_toArray, List.set_cons_zero, List.set_cons_succ])
 go_cut [30] (fun v30 wc => ∃ (kq : Nat) (x30_5 : Bool), v30 = .bool x30_5 ∧ Aside0 (impl_shown.j0 kq l1 t211 t212 x30_5 a3_0 a3_1 a3_2 a3_3 = some r) ∧ Aside0 (kq ≤ k) ∧ Aside0 (wc.heap[gb210]? = some (.cells #[.int .i64 a3_0, .int .i64 a3_1, .int .i64 a3_2, .int .i64 a3_3] 71 (0, 0))) ∧ Aside0 (Below w.heap.size w wc))
 case first =>
  have H := HC6.out
  clear HC6
  replace H := S.dc H; rcases H with ⟨H, c9b0⟩ | ⟨H, c9b0⟩
  ·(first | rw [c9b0] | (simp only [i64_w, i32_w]; rw [c9b0]) | skip)
   have H' := Aside0.mk H
   clear H
   try go_wp2
   replace BK210 := Aside0.mk (blk_drew BK210.out)
   replace HB := Aside0.mk (below_drew1 HB.out)
   refine start_ (n := 13) (S := fun w' => True) (ds := []) #[false, false, false, false, false, false, false, false, false, false, false, false, false] (by kernel_rfl) rfl rfl trivial (fun hHeld => ?_); refine with_tabW impl_shown.tab2 impl_shown.bits2 (fun HT_ HW_ => ?_)
   generalize w8.drew = w10 at BK210 HB hHeld ⊢
   refine S.pS 0 18 ?_
   refine S.pS 1 19 ?_
   refine S.pS 2 20 ?_
   refine S.pU 3 21 ?_
   refine S.pU 4 22 ?_
   refine S.pU 5 23 ?_
   refine S.pU 6 24 ?_
   refine S.pU 7 25 ?_
   refine S.pU 8 26 ?_
   refine S.pU 9 27 ?_
   refine S.pU 10 28 ?_
   refine S.pU 11 29 ?_
   refine S.pS 12 30 ?_
   refine done_ (done_of HT_.out (by kernel_rfl)) ?_
   try go_wp2
   go_meet
   case rel => exact ⟨_, (true), S.eA, H', S.le, ⟨S.uB BK210.out⟩, ⟨S.bG⟩⟩
  ·(first | rw [c9b0] | (simp only [i64_w, i32_w]; rw [c9b0]) | skip)
   by_cases c11 : 0 ≤ t211
   ·rw [if_pos c11] at H
    have c11b0 : decide (0 ≤ t211) = true := decide_eq_true c11
    clear c11
    by_cases c12 : t211 < (l1.length : Int)
    ·rw [if_pos c12] at H
     have c12b0 : decide (t211 < (l1.length : Int)) = true := decide_eq_true c12
     clear c12
     replace H := S.bd H; obtain ⟨t214, A13, H⟩ := H
     (try dsimp only at H)
     have H' := Aside0.mk H
     clear H
     try go_wp2
     replace BK210 := Aside0.mk (blk_drew BK210.out)
     replace HB := Aside0.mk (below_drew1 HB.out)
     have p213 : 0 ≤ (t211 : Int) := S.oD
     have q213 : t211 < (l1.length : Int) := S.oD
     obtain ⟨ad213, A213_0, c213_0, e213, hx213_0, hx213_1, hl213_0, hi213_0⟩ := at_T85 HR1.out t211 p213 q213
     have hw213_1 := hx213_1
     have hw213_0 := hx213_0
     cases e213
     replace hx213_0 := S.hb HB hx213_0
     replace hx213_1 := S.hb HB hx213_1
     have HR213_0 := Aside0.mk hi213_0
     have HC213_0 := Aside0.mk hl213_0
     clear hi213_0 hl213_0
     replace p213 := eq_true p213
     replace q213 := eq_true q213
     refine S.st (n := 13) (ds := []) #[false, false, false, false, false, false, false, false, false, false, false, false, false] (fun w_ h_ => have x_ := S.d4 (S.Q h_ BK210.out) (And.intro (S.q h_ (S.hb HB hw213_0)) (S.q h_ (S.hb HB hw213_1))); x_) (fun hHeld => ?_); refine with_tabW impl_shown.tab2 impl_shown.bits2 (fun HT_ HW_ => ?_)
     generalize w8.drew = w14 at BK210 HB HR213_0 hx213_0 hx213_1 hHeld ⊢
     refine S.pS 0 18 ?_
     refine S.pS 1 19 ?_
     refine S.pS 2 20 ?_
     refine S.pS 3 21 ?_
     refine S.pS 4 22 ?_
     refine S.pS 5 23 ?_
     refine S.pS 6 24 ?_
     refine S.pS 8 26 ?_
     refine S.tK 7 25 #[true, true, true, true, true, true, true, true, true, false, false, false, false] ?_
     refine S.tK 9 27 #[true, true, true, true, true, true, true, true, true, true, false, false, false] ?_
     refine S.oN 10 28 #[true, true, true, true, true, true, true, true, true, true, true, false, false] (fun K hK => ?_)
     refine S.go Try.func73 #[.slice A213_0 ((rd_T85 l1 t211).f0).length c213_0, .int .i64 a3_0] ?_
     with_reducible refine (slices_Contains_int_int.calls k _ _ ((rd_T85 l1 t211).f0) a3_0 t214 _ ?s1 ?s2 A13.out).mono ?_
     (case s1 => exact S.cA HR213_0.out)
     (case s2 => exact HC213_0.out)
     rintro e w' ⟨rfl, ⟨nd, rfl⟩⟩
     refine ⟨_, rfl, ?_⟩
     refine hK.out _ _ (S.d4 BK210.out (And.intro ((S.hb HB hw213_0 :)) ((S.hb HB hw213_1 :)))) (fun hHeld => ?_)
     clear hK K
     refine S.nm 28 ?_
     refine S.pS 11 29 ?_
     refine S.pS 12 30 ?_
     refine done_ (done_of HT_.out (by kernel_rfl)) ?_
     try go_wp2
     go_meet
     case rel => exact ⟨_, (!t214), S.eA, H', S.le, ⟨S.uB BK210.out⟩, ⟨S.bG⟩⟩
    ·rw [if_neg c12] at H
     exact absurd H (by simp)
   ·rw [if_neg c11] at H
    exact absurd H (by simp)
 case rest =>
  clear HC6
  try clear c1
  obtain ⟨kq, x30_5, rfl, HA, HJ5, BK210, HB⟩ := hcut
  cases kq with
  | zero => exact absurd HA.out (by simp [impl_shown.j0])
  | succ kj5 =>
   have H := HA.out
   clear HA
   simp only [impl_shown.j0] at H
   replace H := S.db H; rcases H with ⟨rfl, H⟩ | ⟨rfl, H⟩
   ·obtain rfl := Option.some.inj H
    go_wp2
    go_ret
    exact ⟨S.eW, S.bG⟩
   ·have HC16 := Aside0.mk H
    clear H
    go_upto_region 4 with (fail)
    go_cut [31] (fun v31 wc => ∃ (kq : Nat) (x31_15 : Bool), v31 = .bool x31_15 ∧ Aside0 (impl_shown.j1 kq l1 t211 t212 x31_15 a3_0 a3_1 a3_2 a3_3 = some r) ∧ Aside0 (kq ≤ kj5) ∧ Aside0 (wc.heap[gb210]? = some (.cells #[.int .i64 a3_0, .int .i64 a3_1, .int .i64 a3_2, .int .i64 a3_3] 71 (0, 0))) ∧ Aside0 (Below w.heap.size w wc))
    case first =>
     have H := HC16.out
     clear HC16
     by_cases c17 : 0 ≤ t211
     ·rw [if_pos c17] at H
      have c17b0 : decide (0 ≤ t211) = true := decide_eq_true c17
      clear c17
      (first | rw [c17b0] | (simp only [i64_w, i32_w]; rw [c17b0]) | skip)
      by_cases c18 : t211 < (l1.length : Int)
      ·rw [if_pos c18] at H
       have c18b0 : decide (t211 < (l1.length : Int)) = true := decide_eq_true c18
       clear c18
       replace H := S.dc H; rcases H with ⟨H, c19b0⟩ | ⟨H, c19b0⟩
       ·have H' := Aside0.mk H
        clear H
        try go_wp2
        replace BK210 := Aside0.mk (blk_drew BK210.out)
        replace HB := Aside0.mk (below_drew1 HB.out)
        have p215 : 0 ≤ (t211 : Int) := S.oD
        have q215 : t211 < (l1.length : Int) := S.oD
        obtain ⟨ad215, A215_0, c215_0, e215, hx215_0, hx215_1, hl215_0, hi215_0⟩ := at_T85 HR1.out t211 p215 q215
        have hw215_1 := hx215_1
        have hw215_0 := hx215_0
        cases e215
        replace hx215_0 := S.hb HB hx215_0
        replace hx215_1 := S.hb HB hx215_1
        have HR215_0 := Aside0.mk hi215_0
        have HC215_0 := Aside0.mk hl215_0
        clear hi215_0 hl215_0
        replace p215 := eq_true p215
        replace q215 := eq_true q215
        refine S.st (n := 16) (ds := []) #[false, false, false, false, false, false, false, false, false, false, false, false, false, false, false, false] (fun w_ h_ => have x_ := And.intro (S.q h_ (S.hb HB hw215_0)) (S.q h_ (S.hb HB hw215_1)); x_) (fun hHeld => ?_); refine with_tabW impl_shown.tab4 impl_shown.bits4 (fun HT_ HW_ => ?_)
        generalize wc.drew = w20 at BK210 HB HR215_0 hx215_0 hx215_1 hHeld ⊢
        refine S.pS 0 32 ?_
        refine S.pS 1 33 ?_
        refine S.pS 2 34 ?_
        refine S.pS 3 35 ?_
        refine S.pS 4 36 ?_
        refine S.tK 5 37 #[true, true, true, true, true, true, false, false, false, false, false, false, false, false, false, false] ?_
        refine S.pS 6 38 ?_
        refine S.pS 7 39 ?_
        refine S.pU 8 40 ?_
        refine S.pU 9 41 ?_
        refine S.pU 10 42 ?_
        refine S.pU 11 43 ?_
        refine S.pU 12 44 ?_
        refine S.pU 13 45 ?_
        refine S.pS 14 46 ?_
        refine S.pS 15 31 ?_
        refine done_ (done_of HT_.out (by kernel_rfl)) ?_
        try go_wp2
        go_meet
        case rel => exact ⟨_, (true), S.eA, H', ⟨by have := HJ5.out; first | omega | exact Nat.le_refl _⟩, ⟨S.uB BK210.out⟩, ⟨S.bG⟩⟩
       ·replace H := Option.bind_eq_some_iff.mp H
        obtain ⟨t216, A210, H⟩ := H
        replace H : ((slices_Contains_int_int.f kj5 t216 a3_0).bind fun t219 => (impl_shown.j1 kj5 l1 t211 t212 t219 a3_0 a3_1 a3_2 a3_3)) = some r := H
        have A21 := Aside0.mk A210
        clear A210
        replace H := S.bd H; obtain ⟨t219, A22, H⟩ := H
        (try dsimp only at H)
        have H' := Aside0.mk H
        clear H
        try go_wp2
        replace BK210 := Aside0.mk (blk_drew BK210.out)
        replace HB := Aside0.mk (below_drew1 HB.out)
        have p215 : 0 ≤ (t211 : Int) := S.oD
        have q215 : t211 < (l1.length : Int) := S.oD
        obtain ⟨ad215, A215_0, c215_0, e215, hx215_0, hx215_1, hl215_0, hi215_0⟩ := at_T85 HR1.out t211 p215 q215
        have hw215_1 := hx215_1
        have hw215_0 := hx215_0
        cases e215
        replace hx215_0 := S.hb HB hx215_0
        replace hx215_1 := S.hb HB hx215_1
        have HR215_0 := Aside0.mk hi215_0
        have HC215_0 := Aside0.mk hl215_0
        clear hi215_0 hl215_0
        replace p215 := eq_true p215
        replace q215 := eq_true q215
        refine S.st (n := 16) (ds := []) #[false, false, false, false, false, false, false, false, false, false, false, false, false, false, false, false] (fun w_ h_ => have x_ := S.d4 (S.Q h_ BK210.out) (And.intro (S.q h_ (S.hb HB hw215_0)) (S.q h_ (S.hb HB hw215_1))); x_) (fun hHeld => ?_); refine with_tabW impl_shown.tab4 impl_shown.bits4 (fun HT_ HW_ => ?_)
        generalize wc.drew = w23 at BK210 HB HR215_0 hx215_0 hx215_1 hHeld ⊢
        refine S.pS 0 32 ?_
        refine S.pS 1 33 ?_
        refine S.pS 2 34 ?_
        refine S.pS 3 35 ?_
        refine S.pS 4 36 ?_
        refine S.tK 5 37 #[true, true, true, true, true, true, false, false, false, false, false, false, false, false, false, false] ?_
        refine S.pS 6 38 ?_
        refine S.pS 7 39 ?_
        refine S.pS 8 40 ?_
        refine S.pS 9 41 ?_
        refine S.pS 11 43 ?_
        refine S.tK 12 44 #[true, true, true, true, true, true, true, true, true, true, false, true, true, false, false, false] ?_
        refine S.oN 10 42 #[true, true, true, true, true, true, true, true, true, true, true, true, true, false, false, false] (fun K hK => ?_)
        refine S.go Try.func110 #[.slice (some ad215) l1.length c1, .int .i64 t211] ?_
        with_reducible refine (impl_nextStage.calls (fun k_ => k_ < w.heap.size) _ _ l1 t211 t216 _ ?s1 A21.out).mono ?_
        (case s1 => exact Kd.V_mk HC1.out (Kd.F_below (Kd.C_F k85_heap HR1.out) S.bG))
        rintro e w24 ⟨v217, rfl, ho0, hb⟩
        refine ⟨_, rfl, ?_⟩
        have HO218 := Aside0.mk (Kd.V_lower (Kd.V_mono (ok' := fun k_ => k_ ≠ gb210) ho0 (fun k_ hk_ => Or.elim hk_ (fun hs_ => fun e_ => Nat.not_le.2 hs_ (by rw [e_]; exact GW210.out)) (fun hn_ => (Kd.freshB (g := gb210) (o := .cells #[.int .i64 a3_0, .int .i64 a3_1, .int .i64 a3_2, .int .i64 a3_3] 71 (0, 0)) (S.uB BK210.out) k_ hn_)))) (below_size S.bG))
        replace BK210 := S.kb BK210 hb
        replace HB := S.sG hb
        (try clear hb)
        (try clear hb2)
        (try clear hk)
        (try clear hi)
        (try clear ho0)
        obtain ⟨Ao25, co25, eo25⟩ := Kd.V_slice HO218.out
        (first | subst eo25 | (injection eo25 with f1_ f2_ f3_; have f4_ := f1_.symm; have f5_ := f3_.symm; clear f1_ f2_ f3_; subst f4_; subst f5_))
        refine hK.out _ _ (S.d4 BK210.out (And.intro ((S.hb HB hw215_0 :)) ((S.hb HB hw215_1 :)))) (fun hHeld => ?_)
        clear hK K
        refine S.nm 42 ?_
        refine S.oN 13 45 #[true, true, true, true, true, true, true, true, true, true, true, true, true, true, false, false] (fun K hK => ?_)
        refine S.go Try.func73 #[.slice Ao25 t216.length co25, .int .i64 a3_0] ?_
        with_reducible refine (slices_Contains_int_int.calls kj5 _ _ t216 a3_0 t219 _ ?s1 ?s2 A22.out).mono ?_
        (case s1 => exact S.cD (Kd.V_reads' HO218.out).2.2)
        (case s2 => exact (Kd.V_reads' HO218.out).2.1)
        rintro e w' ⟨rfl, ⟨nd, rfl⟩⟩
        refine ⟨_, rfl, ?_⟩
        refine hK.out _ _ (S.d4 BK210.out (And.intro ((S.hb HB hw215_0 :)) ((S.hb HB hw215_1 :)))) (fun hHeld => ?_)
        clear hK K
        refine S.nm 45 ?_
        refine S.pS 14 46 ?_
        refine S.pS 15 31 ?_
        refine done_ (done_of HT_.out (by kernel_rfl)) ?_
        try go_wp2
        go_meet
        case rel => exact ⟨_, (t219), S.eA, H', ⟨by have := HJ5.out; first | omega | exact Nat.le_refl _⟩, ⟨S.uB BK210.out⟩, ⟨S.bG⟩⟩
      ·rw [if_neg c18] at H
       exact absurd H (by simp)
     ·rw [if_neg c17] at H
      exact absurd H (by simp)
    case rest =>
     clear HC16
     try clear c1
     try clear c15
     obtain ⟨kq, x31_15, rfl, HA, HJ15, BK210, HB⟩ := hcut
     cases kq with
     | zero => exact absurd HA.out (by simp [impl_shown.j1])
     | succ kj15 =>
      have H := HA.out
      clear HA
      simp only [impl_shown.j1] at H
      replace H := S.db H; rcases H with ⟨rfl, H⟩ | ⟨rfl, H⟩
      ·obtain rfl := Option.some.inj H
       go_wp2
       go_ret
       exact ⟨S.eW, S.bG⟩
      ·by_cases c27 : 0 ≤ t211
       ·rw [if_pos c27] at H
        have c27b0 : decide (0 ≤ t211) = true := decide_eq_true c27
        clear c27
        by_cases c28 : t211 < (l1.length : Int)
        ·rw [if_pos c28] at H
         have c28b0 : decide (t211 < (l1.length : Int)) = true := decide_eq_true c28
         clear c28
         replace H := S.bd H; obtain ⟨t221, A29, H⟩ := H
         (try dsimp only at H)
         replace H := S.dc H; rcases H with ⟨H, c30b0⟩ | ⟨H, c30b0⟩
         ·obtain rfl := Option.some.inj H
          try go_wp2
          replace BK210 := Aside0.mk (blk_drew BK210.out)
          replace HB := Aside0.mk (below_drew1 HB.out)
          have p220 : 0 ≤ (t211 : Int) := S.oD
          have q220 : t211 < (l1.length : Int) := S.oD
          obtain ⟨ad220, A220_0, c220_0, e220, hx220_0, hx220_1, hl220_0, hi220_0⟩ := at_T85 HR1.out t211 p220 q220
          have hw220_1 := hx220_1
          have hw220_0 := hx220_0
          cases e220
          replace hx220_0 := S.hb HB hx220_0
          replace hx220_1 := S.hb HB hx220_1
          have HR220_0 := Aside0.mk hi220_0
          have HC220_0 := Aside0.mk hl220_0
          clear hi220_0 hl220_0
          replace p220 := eq_true p220
          replace q220 := eq_true q220
          refine S.st (n := 11) (ds := []) #[false, false, false, false, false, false, false, false, false, false, false] (fun w_ h_ => have x_ := S.d4 (S.Q h_ BK210.out) (And.intro (S.q h_ (S.hb HB hw220_0)) (S.q h_ (S.hb HB hw220_1))); x_) (fun hHeld => ?_); refine with_tabW impl_shown.tab6 impl_shown.bits6 (fun HT_ HW_ => ?_)
          generalize wc.drew = w31 at BK210 HB HR220_0 hx220_0 hx220_1 hHeld ⊢
          refine S.pS 0 48 ?_
          refine S.pS 1 49 ?_
          refine S.pS 2 50 ?_
          refine S.pS 3 51 ?_
          refine S.pS 4 52 ?_
          refine S.tK 5 53 #[true, true, true, true, true, true, false, false, false, false, false] ?_
          refine S.tK 6 54 #[true, true, true, true, true, true, true, false, false, false, false] ?_
          refine S.oN 7 55 #[true, true, true, true, true, true, true, true, false, false, false] (fun K hK => ?_)
          refine S.go Try.func114 #[.agg #[.int .i64 a3_0, .int .i64 a3_1, .int .i64 a3_2, .int .i64 a3_3]] ?_
          with_reducible refine (impl_ClearOf.calls a3_0 a3_1 a3_2 a3_3 t221 _ A29.out).mono ?_
          rintro e w32 ⟨rfl, hb⟩
          refine ⟨_, rfl, ?_⟩
          replace BK210 := S.kb BK210 hb
          replace HB := S.sG hb
          (try clear hb)
          (try clear hb2)
          (try clear hk)
          (try clear hi)
          refine hK.out _ _ (S.d4 BK210.out (And.intro ((S.hb HB hw220_0 :)) ((S.hb HB hw220_1 :)))) (fun hHeld => ?_)
          clear hK K
          refine S.nm 55 ?_
          refine S.pS 8 56 ?_
          refine S.pS 9 57 ?_
          refine S.pS 10 47 ?_
          refine done_ (done_of HT_.out (by kernel_rfl)) ?_
          try go_wp2
          go_ret
          exact ⟨S.eW, S.bG⟩
         ·obtain rfl := Option.some.inj H
          try go_wp2
          replace BK210 := Aside0.mk (blk_drew BK210.out)
          replace HB := Aside0.mk (below_drew1 HB.out)
          have p220 : 0 ≤ (t211 : Int) := S.oD
          have q220 : t211 < (l1.length : Int) := S.oD
          obtain ⟨ad220, A220_0, c220_0, e220, hx220_0, hx220_1, hl220_0, hi220_0⟩ := at_T85 HR1.out t211 p220 q220
          have hw220_1 := hx220_1
          have hw220_0 := hx220_0
          cases e220
          replace hx220_0 := S.hb HB hx220_0
          replace hx220_1 := S.hb HB hx220_1
          have HR220_0 := Aside0.mk hi220_0
          have HC220_0 := Aside0.mk hl220_0
          clear hi220_0 hl220_0
          replace p220 := eq_true p220
          replace q220 := eq_true q220
          refine S.st (n := 11) (ds := []) #[false, false, false, false, false, false, false, false, false, false, false] (fun w_ h_ => have x_ := S.d4 (S.Q h_ BK210.out) (And.intro (S.q h_ (S.hb HB hw220_0)) (S.q h_ (S.hb HB hw220_1))); x_) (fun hHeld => ?_); refine with_tabW impl_shown.tab6 impl_shown.bits6 (fun HT_ HW_ => ?_)
          generalize wc.drew = w33 at BK210 HB HR220_0 hx220_0 hx220_1 hHeld ⊢
          refine S.pS 0 48 ?_
          refine S.pS 1 49 ?_
          refine S.pS 2 50 ?_
          refine S.pS 3 51 ?_
          refine S.pS 4 52 ?_
          refine S.tK 5 53 #[true, true, true, true, true, true, false, false, false, false, false] ?_
          refine S.tK 6 54 #[true, true, true, true, true, true, true, false, false, false, false] ?_
          refine S.oN 7 55 #[true, true, true, true, true, true, true, true, false, false, false] (fun K hK => ?_)
          refine S.go Try.func114 #[.agg #[.int .i64 a3_0, .int .i64 a3_1, .int .i64 a3_2, .int .i64 a3_3]] ?_
          with_reducible refine (impl_ClearOf.calls a3_0 a3_1 a3_2 a3_3 t221 _ A29.out).mono ?_
          rintro e w34 ⟨rfl, hb⟩
          refine ⟨_, rfl, ?_⟩
          replace BK210 := S.kb BK210 hb
          replace HB := S.sG hb
          (try clear hb)
          (try clear hb2)
          (try clear hk)
          (try clear hi)
          refine hK.out _ _ (S.d4 BK210.out (And.intro ((S.hb HB hw220_0 :)) ((S.hb HB hw220_1 :)))) (fun hHeld => ?_)
          clear hK K
          refine S.nm 55 ?_
          refine S.pS 8 56 ?_
          refine S.pS 9 57 ?_
          refine S.pS 10 47 ?_
          refine done_ (done_of HT_.out (by kernel_rfl)) ?_
          try go_wp2
          go_ret
          exact ⟨S.eW, S.bG⟩
        ·rw [if_neg c28] at H
         exact absurd H (by simp)
       ·rw [if_neg c27] at H
        exact absurd H (by simp)
end Go.Proofs.Ytjgigmghcfdomaa.PFnSwitched
