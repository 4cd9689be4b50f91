/- Printed by a program: what the Go functions compute, as plain Lean functions (.f), and the proofs that the machine's calls come to just that (.calls). -/
import Derived.Test.YtjgigmghcfdomaaPFnWavesx0
import Derived.Test.YtjgigmghcfdomaaPFnWavesx1
import Derived.Test.YtjgigmghcfdomaaPFnWavesx2
namespace Go.Proofs.Ytjgigmghcfdomaa.PFnWaves
open Go.RowKit Go.Proofs.YtjgigmghcfdomaaW.PrintWords Go.Proofs.YtjgigmghcfdomaaW.PrintLast Go.Proofs.YtjgigmghcfdomaaW.PrintMore
attribute [local go_sem] max2_int min2_int max_two min_two max_three min_three max_four min_four   -- for this text's walks alone
set_option linter.unusedVariables false
set_option linter.unusedSimpArgs false
/-! ### impl_ClearBetween: function 109 -/
mutual
def impl_ClearBetween.j0 : Nat → List (S71) → List Int → List Int → Int → Bool → Option (Int)
 | 0, _, _, _, _, _ => none
 | k + 1, x0, x1, x2, x7, x22 => if x22 = true then (some x7) else ((impl_Closes.f k x1 x2).bind fun t180 => (impl_ClearBetween.l0 k x0 x1 x2 x7 t180 (t180.length : Int) 0))
def impl_ClearBetween.l0 : Nat → List (S71) → List Int → List Int → Int → List Int → Int → Int → Option (Int)
 | 0, _, _, _, _, _, _, _ => none
 | k + 1, x0, x1, x2, x7, x26, x27, x28 => if x28 < x27 then (if 0 ≤ x28 then (if x28 < (x26.length : Int) then ((impl_Closes.f k x2 x1).bind fun t184 => (impl_ClearBetween.l1 k x0 x1 x2 x7 (rd x26 x28) x26 x27 x28 t184 (t184.length : Int) 0)) else (none)) else (none)) else (some x7)
def impl_ClearBetween.l1 : Nat → List (S71) → List Int → List Int → Int → Int → List Int → Int → Int → List Int → Int → Int → Option (Int)
 | 0, _, _, _, _, _, _, _, _, _, _, _ => none
 | k + 1, x0, x1, x2, x7, x9, x26, x27, x28, x34, x35, x36 => if x36 < x35 then (if 0 ≤ x36 then (if x36 < (x34.length : Int) then ((impl_FindPath.f x0 x9).bind fun t188 => (if 0 ≤ t188 then (if t188 < (x0.length : Int) then ((impl_FindPath.f x0 (rd x34 x36)).bind fun t191 => (if 0 ≤ t191 then (if t191 < (x0.length : Int) then ((impl_Conflict.f k ((rd_T71 x0 t188).f0) ((rd_T71 x0 t188).f1) ((rd_T71 x0 t188).f2) ((rd_T71 x0 t188).f3) ((rd_T71 x0 t191).f0) ((rd_T71 x0 t191).f1) ((rd_T71 x0 t191).f2) ((rd_T71 x0 t191).f3)).bind fun t193 => (if t193 = true then ((impl_ClearOf.f ((rd_T71 x0 t188).f0) ((rd_T71 x0 t188).f1) ((rd_T71 x0 t188).f2) ((rd_T71 x0 t188).f3)).bind fun t194 => (impl_ClearBetween.l1 k x0 x1 x2 (mx x7 t194) x9 x26 x27 x28 x34 x35 (wrap64 (x36 + 1)))) else (impl_ClearBetween.l1 k x0 x1 x2 x7 x9 x26 x27 x28 x34 x35 (wrap64 (x36 + 1))))) else (none)) else (none))) else (none)) else (none))) else (none)) else (none)) else (impl_ClearBetween.l0 k x0 x1 x2 x7 x26 x27 (wrap64 (x28 + 1)))
end
def impl_ClearBetween.f (k : Nat) (l0 : List (S71)) (l1 : List Int) (l2 : List Int) : Option (Int) := (impl_IsTogether.f k l0 l1).bind fun t178 => (if t178 = true then ((impl_IsTogether.f k l0 l2).bind fun t179 => (impl_ClearBetween.j0 k l0 l1 l2 0 (!t179))) else (impl_ClearBetween.j0 k l0 l1 l2 0 true))
def impl_ClearBetween.T11 : Bool × List (List Nat × List Nat) := (true, [([], []), ([], []), ([], []), ([], []), ([2, 3], [2, 3]), ([1, 4], [1, 4]), ([5], [5]), ([0, 6, 4], [0, 6])])
def impl_ClearBetween.B11 : List Nat := [0, 0, 0, 0, 12, 30, 62, 127]
theorem impl_ClearBetween.tab11 : rtab .any (opsOf Try.f109 11) = impl_ClearBetween.T11 := by kernel_rfl
theorem impl_ClearBetween.bits11 : waitsOk impl_ClearBetween.T11.2 impl_ClearBetween.B11 = true := by kernel_rfl
set_option maxHeartbeats 8000000 in
set_option maxRecDepth 100000 in
theorem impl_ClearBetween.calls (k : Nat) (A0 : Option Addr) (c0 : Nat) (l0 : List (S71)) (A1 : Option Addr) (c1 : Nat) (l1 : List Int) (A2 : Option Addr) (c2 : Nat) (l2 : List Int) (r : Int) (w : World) (hr0 : Kd.C k71 w A0 l0.length l0) (hc0 : l0.length ≤ c0) (hr1 : Kd.C (Kd.int .i64) w A1 l1.length l1) (hc1 : l1.length ≤ c1) (hr2 : Kd.C (Kd.int .i64) w A2 l2.length l2) (hc2 : l2.length ≤ c2) (h : impl_ClearBetween.f k l0 l1 l2 = some r) :
  Calls Try.prog 109 #[.slice A0 l0.length c0, .slice A1 l1.length c1, .slice A2 l2.length c2] w fun e w' => e = .returned (.int .i64 r) ∧ Below w.heap.size w w' := by
 have hu71 := Try.underlying71
 have HR0 := Aside0.mk hr0
 have HC0 := Aside0.mk hc0
 clear hr0 hc0
 have HR1 := Aside0.mk hr1
 have HC1 := Aside0.mk hc1
 clear hr1 hc1
 have HR2 := Aside0.mk hr2
 have HC2 := Aside0.mk hc2
 clear hr2 hc2
 have HB := Aside0.mk (Below.refl w.heap.size w)
 have H : ((impl_IsTogether.f k l0 l1).bind fun t178 => (if t178 = true then ((impl_IsTogether.f k l0 l2).bind fun t179 => (impl_ClearBetween.j0 k l0 l1 l2 0 (!t179))) else (impl_ClearBetween.j0 k l0 l1 l2 0 true))) = some r := h
 clear h
 have HC4 := Aside0.mk H
 clear H
 go_enter Try.func109, Try.ntmps109
 go_upto_region 2 with (fail)
 go_cut [22] (fun v22 wc => ∃ (kq : Nat) (x22_3 : Bool), v22 = .bool x22_3 ∧ Aside0 (impl_ClearBetween.j0 kq l0 l1 l2 0 x22_3 = some r) ∧ Aside0 (kq ≤ k) ∧ Aside0 (Below w.heap.size w wc))
 case first =>
  have H := HC4.out
  clear HC4
  replace H := S.bd H; obtain ⟨t178, A5, H⟩ := H
  (try dsimp only at H)
  replace H := S.db H; rcases H with ⟨rfl, H⟩ | ⟨rfl, H⟩
  ·replace H := S.bd H; obtain ⟨t179, A7, H⟩ := H
   (try dsimp only at H)
   have H' := Aside0.mk H
   clear H
   go_wp2_with (first | ((with_reducible refine gate_callee (f := 104) rfl ?_); refine S.gL (some 15) Try.func104 #[.slice A0 l0.length c0, .slice A1 l1.length c1] ?_; (with_reducible refine (impl_IsTogether.calls k _ _ l0 _ _ l1 true _ ?s1 HC0.out ?s3 HC1.out A5.out).mono ?_); (case s1 => exact S.cA HR0.out); (case s3 => exact S.cA HR1.out); rintro e w8 ⟨rfl, hb⟩; refine ⟨_, rfl, ?_⟩; replace HB := S.sA hb; (try clear hb)) | (go_at_call 104; (with_reducible refine (impl_IsTogether.calls k _ _ l0 _ _ l2 t179 _ ?s1 HC0.out ?s3 HC2.out A7.out).mono ?_); (case s1 => exact S.cA HR0.out); (case s3 => exact S.cA HR2.out); rintro e w9 ⟨rfl, hb⟩; replace HB := S.sA hb; (try clear hb)))
   go_meet
   case rel => exact ⟨_, (!t179), S.eA, H', S.le, ⟨S.bA⟩⟩
  ·have H' := Aside0.mk H
   clear H
   go_wp2_with (first | ((with_reducible refine gate_callee (f := 104) rfl ?_); refine S.gL (some 15) Try.func104 #[.slice A0 l0.length c0, .slice A1 l1.length c1] ?_; (with_reducible refine (impl_IsTogether.calls k _ _ l0 _ _ l1 false _ ?s1 HC0.out ?s3 HC1.out A5.out).mono ?_); (case s1 => exact S.cA HR0.out); (case s3 => exact S.cA HR1.out); rintro e w10 ⟨rfl, hb⟩; refine ⟨_, rfl, ?_⟩; replace HB := S.sA hb; (try clear hb)))
   go_meet
   case rel => exact ⟨_, (true), S.eA, H', S.le, ⟨S.bA⟩⟩
 case rest =>
  clear HC4
  try clear c1
  try clear c2
  obtain ⟨kq, x22_3, rfl, HA, HJ3, HB⟩ := hcut
  cases kq with
  | zero => exact absurd HA.out (by simp [impl_ClearBetween.j0])
  | succ kj3 =>
   have H := HA.out
   clear HA
   simp only [impl_ClearBetween.j0] at H
   replace H := S.db H; rcases H with ⟨rfl, H⟩ | ⟨rfl, H⟩
   ·obtain rfl := Option.some.inj H
    go_wp2
    go_ret
    exact ⟨S.eW, S.bA⟩
   ·replace H := S.bd H; obtain ⟨t180, A12, H⟩ := H
    (try dsimp only at H)
    have H' := Aside0.mk H
    clear H
    go_wp2_with (first | ((with_reducible refine gate_callee (f := 130) rfl ?_); refine S.gL (some 26) Try.func130 #[.slice A1 l1.length c1, .slice A2 l2.length c2] ?_; (with_reducible refine (impl_Closes.calls kj3 _ _ l1 _ _ l2 t180 _ ?s1 HC1.out ?s3 HC2.out A12.out).mono ?_); (case s1 => exact S.cA HR1.out); (case s3 => exact S.cA HR2.out); rintro e w13 ⟨v181, rfl, ho0, hb⟩; refine ⟨_, rfl, ?_⟩; have HO182 := S.lwA ho0; replace HB := S.sA hb; (try clear hb); (try clear ho0); obtain ⟨Ao14, co14, eo14⟩ := Kd.R_slice HO182.out; subst eo14))
    go_loopg [7, 28] kj3 (fun kq v7 v28 w' => ∃ (x7_2 : Int) (x28_2 : Int), v7 = .int .i64 x7_2 ∧ v28 = .int .i64 x28_2 ∧ Aside0 (impl_ClearBetween.l0 kq l0 l1 l2 x7_2 t180 (t180.length : Int) x28_2 = some r) ∧ Aside0 (kq ≤ kj3) ∧ Aside0 (Kd.R (Kd.int .i64) 3 w' w.heap.size (fun _ => True) (.slice Ao14 t180.length co14) t180) ∧ Aside0 (Below w.heap.size w w'))
    case atStart => exact ⟨(0), (0), S.eA, S.eA, H', ⟨Nat.le_refl _⟩, ⟨S.uR HO182.out⟩, ⟨S.bA⟩⟩
    case round =>
     clear H'
     try clear c1
     try clear c2
     try clear c11
     obtain ⟨x7_2, x28_2, rfl, rfl, HA, HK2, HO_26, HB⟩ := hrel
     cases gk with
     | zero => exact absurd HA.out (by simp [impl_ClearBetween.l0])
     | succ k2 =>
      have H := HA.out
      clear HA
      simp only [impl_ClearBetween.l0] at H
      replace H := S.dc H; rcases H with ⟨H, c15b0⟩ | ⟨H, c15b0⟩
      ·by_cases c16 : 0 ≤ x28_2
       ·rw [if_pos c16] at H
        have c16b0 : decide (0 ≤ x28_2) = true := decide_eq_true c16
        clear c16
        by_cases c17 : x28_2 < (t180.length : Int)
        ·rw [if_pos c17] at H
         have c17b0 : decide (x28_2 < (t180.length : Int)) = true := decide_eq_true c17
         clear c17
         replace H := S.bd H; obtain ⟨t184, A18, H⟩ := H
         (try dsimp only at H)
         have H' := Aside0.mk H
         clear H
         have p183 : 0 ≤ (x28_2 : Int) := S.oD
         have q183 : x28_2 < (t180.length : Int) := S.oD
         obtain ⟨ad183, e183, hx183_0⟩ := Kd.at_int (Kd.R_reads' HO_26.out).2.2 x28_2 p183 q183
         cases e183
         replace p183 := eq_true p183
         replace q183 := eq_true q183
         go_wp2_with (first | ((with_reducible refine gate_callee (f := 130) rfl ?_); refine S.gL (some 34) Try.func130 #[.slice A2 l2.length c2, .slice A1 l1.length c1] ?_; (with_reducible refine (impl_Closes.calls k2 _ _ l2 _ _ l1 t184 _ ?s1 HC2.out ?s3 HC1.out A18.out).mono ?_); (case s1 => exact S.cA HR2.out); (case s3 => exact S.cA HR1.out); rintro e w19 ⟨v185, rfl, ho0, hb⟩; refine ⟨_, rfl, ?_⟩; have HO186 := S.rnA ho0 HO_26; replace HO_26 := S.re HO_26 ho0 hb; replace HB := S.sA hb; (try clear hb); (try clear ho0); obtain ⟨Ao20, co20, eo20⟩ := Kd.R_slice HO186.out; subst eo20))
         go_loopg [7, 36] k2 (fun kq v7 v36 w' => ∃ (x7_3 : Int) (x36_3 : Int), v7 = .int .i64 x7_3 ∧ v36 = .int .i64 x36_3 ∧ Aside0 (impl_ClearBetween.l1 kq l0 l1 l2 x7_3 (rd t180 x28_2) t180 (t180.length : Int) x28_2 t184 (t184.length : Int) x36_3 = some r) ∧ Aside0 (kq ≤ k2) ∧ Aside0 (Kd.R (Kd.int .i64) 3 w' w.heap.size (fun k_ => some k_ ≠ ((.slice Ao20 t184.length co20) : Value).ownBlock) (.slice (some ad183) t180.length co14) t180) ∧ Aside0 (Kd.R (Kd.int .i64) 3 w' w.heap.size (fun k_ => some k_ ≠ ((.slice (some ad183) t180.length co14) : Value).ownBlock) (.slice Ao20 t184.length co20) t184) ∧ Aside0 (Below w.heap.size w w'))
         case atStart => exact ⟨(x7_2), (0), S.eA, S.eA, H', ⟨Nat.le_refl _⟩, ⟨by (with_reducible repeat (first | apply Kd.R_alloc | apply Kd.R_drewN | apply Kd.R_drew)); exact Kd.R_mono HO_26.out (fun _ hk => hk.2)⟩, ⟨by (with_reducible repeat (first | apply Kd.R_alloc | apply Kd.R_drewN | apply Kd.R_drew)); exact Kd.R_mono HO186.out (fun _ hk => hk.2)⟩, ⟨S.bA⟩⟩
         case round =>
          clear H'
          try clear c1
          try clear c2
          try clear c11
          try clear c15
          try clear c15b0
          try clear c16
          try clear c16b0
          try clear c17
          try clear c17b0
          try clear hx183_0
          try clear p183
          try clear q183
          obtain ⟨x7_3, x36_3, rfl, rfl, HA, HK3, HO_26, HO_34, HB⟩ := hrel
          cases gk with
          | zero => exact absurd HA.out (by simp [impl_ClearBetween.l1])
          | succ k3 =>
           have H := HA.out
           clear HA
           simp only [impl_ClearBetween.l1] at H
           replace H := S.dc H; rcases H with ⟨H, c21b0⟩ | ⟨H, c21b0⟩
           ·by_cases c22 : 0 ≤ x36_3
            ·rw [if_pos c22] at H
             have c22b0 : decide (0 ≤ x36_3) = true := decide_eq_true c22
             clear c22
             by_cases c23 : x36_3 < (t184.length : Int)
             ·rw [if_pos c23] at H
              have c23b0 : decide (x36_3 < (t184.length : Int)) = true := decide_eq_true c23
              clear c23
              replace H := S.bd H; obtain ⟨t188, A24, H⟩ := H
              (try dsimp only at H)
              by_cases c25 : 0 ≤ t188
              ·rw [if_pos c25] at H
               have c25b0 : decide (0 ≤ t188) = true := decide_eq_true c25
               clear c25
               by_cases c26 : t188 < (l0.length : Int)
               ·rw [if_pos c26] at H
                have c26b0 : decide (t188 < (l0.length : Int)) = true := decide_eq_true c26
                clear c26
                replace H := S.bd H; obtain ⟨t191, A27, H⟩ := H
                (try dsimp only at H)
                by_cases c28 : 0 ≤ t191
                ·rw [if_pos c28] at H
                 have c28b0 : decide (0 ≤ t191) = true := decide_eq_true c28
                 clear c28
                 by_cases c29 : t191 < (l0.length : Int)
                 ·rw [if_pos c29] at H
                  have c29b0 : decide (t191 < (l0.length : Int)) = true := decide_eq_true c29
                  clear c29
                  replace H := S.bd H; obtain ⟨t193, A30, H⟩ := H
                  (try dsimp only at H)
                  replace H := S.db H; rcases H with ⟨rfl, H⟩ | ⟨rfl, H⟩
                  ·replace H := S.bd H; obtain ⟨t194, A32, H⟩ := H
                   (try dsimp only at H)
                   obtain ⟨ji33, hji33⟩ : ∃ j_ : Int, (mx x7_3 t194) = j_ := ⟨_, rfl⟩
                   replace H : (impl_ClearBetween.l1 k3 l0 l1 l2 ji33 (rd t180 x28_2) t180 (t180.length : Int) x28_2 t184 (t184.length : Int) (wrap64 (x36_3 + 1))) = some r := by first | (rw [hji33] at H; exact H) | (simp only [hji33] at H ⊢; exact H)
                   (try rw [hji33] at A24)
                   (try rw [hji33] at A27)
                   (try rw [hji33] at A30)
                   (try rw [hji33] at A32)
                   have hji33_ : (if x7_3 < t194 then t194 else x7_3) = ji33 := hji33
                   have H' := Aside0.mk H
                   clear H
                   have p187 : 0 ≤ (x36_3 : Int) := S.oD
                   have q187 : x36_3 < (t184.length : Int) := S.oD
                   obtain ⟨ad187, e187, hx187_0⟩ := Kd.at_int (Kd.R_reads' HO_34.out).2.2 x36_3 p187 q187
                   cases e187
                   replace p187 := eq_true p187
                   replace q187 := eq_true q187
                   try go_wp2_with (first | ((with_reducible refine gate_callee (f := 83) rfl ?_); refine S.gL (some 43) Try.func83 #[.slice A0 l0.length c0, .int .i64 (rd t180 x28_2)] ?_; (with_reducible refine (impl_FindPath.calls _ _ l0 (rd t180 x28_2) t188 _ ?s1 HC0.out A24.out).mono ?_); (case s1 => exact S.cA HR0.out); rintro e w34 ⟨rfl, hb⟩; refine ⟨_, rfl, ?_⟩; replace HO_26 := S.rb HO_26 hb; replace HO_34 := S.rb HO_34 hb; replace HB := S.sA hb; (try clear hb); have p189 : 0 ≤ (t188 : Int) := S.oD; have q189 : t188 < (l0.length : Int) := S.oD; obtain ⟨ad189, e189, hx189_0, hx189_1, hx189_2, hx189_3⟩ := at_T71 HR0.out t188 p189 q189; cases e189; replace hx189_0 := S.hb HB hx189_0; replace hx189_1 := S.hb HB hx189_1; replace hx189_2 := S.hb HB hx189_2; replace hx189_3 := S.hb HB hx189_3; replace p189 := eq_true p189; replace q189 := eq_true q189) | ((with_reducible refine gate_dst (N := 12) rfl ?_); refine S.bx 12 (cs := #[.int .i64 0, .int .i64 0, .int .i64 0, .int .i64 0]) (t := 71) ?_; intro gb190 hg w35 hbox hb; replace HO_26 := S.rb HO_26 hb; replace HO_34 := S.rb HO_34 hb; have BK190 := Aside0.mk hbox; have GW190 := S.geA hg; have GE190 := S.geA hg; replace HB := S.sA hb; clear hb hbox hg; obtain ⟨Z36a, Z36b, Z36c, Z36d, Y36a, Y36b, Y36c, Y36d⟩ := S.c4 BK190.out))
                   generalize hq_ : ((((w35.setCell ⟨gb190, 0, none⟩ (.int .i64 ((rd_T71 l0 t188).f0))).setCell ⟨gb190, 1, none⟩ (.int .i64 ((rd_T71 l0 t188).f1))).setCell ⟨gb190, 2, none⟩ (.int .i64 ((rd_T71 l0 t188).f2))).setCell ⟨gb190, 3, none⟩ (.int .i64 ((rd_T71 l0 t188).f3))) = w37
                   replace HO_26 := S.f4 hq_ HO_26 BK190
                   replace HO_34 := S.f4 hq_ HO_34 BK190
                   replace BK190 := S.p4 hq_ BK190
                   replace HB := S.bQ hq_
                   clear hq_
                   replace HO_26 := S.dr HO_26
                   replace HO_34 := S.dr HO_34
                   replace BK190 := Aside0.mk (blk_drew BK190.out)
                   replace HB := Aside0.mk (below_drew1 HB.out)
                   have p192 : 0 ≤ (t191 : Int) := S.oD
                   have q192 : t191 < (l0.length : Int) := S.oD
                   obtain ⟨ad192, e192, hx192_0, hx192_1, hx192_2, hx192_3⟩ := at_T71 HR0.out t191 p192 q192
                   have hw192_3 := hx192_3
                   have hw192_2 := hx192_2
                   have hw192_1 := hx192_1
                   have hw192_0 := hx192_0
                   obtain rfl : ad189 = ad192 := (by injection e192)
                   replace hx192_0 := S.hb HB hx192_0
                   replace hx192_1 := S.hb HB hx192_1
                   replace hx192_2 := S.hb HB hx192_2
                   replace hx192_3 := S.hb HB hx192_3
                   replace p192 := eq_true p192
                   replace q192 := eq_true q192
                   refine S.st (n := 8) (ds := []) #[false, false, false, false, false, false, false, false] (fun w_ h_ => have x_ := S.d4 (S.Q h_ BK190.out) (And.intro (S.q h_ (S.hb HB hw192_0)) (And.intro (S.q h_ (S.hb HB hw192_1)) (And.intro (S.q h_ (S.hb HB hw192_2)) (S.q h_ (S.hb HB hw192_3))))); x_) (fun hHeld => ?_); refine with_tabW impl_ClearBetween.tab11 impl_ClearBetween.bits11 (fun HT_ HW_ => ?_)
                   generalize w37.drew = w38 at HO_26 HO_34 BK190 HB hx192_0 hx192_1 hx192_2 hx192_3 hHeld ⊢
                   refine S.pS 1 47 ?_
                   refine S.pS 2 48 ?_
                   refine S.pS 3 49 ?_
                   refine S.tK 0 46 #[true, true, true, true, false, false, false, false] ?_
                   refine S.oN 4 50 #[true, true, true, true, true, false, false, false] (fun K hK => ?_)
                   refine S.go Try.func83 #[.slice (some ad189) l0.length c0, .int .i64 (rd t184 x36_3)] ?_
                   with_reducible refine (impl_FindPath.calls _ _ l0 (rd t184 x36_3) t191 _ ?s1 ?s2 A27.out).mono ?_
                   (case s1 => exact S.cA HR0.out)
                   (case s2 => exact HC0.out)
                   rintro e w39 ⟨rfl, hb⟩
                   refine ⟨_, rfl, ?_⟩
                   replace HO_26 := S.rb HO_26 hb
                   replace HO_34 := S.rb HO_34 hb
                   replace BK190 := S.kb BK190 hb
                   replace HB := S.sG hb
                   (try clear hb)
                   (try clear hb2)
                   (try clear hk)
                   (try clear hi)
                   refine hK.out _ _ (S.d4 BK190.out (And.intro ((S.hb HB hw192_0 :)) (And.intro ((S.hb HB hw192_1 :)) (And.intro ((S.hb HB hw192_2 :)) ((S.hb HB hw192_3 :)))))) (fun hHeld => ?_)
                   clear hK K
                   refine S.nm 50 ?_
                   refine S.pS 5 51 ?_
                   refine S.tK 6 52 #[true, true, true, true, true, true, true, false] ?_
                   refine S.oN 7 53 #[true, true, true, true, true, true, true, true] (fun K hK => ?_)
                   refine S.go Try.func89 #[.agg #[.int .i64 ((rd_T71 l0 t188).f0), .int .i64 ((rd_T71 l0 t188).f1), .int .i64 ((rd_T71 l0 t188).f2), .int .i64 ((rd_T71 l0 t188).f3)], .agg #[.int .i64 ((rd_T71 l0 t191).f0), .int .i64 ((rd_T71 l0 t191).f1), .int .i64 ((rd_T71 l0 t191).f2), .int .i64 ((rd_T71 l0 t191).f3)]] ?_
                   with_reducible refine (impl_Conflict.calls k3 ((rd_T71 l0 t188).f0) ((rd_T71 l0 t188).f1) ((rd_T71 l0 t188).f2) ((rd_T71 l0 t188).f3) ((rd_T71 l0 t191).f0) ((rd_T71 l0 t191).f1) ((rd_T71 l0 t191).f2) ((rd_T71 l0 t191).f3) true _ A30.out).mono ?_
                   rintro e w40 ⟨rfl, hb⟩
                   refine ⟨_, rfl, ?_⟩
                   replace HO_26 := S.rb HO_26 hb
                   replace HO_34 := S.rb HO_34 hb
                   replace BK190 := S.kb BK190 hb
                   replace HB := S.sG hb
                   (try clear hb)
                   (try clear hb2)
                   (try clear hk)
                   (try clear hi)
                   refine hK.out _ _ (S.d4 BK190.out (And.intro ((S.hb HB hw192_0 :)) (And.intro ((S.hb HB hw192_1 :)) (And.intro ((S.hb HB hw192_2 :)) ((S.hb HB hw192_3 :)))))) (fun hHeld => ?_)
                   clear hK K
                   refine S.nm 53 ?_
                   refine done_ (done_of HT_.out (by kernel_rfl)) ?_
                   obtain ⟨Z41a, Z41b, Z41c, Z41d, Y41a, Y41b, Y41c, Y41d⟩ := S.c4 BK190.out
                   try go_wp2_with (first | ((with_reducible refine gate_callee (f := 114) rfl ?_); refine S.gL (some 56) Try.func114 #[.agg #[.int .i64 ((rd_T71 l0 t188).f0), .int .i64 ((rd_T71 l0 t188).f1), .int .i64 ((rd_T71 l0 t188).f2), .int .i64 ((rd_T71 l0 t188).f3)]] ?_; (with_reducible refine (impl_ClearOf.calls ((rd_T71 l0 t188).f0) ((rd_T71 l0 t188).f1) ((rd_T71 l0 t188).f2) ((rd_T71 l0 t188).f3) t194 _ A32.out).mono ?_); rintro e w42 ⟨rfl, hb⟩; refine ⟨_, rfl, ?_⟩; replace HO_26 := S.rb HO_26 hb; replace HO_34 := S.rb HO_34 hb; replace BK190 := S.kb BK190 hb; replace HB := S.sG hb; (try clear hb)))
                   go_roundg k3
                   case measure => have := HJ3.out; have := HK2.out; have := HK3.out; omega
                   case rel => exact ⟨(ji33), (wrap64 (x36_3 + 1)), (by first | rfl | (simp; done) | (simp only [← hji33] <;> (first | rfl | simp)) | (simp [*]; done)), S.eA, H', ⟨by have := HJ3.out; have := HK2.out; have := HK3.out; omega⟩, ⟨S.uR HO_26.out⟩, ⟨S.uR HO_34.out⟩, ⟨S.bG⟩⟩
                  ·have H' := Aside0.mk H
                   clear H
                   have p187 : 0 ≤ (x36_3 : Int) := S.oD
                   have q187 : x36_3 < (t184.length : Int) := S.oD
                   obtain ⟨ad187, e187, hx187_0⟩ := Kd.at_int (Kd.R_reads' HO_34.out).2.2 x36_3 p187 q187
                   cases e187
                   replace p187 := eq_true p187
                   replace q187 := eq_true q187
                   try go_wp2_with (first | ((with_reducible refine gate_callee (f := 83) rfl ?_); refine S.gL (some 43) Try.func83 #[.slice A0 l0.length c0, .int .i64 (rd t180 x28_2)] ?_; (with_reducible refine (impl_FindPath.calls _ _ l0 (rd t180 x28_2) t188 _ ?s1 HC0.out A24.out).mono ?_); (case s1 => exact S.cA HR0.out); rintro e w43 ⟨rfl, hb⟩; refine ⟨_, rfl, ?_⟩; replace HO_26 := S.rb HO_26 hb; replace HO_34 := S.rb HO_34 hb; replace HB := S.sA hb; (try clear hb); have p189 : 0 ≤ (t188 : Int) := S.oD; have q189 : t188 < (l0.length : Int) := S.oD; obtain ⟨ad189, e189, hx189_0, hx189_1, hx189_2, hx189_3⟩ := at_T71 HR0.out t188 p189 q189; cases e189; replace hx189_0 := S.hb HB hx189_0; replace hx189_1 := S.hb HB hx189_1; replace hx189_2 := S.hb HB hx189_2; replace hx189_3 := S.hb HB hx189_3; replace p189 := eq_true p189; replace q189 := eq_true q189) | ((with_reducible refine gate_dst (N := 12) rfl ?_); refine S.bx 12 (cs := #[.int .i64 0, .int .i64 0, .int .i64 0, .int .i64 0]) (t := 71) ?_; intro gb190 hg w44 hbox hb; replace HO_26 := S.rb HO_26 hb; replace HO_34 := S.rb HO_34 hb; have BK190 := Aside0.mk hbox; have GW190 := S.geA hg; have GE190 := S.geA hg; replace HB := S.sA hb; clear hb hbox hg; obtain ⟨Z45a, Z45b, Z45c, Z45d, Y45a, Y45b, Y45c, Y45d⟩ := S.c4 BK190.out))
                   generalize hq_ : ((((w44.setCell ⟨gb190, 0, none⟩ (.int .i64 ((rd_T71 l0 t188).f0))).setCell ⟨gb190, 1, none⟩ (.int .i64 ((rd_T71 l0 t188).f1))).setCell ⟨gb190, 2, none⟩ (.int .i64 ((rd_T71 l0 t188).f2))).setCell ⟨gb190, 3, none⟩ (.int .i64 ((rd_T71 l0 t188).f3))) = w46
                   replace HO_26 := S.f4 hq_ HO_26 BK190
                   replace HO_34 := S.f4 hq_ HO_34 BK190
                   replace BK190 := S.p4 hq_ BK190
                   replace HB := S.bQ hq_
                   clear hq_
                   replace HO_26 := S.dr HO_26
                   replace HO_34 := S.dr HO_34
                   replace BK190 := Aside0.mk (blk_drew BK190.out)
                   replace HB := Aside0.mk (below_drew1 HB.out)
                   have p192 : 0 ≤ (t191 : Int) := S.oD
                   have q192 : t191 < (l0.length : Int) := S.oD
                   obtain ⟨ad192, e192, hx192_0, hx192_1, hx192_2, hx192_3⟩ := at_T71 HR0.out t191 p192 q192
                   have hw192_3 := hx192_3
                   have hw192_2 := hx192_2
                   have hw192_1 := hx192_1
                   have hw192_0 := hx192_0
                   obtain rfl : ad189 = ad192 := (by injection e192)
                   replace hx192_0 := S.hb HB hx192_0
                   replace hx192_1 := S.hb HB hx192_1
                   replace hx192_2 := S.hb HB hx192_2
                   replace hx192_3 := S.hb HB hx192_3
                   replace p192 := eq_true p192
                   replace q192 := eq_true q192
                   refine S.st (n := 8) (ds := []) #[false, false, false, false, false, false, false, false] (fun w_ h_ => have x_ := S.d4 (S.Q h_ BK190.out) (And.intro (S.q h_ (S.hb HB hw192_0)) (And.intro (S.q h_ (S.hb HB hw192_1)) (And.intro (S.q h_ (S.hb HB hw192_2)) (S.q h_ (S.hb HB hw192_3))))); x_) (fun hHeld => ?_); refine with_tabW impl_ClearBetween.tab11 impl_ClearBetween.bits11 (fun HT_ HW_ => ?_)
                   generalize w46.drew = w47 at HO_26 HO_34 BK190 HB hx192_0 hx192_1 hx192_2 hx192_3 hHeld ⊢
                   refine S.pS 1 47 ?_
                   refine S.pS 2 48 ?_
                   refine S.pS 3 49 ?_
                   refine S.tK 0 46 #[true, true, true, true, false, false, false, false] ?_
                   refine S.oN 4 50 #[true, true, true, true, true, false, false, false] (fun K hK => ?_)
                   refine S.go Try.func83 #[.slice (some ad189) l0.length c0, .int .i64 (rd t184 x36_3)] ?_
                   with_reducible refine (impl_FindPath.calls _ _ l0 (rd t184 x36_3) t191 _ ?s1 ?s2 A27.out).mono ?_
                   (case s1 => exact S.cA HR0.out)
                   (case s2 => exact HC0.out)
                   rintro e w48 ⟨rfl, hb⟩
                   refine ⟨_, rfl, ?_⟩
                   replace HO_26 := S.rb HO_26 hb
                   replace HO_34 := S.rb HO_34 hb
                   replace BK190 := S.kb BK190 hb
                   replace HB := S.sG hb
                   (try clear hb)
                   (try clear hb2)
                   (try clear hk)
                   (try clear hi)
                   refine hK.out _ _ (S.d4 BK190.out (And.intro ((S.hb HB hw192_0 :)) (And.intro ((S.hb HB hw192_1 :)) (And.intro ((S.hb HB hw192_2 :)) ((S.hb HB hw192_3 :)))))) (fun hHeld => ?_)
                   clear hK K
                   refine S.nm 50 ?_
                   refine S.pS 5 51 ?_
                   refine S.tK 6 52 #[true, true, true, true, true, true, true, false] ?_
                   refine S.oN 7 53 #[true, true, true, true, true, true, true, true] (fun K hK => ?_)
                   refine S.go Try.func89 #[.agg #[.int .i64 ((rd_T71 l0 t188).f0), .int .i64 ((rd_T71 l0 t188).f1), .int .i64 ((rd_T71 l0 t188).f2), .int .i64 ((rd_T71 l0 t188).f3)], .agg #[.int .i64 ((rd_T71 l0 t191).f0), .int .i64 ((rd_T71 l0 t191).f1), .int .i64 ((rd_T71 l0 t191).f2), .int .i64 ((rd_T71 l0 t191).f3)]] ?_
                   with_reducible refine (impl_Conflict.calls k3 ((rd_T71 l0 t188).f0) ((rd_T71 l0 t188).f1) ((rd_T71 l0 t188).f2) ((rd_T71 l0 t188).f3) ((rd_T71 l0 t191).f0) ((rd_T71 l0 t191).f1) ((rd_T71 l0 t191).f2) ((rd_T71 l0 t191).f3) false _ A30.out).mono ?_
                   rintro e w49 ⟨rfl, hb⟩
                   refine ⟨_, rfl, ?_⟩
                   replace HO_26 := S.rb HO_26 hb
                   replace HO_34 := S.rb HO_34 hb
                   replace BK190 := S.kb BK190 hb
                   replace HB := S.sG hb
                   (try clear hb)
                   (try clear hb2)
                   (try clear hk)
                   (try clear hi)
                   refine hK.out _ _ (S.d4 BK190.out (And.intro ((S.hb HB hw192_0 :)) (And.intro ((S.hb HB hw192_1 :)) (And.intro ((S.hb HB hw192_2 :)) ((S.hb HB hw192_3 :)))))) (fun hHeld => ?_)
                   clear hK K
                   refine S.nm 53 ?_
                   refine done_ (done_of HT_.out (by kernel_rfl)) ?_
                   try go_wp2
                   go_roundg k3
                   case measure => have := HJ3.out; have := HK2.out; have := HK3.out; omega
                   case rel => exact ⟨(x7_3), (wrap64 (x36_3 + 1)), S.eA, S.eA, H', ⟨by have := HJ3.out; have := HK2.out; have := HK3.out; omega⟩, ⟨S.uR HO_26.out⟩, ⟨S.uR HO_34.out⟩, ⟨S.bG⟩⟩
                 ·rw [if_neg c29] at H
                  exact absurd H (by simp)
                ·rw [if_neg c28] at H
                 exact absurd H (by simp)
               ·rw [if_neg c26] at H
                exact absurd H (by simp)
              ·rw [if_neg c25] at H
               exact absurd H (by simp)
             ·rw [if_neg c23] at H
              exact absurd H (by simp)
            ·rw [if_neg c22] at H
             exact absurd H (by simp)
           ·have H' := Aside0.mk H
            clear H
            go_wp2
            go_roundg k3
            case measure => have := HJ3.out; have := HK2.out; have := HK3.out; omega
            case rel => exact ⟨(x7_3), (wrap64 (x28_2 + 1)), S.eA, S.eA, H', ⟨by have := HJ3.out; have := HK2.out; have := HK3.out; omega⟩, ⟨by (with_reducible repeat (first | apply Kd.R_alloc | apply Kd.R_drewN | apply Kd.R_drew)); exact Kd.R_mono HO_26.out (fun _ hk => trivial)⟩, ⟨S.bA⟩⟩
        ·rw [if_neg c17] at H
         exact absurd H (by simp)
       ·rw [if_neg c16] at H
        exact absurd H (by simp)
      ·obtain rfl := Option.some.inj H
       go_wp2
       go_ret
       exact ⟨S.eW, S.bA⟩

/-! ### impl_nextStage: function 110 -/
def impl_nextStage.f (l0 : List (S85)) (a1 : Int) : Option (List Int) := if (l0.length : Int) = 0 then (none) else (if 0 ≤ (Int.tmod (wrap64 (a1 + 1)) (l0.length : Int)) then (if (Int.tmod (wrap64 (a1 + 1)) (l0.length : Int)) < (l0.length : Int) then (some ((rd_T85 l0 (Int.tmod (wrap64 (a1 + 1)) (l0.length : Int))).f0)) else (none)) else (none))
set_option maxHeartbeats 8000000 in
set_option maxRecDepth 100000 in
theorem impl_nextStage.calls (P0_ : Nat → Prop) (A0 : Option Addr) (c0 : Nat) (l0 : List (S85)) (a1 : Int) (r : List Int) (w : World) (hs0 : Kd.V k85 85 w w.heap.size (fun k_ => P0_ k_) (.slice A0 l0.length c0) l0) (h : impl_nextStage.f l0 a1 = some r) :
  Calls Try.prog 110 #[.slice A0 l0.length c0, .int .i64 a1] w fun e w' => ∃ v0_ : Value, e = .returned (v0_) ∧ Kd.V (Kd.int .i64) 3 w' w.heap.size (fun k_ => (P0_ k_ ∨ w.heap.size ≤ k_)) v0_ r ∧ Below w.heap.size w w' := by
 have HO0 := Aside0.mk (show Kd.V k85 85 w w.heap.size (fun k_ => (P0_ k_ ∨ w.heap.size ≤ k_)) (.slice A0 l0.length c0) l0 from Kd.V_mono hs0 (fun k_ hk => .inl hk))
 have HB := Aside0.mk (Below.refl w.heap.size w)
 have H : (if (l0.length : Int) = 0 then (none) else (if 0 ≤ (Int.tmod (wrap64 (a1 + 1)) (l0.length : Int)) then (if (Int.tmod (wrap64 (a1 + 1)) (l0.length : Int)) < (l0.length : Int) then (some ((rd_T85 l0 (Int.tmod (wrap64 (a1 + 1)) (l0.length : Int))).f0)) else (none)) else (none))) = some r := h
 clear h
 by_cases c3 : (l0.length : Int) = 0
 ·rw [if_pos c3] at H
  exact absurd H (by simp)
 ·rw [if_neg c3] at H
  have c3b0 : ((l0.length : Int) == 0) = false := beq_eq_false_iff_ne.mpr c3
  have c3b1 : ((l0.length : Int) != 0) = true := bne_iff_ne.mpr c3
  have c3b2 : ¬ (l0 = []) := fun h_ => c3 (by rw [h_]; rfl)
  obtain ⟨ji4, hji4⟩ : ∃ j_ : Int, (Int.tmod (wrap64 (a1 + 1)) (l0.length : Int)) = j_ := ⟨_, rfl⟩
  replace H : (if 0 ≤ (ji4) then (if (ji4) < (l0.length : Int) then (some ((rd_T85 l0 (ji4)).f0)) else (none)) else (none)) = some r := by first | (rw [hji4] at H; exact H) | (simp only [hji4] at H ⊢; exact H)
  by_cases c5 : 0 ≤ (ji4)
  ·rw [if_pos c5] at H
   have c5b0 : decide (0 ≤ (ji4)) = true := decide_eq_true c5
   clear c5
   by_cases c6 : (ji4) < (l0.length : Int)
   ·rw [if_pos c6] at H
    have c6b0 : decide ((ji4) < (l0.length : Int)) = true := decide_eq_true c6
    clear c6
    obtain rfl := Option.some.inj H
    have p195 : 0 ≤ ((ji4) : Int) := S.oD
    have q195 : (ji4) < (l0.length : Int) := S.oD
    obtain ⟨ad195, A195_0, c195_0, e195, hx195_0, hx195_1, hl195_0, hi195_0⟩ := at_T85 (Kd.V_reads' HO0.out).2.2 (ji4) p195 q195
    cases e195
    obtain ⟨ce195, hce195, hMe195, hcc195⟩ := Kd.V_get HO0.out z85 (ji4) p195 (by first | exact q195 | exact S.oD | (have e_ := (Kd.V_reads' HO0.out).1; omega))
    obtain ⟨ua195_0, uc195_0, rfl, ul195_0, ge195_0⟩ := k85_openF hMe195
    have hv195_0 := hcc195 0 _ rfl
    rw [Nat.add_zero] at hv195_0
    replace hv195_0 := Option.some.inj (hv195_0.symm.trans hx195_0)
    injection hv195_0 with hva_ hvn_ hvc_
    rw [hva_] at ge195_0
    rw [hvc_] at ul195_0
    have HL195_0 := Aside0.mk (show Kd.V (Kd.int .i64) 3 _ w.heap.size _ _ ((rd_T85 l0 (ji4)).f0) from Kd.V_mk ul195_0 ge195_0)
    clear hva_ hvn_ hvc_ ge195_0 ul195_0
    clear hcc195 hce195
    have HR195_0 := Aside0.mk hi195_0
    have HC195_0 := Aside0.mk hl195_0
    clear hi195_0 hl195_0
    replace p195 := eq_true p195
    replace q195 := eq_true q195
    go_enter Try.func110, Try.ntmps110
    go_wp2
    go_ret
    exact ⟨_, by first | rfl | (simp [errW_none, errW_some] <;> rfl) | (simp only [← hji4]; first | rfl | (simp [errW_none, errW_some] <;> rfl)) | (simp [*, errW_none, errW_some] <;> rfl), S.uV HL195_0.out, S.bA⟩
   ·rw [if_neg c6] at H
    exact absurd H (by simp)
  ·rw [if_neg c5] at H
   exact absurd H (by simp)
/-! ### impl_longOf: function 81 -/
def impl_longOf.f (k : Nat) (l0 : List (S71)) (l1 : List (S85)) (a2 : Int) : Option (Int) := if 0 ≤ a2 then (if a2 < (l1.length : Int) then ((impl_nextStage.f l1 a2).bind fun t198 => ((impl_ClearBetween.f k l0 ((rd_T85 l1 a2).f0) t198).bind fun t201 => (some (wrap64 (((rd_T85 l1 a2).f1) + t201))))) else (none)) else (none)
def impl_longOf.T1 : Bool × List (List Nat × List Nat) := (true, [([], []), ([], []), ([0, 1], [0, 1]), ([2], [2]), ([3], [3]), ([], []), ([], []), ([], []), ([6, 7], [6, 7]), ([8], [8]), ([9], [9]), ([], []), ([], []), ([11, 12], [11, 12]), ([5, 10, 13, 13], [5, 10, 13]), ([4, 14], [4, 14]), ([15, 14, 0, 1, 2, 3, 4, 5, 6, 7, 8, 9, 10, 11, 12, 13, 14, 15], [15])])
def impl_longOf.B1 : List Nat := [0, 0, 3, 7, 15, 0, 0, 0, 192, 448, 960, 0, 0, 6144, 16352, 32767, 65535]
theorem impl_longOf.tab1 : rtab .any (opsOf Try.f81 1) = impl_longOf.T1 := by kernel_rfl
theorem impl_longOf.bits1 : waitsOk impl_longOf.T1.2 impl_longOf.B1 = true := by kernel_rfl
set_option maxHeartbeats 8000000 in
set_option maxRecDepth 100000 in
theorem impl_longOf.calls (k : Nat) (A0 : Option Addr) (c0 : Nat) (l0 : List (S71)) (A1 : Option Addr) (c1 : Nat) (l1 : List (S85)) (a2 : Int) (r : Int) (w : World) (hr0 : Kd.C k71 w A0 l0.length l0) (hc0 : l0.length ≤ c0) (hr1 : Kd.C k85 w A1 l1.length l1) (hc1 : l1.length ≤ c1) (h : impl_longOf.f k l0 l1 a2 = some r) :
  Calls Try.prog 81 #[.slice A0 l0.length c0, .slice A1 l1.length c1, .int .i64 a2] w fun e w' => e = .returned (.int .i64 r) ∧ Below w.heap.size w w' := by
 have HR0 := Aside0.mk hr0
 have HC0 := Aside0.mk hc0
 clear hr0 hc0
 have HR1 := Aside0.mk hr1
 have HC1 := Aside0.mk hc1
 clear hr1 hc1
 have HB := Aside0.mk (Below.refl w.heap.size w)
 have H : (if 0 ≤ a2 then (if a2 < (l1.length : Int) then ((impl_nextStage.f l1 a2).bind fun t198 => ((impl_ClearBetween.f k l0 ((rd_T85 l1 a2).f0) t198).bind fun t201 => (some (wrap64 (((rd_T85 l1 a2).f1) + t201))))) else (none)) else (none)) = some r := h
 clear h
 by_cases c4 : 0 ≤ a2
 ·rw [if_pos c4] at H
  have c4b0 : decide (0 ≤ a2) = true := decide_eq_true c4
  clear c4
  by_cases c5 : a2 < (l1.length : Int)
  ·rw [if_pos c5] at H
   have c5b0 : decide (a2 < (l1.length : Int)) = true := decide_eq_true c5
   clear c5
   replace H := S.bd H; obtain ⟨t198, A6, H⟩ := H
   (try dsimp only at H)
   replace H := S.bd H; obtain ⟨t201, A7, H⟩ := H
   (try dsimp only at H)
   obtain rfl := Option.some.inj H
   go_enter Try.func81, Try.ntmps81
   try go_wp2
   replace HB := Aside0.mk (below_drew1 HB.out)
   have p196 : 0 ≤ (a2 : Int) := S.oD
   have q196 : a2 < (l1.length : Int) := S.oD
   obtain ⟨ad196, A196_0, c196_0, e196, hx196_0, hx196_1, hl196_0, hi196_0⟩ := at_T85 HR1.out a2 p196 q196
   have hw196_1 := hx196_1
   have hw196_0 := hx196_0
   cases e196
   replace hx196_0 := S.hb HB hx196_0
   replace hx196_1 := S.hb HB hx196_1
   have HR196_0 := Aside0.mk hi196_0
   have HC196_0 := Aside0.mk hl196_0
   clear hi196_0 hl196_0
   replace p196 := eq_true p196
   replace q196 := eq_true q196
   have p197 : 0 ≤ (a2 : Int) := S.oD
   have q197 : a2 < (l1.length : Int) := S.oD
   obtain ⟨ad197, A197_0, c197_0, e197, hx197_0, hx197_1, hl197_0, hi197_0⟩ := at_T85 HR1.out a2 p197 q197
   have hw197_1 := hx197_1
   have hw197_0 := hx197_0
   obtain rfl : ad196 = ad197 := (by injection e197)
   replace hx197_0 := S.hb HB hx197_0
   replace hx197_1 := S.hb HB hx197_1
   have HR197_0 := Aside0.mk hi197_0
   have HC197_0 := Aside0.mk hl197_0
   clear hi197_0 hl197_0
   replace p197 := eq_true p197
   replace q197 := eq_true q197
   have ea_ := Option.some.inj (hx196_0.symm.trans hx197_0)
   injection ea_ with ea_ en_ ec_
   subst ea_
   subst ec_
   clear en_
   refine S.st (n := 17) (ds := []) #[false, false, false, false, false, false, false, false, false, false, false, false, false, false, false, false, false] (fun w_ h_ => have x_ := And.intro (S.q h_ (S.hb HB hw196_0)) (And.intro (S.q h_ (S.hb HB hw196_1)) (And.intro (S.q h_ (S.hb HB hw197_0)) (S.q h_ (S.hb HB hw197_1)))); x_) (fun hHeld => ?_); refine with_tabW impl_longOf.tab1 impl_longOf.bits1 (fun HT_ HW_ => ?_)
   generalize w.drew = w8 at HB HR196_0 HR197_0 hx196_0 hx196_1 hx197_0 hx197_1 hHeld ⊢
   refine S.pS 0 7 ?_
   refine S.pS 1 8 ?_
   refine S.pS 2 9 ?_
   refine S.pS 3 10 ?_
   refine S.pS 5 12 ?_
   refine S.pS 6 13 ?_
   refine S.pS 7 14 ?_
   refine S.pS 8 15 ?_
   refine S.pS 9 16 ?_
   refine S.pS 11 18 ?_
   refine S.pS 12 19 ?_
   refine S.tK 4 11 #[true, true, true, true, true, true, true, true, true, true, false, true, true, false, false, false, false] ?_
   refine S.tK 10 17 #[true, true, true, true, true, true, true, true, true, true, true, true, true, false, false, false, false] ?_
   refine S.oN 13 20 #[true, true, true, true, true, true, true, true, true, true, true, true, true, true, false, false, false] (fun K hK => ?_)
   refine S.go Try.func110 #[.slice (some ad196) l1.length c1, .int .i64 a2] ?_
   with_reducible refine (impl_nextStage.calls (fun k_ => k_ < w.heap.size) _ _ l1 a2 t198 _ ?s1 A6.out).mono ?_
   (case s1 => exact Kd.V_mk HC1.out (Kd.F_below (Kd.C_F k85_heap HR1.out) S.bA))
   rintro e w9 ⟨v199, rfl, ho0, hb⟩
   refine ⟨_, rfl, ?_⟩
   have HO200 := Aside0.mk (Kd.V_lower (Kd.V_mono (ok' := fun k_ => True) ho0 (fun k_ hk_ => trivial)) (below_size S.bA))
   replace HB := S.sA hb
   (try clear hb)
   (try clear hb2)
   (try clear hk)
   (try clear hi)
   (try clear ho0)
   obtain ⟨Ao10, co10, eo10⟩ := Kd.V_slice HO200.out
   (first | subst eo10 | (injection eo10 with f1_ f2_ f3_; have f4_ := f1_.symm; have f5_ := f3_.symm; clear f1_ f2_ f3_; subst f4_; subst f5_))
   refine hK.out _ _ ⟨(S.hb HB hw196_0 :), (S.hb HB hw196_1 :), (S.hb HB hw197_0 :), (S.hb HB hw197_1 :)⟩ (fun hHeld => ?_)
   clear hK K
   refine S.nm 20 ?_
   refine S.oN 14 21 #[true, true, true, true, true, true, true, true, true, true, true, true, true, true, true, false, false] (fun K hK => ?_)
   refine S.go Try.func109 #[.slice A0 l0.length c0, .slice A196_0 ((rd_T85 l1 a2).f0).length c196_0, .slice Ao10 t198.length co10] ?_
   with_reducible refine (impl_ClearBetween.calls k _ _ l0 _ _ ((rd_T85 l1 a2).f0) _ _ t198 t201 _ ?s1 ?s2 ?s3 ?s4 ?s5 ?s6 A7.out).mono ?_
   (case s1 => exact S.cA HR0.out)
   (case s2 => exact HC0.out)
   (case s3 => exact S.cA HR197_0.out)
   (case s4 => exact HC197_0.out)
   (case s5 => repeat (first | exact (Kd.V_reads' HO200.out).2.2 | (with_reducible refine Kd.C_alloc ?_ _) | (with_reducible refine Kd.C_drewN ?_ _) | (with_reducible refine Kd.C_drew ?_)))
   (case s6 => exact (Kd.V_reads' HO200.out).2.1)
   rintro e w11 ⟨rfl, hb⟩
   refine ⟨_, rfl, ?_⟩
   replace HO200 := Aside0.mk (Kd.V_below (S.uV HO200.out) hb)
   replace HB := S.sA hb
   (try clear hb)
   (try clear hb2)
   (try clear hk)
   (try clear hi)
   refine hK.out _ _ ⟨(S.hb HB hw196_0 :), (S.hb HB hw196_1 :), (S.hb HB hw197_0 :), (S.hb HB hw197_1 :)⟩ (fun hHeld => ?_)
   clear hK K
   refine S.nm 21 ?_
   refine S.pS 15 22 ?_
   refine S.pS 16 6 ?_
   refine done_ (done_of HT_.out (by kernel_rfl)) ?_
   try go_wp2
   go_ret
   exact ⟨S.eW, S.bA⟩
  ·rw [if_neg c5] at H
   exact absurd H (by simp)
 ·rw [if_neg c4] at H
  exact absurd H (by simp)

/-! ### impl_Cycle: function 41 -/
def impl_Cycle.l0 : Nat → List (S71) → List (S85) → Int → Int → Int → Option (Int)
 | 0, _, _, _, _, _ => none
 | k + 1, x0, x1, x5, x12, x13 => if x13 < x12 then ((impl_longOf.f k x0 x1 x13).bind fun t203 => (impl_Cycle.l0 k x0 x1 (wrap64 (x5 + t203)) x12 (wrap64 (x13 + 1)))) else (some x5)
def impl_Cycle.f (k : Nat) (l0 : List (S71)) (l1 : List (S85)) : Option (Int) := (impl_IsPlan.f k l0 l1).bind fun t202 => (if t202 = true then (impl_Cycle.l0 k l0 l1 0 (l1.length : Int) 0) else (some 0))
set_option maxHeartbeats 8000000 in
set_option maxRecDepth 100000 in
theorem impl_Cycle.calls (k : Nat) (A0 : Option Addr) (c0 : Nat) (l0 : List (S71)) (A1 : Option Addr) (c1 : Nat) (l1 : List (S85)) (r : Int) (w : World) (hr0 : Kd.C k71 w A0 l0.length l0) (hc0 : l0.length ≤ c0) (hr1 : Kd.C k85 w A1 l1.length l1) (hc1 : l1.length ≤ c1) (h : impl_Cycle.f k l0 l1 = some r) :
  Calls Try.prog 41 #[.slice A0 l0.length c0, .slice A1 l1.length c1] w fun e w' => e = .returned (.int .i64 r) ∧ Below w.heap.size w w' := by
 have HR0 := Aside0.mk hr0
 have HC0 := Aside0.mk hc0
 clear hr0 hc0
 have HR1 := Aside0.mk hr1
 have HC1 := Aside0.mk hc1
 clear hr1 hc1
 have HB := Aside0.mk (Below.refl w.heap.size w)
 have H : ((impl_IsPlan.f k l0 l1).bind fun t202 => (if t202 = true then (impl_Cycle.l0 k l0 l1 0 (l1.length : Int) 0) else (some 0))) = some r := h
 clear h
 replace H := S.bd H; obtain ⟨t202, A3, H⟩ := H
 (try dsimp only at H)
 replace H := S.db H; rcases H with ⟨rfl, H⟩ | ⟨rfl, H⟩
 ·have H' := Aside0.mk H
  clear H
  go_enter Try.func41, Try.ntmps41
  go_wp2_with (first | ((with_reducible refine gate_callee (f := 68) rfl ?_); refine S.gL (some 9) Try.func68 #[.slice A0 l0.length c0, .slice A1 l1.length c1] ?_; (with_reducible refine (impl_IsPlan.calls k _ _ l0 (fun k_ => k_ < w.heap.size) _ _ l1 true _ ?s1 HC0.out ?s3 A3.out).mono ?_); (case s1 => repeat (first | exact HR0.out | (with_reducible refine Kd.C_alloc ?_ _) | (with_reducible refine Kd.C_drewN ?_ _) | (with_reducible refine Kd.C_drew ?_))); (case s3 => exact Kd.V_mk HC1.out (Kd.F_below (Kd.C_F k85_heap HR1.out) S.bA)); rintro e w5 ⟨rfl, hb⟩; refine ⟨_, rfl, ?_⟩; replace HB := S.sA hb; (try clear hb)))
  go_loopg [5, 13] k (fun kq v5 v13 w' => ∃ (x5_1 : Int) (x13_1 : Int), v5 = .int .i64 x5_1 ∧ v13 = .int .i64 x13_1 ∧ Aside0 (impl_Cycle.l0 kq l0 l1 x5_1 (l1.length : Int) x13_1 = some r) ∧ Aside0 (kq ≤ k) ∧ Aside0 (Below w.heap.size w w'))
  case atStart => exact ⟨(0), (0), S.eA, S.eA, H', ⟨Nat.le_refl _⟩, ⟨S.bA⟩⟩
  case round =>
   clear H'
   try clear c1
   try clear c4
   obtain ⟨x5_1, x13_1, rfl, rfl, HA, HK1, HB⟩ := hrel
   cases gk with
   | zero => exact absurd HA.out (by simp [impl_Cycle.l0])
   | succ k1 =>
    have H := HA.out
    clear HA
    simp only [impl_Cycle.l0] at H
    replace H := S.dc H; rcases H with ⟨H, c6b0⟩ | ⟨H, c6b0⟩
    ·replace H := Option.bind_eq_some_iff.mp H
     obtain ⟨t203, A70, H⟩ := H
     replace H : (impl_Cycle.l0 k1 l0 l1 (wrap64 (x5_1 + t203)) (l1.length : Int) (wrap64 (x13_1 + 1))) = some r := H
     have A7 := Aside0.mk A70
     clear A70
     have H' := Aside0.mk H
     clear H
     go_wp2_with (first | ((with_reducible refine gate_callee (f := 81) rfl ?_); refine S.gL (some 20) Try.func81 #[.slice A0 l0.length c0, .slice A1 l1.length c1, .int .i64 x13_1] ?_; (with_reducible refine (impl_longOf.calls k1 _ _ l0 _ _ l1 x13_1 t203 _ ?s1 HC0.out ?s3 HC1.out A7.out).mono ?_); (case s1 => exact S.cA HR0.out); (case s3 => exact S.cA HR1.out); rintro e w8 ⟨rfl, hb⟩; refine ⟨_, rfl, ?_⟩; replace HB := S.sA hb; (try clear hb)))
     go_roundg k1
     case measure => have := HK1.out; omega
     case rel => exact ⟨(wrap64 (x5_1 + t203)), (wrap64 (x13_1 + 1)), S.eA, S.eA, H', ⟨by have := HK1.out; omega⟩, ⟨S.bA⟩⟩
    ·obtain rfl := Option.some.inj H
     go_wp2
     go_ret
     exact ⟨S.eW, S.bA⟩
 ·obtain rfl := Option.some.inj H
  go_enter Try.func41, Try.ntmps41
  go_wp2_with (first | ((with_reducible refine gate_callee (f := 68) rfl ?_); refine S.gL (some 9) Try.func68 #[.slice A0 l0.length c0, .slice A1 l1.length c1] ?_; (with_reducible refine (impl_IsPlan.calls k _ _ l0 (fun k_ => k_ < w.heap.size) _ _ l1 false _ ?s1 HC0.out ?s3 A3.out).mono ?_); (case s1 => repeat (first | exact HR0.out | (with_reducible refine Kd.C_alloc ?_ _) | (with_reducible refine Kd.C_drewN ?_ _) | (with_reducible refine Kd.C_drew ?_))); (case s3 => exact Kd.V_mk HC1.out (Kd.F_below (Kd.C_F k85_heap HR1.out) S.bA)); rintro e w9 ⟨rfl, hb⟩; refine ⟨_, rfl, ?_⟩; replace HB := S.sA hb; (try clear hb)))
  go_ret
  exact ⟨S.eW, S.bA⟩

/-! ### impl_PartAt: function 113 -/
mutual
def impl_PartAt.j0 : Nat → List (S71) → List (S85) → Int → Int → Bool → Option (Int × Int)
 | 0, _, _, _, _, _ => none
 | k + 1, x0, x1, x2, x8, x20 => if x20 = true then (some ((-1), 0)) else (if x8 = 0 then (none) else (impl_PartAt.l0 k x0 x1 (Int.tmod x2 x8) 0))
def impl_PartAt.l0 : Nat → List (S71) → List (S85) → Int → Int → Option (Int × Int)
 | 0, _, _, _, _ => none
 | k + 1, x0, x1, x9, x10 => (impl_longOf.f k x0 x1 x10).bind fun t206 => (if x9 ≥ t206 then ((impl_longOf.f k x0 x1 x10).bind fun t207 => (impl_PartAt.l0 k x0 x1 (wrap64 (x9 - t207)) (wrap64 (x10 + 1)))) else (some (x10, x9)))
end
def impl_PartAt.f (k : Nat) (l0 : List (S71)) (l1 : List (S85)) (a2 : Int) : Option (Int × Int) := (impl_Cycle.f k l0 l1).bind fun t204 => (if t204 = 0 then (impl_PartAt.j0 k l0 l1 a2 t204 true) else ((impl_InRange.f a2 0 1000000).bind fun t205 => (impl_PartAt.j0 k l0 l1 a2 t204 (!t205))))
set_option maxHeartbeats 8000000 in
set_option maxRecDepth 100000 in
theorem impl_PartAt.calls (k : Nat) (A0 : Option Addr) (c0 : Nat) (l0 : List (S71)) (A1 : Option Addr) (c1 : Nat) (l1 : List (S85)) (a2 : Int) (r1 : Int) (r2 : Int) (w : World) (hr0 : Kd.C k71 w A0 l0.length l0) (hc0 : l0.length ≤ c0) (hr1 : Kd.C k85 w A1 l1.length l1) (hc1 : l1.length ≤ c1) (h : impl_PartAt.f k l0 l1 a2 = some (r1, r2)) :
  Calls Try.prog 113 #[.slice A0 l0.length c0, .slice A1 l1.length c1, .int .i64 a2] w fun e w' => e = .returned (.tuple #[.int .i64 r1, .int .i64 r2]) ∧ Below w.heap.size w w' := by
 have HR0 := Aside0.mk hr0
 have HC0 := Aside0.mk hc0
 clear hr0 hc0
 have HR1 := Aside0.mk hr1
 have HC1 := Aside0.mk hc1
 clear hr1 hc1
 have HB := Aside0.mk (Below.refl w.heap.size w)
 have H : ((impl_Cycle.f k l0 l1).bind fun t204 => (if t204 = 0 then (impl_PartAt.j0 k l0 l1 a2 t204 true) else ((impl_InRange.f a2 0 1000000).bind fun t205 => (impl_PartAt.j0 k l0 l1 a2 t204 (!t205))))) = some (r1, r2) := h
 clear h
 replace H := S.bd H; obtain ⟨t204, A4, H⟩ := H
 (try dsimp only at H)
 have HC5 := Aside0.mk H
 clear H
 go_enter Try.func113, Try.ntmps113
 go_upto_region 2 with (first | ((with_reducible refine gate_callee (f := 41) rfl ?_); refine S.gL (some 13) Try.func41 #[.slice A0 l0.length c0, .slice A1 l1.length c1] ?_; (with_reducible refine (impl_Cycle.calls k _ _ l0 _ _ l1 t204 _ ?s1 HC0.out ?s3 HC1.out A4.out).mono ?_); (case s1 => repeat (first | exact HR0.out | (with_reducible refine Kd.C_alloc ?_ _) | (with_reducible refine Kd.C_drewN ?_ _) | (with_reducible refine Kd.C_drew ?_))); (case s3 => repeat (first | exact HR1.out | (with_reducible refine Kd.C_alloc ?_ _) | (with_reducible refine Kd.C_drewN ?_ _) | (with_reducible refine Kd.C_drew ?_))); rintro e w6 ⟨rfl, hb⟩; refine ⟨_, rfl, ?_⟩; replace HB := S.sA hb; (try clear hb)))
 (try simp only [Act.put, List.setIfInBounds_toArray, List.set_cons_zero, List.set_cons_succ])
 go_cut [20] (fun v20 wc => ∃ (kq : Nat) (x20_4 : Bool), v20 = .bool x20_4 ∧ Aside0 (impl_PartAt.j0 kq l0 l1 a2 t204 x20_4 = some (r1, r2)) ∧ Aside0 (kq ≤ k) ∧ Aside0 (Below w.heap.size w wc))
 case first =>
  have H := HC5.out
  clear HC5
  by_cases c7 : t204 = 0
  ·rw [if_pos c7] at H
   have c7b0 : (t204 == 0) = true := beq_iff_eq.mpr c7
   have c7b1 : (t204 != 0) = false := bne_eq_false_iff_eq.mpr c7
   clear c7
   (first | rw [c7b0] | (simp only [i64_w, i32_w]; rw [c7b0]) | skip)
   have H' := Aside0.mk H
   clear H
   go_wp2
   go_meet
   case rel => exact ⟨_, (true), S.eA, H', S.le, ⟨S.bA⟩⟩
  ·rw [if_neg c7] at H
   have c7b0 : (t204 == 0) = false := beq_eq_false_iff_ne.mpr c7
   have c7b1 : (t204 != 0) = true := bne_iff_ne.mpr c7
   (first | rw [c7b0] | (simp only [i64_w, i32_w]; rw [c7b0]) | skip)
   replace H := S.bd H; obtain ⟨t205, A8, H⟩ := H
   (try dsimp only at H)
   have H' := Aside0.mk H
   clear H
   go_wp2_with (first | (go_at_call 62; (with_reducible refine (impl_InRange.calls a2 0 1000000 t205 _ A8.out).mono ?_); rintro e w' ⟨rfl, ⟨nd, rfl⟩⟩))
   go_meet
   case rel => exact ⟨_, (!t205), S.eA, H', S.le, ⟨S.bA⟩⟩
 case rest =>
  clear HC5
  try clear c1
  obtain ⟨kq, x20_4, rfl, HA, HJ4, HB⟩ := hcut
  cases kq with
  | zero => exact absurd HA.out (by simp [impl_PartAt.j0])
  | succ kj4 =>
   have H := HA.out
   clear HA
   simp only [impl_PartAt.j0] at H
   replace H := S.db H; rcases H with ⟨rfl, H⟩ | ⟨rfl, H⟩
   ·simp only [Option.some.injEq, Prod.mk.injEq] at H
    obtain ⟨rfl, rfl⟩ := H
    go_wp2
    go_ret2
    exact ⟨S.eW, S.bA⟩
   ·by_cases c10 : t204 = 0
    ·rw [if_pos c10] at H
     exact absurd H (by simp)
    ·rw [if_neg c10] at H
     have c10b0 : (t204 == 0) = false := beq_eq_false_iff_ne.mpr c10
     have c10b1 : (t204 != 0) = true := bne_iff_ne.mpr c10
     have H' := Aside0.mk H
     clear H
     go_wp2
     go_loopg [9, 10] kj4 (fun kq v9 v10 w' => ∃ (x9_2 : Int) (x10_2 : Int), v9 = .int .i64 x9_2 ∧ v10 = .int .i64 x10_2 ∧ Aside0 (impl_PartAt.l0 kq l0 l1 x9_2 x10_2 = some (r1, r2)) ∧ Aside0 (kq ≤ kj4) ∧ Aside0 (Below w.heap.size w w'))
     case atStart => exact ⟨(Int.tmod a2 t204), (0), S.eA, S.eA, H', ⟨Nat.le_refl _⟩, ⟨S.bA⟩⟩
     case round =>
      clear H'
      try clear c1
      try clear c9
      try clear c10
      try clear c10b0
      try clear c10b1
      obtain ⟨x9_2, x10_2, rfl, rfl, HA, HK2, HB⟩ := hrel
      cases gk with
      | zero => exact absurd HA.out (by simp [impl_PartAt.l0])
      | succ k2 =>
       have H := HA.out
       clear HA
       simp only [impl_PartAt.l0] at H
       replace H := S.bd H; obtain ⟨t206, A11, H⟩ := H
       (try dsimp only at H)
       by_cases c12 : x9_2 ≥ t206
       ·rw [if_pos c12] at H
        have c12b0 : decide (t206 ≤ x9_2) = true := decide_eq_true c12
        clear c12
        replace H := S.bd H; obtain ⟨t207, A13, H⟩ := H
        (try dsimp only at H)
        have H' := Aside0.mk H
        clear H
        go_wp2_with (first | ((with_reducible refine gate_callee (f := 81) rfl ?_); refine S.gL (some 28) Try.func81 #[.slice A0 l0.length c0, .slice A1 l1.length c1, .int .i64 x10_2] ?_; (with_reducible refine (impl_longOf.calls k2 _ _ l0 _ _ l1 x10_2 t206 _ ?s1 HC0.out ?s3 HC1.out A11.out).mono ?_); (case s1 => exact S.cA HR0.out); (case s3 => exact S.cA HR1.out); rintro e w14 ⟨rfl, hb⟩; refine ⟨_, rfl, ?_⟩; replace HB := S.sA hb; (try clear hb)) | ((with_reducible refine gate_callee (f := 81) rfl ?_); refine S.gL (some 34) Try.func81 #[.slice A0 l0.length c0, .slice A1 l1.length c1, .int .i64 x10_2] ?_; (with_reducible refine (impl_longOf.calls k2 _ _ l0 _ _ l1 x10_2 t207 _ ?s1 HC0.out ?s3 HC1.out A13.out).mono ?_); (case s1 => exact S.cA HR0.out); (case s3 => exact S.cA HR1.out); rintro e w15 ⟨rfl, hb⟩; refine ⟨_, rfl, ?_⟩; replace HB := S.sA hb; (try clear hb)))
        go_roundg k2
        case measure => have := HJ4.out; have := HK2.out; omega
        case rel => exact ⟨(wrap64 (x9_2 - t207)), (wrap64 (x10_2 + 1)), S.eA, S.eA, H', ⟨by have := HJ4.out; have := HK2.out; omega⟩, ⟨S.bA⟩⟩
       ·rw [if_neg c12] at H
        have c12b0 : decide (t206 ≤ x9_2) = false := decide_eq_false c12
        clear c12
        simp only [Option.some.injEq, Prod.mk.injEq] at H
        obtain ⟨rfl, rfl⟩ := H
        go_wp2_with (first | ((with_reducible refine gate_callee (f := 81) rfl ?_); refine S.gL (some 28) Try.func81 #[.slice A0 l0.length c0, .slice A1 l1.length c1, .int .i64 x10_2] ?_; (with_reducible refine (impl_longOf.calls k2 _ _ l0 _ _ l1 x10_2 t206 _ ?s1 HC0.out ?s3 HC1.out A11.out).mono ?_); (case s1 => exact S.cA HR0.out); (case s3 => exact S.cA HR1.out); rintro e w16 ⟨rfl, hb⟩; refine ⟨_, rfl, ?_⟩; replace HB := S.sA hb; (try clear hb)))
        go_ret2
        exact ⟨S.eW, S.bA⟩
/-! ### impl_shown: function 84 -/
mutual
def impl_shown.j0 : Nat → List (S85) → Int → Int → Bool → Int → Int → Int → Int → Option (Int)
 | 0, _, _, _, _, _, _, _, _ => none
 | k + 1, x1, x9, x10, x30, x209000, x209001, x209002, x209003 => if x30 = true then (some 0) else (if 0 ≤ x9 then (if x9 < (x1.length : Int) then (if x10 < ((rd_T85 x1 x9).f1) then (impl_shown.j1 k x1 x9 x10 true x209000 x209001 x209002 x209003) else ((impl_nextStage.f x1 x9).bind fun t214 => ((slices_Contains_int_int.f k t214 x209000).bind fun t217 => (impl_shown.j1 k x1 x9 x10 t217 x209000 x209001 x209002 x209003)))) else (none)) else (none))
def impl_shown.j1 : Nat → List (S85) → Int → Int → Bool → Int → Int → Int → Int → Option (Int)
 | 0, _, _, _, _, _, _, _, _ => none
 | k + 1, x1, x9, x10, x31, x209000, x209001, x209002, x209003 => if x31 = true then (some 1) else (if 0 ≤ x9 then (if x9 < (x1.length : Int) then ((impl_ClearOf.f x209000 x209001 x209002 x209003).bind fun t219 => (if x10 < (wrap64 (((rd_T85 x1 x9).f1) + t219)) then (some 2) else (some 0))) else (none)) else (none))
end
def impl_shown.f (k : Nat) (l0 : List (S71)) (l1 : List (S85)) (a2 : Int) (a3_0 : Int) (a3_1 : Int) (a3_2 : Int) (a3_3 : Int) : Option (Int) := (impl_PartAt.f k l0 l1 a2).bind fun bt209 => (if bt209.1 < 0 then (impl_shown.j0 k l1 bt209.1 bt209.2 true a3_0 a3_1 a3_2 a3_3) else (if 0 ≤ bt209.1 then (if bt209.1 < (l1.length : Int) then ((slices_Contains_int_int.f k ((rd_T85 l1 bt209.1).f0) a3_0).bind fun t212 => (impl_shown.j0 k l1 bt209.1 bt209.2 (!t212) a3_0 a3_1 a3_2 a3_3)) else (none)) else (none)))
def impl_shown.T2 : Bool × List (List Nat × List Nat) := (true, [([], []), ([0], [0]), ([1], [1]), ([2], [2]), ([2], [2]), ([3, 4, 2], [2, 3, 4]), ([5, 2], [2, 5]), ([6, 2], [2, 6]), ([2], [2]), ([8, 2], [2, 8]), ([7, 9, 2, 2], [2, 7, 9]), ([10, 2], [2, 10]), ([2, 11], [2, 11])])
def impl_shown.B2 : List Nat := [0, 1, 3, 7, 7, 31, 63, 127, 7, 263, 1023, 2047, 4095]
theorem impl_shown.tab2 : rtab .any (opsOf Try.f84 2) = impl_shown.T2 := by kernel_rfl
theorem impl_shown.bits2 : waitsOk impl_shown.T2.2 impl_shown.B2 = true := by kernel_rfl
def impl_shown.T4 : Bool × List (List Nat × List Nat) := (true, [([], []), ([], []), ([], []), ([1, 2], [1, 2]), ([3], [3]), ([4], [4]), ([0, 5], [0, 5]), ([6], [6]), ([7], [7]), ([7], [7]), ([8, 9, 7, 7], [7, 8, 9]), ([7], [7]), ([11, 7], [7, 11]), ([10, 12, 10, 7], [7, 10, 12]), ([7, 13], [7, 13]), ([14, 13], [14])])
def impl_shown.B4 : List Nat := [0, 0, 0, 6, 14, 30, 63, 127, 255, 255, 1023, 255, 2303, 8191, 16383, 32767]
theorem impl_shown.tab4 : rtab .any (opsOf Try.f84 4) = impl_shown.T4 := by kernel_rfl
theorem impl_shown.bits4 : waitsOk impl_shown.T4.2 impl_shown.B4 = true := by kernel_rfl
def impl_shown.T6 : Bool × List (List Nat × List Nat) := (true, [([], []), ([], []), ([], []), ([1, 2], [1, 2]), ([3], [3]), ([4], [4]), ([], []), ([6], [6]), ([5, 7], [5, 7]), ([0, 8], [0, 8]), ([9, 7], [9])])
def impl_shown.B6 : List Nat := [0, 0, 0, 6, 14, 30, 0, 64, 254, 511, 1023]
theorem impl_shown.tab6 : rtab .any (opsOf Try.f84 6) = impl_shown.T6 := by kernel_rfl
theorem impl_shown.bits6 : waitsOk impl_shown.T6.2 impl_shown.B6 = true := by kernel_rfl
set_option maxHeartbeats 8000000 in
set_option maxRecDepth 100000 in
theorem impl_shown.calls (k : Nat) (A0 : Option Addr) (c0 : Nat) (l0 : List (S71)) (A1 : Option Addr) (c1 : Nat) (l1 : List (S85)) (a2 : Int) (a3_0 : Int) (a3_1 : Int) (a3_2 : Int) (a3_3 : Int) (r : Int) (w : World) (hr0 : Kd.C k71 w A0 l0.length l0) (hc0 : l0.length ≤ c0) (hr1 : Kd.C k85 w A1 l1.length l1) (hc1 : l1.length ≤ c1) (h : impl_shown.f k l0 l1 a2 a3_0 a3_1 a3_2 a3_3 = some r) :
  Calls Try.prog 84 #[.slice A0 l0.length c0, .slice A1 l1.length c1, .int .i64 a2, .agg #[.int .i64 a3_0, .int .i64 a3_1, .int .i64 a3_2, .int .i64 a3_3]] w fun e w' => e = .returned (.int .i64 r) ∧ Below w.heap.size w w' := by
 have hu71 := Try.underlying71
 have HR0 := Aside0.mk hr0
 have HC0 := Aside0.mk hc0
 clear hr0 hc0
 have HR1 := Aside0.mk hr1
 have HC1 := Aside0.mk hc1
 clear hr1 hc1
 have HB := Aside0.mk (Below.refl w.heap.size w)
 have H : ((impl_PartAt.f k l0 l1 a2).bind fun bt209 => (if bt209.1 < 0 then (impl_shown.j0 k l1 bt209.1 bt209.2 true a3_0 a3_1 a3_2 a3_3) else (if 0 ≤ bt209.1 then (if bt209.1 < (l1.length : Int) then ((slices_Contains_int_int.f k ((rd_T85 l1 bt209.1).f0) a3_0).bind fun t212 => (impl_shown.j0 k l1 bt209.1 bt209.2 (!t212) a3_0 a3_1 a3_2 a3_3)) else (none)) else (none)))) = some r := h
 clear h
 replace H := S.bd H; obtain ⟨⟨t209, t210⟩, A5, H⟩ := H
 (try dsimp only at H)
 have HC6 := Aside0.mk H
 clear H
 go_enter Try.func84, Try.ntmps84
 go_upto_region 2 with (first | ((with_reducible refine gate_dst (N := 7) rfl ?_); refine S.bx 7 (cs := #[.int .i64 a3_0, .int .i64 a3_1, .int .i64 a3_2, .int .i64 a3_3]) (t := 71) ?_; intro gb208 hg w7 hbox hb; have BK208 := Aside0.mk hbox; have GW208 := S.geA hg; have GE208 := S.geA hg; replace HB := S.sA hb; clear hb hbox hg) | ((with_reducible refine gate_callee (f := 113) rfl ?_); refine S.gL (some 15) Try.func113 #[.slice A0 l0.length c0, .slice A1 l1.length c1, .int .i64 a2] ?_; (with_reducible refine (impl_PartAt.calls k _ _ l0 _ _ l1 a2 t209 t210 _ ?s1 HC0.out ?s3 HC1.out A5.out).mono ?_); (case s1 => exact S.cA HR0.out); (case s3 => exact S.cA HR1.out); rintro e w8 ⟨rfl, hb⟩; refine ⟨_, rfl, ?_⟩; replace BK208 := S.kb BK208 hb; replace HB := S.sG hb; (try clear hb)))
 (try simp only [Act.put, List.setIfInBounds_toArray, List.set_cons_zero, List.set_cons_succ])
 go_cut [30] (fun v30 wc => ∃ (kq : Nat) (x30_5 : Bool), v30 = .bool x30_5 ∧ Aside0 (impl_shown.j0 kq l1 t209 t210 x30_5 a3_0 a3_1 a3_2 a3_3 = some r) ∧ Aside0 (kq ≤ k) ∧ Aside0 (wc.heap[gb208]? = some (.cells #[.int .i64 a3_0, .int .i64 a3_1, .int .i64 a3_2, .int .i64 a3_3] 71 (0, 0))) ∧ Aside0 (Below w.heap.size w wc))
 case first =>
  have H := HC6.out
  clear HC6
  replace H := S.dc H; rcases H with ⟨H, c9b0⟩ | ⟨H, c9b0⟩
  ·(first | rw [c9b0] | (simp only [i64_w, i32_w]; rw [c9b0]) | skip)
   have H' := Aside0.mk H
   clear H
   try go_wp2
   replace BK208 := Aside0.mk (blk_drew BK208.out)
   replace HB := Aside0.mk (below_drew1 HB.out)
   refine start_ (n := 13) (S := fun w' => True) (ds := []) #[false, false, false, false, false, false, false, false, false, false, false, false, false] (by kernel_rfl) rfl rfl trivial (fun hHeld => ?_); refine with_tabW impl_shown.tab2 impl_shown.bits2 (fun HT_ HW_ => ?_)
   generalize w8.drew = w10 at BK208 HB hHeld ⊢
   refine S.pS 0 18 ?_
   refine S.pS 1 19 ?_
   refine S.pS 2 20 ?_
   refine S.pU 3 21 ?_
   refine S.pU 4 22 ?_
   refine S.pU 5 23 ?_
   refine S.pU 6 24 ?_
   refine S.pU 7 25 ?_
   refine S.pU 8 26 ?_
   refine S.pU 9 27 ?_
   refine S.pU 10 28 ?_
   refine S.pU 11 29 ?_
   refine S.pS 12 30 ?_
   refine done_ (done_of HT_.out (by kernel_rfl)) ?_
   try go_wp2
   go_meet
   case rel => exact ⟨_, (true), S.eA, H', S.le, ⟨S.uB BK208.out⟩, ⟨S.bG⟩⟩
  ·(first | rw [c9b0] | (simp only [i64_w, i32_w]; rw [c9b0]) | skip)
   by_cases c11 : 0 ≤ t209
   ·rw [if_pos c11] at H
    have c11b0 : decide (0 ≤ t209) = true := decide_eq_true c11
    clear c11
    by_cases c12 : t209 < (l1.length : Int)
    ·rw [if_pos c12] at H
     have c12b0 : decide (t209 < (l1.length : Int)) = true := decide_eq_true c12
     clear c12
     replace H := S.bd H; obtain ⟨t212, A13, H⟩ := H
     (try dsimp only at H)
     have H' := Aside0.mk H
     clear H
     try go_wp2
     replace BK208 := Aside0.mk (blk_drew BK208.out)
     replace HB := Aside0.mk (below_drew1 HB.out)
     have p211 : 0 ≤ (t209 : Int) := S.oD
     have q211 : t209 < (l1.length : Int) := S.oD
     obtain ⟨ad211, A211_0, c211_0, e211, hx211_0, hx211_1, hl211_0, hi211_0⟩ := at_T85 HR1.out t209 p211 q211
     have hw211_1 := hx211_1
     have hw211_0 := hx211_0
     cases e211
     replace hx211_0 := S.hb HB hx211_0
     replace hx211_1 := S.hb HB hx211_1
     have HR211_0 := Aside0.mk hi211_0
     have HC211_0 := Aside0.mk hl211_0
     clear hi211_0 hl211_0
     replace p211 := eq_true p211
     replace q211 := eq_true q211
     refine S.st (n := 13) (ds := []) #[false, false, false, false, false, false, false, false, false, false, false, false, false] (fun w_ h_ => have x_ := S.d4 (S.Q h_ BK208.out) (And.intro (S.q h_ (S.hb HB hw211_0)) (S.q h_ (S.hb HB hw211_1))); x_) (fun hHeld => ?_); refine with_tabW impl_shown.tab2 impl_shown.bits2 (fun HT_ HW_ => ?_)
     generalize w8.drew = w14 at BK208 HB HR211_0 hx211_0 hx211_1 hHeld ⊢
     refine S.pS 0 18 ?_
     refine S.pS 1 19 ?_
     refine S.pS 2 20 ?_
     refine S.pS 3 21 ?_
     refine S.pS 4 22 ?_
     refine S.pS 5 23 ?_
     refine S.pS 6 24 ?_
     refine S.pS 8 26 ?_
     refine S.tK 7 25 #[true, true, true, true, true, true, true, true, true, false, false, false, false] ?_
     refine S.tK 9 27 #[true, true, true, true, true, true, true, true, true, true, false, false, false] ?_
     refine S.oN 10 28 #[true, true, true, true, true, true, true, true, true, true, true, false, false] (fun K hK => ?_)
     refine S.go Try.func73 #[.slice A211_0 ((rd_T85 l1 t209).f0).length c211_0, .int .i64 a3_0] ?_
     with_reducible refine (slices_Contains_int_int.calls k _ _ ((rd_T85 l1 t209).f0) a3_0 t212 _ ?s1 ?s2 A13.out).mono ?_
     (case s1 => exact S.cA HR211_0.out)
     (case s2 => exact HC211_0.out)
     rintro e w' ⟨rfl, ⟨nd, rfl⟩⟩
     refine ⟨_, rfl, ?_⟩
     refine hK.out _ _ (S.d4 BK208.out (And.intro ((S.hb HB hw211_0 :)) ((S.hb HB hw211_1 :)))) (fun hHeld => ?_)
     clear hK K
     refine S.nm 28 ?_
     refine S.pS 11 29 ?_
     refine S.pS 12 30 ?_
     refine done_ (done_of HT_.out (by kernel_rfl)) ?_
     try go_wp2
     go_meet
     case rel => exact ⟨_, (!t212), S.eA, H', S.le, ⟨S.uB BK208.out⟩, ⟨S.bG⟩⟩
    ·rw [if_neg c12] at H
     exact absurd H (by simp)
   ·rw [if_neg c11] at H
    exact absurd H (by simp)
 case rest =>
  clear HC6
  try clear c1
  obtain ⟨kq, x30_5, rfl, HA, HJ5, BK208, HB⟩ := hcut
  cases kq with
  | zero => exact absurd HA.out (by simp [impl_shown.j0])
  | succ kj5 =>
   have H := HA.out
   clear HA
   simp only [impl_shown.j0] at H
   replace H := S.db H; rcases H with ⟨rfl, H⟩ | ⟨rfl, H⟩
   ·obtain rfl := Option.some.inj H
    go_wp2
    go_ret
    exact ⟨S.eW, S.bG⟩
   ·have HC16 := Aside0.mk H
    clear H
    go_upto_region 4 with (fail)
    go_cut [31] (fun v31 wc => ∃ (kq : Nat) (x31_15 : Bool), v31 = .bool x31_15 ∧ Aside0 (impl_shown.j1 kq l1 t209 t210 x31_15 a3_0 a3_1 a3_2 a3_3 = some r) ∧ Aside0 (kq ≤ kj5) ∧ Aside0 (wc.heap[gb208]? = some (.cells #[.int .i64 a3_0, .int .i64 a3_1, .int .i64 a3_2, .int .i64 a3_3] 71 (0, 0))) ∧ Aside0 (Below w.heap.size w wc))
    case first =>
     have H := HC16.out
     clear HC16
     by_cases c17 : 0 ≤ t209
     ·rw [if_pos c17] at H
      have c17b0 : decide (0 ≤ t209) = true := decide_eq_true c17
      clear c17
      (first | rw [c17b0] | (simp only [i64_w, i32_w]; rw [c17b0]) | skip)
      by_cases c18 : t209 < (l1.length : Int)
      ·rw [if_pos c18] at H
       have c18b0 : decide (t209 < (l1.length : Int)) = true := decide_eq_true c18
       clear c18
       replace H := S.dc H; rcases H with ⟨H, c19b0⟩ | ⟨H, c19b0⟩
       ·have H' := Aside0.mk H
        clear H
        try go_wp2
        replace BK208 := Aside0.mk (blk_drew BK208.out)
        replace HB := Aside0.mk (below_drew1 HB.out)
        have p213 : 0 ≤ (t209 : Int) := S.oD
        have q213 : t209 < (l1.length : Int) := S.oD
        obtain ⟨ad213, A213_0, c213_0, e213, hx213_0, hx213_1, hl213_0, hi213_0⟩ := at_T85 HR1.out t209 p213 q213
        have hw213_1 := hx213_1
        have hw213_0 := hx213_0
        cases e213
        replace hx213_0 := S.hb HB hx213_0
        replace hx213_1 := S.hb HB hx213_1
        have HR213_0 := Aside0.mk hi213_0
        have HC213_0 := Aside0.mk hl213_0
        clear hi213_0 hl213_0
        replace p213 := eq_true p213
        replace q213 := eq_true q213
        refine S.st (n := 16) (ds := []) #[false, false, false, false, false, false, false, false, false, false, false, false, false, false, false, false] (fun w_ h_ => have x_ := And.intro (S.q h_ (S.hb HB hw213_0)) (S.q h_ (S.hb HB hw213_1)); x_) (fun hHeld => ?_); refine with_tabW impl_shown.tab4 impl_shown.bits4 (fun HT_ HW_ => ?_)
        generalize wc.drew = w20 at BK208 HB HR213_0 hx213_0 hx213_1 hHeld ⊢
        refine S.pS 0 32 ?_
        refine S.pS 1 33 ?_
        refine S.pS 2 34 ?_
        refine S.pS 3 35 ?_
        refine S.pS 4 36 ?_
        refine S.tK 5 37 #[true, true, true, true, true, true, false, false, false, false, false, false, false, false, false, false] ?_
        refine S.pS 6 38 ?_
        refine S.pS 7 39 ?_
        refine S.pU 8 40 ?_
        refine S.pU 9 41 ?_
        refine S.pU 10 42 ?_
        refine S.pU 11 43 ?_
        refine S.pU 12 44 ?_
        refine S.pU 13 45 ?_
        refine S.pS 14 46 ?_
        refine S.pS 15 31 ?_
        refine done_ (done_of HT_.out (by kernel_rfl)) ?_
        try go_wp2
        go_meet
        case rel => exact ⟨_, (true), S.eA, H', ⟨by have := HJ5.out; first | omega | exact Nat.le_refl _⟩, ⟨S.uB BK208.out⟩, ⟨S.bG⟩⟩
       ·replace H := Option.bind_eq_some_iff.mp H
        obtain ⟨t214, A210, H⟩ := H
        replace H : ((slices_Contains_int_int.f kj5 t214 a3_0).bind fun t217 => (impl_shown.j1 kj5 l1 t209 t210 t217 a3_0 a3_1 a3_2 a3_3)) = some r := H
        have A21 := Aside0.mk A210
        clear A210
        replace H := S.bd H; obtain ⟨t217, A22, H⟩ := H
        (try dsimp only at H)
        have H' := Aside0.mk H
        clear H
        try go_wp2
        replace BK208 := Aside0.mk (blk_drew BK208.out)
        replace HB := Aside0.mk (below_drew1 HB.out)
        have p213 : 0 ≤ (t209 : Int) := S.oD
        have q213 : t209 < (l1.length : Int) := S.oD
        obtain ⟨ad213, A213_0, c213_0, e213, hx213_0, hx213_1, hl213_0, hi213_0⟩ := at_T85 HR1.out t209 p213 q213
        have hw213_1 := hx213_1
        have hw213_0 := hx213_0
        cases e213
        replace hx213_0 := S.hb HB hx213_0
        replace hx213_1 := S.hb HB hx213_1
        have HR213_0 := Aside0.mk hi213_0
        have HC213_0 := Aside0.mk hl213_0
        clear hi213_0 hl213_0
        replace p213 := eq_true p213
        replace q213 := eq_true q213
        refine S.st (n := 16) (ds := []) #[false, false, false, false, false, false, false, false, false, false, false, false, false, false, false, false] (fun w_ h_ => have x_ := S.d4 (S.Q h_ BK208.out) (And.intro (S.q h_ (S.hb HB hw213_0)) (S.q h_ (S.hb HB hw213_1))); x_) (fun hHeld => ?_); refine with_tabW impl_shown.tab4 impl_shown.bits4 (fun HT_ HW_ => ?_)
        generalize wc.drew = w23 at BK208 HB HR213_0 hx213_0 hx213_1 hHeld ⊢
        refine S.pS 0 32 ?_
        refine S.pS 1 33 ?_
        refine S.pS 2 34 ?_
        refine S.pS 3 35 ?_
        refine S.pS 4 36 ?_
        refine S.tK 5 37 #[true, true, true, true, true, true, false, false, false, false, false, false, false, false, false, false] ?_
        refine S.pS 6 38 ?_
        refine S.pS 7 39 ?_
        refine S.pS 8 40 ?_
        refine S.pS 9 41 ?_
        refine S.pS 11 43 ?_
        refine S.tK 12 44 #[true, true, true, true, true, true, true, true, true, true, false, true, true, false, false, false] ?_
        refine S.oN 10 42 #[true, true, true, true, true, true, true, true, true, true, true, true, true, false, false, false] (fun K hK => ?_)
        refine S.go Try.func110 #[.slice (some ad213) l1.length c1, .int .i64 t209] ?_
        with_reducible refine (impl_nextStage.calls (fun k_ => k_ < w.heap.size) _ _ l1 t209 t214 _ ?s1 A21.out).mono ?_
        (case s1 => exact Kd.V_mk HC1.out (Kd.F_below (Kd.C_F k85_heap HR1.out) S.bG))
        rintro e w24 ⟨v215, rfl, ho0, hb⟩
        refine ⟨_, rfl, ?_⟩
        have HO216 := Aside0.mk (Kd.V_lower (Kd.V_mono (ok' := fun k_ => k_ ≠ gb208) ho0 (fun k_ hk_ => Or.elim hk_ (fun hs_ => fun e_ => Nat.not_le.2 hs_ (by rw [e_]; exact GW208.out)) (fun hn_ => (Kd.freshB (g := gb208) (o := .cells #[.int .i64 a3_0, .int .i64 a3_1, .int .i64 a3_2, .int .i64 a3_3] 71 (0, 0)) (S.uB BK208.out) k_ hn_)))) (below_size S.bG))
        replace BK208 := S.kb BK208 hb
        replace HB := S.sG hb
        (try clear hb)
        (try clear hb2)
        (try clear hk)
        (try clear hi)
        (try clear ho0)
        obtain ⟨Ao25, co25, eo25⟩ := Kd.V_slice HO216.out
        (first | subst eo25 | (injection eo25 with f1_ f2_ f3_; have f4_ := f1_.symm; have f5_ := f3_.symm; clear f1_ f2_ f3_; subst f4_; subst f5_))
        refine hK.out _ _ (S.d4 BK208.out (And.intro ((S.hb HB hw213_0 :)) ((S.hb HB hw213_1 :)))) (fun hHeld => ?_)
        clear hK K
        refine S.nm 42 ?_
        refine S.oN 13 45 #[true, true, true, true, true, true, true, true, true, true, true, true, true, true, false, false] (fun K hK => ?_)
        refine S.go Try.func73 #[.slice Ao25 t214.length co25, .int .i64 a3_0] ?_
        with_reducible refine (slices_Contains_int_int.calls kj5 _ _ t214 a3_0 t217 _ ?s1 ?s2 A22.out).mono ?_
        (case s1 => repeat (first | exact (Kd.V_reads' HO216.out).2.2 | (with_reducible refine Kd.C_alloc ?_ _) | (with_reducible refine Kd.C_drewN ?_ _) | (with_reducible refine Kd.C_drew ?_)))
        (case s2 => exact (Kd.V_reads' HO216.out).2.1)
        rintro e w' ⟨rfl, ⟨nd, rfl⟩⟩
        refine ⟨_, rfl, ?_⟩
        refine hK.out _ _ (S.d4 BK208.out (And.intro ((S.hb HB hw213_0 :)) ((S.hb HB hw213_1 :)))) (fun hHeld => ?_)
        clear hK K
        refine S.nm 45 ?_
        refine S.pS 14 46 ?_
        refine S.pS 15 31 ?_
        refine done_ (done_of HT_.out (by kernel_rfl)) ?_
        try go_wp2
        go_meet
        case rel => exact ⟨_, (t217), S.eA, H', ⟨by have := HJ5.out; first | omega | exact Nat.le_refl _⟩, ⟨S.uB BK208.out⟩, ⟨S.bG⟩⟩
      ·rw [if_neg c18] at H
       exact absurd H (by simp)
     ·rw [if_neg c17] at H
      exact absurd H (by simp)
    case rest =>
     clear HC16
     try clear c1
     try clear c15
     obtain ⟨kq, x31_15, rfl, HA, HJ15, BK208, HB⟩ := hcut
     cases kq with
     | zero => exact absurd HA.out (by simp [impl_shown.j1])
     | succ kj15 =>
      have H := HA.out
      clear HA
      simp only [impl_shown.j1] at H
      replace H := S.db H; rcases H with ⟨rfl, H⟩ | ⟨rfl, H⟩
      ·obtain rfl := Option.some.inj H
       go_wp2
       go_ret
       exact ⟨S.eW, S.bG⟩
      ·by_cases c27 : 0 ≤ t209
       ·rw [if_pos c27] at H
        have c27b0 : decide (0 ≤ t209) = true := decide_eq_true c27
        clear c27
        by_cases c28 : t209 < (l1.length : Int)
        ·rw [if_pos c28] at H
         have c28b0 : decide (t209 < (l1.length : Int)) = true := decide_eq_true c28
         clear c28
         replace H := S.bd H; obtain ⟨t219, A29, H⟩ := H
         (try dsimp only at H)
         replace H := S.dc H; rcases H with ⟨H, c30b0⟩ | ⟨H, c30b0⟩
         ·obtain rfl := Option.some.inj H
          try go_wp2
          replace BK208 := Aside0.mk (blk_drew BK208.out)
          replace HB := Aside0.mk (below_drew1 HB.out)
          have p218 : 0 ≤ (t209 : Int) := S.oD
          have q218 : t209 < (l1.length : Int) := S.oD
          obtain ⟨ad218, A218_0, c218_0, e218, hx218_0, hx218_1, hl218_0, hi218_0⟩ := at_T85 HR1.out t209 p218 q218
          have hw218_1 := hx218_1
          have hw218_0 := hx218_0
          cases e218
          replace hx218_0 := S.hb HB hx218_0
          replace hx218_1 := S.hb HB hx218_1
          have HR218_0 := Aside0.mk hi218_0
          have HC218_0 := Aside0.mk hl218_0
          clear hi218_0 hl218_0
          replace p218 := eq_true p218
          replace q218 := eq_true q218
          refine S.st (n := 11) (ds := []) #[false, false, false, false, false, false, false, false, false, false, false] (fun w_ h_ => have x_ := S.d4 (S.Q h_ BK208.out) (And.intro (S.q h_ (S.hb HB hw218_0)) (S.q h_ (S.hb HB hw218_1))); x_) (fun hHeld => ?_); refine with_tabW impl_shown.tab6 impl_shown.bits6 (fun HT_ HW_ => ?_)
          generalize wc.drew = w31 at BK208 HB HR218_0 hx218_0 hx218_1 hHeld ⊢
          refine S.pS 0 48 ?_
          refine S.pS 1 49 ?_
          refine S.pS 2 50 ?_
          refine S.pS 3 51 ?_
          refine S.pS 4 52 ?_
          refine S.tK 5 53 #[true, true, true, true, true, true, false, false, false, false, false] ?_
          refine S.tK 6 54 #[true, true, true, true, true, true, true, false, false, false, false] ?_
          refine S.oN 7 55 #[true, true, true, true, true, true, true, true, false, false, false] (fun K hK => ?_)
          refine S.go Try.func114 #[.agg #[.int .i64 a3_0, .int .i64 a3_1, .int .i64 a3_2, .int .i64 a3_3]] ?_
          with_reducible refine (impl_ClearOf.calls a3_0 a3_1 a3_2 a3_3 t219 _ A29.out).mono ?_
          rintro e w32 ⟨rfl, hb⟩
          refine ⟨_, rfl, ?_⟩
          replace BK208 := S.kb BK208 hb
          replace HB := S.sG hb
          (try clear hb)
          (try clear hb2)
          (try clear hk)
          (try clear hi)
          refine hK.out _ _ (S.d4 BK208.out (And.intro ((S.hb HB hw218_0 :)) ((S.hb HB hw218_1 :)))) (fun hHeld => ?_)
          clear hK K
          refine S.nm 55 ?_
          refine S.pS 8 56 ?_
          refine S.pS 9 57 ?_
          refine S.pS 10 47 ?_
          refine done_ (done_of HT_.out (by kernel_rfl)) ?_
          try go_wp2
          go_ret
          exact ⟨S.eW, S.bG⟩
         ·obtain rfl := Option.some.inj H
          try go_wp2
          replace BK208 := Aside0.mk (blk_drew BK208.out)
          replace HB := Aside0.mk (below_drew1 HB.out)
          have p218 : 0 ≤ (t209 : Int) := S.oD
          have q218 : t209 < (l1.length : Int) := S.oD
          obtain ⟨ad218, A218_0, c218_0, e218, hx218_0, hx218_1, hl218_0, hi218_0⟩ := at_T85 HR1.out t209 p218 q218
          have hw218_1 := hx218_1
          have hw218_0 := hx218_0
          cases e218
          replace hx218_0 := S.hb HB hx218_0
          replace hx218_1 := S.hb HB hx218_1
          have HR218_0 := Aside0.mk hi218_0
          have HC218_0 := Aside0.mk hl218_0
          clear hi218_0 hl218_0
          replace p218 := eq_true p218
          replace q218 := eq_true q218
          refine S.st (n := 11) (ds := []) #[false, false, false, false, false, false, false, false, false, false, false] (fun w_ h_ => have x_ := S.d4 (S.Q h_ BK208.out) (And.intro (S.q h_ (S.hb HB hw218_0)) (S.q h_ (S.hb HB hw218_1))); x_) (fun hHeld => ?_); refine with_tabW impl_shown.tab6 impl_shown.bits6 (fun HT_ HW_ => ?_)
          generalize wc.drew = w33 at BK208 HB HR218_0 hx218_0 hx218_1 hHeld ⊢
          refine S.pS 0 48 ?_
          refine S.pS 1 49 ?_
          refine S.pS 2 50 ?_
          refine S.pS 3 51 ?_
          refine S.pS 4 52 ?_
          refine S.tK 5 53 #[true, true, true, true, true, true, false, false, false, false, false] ?_
          refine S.tK 6 54 #[true, true, true, true, true, true, true, false, false, false, false] ?_
          refine S.oN 7 55 #[true, true, true, true, true, true, true, true, false, false, false] (fun K hK => ?_)
          refine S.go Try.func114 #[.agg #[.int .i64 a3_0, .int .i64 a3_1, .int .i64 a3_2, .int .i64 a3_3]] ?_
          with_reducible refine (impl_ClearOf.calls a3_0 a3_1 a3_2 a3_3 t219 _ A29.out).mono ?_
          rintro e w34 ⟨rfl, hb⟩
          refine ⟨_, rfl, ?_⟩
          replace BK208 := S.kb BK208 hb
          replace HB := S.sG hb
          (try clear hb)
          (try clear hb2)
          (try clear hk)
          (try clear hi)
          refine hK.out _ _ (S.d4 BK208.out (And.intro ((S.hb HB hw218_0 :)) ((S.hb HB hw218_1 :)))) (fun hHeld => ?_)
          clear hK K
          refine S.nm 55 ?_
          refine S.pS 8 56 ?_
          refine S.pS 9 57 ?_
          refine S.pS 10 47 ?_
          refine done_ (done_of HT_.out (by kernel_rfl)) ?_
          try go_wp2
          go_ret
          exact ⟨S.eW, S.bG⟩
        ·rw [if_neg c28] at H
         exact absurd H (by simp)
       ·rw [if_neg c27] at H
        exact absurd H (by simp)
end Go.Proofs.Ytjgigmghcfdomaa.PFnWaves
