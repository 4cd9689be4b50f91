/- Printed by a program: what the Go functions compute, as plain Lean functions (.f), and the proofs that the machine's calls come to just that (.calls). -/
import Derived.Test.YtjgigmghcfdomaaPFnExactMakeSwitchx0
import Derived.Test.YtjgigmghcfdomaaPFnExactMakeSwitchx3
import Derived.Test.YtjgigmghcfdomaaPFnExactMakeSwitchx5
import Derived.Test.YtjgigmghcfdomaaPFnExactMakeSwitchx6
namespace Go.Proofs.Ytjgigmghcfdomaa.PFnExactMakeSwitch
open Go.RowKit Go.Proofs.YtjgigmghcfdomaaW.PrintWords Go.Proofs.YtjgigmghcfdomaaW.PrintLast Go.Proofs.YtjgigmghcfdomaaW.PrintMore
attribute [local go_sem] max2_int min2_int max_two min_two max_three min_three max_four min_four   -- for this text's walks alone
set_option linter.unusedVariables false
set_option linter.unusedSimpArgs false

/-! ### spec_IsTogether: function 99 -/
mutual
def spec_IsTogether.l0 : Nat → List (S71) → List Int → Int → Option (Bool)
 | 0, _, _, _ => none
 | k + 1, x0, x1, x5 => if x5 < (x1.length : Int) then (if 0 ≤ x5 then ((spec_FindPath.f k x0 (rd x1 x5)).bind fun t187 => (if t187 < 0 then (spec_IsTogether.j1 k x0 x1 x5 t187 true) else (if x5 > 0 then (if 0 ≤ (wrap64 (x5 - 1)) then (if (wrap64 (x5 - 1)) < (x1.length : Int) then (spec_IsTogether.j1 k x0 x1 x5 t187 (decide ((rd x1 (wrap64 (x5 - 1))) ≥ (rd x1 x5)))) else (none)) else (none)) else (spec_IsTogether.j1 k x0 x1 x5 t187 false)))) else (none)) else ((spec_ArePaths.f k x0).bind fun t185 => (some t185))
def spec_IsTogether.j1 : Nat → List (S71) → List Int → Int → Int → Bool → Option (Bool)
 | 0, _, _, _, _, _ => none
 | k + 1, x0, x1, x5, x6, x37 => if x37 = true then (some false) else (spec_IsTogether.l1 k x0 x1 x5 x6 0)
def spec_IsTogether.l1 : Nat → List (S71) → List Int → Int → Int → Int → Option (Bool)
 | 0, _, _, _, _, _ => none
 | k + 1, x0, x1, x5, x6, x7 => if x7 < x5 then (if 0 ≤ x6 then (if x6 < (x0.length : Int) then (if 0 ≤ x7 then (if x7 < (x1.length : Int) then ((spec_FindPath.f k x0 (rd x1 x7)).bind fun t192 => (if 0 ≤ t192 then (if t192 < (x0.length : Int) then ((spec_Conflict.f k ((rd_T71 x0 x6).f0) ((rd_T71 x0 x6).f1) ((rd_T71 x0 x6).f2) ((rd_T71 x0 x6).f3) ((rd_T71 x0 t192).f0) ((rd_T71 x0 t192).f1) ((rd_T71 x0 t192).f2) ((rd_T71 x0 t192).f3)).bind fun t194 => (if t194 = true then (some false) else (spec_IsTogether.l1 k x0 x1 x5 x6 (wrap64 (x7 + 1))))) else (none)) else (none))) else (none)) else (none)) else (none)) else (none)) else (spec_IsTogether.l0 k x0 x1 (wrap64 (x5 + 1)))
end
def spec_IsTogether.f (k : Nat) (l0 : List (S71)) (l1 : List Int) : Option (Bool) := spec_IsTogether.l0 k l0 l1 0
def spec_IsTogether.T5 : Bool × List (List Nat × List Nat) := (true, [([], []), ([0], [0]), ([1], [1]), ([2], [2]), ([3, 2], [2, 3]), ([4, 2, 2], [2, 4]), ([5], [5]), ([5], [5]), ([7, 5], [5, 7]), ([6, 8, 5], [5, 6, 8]), ([9, 5], [5, 9]), ([5], [5]), ([5], [5]), ([11, 12, 5], [5, 11, 12]), ([13, 5], [5, 13]), ([10, 14, 5], [5, 10, 14]), ([5, 15, 2], [2, 5, 15]), ([2, 16], [2, 16])])
def spec_IsTogether.B5 : List Nat := [0, 1, 3, 7, 15, 31, 63, 63, 191, 511, 1023, 63, 63, 6207, 14399, 32767, 65535, 131071]
theorem spec_IsTogether.tab5 : rtab .any (opsOf Try.f99 5) = spec_IsTogether.T5 := by kernel_rfl
theorem spec_IsTogether.bits5 : waitsOk spec_IsTogether.T5.2 spec_IsTogether.B5 = true := by kernel_rfl
def spec_IsTogether.T10 : Bool × List (List Nat × List Nat) := (true, [([], []), ([], []), ([0, 1], [0, 1]), ([2], [2]), ([], []), ([], []), ([], []), ([], []), ([6, 7], [6, 7]), ([8], [8]), ([5, 9], [5, 9]), ([4, 10], [4, 10]), ([11], [11]), ([3, 12, 10], [3, 12])])
def spec_IsTogether.B10 : List Nat := [0, 0, 3, 7, 0, 0, 0, 0, 192, 448, 992, 2032, 4080, 8191]
theorem spec_IsTogether.tab10 : rtab .any (opsOf Try.f99 10) = spec_IsTogether.T10 := by kernel_rfl
theorem spec_IsTogether.bits10 : waitsOk spec_IsTogether.T10.2 spec_IsTogether.B10 = true := by kernel_rfl
set_option maxHeartbeats 8000000 in
set_option maxRecDepth 100000 in
theorem spec_IsTogether.calls (k : Nat) (A0 : Option Addr) (c0 : Nat) (l0 : List (S71)) (A1 : Option Addr) (c1 : Nat) (l1 : List Int) (r : Bool) (w : World) (hr0 : Kd.C k71 w A0 l0.length l0) (hc0 : l0.length ≤ c0) (hr1 : Kd.C (Kd.int .i64) w A1 l1.length l1) (hc1 : l1.length ≤ c1) (h : spec_IsTogether.f k l0 l1 = some r) :
  Calls Try.prog 99 #[.slice A0 l0.length c0, .slice A1 l1.length c1] w fun e w' => e = .returned (.bool r) ∧ Below w.heap.size w w' := by
 have hu71 := Try.underlying71
 have HR0 := Aside0.mk hr0
 have HC0 := Aside0.mk hc0
 clear hr0 hc0
 have HR1 := Aside0.mk hr1
 have HC1 := Aside0.mk hc1
 clear hr1 hc1
 have HB := Aside0.mk (Below.refl w.heap.size w)
 have H : (spec_IsTogether.l0 k l0 l1 0) = some r := h
 clear h
 have H' := Aside0.mk H
 clear H
 go_enter Try.func99, Try.ntmps99
 go_wp2
 go_loopg [5] k (fun kq v5 w' => ∃ (x5_1 : Int), v5 = .int .i64 x5_1 ∧ Aside0 (spec_IsTogether.l0 kq l0 l1 x5_1 = some r) ∧ Aside0 (kq ≤ k) ∧ Aside0 (Below w.heap.size w w'))
 case atStart => exact ⟨(0), S.eA, H', ⟨Nat.le_refl _⟩, ⟨S.bA⟩⟩
 case round =>
  clear H'
  try clear c1
  obtain ⟨x5_1, rfl, HA, HK1, HB⟩ := hrel
  cases gk with
  | zero => exact absurd HA.out (by simp [spec_IsTogether.l0])
  | succ k1 =>
   have H := HA.out
   clear HA
   simp only [spec_IsTogether.l0] at H
   replace H := S.dc H; rcases H with ⟨H, c3b0⟩ | ⟨H, c3b0⟩
   ·by_cases c4 : 0 ≤ x5_1
    ·rw [if_pos c4] at H
     have c4b0 : decide (0 ≤ x5_1) = true := decide_eq_true c4
     clear c4
     replace H := S.bd H; obtain ⟨t187, A5, H⟩ := H
     (try dsimp only at H)
     have HC6 := Aside0.mk H
     clear H
     have p186 : 0 ≤ (x5_1 : Int) := S.oD
     have q186 : x5_1 < (l1.length : Int) := S.oD
     obtain ⟨ad186, e186, hx186_0⟩ := Kd.at_int HR1.out x5_1 p186 q186
     cases e186
     replace hx186_0 := S.hb HB hx186_0
     replace p186 := eq_true p186
     replace q186 := eq_true q186
     go_upto_region 5 with (first | ((with_reducible refine gate_callee (f := 96) rfl ?_); refine S.gL (some 19) Try.func96 #[.slice A0 l0.length c0, .int .i64 (rd l1 x5_1)] ?_; (with_reducible refine (spec_FindPath.calls k1 _ _ l0 (rd l1 x5_1) t187 _ ?s1 HC0.out A5.out).mono ?_); (case s1 => exact S.cA HR0.out); rintro e w' ⟨rfl, ⟨nd, rfl⟩⟩; refine ⟨_, rfl, ?_⟩))
     have nB_ := Aside0.mk (pw_below_drewN HB.out nd)
     clear HB
     have HB := nB_
     clear nB_
     generalize wr.drewN nd = wq at HB ⊢
     (try simp only [Act.put, List.setIfInBounds_toArray, List.set_cons_zero, List.set_cons_succ])
     go_cut [37] (fun v37 wc => ∃ (kq : Nat) (x37_5 : Bool), v37 = .bool x37_5 ∧ Aside0 (spec_IsTogether.j1 kq l0 l1 x5_1 t187 x37_5 = some r) ∧ Aside0 (kq ≤ k1) ∧ Aside0 (Below w.heap.size w wc))
     case first =>
      have H := HC6.out
      clear HC6
      replace H := S.dc H; rcases H with ⟨H, c7b0⟩ | ⟨H, c7b0⟩
      ·(first | rw [c7b0] | (simp only [i64_w, i32_w]; rw [c7b0]) | skip)
       have H' := Aside0.mk H
       clear H
       try go_wp2
       replace HB := Aside0.mk (below_drew1 HB.out)
       refine start_ (n := 18) (S := fun w' => True) (ds := []) #[false, false, false, false, false, false, false, false, false, false, false, false, false, false, false, false, false, false] (by kernel_rfl) rfl rfl trivial (fun hHeld => ?_); refine with_tabW spec_IsTogether.tab5 spec_IsTogether.bits5 (fun HT_ HW_ => ?_)
       generalize wq.drew = w8 at HB hHeld ⊢
       refine S.pS 0 20 ?_
       refine S.pS 1 21 ?_
       refine S.pS 2 22 ?_
       refine S.pU 3 23 ?_
       refine S.pU 4 24 ?_
       refine S.pU 5 25 ?_
       refine S.pU 6 26 ?_
       refine S.pU 7 27 ?_
       refine S.pU 8 28 ?_
       refine S.pU 9 29 ?_
       refine S.pU 10 30 ?_
       refine S.pU 11 31 ?_
       refine S.pU 12 32 ?_
       refine S.pU 13 33 ?_
       refine S.pU 14 34 ?_
       refine S.pU 15 35 ?_
       refine S.pU 16 36 ?_
       refine S.pS 17 37 ?_
       refine done_ (done_of HT_.out (by kernel_rfl)) ?_
       try go_wp2
       go_meet
       case rel => exact ⟨_, (true), S.eA, H', ⟨by have := HK1.out; first | omega | exact Nat.le_refl _⟩, ⟨S.bA⟩⟩
      ·(first | rw [c7b0] | (simp only [i64_w, i32_w]; rw [c7b0]) | skip)
       by_cases c9 : x5_1 > 0
       ·rw [if_pos c9] at H
        have c9b0 : decide (0 < x5_1) = true := decide_eq_true c9
        clear c9
        obtain ⟨ji10, hji10⟩ : ∃ j_ : Int, (wrap64 (x5_1 - 1)) = j_ := ⟨_, rfl⟩
        replace H : (if 0 ≤ (ji10) then (if (ji10) < (l1.length : Int) then (spec_IsTogether.j1 k1 l0 l1 x5_1 t187 (decide ((rd l1 (ji10)) ≥ (rd l1 x5_1)))) else (none)) else (none)) = some r := by first | (rw [hji10] at H; exact H) | (simp only [hji10] at H ⊢; exact H)
        have hji10w : (IntKind.i64.wrap (x5_1 - 1)) = ji10 := (i64_w _).trans hji10
        by_cases c11 : 0 ≤ (ji10)
        ·rw [if_pos c11] at H
         have c11b0 : decide (0 ≤ (ji10)) = true := decide_eq_true c11
         clear c11
         by_cases c12 : (ji10) < (l1.length : Int)
         ·rw [if_pos c12] at H
          have c12b0 : decide ((ji10) < (l1.length : Int)) = true := decide_eq_true c12
          clear c12
          have H' := Aside0.mk H
          clear H
          try go_wp2
          replace HB := Aside0.mk (below_drew1 HB.out)
          have p188 : 0 ≤ ((ji10) : Int) := S.oD
          have q188 : (ji10) < (l1.length : Int) := S.oD
          obtain ⟨ad188, e188, hx188_0⟩ := Kd.at_int HR1.out (ji10) p188 q188
          have hw188_0 := hx188_0
          obtain rfl : ad186 = ad188 := (by injection e188)
          replace hx188_0 := S.hb HB hx188_0
          replace p188 := eq_true p188
          replace q188 := eq_true q188
          have p189 : 0 ≤ (x5_1 : Int) := S.oD
          have q189 : x5_1 < (l1.length : Int) := S.oD
          obtain ⟨ad189, e189, hx189_0⟩ := Kd.at_int HR1.out x5_1 p189 q189
          have hw189_0 := hx189_0
          obtain rfl : ad186 = ad189 := (by injection e189)
          replace hx189_0 := S.hb HB hx189_0
          replace p189 := eq_true p189
          replace q189 := eq_true q189
          refine S.st (n := 18) (ds := []) #[false, false, false, false, false, false, false, false, false, false, false, false, false, false, false, false, false, false] (fun w_ h_ => have x_ := And.intro (S.q h_ (S.hb HB hw188_0)) (S.q h_ (S.hb HB hw189_0)); x_) (fun hHeld => ?_); refine with_tabW spec_IsTogether.tab5 spec_IsTogether.bits5 (fun HT_ HW_ => ?_)
          generalize wr.drew = w13 at HB hx188_0 hx189_0 hHeld ⊢
          refine S.pS 0 20 ?_
          refine S.pS 1 21 ?_
          refine S.pS 2 22 ?_
          refine S.pS 3 23 ?_
          refine S.pS 4 24 ?_
          refine S.pS 5 25 ?_
          refine S.pS 6 26 ?_
          refine S.pS 7 27 ?_
          refine S.pS 8 28 ?_
          refine S.pS 9 29 ?_
          refine S.pS 11 31 ?_
          refine S.pS 12 32 ?_
          refine S.pS 13 33 ?_
          refine S.tK 10 30 #[true, true, true, true, true, true, true, true, true, true, true, true, true, true, false, false, false, false] ?_
          refine S.tK 14 34 #[true, true, true, true, true, true, true, true, true, true, true, true, true, true, true, false, false, false] ?_
          refine S.pS 15 35 ?_
          refine S.pS 16 36 ?_
          refine S.pS 17 37 ?_
          refine done_ (done_of HT_.out (by kernel_rfl)) ?_
          try go_wp2
          go_meet
          case rel => exact ⟨_, (decide ((rd l1 (ji10)) ≥ (rd l1 x5_1))), (by first | rfl | (simp; done) | (simp only [← hji10] <;> (first | rfl | simp)) | (simp [*]; done)), H', ⟨by have := HK1.out; first | omega | exact Nat.le_refl _⟩, ⟨S.bA⟩⟩
         ·rw [if_neg c12] at H
          exact absurd H (by simp)
        ·rw [if_neg c11] at H
         exact absurd H (by simp)
       ·rw [if_neg c9] at H
        have c9b0 : decide (0 < x5_1) = false := decide_eq_false c9
        clear c9
        have H' := Aside0.mk H
        clear H
        try go_wp2
        replace HB := Aside0.mk (below_drew1 HB.out)
        refine start_ (n := 18) (S := fun w' => True) (ds := []) #[false, false, false, false, false, false, false, false, false, false, false, false, false, false, false, false, false, false] (by kernel_rfl) rfl rfl trivial (fun hHeld => ?_); refine with_tabW spec_IsTogether.tab5 spec_IsTogether.bits5 (fun HT_ HW_ => ?_)
        generalize wq.drew = w14 at HB hHeld ⊢
        refine S.pS 0 20 ?_
        refine S.pS 1 21 ?_
        refine S.pS 2 22 ?_
        refine S.pS 3 23 ?_
        refine S.pS 4 24 ?_
        refine S.pS 5 25 ?_
        refine S.pU 6 26 ?_
        refine S.pU 7 27 ?_
        refine S.pU 8 28 ?_
        refine S.pU 9 29 ?_
        refine S.pU 10 30 ?_
        refine S.pU 11 31 ?_
        refine S.pU 12 32 ?_
        refine S.pU 13 33 ?_
        refine S.pU 14 34 ?_
        refine S.pU 15 35 ?_
        refine S.pS 16 36 ?_
        refine S.pS 17 37 ?_
        refine done_ (done_of HT_.out (by kernel_rfl)) ?_
        try go_wp2
        go_meet
        case rel => exact ⟨_, (false), S.eA, H', ⟨by have := HK1.out; first | omega | exact Nat.le_refl _⟩, ⟨S.bA⟩⟩
     case rest =>
      clear HC6
      try clear c1
      try clear c3
      try clear c3b0
      try clear c4
      try clear c4b0
      try clear hx186_0
      try clear p186
      try clear q186
      obtain ⟨kq, x37_5, rfl, HA, HJ5, HB⟩ := hcut
      cases kq with
      | zero => exact absurd HA.out (by simp [spec_IsTogether.j1])
      | succ kj5 =>
       have H := HA.out
       clear HA
       simp only [spec_IsTogether.j1] at H
       replace H := S.db H; rcases H with ⟨rfl, H⟩ | ⟨rfl, H⟩
       ·obtain rfl := Option.some.inj H
        go_wp2
        go_ret
        exact ⟨S.eW, S.bA⟩
       ·have H' := Aside0.mk H
        clear H
        go_wp2
        go_loopg [7] kj5 (fun kq v7 w' => ∃ (x7_3 : Int), v7 = .int .i64 x7_3 ∧ Aside0 (spec_IsTogether.l1 kq l0 l1 x5_1 t187 x7_3 = some r) ∧ Aside0 (kq ≤ kj5) ∧ Aside0 (Below w.heap.size w w'))
        case atStart => exact ⟨(0), S.eA, H', ⟨Nat.le_refl _⟩, ⟨S.bA⟩⟩
        case round =>
         clear H'
         try clear c1
         try clear c3
         try clear c3b0
         try clear c4
         try clear c4b0
         try clear c15
         try clear hx186_0
         try clear p186
         try clear q186
         obtain ⟨x7_3, rfl, HA, HK3, HB⟩ := hrel
         cases gk with
         | zero => exact absurd HA.out (by simp [spec_IsTogether.l1])
         | succ k3 =>
          have H := HA.out
          clear HA
          simp only [spec_IsTogether.l1] at H
          replace H := S.dc H; rcases H with ⟨H, c16b0⟩ | ⟨H, c16b0⟩
          ·by_cases c17 : 0 ≤ t187
           ·rw [if_pos c17] at H
            have c17b0 : decide (0 ≤ t187) = true := decide_eq_true c17
            clear c17
            by_cases c18 : t187 < (l0.length : Int)
            ·rw [if_pos c18] at H
             have c18b0 : decide (t187 < (l0.length : Int)) = true := decide_eq_true c18
             clear c18
             by_cases c19 : 0 ≤ x7_3
             ·rw [if_pos c19] at H
              have c19b0 : decide (0 ≤ x7_3) = true := decide_eq_true c19
              clear c19
              by_cases c20 : x7_3 < (l1.length : Int)
              ·rw [if_pos c20] at H
               have c20b0 : decide (x7_3 < (l1.length : Int)) = true := decide_eq_true c20
               clear c20
               replace H := S.bd H; obtain ⟨t192, A21, H⟩ := H
               (try dsimp only at H)
               by_cases c22 : 0 ≤ t192
               ·rw [if_pos c22] at H
                have c22b0 : decide (0 ≤ t192) = true := decide_eq_true c22
                clear c22
                by_cases c23 : t192 < (l0.length : Int)
                ·rw [if_pos c23] at H
                 have c23b0 : decide (t192 < (l0.length : Int)) = true := decide_eq_true c23
                 clear c23
                 replace H := S.bd H; obtain ⟨t194, A24, H⟩ := H
                 (try dsimp only at H)
                 replace H := S.db H; rcases H with ⟨rfl, H⟩ | ⟨rfl, H⟩
                 ·obtain rfl := Option.some.inj H
                  try go_wp2
                  replace HB := Aside0.mk (below_drew1 HB.out)
                  have p190 : 0 ≤ (t187 : Int) := S.oD
                  have q190 : t187 < (l0.length : Int) := S.oD
                  obtain ⟨ad190, e190, hx190_0, hx190_1, hx190_2, hx190_3⟩ := at_T71 HR0.out t187 p190 q190
                  have hw190_3 := hx190_3
                  have hw190_2 := hx190_2
                  have hw190_1 := hx190_1
                  have hw190_0 := hx190_0
                  cases e190
                  replace hx190_0 := S.hb HB hx190_0
                  replace hx190_1 := S.hb HB hx190_1
                  replace hx190_2 := S.hb HB hx190_2
                  replace hx190_3 := S.hb HB hx190_3
                  replace p190 := eq_true p190
                  replace q190 := eq_true q190
                  have p191 : 0 ≤ (x7_3 : Int) := S.oD
                  have q191 : x7_3 < (l1.length : Int) := S.oD
                  obtain ⟨ad191, e191, hx191_0⟩ := Kd.at_int HR1.out x7_3 p191 q191
                  have hw191_0 := hx191_0
                  obtain rfl : ad186 = ad191 := (by injection e191)
                  replace hx191_0 := S.hb HB hx191_0
                  replace p191 := eq_true p191
                  replace q191 := eq_true q191
                  have p193 : 0 ≤ (t192 : Int) := S.oD
                  have q193 : t192 < (l0.length : Int) := S.oD
                  obtain ⟨ad193, e193, hx193_0, hx193_1, hx193_2, hx193_3⟩ := at_T71 HR0.out t192 p193 q193
                  have hw193_3 := hx193_3
                  have hw193_2 := hx193_2
                  have hw193_1 := hx193_1
                  have hw193_0 := hx193_0
                  obtain rfl : ad190 = ad193 := (by injection e193)
                  replace hx193_0 := S.hb HB hx193_0
                  replace hx193_1 := S.hb HB hx193_1
                  replace hx193_2 := S.hb HB hx193_2
                  replace hx193_3 := S.hb HB hx193_3
                  replace p193 := eq_true p193
                  replace q193 := eq_true q193
                  refine S.st (n := 14) (ds := []) #[false, false, false, false, false, false, false, false, false, false, false, false, false, false] (fun w_ h_ => have x_ := And.intro (S.q h_ (S.hb HB hw190_0)) (And.intro (S.q h_ (S.hb HB hw190_1)) (And.intro (S.q h_ (S.hb HB hw190_2)) (And.intro (S.q h_ (S.hb HB hw190_3)) (And.intro (S.q h_ (S.hb HB hw191_0)) (And.intro (S.q h_ (S.hb HB hw193_0)) (And.intro (S.q h_ (S.hb HB hw193_1)) (And.intro (S.q h_ (S.hb HB hw193_2)) (S.q h_ (S.hb HB hw193_3))))))))); x_) (fun hHeld => ?_); refine with_tabW spec_IsTogether.tab10 spec_IsTogether.bits10 (fun HT_ HW_ => ?_)
                  generalize wr.drew = w26 at HB hx190_0 hx190_1 hx190_2 hx190_3 hx191_0 hx193_0 hx193_1 hx193_2 hx193_3 hHeld ⊢
                  refine S.pS 0 43 ?_
                  refine S.pS 1 44 ?_
                  refine S.pS 2 45 ?_
                  refine S.pS 4 47 ?_
                  refine S.pS 5 48 ?_
                  refine S.pS 6 49 ?_
                  refine S.pS 7 50 ?_
                  refine S.pS 8 51 ?_
                  refine S.tK 3 46 #[true, true, true, true, true, true, true, true, true, false, false, false, false, false] ?_
                  refine S.tK 9 52 #[true, true, true, true, true, true, true, true, true, true, false, false, false, false] ?_
                  refine S.oN 10 53 #[true, true, true, true, true, true, true, true, true, true, true, false, false, false] (fun K hK => ?_)
                  refine S.go Try.func96 #[.slice (some ad190) l0.length c0, .int .i64 (rd l1 x7_3)] ?_
                  with_reducible refine (spec_FindPath.calls k3 _ _ l0 (rd l1 x7_3) t192 _ ?s1 ?s2 A21.out).mono ?_
                  (case s1 => exact S.cA HR0.out)
                  (case s2 => exact HC0.out)
                  rintro e w' ⟨rfl, ⟨nd, rfl⟩⟩
                  refine ⟨_, rfl, ?_⟩
                  refine hK.out _ _ ⟨(S.hb HB hw190_0 :), (S.hb HB hw190_1 :), (S.hb HB hw190_2 :), (S.hb HB hw190_3 :), (S.hb HB hw191_0 :), (S.hb HB hw193_0 :), (S.hb HB hw193_1 :), (S.hb HB hw193_2 :), (S.hb HB hw193_3 :)⟩ (fun hHeld => ?_)
                  clear hK K
                  refine S.nm 53 ?_
                  refine S.pS 11 54 ?_
                  refine S.tK 12 55 #[true, true, true, true, true, true, true, true, true, true, true, true, true, false] ?_
                  refine S.oN 13 56 #[true, true, true, true, true, true, true, true, true, true, true, true, true, true] (fun K hK => ?_)
                  refine S.go Try.func124 #[.agg #[.int .i64 ((rd_T71 l0 t187).f0), .int .i64 ((rd_T71 l0 t187).f1), .int .i64 ((rd_T71 l0 t187).f2), .int .i64 ((rd_T71 l0 t187).f3)], .agg #[.int .i64 ((rd_T71 l0 t192).f0), .int .i64 ((rd_T71 l0 t192).f1), .int .i64 ((rd_T71 l0 t192).f2), .int .i64 ((rd_T71 l0 t192).f3)]] ?_
                  with_reducible refine (spec_Conflict.calls k3 ((rd_T71 l0 t187).f0) ((rd_T71 l0 t187).f1) ((rd_T71 l0 t187).f2) ((rd_T71 l0 t187).f3) ((rd_T71 l0 t192).f0) ((rd_T71 l0 t192).f1) ((rd_T71 l0 t192).f2) ((rd_T71 l0 t192).f3) true _ A24.out).mono ?_
                  rintro e w27 ⟨rfl, hb⟩
                  refine ⟨_, rfl, ?_⟩
                  replace HB := S.sA hb
                  (try clear hb)
                  (try clear hb2)
                  (try clear hk)
                  (try clear hi)
                  refine hK.out _ _ ⟨(S.hb HB hw190_0 :), (S.hb HB hw190_1 :), (S.hb HB hw190_2 :), (S.hb HB hw190_3 :), (S.hb HB hw191_0 :), (S.hb HB hw193_0 :), (S.hb HB hw193_1 :), (S.hb HB hw193_2 :), (S.hb HB hw193_3 :)⟩ (fun hHeld => ?_)
                  clear hK K
                  refine S.nm 56 ?_
                  refine done_ (done_of HT_.out (by kernel_rfl)) ?_
                  try go_wp2
                  go_ret
                  exact ⟨S.eW, S.bA⟩
                 ·have H' := Aside0.mk H
                  clear H
                  try go_wp2
                  replace HB := Aside0.mk (below_drew1 HB.out)
                  have p190 : 0 ≤ (t187 : Int) := S.oD
                  have q190 : t187 < (l0.length : Int) := S.oD
                  obtain ⟨ad190, e190, hx190_0, hx190_1, hx190_2, hx190_3⟩ := at_T71 HR0.out t187 p190 q190
                  have hw190_3 := hx190_3
                  have hw190_2 := hx190_2
                  have hw190_1 := hx190_1
                  have hw190_0 := hx190_0
                  cases e190
                  replace hx190_0 := S.hb HB hx190_0
                  replace hx190_1 := S.hb HB hx190_1
                  replace hx190_2 := S.hb HB hx190_2
                  replace hx190_3 := S.hb HB hx190_3
                  replace p190 := eq_true p190
                  replace q190 := eq_true q190
                  have p191 : 0 ≤ (x7_3 : Int) := S.oD
                  have q191 : x7_3 < (l1.length : Int) := S.oD
                  obtain ⟨ad191, e191, hx191_0⟩ := Kd.at_int HR1.out x7_3 p191 q191
                  have hw191_0 := hx191_0
                  obtain rfl : ad186 = ad191 := (by injection e191)
                  replace hx191_0 := S.hb HB hx191_0
                  replace p191 := eq_true p191
                  replace q191 := eq_true q191
                  have p193 : 0 ≤ (t192 : Int) := S.oD
                  have q193 : t192 < (l0.length : Int) := S.oD
                  obtain ⟨ad193, e193, hx193_0, hx193_1, hx193_2, hx193_3⟩ := at_T71 HR0.out t192 p193 q193
                  have hw193_3 := hx193_3
                  have hw193_2 := hx193_2
                  have hw193_1 := hx193_1
                  have hw193_0 := hx193_0
                  obtain rfl : ad190 = ad193 := (by injection e193)
                  replace hx193_0 := S.hb HB hx193_0
                  replace hx193_1 := S.hb HB hx193_1
                  replace hx193_2 := S.hb HB hx193_2
                  replace hx193_3 := S.hb HB hx193_3
                  replace p193 := eq_true p193
                  replace q193 := eq_true q193
                  refine S.st (n := 14) (ds := []) #[false, false, false, false, false, false, false, false, false, false, false, false, false, false] (fun w_ h_ => have x_ := And.intro (S.q h_ (S.hb HB hw190_0)) (And.intro (S.q h_ (S.hb HB hw190_1)) (And.intro (S.q h_ (S.hb HB hw190_2)) (And.intro (S.q h_ (S.hb HB hw190_3)) (And.intro (S.q h_ (S.hb HB hw191_0)) (And.intro (S.q h_ (S.hb HB hw193_0)) (And.intro (S.q h_ (S.hb HB hw193_1)) (And.intro (S.q h_ (S.hb HB hw193_2)) (S.q h_ (S.hb HB hw193_3))))))))); x_) (fun hHeld => ?_); refine with_tabW spec_IsTogether.tab10 spec_IsTogether.bits10 (fun HT_ HW_ => ?_)
                  generalize wr.drew = w28 at HB hx190_0 hx190_1 hx190_2 hx190_3 hx191_0 hx193_0 hx193_1 hx193_2 hx193_3 hHeld ⊢
                  refine S.pS 0 43 ?_
                  refine S.pS 1 44 ?_
                  refine S.pS 2 45 ?_
                  refine S.pS 4 47 ?_
                  refine S.pS 5 48 ?_
                  refine S.pS 6 49 ?_
                  refine S.pS 7 50 ?_
                  refine S.pS 8 51 ?_
                  refine S.tK 3 46 #[true, true, true, true, true, true, true, true, true, false, false, false, false, false] ?_
                  refine S.tK 9 52 #[true, true, true, true, true, true, true, true, true, true, false, false, false, false] ?_
                  refine S.oN 10 53 #[true, true, true, true, true, true, true, true, true, true, true, false, false, false] (fun K hK => ?_)
                  refine S.go Try.func96 #[.slice (some ad190) l0.length c0, .int .i64 (rd l1 x7_3)] ?_
                  with_reducible refine (spec_FindPath.calls k3 _ _ l0 (rd l1 x7_3) t192 _ ?s1 ?s2 A21.out).mono ?_
                  (case s1 => exact S.cA HR0.out)
                  (case s2 => exact HC0.out)
                  rintro e w' ⟨rfl, ⟨nd, rfl⟩⟩
                  refine ⟨_, rfl, ?_⟩
                  refine hK.out _ _ ⟨(S.hb HB hw190_0 :), (S.hb HB hw190_1 :), (S.hb HB hw190_2 :), (S.hb HB hw190_3 :), (S.hb HB hw191_0 :), (S.hb HB hw193_0 :), (S.hb HB hw193_1 :), (S.hb HB hw193_2 :), (S.hb HB hw193_3 :)⟩ (fun hHeld => ?_)
                  clear hK K
                  refine S.nm 53 ?_
                  refine S.pS 11 54 ?_
                  refine S.tK 12 55 #[true, true, true, true, true, true, true, true, true, true, true, true, true, false] ?_
                  refine S.oN 13 56 #[true, true, true, true, true, true, true, true, true, true, true, true, true, true] (fun K hK => ?_)
                  refine S.go Try.func124 #[.agg #[.int .i64 ((rd_T71 l0 t187).f0), .int .i64 ((rd_T71 l0 t187).f1), .int .i64 ((rd_T71 l0 t187).f2), .int .i64 ((rd_T71 l0 t187).f3)], .agg #[.int .i64 ((rd_T71 l0 t192).f0), .int .i64 ((rd_T71 l0 t192).f1), .int .i64 ((rd_T71 l0 t192).f2), .int .i64 ((rd_T71 l0 t192).f3)]] ?_
                  with_reducible refine (spec_Conflict.calls k3 ((rd_T71 l0 t187).f0) ((rd_T71 l0 t187).f1) ((rd_T71 l0 t187).f2) ((rd_T71 l0 t187).f3) ((rd_T71 l0 t192).f0) ((rd_T71 l0 t192).f1) ((rd_T71 l0 t192).f2) ((rd_T71 l0 t192).f3) false _ A24.out).mono ?_
                  rintro e w29 ⟨rfl, hb⟩
                  refine ⟨_, rfl, ?_⟩
                  replace HB := S.sA hb
                  (try clear hb)
                  (try clear hb2)
                  (try clear hk)
                  (try clear hi)
                  refine hK.out _ _ ⟨(S.hb HB hw190_0 :), (S.hb HB hw190_1 :), (S.hb HB hw190_2 :), (S.hb HB hw190_3 :), (S.hb HB hw191_0 :), (S.hb HB hw193_0 :), (S.hb HB hw193_1 :), (S.hb HB hw193_2 :), (S.hb HB hw193_3 :)⟩ (fun hHeld => ?_)
                  clear hK K
                  refine S.nm 56 ?_
                  refine done_ (done_of HT_.out (by kernel_rfl)) ?_
                  try go_wp2
                  go_roundg k3
                  case measure => have := HK1.out; have := HJ5.out; have := HK3.out; omega
                  case rel => exact ⟨(wrap64 (x7_3 + 1)), S.eA, H', ⟨by have := HK1.out; have := HJ5.out; have := HK3.out; omega⟩, ⟨S.bA⟩⟩
                ·rw [if_neg c23] at H
                 exact absurd H (by simp)
               ·rw [if_neg c22] at H
                exact absurd H (by simp)
              ·rw [if_neg c20] at H
               exact absurd H (by simp)
             ·rw [if_neg c19] at H
              exact absurd H (by simp)
            ·rw [if_neg c18] at H
             exact absurd H (by simp)
           ·rw [if_neg c17] at H
            exact absurd H (by simp)
          ·have H' := Aside0.mk H
           clear H
           go_wp2
           go_roundg k3
           case measure => have := HK1.out; have := HJ5.out; have := HK3.out; omega
           case rel => exact ⟨(wrap64 (x5_1 + 1)), S.eA, H', ⟨by have := HK1.out; have := HJ5.out; have := HK3.out; omega⟩, ⟨S.bA⟩⟩
    ·rw [if_neg c4] at H
     exact absurd H (by simp)
   ·replace H := Option.bind_eq_some_iff.mp H
    obtain ⟨t185, A300, H⟩ := H
    replace H : (some t185) = some r := H
    have A30 := Aside0.mk A300
    clear A300
    obtain rfl := Option.some.inj H
    go_wp2_with (first | ((with_reducible refine gate_callee (f := 125) rfl ?_); refine S.gL (some 58) Try.func125 #[.slice A0 l0.length c0] ?_; (with_reducible refine (spec_ArePaths.calls k1 _ _ l0 t185 _ ?s1 HC0.out A30.out).mono ?_); (case s1 => exact S.cA HR0.out); rintro e w31 ⟨rfl, hb⟩; refine ⟨_, rfl, ?_⟩; replace HB := S.sA hb; (try clear hb)))
    go_ret
    exact ⟨S.eW, S.bA⟩

end Go.Proofs.Ytjgigmghcfdomaa.PFnExactMakeSwitch
