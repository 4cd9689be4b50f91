/- Printed by a program: what the Go functions compute, as plain Lean functions (.f), and the proofs that the machine's calls come to just that (.calls). -/
import Derived.Test.YtopchlafmfgpnaaPFnExactCutForx0
import Derived.Test.YtopchlafmfgpnaaPFnExactCutForx3
import Derived.Test.YtopchlafmfgpnaaPFnExactCutForx4
import Derived.Test.YtopchlafmfgpnaaPFnExactCutForx6
namespace Go.Proofs.Ytopchlafmfgpnaa.PFnExactCutFor
open Go.RowKit Go.Proofs.YtopchlafmfgpnaaW.PrintWords Go.Proofs.YtopchlafmfgpnaaW.PrintLast Go.Proofs.YtopchlafmfgpnaaW.PrintMore
attribute [local go_sem] max2_int min2_int max_two min_two max_three min_three max_four min_four   -- for this text's walks alone
set_option linter.unusedVariables false
set_option linter.unusedSimpArgs false

/-! ### spec_IsTogether: function 107 -/
mutual
def spec_IsTogether.l0 : Nat → List (S52) → List Int → Int → Option (Bool)
 | 0, _, _, _ => none
 | k + 1, x0, x1, x5 => if x5 < (x1.length : Int) then (if 0 ≤ x5 then ((spec_FindPath.f k x0 (rd x1 x5)).bind fun t180 => (if t180 < 0 then (spec_IsTogether.j1 k x0 x1 x5 t180 true) else (if x5 > 0 then (if 0 ≤ (wrap64 (x5 - 1)) then (if (wrap64 (x5 - 1)) < (x1.length : Int) then (spec_IsTogether.j1 k x0 x1 x5 t180 (decide ((rd x1 (wrap64 (x5 - 1))) ≥ (rd x1 x5)))) else (none)) else (none)) else (spec_IsTogether.j1 k x0 x1 x5 t180 false)))) else (none)) else ((spec_ArePaths.f k x0).bind fun t178 => (some t178))
def spec_IsTogether.j1 : Nat → List (S52) → List Int → Int → Int → Bool → Option (Bool)
 | 0, _, _, _, _, _ => none
 | k + 1, x0, x1, x5, x6, x37 => if x37 = true then (some false) else (spec_IsTogether.l1 k x0 x1 x5 x6 0)
def spec_IsTogether.l1 : Nat → List (S52) → List Int → Int → Int → Int → Option (Bool)
 | 0, _, _, _, _, _ => none
 | k + 1, x0, x1, x5, x6, x7 => if x7 < x5 then (if 0 ≤ x6 then (if x6 < (x0.length : Int) then (if 0 ≤ x7 then (if x7 < (x1.length : Int) then ((spec_FindPath.f k x0 (rd x1 x7)).bind fun t185 => (if 0 ≤ t185 then (if t185 < (x0.length : Int) then ((spec_Conflict.f k ((rd_T52 x0 x6).f0) ((rd_T52 x0 x6).f1) ((rd_T52 x0 x6).f2) ((rd_T52 x0 x6).f3) ((rd_T52 x0 t185).f0) ((rd_T52 x0 t185).f1) ((rd_T52 x0 t185).f2) ((rd_T52 x0 t185).f3)).bind fun t187 => (if t187 = true then (some false) else (spec_IsTogether.l1 k x0 x1 x5 x6 (wrap64 (x7 + 1))))) else (none)) else (none))) else (none)) else (none)) else (none)) else (none)) else (spec_IsTogether.l0 k x0 x1 (wrap64 (x5 + 1)))
end
def spec_IsTogether.f (k : Nat) (l0 : List (S52)) (l1 : List Int) : Option (Bool) := spec_IsTogether.l0 k l0 l1 0
def spec_IsTogether.T5 : Bool × List (List Nat × List Nat) := (true, [([], []), ([0], [0]), ([1], [1]), ([2], [2]), ([3, 2], [2, 3]), ([4, 2, 2], [2, 4]), ([5], [5]), ([5], [5]), ([7, 5], [5, 7]), ([6, 8, 5], [5, 6, 8]), ([9, 5], [5, 9]), ([5], [5]), ([5], [5]), ([11, 12, 5], [5, 11, 12]), ([13, 5], [5, 13]), ([10, 14, 5], [5, 10, 14]), ([5, 15, 2], [2, 5, 15]), ([2, 16], [2, 16])])
def spec_IsTogether.B5 : List Nat := [0, 1, 3, 7, 15, 31, 63, 63, 191, 511, 1023, 63, 63, 6207, 14399, 32767, 65535, 131071]
theorem spec_IsTogether.tab5 : rtab .any (opsOf Try.f107 5) = spec_IsTogether.T5 := by kernel_rfl
theorem spec_IsTogether.bits5 : waitsOk spec_IsTogether.T5.2 spec_IsTogether.B5 = true := by kernel_rfl
def spec_IsTogether.T10 : Bool × List (List Nat × List Nat) := (true, [([], []), ([], []), ([0, 1], [0, 1]), ([2], [2]), ([], []), ([], []), ([], []), ([], []), ([6, 7], [6, 7]), ([8], [8]), ([5, 9], [5, 9]), ([4, 10], [4, 10]), ([11], [11]), ([3, 12, 10], [3, 12])])
def spec_IsTogether.B10 : List Nat := [0, 0, 3, 7, 0, 0, 0, 0, 192, 448, 992, 2032, 4080, 8191]
theorem spec_IsTogether.tab10 : rtab .any (opsOf Try.f107 10) = spec_IsTogether.T10 := by kernel_rfl
theorem spec_IsTogether.bits10 : waitsOk spec_IsTogether.T10.2 spec_IsTogether.B10 = true := by kernel_rfl
set_option maxHeartbeats 8000000 in
set_option maxRecDepth 100000 in
theorem spec_IsTogether.calls (k : Nat) (A0 : Option Addr) (c0 : Nat) (l0 : List (S52)) (A1 : Option Addr) (c1 : Nat) (l1 : List Int) (r : Bool) (w : World) (hr0 : Kd.C k52 w A0 l0.length l0) (hc0 : l0.length ≤ c0) (hr1 : Kd.C (Kd.int .i64) w A1 l1.length l1) (hc1 : l1.length ≤ c1) (h : spec_IsTogether.f k l0 l1 = some r) :
  Calls Try.prog 107 #[.slice A0 l0.length c0, .slice A1 l1.length c1] w fun e w' => e = .returned (.bool r) ∧ Below w.heap.size w w' := by
 have hu52 := Try.underlying52
 have HR0 := Aside0.mk hr0
 have HC0 := Aside0.mk hc0
 clear hr0 hc0
 have HR1 := Aside0.mk hr1
 have HC1 := Aside0.mk hc1
 clear hr1 hc1
 have HB := Aside0.mk (Below.refl w.heap.size w)
 have H : (spec_IsTogether.l0 k l0 l1 0) = some r := h
 clear h
 have H' := Aside0.mk H
 clear H
 go_enter Try.func107, Try.ntmps107
 go_wp2
 go_loopg [5] k (fun kq v5 w' => ∃ (x5_1 : Int), v5 = .int .i64 x5_1 ∧ Aside0 (spec_IsTogether.l0 kq l0 l1 x5_1 = some r) ∧ Aside0 (kq ≤ k) ∧ Aside0 (Below w.heap.size w w'))
 case atStart => exact ⟨(0), S.eA, H', ⟨Nat.le_refl _⟩, ⟨S.bA⟩⟩
 case round =>
  clear H'
  try clear c1
  obtain ⟨x5_1, rfl, HA, HK1, HB⟩ := hrel
  cases gk with
  | zero => exact absurd HA.out (by simp [spec_IsTogether.l0])
  | succ k1 =>
   have H := HA.out
   clear HA
   simp only [spec_IsTogether.l0] at H
   replace H := S.dc H; rcases H with ⟨H, c3b0⟩ | ⟨H, c3b0⟩
   ·by_cases c4 : 0 ≤ x5_1
    ·rw [if_pos c4] at H
     have c4b0 : decide (0 ≤ x5_1) = true := decide_eq_true c4
     clear c4
     replace H := S.bd H; obtain ⟨t180, A5, H⟩ := H
     (try dsimp only at H)
     have HC6 := Aside0.mk H
     clear H
     have p179 : 0 ≤ (x5_1 : Int) := S.oD
     have q179 : x5_1 < (l1.length : Int) := S.oD
     obtain ⟨ad179, e179, hx179_0⟩ := Kd.at_int HR1.out x5_1 p179 q179
     cases e179
     replace hx179_0 := S.hb HB hx179_0
     replace p179 := eq_true p179
     replace q179 := eq_true q179
     go_upto_region 5 with (first | ((with_reducible refine gate_callee (f := 85) rfl ?_); refine S.gL (some 19) Try.func85 #[.slice A0 l0.length c0, .int .i64 (rd l1 x5_1)] ?_; (with_reducible refine (spec_FindPath.calls k1 _ _ l0 (rd l1 x5_1) t180 _ ?s1 HC0.out A5.out).mono ?_); (case s1 => exact S.cA HR0.out); rintro e w' ⟨rfl, ⟨nd, rfl⟩⟩; refine ⟨_, rfl, ?_⟩))
     have nB_ := Aside0.mk (pw_below_drewN HB.out nd)
     clear HB
     have HB := nB_
     clear nB_
     generalize wr.drewN nd = wq at HB ⊢
     (try simp only [Act.put, List.setIfInBounds_toArray, List.set_cons_zero, List.set_cons_succ])
     go_cut [37] (fun v37 wc => ∃ (kq : Nat) (x37_5 : Bool), v37 = .bool x37_5 ∧ Aside0 (spec_IsTogether.j1 kq l0 l1 x5_1 t180 x37_5 = some r) ∧ Aside0 (kq ≤ k1) ∧ Aside0 (Below w.heap.size w wc))
     case first =>
      have H := HC6.out
      clear HC6
      replace H := S.dc H; rcases H with ⟨H, c7b0⟩ | ⟨H, c7b0⟩
      ·(first | rw [c7b0] | (simp only [i64_w, i32_w]; rw [c7b0]) | skip)
       have H' := Aside0.mk H
       clear H
       try go_wp2
       replace HB := Aside0.mk (below_drew1 HB.out)
       refine start_ (n := 18) (S := fun w' => True) (ds := []) #[false, false, false, false, false, false, false, false, false, false, false, false, false, false, false, false, false, false] (by kernel_rfl) rfl rfl trivial (fun hHeld => ?_); refine with_tabW spec_IsTogether.tab5 spec_IsTogether.bits5 (fun HT_ HW_ => ?_)
       generalize wq.drew = w8 at HB hHeld ⊢
       refine S.pS 0 20 ?_
       refine S.pS 1 21 ?_
       refine S.pS 2 22 ?_
       refine S.pU 3 23 ?_
       refine S.pU 4 24 ?_
       refine S.pU 5 25 ?_
       refine S.pU 6 26 ?_
       refine S.pU 7 27 ?_
       refine S.pU 8 28 ?_
       refine S.pU 9 29 ?_
       refine S.pU 10 30 ?_
       refine S.pU 11 31 ?_
       refine S.pU 12 32 ?_
       refine S.pU 13 33 ?_
       refine S.pU 14 34 ?_
       refine S.pU 15 35 ?_
       refine S.pU 16 36 ?_
       refine S.pS 17 37 ?_
       refine done_ (done_of HT_.out (by kernel_rfl)) ?_
       try go_wp2
       go_meet
       case rel => exact ⟨_, (true), S.eA, H', ⟨by have := HK1.out; first | omega | exact Nat.le_refl _⟩, ⟨S.bA⟩⟩
      ·(first | rw [c7b0] | (simp only [i64_w, i32_w]; rw [c7b0]) | skip)
       by_cases c9 : x5_1 > 0
       ·rw [if_pos c9] at H
        have c9b0 : decide (0 < x5_1) = true := decide_eq_true c9
        clear c9
        obtain ⟨ji10, hji10⟩ : ∃ j_ : Int, (wrap64 (x5_1 - 1)) = j_ := ⟨_, rfl⟩
        replace H : (if 0 ≤ (ji10) then (if (ji10) < (l1.length : Int) then (spec_IsTogether.j1 k1 l0 l1 x5_1 t180 (decide ((rd l1 (ji10)) ≥ (rd l1 x5_1)))) else (none)) else (none)) = some r := by first | (rw [hji10] at H; exact H) | (simp only [hji10] at H ⊢; exact H)
        have hji10w : (IntKind.i64.wrap (x5_1 - 1)) = ji10 := (i64_w _).trans hji10
        by_cases c11 : 0 ≤ (ji10)
        ·rw [if_pos c11] at H
         have c11b0 : decide (0 ≤ (ji10)) = true := decide_eq_true c11
         clear c11
         by_cases c12 : (ji10) < (l1.length : Int)
         ·rw [if_pos c12] at H
          have c12b0 : decide ((ji10) < (l1.length : Int)) = true := decide_eq_true c12
          clear c12
          have H' := Aside0.mk H
          clear H
          try go_wp2
          replace HB := Aside0.mk (below_drew1 HB.out)
          have p181 : 0 ≤ ((ji10) : Int) := S.oD
          have q181 : (ji10) < (l1.length : Int) := S.oD
          obtain ⟨ad181, e181, hx181_0⟩ := Kd.at_int HR1.out (ji10) p181 q181
          have hw181_0 := hx181_0
          obtain rfl : ad179 = ad181 := (by injection e181)
          replace hx181_0 := S.hb HB hx181_0
          replace p181 := eq_true p181
          replace q181 := eq_true q181
          have p182 : 0 ≤ (x5_1 : Int) := S.oD
          have q182 : x5_1 < (l1.length : Int) := S.oD
          obtain ⟨ad182, e182, hx182_0⟩ := Kd.at_int HR1.out x5_1 p182 q182
          have hw182_0 := hx182_0
          obtain rfl : ad179 = ad182 := (by injection e182)
          replace hx182_0 := S.hb HB hx182_0
          replace p182 := eq_true p182
          replace q182 := eq_true q182
          refine S.st (n := 18) (ds := []) #[false, false, false, false, false, false, false, false, false, false, false, false, false, false, false, false, false, false] (fun w_ h_ => have x_ := And.intro (S.q h_ (S.hb HB hw181_0)) (S.q h_ (S.hb HB hw182_0)); x_) (fun hHeld => ?_); refine with_tabW spec_IsTogether.tab5 spec_IsTogether.bits5 (fun HT_ HW_ => ?_)
          generalize wr.drew = w13 at HB hx181_0 hx182_0 hHeld ⊢
          refine S.pS 0 20 ?_
          refine S.pS 1 21 ?_
          refine S.pS 2 22 ?_
          refine S.pS 3 23 ?_
          refine S.pS 4 24 ?_
          refine S.pS 5 25 ?_
          refine S.pS 6 26 ?_
          refine S.pS 7 27 ?_
          refine S.pS 8 28 ?_
          refine S.pS 9 29 ?_
          refine S.pS 11 31 ?_
          refine S.pS 12 32 ?_
          refine S.pS 13 33 ?_
          refine S.tK 10 30 #[true, true, true, true, true, true, true, true, true, true, true, true, true, true, false, false, false, false] ?_
          refine S.tK 14 34 #[true, true, true, true, true, true, true, true, true, true, true, true, true, true, true, false, false, false] ?_
          refine S.pS 15 35 ?_
          refine S.pS 16 36 ?_
          refine S.pS 17 37 ?_
          refine done_ (done_of HT_.out (by kernel_rfl)) ?_
          try go_wp2
          go_meet
          case rel => exact ⟨_, (decide ((rd l1 (ji10)) ≥ (rd l1 x5_1))), (by first | rfl | (simp; done) | (simp only [← hji10] <;> (first | rfl | simp)) | (simp [*]; done)), H', ⟨by have := HK1.out; first | omega | exact Nat.le_refl _⟩, ⟨S.bA⟩⟩
         ·rw [if_neg c12] at H
          exact absurd H (by simp)
        ·rw [if_neg c11] at H
         exact absurd H (by simp)
       ·rw [if_neg c9] at H
        have c9b0 : decide (0 < x5_1) = false := decide_eq_false c9
        clear c9
        have H' := Aside0.mk H
        clear H
        try go_wp2
        replace HB := Aside0.mk (below_drew1 HB.out)
        refine start_ (n := 18) (S := fun w' => True) (ds := []) #[false, false, false, false, false, false, false, false, false, false, false, false, false, false, false, false, false, false] (by kernel_rfl) rfl rfl trivial (fun hHeld => ?_); refine with_tabW spec_IsTogether.tab5 spec_IsTogether.bits5 (fun HT_ HW_ => ?_)
        generalize wq.drew = w14 at HB hHeld ⊢
        refine S.pS 0 20 ?_
        refine S.pS 1 21 ?_
        refine S.pS 2 22 ?_
        refine S.pS 3 23 ?_
        refine S.pS 4 24 ?_
        refine S.pS 5 25 ?_
        refine S.pU 6 26 ?_
        refine S.pU 7 27 ?_
        refine S.pU 8 28 ?_
        refine S.pU 9 29 ?_
        refine S.pU 10 30 ?_
        refine S.pU 11 31 ?_
        refine S.pU 12 32 ?_
        refine S.pU 13 33 ?_
        refine S.pU 14 34 ?_
        refine S.pU 15 35 ?_
        refine S.pS 16 36 ?_
        refine S.pS 17 37 ?_
        refine done_ (done_of HT_.out (by kernel_rfl)) ?_
        try go_wp2
        go_meet
        case rel => exact ⟨_, (false), S.eA, H', ⟨by have := HK1.out; first | omega | exact Nat.le_refl _⟩, ⟨S.bA⟩⟩
     case rest =>
      clear HC6
      try clear c1
      try clear c3
      try clear c3b0
      try clear c4
      try clear c4b0
      try clear hx179_0
      try clear p179
      try clear q179
      obtain ⟨kq, x37_5, rfl, HA, HJ5, HB⟩ := hcut
      cases kq with
      | zero => exact absurd HA.out (by simp [spec_IsTogether.j1])
      | succ kj5 =>
       have H := HA.out
       clear HA
       simp only [spec_IsTogether.j1] at H
       replace H := S.db H; rcases H with ⟨rfl, H⟩ | ⟨rfl, H⟩
       ·obtain rfl := Option.some.inj H
        go_wp2
        go_ret
        exact ⟨S.eW, S.bA⟩
       ·have H' := Aside0.mk H
        clear H
        go_wp2
        go_loopg [7] kj5 (fun kq v7 w' => ∃ (x7_3 : Int), v7 = .int .i64 x7_3 ∧ Aside0 (spec_IsTogether.l1 kq l0 l1 x5_1 t180 x7_3 = some r) ∧ Aside0 (kq ≤ kj5) ∧ Aside0 (Below w.heap.size w w'))
        case atStart => exact ⟨(0), S.eA, H', ⟨Nat.le_refl _⟩, ⟨S.bA⟩⟩
        case round =>
         clear H'
         try clear c1
         try clear c3
         try clear c3b0
         try clear c4
         try clear c4b0
         try clear c15
         try clear hx179_0
         try clear p179
         try clear q179
         obtain ⟨x7_3, rfl, HA, HK3, HB⟩ := hrel
         cases gk with
         | zero => exact absurd HA.out (by simp [spec_IsTogether.l1])
         | succ k3 =>
          have H := HA.out
          clear HA
          simp only [spec_IsTogether.l1] at H
          replace H := S.dc H; rcases H with ⟨H, c16b0⟩ | ⟨H, c16b0⟩
          ·by_cases c17 : 0 ≤ t180
           ·rw [if_pos c17] at H
            have c17b0 : decide (0 ≤ t180) = true := decide_eq_true c17
            clear c17
            by_cases c18 : t180 < (l0.length : Int)
            ·rw [if_pos c18] at H
             have c18b0 : decide (t180 < (l0.length : Int)) = true := decide_eq_true c18
             clear c18
             by_cases c19 : 0 ≤ x7_3
             ·rw [if_pos c19] at H
              have c19b0 : decide (0 ≤ x7_3) = true := decide_eq_true c19
              clear c19
              by_cases c20 : x7_3 < (l1.length : Int)
              ·rw [if_pos c20] at H
               have c20b0 : decide (x7_3 < (l1.length : Int)) = true := decide_eq_true c20
               clear c20
               replace H := S.bd H; obtain ⟨t185, A21, H⟩ := H
               (try dsimp only at H)
               by_cases c22 : 0 ≤ t185
               ·rw [if_pos c22] at H
                have c22b0 : decide (0 ≤ t185) = true := decide_eq_true c22
                clear c22
                by_cases c23 : t185 < (l0.length : Int)
                ·rw [if_pos c23] at H
                 have c23b0 : decide (t185 < (l0.length : Int)) = true := decide_eq_true c23
                 clear c23
                 replace H := S.bd H; obtain ⟨t187, A24, H⟩ := H
                 (try dsimp only at H)
                 replace H := S.db H; rcases H with ⟨rfl, H⟩ | ⟨rfl, H⟩
                 ·obtain rfl := Option.some.inj H
                  try go_wp2
                  replace HB := Aside0.mk (below_drew1 HB.out)
                  have p183 : 0 ≤ (t180 : Int) := S.oD
                  have q183 : t180 < (l0.length : Int) := S.oD
                  obtain ⟨ad183, e183, hx183_0, hx183_1, hx183_2, hx183_3⟩ := at_T52 HR0.out t180 p183 q183
                  have hw183_3 := hx183_3
                  have hw183_2 := hx183_2
                  have hw183_1 := hx183_1
                  have hw183_0 := hx183_0
                  cases e183
                  replace hx183_0 := S.hb HB hx183_0
                  replace hx183_1 := S.hb HB hx183_1
                  replace hx183_2 := S.hb HB hx183_2
                  replace hx183_3 := S.hb HB hx183_3
                  replace p183 := eq_true p183
                  replace q183 := eq_true q183
                  have p184 : 0 ≤ (x7_3 : Int) := S.oD
                  have q184 : x7_3 < (l1.length : Int) := S.oD
                  obtain ⟨ad184, e184, hx184_0⟩ := Kd.at_int HR1.out x7_3 p184 q184
                  have hw184_0 := hx184_0
                  obtain rfl : ad179 = ad184 := (by injection e184)
                  replace hx184_0 := S.hb HB hx184_0
                  replace p184 := eq_true p184
                  replace q184 := eq_true q184
                  have p186 : 0 ≤ (t185 : Int) := S.oD
                  have q186 : t185 < (l0.length : Int) := S.oD
                  obtain ⟨ad186, e186, hx186_0, hx186_1, hx186_2, hx186_3⟩ := at_T52 HR0.out t185 p186 q186
                  have hw186_3 := hx186_3
                  have hw186_2 := hx186_2
                  have hw186_1 := hx186_1
                  have hw186_0 := hx186_0
                  obtain rfl : ad183 = ad186 := (by injection e186)
                  replace hx186_0 := S.hb HB hx186_0
                  replace hx186_1 := S.hb HB hx186_1
                  replace hx186_2 := S.hb HB hx186_2
                  replace hx186_3 := S.hb HB hx186_3
                  replace p186 := eq_true p186
                  replace q186 := eq_true q186
                  refine S.st (n := 14) (ds := []) #[false, false, false, false, false, false, false, false, false, false, false, false, false, false] (fun w_ h_ => have x_ := And.intro (S.q h_ (S.hb HB hw183_0)) (And.intro (S.q h_ (S.hb HB hw183_1)) (And.intro (S.q h_ (S.hb HB hw183_2)) (And.intro (S.q h_ (S.hb HB hw183_3)) (And.intro (S.q h_ (S.hb HB hw184_0)) (And.intro (S.q h_ (S.hb HB hw186_0)) (And.intro (S.q h_ (S.hb HB hw186_1)) (And.intro (S.q h_ (S.hb HB hw186_2)) (S.q h_ (S.hb HB hw186_3))))))))); x_) (fun hHeld => ?_); refine with_tabW spec_IsTogether.tab10 spec_IsTogether.bits10 (fun HT_ HW_ => ?_)
                  generalize wr.drew = w26 at HB hx183_0 hx183_1 hx183_2 hx183_3 hx184_0 hx186_0 hx186_1 hx186_2 hx186_3 hHeld ⊢
                  refine S.pS 0 43 ?_
                  refine S.pS 1 44 ?_
                  refine S.pS 2 45 ?_
                  refine S.pS 4 47 ?_
                  refine S.pS 5 48 ?_
                  refine S.pS 6 49 ?_
                  refine S.pS 7 50 ?_
                  refine S.pS 8 51 ?_
                  refine S.tK 3 46 #[true, true, true, true, true, true, true, true, true, false, false, false, false, false] ?_
                  refine S.tK 9 52 #[true, true, true, true, true, true, true, true, true, true, false, false, false, false] ?_
                  refine S.oN 10 53 #[true, true, true, true, true, true, true, true, true, true, true, false, false, false] (fun K hK => ?_)
                  refine S.go Try.func85 #[.slice (some ad183) l0.length c0, .int .i64 (rd l1 x7_3)] ?_
                  with_reducible refine (spec_FindPath.calls k3 _ _ l0 (rd l1 x7_3) t185 _ ?s1 ?s2 A21.out).mono ?_
                  (case s1 => exact S.cA HR0.out)
                  (case s2 => exact HC0.out)
                  rintro e w' ⟨rfl, ⟨nd, rfl⟩⟩
                  refine ⟨_, rfl, ?_⟩
                  refine hK.out _ _ ⟨(S.hb HB hw183_0 :), (S.hb HB hw183_1 :), (S.hb HB hw183_2 :), (S.hb HB hw183_3 :), (S.hb HB hw184_0 :), (S.hb HB hw186_0 :), (S.hb HB hw186_1 :), (S.hb HB hw186_2 :), (S.hb HB hw186_3 :)⟩ (fun hHeld => ?_)
                  clear hK K
                  refine S.nm 53 ?_
                  refine S.pS 11 54 ?_
                  refine S.tK 12 55 #[true, true, true, true, true, true, true, true, true, true, true, true, true, false] ?_
                  refine S.oN 13 56 #[true, true, true, true, true, true, true, true, true, true, true, true, true, true] (fun K hK => ?_)
                  refine S.go Try.func113 #[.agg #[.int .i64 ((rd_T52 l0 t180).f0), .int .i64 ((rd_T52 l0 t180).f1), .int .i64 ((rd_T52 l0 t180).f2), .int .i64 ((rd_T52 l0 t180).f3)], .agg #[.int .i64 ((rd_T52 l0 t185).f0), .int .i64 ((rd_T52 l0 t185).f1), .int .i64 ((rd_T52 l0 t185).f2), .int .i64 ((rd_T52 l0 t185).f3)]] ?_
                  with_reducible refine (spec_Conflict.calls k3 ((rd_T52 l0 t180).f0) ((rd_T52 l0 t180).f1) ((rd_T52 l0 t180).f2) ((rd_T52 l0 t180).f3) ((rd_T52 l0 t185).f0) ((rd_T52 l0 t185).f1) ((rd_T52 l0 t185).f2) ((rd_T52 l0 t185).f3) true _ A24.out).mono ?_
                  rintro e w27 ⟨rfl, hb⟩
                  refine ⟨_, rfl, ?_⟩
                  replace HB := S.sA hb
                  (try clear hb)
                  (try clear hb2)
                  (try clear hk)
                  (try clear hi)
                  refine hK.out _ _ ⟨(S.hb HB hw183_0 :), (S.hb HB hw183_1 :), (S.hb HB hw183_2 :), (S.hb HB hw183_3 :), (S.hb HB hw184_0 :), (S.hb HB hw186_0 :), (S.hb HB hw186_1 :), (S.hb HB hw186_2 :), (S.hb HB hw186_3 :)⟩ (fun hHeld => ?_)
                  clear hK K
                  refine S.nm 56 ?_
                  refine done_ (done_of HT_.out (by kernel_rfl)) ?_
                  try go_wp2
                  go_ret
                  exact ⟨S.eW, S.bA⟩
                 ·have H' := Aside0.mk H
                  clear H
                  try go_wp2
                  replace HB := Aside0.mk (below_drew1 HB.out)
                  have p183 : 0 ≤ (t180 : Int) := S.oD
                  have q183 : t180 < (l0.length : Int) := S.oD
                  obtain ⟨ad183, e183, hx183_0, hx183_1, hx183_2, hx183_3⟩ := at_T52 HR0.out t180 p183 q183
                  have hw183_3 := hx183_3
                  have hw183_2 := hx183_2
                  have hw183_1 := hx183_1
                  have hw183_0 := hx183_0
                  cases e183
                  replace hx183_0 := S.hb HB hx183_0
                  replace hx183_1 := S.hb HB hx183_1
                  replace hx183_2 := S.hb HB hx183_2
                  replace hx183_3 := S.hb HB hx183_3
                  replace p183 := eq_true p183
                  replace q183 := eq_true q183
                  have p184 : 0 ≤ (x7_3 : Int) := S.oD
                  have q184 : x7_3 < (l1.length : Int) := S.oD
                  obtain ⟨ad184, e184, hx184_0⟩ := Kd.at_int HR1.out x7_3 p184 q184
                  have hw184_0 := hx184_0
                  obtain rfl : ad179 = ad184 := (by injection e184)
                  replace hx184_0 := S.hb HB hx184_0
                  replace p184 := eq_true p184
                  replace q184 := eq_true q184
                  have p186 : 0 ≤ (t185 : Int) := S.oD
                  have q186 : t185 < (l0.length : Int) := S.oD
                  obtain ⟨ad186, e186, hx186_0, hx186_1, hx186_2, hx186_3⟩ := at_T52 HR0.out t185 p186 q186
                  have hw186_3 := hx186_3
                  have hw186_2 := hx186_2
                  have hw186_1 := hx186_1
                  have hw186_0 := hx186_0
                  obtain rfl : ad183 = ad186 := (by injection e186)
                  replace hx186_0 := S.hb HB hx186_0
                  replace hx186_1 := S.hb HB hx186_1
                  replace hx186_2 := S.hb HB hx186_2
                  replace hx186_3 := S.hb HB hx186_3
                  replace p186 := eq_true p186
                  replace q186 := eq_true q186
                  refine S.st (n := 14) (ds := []) #[false, false, false, false, false, false, false, false, false, false, false, false, false, false] (fun w_ h_ => have x_ := And.intro (S.q h_ (S.hb HB hw183_0)) (And.intro (S.q h_ (S.hb HB hw183_1)) (And.intro (S.q h_ (S.hb HB hw183_2)) (And.intro (S.q h_ (S.hb HB hw183_3)) (And.intro (S.q h_ (S.hb HB hw184_0)) (And.intro (S.q h_ (S.hb HB hw186_0)) (And.intro (S.q h_ (S.hb HB hw186_1)) (And.intro (S.q h_ (S.hb HB hw186_2)) (S.q h_ (S.hb HB hw186_3))))))))); x_) (fun hHeld => ?_); refine with_tabW spec_IsTogether.tab10 spec_IsTogether.bits10 (fun HT_ HW_ => ?_)
                  generalize wr.drew = w28 at HB hx183_0 hx183_1 hx183_2 hx183_3 hx184_0 hx186_0 hx186_1 hx186_2 hx186_3 hHeld ⊢
                  refine S.pS 0 43 ?_
                  refine S.pS 1 44 ?_
                  refine S.pS 2 45 ?_
                  refine S.pS 4 47 ?_
                  refine S.pS 5 48 ?_
                  refine S.pS 6 49 ?_
                  refine S.pS 7 50 ?_
                  refine S.pS 8 51 ?_
                  refine S.tK 3 46 #[true, true, true, true, true, true, true, true, true, false, false, false, false, false] ?_
                  refine S.tK 9 52 #[true, true, true, true, true, true, true, true, true, true, false, false, false, false] ?_
                  refine S.oN 10 53 #[true, true, true, true, true, true, true, true, true, true, true, false, false, false] (fun K hK => ?_)
                  refine S.go Try.func85 #[.slice (some ad183) l0.length c0, .int .i64 (rd l1 x7_3)] ?_
                  with_reducible refine (spec_FindPath.calls k3 _ _ l0 (rd l1 x7_3) t185 _ ?s1 ?s2 A21.out).mono ?_
                  (case s1 => exact S.cA HR0.out)
                  (case s2 => exact HC0.out)
                  rintro e w' ⟨rfl, ⟨nd, rfl⟩⟩
                  refine ⟨_, rfl, ?_⟩
                  refine hK.out _ _ ⟨(S.hb HB hw183_0 :), (S.hb HB hw183_1 :), (S.hb HB hw183_2 :), (S.hb HB hw183_3 :), (S.hb HB hw184_0 :), (S.hb HB hw186_0 :), (S.hb HB hw186_1 :), (S.hb HB hw186_2 :), (S.hb HB hw186_3 :)⟩ (fun hHeld => ?_)
                  clear hK K
                  refine S.nm 53 ?_
                  refine S.pS 11 54 ?_
                  refine S.tK 12 55 #[true, true, true, true, true, true, true, true, true, true, true, true, true, false] ?_
                  refine S.oN 13 56 #[true, true, true, true, true, true, true, true, true, true, true, true, true, true] (fun K hK => ?_)
                  refine S.go Try.func113 #[.agg #[.int .i64 ((rd_T52 l0 t180).f0), .int .i64 ((rd_T52 l0 t180).f1), .int .i64 ((rd_T52 l0 t180).f2), .int .i64 ((rd_T52 l0 t180).f3)], .agg #[.int .i64 ((rd_T52 l0 t185).f0), .int .i64 ((rd_T52 l0 t185).f1), .int .i64 ((rd_T52 l0 t185).f2), .int .i64 ((rd_T52 l0 t185).f3)]] ?_
                  with_reducible refine (spec_Conflict.calls k3 ((rd_T52 l0 t180).f0) ((rd_T52 l0 t180).f1) ((rd_T52 l0 t180).f2) ((rd_T52 l0 t180).f3) ((rd_T52 l0 t185).f0) ((rd_T52 l0 t185).f1) ((rd_T52 l0 t185).f2) ((rd_T52 l0 t185).f3) false _ A24.out).mono ?_
                  rintro e w29 ⟨rfl, hb⟩
                  refine ⟨_, rfl, ?_⟩
                  replace HB := S.sA hb
                  (try clear hb)
                  (try clear hb2)
                  (try clear hk)
                  (try clear hi)
                  refine hK.out _ _ ⟨(S.hb HB hw183_0 :), (S.hb HB hw183_1 :), (S.hb HB hw183_2 :), (S.hb HB hw183_3 :), (S.hb HB hw184_0 :), (S.hb HB hw186_0 :), (S.hb HB hw186_1 :), (S.hb HB hw186_2 :), (S.hb HB hw186_3 :)⟩ (fun hHeld => ?_)
                  clear hK K
                  refine S.nm 56 ?_
                  refine done_ (done_of HT_.out (by kernel_rfl)) ?_
                  try go_wp2
                  go_roundg k3
                  case measure => have := HK1.out; have := HJ5.out; have := HK3.out; omega
                  case rel => exact ⟨(wrap64 (x7_3 + 1)), S.eA, H', ⟨by have := HK1.out; have := HJ5.out; have := HK3.out; omega⟩, ⟨S.bA⟩⟩
                ·rw [if_neg c23] at H
                 exact absurd H (by simp)
               ·rw [if_neg c22] at H
                exact absurd H (by simp)
              ·rw [if_neg c20] at H
               exact absurd H (by simp)
             ·rw [if_neg c19] at H
              exact absurd H (by simp)
            ·rw [if_neg c18] at H
             exact absurd H (by simp)
           ·rw [if_neg c17] at H
            exact absurd H (by simp)
          ·have H' := Aside0.mk H
           clear H
           go_wp2
           go_roundg k3
           case measure => have := HK1.out; have := HJ5.out; have := HK3.out; omega
           case rel => exact ⟨(wrap64 (x5_1 + 1)), S.eA, H', ⟨by have := HK1.out; have := HJ5.out; have := HK3.out; omega⟩, ⟨S.bA⟩⟩
    ·rw [if_neg c4] at H
     exact absurd H (by simp)
   ·replace H := Option.bind_eq_some_iff.mp H
    obtain ⟨t178, A300, H⟩ := H
    replace H : (some t178) = some r := H
    have A30 := Aside0.mk A300
    clear A300
    obtain rfl := Option.some.inj H
    go_wp2_with (first | ((with_reducible refine gate_callee (f := 109) rfl ?_); refine S.gL (some 58) Try.func109 #[.slice A0 l0.length c0] ?_; (with_reducible refine (spec_ArePaths.calls k1 _ _ l0 t178 _ ?s1 HC0.out A30.out).mono ?_); (case s1 => exact S.cA HR0.out); rintro e w31 ⟨rfl, hb⟩; refine ⟨_, rfl, ?_⟩; replace HB := S.sA hb; (try clear hb)))
    go_ret
    exact ⟨S.eW, S.bA⟩

end Go.Proofs.Ytopchlafmfgpnaa.PFnExactCutFor
