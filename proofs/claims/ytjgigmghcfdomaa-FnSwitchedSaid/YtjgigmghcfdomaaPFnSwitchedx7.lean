/- Printed by a program: what the Go functions compute, as plain Lean functions (.f), and the proofs that the machine's calls come to just that (.calls). -/
import Derived.Test.YtjgigmghcfdomaaPFnSwitchedx0
import Derived.Test.YtjgigmghcfdomaaPFnSwitchedx6
namespace Go.Proofs.Ytjgigmghcfdomaa.PFnSwitched
open Go.RowKit Go.Proofs.YtjgigmghcfdomaaW.PrintWords Go.Proofs.YtjgigmghcfdomaaW.PrintLast Go.Proofs.YtjgigmghcfdomaaW.PrintMore
attribute [local go_sem] max2_int min2_int max_two min_two max_three min_three max_four min_four   -- for this text's walks alone
set_option linter.unusedVariables false
set_option linter.unusedSimpArgs false
set_option maxHeartbeats 8000000
set_option maxRecDepth 100000
/-! ### spec_IsTogether: function 99 -/
mutual
def spec_IsTogether.l0 : Nat → List (S71) → List Int → Int → Option (Bool)
 | 0, _, _, _ => none
 | k + 1, x0, x1, x5 => if x5 < (x1.length : Int) then (if 0 ≤ x5 then ((spec_FindPath.f k x0 (rd x1 x5)).bind fun t357 => (if t357 < 0 then (spec_IsTogether.j1 k x0 x1 x5 t357 true) else (if x5 > 0 then (if 0 ≤ (wrap64 (x5 - 1)) then (if (wrap64 (x5 - 1)) < (x1.length : Int) then (spec_IsTogether.j1 k x0 x1 x5 t357 (decide ((rd x1 (wrap64 (x5 - 1))) ≥ (rd x1 x5)))) else (none)) else (none)) else (spec_IsTogether.j1 k x0 x1 x5 t357 false)))) else (none)) else ((spec_ArePaths.f k x0).bind fun t355 => (some t355))
def spec_IsTogether.j1 : Nat → List (S71) → List Int → Int → Int → Bool → Option (Bool)
 | 0, _, _, _, _, _ => none
 | k + 1, x0, x1, x5, x6, x37 => if x37 = true then (some false) else (spec_IsTogether.l1 k x0 x1 x5 x6 0)
def spec_IsTogether.l1 : Nat → List (S71) → List Int → Int → Int → Int → Option (Bool)
 | 0, _, _, _, _, _ => none
 | k + 1, x0, x1, x5, x6, x7 => if x7 < x5 then (if 0 ≤ x6 then (if x6 < (x0.length : Int) then (if 0 ≤ x7 then (if x7 < (x1.length : Int) then ((spec_FindPath.f k x0 (rd x1 x7)).bind fun t362 => (if 0 ≤ t362 then (if t362 < (x0.length : Int) then ((spec_Conflict.f k ((rd_T71 x0 x6).f0) ((rd_T71 x0 x6).f1) ((rd_T71 x0 x6).f2) ((rd_T71 x0 x6).f3) ((rd_T71 x0 t362).f0) ((rd_T71 x0 t362).f1) ((rd_T71 x0 t362).f2) ((rd_T71 x0 t362).f3)).bind fun t364 => (if t364 = true then (some false) else (spec_IsTogether.l1 k x0 x1 x5 x6 (wrap64 (x7 + 1))))) else (none)) else (none))) else (none)) else (none)) else (none)) else (none)) else (spec_IsTogether.l0 k x0 x1 (wrap64 (x5 + 1)))
end
def spec_IsTogether.f (k : Nat) (l0 : List (S71)) (l1 : List Int) : Option (Bool) := spec_IsTogether.l0 k l0 l1 0
def spec_IsTogether.T5 : Bool × List (List Nat × List Nat) := (true, [([], []), ([0], [0]), ([1], [1]), ([2], [2]), ([3, 2], [2, 3]), ([4, 2, 2], [2, 4]), ([5], [5]), ([5], [5]), ([7, 5], [5, 7]), ([6, 8, 5], [5, 6, 8]), ([9, 5], [5, 9]), ([5], [5]), ([5], [5]), ([11, 12, 5], [5, 11, 12]), ([13, 5], [5, 13]), ([10, 14, 5], [5, 10, 14]), ([5, 15, 2], [2, 5, 15]), ([2, 16], [2, 16])])
def spec_IsTogether.B5 : List Nat := [0, 1, 3, 7, 15, 31, 63, 63, 191, 511, 1023, 63, 63, 6207, 14399, 32767, 65535, 131071]
theorem spec_IsTogether.tab5 : rtab .any (opsOf Try.f99 5) = spec_IsTogether.T5 := by kernel_rfl
theorem spec_IsTogether.bits5 : waitsOk spec_IsTogether.T5.2 spec_IsTogether.B5 = true := by kernel_rfl
def spec_IsTogether.T10 : Bool × List (List Nat × List Nat) := (true, [([], []), ([], []), ([0, 1], [0, 1]), ([2], [2]), ([], []), ([], []), ([], []), ([], []), ([6, 7], [6, 7]), ([8], [8]), ([5, 9], [5, 9]), ([4, 10], [4, 10]), ([11], [11]), ([3, 12, 10], [3, 12])])
def spec_IsTogether.B10 : List Nat := [0, 0, 3, 7, 0, 0, 0, 0, 192, 448, 992, 2032, 4080, 8191]
theorem spec_IsTogether.tab10 : rtab .any (opsOf Try.f99 10) = spec_IsTogether.T10 := by kernel_rfl
theorem spec_IsTogether.bits10 : waitsOk spec_IsTogether.T10.2 spec_IsTogether.B10 = true := by kernel_rfl
theorem spec_IsTogether.calls (k : Nat) (A0 : Option Addr) (c0 : Nat) (l0 : List (S71)) (A1 : Option Addr) (c1 : Nat) (l1 : List Int) (r : Bool) (w : World) (hr0 : Kd.C k71 w A0 l0.length l0) (hc0 : l0.length ≤ c0) (hr1 : Kd.C (Kd.int .i64) w A1 l1.length l1) (hc1 : l1.length ≤ c1) (h : spec_IsTogether.f k l0 l1 = some r) :
  Calls Try.prog 99 #[.slice A0 l0.length c0, .slice A1 l1.length c1] w fun e w' => e = .returned (.bool r) ∧ Below w.heap.size w w' := by
 have hu71 := Try.underlying71
 have HR0 := Aside0.mk hr0
 have HC0 := Aside0.mk hc0
 clear hr0 hc0
 have HR1 := Aside0.mk hr1
 have HC1 := Aside0.mk hc1
 clear hr1 hc1
 have HB := Aside0.mk (Below.refl w.heap.size w)
 have H : (spec_IsTogether.l0 k l0 l1 0) = some r := h
 clear h
 have H' := Aside0.mk H
 clear H
 go_enter Try.func99, Try.ntmps99
 go_wp2
 go_loopg [5] k (fun kq v5 w' => ∃ (x5_1 : Int), v5 = .int .i64 x5_1 ∧ Aside0 (spec_IsTogether.l0 kq l0 l1 x5_1 = some r) ∧ Aside0 (kq ≤ k) ∧ Aside0 (Below w.heap.size w w'))
 case atStart => exact ⟨(0), S.eA, H', ⟨Nat.le_refl _⟩, ⟨S.bA⟩⟩
 case round =>
  clear H'
  try clear c1
  obtain ⟨x5_1, rfl, HA, HK1, HB⟩ := hrel
  cases gk with
  | zero => exact absurd HA.out (by simp [spec_IsTogether.l0])
  | succ k1 =>
   have H := HA.out
   clear HA
   simp only [spec_IsTogether.l0] at H
   replace H := S.dc H; rcases H with ⟨H, c3b0⟩ | ⟨H, c3b0⟩
   ·by_cases c4 : 0 ≤ x5_1
    ·rw [if_pos c4] at H
     have c4b0 : decide (0 ≤ x5_1) = true := decide_eq_true c4
     clear c4
     replace H := S.bd H; obtain ⟨t357, A5, H⟩ := H
     (try dsimp only at H)
     have HC6 := Aside0.mk H
     clear H
     have p356 : 0 ≤ (x5_1 : Int) := S.oD
     have q356 : x5_1 < (l1.length : Int) := S.oD
     obtain ⟨ad356, e356, hx356_0⟩ := Kd.at_int HR1.out x5_1 p356 q356
     cases e356
     replace hx356_0 := S.hb HB hx356_0
     replace p356 := eq_true p356
     replace q356 := eq_true q356
     go_upto_region 5 with (first | ((with_reducible refine gate_callee (f := 96) rfl ?_); refine S.gL (some 19) Try.func96 #[.slice A0 l0.length c0, .int .i64 (rd l1 x5_1)] ?_; (with_reducible refine (spec_FindPath.calls k1 _ _ l0 (rd l1 x5_1) t357 _ ?s1 HC0.out A5.out).mono ?_); (case s1 => exact S.cA HR0.out); rintro e w' ⟨rfl, ⟨nd, rfl⟩⟩; refine ⟨_, rfl, ?_⟩))
     have nB_ := Aside0.mk (pw_below_drewN HB.out nd)
     clear HB
     have HB := nB_
     clear nB_
     generalize wr.drewN nd = wq at HB ⊢
     (try simp only [Act.put, List.setIfInBounds_toArray, List.set_cons_zero, List.set_cons_succ])
     go_cut [37] (fun v37 wc => ∃ (kq : Nat) (x37_5 : Bool), v37 = .bool x37_5 ∧ Aside0 (spec_IsTogether.j1 kq l0 l1 x5_1 t357 x37_5 = some r) ∧ Aside0 (kq ≤ k1) ∧ Aside0 (Below w.heap.size w wc))
     case first =>
      have H := HC6.out
      clear HC6
      replace H := S.dc H; rcases H with ⟨H, c7b0⟩ | ⟨H, c7b0⟩
      ·(first | rw [c7b0] | (simp only [i64_w, i32_w]; rw [c7b0]) | skip)
       have H' := Aside0.mk H
       clear H
       try go_wp2
       replace HB := Aside0.mk (below_drew1 HB.out)
       refine start_ (n := 18) (S := fun w' => True) (ds := []) #[false, false, false, false, false, false, false, false, false, false, false, false, false, false, false, false, false, false] (by kernel_rfl) rfl rfl trivial (fun hHeld => ?_); refine with_tabW spec_IsTogether.tab5 spec_IsTogether.bits5 (fun HT_ HW_ => ?_)
       generalize wq.drew = w8 at HB hHeld ⊢
       refine S.pS 0 20 ?_
       refine S.pS 1 21 ?_
       refine S.pS 2 22 ?_
       refine S.pU 3 23 ?_
       refine S.pU 4 24 ?_
       refine S.pU 5 25 ?_
       refine S.pU 6 26 ?_
       refine S.pU 7 27 ?_
       refine S.pU 8 28 ?_
       refine S.pU 9 29 ?_
       refine S.pU 10 30 ?_
       refine S.pU 11 31 ?_
       refine S.pU 12 32 ?_
       refine S.pU 13 33 ?_
       refine S.pU 14 34 ?_
       refine S.pU 15 35 ?_
       refine S.pU 16 36 ?_
       refine S.pS 17 37 ?_
       refine done_ (done_of HT_.out (by kernel_rfl)) ?_
       try go_wp2
       go_meet
       case rel => exact ⟨_, (true), S.eA, H', ⟨by have := HK1.out; first | omega | exact Nat.le_refl _⟩, ⟨S.bA⟩⟩
      ·(first | rw [c7b0] | (simp only [i64_w, i32_w]; rw [c7b0]) | skip)
       by_cases c9 : x5_1 > 0
       ·rw [if_pos c9] at H
        have c9b0 : decide (0 < x5_1) = true := decide_eq_true c9
        clear c9
        obtain ⟨ji10, hji10⟩ : ∃ j_ : Int, (wrap64 (x5_1 - 1)) = j_ := ⟨_, rfl⟩
        replace H : (if 0 ≤ (ji10) then (if (ji10) < (l1.length : Int) then (spec_IsTogether.j1 k1 l0 l1 x5_1 t357 (decide ((rd l1 (ji10)) ≥ (rd l1 x5_1)))) else (none)) else (none)) = some r := by first | (rw [hji10] at H; exact H) | (simp only [hji10] at H ⊢; exact H)
        have hji10w : (IntKind.i64.wrap (x5_1 - 1)) = ji10 := (i64_w _).trans hji10
        by_cases c11 : 0 ≤ (ji10)
        ·rw [if_pos c11] at H
         have c11b0 : decide (0 ≤ (ji10)) = true := decide_eq_true c11
         clear c11
         by_cases c12 : (ji10) < (l1.length : Int)
         ·rw [if_pos c12] at H
          have c12b0 : decide ((ji10) < (l1.length : Int)) = true := decide_eq_true c12
          clear c12
          have H' := Aside0.mk H
          clear H
          try go_wp2
          replace HB := Aside0.mk (below_drew1 HB.out)
          have p358 : 0 ≤ ((ji10) : Int) := S.oD
          have q358 : (ji10) < (l1.length : Int) := S.oD
          obtain ⟨ad358, e358, hx358_0⟩ := Kd.at_int HR1.out (ji10) p358 q358
          have hw358_0 := hx358_0
          obtain rfl : ad356 = ad358 := (by injection e358)
          replace hx358_0 := S.hb HB hx358_0
          replace p358 := eq_true p358
          replace q358 := eq_true q358
          have p359 : 0 ≤ (x5_1 : Int) := S.oD
          have q359 : x5_1 < (l1.length : Int) := S.oD
          obtain ⟨ad359, e359, hx359_0⟩ := Kd.at_int HR1.out x5_1 p359 q359
          have hw359_0 := hx359_0
          obtain rfl : ad356 = ad359 := (by injection e359)
          replace hx359_0 := S.hb HB hx359_0
          replace p359 := eq_true p359
          replace q359 := eq_true q359
          refine S.st (n := 18) (ds := []) #[false, false, false, false, false, false, false, false, false, false, false, false, false, false, false, false, false, false] (fun w_ h_ => have x_ := And.intro (S.q h_ (S.hb HB hw358_0)) (S.q h_ (S.hb HB hw359_0)); x_) (fun hHeld => ?_); refine with_tabW spec_IsTogether.tab5 spec_IsTogether.bits5 (fun HT_ HW_ => ?_)
          generalize wr.drew = w13 at HB hx358_0 hx359_0 hHeld ⊢
          refine S.pS 0 20 ?_
          refine S.pS 1 21 ?_
          refine S.pS 2 22 ?_
          refine S.pS 3 23 ?_
          refine S.pS 4 24 ?_
          refine S.pS 5 25 ?_
          refine S.pS 6 26 ?_
          refine S.pS 7 27 ?_
          refine S.pS 8 28 ?_
          refine S.pS 9 29 ?_
          refine S.pS 11 31 ?_
          refine S.pS 12 32 ?_
          refine S.pS 13 33 ?_
          refine S.tK 10 30 #[true, true, true, true, true, true, true, true, true, true, true, true, true, true, false, false, false, false] ?_
          refine S.tK 14 34 #[true, true, true, true, true, true, true, true, true, true, true, true, true, true, true, false, false, false] ?_
          refine S.pS 15 35 ?_
          refine S.pS 16 36 ?_
          refine S.pS 17 37 ?_
          refine done_ (done_of HT_.out (by kernel_rfl)) ?_
          try go_wp2
          go_meet
          case rel => exact ⟨_, (decide ((rd l1 (ji10)) ≥ (rd l1 x5_1))), (by first | rfl | (simp; done) | (simp only [← hji10] <;> (first | rfl | simp)) | (simp [*]; done)), H', ⟨by have := HK1.out; first | omega | exact Nat.le_refl _⟩, ⟨S.bA⟩⟩
         ·rw [if_neg c12] at H
          exact absurd H (by simp)
        ·rw [if_neg c11] at H
         exact absurd H (by simp)
       ·rw [if_neg c9] at H
        have c9b0 : decide (0 < x5_1) = false := decide_eq_false c9
        clear c9
        have H' := Aside0.mk H
        clear H
        try go_wp2
        replace HB := Aside0.mk (below_drew1 HB.out)
        refine start_ (n := 18) (S := fun w' => True) (ds := []) #[false, false, false, false, false, false, false, false, false, false, false, false, false, false, false, false, false, false] (by kernel_rfl) rfl rfl trivial (fun hHeld => ?_); refine with_tabW spec_IsTogether.tab5 spec_IsTogether.bits5 (fun HT_ HW_ => ?_)
        generalize wq.drew = w14 at HB hHeld ⊢
        refine S.pS 0 20 ?_
        refine S.pS 1 21 ?_
        refine S.pS 2 22 ?_
        refine S.pS 3 23 ?_
        refine S.pS 4 24 ?_
        refine S.pS 5 25 ?_
        refine S.pU 6 26 ?_
        refine S.pU 7 27 ?_
        refine S.pU 8 28 ?_
        refine S.pU 9 29 ?_
        refine S.pU 10 30 ?_
        refine S.pU 11 31 ?_
        refine S.pU 12 32 ?_
        refine S.pU 13 33 ?_
        refine S.pU 14 34 ?_
        refine S.pU 15 35 ?_
        refine S.pS 16 36 ?_
        refine S.pS 17 37 ?_
        refine done_ (done_of HT_.out (by kernel_rfl)) ?_
        try go_wp2
        go_meet
        case rel => exact ⟨_, (false), S.eA, H', ⟨by have := HK1.out; first | omega | exact Nat.le_refl _⟩, ⟨S.bA⟩⟩
     case rest =>
      clear HC6
      try clear c1
      try clear c3
      try clear c3b0
      try clear c4
      try clear c4b0
      try clear hx356_0
      try clear p356
      try clear q356
      obtain ⟨kq, x37_5, rfl, HA, HJ5, HB⟩ := hcut
      cases kq with
      | zero => exact absurd HA.out (by simp [spec_IsTogether.j1])
      | succ kj5 =>
       have H := HA.out
       clear HA
       simp only [spec_IsTogether.j1] at H
       replace H := S.db H; rcases H with ⟨rfl, H⟩ | ⟨rfl, H⟩
       ·obtain rfl := Option.some.inj H
        go_wp2
        go_ret
        exact ⟨S.eW, S.bA⟩
       ·have H' := Aside0.mk H
        clear H
        go_wp2
        go_loopg [7] kj5 (fun kq v7 w' => ∃ (x7_3 : Int), v7 = .int .i64 x7_3 ∧ Aside0 (spec_IsTogether.l1 kq l0 l1 x5_1 t357 x7_3 = some r) ∧ Aside0 (kq ≤ kj5) ∧ Aside0 (Below w.heap.size w w'))
        case atStart => exact ⟨(0), S.eA, H', ⟨Nat.le_refl _⟩, ⟨S.bA⟩⟩
        case round =>
         clear H'
         try clear c1
         try clear c3
         try clear c3b0
         try clear c4
         try clear c4b0
         try clear c15
         try clear hx356_0
         try clear p356
         try clear q356
         obtain ⟨x7_3, rfl, HA, HK3, HB⟩ := hrel
         cases gk with
         | zero => exact absurd HA.out (by simp [spec_IsTogether.l1])
         | succ k3 =>
          have H := HA.out
          clear HA
          simp only [spec_IsTogether.l1] at H
          replace H := S.dc H; rcases H with ⟨H, c16b0⟩ | ⟨H, c16b0⟩
          ·by_cases c17 : 0 ≤ t357
           ·rw [if_pos c17] at H
            have c17b0 : decide (0 ≤ t357) = true := decide_eq_true c17
            clear c17
            by_cases c18 : t357 < (l0.length : Int)
            ·rw [if_pos c18] at H
             have c18b0 : decide (t357 < (l0.length : Int)) = true := decide_eq_true c18
             clear c18
             by_cases c19 : 0 ≤ x7_3
             ·rw [if_pos c19] at H
              have c19b0 : decide (0 ≤ x7_3) = true := decide_eq_true c19
              clear c19
              by_cases c20 : x7_3 < (l1.length : Int)
              ·rw [if_pos c20] at H
               have c20b0 : decide (x7_3 < (l1.length : Int)) = true := decide_eq_true c20
               clear c20
               replace H := S.bd H; obtain ⟨t362, A21, H⟩ := H
               (try dsimp only at H)
               by_cases c22 : 0 ≤ t362
               ·rw [if_pos c22] at H
                have c22b0 : decide (0 ≤ t362) = true := decide_eq_true c22
                clear c22
                by_cases c23 : t362 < (l0.length : Int)
                ·rw [if_pos c23] at H
                 have c23b0 : decide (t362 < (l0.length : Int)) = true := decide_eq_true c23
                 clear c23
                 replace H := S.bd H; obtain ⟨t364, A24, H⟩ := H
                 (try dsimp only at H)
                 replace H := S.db H; rcases H with ⟨rfl, H⟩ | ⟨rfl, H⟩
                 ·obtain rfl := Option.some.inj H
                  try go_wp2
                  replace HB := Aside0.mk (below_drew1 HB.out)
                  have p360 : 0 ≤ (t357 : Int) := S.oD
                  have q360 : t357 < (l0.length : Int) := S.oD
                  obtain ⟨ad360, e360, hx360_0, hx360_1, hx360_2, hx360_3⟩ := at_T71 HR0.out t357 p360 q360
                  have hw360_3 := hx360_3
                  have hw360_2 := hx360_2
                  have hw360_1 := hx360_1
                  have hw360_0 := hx360_0
                  cases e360
                  replace hx360_0 := S.hb HB hx360_0
                  replace hx360_1 := S.hb HB hx360_1
                  replace hx360_2 := S.hb HB hx360_2
                  replace hx360_3 := S.hb HB hx360_3
                  replace p360 := eq_true p360
                  replace q360 := eq_true q360
                  have p361 : 0 ≤ (x7_3 : Int) := S.oD
                  have q361 : x7_3 < (l1.length : Int) := S.oD
                  obtain ⟨ad361, e361, hx361_0⟩ := Kd.at_int HR1.out x7_3 p361 q361
                  have hw361_0 := hx361_0
                  obtain rfl : ad356 = ad361 := (by injection e361)
                  replace hx361_0 := S.hb HB hx361_0
                  replace p361 := eq_true p361
                  replace q361 := eq_true q361
                  have p363 : 0 ≤ (t362 : Int) := S.oD
                  have q363 : t362 < (l0.length : Int) := S.oD
                  obtain ⟨ad363, e363, hx363_0, hx363_1, hx363_2, hx363_3⟩ := at_T71 HR0.out t362 p363 q363
                  have hw363_3 := hx363_3
                  have hw363_2 := hx363_2
                  have hw363_1 := hx363_1
                  have hw363_0 := hx363_0
                  obtain rfl : ad360 = ad363 := (by injection e363)
                  replace hx363_0 := S.hb HB hx363_0
                  replace hx363_1 := S.hb HB hx363_1
                  replace hx363_2 := S.hb HB hx363_2
                  replace hx363_3 := S.hb HB hx363_3
                  replace p363 := eq_true p363
                  replace q363 := eq_true q363
                  refine S.st (n := 14) (ds := []) #[false, false, false, false, false, false, false, false, false, false, false, false, false, false] (fun w_ h_ => have x_ := And.intro (S.q h_ (S.hb HB hw360_0)) (And.intro (S.q h_ (S.hb HB hw360_1)) (And.intro (S.q h_ (S.hb HB hw360_2)) (And.intro (S.q h_ (S.hb HB hw360_3)) (And.intro (S.q h_ (S.hb HB hw361_0)) (And.intro (S.q h_ (S.hb HB hw363_0)) (And.intro (S.q h_ (S.hb HB hw363_1)) (And.intro (S.q h_ (S.hb HB hw363_2)) (S.q h_ (S.hb HB hw363_3))))))))); x_) (fun hHeld => ?_); refine with_tabW spec_IsTogether.tab10 spec_IsTogether.bits10 (fun HT_ HW_ => ?_)
                  generalize wr.drew = w26 at HB hx360_0 hx360_1 hx360_2 hx360_3 hx361_0 hx363_0 hx363_1 hx363_2 hx363_3 hHeld ⊢
                  refine S.pS 0 43 ?_
                  refine S.pS 1 44 ?_
                  refine S.pS 2 45 ?_
                  refine S.pS 4 47 ?_
                  refine S.pS 5 48 ?_
                  refine S.pS 6 49 ?_
                  refine S.pS 7 50 ?_
                  refine S.pS 8 51 ?_
                  refine S.tK 3 46 #[true, true, true, true, true, true, true, true, true, false, false, false, false, false] ?_
                  refine S.tK 9 52 #[true, true, true, true, true, true, true, true, true, true, false, false, false, false] ?_
                  refine S.oN 10 53 #[true, true, true, true, true, true, true, true, true, true, true, false, false, false] (fun K hK => ?_)
                  refine S.go Try.func96 #[.slice (some ad360) l0.length c0, .int .i64 (rd l1 x7_3)] ?_
                  with_reducible refine (spec_FindPath.calls k3 _ _ l0 (rd l1 x7_3) t362 _ ?s1 ?s2 A21.out).mono ?_
                  (case s1 => exact S.cA HR0.out)
                  (case s2 => exact HC0.out)
                  rintro e w' ⟨rfl, ⟨nd, rfl⟩⟩
                  refine ⟨_, rfl, ?_⟩
                  refine hK.out _ _ ⟨(S.hb HB hw360_0 :), (S.hb HB hw360_1 :), (S.hb HB hw360_2 :), (S.hb HB hw360_3 :), (S.hb HB hw361_0 :), (S.hb HB hw363_0 :), (S.hb HB hw363_1 :), (S.hb HB hw363_2 :), (S.hb HB hw363_3 :)⟩ (fun hHeld => ?_)
                  clear hK K
                  refine S.nm 53 ?_
                  refine S.pS 11 54 ?_
                  refine S.tK 12 55 #[true, true, true, true, true, true, true, true, true, true, true, true, true, false] ?_
                  refine S.oN 13 56 #[true, true, true, true, true, true, true, true, true, true, true, true, true, true] (fun K hK => ?_)
                  refine S.go Try.func124 #[.agg #[.int .i64 ((rd_T71 l0 t357).f0), .int .i64 ((rd_T71 l0 t357).f1), .int .i64 ((rd_T71 l0 t357).f2), .int .i64 ((rd_T71 l0 t357).f3)], .agg #[.int .i64 ((rd_T71 l0 t362).f0), .int .i64 ((rd_T71 l0 t362).f1), .int .i64 ((rd_T71 l0 t362).f2), .int .i64 ((rd_T71 l0 t362).f3)]] ?_
                  with_reducible refine (spec_Conflict.calls k3 ((rd_T71 l0 t357).f0) ((rd_T71 l0 t357).f1) ((rd_T71 l0 t357).f2) ((rd_T71 l0 t357).f3) ((rd_T71 l0 t362).f0) ((rd_T71 l0 t362).f1) ((rd_T71 l0 t362).f2) ((rd_T71 l0 t362).f3) true _ A24.out).mono ?_
                  rintro e w27 ⟨rfl, hb⟩
                  refine ⟨_, rfl, ?_⟩
                  replace HB := S.sA hb
                  (try clear hb)
                  (try clear hb2)
                  (try clear hk)
                  (try clear hi)
                  refine hK.out _ _ ⟨(S.hb HB hw360_0 :), (S.hb HB hw360_1 :), (S.hb HB hw360_2 :), (S.hb HB hw360_3 :), (S.hb HB hw361_0 :), (S.hb HB hw363_0 :), (S.hb HB hw363_1 :), (S.hb HB hw363_2 :), (S.hb HB hw363_3 :)⟩ (fun hHeld => ?_)
                  clear hK K
                  refine S.nm 56 ?_
                  refine done_ (done_of HT_.out (by kernel_rfl)) ?_
                  try go_wp2
                  go_ret
                  exact ⟨S.eW, S.bA⟩
                 ·have H' := Aside0.mk H
                  clear H
                  try go_wp2
                  replace HB := Aside0.mk (below_drew1 HB.out)
                  have p360 : 0 ≤ (t357 : Int) := S.oD
                  have q360 : t357 < (l0.length : Int) := S.oD
                  obtain ⟨ad360, e360, hx360_0, hx360_1, hx360_2, hx360_3⟩ := at_T71 HR0.out t357 p360 q360
                  have hw360_3 := hx360_3
                  have hw360_2 := hx360_2
                  have hw360_1 := hx360_1
                  have hw360_0 := hx360_0
                  cases e360
                  replace hx360_0 := S.hb HB hx360_0
                  replace hx360_1 := S.hb HB hx360_1
                  replace hx360_2 := S.hb HB hx360_2
                  replace hx360_3 := S.hb HB hx360_3
                  replace p360 := eq_true p360
                  replace q360 := eq_true q360
                  have p361 : 0 ≤ (x7_3 : Int) := S.oD
                  have q361 : x7_3 < (l1.length : Int) := S.oD
                  obtain ⟨ad361, e361, hx361_0⟩ := Kd.at_int HR1.out x7_3 p361 q361
                  have hw361_0 := hx361_0
                  obtain rfl : ad356 = ad361 := (by injection e361)
                  replace hx361_0 := S.hb HB hx361_0
                  replace p361 := eq_true p361
                  replace q361 := eq_true q361
                  have p363 : 0 ≤ (t362 : Int) := S.oD
                  have q363 : t362 < (l0.length : Int) := S.oD
                  obtain ⟨ad363, e363, hx363_0, hx363_1, hx363_2, hx363_3⟩ := at_T71 HR0.out t362 p363 q363
                  have hw363_3 := hx363_3
                  have hw363_2 := hx363_2
                  have hw363_1 := hx363_1
                  have hw363_0 := hx363_0
                  obtain rfl : ad360 = ad363 := (by injection e363)
                  replace hx363_0 := S.hb HB hx363_0
                  replace hx363_1 := S.hb HB hx363_1
                  replace hx363_2 := S.hb HB hx363_2
                  replace hx363_3 := S.hb HB hx363_3
                  replace p363 := eq_true p363
                  replace q363 := eq_true q363
                  refine S.st (n := 14) (ds := []) #[false, false, false, false, false, false, false, false, false, false, false, false, false, false] (fun w_ h_ => have x_ := And.intro (S.q h_ (S.hb HB hw360_0)) (And.intro (S.q h_ (S.hb HB hw360_1)) (And.intro (S.q h_ (S.hb HB hw360_2)) (And.intro (S.q h_ (S.hb HB hw360_3)) (And.intro (S.q h_ (S.hb HB hw361_0)) (And.intro (S.q h_ (S.hb HB hw363_0)) (And.intro (S.q h_ (S.hb HB hw363_1)) (And.intro (S.q h_ (S.hb HB hw363_2)) (S.q h_ (S.hb HB hw363_3))))))))); x_) (fun hHeld => ?_); refine with_tabW spec_IsTogether.tab10 spec_IsTogether.bits10 (fun HT_ HW_ => ?_)
                  generalize wr.drew = w28 at HB hx360_0 hx360_1 hx360_2 hx360_3 hx361_0 hx363_0 hx363_1 hx363_2 hx363_3 hHeld ⊢
                  refine S.pS 0 43 ?_
                  refine S.pS 1 44 ?_
                  refine S.pS 2 45 ?_
                  refine S.pS 4 47 ?_
                  refine S.pS 5 48 ?_
                  refine S.pS 6 49 ?_
                  refine S.pS 7 50 ?_
                  refine S.pS 8 51 ?_
                  refine S.tK 3 46 #[true, true, true, true, true, true, true, true, true, false, false, false, false, false] ?_
                  refine S.tK 9 52 #[true, true, true, true, true, true, true, true, true, true, false, false, false, false] ?_
                  refine S.oN 10 53 #[true, true, true, true, true, true, true, true, true, true, true, false, false, false] (fun K hK => ?_)
                  refine S.go Try.func96 #[.slice (some ad360) l0.length c0, .int .i64 (rd l1 x7_3)] ?_
                  with_reducible refine (spec_FindPath.calls k3 _ _ l0 (rd l1 x7_3) t362 _ ?s1 ?s2 A21.out).mono ?_
                  (case s1 => exact S.cA HR0.out)
                  (case s2 => exact HC0.out)
                  rintro e w' ⟨rfl, ⟨nd, rfl⟩⟩
                  refine ⟨_, rfl, ?_⟩
                  refine hK.out _ _ ⟨(S.hb HB hw360_0 :), (S.hb HB hw360_1 :), (S.hb HB hw360_2 :), (S.hb HB hw360_3 :), (S.hb HB hw361_0 :), (S.hb HB hw363_0 :), (S.hb HB hw363_1 :), (S.hb HB hw363_2 :), (S.hb HB hw363_3 :)⟩ (fun hHeld => ?_)
                  clear hK K
                  refine S.nm 53 ?_
                  refine S.pS 11 54 ?_
                  refine S.tK 12 55 #[true, true, true, true, true, true, true, true, true, true, true, true, true, false] ?_
                  refine S.oN 13 56 #[true, true, true, true, true, true, true, true, true, true, true, true, true, true] (fun K hK => ?_)
                  refine S.go Try.func124 #[.agg #[.int .i64 ((rd_T71 l0 t357).f0), .int .i64 ((rd_T71 l0 t357).f1), .int .i64 ((rd_T71 l0 t357).f2), .int .i64 ((rd_T71 l0 t357).f3)], .agg #[.int .i64 ((rd_T71 l0 t362).f0), .int .i64 ((rd_T71 l0 t362).f1), .int .i64 ((rd_T71 l0 t362).f2), .int .i64 ((rd_T71 l0 t362).f3)]] ?_
                  with_reducible refine (spec_Conflict.calls k3 ((rd_T71 l0 t357).f0) ((rd_T71 l0 t357).f1) ((rd_T71 l0 t357).f2) ((rd_T71 l0 t357).f3) ((rd_T71 l0 t362).f0) ((rd_T71 l0 t362).f1) ((rd_T71 l0 t362).f2) ((rd_T71 l0 t362).f3) false _ A24.out).mono ?_
                  rintro e w29 ⟨rfl, hb⟩
                  refine ⟨_, rfl, ?_⟩
                  replace HB := S.sA hb
                  (try clear hb)
                  (try clear hb2)
                  (try clear hk)
                  (try clear hi)
                  refine hK.out _ _ ⟨(S.hb HB hw360_0 :), (S.hb HB hw360_1 :), (S.hb HB hw360_2 :), (S.hb HB hw360_3 :), (S.hb HB hw361_0 :), (S.hb HB hw363_0 :), (S.hb HB hw363_1 :), (S.hb HB hw363_2 :), (S.hb HB hw363_3 :)⟩ (fun hHeld => ?_)
                  clear hK K
                  refine S.nm 56 ?_
                  refine done_ (done_of HT_.out (by kernel_rfl)) ?_
                  try go_wp2
                  go_roundg k3
                  case measure => have := HK1.out; have := HJ5.out; have := HK3.out; omega
                  case rel => exact ⟨(wrap64 (x7_3 + 1)), S.eA, H', ⟨by have := HK1.out; have := HJ5.out; have := HK3.out; omega⟩, ⟨S.bA⟩⟩
                ·rw [if_neg c23] at H
                 exact absurd H (by simp)
               ·rw [if_neg c22] at H
                exact absurd H (by simp)
              ·rw [if_neg c20] at H
               exact absurd H (by simp)
             ·rw [if_neg c19] at H
              exact absurd H (by simp)
            ·rw [if_neg c18] at H
             exact absurd H (by simp)
           ·rw [if_neg c17] at H
            exact absurd H (by simp)
          ·have H' := Aside0.mk H
           clear H
           go_wp2
           go_roundg k3
           case measure => have := HK1.out; have := HJ5.out; have := HK3.out; omega
           case rel => exact ⟨(wrap64 (x5_1 + 1)), S.eA, H', ⟨by have := HK1.out; have := HJ5.out; have := HK3.out; omega⟩, ⟨S.bA⟩⟩
    ·rw [if_neg c4] at H
     exact absurd H (by simp)
   ·replace H := Option.bind_eq_some_iff.mp H
    obtain ⟨t355, A300, H⟩ := H
    replace H : (some t355) = some r := H
    have A30 := Aside0.mk A300
    clear A300
    obtain rfl := Option.some.inj H
    go_wp2_with (first | ((with_reducible refine gate_callee (f := 125) rfl ?_); refine S.gL (some 58) Try.func125 #[.slice A0 l0.length c0] ?_; (with_reducible refine (spec_ArePaths.calls k1 _ _ l0 t355 _ ?s1 HC0.out A30.out).mono ?_); (case s1 => exact S.cA HR0.out); rintro e w31 ⟨rfl, hb⟩; refine ⟨_, rfl, ?_⟩; replace HB := S.sA hb; (try clear hb)))
    go_ret
    exact ⟨S.eW, S.bA⟩
/-! ### spec_LeastGreen: function 100 -/
def spec_LeastGreen.l0 : Nat → List (S71) → List Int → Int → Option (Int)
 | 0, _, _, _ => none
 | k + 1, x0, x1, x5 => if x5 < (x1.length : Int) then (if 0 ≤ x5 then ((spec_FindPath.f k x0 (rd x1 x5)).bind fun t366 => (if t366 ≥ 0 then (if 0 ≤ t366 then (if t366 < (x0.length : Int) then (if ((rd_T71 x0 t366).f1) = 2 then (some 7) else (spec_LeastGreen.l0 k x0 x1 (wrap64 (x5 + 1)))) else (none)) else (none)) else (spec_LeastGreen.l0 k x0 x1 (wrap64 (x5 + 1))))) else (none)) else (some 5)
def spec_LeastGreen.f (k : Nat) (l0 : List (S71)) (l1 : List Int) : Option (Int) := spec_LeastGreen.l0 k l0 l1 0
theorem spec_LeastGreen.calls (k : Nat) (A0 : Option Addr) (c0 : Nat) (l0 : List (S71)) (A1 : Option Addr) (c1 : Nat) (l1 : List Int) (r : Int) (w : World) (hr0 : Kd.C k71 w A0 l0.length l0) (hc0 : l0.length ≤ c0) (hr1 : Kd.C (Kd.int .i64) w A1 l1.length l1) (hc1 : l1.length ≤ c1) (h : spec_LeastGreen.f k l0 l1 = some r) :
  Calls Try.prog 100 #[.slice A0 l0.length c0, .slice A1 l1.length c1] w fun e w' => e = .returned (.int .i64 r) ∧ Drawn0 w w' := by
 have HR0 := Aside0.mk hr0
 have HC0 := Aside0.mk hc0
 clear hr0 hc0
 have HR1 := Aside0.mk hr1
 have HC1 := Aside0.mk hc1
 clear hr1 hc1
 have H : (spec_LeastGreen.l0 k l0 l1 0) = some r := h
 clear h
 have H' := Aside0.mk H
 clear H
 go_enter Try.func100, Try.ntmps100
 go_wp2
 go_loopg [5] k (fun kq v5 w' => ∃ (x5_1 : Int), v5 = .int .i64 x5_1 ∧ Aside0 (spec_LeastGreen.l0 kq l0 l1 x5_1 = some r) ∧ Aside0 (kq ≤ k) ∧ Drawn0 w w')
 case atStart => exact ⟨(0), S.eA, H', ⟨Nat.le_refl _⟩, by repeat (first | exact Drawn0.refl _ | apply Drawn0.step)⟩
 case round =>
  clear H'
  try clear c1
  obtain ⟨x5_1, rfl, HA, HK1, ⟨m1, rfl⟩⟩ := hrel
  cases gk with
  | zero => exact absurd HA.out (by simp [spec_LeastGreen.l0])
  | succ k1 =>
   have H := HA.out
   clear HA
   simp only [spec_LeastGreen.l0] at H
   replace H := S.dc H; rcases H with ⟨H, c3b0⟩ | ⟨H, c3b0⟩
   ·by_cases c4 : 0 ≤ x5_1
    ·rw [if_pos c4] at H
     have c4b0 : decide (0 ≤ x5_1) = true := decide_eq_true c4
     clear c4
     replace H := S.bd H; obtain ⟨t366, A5, H⟩ := H
     (try dsimp only at H)
     by_cases c6 : t366 ≥ 0
     ·rw [if_pos c6] at H
      have c6b0 : decide (0 ≤ t366) = true := decide_eq_true c6
      clear c6
      by_cases c7 : 0 ≤ t366
      ·rw [if_pos c7] at H
       have c7b0 : decide (0 ≤ t366) = true := decide_eq_true c7
       clear c7
       by_cases c8 : t366 < (l0.length : Int)
       ·rw [if_pos c8] at H
        have c8b0 : decide (t366 < (l0.length : Int)) = true := decide_eq_true c8
        clear c8
        by_cases c9 : ((rd_T71 l0 t366).f1) = 2
        ·rw [if_pos c9] at H
         have c9b0 : (((rd_T71 l0 t366).f1) == 2) = true := beq_iff_eq.mpr c9
         have c9b1 : (((rd_T71 l0 t366).f1) != 2) = false := bne_eq_false_iff_eq.mpr c9
         clear c9
         obtain rfl := Option.some.inj H
         have p365 : 0 ≤ (x5_1 : Int) := S.oD
         have q365 : x5_1 < (l1.length : Int) := S.oD
         obtain ⟨ad365, e365, hx365_0⟩ := Kd.at_int HR1.out x5_1 p365 q365
         cases e365
         replace p365 := eq_true p365
         replace q365 := eq_true q365
         go_wp2_with (first | ((with_reducible refine gate_callee (f := 96) rfl ?_); refine S.gL (some 18) Try.func96 #[.slice A0 l0.length c0, .int .i64 (rd l1 x5_1)] ?_; (with_reducible refine (spec_FindPath.calls k1 _ _ l0 (rd l1 x5_1) t366 _ ?s1 HC0.out A5.out).mono ?_); (case s1 => exact S.cD HR0.out); rintro e w' ⟨rfl, ⟨nd, rfl⟩⟩; refine ⟨_, rfl, ?_⟩; have p367 : 0 ≤ (t366 : Int) := S.oD; have q367 : t366 < (l0.length : Int) := S.oD; obtain ⟨ad367, e367, hx367_0, hx367_1, hx367_2, hx367_3⟩ := at_T71 HR0.out t366 p367 q367; cases e367; replace p367 := eq_true p367; replace q367 := eq_true q367))
         go_ret
         exact ⟨S.eA, by repeat (first | exact Drawn0.refl _ | apply Drawn0.step)⟩
        ·rw [if_neg c9] at H
         have c9b0 : (((rd_T71 l0 t366).f1) == 2) = false := beq_eq_false_iff_ne.mpr c9
         have c9b1 : (((rd_T71 l0 t366).f1) != 2) = true := bne_iff_ne.mpr c9
         have H' := Aside0.mk H
         clear H
         have p365 : 0 ≤ (x5_1 : Int) := S.oD
         have q365 : x5_1 < (l1.length : Int) := S.oD
         obtain ⟨ad365, e365, hx365_0⟩ := Kd.at_int HR1.out x5_1 p365 q365
         cases e365
         replace p365 := eq_true p365
         replace q365 := eq_true q365
         go_wp2_with (first | ((with_reducible refine gate_callee (f := 96) rfl ?_); refine S.gL (some 18) Try.func96 #[.slice A0 l0.length c0, .int .i64 (rd l1 x5_1)] ?_; (with_reducible refine (spec_FindPath.calls k1 _ _ l0 (rd l1 x5_1) t366 _ ?s1 HC0.out A5.out).mono ?_); (case s1 => exact S.cD HR0.out); rintro e w' ⟨rfl, ⟨nd, rfl⟩⟩; refine ⟨_, rfl, ?_⟩; have p367 : 0 ≤ (t366 : Int) := S.oD; have q367 : t366 < (l0.length : Int) := S.oD; obtain ⟨ad367, e367, hx367_0, hx367_1, hx367_2, hx367_3⟩ := at_T71 HR0.out t366 p367 q367; cases e367; replace p367 := eq_true p367; replace q367 := eq_true q367))
         go_roundg k1
         case measure => have := HK1.out; omega
         case rel => exact ⟨(wrap64 (x5_1 + 1)), S.eA, H', ⟨by have := HK1.out; omega⟩, by repeat (first | exact Drawn0.refl _ | apply Drawn0.step)⟩
       ·rw [if_neg c8] at H
        exact absurd H (by simp)
      ·rw [if_neg c7] at H
       exact absurd H (by simp)
     ·rw [if_neg c6] at H
      have c6b0 : decide (0 ≤ t366) = false := decide_eq_false c6
      clear c6
      have H' := Aside0.mk H
      clear H
      have p365 : 0 ≤ (x5_1 : Int) := S.oD
      have q365 : x5_1 < (l1.length : Int) := S.oD
      obtain ⟨ad365, e365, hx365_0⟩ := Kd.at_int HR1.out x5_1 p365 q365
      cases e365
      replace p365 := eq_true p365
      replace q365 := eq_true q365
      go_wp2_with (first | ((with_reducible refine gate_callee (f := 96) rfl ?_); refine S.gL (some 18) Try.func96 #[.slice A0 l0.length c0, .int .i64 (rd l1 x5_1)] ?_; (with_reducible refine (spec_FindPath.calls k1 _ _ l0 (rd l1 x5_1) t366 _ ?s1 HC0.out A5.out).mono ?_); (case s1 => exact S.cD HR0.out); rintro e w' ⟨rfl, ⟨nd, rfl⟩⟩; refine ⟨_, rfl, ?_⟩))
      go_roundg k1
      case measure => have := HK1.out; omega
      case rel => exact ⟨(wrap64 (x5_1 + 1)), S.eA, H', ⟨by have := HK1.out; omega⟩, by repeat (first | exact Drawn0.refl _ | apply Drawn0.step)⟩
    ·rw [if_neg c4] at H
     exact absurd H (by simp)
   ·obtain rfl := Option.some.inj H
    go_wp2
    go_ret
    exact ⟨S.eA, by repeat (first | exact Drawn0.refl _ | apply Drawn0.step)⟩

/-! ### spec_l6Has: function 72 -/
def spec_l6Has.l0 : Nat → List Int → Int → Int → Option (Bool)
 | 0, _, _, _ => none
 | k + 1, x0, x1, x5 => if x5 < (x0.length : Int) then (if 0 ≤ x5 then (if (rd x0 x5) = x1 then (some true) else (spec_l6Has.l0 k x0 x1 (wrap64 (x5 + 1)))) else (none)) else (some false)
def spec_l6Has.f (k : Nat) (l0 : List Int) (a1 : Int) : Option (Bool) := spec_l6Has.l0 k l0 a1 0
theorem spec_l6Has.calls (k : Nat) (A0 : Option Addr) (c0 : Nat) (l0 : List Int) (a1 : Int) (r : Bool) (w : World) (hr0 : Kd.C (Kd.int .i64) w A0 l0.length l0) (hc0 : l0.length ≤ c0) (h : spec_l6Has.f k l0 a1 = some r) :
  Calls Try.prog 72 #[.slice A0 l0.length c0, .int .i64 a1] w fun e w' => e = .returned (.bool r) ∧ Drawn0 w w' := by
 have HR0 := Aside0.mk hr0
 have HC0 := Aside0.mk hc0
 clear hr0 hc0
 have H : (spec_l6Has.l0 k l0 a1 0) = some r := h
 clear h
 have H' := Aside0.mk H
 clear H
 go_enter Try.func72, Try.ntmps72
 go_wp2
 go_loopg [5] k (fun kq v5 w' => ∃ (x5_1 : Int), v5 = .int .i64 x5_1 ∧ Aside0 (spec_l6Has.l0 kq l0 a1 x5_1 = some r) ∧ Aside0 (kq ≤ k) ∧ Drawn0 w w')
 case atStart => exact ⟨(0), S.eA, H', ⟨Nat.le_refl _⟩, by repeat (first | exact Drawn0.refl _ | apply Drawn0.step)⟩
 case round =>
  clear H'
  obtain ⟨x5_1, rfl, HA, HK1, ⟨m1, rfl⟩⟩ := hrel
  cases gk with
  | zero => exact absurd HA.out (by simp [spec_l6Has.l0])
  | succ k1 =>
   have H := HA.out
   clear HA
   simp only [spec_l6Has.l0] at H
   replace H := S.dc H; rcases H with ⟨H, c3b0⟩ | ⟨H, c3b0⟩
   ·by_cases c4 : 0 ≤ x5_1
    ·rw [if_pos c4] at H
     have c4b0 : decide (0 ≤ x5_1) = true := decide_eq_true c4
     clear c4
     by_cases c5 : (rd l0 x5_1) = a1
     ·rw [if_pos c5] at H
      have c5b0 : ((rd l0 x5_1) == a1) = true := beq_iff_eq.mpr c5
      have c5b1 : ((rd l0 x5_1) != a1) = false := bne_eq_false_iff_eq.mpr c5
      clear c5
      obtain rfl := Option.some.inj H
      have p368 : 0 ≤ (x5_1 : Int) := S.oD
      have q368 : x5_1 < (l0.length : Int) := S.oD
      obtain ⟨ad368, e368, hx368_0⟩ := Kd.at_int HR0.out x5_1 p368 q368
      cases e368
      replace p368 := eq_true p368
      replace q368 := eq_true q368
      go_wp2
      go_ret
      exact ⟨S.eA, by repeat (first | exact Drawn0.refl _ | apply Drawn0.step)⟩
     ·rw [if_neg c5] at H
      have c5b0 : ((rd l0 x5_1) == a1) = false := beq_eq_false_iff_ne.mpr c5
      have c5b1 : ((rd l0 x5_1) != a1) = true := bne_iff_ne.mpr c5
      have H' := Aside0.mk H
      clear H
      have p368 : 0 ≤ (x5_1 : Int) := S.oD
      have q368 : x5_1 < (l0.length : Int) := S.oD
      obtain ⟨ad368, e368, hx368_0⟩ := Kd.at_int HR0.out x5_1 p368 q368
      cases e368
      replace p368 := eq_true p368
      replace q368 := eq_true q368
      go_wp2
      go_roundg k1
      case measure => have := HK1.out; omega
      case rel => exact ⟨(wrap64 (x5_1 + 1)), S.eA, H', ⟨by have := HK1.out; omega⟩, by repeat (first | exact Drawn0.refl _ | apply Drawn0.step)⟩
    ·rw [if_neg c4] at H
     exact absurd H (by simp)
   ·obtain rfl := Option.some.inj H
    go_wp2
    go_ret
    exact ⟨S.eA, by repeat (first | exact Drawn0.refl _ | apply Drawn0.step)⟩

/-! ### spec_Covers: function 101 -/
mutual
def spec_Covers.l0 : Nat → List (S71) → List (List Int) → Int → Option (Bool)
 | 0, _, _, _ => none
 | k + 1, x0, x1, x5 => if x5 < (x1.length : Int) then (if 0 ≤ x5 then ((spec_IsTogether.f k x0 (rd_L2 x1 x5)).bind fun t370 => (if t370 = true then (spec_Covers.l0 k x0 x1 (wrap64 (x5 + 1))) else (some false))) else (none)) else (spec_Covers.l1 k x0 x1 0)
def spec_Covers.l1 : Nat → List (S71) → List (List Int) → Int → Option (Bool)
 | 0, _, _, _ => none
 | k + 1, x0, x1, x6 => if x6 < (x0.length : Int) then (spec_Covers.l2 k x0 x1 x6 false 0) else ((spec_ArePaths.f k x0).bind fun t371 => (some t371))
def spec_Covers.l2 : Nat → List (S71) → List (List Int) → Int → Bool → Int → Option (Bool)
 | 0, _, _, _, _, _ => none
 | k + 1, x0, x1, x6, x7, x8 => if x8 < (x1.length : Int) then (if x7 = true then (spec_Covers.l2 k x0 x1 x6 true (wrap64 (x8 + 1))) else (if 0 ≤ x8 then (if 0 ≤ x6 then (if x6 < (x0.length : Int) then ((spec_l6Has.f k (rd_L2 x1 x8) ((rd_T71 x0 x6).f0)).bind fun t374 => (spec_Covers.l2 k x0 x1 x6 t374 (wrap64 (x8 + 1)))) else (none)) else (none)) else (none))) else (if x7 = true then (spec_Covers.l1 k x0 x1 (wrap64 (x6 + 1))) else (some false))
end
def spec_Covers.f (k : Nat) (l0 : List (S71)) (l1 : List (List Int)) : Option (Bool) := spec_Covers.l0 k l0 l1 0
theorem spec_Covers.calls (k : Nat) (A0 : Option Addr) (c0 : Nat) (l0 : List (S71)) (A1 : Option Addr) (c1 : Nat) (l1 : List (List Int)) (r : Bool) (w : World) (hr0 : Kd.C k71 w A0 l0.length l0) (hc0 : l0.length ≤ c0) (hr1 : Kd.C (Kd.slice 3 (Kd.int .i64)) w A1 l1.length l1) (hc1 : l1.length ≤ c1) (h : spec_Covers.f k l0 l1 = some r) :
  Calls Try.prog 101 #[.slice A0 l0.length c0, .slice A1 l1.length c1] w fun e w' => e = .returned (.bool r) ∧ Below w.heap.size w w' := by
 have HR0 := Aside0.mk hr0
 have HC0 := Aside0.mk hc0
 clear hr0 hc0
 have HR1 := Aside0.mk hr1
 have HC1 := Aside0.mk hc1
 clear hr1 hc1
 have HB := Aside0.mk (Below.refl w.heap.size w)
 have H : (spec_Covers.l0 k l0 l1 0) = some r := h
 clear h
 have H' := Aside0.mk H
 clear H
 go_enter Try.func101, Try.ntmps101
 go_wp2
 repeat (go_quiet (fail); try go_wp2)
 go_loopg [5] k (fun kq v5 w' => ∃ (x5_1 : Int), v5 = .int .i64 x5_1 ∧ Aside0 (spec_Covers.l0 kq l0 l1 x5_1 = some r) ∧ Aside0 (kq ≤ k) ∧ Aside0 (Below w.heap.size w w'))
 case atStart => exact ⟨(0), S.eA, H', ⟨Nat.le_refl _⟩, ⟨S.bA⟩⟩
 case round =>
  clear H'
  try clear c1
  obtain ⟨x5_1, rfl, HA, HK1, HB⟩ := hrel
  cases gk with
  | zero => exact absurd HA.out (by simp [spec_Covers.l0])
  | succ k1 =>
   have H := HA.out
   clear HA
   simp only [spec_Covers.l0] at H
   replace H := S.dc H; rcases H with ⟨H, c3b0⟩ | ⟨H, c3b0⟩
   ·by_cases c4 : 0 ≤ x5_1
    ·rw [if_pos c4] at H
     have c4b0 : decide (0 ≤ x5_1) = true := decide_eq_true c4
     clear c4
     replace H := S.bd H; obtain ⟨t370, A5, H⟩ := H
     (try dsimp only at H)
     replace H := S.db H; rcases H with ⟨rfl, H⟩ | ⟨rfl, H⟩
     ·have H' := Aside0.mk H
      clear H
      have p369 : 0 ≤ (x5_1 : Int) := S.oD
      have q369 : x5_1 < (l1.length : Int) := S.oD
      obtain ⟨ad369, A369_0, c369_0, e369, hx369_0, hl369_0, hi369_0⟩ := at_L2 HR1.out x5_1 p369 q369
      cases e369
      replace hx369_0 := S.hb HB hx369_0
      have HR369_0 := Aside0.mk hi369_0
      have HC369_0 := Aside0.mk hl369_0
      clear hi369_0 hl369_0
      replace p369 := eq_true p369
      replace q369 := eq_true q369
      go_wp2_with (first | (go_at_call 99; (with_reducible refine (spec_IsTogether.calls k1 _ _ l0 _ _ (rd_L2 l1 x5_1) true _ ?s1 HC0.out ?s3 HC369_0.out A5.out).mono ?_); (case s1 => exact S.cA HR0.out); (case s3 => exact S.cA HR369_0.out); rintro e w7 ⟨rfl, hb⟩; replace HB := S.sA hb; (try clear hb)))
      repeat (go_quiet (first | (go_at_call 99; (with_reducible refine (spec_IsTogether.calls k1 _ _ l0 _ _ (rd_L2 l1 x5_1) true _ ?s1 HC0.out ?s3 HC369_0.out A5.out).mono ?_); (case s1 => exact S.cA HR0.out); (case s3 => exact S.cA HR369_0.out); rintro e w7 ⟨rfl, hb⟩; replace HB := S.sA hb; (try clear hb))); try go_wp2_with (first | (go_at_call 99; (with_reducible refine (spec_IsTogether.calls k1 _ _ l0 _ _ (rd_L2 l1 x5_1) true _ ?s1 HC0.out ?s3 HC369_0.out A5.out).mono ?_); (case s1 => exact S.cA HR0.out); (case s3 => exact S.cA HR369_0.out); rintro e w7 ⟨rfl, hb⟩; have n0_ := S.sA hb; clear HB; have HB := n0_; clear n0_; (try clear hb); (try clear hb2); (try clear hk); (try clear hi))))
      go_roundg k1
      case measure => have := HK1.out; omega
      case rel => exact ⟨(wrap64 (x5_1 + 1)), S.eA, H', ⟨by have := HK1.out; omega⟩, ⟨S.bA⟩⟩
     ·obtain rfl := Option.some.inj H
      have p369 : 0 ≤ (x5_1 : Int) := S.oD
      have q369 : x5_1 < (l1.length : Int) := S.oD
      obtain ⟨ad369, A369_0, c369_0, e369, hx369_0, hl369_0, hi369_0⟩ := at_L2 HR1.out x5_1 p369 q369
      cases e369
      replace hx369_0 := S.hb HB hx369_0
      have HR369_0 := Aside0.mk hi369_0
      have HC369_0 := Aside0.mk hl369_0
      clear hi369_0 hl369_0
      replace p369 := eq_true p369
      replace q369 := eq_true q369
      go_wp2_with (first | (go_at_call 99; (with_reducible refine (spec_IsTogether.calls k1 _ _ l0 _ _ (rd_L2 l1 x5_1) false _ ?s1 HC0.out ?s3 HC369_0.out A5.out).mono ?_); (case s1 => exact S.cA HR0.out); (case s3 => exact S.cA HR369_0.out); rintro e w8 ⟨rfl, hb⟩; replace HB := S.sA hb; (try clear hb)))
      repeat (go_quiet (first | (go_at_call 99; (with_reducible refine (spec_IsTogether.calls k1 _ _ l0 _ _ (rd_L2 l1 x5_1) false _ ?s1 HC0.out ?s3 HC369_0.out A5.out).mono ?_); (case s1 => exact S.cA HR0.out); (case s3 => exact S.cA HR369_0.out); rintro e w8 ⟨rfl, hb⟩; replace HB := S.sA hb; (try clear hb))); try go_wp2_with (first | (go_at_call 99; (with_reducible refine (spec_IsTogether.calls k1 _ _ l0 _ _ (rd_L2 l1 x5_1) false _ ?s1 HC0.out ?s3 HC369_0.out A5.out).mono ?_); (case s1 => exact S.cA HR0.out); (case s3 => exact S.cA HR369_0.out); rintro e w8 ⟨rfl, hb⟩; have n0_ := S.sA hb; clear HB; have HB := n0_; clear n0_; (try clear hb); (try clear hb2); (try clear hk); (try clear hi))))
      go_ret
      exact ⟨S.eW, S.bA⟩
    ·rw [if_neg c4] at H
     exact absurd H (by simp)
   ·have H' := Aside0.mk H
    clear H
    go_wp2
    repeat (go_quiet (fail); try go_wp2)
    go_loopg [6] k1 (fun kq v6 w' => ∃ (x6_2 : Int), v6 = .int .i64 x6_2 ∧ Aside0 (spec_Covers.l1 kq l0 l1 x6_2 = some r) ∧ Aside0 (kq ≤ k1) ∧ Aside0 (Below w.heap.size w w'))
    case atStart => exact ⟨(0), S.eA, H', ⟨Nat.le_refl _⟩, ⟨S.bA⟩⟩
    case round =>
     clear H'
     try clear c1
     try clear c3
     try clear c3b0
     obtain ⟨x6_2, rfl, HA, HK2, HB⟩ := hrel
     cases gk with
     | zero => exact absurd HA.out (by simp [spec_Covers.l1])
     | succ k2 =>
      have H := HA.out
      clear HA
      simp only [spec_Covers.l1] at H
      replace H := S.dc H; rcases H with ⟨H, c9b0⟩ | ⟨H, c9b0⟩
      ·have H' := Aside0.mk H
       clear H
       go_wp2
       repeat (go_quiet (fail); try go_wp2)
       go_loopg [7, 8] k2 (fun kq v7 v8 w' => ∃ (x7_3 : Bool) (x8_3 : Int), v7 = .bool x7_3 ∧ v8 = .int .i64 x8_3 ∧ Aside0 (spec_Covers.l2 kq l0 l1 x6_2 x7_3 x8_3 = some r) ∧ Aside0 (kq ≤ k2) ∧ Aside0 (Below w.heap.size w w'))
       case atStart => exact ⟨(false), (0), S.eA, S.eA, H', ⟨Nat.le_refl _⟩, ⟨S.bA⟩⟩
       case round =>
        clear H'
        try clear c1
        try clear c3
        try clear c3b0
        try clear c9
        try clear c9b0
        obtain ⟨x7_3, x8_3, rfl, rfl, HA, HK3, HB⟩ := hrel
        cases gk with
        | zero => exact absurd HA.out (by simp [spec_Covers.l2])
        | succ k3 =>
         have H := HA.out
         clear HA
         simp only [spec_Covers.l2] at H
         replace H := S.dc H; rcases H with ⟨H, c10b0⟩ | ⟨H, c10b0⟩
         ·by_cases c11 : x7_3 = true
          ·subst c11
           replace H := S.it H
           have H' := Aside0.mk H
           clear H
           go_wp2
           repeat (go_quiet (fail); try go_wp2)
           go_roundg k3
           case measure => have := HK1.out; have := HK2.out; have := HK3.out; omega
           case rel => exact ⟨(true), (wrap64 (x8_3 + 1)), S.eA, S.eA, H', ⟨by have := HK1.out; have := HK2.out; have := HK3.out; omega⟩, ⟨S.bA⟩⟩
          ·replace c11 := Bool.eq_false_iff.mpr c11
           subst c11
           replace H := S.ie H
           by_cases c12 : 0 ≤ x8_3
           ·rw [if_pos c12] at H
            have c12b0 : decide (0 ≤ x8_3) = true := decide_eq_true c12
            clear c12
            by_cases c13 : 0 ≤ x6_2
            ·rw [if_pos c13] at H
             have c13b0 : decide (0 ≤ x6_2) = true := decide_eq_true c13
             clear c13
             by_cases c14 : x6_2 < (l0.length : Int)
             ·rw [if_pos c14] at H
              have c14b0 : decide (x6_2 < (l0.length : Int)) = true := decide_eq_true c14
              clear c14
              replace H := S.bd H; obtain ⟨t374, A15, H⟩ := H
              (try dsimp only at H)
              have H' := Aside0.mk H
              clear H
              have p372 : 0 ≤ (x8_3 : Int) := S.oD
              have q372 : x8_3 < (l1.length : Int) := S.oD
              obtain ⟨ad372, A372_0, c372_0, e372, hx372_0, hl372_0, hi372_0⟩ := at_L2 HR1.out x8_3 p372 q372
              cases e372
              replace hx372_0 := S.hb HB hx372_0
              have HR372_0 := Aside0.mk hi372_0
              have HC372_0 := Aside0.mk hl372_0
              clear hi372_0 hl372_0
              replace p372 := eq_true p372
              replace q372 := eq_true q372
              have p373 : 0 ≤ (x6_2 : Int) := S.oD
              have q373 : x6_2 < (l0.length : Int) := S.oD
              obtain ⟨ad373, e373, hx373_0, hx373_1, hx373_2, hx373_3⟩ := at_T71 HR0.out x6_2 p373 q373
              cases e373
              replace hx373_0 := S.hb HB hx373_0
              replace hx373_1 := S.hb HB hx373_1
              replace hx373_2 := S.hb HB hx373_2
              replace hx373_3 := S.hb HB hx373_3
              replace p373 := eq_true p373
              replace q373 := eq_true q373
              go_wp2_with (first | (go_at_call 72; (with_reducible refine (spec_l6Has.calls k3 _ _ (rd_L2 l1 x8_3) ((rd_T71 l0 x6_2).f0) t374 _ ?s1 HC372_0.out A15.out).mono ?_); (case s1 => exact S.cA HR372_0.out); rintro e w' ⟨rfl, ⟨nd, rfl⟩⟩; (try first | exact ⟨rfl, _, World.drewN_drewN _ _ _⟩ | exact ⟨rfl, _, Eq.trans (World.drewN_drewN _ _ _) (congrArg (World.drewN _) (Nat.add_assoc _ _ _))⟩)))
              repeat (go_quiet (first | (go_at_call 72; (with_reducible refine (spec_l6Has.calls k3 _ _ (rd_L2 l1 x8_3) ((rd_T71 l0 x6_2).f0) t374 _ ?s1 HC372_0.out A15.out).mono ?_); (case s1 => exact S.cA HR372_0.out); rintro e w' ⟨rfl, ⟨nd, rfl⟩⟩; (try first | exact ⟨rfl, _, World.drewN_drewN _ _ _⟩ | exact ⟨rfl, _, Eq.trans (World.drewN_drewN _ _ _) (congrArg (World.drewN _) (Nat.add_assoc _ _ _))⟩))); try go_wp2_with (first | (go_at_call 72; (with_reducible refine (spec_l6Has.calls k3 _ _ (rd_L2 l1 x8_3) ((rd_T71 l0 x6_2).f0) t374 _ ?s1 HC372_0.out A15.out).mono ?_); (case s1 => exact S.cA HR372_0.out); rintro e w' ⟨rfl, ⟨nd, rfl⟩⟩; (try first | exact ⟨rfl, _, World.drewN_drewN _ _ _⟩ | exact ⟨rfl, _, Eq.trans (World.drewN_drewN _ _ _) (congrArg (World.drewN _) (Nat.add_assoc _ _ _))⟩))))
              go_roundg k3
              case measure => have := HK1.out; have := HK2.out; have := HK3.out; omega
              case rel => exact ⟨(t374), (wrap64 (x8_3 + 1)), S.eA, S.eA, H', ⟨by have := HK1.out; have := HK2.out; have := HK3.out; omega⟩, ⟨S.bA⟩⟩
             ·rw [if_neg c14] at H
              exact absurd H (by simp)
            ·rw [if_neg c13] at H
             exact absurd H (by simp)
           ·rw [if_neg c12] at H
            exact absurd H (by simp)
         ·by_cases c16 : x7_3 = true
          ·subst c16
           replace H := S.it H
           have H' := Aside0.mk H
           clear H
           go_wp2
           repeat (go_quiet (fail); try go_wp2)
           go_roundg k3
           case measure => have := HK1.out; have := HK2.out; have := HK3.out; omega
           case rel => exact ⟨(wrap64 (x6_2 + 1)), S.eA, H', ⟨by have := HK1.out; have := HK2.out; have := HK3.out; omega⟩, ⟨S.bA⟩⟩
          ·replace c16 := Bool.eq_false_iff.mpr c16
           subst c16
           replace H := S.ie H
           obtain rfl := Option.some.inj H
           go_wp2
           repeat (go_quiet (fail); try go_wp2)
           go_ret
           exact ⟨S.eW, S.bA⟩
      ·replace H := Option.bind_eq_some_iff.mp H
       obtain ⟨t371, A170, H⟩ := H
       replace H : (some t371) = some r := H
       have A17 := Aside0.mk A170
       clear A170
       obtain rfl := Option.some.inj H
       go_wp2_with (first | (go_at_call 125; (with_reducible refine (spec_ArePaths.calls k2 _ _ l0 t371 _ ?s1 HC0.out A17.out).mono ?_); (case s1 => exact S.cA HR0.out); rintro e w18 ⟨rfl, hb⟩; replace HB := S.sA hb; (try clear hb)))
       repeat (go_quiet (first | (go_at_call 125; (with_reducible refine (spec_ArePaths.calls k2 _ _ l0 t371 _ ?s1 HC0.out A17.out).mono ?_); (case s1 => exact S.cA HR0.out); rintro e w18 ⟨rfl, hb⟩; replace HB := S.sA hb; (try clear hb))); try go_wp2_with (first | (go_at_call 125; (with_reducible refine (spec_ArePaths.calls k2 _ _ l0 t371 _ ?s1 HC0.out A17.out).mono ?_); (case s1 => exact S.cA HR0.out); rintro e w18 ⟨rfl, hb⟩; have n0_ := S.sA hb; clear HB; have HB := n0_; clear n0_; (try clear hb); (try clear hb2); (try clear hk); (try clear hi))))
       go_ret
       exact ⟨S.eW, S.bA⟩

/-! ### spec_l8Stages: function 102 -/
def spec_l8Stages.l0 : Nat → List (S85) → List (List Int) → Int → Option ((List (List Int)))
 | 0, _, _, _ => none
 | k + 1, x0, x3, x4 => if x4 < (x0.length : Int) then (if 0 ≤ x4 then (if x3.length < 5864062014805 then (spec_l8Stages.l0 k x0 (x3 ++ [(rd_T85 x0 x4).f0]) (wrap64 (x4 + 1))) else (none)) else (none)) else (some x3)
def spec_l8Stages.f (k : Nat) (l0 : List (S85)) : Option ((List (List Int))) := spec_l8Stages.l0 k l0 (([] : List (List Int))) 0
theorem spec_l8Stages.calls (k : Nat) (P0_ : Nat → Prop) (A0 : Option Addr) (c0 : Nat) (l0 : List (S85)) (r : List (List Int)) (w : World) (hs0 : Kd.V k85 85 w w.heap.size (fun k_ => P0_ k_) (.slice A0 l0.length c0) l0) (h : spec_l8Stages.f k l0 = some r) :
  Calls Try.prog 102 #[.slice A0 l0.length c0] w fun e w' => ∃ v0_ : Value, e = .returned (v0_) ∧ Kd.N (Kd.slice 3 (Kd.int .i64)) 36 w' w.heap.size (fun k_ => (P0_ k_ ∨ w.heap.size ≤ k_)) v0_ r ∧ Below w.heap.size w w' := by
 have HO0 := Aside0.mk (show Kd.V k85 85 w w.heap.size (fun k_ => (P0_ k_ ∨ w.heap.size ≤ k_)) (.slice A0 l0.length c0) l0 from Kd.V_mono hs0 (fun k_ hk => .inl hk))
 have HB := Aside0.mk (Below.refl w.heap.size w)
 have H : (spec_l8Stages.l0 k l0 (([] : List (List Int))) 0) = some r := h
 clear h
 obtain ⟨y375, hy375⟩ : ∃ y_ : List (List Int), y_ = (([] : List (List Int))) := ⟨_, rfl⟩
 have hY_ := hy375; replace H : (spec_l8Stages.l0 k l0 y375 0) = some r := S.rh; clear hY_
 have Ny375 := Aside0.mk hy375
 clear hy375
 have H' := Aside0.mk H
 clear H
 go_enter Try.func102, Try.ntmps102
 go_wp2_with (first | ((with_reducible refine gate_dst (N := 5) rfl ?_); refine Kd.N_lit (Kd.slice 3 (Kd.int .i64)) _ 36 ?hg (N' := 5) ?hd (xs := ([] : List (List Int))) (inner := []) (ok := (fun k_ => (P0_ k_ ∨ w.heap.size ≤ k_))) (okp := (fun k_ => (P0_ k_ ∨ w.heap.size ≤ k_))) ?hr ?hp (fun _ hk => hk) ((show ∀ k_, w.heap.size ≤ k_ → (fun k_ => (P0_ k_ ∨ w.heap.size ≤ k_)) k_ from fun k_ hk => (.inr (Nat.le_trans (below_size S.bA) hk))) _ (Nat.le_refl _)) (Below.refl _ _) (Nat.le_refl _) (by simp) ?_; (case hd => rfl); (case hg => rfl); (case hr => first | (go_simp; done) | (go_simp; rfl)); (case hp => exact (Reps.none _ _)); intro v376 w2 ho3 hb hg_ hnew_; clear hg_ hnew_; (first | rw [← Ny375.out] at ho3 | (simp only [Int.reduceToNat] at ho3; rw [← Ny375.out] at ho3)); replace HO0 := Aside0.mk (Kd.V_elder' (S.uV HO0.out) (Kd.N_base ho3) hb); have HO377 := Aside0.mk (Kd.N_lower ho3 (below_size S.bA)); replace HB := S.sA hb; clear hb ho3))
 go_loopg [3, 4] k (fun kq v3 v4 w' => ∃ (x3_1 : List (List Int)) (x4_1 : Int), v4 = .int .i64 x4_1 ∧ Aside0 (spec_l8Stages.l0 kq l0 x3_1 x4_1 = some r) ∧ Aside0 (kq ≤ k) ∧ Aside0 (Kd.V k85 85 w' w.heap.size (fun k_ => (P0_ k_ ∨ w.heap.size ≤ k_) ∧ S.N k_ v3) (.slice A0 l0.length c0) l0) ∧ Aside0 (Kd.N (Kd.slice 3 (Kd.int .i64)) 36 w' w.heap.size (fun k_ => (P0_ k_ ∨ w.heap.size ≤ k_)) v3 x3_1) ∧ Aside0 (Below w.heap.size w w'))
 case atStart => exact ⟨(y375), (0), S.eA, H', ⟨Nat.le_refl _⟩, ⟨S.uV HO0.out⟩, ⟨by (with_reducible repeat (first | apply Kd.N_alloc | apply Kd.N_drewN | apply Kd.N_drew)); exact HO377.out⟩, ⟨S.bA⟩⟩
 case round =>
  clear H'
  obtain ⟨x3_1, x4_1, rfl, HA, HK1, HO_0, HO_3, HB⟩ := hrel
  cases gk with
  | zero => exact absurd HA.out (by simp [spec_l8Stages.l0])
  | succ k1 =>
   have H := HA.out
   clear HA
   simp only [spec_l8Stages.l0] at H
   replace H := S.dc H; rcases H with ⟨H, c4b0⟩ | ⟨H, c4b0⟩
   ·by_cases c5 : 0 ≤ x4_1
    ·rw [if_pos c5] at H
     have c5b0 : decide (0 ≤ x4_1) = true := decide_eq_true c5
     clear c5
     by_cases c6 : x3_1.length < 5864062014805
     ·rw [if_pos c6] at H
      have LMc6 := Aside0.mk c6
      clear c6
      obtain ⟨y379, hy379⟩ : ∃ y_ : List (List Int), y_ = (x3_1 ++ [(rd_T85 l0 x4_1).f0]) := ⟨_, rfl⟩
      have hY_ := hy379; replace H : (spec_l8Stages.l0 k1 l0 y379 (wrap64 (x4_1 + 1))) = some r := S.rh; clear hY_
      have Ny379 := Aside0.mk hy379
      clear hy379
      have H' := Aside0.mk H
      clear H
      have p378 : 0 ≤ (x4_1 : Int) := S.oD
      have q378 : x4_1 < (l0.length : Int) := S.oD
      obtain ⟨ad378, A378_0, c378_0, e378, hx378_0, hx378_1, hl378_0, hi378_0⟩ := at_T85 (Kd.V_reads' HO_0.out).2.2 x4_1 p378 q378
      cases e378
      obtain ⟨ce378, hce378, hMe378, hcc378⟩ := Kd.V_get HO_0.out z85 x4_1 p378 (by first | exact q378 | exact S.oD | (have e_ := (Kd.V_reads' HO_0.out).1; omega))
      obtain ⟨ua378_0, uc378_0, rfl, ul378_0, ge378_0⟩ := k85_openF hMe378
      have hv378_0 := hcc378 0 _ rfl
      rw [Nat.add_zero] at hv378_0
      replace hv378_0 := Option.some.inj (hv378_0.symm.trans hx378_0)
      injection hv378_0 with hva_ hvn_ hvc_
      rw [hva_] at ge378_0
      rw [hvc_] at ul378_0
      have HL378_0 := Aside0.mk (show Kd.V (Kd.int .i64) 3 _ w.heap.size _ _ ((rd_T85 l0 x4_1).f0) from Kd.V_mk ul378_0 ge378_0)
      clear hva_ hvn_ hvc_ ge378_0 ul378_0
      clear hcc378 hce378
      have HR378_0 := Aside0.mk hi378_0
      have HC378_0 := Aside0.mk hl378_0
      clear hi378_0 hl378_0
      replace p378 := eq_true p378
      replace q378 := eq_true q378
      go_wp2_with (first | ((with_reducible refine gate_builtin (b := .append) (xs := #[.tmp 12, .tmp 18]) rfl ?_); at_builtin; refine Kd.N_append (Kd.slice 3 (Kd.int .i64)) (w0 := w) w.heap.size rfl (.tmp 12) (.tmp 18) 111 36 (.slice none 0 0) 24 rfl Try.underlying111 info36 rfl (by decide) (by omega) u3 x3_1 ((rd_T85 l0 x4_1).f0) [.slice A378_0 ((rd_T85 l0 x4_1).f0).length c378_0] (fun k_ => (P0_ k_ ∨ w.heap.size ≤ k_)) (fun k_ => ((fun k_ => (P0_ k_ ∨ w.heap.size ≤ k_))) k_ ∧ some k_ ≠ (u3 : Value).ownBlock) rfl rfl ?aP (fun _ hk => hk) ?aF ?aO ?aB ?aS ?aL ?_; (case aP => exact (Kd.FK_slice_mk (Kd.V_reads' (Kd.V_mono (e := 3) (base := w.heap.size) (ok' := (fun k_ => ((fun k_ => (P0_ k_ ∨ w.heap.size ≤ k_))) k_ ∧ some k_ ≠ (u3 : Value).ownBlock)) (HL378_0.out) (fun k_ hk => ⟨hk.1, hk.2⟩))).2.1 (Kd.V_F (Kd.V_mono (e := 3) (base := w.heap.size) (ok' := (fun k_ => ((fun k_ => (P0_ k_ ∨ w.heap.size ≤ k_))) k_ ∧ some k_ ≠ (u3 : Value).ownBlock)) (HL378_0.out) (fun k_ hk => ⟨hk.1, hk.2⟩))))); (case aB => exact S.bA); (case aF => exact (fun k_ hk => (.inr (Nat.le_trans (below_size S.bA) hk)))); (case aO => exact (by (with_reducible repeat (first | apply Kd.N_alloc | apply Kd.N_drewN | apply Kd.N_drew)); exact HO_3.out)); (case aS => exact (below_size S.bA)); (case aL => have := LMc6.out; omega); intro v380 w7 ho hb hg hat; rw [← Ny379.out] at ho; have n0_ := Aside0.mk (Kd.V_afterv (ok := (fun k_ => (P0_ k_ ∨ w.heap.size ≤ k_))) (S.uV HO_0.out) hg hat); have n1_ := Aside0.mk (Kd.V_afterv (ok := (fun k_ => (P0_ k_ ∨ w.heap.size ≤ k_))) (S.uV HL378_0.out) hg hat); have n2_ := Aside0.mk (hb); have n3_ := Aside0.mk (ho); clear HO_0; clear HL378_0; clear HB; clear HO_3; have HO_0 := n0_; have HL378_0 := n1_; have HB := n2_; have HO381 := n3_; clear n0_ n1_ n2_ n3_; clear ho hb hg hat))
      go_roundg k1
      case measure => have := HK1.out; omega
      case rel => exact ⟨(y379), (wrap64 (x4_1 + 1)), S.eA, H', ⟨by have := HK1.out; omega⟩, ⟨S.uV HO_0.out⟩, ⟨by (with_reducible repeat (first | apply Kd.N_alloc | apply Kd.N_drewN | apply Kd.N_drew)); exact HO381.out⟩, ⟨S.bA⟩⟩
     ·rw [if_neg c6] at H
      exact absurd H (by simp)
    ·rw [if_neg c5] at H
     exact absurd H (by simp)
   ·obtain rfl := Option.some.inj H
    go_wp2
    go_ret
    exact ⟨_, S.eW, by (with_reducible repeat (first | apply Kd.N_alloc | apply Kd.N_drewN | apply Kd.N_drew)); exact HO_3.out, S.bA⟩
end Go.Proofs.Ytjgigmghcfdomaa.PFnSwitched
