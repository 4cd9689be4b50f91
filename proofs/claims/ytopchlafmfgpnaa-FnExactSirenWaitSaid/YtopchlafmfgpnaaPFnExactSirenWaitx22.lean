/- Printed by a program: what the Go functions compute, as plain Lean functions (.f), and the proofs that the machine's calls come to just that (.calls). -/
import Derived.Test.YtopchlafmfgpnaaPFnExactSirenWaitx0
import Derived.Test.YtopchlafmfgpnaaPFnExactSirenWaitx1
import Derived.Test.YtopchlafmfgpnaaPFnExactSirenWaitx2
import Derived.Test.YtopchlafmfgpnaaPFnExactSirenWaitx12
import Derived.Test.YtopchlafmfgpnaaPFnExactSirenWaitx21
namespace Go.Proofs.Ytopchlafmfgpnaa.PFnExactSirenWait
open Go.RowKit Go.Proofs.YtopchlafmfgpnaaW.PrintWords Go.Proofs.YtopchlafmfgpnaaW.PrintLast Go.Proofs.YtopchlafmfgpnaaW.PrintMore
attribute [local go_sem] max2_int min2_int max_two min_two max_three min_three max_four min_four   -- for this text's walks alone
set_option linter.unusedVariables false
set_option linter.unusedSimpArgs false

/-! ### laws_FnExactSirenWait: function 8 -/
mutual
def laws_FnExactSirenWait.j0 : Nat → List (S84) → Int → Int → List Int → Int → List Int → Int → Option (Bool)
 | 0, _, _, _, _, _, _, _ => none
 | k + 1, x0, x2, x7, x499000, x499001, x499002, x499003 => (laws_szControl.f x499000 x499001 x499002 x499003 x7).bind fun t500 => (if t500 < 0 then (some true) else (laws_FnExactSirenWait.j1 k x0 x2 x499000 x499001 x499002 x499003))
def laws_FnExactSirenWait.j1 : Nat → List (S84) → Int → List Int → Int → List Int → Int → Option (Bool)
 | 0, _, _, _, _, _, _ => none
 | k + 1, x0, x2, x499000, x499001, x499002, x499003 => (laws_toPathS.f k x0).bind fun t501 => ((laws_toControl.f k x499000 x499001 x499002 x499003).bind fun bt504 => ((spec_SirenWait.f k t501 bt504.1 bt504.2.1 bt504.2.2.1 bt504.2.2.2 x2).bind fun t512 => ((laws_toPathS.f k x0).bind fun t513 => ((laws_toControl.f k x499000 x499001 x499002 x499003).bind fun bt516 => ((impl_SirenWait.f k t513 bt516.1 bt516.2.1 bt516.2.2.1 bt516.2.2.2 x2).bind fun t525 => (if t525 = t512 then (laws_FnExactSirenWait.j2 k x0 t513 x499000 x499001 x499002 x499003 bt516.1 bt516.2.1 bt516.2.2.1 bt516.2.2.2) else (some false)))))))
def laws_FnExactSirenWait.j2 : Nat → List (S84) → List (S52) → List Int → Int → List Int → Int → List Int → Int → List Int → Int → Option (Bool)
 | 0, _, _, _, _, _, _, _, _, _, _ => none
 | k + 1, x0, x9, x499000, x499001, x499002, x499003, x525000, x525001, x525002, x525003 => (laws_toPathS.f k x0).bind fun t526 => ((laws_eqPathS.f k x9 t526).bind fun t529 => (if t529 = true then (laws_FnExactSirenWait.j3 k x499000 x499001 x499002 x499003 x525000 x525001 x525002 x525003) else (some false)))
def laws_FnExactSirenWait.j3 : Nat → List Int → Int → List Int → Int → List Int → Int → List Int → Int → Option (Bool)
 | 0, _, _, _, _, _, _, _, _ => none
 | k + 1, x499000, x499001, x499002, x499003, x525000, x525001, x525002, x525003 => (laws_toControl.f k x499000 x499001 x499002 x499003).bind fun bt530 => ((laws_eqControl.f k x525000 x525001 x525002 x525003 bt530.1 bt530.2.1 bt530.2.2.1 bt530.2.2.2).bind fun t538 => (if t538 = true then (some true) else (some false)))
end
def laws_FnExactSirenWait.f (k : Nat) (l0 : List (S84)) (l1_0 : List Int) (a1_1 : Int) (l1_2 : List Int) (a1_3 : Int) (a2 : Int) : Option (Bool) := (laws_szPathS.f l0 1048576).bind fun t499 => (if t499 < 0 then (some true) else (laws_FnExactSirenWait.j0 k l0 a2 t499 l1_0 a1_1 l1_2 a1_3))
set_option maxHeartbeats 8000000 in
set_option maxRecDepth 100000 in
theorem laws_FnExactSirenWait.calls (k : Nat) (A0 : Option Addr) (c0 : Nat) (l0 : List (S84)) (A1_0 : Option Addr) (c1_0 : Nat) (l1_0 : List Int) (a1_1 : Int) (A1_2 : Option Addr) (c1_2 : Nat) (l1_2 : List Int) (a1_3 : Int) (a2 : Int) (r : Bool) (w : World) (hr0 : Kd.C k84 w A0 l0.length l0) (hc0 : l0.length ≤ c0) (hr1_0 : Kd.C (Kd.int .i64) w A1_0 l1_0.length l1_0) (hc1_0 : l1_0.length ≤ c1_0) (hr1_2 : Kd.C (Kd.int .i64) w A1_2 l1_2.length l1_2) (hc1_2 : l1_2.length ≤ c1_2) (h : laws_FnExactSirenWait.f k l0 l1_0 a1_1 l1_2 a1_3 a2 = some r) :
  Calls Try.prog 8 #[.slice A0 l0.length c0, .agg #[.slice A1_0 l1_0.length c1_0, .int .i64 a1_1, .slice A1_2 l1_2.length c1_2, .int .i64 a1_3], .int .i64 a2] w fun e w' => e = .returned (.bool r) ∧ Below w.heap.size w w' := by
 have hu57 := Try.underlying57
 have hu60 := Try.underlying60
 have HR0 := Aside0.mk hr0
 have HC0 := Aside0.mk hc0
 clear hr0 hc0
 have HR1_0 := Aside0.mk hr1_0
 have HC1_0 := Aside0.mk hc1_0
 clear hr1_0 hc1_0
 have HR1_2 := Aside0.mk hr1_2
 have HC1_2 := Aside0.mk hc1_2
 clear hr1_2 hc1_2
 have HB := Aside0.mk (Below.refl w.heap.size w)
 have H : ((laws_szPathS.f l0 1048576).bind fun t499 => (if t499 < 0 then (some true) else (laws_FnExactSirenWait.j0 k l0 a2 t499 l1_0 a1_1 l1_2 a1_3))) = some r := h
 clear h
 replace H := S.bd H; obtain ⟨t499, A4, H⟩ := H
 (try dsimp only at H)
 have HC5 := Aside0.mk H
 clear H
 go_enter Try.func8, Try.ntmps8
 go_upto_if 16 with (first | ((with_reducible refine gate_dst (N := 4) rfl ?_); refine S.bx 4 (cs := #[.slice A1_0 l1_0.length c1_0, .int .i64 a1_1, .slice A1_2 l1_2.length c1_2, .int .i64 a1_3]) (t := 57) ?_; intro gb498 hg w6 hbox hb; have BK498 := Aside0.mk hbox; have GW498 := S.geA hg; have GE498 := S.geA hg; replace HB := S.sA hb; clear hb hbox hg) | ((with_reducible refine gate_callee (f := 11) rfl ?_); refine S.gL (some 14) Try.func11 #[.slice A0 l0.length c0, .int .i64 1048576] ?_; (with_reducible refine (laws_szPathS.calls _ _ l0 1048576 t499 _ ?s1 HC0.out A4.out).mono ?_); (case s1 => exact S.cA HR0.out); rintro e w' ⟨rfl, ⟨nd, rfl⟩⟩; refine ⟨_, rfl, ?_⟩))
 (try simp only [Act.put, List.setIfInBounds_toArray, List.set_cons_zero, List.set_cons_succ])
 go_cut [] (fun wc => ∃ (kq : Nat), Aside0 (laws_FnExactSirenWait.j0 kq l0 a2 t499 l1_0 a1_1 l1_2 a1_3 = some r) ∧ Aside0 (kq ≤ k) ∧ Aside0 (wc.heap[gb498]? = some (.cells #[(.slice A1_0 l1_0.length c1_0), .int .i64 a1_1, (.slice A1_2 l1_2.length c1_2), .int .i64 a1_3] 57 (0, 0))) ∧ Aside0 (Below w.heap.size w wc))
 case first =>
  have H := HC5.out
  clear HC5
  replace H := S.dc H; rcases H with ⟨H, c7b0⟩ | ⟨H, c7b0⟩
  ·(first | rw [c7b0] | (simp only [i64_w, i32_w]; rw [c7b0]) | skip)
   obtain rfl := Option.some.inj H
   go_wp2
   go_ret
   exact ⟨S.eW, S.bG⟩
  ·(first | rw [c7b0] | (simp only [i64_w, i32_w]; rw [c7b0]) | skip)
   have H' := Aside0.mk H
   clear H
   go_wp2
   go_meet
   case rel => exact ⟨_, H', S.le, ⟨S.uB BK498.out⟩, ⟨S.bG⟩⟩
 case rest =>
  clear HC5
  obtain ⟨kq, HA, HJ4, BK498, HB⟩ := hcut
  cases kq with
  | zero => exact absurd HA.out (by simp [laws_FnExactSirenWait.j0])
  | succ kj4 =>
   have H := HA.out
   clear HA
   simp only [laws_FnExactSirenWait.j0] at H
   replace H := S.bd H; obtain ⟨t500, A8, H⟩ := H
   (try dsimp only at H)
   have HC9 := Aside0.mk H
   clear H
   obtain ⟨Z10a, Z10b, Z10c, Z10d, Y10a, Y10b, Y10c, Y10d⟩ := S.c4 BK498.out
   go_upto_if 21 with (first | ((with_reducible refine gate_callee (f := 33) rfl ?_); refine S.gL (some 19) Try.func33 #[.agg #[.slice A1_0 l1_0.length c1_0, .int .i64 a1_1, .slice A1_2 l1_2.length c1_2, .int .i64 a1_3], .int .i64 t499] ?_; (with_reducible refine (laws_szControl.calls _ _ l1_0 a1_1 _ _ l1_2 a1_3 t499 t500 _ ?s1 HC1_0.out ?s3 HC1_2.out A8.out).mono ?_); (case s1 => exact S.cA HR1_0.out); (case s3 => exact S.cA HR1_2.out); rintro e w11 ⟨rfl, hb⟩; refine ⟨_, rfl, ?_⟩; replace BK498 := S.kb BK498 hb; replace HB := S.sG hb; (try clear hb)))
   (try simp only [Act.put, List.setIfInBounds_toArray, List.set_cons_zero, List.set_cons_succ])
   go_cut [] (fun wc => ∃ (kq : Nat), Aside0 (laws_FnExactSirenWait.j1 kq l0 a2 l1_0 a1_1 l1_2 a1_3 = some r) ∧ Aside0 (kq ≤ kj4) ∧ Aside0 (wc.heap[gb498]? = some (.cells #[(.slice A1_0 l1_0.length c1_0), .int .i64 a1_1, (.slice A1_2 l1_2.length c1_2), .int .i64 a1_3] 57 (0, 0))) ∧ Aside0 (Below w.heap.size w wc))
   case first =>
    have H := HC9.out
    clear HC9
    replace H := S.dc H; rcases H with ⟨H, c12b0⟩ | ⟨H, c12b0⟩
    ·(first | rw [c12b0] | (simp only [i64_w, i32_w]; rw [c12b0]) | skip)
     obtain rfl := Option.some.inj H
     go_wp2
     go_ret
     exact ⟨S.eW, S.bG⟩
    ·(first | rw [c12b0] | (simp only [i64_w, i32_w]; rw [c12b0]) | skip)
     have H' := Aside0.mk H
     clear H
     go_wp2
     go_meet
     case rel => exact ⟨_, H', ⟨by have := HJ4.out; first | omega | exact Nat.le_refl _⟩, ⟨S.uB BK498.out⟩, ⟨S.bG⟩⟩
   case rest =>
    clear HC9
    try clear Z10a
    try clear Z10b
    try clear Z10c
    try clear Z10d
    try clear Y10a
    try clear Y10b
    try clear Y10c
    try clear Y10d
    obtain ⟨kq, HA, HJ8, BK498, HB⟩ := hcut
    cases kq with
    | zero => exact absurd HA.out (by simp [laws_FnExactSirenWait.j1])
    | succ kj8 =>
     have H := HA.out
     clear HA
     simp only [laws_FnExactSirenWait.j1] at H
     replace H := S.bd H; obtain ⟨t501, A13, H⟩ := H
     (try dsimp only at H)
     replace H := S.bd H; obtain ⟨⟨t504, t507, t508, t511⟩, A14, H⟩ := H
     (try dsimp only at H)
     replace H := S.bd H; obtain ⟨t512, A15, H⟩ := H
     (try dsimp only at H)
     replace H := S.bd H; obtain ⟨t513, A16, H⟩ := H
     (try dsimp only at H)
     replace H := S.bd H; obtain ⟨⟨t516, t519, t520, t523⟩, A17, H⟩ := H
     (try dsimp only at H)
     replace H := S.bd H; obtain ⟨t525, A18, H⟩ := H
     (try dsimp only at H)
     have HC19 := Aside0.mk H
     clear H
     try go_wp2
     replace BK498 := Aside0.mk (blk_drew BK498.out)
     replace HB := Aside0.mk (below_drew1 HB.out)
     refine start_ (n := 7) (S := fun w' => w'.cell? ⟨gb498, 0, none⟩ = some (.slice A1_0 l1_0.length c1_0) ∧ w'.cell? ⟨gb498, 1, none⟩ = some (.int .i64 a1_1) ∧ w'.cell? ⟨gb498, 2, none⟩ = some (.slice A1_2 l1_2.length c1_2) ∧ w'.cell? ⟨gb498, 3, none⟩ = some (.int .i64 a1_3)) (ds := []) #[false, false, false, false, false, false, false] (by kernel_rfl) rfl rfl ⟨(blk_cell BK498.out 0).trans rfl, (blk_cell BK498.out 1).trans rfl, (blk_cell BK498.out 2).trans rfl, (blk_cell BK498.out 3).trans rfl⟩ (fun hHeld => ?_)
     generalize wc.drew = w20 at BK498 HB hHeld ⊢
     refine pure_ (i := 0) (N := some 22) (v := ?_) (a' := ?_) #[true, false, false, false, false, false, false] rfl rfl (by kernel_rfl) (fun _ _ _ h => h) (Or.inl ⟨by rfl, ?_⟩) ?_ ?_
     rotate_left
     ·intro w'
      go_simp
      with_reducible rfl
     rotate_left
     ·simp only [Act.put, List.setIfInBounds_toArray, List.set_cons_zero, List.set_cons_succ, i64_w, i32_w]
      rfl
     refine pure_ (i := 4) (N := some 26) (v := ?_) (a' := ?_) #[true, false, false, false, true, false, false] rfl rfl (by kernel_rfl) (fun _ _ _ h => h) (Or.inl ⟨by rfl, ?_⟩) ?_ ?_
     rotate_left
     ·intro w'
      go_simp
      with_reducible rfl
     rotate_left
     ·simp only [Act.put, List.setIfInBounds_toArray, List.set_cons_zero, List.set_cons_succ, i64_w, i32_w]
      rfl
     refine take_ (i := 2) (N := some 24) (v := ?_) (a' := ?_) #[true, false, true, false, true, false, false] rfl rfl (by kernel_rfl) (fun _ _ _ h => h) (Or.inl ⟨by rfl, ?_⟩) hHeld ?_ ?_
     rotate_left
     ·rintro w' ⟨s0, s1, s2, s3⟩
      go_simp
      with_reducible rfl
     rotate_left
     ·simp only [Act.put, List.setIfInBounds_toArray, List.set_cons_zero, List.set_cons_succ, i64_w, i32_w]
      rfl
     refine one_ (i := 1) (N := some 23) #[true, true, true, false, true, false, false] rfl rfl (by kernel_rfl) (by decide) (fun K hK => ?_)
     refine S.go Try.func14 #[.slice A0 l0.length c0] ?_
     with_reducible refine (laws_toPathS.calls kj8 _ _ l0 t501 _ ?s1 ?s2 A13.out).mono ?_
     (case s1 => exact S.cA HR0.out)
     (case s2 => exact HC0.out)
     rintro e w21 ⟨v502, rfl, ho0, hb⟩
     refine ⟨_, rfl, ?_⟩
     have HO503 := S.lwG ho0
     replace BK498 := S.kb BK498 hb
     replace HB := S.sG hb
     (try clear hb)
     (try clear hb2)
     (try clear hk)
     (try clear hi)
     (try clear ho0)
     refine hK.out _ _ (S.e4 BK498.out) (fun hHeld => ?_)
     clear hK K
     refine S.nm 23 ?_
     refine one_ (i := 3) (N := some 25) #[true, true, true, true, true, false, false] rfl rfl (by kernel_rfl) (by decide) (fun K hK => ?_)
     refine S.go Try.func35 #[.agg #[.slice A1_0 l1_0.length c1_0, .int .i64 a1_1, .slice A1_2 l1_2.length c1_2, .int .i64 a1_3]] ?_
     with_reducible refine (laws_toControl.calls kj8 _ _ l1_0 a1_1 _ _ l1_2 a1_3 t504 t507 t508 t511 _ ?s1 ?s2 ?s3 ?s4 A14.out).mono ?_
     (case s1 => exact S.cA HR1_0.out)
     (case s2 => exact HC1_0.out)
     (case s3 => exact S.cA HR1_2.out)
     (case s4 => exact HC1_2.out)
     rintro e w22 ⟨v505, v509, rfl, ho0, ho1, hb⟩
     refine ⟨_, rfl, ?_⟩
     replace HO503 := S.rb HO503 hb
     have HO506 := S.lwG ho0
     have HO510 := S.lwG ho1
     replace BK498 := S.kb BK498 hb
     replace HB := S.sG hb
     (try clear hb)
     (try clear hb2)
     (try clear hk)
     (try clear hi)
     (try clear ho0)
     (try clear ho1)
     obtain ⟨Ao23, co23, eo23⟩ := Kd.R_slice HO503.out
     (first | subst eo23 | (injection eo23 with f1_ f2_ f3_; have f4_ := f1_.symm; have f5_ := f3_.symm; clear f1_ f2_ f3_; subst f4_; subst f5_))
     obtain ⟨Ao24, co24, eo24⟩ := Kd.R_slice HO506.out
     (first | subst eo24 | (injection eo24 with f1_ f2_ f3_; have f4_ := f1_.symm; have f5_ := f3_.symm; clear f1_ f2_ f3_; subst f4_; subst f5_))
     obtain ⟨Ao25, co25, eo25⟩ := Kd.R_slice HO510.out
     (first | subst eo25 | (injection eo25 with f1_ f2_ f3_; have f4_ := f1_.symm; have f5_ := f3_.symm; clear f1_ f2_ f3_; subst f4_; subst f5_))
     refine hK.out _ _ (S.e4 BK498.out) (fun hHeld => ?_)
     clear hK K
     refine S.nm 25 ?_
     refine one_ (i := 5) (N := some 27) #[true, true, true, true, true, true, false] rfl rfl (by kernel_rfl) (by decide) (fun K hK => ?_)
     refine S.go Try.func45 #[.slice Ao23 t501.length co23, .agg #[.slice Ao24 t504.length co24, .int .i64 t507, .slice Ao25 t508.length co25, .int .i64 t511], .int .i64 a2] ?_
     with_reducible refine (spec_SirenWait.calls kj8 _ _ t501 (fun k_ => some k_ = (.slice Ao24 t504.length co24 : Value).ownBlock) _ _ t504 t507 (fun k_ => some k_ = (.slice Ao25 t508.length co25 : Value).ownBlock) _ _ t508 t511 a2 t512 _ ?s1 ?s2 ?s3 ?s4 A15.out).mono ?_
     (case s1 => exact S.rd HO503)
     (case s2 => exact S.rl HO503)
     (case s3 => exact Kd.R_V (Kd.R_tight rfl (Kd.R_types (Kd.R_apart' (HO506.out) (Kd.R_typed HO503.out) (by decide)) BK498.out (by decide))))
     (case s4 => exact Kd.R_V (Kd.R_tight rfl (Kd.R_types (Kd.R_apart' (HO510.out) (Kd.R_typed HO503.out) (by decide)) BK498.out (by decide))))
     rintro e w26 ⟨rfl, hb⟩
     refine ⟨_, rfl, ?_⟩
     replace HO503 := S.rb HO503 hb
     replace HO506 := S.rb HO506 hb
     replace HO510 := S.rb HO510 hb
     replace BK498 := S.kb BK498 hb
     replace HB := S.sG hb
     (try clear hb)
     (try clear hb2)
     (try clear hk)
     (try clear hi)
     refine hK.out _ _ (S.e4 BK498.out) (fun hHeld => ?_)
     clear hK K
     refine S.nm 27 ?_
     refine pure_ (i := 6) (N := some 8) (v := ?_) (a' := ?_) #[true, true, true, true, true, true, true] rfl rfl (by kernel_rfl) (fun _ _ _ h => h) (Or.inl ⟨by rfl, ?_⟩) ?_ ?_
     rotate_left
     ·intro w'
      go_simp
      with_reducible rfl
     rotate_left
     ·simp only [Act.put, List.setIfInBounds_toArray, List.set_cons_zero, List.set_cons_succ, i64_w, i32_w]
      rfl
     refine done_ (by kernel_rfl) ?_
     go_upto_if 38 with (first | ((with_reducible refine gate_callee (f := 14) rfl ?_); refine S.gL (some 29) Try.func14 #[.slice A0 l0.length c0] ?_; (with_reducible refine (laws_toPathS.calls kj8 _ _ l0 t513 _ ?s1 HC0.out A16.out).mono ?_); (case s1 => exact S.cA HR0.out); rintro e w27 ⟨v514, rfl, ho0, hb⟩; refine ⟨_, rfl, ?_⟩; replace HO506 := S.rb HO506 hb; replace HO510 := S.rb HO510 hb; have HO515 := S.rnG ho0 HO503; replace HO503 := S.re HO503 ho0 hb; replace BK498 := S.kb BK498 hb; replace HB := S.sG hb; (try clear hb); (try clear ho0); obtain ⟨Z28a, Z28b, Z28c, Z28d, Y28a, Y28b, Y28c, Y28d⟩ := S.c4 BK498.out) | ((with_reducible refine gate_callee (f := 35) rfl ?_); refine S.gL (some 31) Try.func35 #[.agg #[.slice A1_0 l1_0.length c1_0, .int .i64 a1_1, .slice A1_2 l1_2.length c1_2, .int .i64 a1_3]] ?_; (with_reducible refine (laws_toControl.calls kj8 _ _ l1_0 a1_1 _ _ l1_2 a1_3 t516 t519 t520 t523 _ ?s1 HC1_0.out ?s3 HC1_2.out A17.out).mono ?_); (case s1 => exact S.cA HR1_0.out); (case s3 => exact S.cA HR1_2.out); rintro e w29 ⟨v517, v521, rfl, ho0, ho1, hb⟩; refine ⟨_, rfl, ?_⟩; replace HO503 := S.rb HO503 hb; replace HO515 := S.rb HO515 hb; have HO518 := Aside0.mk (Kd.R_lower (Kd.R_new' (Kd.R_new' ho0 (Kd.R_lt (S.uR HO506.out))) (Kd.R_lt (S.uR HO510.out))) (below_size S.bG)); have HO522 := Aside0.mk (Kd.R_lower (Kd.R_new' (Kd.R_new' ho1 (Kd.R_lt (S.uR HO506.out))) (Kd.R_lt (S.uR HO510.out))) (below_size S.bG)); replace HO506 := Aside0.mk (Kd.R_mono (Kd.R_told (Kd.R_told (Kd.R_old (S.uR HO506.out) hb) (Kd.R_base ho0)) (Kd.R_base ho1)) (fun _ h_ => h_.1)); replace HO510 := Aside0.mk (Kd.R_mono (Kd.R_told (Kd.R_told (Kd.R_old (S.uR HO510.out) hb) (Kd.R_base ho0)) (Kd.R_base ho1)) (fun _ h_ => h_.1)); replace BK498 := S.kb BK498 hb; replace HB := S.sG hb; (try clear hb); (try clear ho0); (try clear ho1)) | ((with_reducible refine gate_dst (N := 10) rfl ?_); refine S.bx 10 (cs := #[.slice none 0 0, .int .i64 0, .slice none 0 0, .int .i64 0]) (t := 60) ?_; intro gb524 hg w30 hbox hb; replace HO503 := S.rb HO503 hb; replace HO506 := S.rb HO506 hb; replace HO510 := S.rb HO510 hb; replace HO515 := S.rb HO515 hb; replace HO518 := S.rb HO518 hb; replace HO522 := S.rb HO522 hb; have BK524 := Aside0.mk hbox; have GW524 := S.geG hg; have GE524 := S.geG hg; replace HB := S.sG hb; have NB498_524 := S.nl hg BK498; have NB524_498 := S.ng hg BK498; replace BK498 := S.kb BK498 hb; clear hb hbox hg; obtain ⟨Ao31, co31, eo31⟩ := Kd.R_slice HO518.out; subst eo31; have hnb32 := NB524_498.out; have hnc32 := NB498_524.out; obtain ⟨Z33a, Z33b, Z33c, Z33d, Y33a, Y33b, Y33c, Y33d⟩ := S.c4 BK524.out; obtain ⟨Ao34, co34, eo34⟩ := Kd.R_slice HO522.out; subst eo34) | ((with_reducible refine gate_store (t := 60) (p := 10) rfl ?_); refine store_event (t := 60) (p := 10) (v := ?vo_w35) (w1 := ((((w30.setCell ⟨gb524, 0, none⟩ (.slice Ao31 t516.length co31)).setCell ⟨gb524, 1, none⟩ (.int .i64 t519)).setCell ⟨gb524, 2, none⟩ (.slice Ao34 t520.length co34)).setCell ⟨gb524, 3, none⟩ (.int .i64 t523))) ?hg ?ho ?hn ?hr ?_; (case ho => rfl); (case hg => rfl); (case hn => rfl); (case hr => first | (go_simp; done) | (go_simp; rfl)); intro w35 hw; have n0_ : Aside0 (Kd.R k52 52 w35 w.heap.size (fun k_ => S.N k_ v514) (.slice Ao23 t501.length co23) t501) := ⟨(by rw [hw]; exact (by (with_reducible repeat (first | apply Kd.R_alloc | apply Kd.R_drewN | apply Kd.R_drew)); exact Kd.R_mono (Kd.R_far (p := ⟨gb524, 3, none⟩) (Kd.R_far (p := ⟨gb524, 2, none⟩) (Kd.R_far (p := ⟨gb524, 1, none⟩) (Kd.R_far (p := ⟨gb524, 0, none⟩) (Kd.R_types HO503.out BK524.out (by decide)) (fun _ hk => hk.2) (.slice Ao31 t516.length co31)) (fun _ hk => hk.2) (.int .i64 t519)) (fun _ hk => hk.2) (.slice Ao34 t520.length co34)) (fun _ hk => hk.2) (.int .i64 t523)) (fun _ hk => hk.1.2)))⟩; have n1_ : Aside0 (Kd.R (Kd.int .i64) 3 w35 w.heap.size (fun k_ => S.N k_ (.slice Ao25 t508.length co25) ∧ S.N k_ (.slice Ao31 t516.length co31) ∧ S.N k_ (.slice Ao34 t520.length co34)) (.slice Ao24 t504.length co24) t504) := ⟨(by rw [hw]; exact (by (with_reducible repeat (first | apply Kd.R_alloc | apply Kd.R_drewN | apply Kd.R_drew)); exact Kd.R_mono (Kd.R_far (p := ⟨gb524, 3, none⟩) (Kd.R_far (p := ⟨gb524, 2, none⟩) (Kd.R_far (p := ⟨gb524, 1, none⟩) (Kd.R_far (p := ⟨gb524, 0, none⟩) (Kd.R_types HO506.out BK524.out (by decide)) (fun _ hk => hk.2) (.slice Ao31 t516.length co31)) (fun _ hk => hk.2) (.int .i64 t519)) (fun _ hk => hk.2) (.slice Ao34 t520.length co34)) (fun _ hk => hk.2) (.int .i64 t523)) (fun _ hk => ⟨hk.1.1.1, ⟨hk.1.1.2, hk.1.2⟩⟩)))⟩; have n2_ : Aside0 (Kd.R (Kd.int .i64) 3 w35 w.heap.size (fun k_ => S.N k_ (.slice Ao24 t504.length co24) ∧ S.N k_ (.slice Ao31 t516.length co31) ∧ S.N k_ (.slice Ao34 t520.length co34)) (.slice Ao25 t508.length co25) t508) := ⟨(by rw [hw]; exact (by (with_reducible repeat (first | apply Kd.R_alloc | apply Kd.R_drewN | apply Kd.R_drew)); exact Kd.R_mono (Kd.R_far (p := ⟨gb524, 3, none⟩) (Kd.R_far (p := ⟨gb524, 2, none⟩) (Kd.R_far (p := ⟨gb524, 1, none⟩) (Kd.R_far (p := ⟨gb524, 0, none⟩) (Kd.R_types HO510.out BK524.out (by decide)) (fun _ hk => hk.2) (.slice Ao31 t516.length co31)) (fun _ hk => hk.2) (.int .i64 t519)) (fun _ hk => hk.2) (.slice Ao34 t520.length co34)) (fun _ hk => hk.2) (.int .i64 t523)) (fun _ hk => ⟨hk.1.1.1, ⟨hk.1.1.2, hk.1.2⟩⟩)))⟩; have n3_ : Aside0 (Kd.R k52 52 w35 w.heap.size (fun k_ => S.N k_ (.slice Ao23 t501.length co23)) v514 t513) := ⟨(by rw [hw]; exact (by (with_reducible repeat (first | apply Kd.R_alloc | apply Kd.R_drewN | apply Kd.R_drew)); exact Kd.R_mono (Kd.R_far (p := ⟨gb524, 3, none⟩) (Kd.R_far (p := ⟨gb524, 2, none⟩) (Kd.R_far (p := ⟨gb524, 1, none⟩) (Kd.R_far (p := ⟨gb524, 0, none⟩) (Kd.R_types HO515.out BK524.out (by decide)) (fun _ hk => hk.2) (.slice Ao31 t516.length co31)) (fun _ hk => hk.2) (.int .i64 t519)) (fun _ hk => hk.2) (.slice Ao34 t520.length co34)) (fun _ hk => hk.2) (.int .i64 t523)) (fun _ hk => hk.1.2)))⟩; have n4_ : Aside0 (Kd.R (Kd.int .i64) 3 w35 w.heap.size (fun k_ => S.N k_ (.slice Ao24 t504.length co24) ∧ S.N k_ (.slice Ao25 t508.length co25) ∧ S.N k_ (.slice Ao34 t520.length co34)) (.slice Ao31 t516.length co31) t516) := ⟨(by rw [hw]; exact (by (with_reducible repeat (first | apply Kd.R_alloc | apply Kd.R_drewN | apply Kd.R_drew)); exact Kd.R_mono (Kd.R_far (p := ⟨gb524, 3, none⟩) (Kd.R_far (p := ⟨gb524, 2, none⟩) (Kd.R_far (p := ⟨gb524, 1, none⟩) (Kd.R_far (p := ⟨gb524, 0, none⟩) (Kd.R_types HO518.out BK524.out (by decide)) (fun _ hk => hk.2) (.slice Ao31 t516.length co31)) (fun _ hk => hk.2) (.int .i64 t519)) (fun _ hk => hk.2) (.slice Ao34 t520.length co34)) (fun _ hk => hk.2) (.int .i64 t523)) (fun _ hk => ⟨hk.1.1.2, ⟨hk.1.2, hk.1.1.1⟩⟩)))⟩; have n5_ : Aside0 (Kd.R (Kd.int .i64) 3 w35 w.heap.size (fun k_ => S.N k_ (.slice Ao24 t504.length co24) ∧ S.N k_ (.slice Ao25 t508.length co25) ∧ S.N k_ (.slice Ao31 t516.length co31)) (.slice Ao34 t520.length co34) t520) := ⟨(by rw [hw]; exact (by (with_reducible repeat (first | apply Kd.R_alloc | apply Kd.R_drewN | apply Kd.R_drew)); exact Kd.R_mono (Kd.R_far (p := ⟨gb524, 3, none⟩) (Kd.R_far (p := ⟨gb524, 2, none⟩) (Kd.R_far (p := ⟨gb524, 1, none⟩) (Kd.R_far (p := ⟨gb524, 0, none⟩) (Kd.R_types HO522.out BK524.out (by decide)) (fun _ hk => hk.2) (.slice Ao31 t516.length co31)) (fun _ hk => hk.2) (.int .i64 t519)) (fun _ hk => hk.2) (.slice Ao34 t520.length co34)) (fun _ hk => hk.2) (.int .i64 t523)) (fun _ hk => ⟨hk.1.1.2, ⟨hk.1.2, hk.1.1.1⟩⟩)))⟩; have n6_ : Aside0 (w35.heap[gb498]? = some (.cells #[.slice A1_0 l1_0.length c1_0, .int .i64 a1_1, .slice A1_2 l1_2.length c1_2, .int .i64 a1_3] 57 (0, 0))) := ⟨(by rw [hw]; exact (by (with_reducible repeat (first | refine blk_drewN ?_ _ | refine blk_drew ?_ | refine blk_alloc ?_ _)); refine blk_far ?_ NB498_524.out _; (with_reducible repeat (first | refine blk_drewN ?_ _ | refine blk_drew ?_ | refine blk_alloc ?_ _)); refine blk_far ?_ NB498_524.out _; (with_reducible repeat (first | refine blk_drewN ?_ _ | refine blk_drew ?_ | refine blk_alloc ?_ _)); refine blk_far ?_ NB498_524.out _; (with_reducible repeat (first | refine blk_drewN ?_ _ | refine blk_drew ?_ | refine blk_alloc ?_ _)); refine blk_far ?_ NB498_524.out _; (with_reducible repeat (first | refine blk_drewN ?_ _ | refine blk_drew ?_ | refine blk_alloc ?_ _)); exact BK498.out))⟩; have n7_ : Aside0 (w35.heap[gb524]? = some (.cells #[.slice Ao31 t516.length co31, .int .i64 t519, .slice Ao34 t520.length co34, .int .i64 t523] 60 (0, 0))) := ⟨(by rw [hw]; exact (by (with_reducible repeat (first | refine blk_drewN ?_ _ | refine blk_drew ?_ | refine blk_alloc ?_ _)); refine blk_put (cs := #[.slice Ao31 t516.length co31, .int .i64 t519, .slice Ao34 t520.length co34, .int .i64 0]) ?_ 3 _ rfl; (with_reducible repeat (first | refine blk_drewN ?_ _ | refine blk_drew ?_ | refine blk_alloc ?_ _)); refine blk_put (cs := #[.slice Ao31 t516.length co31, .int .i64 t519, .slice none 0 0, .int .i64 0]) ?_ 2 _ rfl; (with_reducible repeat (first | refine blk_drewN ?_ _ | refine blk_drew ?_ | refine blk_alloc ?_ _)); refine blk_put (cs := #[.slice Ao31 t516.length co31, .int .i64 0, .slice none 0 0, .int .i64 0]) ?_ 1 _ rfl; (with_reducible repeat (first | refine blk_drewN ?_ _ | refine blk_drew ?_ | refine blk_alloc ?_ _)); refine blk_put (cs := #[.slice none 0 0, .int .i64 0, .slice none 0 0, .int .i64 0]) ?_ 0 _ rfl; (with_reducible repeat (first | refine blk_drewN ?_ _ | refine blk_drew ?_ | refine blk_alloc ?_ _)); exact BK524.out))⟩; have n8_ : Aside0 (Below w.heap.size w w35) := ⟨(by rw [hw]; exact S.bG)⟩; clear hw; clear HO503; clear HO506; clear HO510; clear HO515; clear HO518; clear HO522; clear BK498; clear BK524; clear HB; have HO503 := n0_; have HO506 := n1_; have HO510 := n2_; have HO515 := n3_; have HO518 := n4_; have HO522 := n5_; have BK498 := n6_; have BK524 := n7_; have HB := n8_; clear n0_ n1_ n2_ n3_ n4_ n5_ n6_ n7_ n8_; obtain ⟨Z36a, Z36b, Z36c, Z36d, Y36a, Y36b, Y36c, Y36d⟩ := S.c4 BK524.out; obtain ⟨Ao37, co37, eo37⟩ := Kd.R_slice HO515.out; subst eo37) | ((with_reducible refine gate_callee (f := 46) rfl ?_); refine S.gL (some 35) Try.func46 #[.slice Ao37 t513.length co37, .agg #[.slice Ao31 t516.length co31, .int .i64 t519, .slice Ao34 t520.length co34, .int .i64 t523], .int .i64 a2] ?_; (with_reducible refine (impl_SirenWait.calls kj8 _ _ t513 (fun k_ => some k_ = (.slice Ao31 t516.length co31 : Value).ownBlock) _ _ t516 t519 (fun k_ => some k_ = (.slice Ao34 t520.length co34 : Value).ownBlock) _ _ t520 t523 a2 t525 _ ?s1 (S.rl HO515) ?s3 ?s4 A18.out).mono ?_); (case s1 => exact S.rd HO515); (case s3 => exact Kd.R_V (Kd.R_tight rfl (Kd.R_types (Kd.R_types (Kd.R_apart' (Kd.R_apart' (HO518.out) (Kd.R_typed HO503.out) (by decide)) (Kd.R_typed HO515.out) (by decide)) BK498.out (by decide)) BK524.out (by decide)))); (case s4 => exact Kd.R_V (Kd.R_tight rfl (Kd.R_types (Kd.R_types (Kd.R_apart' (Kd.R_apart' (HO522.out) (Kd.R_typed HO503.out) (by decide)) (Kd.R_typed HO515.out) (by decide)) BK498.out (by decide)) BK524.out (by decide)))); rintro e w38 ⟨rfl, hb⟩; refine ⟨_, rfl, ?_⟩; replace HO503 := S.rb HO503 hb; replace HO506 := S.rb HO506 hb; replace HO510 := S.rb HO510 hb; replace HO515 := S.rb HO515 hb; replace HO518 := S.rb HO518 hb; replace HO522 := S.rb HO522 hb; replace BK498 := S.kb BK498 hb; replace BK524 := S.kb BK524 hb; replace HB := S.sG hb; (try clear hb)))
     (try simp only [Act.put, List.setIfInBounds_toArray, List.set_cons_zero, List.set_cons_succ])
     go_cut [] (fun wc => ∃ (kq : Nat), Aside0 (laws_FnExactSirenWait.j2 kq l0 t513 l1_0 a1_1 l1_2 a1_3 t516 t519 t520 t523 = some r) ∧ Aside0 (kq ≤ kj8) ∧ Aside0 (Kd.R k52 52 wc w.heap.size (fun _ => True) (.slice Ao37 t513.length co37) t513) ∧ Aside0 (Kd.R (Kd.int .i64) 3 wc w.heap.size (fun k_ => some k_ ≠ ((.slice Ao34 t520.length co34) : Value).ownBlock) (.slice Ao31 t516.length co31) t516) ∧ Aside0 (Kd.R (Kd.int .i64) 3 wc w.heap.size (fun k_ => some k_ ≠ ((.slice Ao31 t516.length co31) : Value).ownBlock) (.slice Ao34 t520.length co34) t520) ∧ Aside0 (wc.heap[gb498]? = some (.cells #[(.slice A1_0 l1_0.length c1_0), .int .i64 a1_1, (.slice A1_2 l1_2.length c1_2), .int .i64 a1_3] 57 (0, 0))) ∧ Aside0 (wc.heap[gb524]? = some (.cells #[(.slice Ao31 t516.length co31), .int .i64 t519, (.slice Ao34 t520.length co34), .int .i64 t523] 60 (0, 0))) ∧ Aside0 (Below w.heap.size w wc))
     case first =>
      have H := HC19.out
      clear HC19
      by_cases c39 : t525 = t512
      ·rw [if_pos c39] at H
       have c39b0 : (t525 == t512) = true := beq_iff_eq.mpr c39
       have c39b1 : (t525 != t512) = false := bne_eq_false_iff_eq.mpr c39
       clear c39
       (first | rw [c39b0] | (simp only [i64_w, i32_w]; rw [c39b0]) | skip)
       have H' := Aside0.mk H
       clear H
       go_wp2
       go_meet
       case rel => exact ⟨_, H', ⟨by have := HJ4.out; have := HJ8.out; first | omega | exact Nat.le_refl _⟩, ⟨by (with_reducible repeat (first | apply Kd.R_alloc | apply Kd.R_drewN | apply Kd.R_drew)); exact Kd.R_mono HO515.out (fun _ hk => trivial)⟩, ⟨by (with_reducible repeat (first | apply Kd.R_alloc | apply Kd.R_drewN | apply Kd.R_drew)); exact Kd.R_mono HO518.out (fun _ hk => hk.2.2)⟩, ⟨by (with_reducible repeat (first | apply Kd.R_alloc | apply Kd.R_drewN | apply Kd.R_drew)); exact Kd.R_mono HO522.out (fun _ hk => hk.2.2)⟩, ⟨S.uB BK498.out⟩, ⟨S.uB BK524.out⟩, ⟨S.bG⟩⟩
      ·rw [if_neg c39] at H
       have c39b0 : (t525 == t512) = false := beq_eq_false_iff_ne.mpr c39
       have c39b1 : (t525 != t512) = true := bne_iff_ne.mpr c39
       (first | rw [c39b0] | (simp only [i64_w, i32_w]; rw [c39b0]) | skip)
       obtain rfl := Option.some.inj H
       go_wp2
       go_ret
       exact ⟨S.eW, S.bG⟩
     case rest =>
      clear HC19
      try clear Z10a
      try clear Z10b
      try clear Z10c
      try clear Z10d
      try clear Z28a
      try clear Z28b
      try clear Z28c
      try clear Z28d
      try clear Z33a
      try clear Z33b
      try clear Z33c
      try clear Z33d
      try clear Z36a
      try clear Z36b
      try clear Z36c
      try clear Z36d
      try clear Y10a
      try clear Y10b
      try clear Y10c
      try clear Y10d
      try clear Y28a
      try clear Y28b
      try clear Y28c
      try clear Y28d
      try clear Y33a
      try clear Y33b
      try clear Y33c
      try clear Y33d
      try clear Y36a
      try clear Y36b
      try clear Y36c
      try clear Y36d
      obtain ⟨kq, HA, HJ18, HO_9, HO_525000, HO_525002, BK498, BK524, HB⟩ := hcut
      cases kq with
      | zero => exact absurd HA.out (by simp [laws_FnExactSirenWait.j2])
      | succ kj18 =>
       have H := HA.out
       clear HA
       simp only [laws_FnExactSirenWait.j2] at H
       replace H := S.bd H; obtain ⟨t526, A40, H⟩ := H
       (try dsimp only at H)
       replace H := S.bd H; obtain ⟨t529, A41, H⟩ := H
       (try dsimp only at H)
       have HC42 := Aside0.mk H
       clear H
       go_upto_if 43 with (first | ((with_reducible refine gate_callee (f := 14) rfl ?_); refine S.gL (some 41) Try.func14 #[.slice A0 l0.length c0] ?_; (with_reducible refine (laws_toPathS.calls kj18 _ _ l0 t526 _ ?s1 HC0.out A40.out).mono ?_); (case s1 => exact S.cA HR0.out); rintro e w43 ⟨v527, rfl, ho0, hb⟩; refine ⟨_, rfl, ?_⟩; replace HO_525000 := S.rb HO_525000 hb; replace HO_525002 := S.rb HO_525002 hb; have HO528 := S.rnG ho0 HO_9; replace HO_9 := S.re HO_9 ho0 hb; replace BK498 := S.kb BK498 hb; replace BK524 := S.kb BK524 hb; replace HB := S.sG hb; (try clear hb); (try clear ho0); obtain ⟨Ao44, co44, eo44⟩ := Kd.R_slice HO528.out; subst eo44) | ((with_reducible refine gate_callee (f := 19) rfl ?_); refine S.gL (some 42) Try.func19 #[.slice Ao37 t513.length co37, .slice Ao44 t526.length co44] ?_; (with_reducible refine (laws_eqPathS.calls kj18 _ _ t513 _ _ t526 t529 _ ?s1 (S.rl HO_9) ?s3 (S.rl HO528) A41.out).mono ?_); (case s1 => exact S.rd HO_9); (case s3 => exact S.rd HO528); rintro e w45 ⟨rfl, hb⟩; refine ⟨_, rfl, ?_⟩; replace HO_9 := S.rb HO_9 hb; replace HO_525000 := S.rb HO_525000 hb; replace HO_525002 := S.rb HO_525002 hb; replace HO528 := S.rb HO528 hb; replace BK498 := S.kb BK498 hb; replace BK524 := S.kb BK524 hb; replace HB := S.sG hb; (try clear hb)))
       (try simp only [Act.put, List.setIfInBounds_toArray, List.set_cons_zero, List.set_cons_succ])
       go_cut [] (fun wc => ∃ (kq : Nat), Aside0 (laws_FnExactSirenWait.j3 kq l1_0 a1_1 l1_2 a1_3 t516 t519 t520 t523 = some r) ∧ Aside0 (kq ≤ kj18) ∧ Aside0 (Kd.R (Kd.int .i64) 3 wc w.heap.size (fun k_ => some k_ ≠ ((.slice Ao34 t520.length co34) : Value).ownBlock) (.slice Ao31 t516.length co31) t516) ∧ Aside0 (Kd.R (Kd.int .i64) 3 wc w.heap.size (fun k_ => some k_ ≠ ((.slice Ao31 t516.length co31) : Value).ownBlock) (.slice Ao34 t520.length co34) t520) ∧ Aside0 (wc.heap[gb498]? = some (.cells #[(.slice A1_0 l1_0.length c1_0), .int .i64 a1_1, (.slice A1_2 l1_2.length c1_2), .int .i64 a1_3] 57 (0, 0))) ∧ Aside0 (wc.heap[gb524]? = some (.cells #[(.slice Ao31 t516.length co31), .int .i64 t519, (.slice Ao34 t520.length co34), .int .i64 t523] 60 (0, 0))) ∧ Aside0 (Below w.heap.size w wc))
       case first =>
        have H := HC42.out
        clear HC42
        replace H := S.db H; rcases H with ⟨rfl, H⟩ | ⟨rfl, H⟩
        ·have H' := Aside0.mk H
         clear H
         go_wp2
         go_meet
         case rel => exact ⟨_, H', ⟨by have := HJ4.out; have := HJ8.out; have := HJ18.out; first | omega | exact Nat.le_refl _⟩, ⟨S.uR HO_525000.out⟩, ⟨S.uR HO_525002.out⟩, ⟨S.uB BK498.out⟩, ⟨S.uB BK524.out⟩, ⟨S.bG⟩⟩
        ·obtain rfl := Option.some.inj H
         go_wp2
         go_ret
         exact ⟨S.eW, S.bG⟩
       case rest =>
        clear HC42
        try clear Z10a
        try clear Z10b
        try clear Z10c
        try clear Z10d
        try clear Z28a
        try clear Z28b
        try clear Z28c
        try clear Z28d
        try clear Z33a
        try clear Z33b
        try clear Z33c
        try clear Z33d
        try clear Z36a
        try clear Z36b
        try clear Z36c
        try clear Z36d
        try clear Y10a
        try clear Y10b
        try clear Y10c
        try clear Y10d
        try clear Y28a
        try clear Y28b
        try clear Y28c
        try clear Y28d
        try clear Y33a
        try clear Y33b
        try clear Y33c
        try clear Y33d
        try clear Y36a
        try clear Y36b
        try clear Y36c
        try clear Y36d
        obtain ⟨kq, HA, HJ41, HO_525000, HO_525002, BK498, BK524, HB⟩ := hcut
        cases kq with
        | zero => exact absurd HA.out (by simp [laws_FnExactSirenWait.j3])
        | succ kj41 =>
         have H := HA.out
         clear HA
         simp only [laws_FnExactSirenWait.j3] at H
         replace H := S.bd H; obtain ⟨⟨t530, t533, t534, t537⟩, A47, H⟩ := H
         (try dsimp only at H)
         replace H := S.bd H; obtain ⟨t538, A48, H⟩ := H
         (try dsimp only at H)
         replace H := S.db H; rcases H with ⟨rfl, H⟩ | ⟨rfl, H⟩
         ·obtain rfl := Option.some.inj H
          try go_wp2
          replace HO_525000 := S.dr HO_525000
          replace HO_525002 := S.dr HO_525002
          replace BK498 := Aside0.mk (blk_drew BK498.out)
          replace BK524 := Aside0.mk (blk_drew BK524.out)
          replace HB := Aside0.mk (below_drew1 HB.out)
          refine start_ (n := 5) (S := fun w' => w'.cell? ⟨gb524, 0, none⟩ = some (.slice Ao31 t516.length co31) ∧ w'.cell? ⟨gb524, 1, none⟩ = some (.int .i64 t519) ∧ w'.cell? ⟨gb524, 2, none⟩ = some (.slice Ao34 t520.length co34) ∧ w'.cell? ⟨gb524, 3, none⟩ = some (.int .i64 t523) ∧ w'.cell? ⟨gb498, 0, none⟩ = some (.slice A1_0 l1_0.length c1_0) ∧ w'.cell? ⟨gb498, 1, none⟩ = some (.int .i64 a1_1) ∧ w'.cell? ⟨gb498, 2, none⟩ = some (.slice A1_2 l1_2.length c1_2) ∧ w'.cell? ⟨gb498, 3, none⟩ = some (.int .i64 a1_3)) (ds := []) #[false, false, false, false, false] (by kernel_rfl) rfl rfl ⟨(blk_cell BK524.out 0).trans rfl, (blk_cell BK524.out 1).trans rfl, (blk_cell BK524.out 2).trans rfl, (blk_cell BK524.out 3).trans rfl, (blk_cell BK498.out 0).trans rfl, (blk_cell BK498.out 1).trans rfl, (blk_cell BK498.out 2).trans rfl, (blk_cell BK498.out 3).trans rfl⟩ (fun hHeld => ?_)
          generalize wc.drew = w50 at HO_525000 HO_525002 BK498 BK524 HB hHeld ⊢
          refine take_ (i := 0) (N := some 44) (v := ?_) (a' := ?_) #[true, false, false, false, false] rfl rfl (by kernel_rfl) (fun _ _ _ h => h) (Or.inl ⟨by rfl, ?_⟩) hHeld ?_ ?_
          rotate_left
          ·rintro w' ⟨s0, s1, s2, s3, s4, s5, s6, s7⟩
           go_simp
           with_reducible rfl
          rotate_left
          ·simp only [Act.put, List.setIfInBounds_toArray, List.set_cons_zero, List.set_cons_succ, i64_w, i32_w]
           rfl
          refine take_ (i := 1) (N := some 45) (v := ?_) (a' := ?_) #[true, true, false, false, false] rfl rfl (by kernel_rfl) (fun _ _ _ h => h) (Or.inl ⟨by rfl, ?_⟩) hHeld ?_ ?_
          rotate_left
          ·rintro w' ⟨s0, s1, s2, s3, s4, s5, s6, s7⟩
           go_simp
           with_reducible rfl
          rotate_left
          ·simp only [Act.put, List.setIfInBounds_toArray, List.set_cons_zero, List.set_cons_succ, i64_w, i32_w]
           rfl
          refine one_ (i := 2) (N := some 46) #[true, true, true, false, false] rfl rfl (by kernel_rfl) (by decide) (fun K hK => ?_)
          refine S.go Try.func35 #[.agg #[.slice A1_0 l1_0.length c1_0, .int .i64 a1_1, .slice A1_2 l1_2.length c1_2, .int .i64 a1_3]] ?_
          with_reducible refine (laws_toControl.calls kj41 _ _ l1_0 a1_1 _ _ l1_2 a1_3 t530 t533 t534 t537 _ ?s1 ?s2 ?s3 ?s4 A47.out).mono ?_
          (case s1 => exact S.cA HR1_0.out)
          (case s2 => exact HC1_0.out)
          (case s3 => exact S.cA HR1_2.out)
          (case s4 => exact HC1_2.out)
          rintro e w51 ⟨v531, v535, rfl, ho0, ho1, hb⟩
          refine ⟨_, rfl, ?_⟩
          have HO532 := Aside0.mk (Kd.R_lower (Kd.R_new' (Kd.R_new' ho0 (Kd.R_lt (S.uR HO_525000.out))) (Kd.R_lt (S.uR HO_525002.out))) (below_size S.bG))
          have HO536 := Aside0.mk (Kd.R_lower (Kd.R_new' (Kd.R_new' ho1 (Kd.R_lt (S.uR HO_525000.out))) (Kd.R_lt (S.uR HO_525002.out))) (below_size S.bG))
          replace HO_525000 := Aside0.mk (Kd.R_mono (Kd.R_told (Kd.R_told (Kd.R_old (S.uR HO_525000.out) hb) (Kd.R_base ho0)) (Kd.R_base ho1)) (fun _ h_ => h_.1))
          replace HO_525002 := Aside0.mk (Kd.R_mono (Kd.R_told (Kd.R_told (Kd.R_old (S.uR HO_525002.out) hb) (Kd.R_base ho0)) (Kd.R_base ho1)) (fun _ h_ => h_.1))
          replace BK498 := S.kb BK498 hb
          replace BK524 := S.kb BK524 hb
          replace HB := S.sG hb
          (try clear hb)
          (try clear hb2)
          (try clear hk)
          (try clear hi)
          (try clear ho0)
          (try clear ho1)
          obtain ⟨Ao52, co52, eo52⟩ := Kd.R_slice HO532.out
          (first | subst eo52 | (injection eo52 with f1_ f2_ f3_; have f4_ := f1_.symm; have f5_ := f3_.symm; clear f1_ f2_ f3_; subst f4_; subst f5_))
          obtain ⟨Ao53, co53, eo53⟩ := Kd.R_slice HO536.out
          (first | subst eo53 | (injection eo53 with f1_ f2_ f3_; have f4_ := f1_.symm; have f5_ := f3_.symm; clear f1_ f2_ f3_; subst f4_; subst f5_))
          refine hK.out _ _ (S.d4 BK524.out (S.e4 BK498.out)) (fun hHeld => ?_)
          clear hK K
          refine S.nm 46 ?_
          refine one_ (i := 3) (N := some 47) #[true, true, true, true, false] rfl rfl (by kernel_rfl) (by decide) (fun K hK => ?_)
          refine S.go Try.func37 #[.agg #[.slice Ao31 t516.length co31, .int .i64 t519, .slice Ao34 t520.length co34, .int .i64 t523], .agg #[.slice Ao52 t530.length co52, .int .i64 t533, .slice Ao53 t534.length co53, .int .i64 t537]] ?_
          with_reducible refine (laws_eqControl.calls kj41 _ _ t516 t519 _ _ t520 t523 _ _ t530 t533 _ _ t534 t537 true _ ?s1 ?s2 ?s3 ?s4 ?s5 ?s6 ?s7 ?s8 A48.out).mono ?_
          (case s1 => exact S.rd HO_525000)
          (case s2 => exact S.rl HO_525000)
          (case s3 => exact S.rd HO_525002)
          (case s4 => exact S.rl HO_525002)
          (case s5 => exact S.rd HO532)
          (case s6 => exact S.rl HO532)
          (case s7 => exact S.rd HO536)
          (case s8 => exact S.rl HO536)
          rintro e w54 ⟨rfl, hb⟩
          refine ⟨_, rfl, ?_⟩
          replace HO_525000 := S.rb HO_525000 hb
          replace HO_525002 := S.rb HO_525002 hb
          replace HO532 := S.rb HO532 hb
          replace HO536 := S.rb HO536 hb
          replace BK498 := S.kb BK498 hb
          replace BK524 := S.kb BK524 hb
          replace HB := S.sG hb
          (try clear hb)
          (try clear hb2)
          (try clear hk)
          (try clear hi)
          refine hK.out _ _ (S.d4 BK524.out (S.e4 BK498.out)) (fun hHeld => ?_)
          clear hK K
          refine S.nm 47 ?_
          refine pure_ (i := 4) (N := some 48) (v := ?_) (a' := ?_) #[true, true, true, true, true] rfl rfl (by kernel_rfl) (fun _ _ _ h => h) (Or.inl ⟨by rfl, ?_⟩) ?_ ?_
          rotate_left
          ·intro w'
           go_simp
           with_reducible rfl
          rotate_left
          ·simp only [Act.put, List.setIfInBounds_toArray, List.set_cons_zero, List.set_cons_succ, i64_w, i32_w]
           rfl
          refine done_ (by kernel_rfl) ?_
          try go_wp2
          go_ret
          exact ⟨S.eW, S.bG⟩
         ·obtain rfl := Option.some.inj H
          try go_wp2
          replace HO_525000 := S.dr HO_525000
          replace HO_525002 := S.dr HO_525002
          replace BK498 := Aside0.mk (blk_drew BK498.out)
          replace BK524 := Aside0.mk (blk_drew BK524.out)
          replace HB := Aside0.mk (below_drew1 HB.out)
          refine start_ (n := 5) (S := fun w' => w'.cell? ⟨gb524, 0, none⟩ = some (.slice Ao31 t516.length co31) ∧ w'.cell? ⟨gb524, 1, none⟩ = some (.int .i64 t519) ∧ w'.cell? ⟨gb524, 2, none⟩ = some (.slice Ao34 t520.length co34) ∧ w'.cell? ⟨gb524, 3, none⟩ = some (.int .i64 t523) ∧ w'.cell? ⟨gb498, 0, none⟩ = some (.slice A1_0 l1_0.length c1_0) ∧ w'.cell? ⟨gb498, 1, none⟩ = some (.int .i64 a1_1) ∧ w'.cell? ⟨gb498, 2, none⟩ = some (.slice A1_2 l1_2.length c1_2) ∧ w'.cell? ⟨gb498, 3, none⟩ = some (.int .i64 a1_3)) (ds := []) #[false, false, false, false, false] (by kernel_rfl) rfl rfl ⟨(blk_cell BK524.out 0).trans rfl, (blk_cell BK524.out 1).trans rfl, (blk_cell BK524.out 2).trans rfl, (blk_cell BK524.out 3).trans rfl, (blk_cell BK498.out 0).trans rfl, (blk_cell BK498.out 1).trans rfl, (blk_cell BK498.out 2).trans rfl, (blk_cell BK498.out 3).trans rfl⟩ (fun hHeld => ?_)
          generalize wc.drew = w55 at HO_525000 HO_525002 BK498 BK524 HB hHeld ⊢
          refine take_ (i := 0) (N := some 44) (v := ?_) (a' := ?_) #[true, false, false, false, false] rfl rfl (by kernel_rfl) (fun _ _ _ h => h) (Or.inl ⟨by rfl, ?_⟩) hHeld ?_ ?_
          rotate_left
          ·rintro w' ⟨s0, s1, s2, s3, s4, s5, s6, s7⟩
           go_simp
           with_reducible rfl
          rotate_left
          ·simp only [Act.put, List.setIfInBounds_toArray, List.set_cons_zero, List.set_cons_succ, i64_w, i32_w]
           rfl
          refine take_ (i := 1) (N := some 45) (v := ?_) (a' := ?_) #[true, true, false, false, false] rfl rfl (by kernel_rfl) (fun _ _ _ h => h) (Or.inl ⟨by rfl, ?_⟩) hHeld ?_ ?_
          rotate_left
          ·rintro w' ⟨s0, s1, s2, s3, s4, s5, s6, s7⟩
           go_simp
           with_reducible rfl
          rotate_left
          ·simp only [Act.put, List.setIfInBounds_toArray, List.set_cons_zero, List.set_cons_succ, i64_w, i32_w]
           rfl
          refine one_ (i := 2) (N := some 46) #[true, true, true, false, false] rfl rfl (by kernel_rfl) (by decide) (fun K hK => ?_)
          refine S.go Try.func35 #[.agg #[.slice A1_0 l1_0.length c1_0, .int .i64 a1_1, .slice A1_2 l1_2.length c1_2, .int .i64 a1_3]] ?_
          with_reducible refine (laws_toControl.calls kj41 _ _ l1_0 a1_1 _ _ l1_2 a1_3 t530 t533 t534 t537 _ ?s1 ?s2 ?s3 ?s4 A47.out).mono ?_
          (case s1 => exact S.cA HR1_0.out)
          (case s2 => exact HC1_0.out)
          (case s3 => exact S.cA HR1_2.out)
          (case s4 => exact HC1_2.out)
          rintro e w56 ⟨v531, v535, rfl, ho0, ho1, hb⟩
          refine ⟨_, rfl, ?_⟩
          have HO532 := Aside0.mk (Kd.R_lower (Kd.R_new' (Kd.R_new' ho0 (Kd.R_lt (S.uR HO_525000.out))) (Kd.R_lt (S.uR HO_525002.out))) (below_size S.bG))
          have HO536 := Aside0.mk (Kd.R_lower (Kd.R_new' (Kd.R_new' ho1 (Kd.R_lt (S.uR HO_525000.out))) (Kd.R_lt (S.uR HO_525002.out))) (below_size S.bG))
          replace HO_525000 := Aside0.mk (Kd.R_mono (Kd.R_told (Kd.R_told (Kd.R_old (S.uR HO_525000.out) hb) (Kd.R_base ho0)) (Kd.R_base ho1)) (fun _ h_ => h_.1))
          replace HO_525002 := Aside0.mk (Kd.R_mono (Kd.R_told (Kd.R_told (Kd.R_old (S.uR HO_525002.out) hb) (Kd.R_base ho0)) (Kd.R_base ho1)) (fun _ h_ => h_.1))
          replace BK498 := S.kb BK498 hb
          replace BK524 := S.kb BK524 hb
          replace HB := S.sG hb
          (try clear hb)
          (try clear hb2)
          (try clear hk)
          (try clear hi)
          (try clear ho0)
          (try clear ho1)
          obtain ⟨Ao57, co57, eo57⟩ := Kd.R_slice HO532.out
          (first | subst eo57 | (injection eo57 with f1_ f2_ f3_; have f4_ := f1_.symm; have f5_ := f3_.symm; clear f1_ f2_ f3_; subst f4_; subst f5_))
          obtain ⟨Ao58, co58, eo58⟩ := Kd.R_slice HO536.out
          (first | subst eo58 | (injection eo58 with f1_ f2_ f3_; have f4_ := f1_.symm; have f5_ := f3_.symm; clear f1_ f2_ f3_; subst f4_; subst f5_))
          refine hK.out _ _ (S.d4 BK524.out (S.e4 BK498.out)) (fun hHeld => ?_)
          clear hK K
          refine S.nm 46 ?_
          refine one_ (i := 3) (N := some 47) #[true, true, true, true, false] rfl rfl (by kernel_rfl) (by decide) (fun K hK => ?_)
          refine S.go Try.func37 #[.agg #[.slice Ao31 t516.length co31, .int .i64 t519, .slice Ao34 t520.length co34, .int .i64 t523], .agg #[.slice Ao57 t530.length co57, .int .i64 t533, .slice Ao58 t534.length co58, .int .i64 t537]] ?_
          with_reducible refine (laws_eqControl.calls kj41 _ _ t516 t519 _ _ t520 t523 _ _ t530 t533 _ _ t534 t537 false _ ?s1 ?s2 ?s3 ?s4 ?s5 ?s6 ?s7 ?s8 A48.out).mono ?_
          (case s1 => exact S.rd HO_525000)
          (case s2 => exact S.rl HO_525000)
          (case s3 => exact S.rd HO_525002)
          (case s4 => exact S.rl HO_525002)
          (case s5 => exact S.rd HO532)
          (case s6 => exact S.rl HO532)
          (case s7 => exact S.rd HO536)
          (case s8 => exact S.rl HO536)
          rintro e w59 ⟨rfl, hb⟩
          refine ⟨_, rfl, ?_⟩
          replace HO_525000 := S.rb HO_525000 hb
          replace HO_525002 := S.rb HO_525002 hb
          replace HO532 := S.rb HO532 hb
          replace HO536 := S.rb HO536 hb
          replace BK498 := S.kb BK498 hb
          replace BK524 := S.kb BK524 hb
          replace HB := S.sG hb
          (try clear hb)
          (try clear hb2)
          (try clear hk)
          (try clear hi)
          refine hK.out _ _ (S.d4 BK524.out (S.e4 BK498.out)) (fun hHeld => ?_)
          clear hK K
          refine S.nm 47 ?_
          refine pure_ (i := 4) (N := some 48) (v := ?_) (a' := ?_) #[true, true, true, true, true] rfl rfl (by kernel_rfl) (fun _ _ _ h => h) (Or.inl ⟨by rfl, ?_⟩) ?_ ?_
          rotate_left
          ·intro w'
           go_simp
           with_reducible rfl
          rotate_left
          ·simp only [Act.put, List.setIfInBounds_toArray, List.set_cons_zero, List.set_cons_succ, i64_w, i32_w]
           rfl
          refine done_ (by kernel_rfl) ?_
          try go_wp2
          go_ret
          exact ⟨S.eW, S.bG⟩

end Go.Proofs.Ytopchlafmfgpnaa.PFnExactSirenWait
