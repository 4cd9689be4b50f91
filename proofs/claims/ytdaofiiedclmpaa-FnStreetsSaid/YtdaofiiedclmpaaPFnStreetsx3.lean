/- Printed by a program: what the Go functions compute, as plain Lean functions (.f), and the proofs that the machine's calls come to just that (.calls). -/
import Derived.Test.YtdaofiiedclmpaaSorts
import Derived.Test.YtdaofiiedclmpaaPFnStreetsx0
import Derived.Test.YtdaofiiedclmpaaPFnStreetsx1
namespace Go.Proofs.Ytdaofiiedclmpaa.PFnStreets
open Go.RowKit Go.Proofs.YtdaofiiedclmpaaW.PrintWords Go.Proofs.YtdaofiiedclmpaaW.PrintLast Go.Proofs.YtdaofiiedclmpaaW.PrintMore
attribute [local go_sem] max2_int min2_int max_two min_two max_three min_three max_four min_four   -- for this text's walks alone
set_option linter.unusedVariables false
set_option linter.unusedSimpArgs false

/-! ### impl_IsChain: function 30 -/
mutual
def impl_IsChain.j0 : Nat → List (S47) → List Int → Bool → Option (Bool)
 | 0, _, _, _ => none
 | k + 1, x0, x1, x15 => if x15 = true then (some false) else (impl_IsChain.l0 k x0 x1 x1 (x1.length : Int) 0)
def impl_IsChain.l0 : Nat → List (S47) → List Int → List Int → Int → Int → Option (Bool)
 | 0, _, _, _, _, _ => none
 | k + 1, x0, x1, x16, x17, x18 => if x18 < x17 then (if 0 ≤ x18 then (if x18 < (x16.length : Int) then ((impl_isCrossing.f (rd x16 x18)).bind fun t141 => (if t141 = true then (if x18 ≤ (x1.length : Int) then ((slices_Contains_int_int.f k (x1.take (x18 : Int).toNat) (rd x16 x18)).bind fun t143 => (if t143 = true then (some false) else (if x18 > 0 then (if 0 ≤ (wrap64 (x18 - 1)) then (if (wrap64 (x18 - 1)) < (x1.length : Int) then ((impl_streetOf.f x0 (rd x1 (wrap64 (x18 - 1))) (rd x16 x18)).bind fun t145 => (if t145 < 0 then (some false) else (impl_IsChain.l0 k x0 x1 x16 x17 (wrap64 (x18 + 1))))) else (none)) else (none)) else (impl_IsChain.l0 k x0 x1 x16 x17 (wrap64 (x18 + 1)))))) else (none)) else (some false))) else (none)) else (none)) else (some true)
end
def impl_IsChain.f (k : Nat) (l0 : List (S47)) (l1 : List Int) : Option (Bool) := (impl_AreStreets.f k l0).bind fun t138 => (if t138 = true then ((impl_InRange.f (l1.length : Int) 1 8).bind fun t139 => (impl_IsChain.j0 k l0 l1 (!t139))) else (impl_IsChain.j0 k l0 l1 true))
set_option maxHeartbeats 8000000 in
set_option maxRecDepth 100000 in
theorem impl_IsChain.calls (k : Nat) (A0 : Option Addr) (c0 : Nat) (l0 : List (S47)) (A1 : Option Addr) (c1 : Nat) (l1 : List Int) (r : Bool) (w : World) (hr0 : Kd.C k47 w A0 l0.length l0) (hc0 : l0.length ≤ c0) (hr1 : Kd.C (Kd.int .i64) w A1 l1.length l1) (hc1 : l1.length ≤ c1) (h : impl_IsChain.f k l0 l1 = some r) :
  Calls Try.prog 30 #[.slice A0 l0.length c0, .slice A1 l1.length c1] w fun e w' => e = .returned (.bool r) ∧ Below w.heap.size w w' := by
 have HR0 := Aside0.mk hr0
 have HC0 := Aside0.mk hc0
 clear hr0 hc0
 have HR1 := Aside0.mk hr1
 have HC1 := Aside0.mk hc1
 clear hr1 hc1
 have HB := Aside0.mk (Below.refl w.heap.size w)
 have H : ((impl_AreStreets.f k l0).bind fun t138 => (if t138 = true then ((impl_InRange.f (l1.length : Int) 1 8).bind fun t139 => (impl_IsChain.j0 k l0 l1 (!t139))) else (impl_IsChain.j0 k l0 l1 true))) = some r := h
 clear h
 have HC3 := Aside0.mk H
 clear H
 go_enter Try.func30, Try.ntmps30
 go_upto_region 1 with (fail)
 go_cut [15] (fun v15 wc => ∃ (kq : Nat) (x15_2 : Bool), v15 = .bool x15_2 ∧ Aside0 (impl_IsChain.j0 kq l0 l1 x15_2 = some r) ∧ Aside0 (kq ≤ k) ∧ Aside0 (Below w.heap.size w wc))
 case first =>
  have H := HC3.out
  clear HC3
  replace H := S.bd H; obtain ⟨t138, A4, H⟩ := H
  (try dsimp only at H)
  replace H := S.db H; rcases H with ⟨rfl, H⟩ | ⟨rfl, H⟩
  ·replace H := S.bd H; obtain ⟨t139, A6, H⟩ := H
   (try dsimp only at H)
   have H' := Aside0.mk H
   clear H
   go_wp2_with (first | ((with_reducible refine gate_callee (f := 18) rfl ?_); refine S.gL (some 8) Try.func18 #[.slice A0 l0.length c0] ?_; (with_reducible refine (impl_AreStreets.calls k _ _ l0 true _ ?s1 HC0.out A4.out).mono ?_); (case s1 => exact S.cA HR0.out); rintro e w7 ⟨rfl, hb⟩; refine ⟨_, rfl, ?_⟩; replace HB := S.sA hb; (try clear hb)) | (go_at_call 60; (with_reducible refine (impl_InRange.calls (l1.length : Int) 1 8 t139 _ A6.out).mono ?_); rintro e w' ⟨rfl, ⟨nd, rfl⟩⟩))
   go_meet
   case rel => exact ⟨_, (!t139), S.eA, H', S.le, ⟨S.bA⟩⟩
  ·have H' := Aside0.mk H
   clear H
   go_wp2_with (first | ((with_reducible refine gate_callee (f := 18) rfl ?_); refine S.gL (some 8) Try.func18 #[.slice A0 l0.length c0] ?_; (with_reducible refine (impl_AreStreets.calls k _ _ l0 false _ ?s1 HC0.out A4.out).mono ?_); (case s1 => exact S.cA HR0.out); rintro e w8 ⟨rfl, hb⟩; refine ⟨_, rfl, ?_⟩; replace HB := S.sA hb; (try clear hb)))
   go_meet
   case rel => exact ⟨_, (true), S.eA, H', S.le, ⟨S.bA⟩⟩
 case rest =>
  clear HC3
  try clear c1
  obtain ⟨kq, x15_2, rfl, HA, HJ2, HB⟩ := hcut
  cases kq with
  | zero => exact absurd HA.out (by simp [impl_IsChain.j0])
  | succ kj2 =>
   have H := HA.out
   clear HA
   simp only [impl_IsChain.j0] at H
   replace H := S.db H; rcases H with ⟨rfl, H⟩ | ⟨rfl, H⟩
   ·obtain rfl := Option.some.inj H
    go_wp2
    go_ret
    exact ⟨S.eW, S.bA⟩
   ·have H' := Aside0.mk H
    clear H
    go_wp2
    go_loopg [18] kj2 (fun kq v18 w' => ∃ (x18_2 : Int), v18 = .int .i64 x18_2 ∧ Aside0 (impl_IsChain.l0 kq l0 l1 l1 (l1.length : Int) x18_2 = some r) ∧ Aside0 (kq ≤ kj2) ∧ Aside0 (Below w.heap.size w w'))
    case atStart => exact ⟨(0), S.eA, H', ⟨Nat.le_refl _⟩, ⟨S.bA⟩⟩
    case round =>
     clear H'
     try clear c1
     try clear c9
     obtain ⟨x18_2, rfl, HA, HK2, HB⟩ := hrel
     cases gk with
     | zero => exact absurd HA.out (by simp [impl_IsChain.l0])
     | succ k2 =>
      have H := HA.out
      clear HA
      simp only [impl_IsChain.l0] at H
      replace H := S.dc H; rcases H with ⟨H, c10b0⟩ | ⟨H, c10b0⟩
      ·by_cases c11 : 0 ≤ x18_2
       ·rw [if_pos c11] at H
        have c11b0 : decide (0 ≤ x18_2) = true := decide_eq_true c11
        clear c11
        by_cases c12 : x18_2 < (l1.length : Int)
        ·rw [if_pos c12] at H
         have c12b0 : decide (x18_2 < (l1.length : Int)) = true := decide_eq_true c12
         clear c12
         replace H := S.bd H; obtain ⟨t141, A13, H⟩ := H
         (try dsimp only at H)
         replace H := S.db H; rcases H with ⟨rfl, H⟩ | ⟨rfl, H⟩
         ·have c15b0 := eq_true (S.oD : 0 ≤ x18_2)
          by_cases c16 : x18_2 ≤ (l1.length : Int)
          ·rw [if_pos c16] at H
           have c16b0 := eq_true c16
           have c16b1 : decide (x18_2 ≤ (l1.length : Int)) = true := decide_eq_true c16
           clear c16
           replace H := S.bd H; obtain ⟨t143, A17, H⟩ := H
           (try dsimp only at H)
           replace H := S.db H; rcases H with ⟨rfl, H⟩ | ⟨rfl, H⟩
           ·obtain rfl := Option.some.inj H
            have p140 : 0 ≤ (x18_2 : Int) := S.oD
            have q140 : x18_2 < (l1.length : Int) := S.oD
            obtain ⟨ad140, e140, hx140_0⟩ := Kd.at_int HR1.out x18_2 p140 q140
            cases e140
            replace hx140_0 := S.hb HB hx140_0
            replace p140 := eq_true p140
            replace q140 := eq_true q140
            go_wp2_with (first | ((with_reducible refine gate_callee (f := 59) rfl ?_); refine S.gL (some 24) Try.func59 #[.int .i64 (rd l1 x18_2)] ?_; (with_reducible refine (impl_isCrossing.calls (rd l1 x18_2) true _ A13.out).mono ?_); rintro e w' ⟨rfl, ⟨nd, rfl⟩⟩; refine ⟨_, rfl, ?_⟩; obtain ⟨i019, hi019, _, hsz19, _⟩ := info_parts info3; obtain ⟨hcut19, hA19, hC19⟩ := print_take_of (P := Try.prog) (Value.int .i64) 0 31 3 .i64 Try.underlying31 hi019 hsz19 (some ad140) c1 l1 x18_2 (S.oD) (S.oD) HC1.out; have HR142 := Aside0.mk (Kd.C_of_reads (h1 := fun _ => rfl) (hA19 _ (Kd.reads_of_C HR1.out))); have HC142 := Aside0.mk hC19; clear hA19 hC19 hi019 hsz19) | (go_at_call 66; (with_reducible refine (Go.Proofs.Ytdaofiiedclmpaa.Hnd.calls_len1 (n := (x18_2 : Int).toNat) (by rw [List.length_take]; have h_ : (x18_2 : Int) ≤ (l1.length : Int) := S.oD; omega) (slices_Contains_int_int.calls k2 _ _ (l1.take (x18_2 : Int).toNat) (rd l1 x18_2) true _ ?s1 HC142.out A17.out)).mono ?_); (case s1 => repeat (first | exact (Kd.C_below HR142.out S.bA) | (with_reducible refine Kd.C_alloc ?_ _) | (with_reducible refine Kd.C_drewN ?_ _) | (with_reducible refine Kd.C_drew ?_))); rintro e w' ⟨rfl, ⟨nd, rfl⟩⟩))
            go_ret
            exact ⟨S.eW, S.bA⟩
           ·by_cases c20 : x18_2 > 0
            ·rw [if_pos c20] at H
             have c20b0 : decide (0 < x18_2) = true := decide_eq_true c20
             clear c20
             obtain ⟨ji21, hji21⟩ : ∃ j_ : Int, (wrap64 (x18_2 - 1)) = j_ := ⟨_, rfl⟩
             replace H : (if 0 ≤ (ji21) then (if (ji21) < (l1.length : Int) then ((impl_streetOf.f l0 (rd l1 (ji21)) (rd l1 x18_2)).bind fun t145 => (if t145 < 0 then (some false) else (impl_IsChain.l0 k2 l0 l1 l1 (l1.length : Int) (wrap64 (x18_2 + 1))))) else (none)) else (none)) = some r := by first | (rw [hji21] at H; exact H) | (simp only [hji21] at H ⊢; exact H)
             (try rw [hji21] at A13)
             (try rw [hji21] at A17)
             have hji21w : (IntKind.i64.wrap (x18_2 - 1)) = ji21 := (i64_w _).trans hji21
             by_cases c22 : 0 ≤ (ji21)
             ·rw [if_pos c22] at H
              have c22b0 : decide (0 ≤ (ji21)) = true := decide_eq_true c22
              clear c22
              by_cases c23 : (ji21) < (l1.length : Int)
              ·rw [if_pos c23] at H
               have c23b0 : decide ((ji21) < (l1.length : Int)) = true := decide_eq_true c23
               clear c23
               replace H := S.bd H; obtain ⟨t145, A24, H⟩ := H
               (try dsimp only at H)
               replace H := S.dc H; rcases H with ⟨H, c25b0⟩ | ⟨H, c25b0⟩
               ·obtain rfl := Option.some.inj H
                have p140 : 0 ≤ (x18_2 : Int) := S.oD
                have q140 : x18_2 < (l1.length : Int) := S.oD
                obtain ⟨ad140, e140, hx140_0⟩ := Kd.at_int HR1.out x18_2 p140 q140
                cases e140
                replace hx140_0 := S.hb HB hx140_0
                replace p140 := eq_true p140
                replace q140 := eq_true q140
                go_wp2_with (first | ((with_reducible refine gate_callee (f := 59) rfl ?_); refine S.gL (some 24) Try.func59 #[.int .i64 (rd l1 x18_2)] ?_; (with_reducible refine (impl_isCrossing.calls (rd l1 x18_2) true _ A13.out).mono ?_); rintro e w' ⟨rfl, ⟨nd, rfl⟩⟩; refine ⟨_, rfl, ?_⟩; obtain ⟨i026, hi026, _, hsz26, _⟩ := info_parts info3; obtain ⟨hcut26, hA26, hC26⟩ := print_take_of (P := Try.prog) (Value.int .i64) 0 31 3 .i64 Try.underlying31 hi026 hsz26 (some ad140) c1 l1 x18_2 (S.oD) (S.oD) HC1.out; have HR142 := Aside0.mk (Kd.C_of_reads (h1 := fun _ => rfl) (hA26 _ (Kd.reads_of_C HR1.out))); have HC142 := Aside0.mk hC26; clear hA26 hC26 hi026 hsz26) | (go_at_call 66; (with_reducible refine (Go.Proofs.Ytdaofiiedclmpaa.Hnd.calls_len1 (n := (x18_2 : Int).toNat) (by rw [List.length_take]; have h_ : (x18_2 : Int) ≤ (l1.length : Int) := S.oD; omega) (slices_Contains_int_int.calls k2 _ _ (l1.take (x18_2 : Int).toNat) (rd l1 x18_2) false _ ?s1 HC142.out A17.out)).mono ?_); (case s1 => repeat (first | exact (Kd.C_below HR142.out S.bA) | (with_reducible refine Kd.C_alloc ?_ _) | (with_reducible refine Kd.C_drewN ?_ _) | (with_reducible refine Kd.C_drew ?_))); rintro e w' ⟨rfl, ⟨nd, rfl⟩⟩; have p144 : 0 ≤ ((ji21) : Int) := S.oD; have q144 : (ji21) < (l1.length : Int) := S.oD; obtain ⟨ad144, e144, hx144_0⟩ := Kd.at_int HR1.out (ji21) p144 q144; obtain rfl : ad140 = ad144 := (by injection e144); replace hx144_0 := S.hb HB hx144_0; replace p144 := eq_true p144; replace q144 := eq_true q144) | (go_at_call 61; (with_reducible refine (impl_streetOf.calls _ _ l0 (rd l1 (ji21)) (rd l1 x18_2) t145 _ ?s1 HC0.out A24.out).mono ?_); (case s1 => repeat (first | exact (Kd.C_below HR0.out S.bA) | (with_reducible refine Kd.C_alloc ?_ _) | (with_reducible refine Kd.C_drewN ?_ _) | (with_reducible refine Kd.C_drew ?_))); rintro e w27 ⟨rfl, hb⟩; replace HB := S.sA hb; (try clear hb)))
                go_ret
                exact ⟨by first | rfl | (simp [errW_none, errW_some] <;> rfl) | (simp only [← hji21]; first | rfl | (simp [errW_none, errW_some] <;> rfl)) | (simp [*, errW_none, errW_some] <;> rfl), S.bA⟩
               ·have H' := Aside0.mk H
                clear H
                have p140 : 0 ≤ (x18_2 : Int) := S.oD
                have q140 : x18_2 < (l1.length : Int) := S.oD
                obtain ⟨ad140, e140, hx140_0⟩ := Kd.at_int HR1.out x18_2 p140 q140
                cases e140
                replace hx140_0 := S.hb HB hx140_0
                replace p140 := eq_true p140
                replace q140 := eq_true q140
                go_wp2_with (first | ((with_reducible refine gate_callee (f := 59) rfl ?_); refine S.gL (some 24) Try.func59 #[.int .i64 (rd l1 x18_2)] ?_; (with_reducible refine (impl_isCrossing.calls (rd l1 x18_2) true _ A13.out).mono ?_); rintro e w' ⟨rfl, ⟨nd, rfl⟩⟩; refine ⟨_, rfl, ?_⟩; obtain ⟨i028, hi028, _, hsz28, _⟩ := info_parts info3; obtain ⟨hcut28, hA28, hC28⟩ := print_take_of (P := Try.prog) (Value.int .i64) 0 31 3 .i64 Try.underlying31 hi028 hsz28 (some ad140) c1 l1 x18_2 (S.oD) (S.oD) HC1.out; have HR142 := Aside0.mk (Kd.C_of_reads (h1 := fun _ => rfl) (hA28 _ (Kd.reads_of_C HR1.out))); have HC142 := Aside0.mk hC28; clear hA28 hC28 hi028 hsz28) | (go_at_call 66; (with_reducible refine (Go.Proofs.Ytdaofiiedclmpaa.Hnd.calls_len1 (n := (x18_2 : Int).toNat) (by rw [List.length_take]; have h_ : (x18_2 : Int) ≤ (l1.length : Int) := S.oD; omega) (slices_Contains_int_int.calls k2 _ _ (l1.take (x18_2 : Int).toNat) (rd l1 x18_2) false _ ?s1 HC142.out A17.out)).mono ?_); (case s1 => repeat (first | exact (Kd.C_below HR142.out S.bA) | (with_reducible refine Kd.C_alloc ?_ _) | (with_reducible refine Kd.C_drewN ?_ _) | (with_reducible refine Kd.C_drew ?_))); rintro e w' ⟨rfl, ⟨nd, rfl⟩⟩; have p144 : 0 ≤ ((ji21) : Int) := S.oD; have q144 : (ji21) < (l1.length : Int) := S.oD; obtain ⟨ad144, e144, hx144_0⟩ := Kd.at_int HR1.out (ji21) p144 q144; obtain rfl : ad140 = ad144 := (by injection e144); replace hx144_0 := S.hb HB hx144_0; replace p144 := eq_true p144; replace q144 := eq_true q144) | (go_at_call 61; (with_reducible refine (impl_streetOf.calls _ _ l0 (rd l1 (ji21)) (rd l1 x18_2) t145 _ ?s1 HC0.out A24.out).mono ?_); (case s1 => repeat (first | exact (Kd.C_below HR0.out S.bA) | (with_reducible refine Kd.C_alloc ?_ _) | (with_reducible refine Kd.C_drewN ?_ _) | (with_reducible refine Kd.C_drew ?_))); rintro e w29 ⟨rfl, hb⟩; replace HB := S.sA hb; (try clear hb)))
                go_roundg k2
                case measure => have := HJ2.out; have := HK2.out; omega
                case rel => exact ⟨(wrap64 (x18_2 + 1)), S.eA, H', ⟨by have := HJ2.out; have := HK2.out; omega⟩, ⟨S.bA⟩⟩
              ·rw [if_neg c23] at H
               exact absurd H (by simp)
             ·rw [if_neg c22] at H
              exact absurd H (by simp)
            ·rw [if_neg c20] at H
             have c20b0 : decide (0 < x18_2) = false := decide_eq_false c20
             clear c20
             have H' := Aside0.mk H
             clear H
             have p140 : 0 ≤ (x18_2 : Int) := S.oD
             have q140 : x18_2 < (l1.length : Int) := S.oD
             obtain ⟨ad140, e140, hx140_0⟩ := Kd.at_int HR1.out x18_2 p140 q140
             cases e140
             replace hx140_0 := S.hb HB hx140_0
             replace p140 := eq_true p140
             replace q140 := eq_true q140
             go_wp2_with (first | ((with_reducible refine gate_callee (f := 59) rfl ?_); refine S.gL (some 24) Try.func59 #[.int .i64 (rd l1 x18_2)] ?_; (with_reducible refine (impl_isCrossing.calls (rd l1 x18_2) true _ A13.out).mono ?_); rintro e w' ⟨rfl, ⟨nd, rfl⟩⟩; refine ⟨_, rfl, ?_⟩; obtain ⟨i030, hi030, _, hsz30, _⟩ := info_parts info3; obtain ⟨hcut30, hA30, hC30⟩ := print_take_of (P := Try.prog) (Value.int .i64) 0 31 3 .i64 Try.underlying31 hi030 hsz30 (some ad140) c1 l1 x18_2 (S.oD) (S.oD) HC1.out; have HR142 := Aside0.mk (Kd.C_of_reads (h1 := fun _ => rfl) (hA30 _ (Kd.reads_of_C HR1.out))); have HC142 := Aside0.mk hC30; clear hA30 hC30 hi030 hsz30) | (go_at_call 66; (with_reducible refine (Go.Proofs.Ytdaofiiedclmpaa.Hnd.calls_len1 (n := (x18_2 : Int).toNat) (by rw [List.length_take]; have h_ : (x18_2 : Int) ≤ (l1.length : Int) := S.oD; omega) (slices_Contains_int_int.calls k2 _ _ (l1.take (x18_2 : Int).toNat) (rd l1 x18_2) false _ ?s1 HC142.out A17.out)).mono ?_); (case s1 => repeat (first | exact (Kd.C_below HR142.out S.bA) | (with_reducible refine Kd.C_alloc ?_ _) | (with_reducible refine Kd.C_drewN ?_ _) | (with_reducible refine Kd.C_drew ?_))); rintro e w' ⟨rfl, ⟨nd, rfl⟩⟩))
             go_roundg k2
             case measure => have := HJ2.out; have := HK2.out; omega
             case rel => exact ⟨(wrap64 (x18_2 + 1)), S.eA, H', ⟨by have := HJ2.out; have := HK2.out; omega⟩, ⟨S.bA⟩⟩
          ·rw [if_neg c16] at H
           exact absurd H (by simp)
         ·obtain rfl := Option.some.inj H
          have p140 : 0 ≤ (x18_2 : Int) := S.oD
          have q140 : x18_2 < (l1.length : Int) := S.oD
          obtain ⟨ad140, e140, hx140_0⟩ := Kd.at_int HR1.out x18_2 p140 q140
          cases e140
          replace hx140_0 := S.hb HB hx140_0
          replace p140 := eq_true p140
          replace q140 := eq_true q140
          go_wp2_with (first | ((with_reducible refine gate_callee (f := 59) rfl ?_); refine S.gL (some 24) Try.func59 #[.int .i64 (rd l1 x18_2)] ?_; (with_reducible refine (impl_isCrossing.calls (rd l1 x18_2) false _ A13.out).mono ?_); rintro e w' ⟨rfl, ⟨nd, rfl⟩⟩; refine ⟨_, rfl, ?_⟩))
          go_ret
          exact ⟨S.eW, S.bA⟩
        ·rw [if_neg c12] at H
         exact absurd H (by simp)
       ·rw [if_neg c11] at H
        exact absurd H (by simp)
      ·obtain rfl := Option.some.inj H
       go_wp2
       go_ret
       exact ⟨S.eW, S.bA⟩

/-! ### impl_ChainTravel: function 32 -/
def impl_ChainTravel.l0 : Nat → List (S47) → List Int → List Int → Int → List Int → Int → Int → Option (List Int)
 | 0, _, _, _, _, _, _, _ => none
 | k + 1, x0, x1, x5, x6, x15, x16, x17 => if x17 < x16 then (if 0 ≤ x17 then (if x17 < (x15.length : Int) then (if x17 > 0 then (if 0 ≤ (wrap64 (x17 - 1)) then (if (wrap64 (x17 - 1)) < (x1.length : Int) then ((impl_streetOf.f x0 (rd x1 (wrap64 (x17 - 1))) (rd x15 x17)).bind fun t152 => (if 0 ≤ t152 then (if t152 < (x0.length : Int) then (if x5.length < 17592186044416 then (impl_ChainTravel.l0 k x0 x1 (x5 ++ [wrap64 (x6 + ((rd_T47 x0 t152).f2))]) (wrap64 (x6 + ((rd_T47 x0 t152).f2))) x15 x16 (wrap64 (x17 + 1))) else (none)) else (none)) else (none))) else (none)) else (none)) else (if x5.length < 17592186044416 then (impl_ChainTravel.l0 k x0 x1 (x5 ++ [x6]) x6 x15 x16 (wrap64 (x17 + 1))) else (none))) else (none)) else (none)) else (some x5)
def impl_ChainTravel.f (k : Nat) (l0 : List (S47)) (l1 : List Int) : Option (List Int) := (some (([] : List Int) : List Int)).bind fun y146 => ((impl_IsChain.f k l0 l1).bind fun t149 => (if t149 = true then (impl_ChainTravel.l0 k l0 l1 y146 0 l1 (l1.length : Int) 0) else (some y146)))
set_option maxHeartbeats 8000000 in
set_option maxRecDepth 100000 in
theorem impl_ChainTravel.calls (k : Nat) (A0 : Option Addr) (c0 : Nat) (l0 : List (S47)) (A1 : Option Addr) (c1 : Nat) (l1 : List Int) (r : List Int) (w : World) (hr0 : Kd.C k47 w A0 l0.length l0) (hc0 : l0.length ≤ c0) (hr1 : Kd.C (Kd.int .i64) w A1 l1.length l1) (hc1 : l1.length ≤ c1) (h : impl_ChainTravel.f k l0 l1 = some r) :
  Calls Try.prog 32 #[.slice A0 l0.length c0, .slice A1 l1.length c1] w fun e w' => ∃ v0_ : Value, e = .returned (v0_) ∧ Kd.R (Kd.int .i64) 3 w' w.heap.size (fun _ => True) v0_ r ∧ Below w.heap.size w w' := by
 have HR0 := Aside0.mk hr0
 have HC0 := Aside0.mk hc0
 clear hr0 hc0
 have HR1 := Aside0.mk hr1
 have HC1 := Aside0.mk hc1
 clear hr1 hc1
 have HB := Aside0.mk (Below.refl w.heap.size w)
 have H : ((some (([] : List Int) : List Int)).bind fun y146 => ((impl_IsChain.f k l0 l1).bind fun t149 => (if t149 = true then (impl_ChainTravel.l0 k l0 l1 y146 0 l1 (l1.length : Int) 0) else (some y146)))) = some r := h
 clear h
 obtain ⟨y146, hy146⟩ : ∃ y_ : List Int, y_ = (([] : List Int)) := ⟨_, rfl⟩
 replace H : ((impl_IsChain.f k l0 l1).bind fun t149 => (if t149 = true then (impl_ChainTravel.l0 k l0 l1 y146 0 l1 (l1.length : Int) 0) else (some y146))) = some r := by first | (rw [hy146]; with_reducible exact H) | (have H2_ := (Option.bind_some _ _).symm.trans H; rw [hy146]; with_reducible exact H2_) | (have H2_ := (Option.bind_some _ _).symm.trans H; with_reducible exact H2_) | with_reducible exact H | (rw [hy146]; exact H) | exact H
 have Ny146 := Aside0.mk hy146
 clear hy146
 replace H := S.bd H; obtain ⟨t149, A3, H⟩ := H
 (try dsimp only at H)
 replace H := S.db H; rcases H with ⟨rfl, H⟩ | ⟨rfl, H⟩
 ·have H' := Aside0.mk H
  clear H
  go_enter Try.func32, Try.ntmps32
  go_wp2_with (first | ((with_reducible refine gate_dst (N := 9) rfl ?_); refine Kd.R_lit (Kd.int .i64) _ 3 ?hg (N := 9) ?hd (xs := ([] : List Int)) (inner := []) (ok := fun _ => True) (okp := fun _ => True) ?hr ?hp (fun _ hk => hk) trivial (Below.refl _ _) (Nat.le_refl _) (by simp) ?_; (case hd => rfl); (case hg => rfl); (case hr => first | (go_simp; done) | (go_simp; rfl)); (case hp => exact (Reps.none _ _)); intro v147 w5 ho6 hb hg_ hnew_; clear hg_ hnew_; (first | rw [← Ny146.out] at ho6 | (simp only [Int.reduceToNat] at ho6; rw [← Ny146.out] at ho6)); have HO148 := S.lwA ho6; replace HB := S.sA hb; clear hb ho6) | ((with_reducible refine gate_callee (f := 30) rfl ?_); refine S.gL (some 12) Try.func30 #[.slice A0 l0.length c0, .slice A1 l1.length c1] ?_; (with_reducible refine (impl_IsChain.calls k _ _ l0 _ _ l1 true _ ?s1 HC0.out ?s3 HC1.out A3.out).mono ?_); (case s1 => exact S.cA HR0.out); (case s3 => exact S.cA HR1.out); rintro e w7 ⟨rfl, hb⟩; refine ⟨_, rfl, ?_⟩; replace HO148 := S.rb HO148 hb; replace HB := S.sA hb; (try clear hb)))
  go_loopg [5, 6, 17] k (fun kq v5 v6 v17 w' => ∃ (x5_1 : List Int) (x6_1 : Int) (x17_1 : Int), v6 = .int .i64 x6_1 ∧ v17 = .int .i64 x17_1 ∧ Aside0 (impl_ChainTravel.l0 kq l0 l1 x5_1 x6_1 l1 (l1.length : Int) x17_1 = some r) ∧ Aside0 (kq ≤ k) ∧ Aside0 (Kd.R (Kd.int .i64) 3 w' w.heap.size (fun _ => True) v5 x5_1) ∧ Aside0 (Below w.heap.size w w'))
  case atStart => exact ⟨(y146), (0), (0), S.eA, S.eA, H', ⟨Nat.le_refl _⟩, ⟨S.uR HO148.out⟩, ⟨S.bA⟩⟩
  case round =>
   clear H'
   try clear c1
   try clear c4
   obtain ⟨x5_1, x6_1, x17_1, rfl, rfl, HA, HK1, HO_5, HB⟩ := hrel
   cases gk with
   | zero => exact absurd HA.out (by simp [impl_ChainTravel.l0])
   | succ k1 =>
    have H := HA.out
    clear HA
    simp only [impl_ChainTravel.l0] at H
    replace H := S.dc H; rcases H with ⟨H, c8b0⟩ | ⟨H, c8b0⟩
    ·by_cases c9 : 0 ≤ x17_1
     ·rw [if_pos c9] at H
      have c9b0 : decide (0 ≤ x17_1) = true := decide_eq_true c9
      clear c9
      by_cases c10 : x17_1 < (l1.length : Int)
      ·rw [if_pos c10] at H
       have c10b0 : decide (x17_1 < (l1.length : Int)) = true := decide_eq_true c10
       clear c10
       by_cases c11 : x17_1 > 0
       ·rw [if_pos c11] at H
        have c11b0 : decide (0 < x17_1) = true := decide_eq_true c11
        clear c11
        obtain ⟨ji12, hji12⟩ : ∃ j_ : Int, (wrap64 (x17_1 - 1)) = j_ := ⟨_, rfl⟩
        replace H : (if 0 ≤ (ji12) then (if (ji12) < (l1.length : Int) then ((impl_streetOf.f l0 (rd l1 (ji12)) (rd l1 x17_1)).bind fun t152 => (if 0 ≤ t152 then (if t152 < (l0.length : Int) then (if x5_1.length < 17592186044416 then (impl_ChainTravel.l0 k1 l0 l1 (x5_1 ++ [wrap64 (x6_1 + ((rd_T47 l0 t152).f2))]) (wrap64 (x6_1 + ((rd_T47 l0 t152).f2))) l1 (l1.length : Int) (wrap64 (x17_1 + 1))) else (none)) else (none)) else (none))) else (none)) else (none)) = some r := by first | (rw [hji12] at H; exact H) | (simp only [hji12] at H ⊢; exact H)
        have hji12w : (IntKind.i64.wrap (x17_1 - 1)) = ji12 := (i64_w _).trans hji12
        by_cases c13 : 0 ≤ (ji12)
        ·rw [if_pos c13] at H
         have c13b0 : decide (0 ≤ (ji12)) = true := decide_eq_true c13
         clear c13
         by_cases c14 : (ji12) < (l1.length : Int)
         ·rw [if_pos c14] at H
          have c14b0 : decide ((ji12) < (l1.length : Int)) = true := decide_eq_true c14
          clear c14
          replace H := S.bd H; obtain ⟨t152, A15, H⟩ := H
          (try dsimp only at H)
          by_cases c16 : 0 ≤ t152
          ·rw [if_pos c16] at H
           have c16b0 : decide (0 ≤ t152) = true := decide_eq_true c16
           clear c16
           by_cases c17 : t152 < (l0.length : Int)
           ·rw [if_pos c17] at H
            have c17b0 : decide (t152 < (l0.length : Int)) = true := decide_eq_true c17
            clear c17
            by_cases c18 : x5_1.length < 17592186044416
            ·rw [if_pos c18] at H
             have LMc18 := Aside0.mk c18
             clear c18
             obtain ⟨y154, hy154⟩ : ∃ y_ : List Int, y_ = (x5_1 ++ [wrap64 (x6_1 + ((rd_T47 l0 t152).f2))]) := ⟨_, rfl⟩
             replace H : (impl_ChainTravel.l0 k1 l0 l1 y154 (wrap64 (x6_1 + ((rd_T47 l0 t152).f2))) l1 (l1.length : Int) (wrap64 (x17_1 + 1))) = some r := by first | (rw [hy154]; with_reducible exact H) | (have H2_ := (Option.bind_some _ _).symm.trans H; rw [hy154]; with_reducible exact H2_) | (have H2_ := (Option.bind_some _ _).symm.trans H; with_reducible exact H2_) | with_reducible exact H | (rw [hy154]; exact H) | exact H
             have Ny154 := Aside0.mk hy154
             clear hy154
             have H' := Aside0.mk H
             clear H
             have p150 : 0 ≤ (x17_1 : Int) := S.oD
             have q150 : x17_1 < (l1.length : Int) := S.oD
             obtain ⟨ad150, e150, hx150_0⟩ := Kd.at_int HR1.out x17_1 p150 q150
             cases e150
             replace hx150_0 := S.hb HB hx150_0
             replace p150 := eq_true p150
             replace q150 := eq_true q150
             have p151 : 0 ≤ ((ji12) : Int) := S.oD
             have q151 : (ji12) < (l1.length : Int) := S.oD
             obtain ⟨ad151, e151, hx151_0⟩ := Kd.at_int HR1.out (ji12) p151 q151
             obtain rfl : ad150 = ad151 := (by injection e151)
             replace hx151_0 := S.hb HB hx151_0
             replace p151 := eq_true p151
             replace q151 := eq_true q151
             go_wp2_with (first | ((with_reducible refine gate_callee (f := 61) rfl ?_); refine goesL_ (some 33) rfl rfl Try.func61 (by kernel_rfl) rfl #[.slice A0 l0.length c0, .int .i64 (rd l1 (ji12)), .int .i64 (rd l1 x17_1)] rfl (by (try simp only [List.map_toArray, List.map_cons, List.map_nil]); first | done | (simp only [hji12]; rfl) | rfl | (simp only [List.length_drop, List.length_take]; rfl)) ?_; (with_reducible refine (impl_streetOf.calls _ _ l0 (rd l1 (ji12)) (rd l1 x17_1) t152 _ ?s1 HC0.out A15.out).mono ?_); (case s1 => exact S.cA HR0.out); rintro e w19 ⟨rfl, hb⟩; refine ⟨_, rfl, ?_⟩; replace HO_5 := S.rb HO_5 hb; replace HB := S.sA hb; (try clear hb); have p153 : 0 ≤ (t152 : Int) := S.oD; have q153 : t152 < (l0.length : Int) := S.oD; obtain ⟨ad153, e153, hx153_0, hx153_1, hx153_2⟩ := at_T47 HR0.out t152 p153 q153; cases e153; replace hx153_0 := S.hb HB hx153_0; replace hx153_1 := S.hb HB hx153_1; replace hx153_2 := S.hb HB hx153_2; replace p153 := eq_true p153; replace q153 := eq_true q153) | ((with_reducible refine gate_builtin (b := .append) (xs := #[.tmp 38, .tmp 40]) rfl ?_); at_builtin; refine Kd.R_append (Kd.int .i64) (w0 := w) w.heap.size rfl (.tmp 38) (.tmp 40) 31 3 (.int .i64 0) 8 rfl Try.underlying31 info3 rfl (by decide) (by omega) u5 x5_1 (wrap64 (x6_1 + ((rd_T47 l0 t152).f2))) [.int .i64 (wrap64 (x6_1 + ((rd_T47 l0 t152).f2)))] (fun _ => True) (fun _ => False) rfl rfl ?aP (fun _ hk => hk.elim) ?aF ?aO ?aB ?aS ?aL ?_; (case aP => exact rfl); (case aB => exact S.bA); (case aF => exact (fun _ _ => trivial)); (case aO => exact (S.uR HO_5.out)); (case aS => exact (below_size S.bA)); (case aL => have := LMc18.out; omega); intro v155 w20 ho hb hg hat; rw [← Ny154.out] at ho; have n0_ := Aside0.mk (hb); have n1_ := Aside0.mk (ho); clear HB; clear HO_5; have HB := n0_; have HO156 := n1_; clear n0_ n1_; clear ho hb hg hat))
             go_roundg k1
             case measure => have := HK1.out; omega
             case rel => exact ⟨(y154), (wrap64 (x6_1 + ((rd_T47 l0 t152).f2))), (wrap64 (x17_1 + 1)), S.eA, S.eA, H', ⟨by have := HK1.out; omega⟩, ⟨S.uR HO156.out⟩, ⟨S.bA⟩⟩
            ·rw [if_neg c18] at H
             exact absurd H (by simp)
           ·rw [if_neg c17] at H
            exact absurd H (by simp)
          ·rw [if_neg c16] at H
           exact absurd H (by simp)
         ·rw [if_neg c14] at H
          exact absurd H (by simp)
        ·rw [if_neg c13] at H
         exact absurd H (by simp)
       ·rw [if_neg c11] at H
        have c11b0 : decide (0 < x17_1) = false := decide_eq_false c11
        clear c11
        by_cases c21 : x5_1.length < 17592186044416
        ·rw [if_pos c21] at H
         have LMc21 := Aside0.mk c21
         clear c21
         obtain ⟨y157, hy157⟩ : ∃ y_ : List Int, y_ = (x5_1 ++ [x6_1]) := ⟨_, rfl⟩
         replace H : (impl_ChainTravel.l0 k1 l0 l1 y157 x6_1 l1 (l1.length : Int) (wrap64 (x17_1 + 1))) = some r := by first | (rw [hy157]; with_reducible exact H) | (have H2_ := (Option.bind_some _ _).symm.trans H; rw [hy157]; with_reducible exact H2_) | (have H2_ := (Option.bind_some _ _).symm.trans H; with_reducible exact H2_) | with_reducible exact H | (rw [hy157]; exact H) | exact H
         have Ny157 := Aside0.mk hy157
         clear hy157
         have H' := Aside0.mk H
         clear H
         have p150 : 0 ≤ (x17_1 : Int) := S.oD
         have q150 : x17_1 < (l1.length : Int) := S.oD
         obtain ⟨ad150, e150, hx150_0⟩ := Kd.at_int HR1.out x17_1 p150 q150
         cases e150
         replace hx150_0 := S.hb HB hx150_0
         replace p150 := eq_true p150
         replace q150 := eq_true q150
         go_wp2_with (first | ((with_reducible refine gate_builtin (b := .append) (xs := #[.tmp 38, .tmp 40]) rfl ?_); at_builtin; refine Kd.R_append (Kd.int .i64) (w0 := w) w.heap.size rfl (.tmp 38) (.tmp 40) 31 3 (.int .i64 0) 8 rfl Try.underlying31 info3 rfl (by decide) (by omega) u5 x5_1 x6_1 [.int .i64 x6_1] (fun _ => True) (fun _ => False) rfl rfl ?aP (fun _ hk => hk.elim) ?aF ?aO ?aB ?aS ?aL ?_; (case aP => exact rfl); (case aB => exact S.bA); (case aF => exact (fun _ _ => trivial)); (case aO => exact (S.uR HO_5.out)); (case aS => exact (below_size S.bA)); (case aL => have := LMc21.out; omega); intro v158 w22 ho hb hg hat; rw [← Ny157.out] at ho; have n0_ := Aside0.mk (hb); have n1_ := Aside0.mk (ho); clear HB; clear HO_5; have HB := n0_; have HO159 := n1_; clear n0_ n1_; clear ho hb hg hat))
         go_roundg k1
         case measure => have := HK1.out; omega
         case rel => exact ⟨(y157), (x6_1), (wrap64 (x17_1 + 1)), S.eA, S.eA, H', ⟨by have := HK1.out; omega⟩, ⟨S.uR HO159.out⟩, ⟨S.bA⟩⟩
        ·rw [if_neg c21] at H
         exact absurd H (by simp)
      ·rw [if_neg c10] at H
       exact absurd H (by simp)
     ·rw [if_neg c9] at H
      exact absurd H (by simp)
    ·obtain rfl := Option.some.inj H
     go_wp2
     go_ret
     exact ⟨_, S.eW, S.uR HO_5.out, S.bA⟩
 ·obtain rfl := Option.some.inj H
  go_enter Try.func32, Try.ntmps32
  go_wp2_with (first | ((with_reducible refine gate_dst (N := 9) rfl ?_); refine Kd.R_lit (Kd.int .i64) _ 3 ?hg (N := 9) ?hd (xs := ([] : List Int)) (inner := []) (ok := fun _ => True) (okp := fun _ => True) ?hr ?hp (fun _ hk => hk) trivial (Below.refl _ _) (Nat.le_refl _) (by simp) ?_; (case hd => rfl); (case hg => rfl); (case hr => first | (go_simp; done) | (go_simp; rfl)); (case hp => exact (Reps.none _ _)); intro v147 w23 ho24 hb hg_ hnew_; clear hg_ hnew_; (first | rw [← Ny146.out] at ho24 | (simp only [Int.reduceToNat] at ho24; rw [← Ny146.out] at ho24)); have HO148 := S.lwA ho24; replace HB := S.sA hb; clear hb ho24) | ((with_reducible refine gate_callee (f := 30) rfl ?_); refine S.gL (some 12) Try.func30 #[.slice A0 l0.length c0, .slice A1 l1.length c1] ?_; (with_reducible refine (impl_IsChain.calls k _ _ l0 _ _ l1 false _ ?s1 HC0.out ?s3 HC1.out A3.out).mono ?_); (case s1 => exact S.cA HR0.out); (case s3 => exact S.cA HR1.out); rintro e w25 ⟨rfl, hb⟩; refine ⟨_, rfl, ?_⟩; replace HO148 := S.rb HO148 hb; replace HB := S.sA hb; (try clear hb)))
  go_ret
  exact ⟨_, S.eW, S.uR HO148.out, S.bA⟩

/-! ### impl_StreetsFrom: function 34 -/
def impl_StreetsFrom.l0 : Nat → Int → List Int → List (S47) → Int → Int → Option (List Int)
 | 0, _, _, _, _, _ => none
 | k + 1, x1, x5, x9, x10, x11 => if x11 < x10 then (if 0 ≤ x11 then (if x11 < (x9.length : Int) then (if ((rd_T47 x9 x11).f0) = x1 then (if x5.length < 17592186044416 then (impl_StreetsFrom.l0 k x1 (x5 ++ [(rd_T47 x9 x11).f1]) x9 x10 (wrap64 (x11 + 1))) else (none)) else (impl_StreetsFrom.l0 k x1 x5 x9 x10 (wrap64 (x11 + 1)))) else (none)) else (none)) else (if x5.length < 4611686018427387904 then (some (Go.Lib.compact (Go.Proofs.Ytdaofiiedclmpaa.Srt.sorted x5))) else (none))
def impl_StreetsFrom.f (k : Nat) (l0 : List (S47)) (a1 : Int) : Option (List Int) := impl_StreetsFrom.l0 k a1 (([] : List Int)) l0 (l0.length : Int) 0
set_option maxHeartbeats 8000000 in
set_option maxRecDepth 100000 in
theorem impl_StreetsFrom.calls (k : Nat) (A0 : Option Addr) (c0 : Nat) (l0 : List (S47)) (a1 : Int) (r : List Int) (w : World) (hr0 : Kd.C k47 w A0 l0.length l0) (hc0 : l0.length ≤ c0) (h : impl_StreetsFrom.f k l0 a1 = some r) :
  Calls Try.prog 34 #[.slice A0 l0.length c0, .int .i64 a1] w fun e w' => ∃ v0_ : Value, e = .returned (v0_) ∧ Kd.R (Kd.int .i64) 3 w' w.heap.size (fun _ => True) v0_ r ∧ Below w.heap.size w w' := by
 have hu47 := Try.underlying47
 have HR0 := Aside0.mk hr0
 have HC0 := Aside0.mk hc0
 clear hr0 hc0
 have HB := Aside0.mk (Below.refl w.heap.size w)
 have H : (impl_StreetsFrom.l0 k a1 (([] : List Int)) l0 (l0.length : Int) 0) = some r := h
 clear h
 obtain ⟨y160, hy160⟩ : ∃ y_ : List Int, y_ = (([] : List Int)) := ⟨_, rfl⟩
 replace H : (impl_StreetsFrom.l0 k a1 y160 l0 (l0.length : Int) 0) = some r := by first | (rw [hy160]; with_reducible exact H) | (have H2_ := (Option.bind_some _ _).symm.trans H; rw [hy160]; with_reducible exact H2_) | (have H2_ := (Option.bind_some _ _).symm.trans H; with_reducible exact H2_) | with_reducible exact H | (rw [hy160]; exact H) | exact H
 have Ny160 := Aside0.mk hy160
 clear hy160
 have H' := Aside0.mk H
 clear H
 go_enter Try.func34, Try.ntmps34
 go_wp2_with (first | ((with_reducible refine gate_dst (N := 8) rfl ?_); refine Kd.R_lit (Kd.int .i64) _ 3 ?hg (N := 8) ?hd (xs := ([] : List Int)) (inner := []) (ok := fun _ => True) (okp := fun _ => True) ?hr ?hp (fun _ hk => hk) trivial (Below.refl _ _) (Nat.le_refl _) (by simp) ?_; (case hd => rfl); (case hg => rfl); (case hr => first | (go_simp; done) | (go_simp; rfl)); (case hp => exact (Reps.none _ _)); intro v161 w3 ho4 hb hg_ hnew_; clear hg_ hnew_; (first | rw [← Ny160.out] at ho4 | (simp only [Int.reduceToNat] at ho4; rw [← Ny160.out] at ho4)); have HO162 := S.lwA ho4; replace HB := S.sA hb; clear hb ho4))
 go_loopg [5, 11] k (fun kq v5 v11 w' => ∃ (x5_1 : List Int) (x11_1 : Int), v11 = .int .i64 x11_1 ∧ Aside0 (impl_StreetsFrom.l0 kq a1 x5_1 l0 (l0.length : Int) x11_1 = some r) ∧ Aside0 (kq ≤ k) ∧ Aside0 (Kd.R (Kd.int .i64) 3 w' w.heap.size (fun _ => True) v5 x5_1) ∧ Aside0 (Below w.heap.size w w'))
 case atStart => exact ⟨(y160), (0), S.eA, H', ⟨Nat.le_refl _⟩, ⟨S.uR HO162.out⟩, ⟨S.bA⟩⟩
 case round =>
  clear H'
  obtain ⟨x5_1, x11_1, rfl, HA, HK1, HO_5, HB⟩ := hrel
  cases gk with
  | zero => exact absurd HA.out (by simp [impl_StreetsFrom.l0])
  | succ k1 =>
   have H := HA.out
   clear HA
   simp only [impl_StreetsFrom.l0] at H
   replace H := S.dc H; rcases H with ⟨H, c5b0⟩ | ⟨H, c5b0⟩
   ·by_cases c6 : 0 ≤ x11_1
    ·rw [if_pos c6] at H
     have c6b0 : decide (0 ≤ x11_1) = true := decide_eq_true c6
     clear c6
     by_cases c7 : x11_1 < (l0.length : Int)
     ·rw [if_pos c7] at H
      have c7b0 : decide (x11_1 < (l0.length : Int)) = true := decide_eq_true c7
      clear c7
      by_cases c8 : ((rd_T47 l0 x11_1).f0) = a1
      ·rw [if_pos c8] at H
       have c8b0 : (((rd_T47 l0 x11_1).f0) == a1) = true := beq_iff_eq.mpr c8
       have c8b1 : (((rd_T47 l0 x11_1).f0) != a1) = false := bne_eq_false_iff_eq.mpr c8
       clear c8
       by_cases c9 : x5_1.length < 17592186044416
       ·rw [if_pos c9] at H
        have LMc9 := Aside0.mk c9
        clear c9
        obtain ⟨y165, hy165⟩ : ∃ y_ : List Int, y_ = (x5_1 ++ [(rd_T47 l0 x11_1).f1]) := ⟨_, rfl⟩
        replace H : (impl_StreetsFrom.l0 k1 a1 y165 l0 (l0.length : Int) (wrap64 (x11_1 + 1))) = some r := by first | (rw [hy165]; with_reducible exact H) | (have H2_ := (Option.bind_some _ _).symm.trans H; rw [hy165]; with_reducible exact H2_) | (have H2_ := (Option.bind_some _ _).symm.trans H; with_reducible exact H2_) | with_reducible exact H | (rw [hy165]; exact H) | exact H
        have Ny165 := Aside0.mk hy165
        clear hy165
        have H' := Aside0.mk H
        clear H
        have p163 : 0 ≤ (x11_1 : Int) := S.oD
        have q163 : x11_1 < (l0.length : Int) := S.oD
        obtain ⟨ad163, e163, hx163_0, hx163_1, hx163_2⟩ := at_T47 HR0.out x11_1 p163 q163
        cases e163
        replace hx163_0 := S.hb HB hx163_0
        replace hx163_1 := S.hb HB hx163_1
        replace hx163_2 := S.hb HB hx163_2
        replace p163 := eq_true p163
        replace q163 := eq_true q163
        go_wp2_with (first | ((with_reducible refine gate_dst (N := 7) rfl ?_); refine S.bx 7 (cs := #[.int .i64 0, .int .i64 0, .int .i64 0]) (t := 47) ?_; intro gb164 hg w10 hbox hb; replace HO_5 := S.rb HO_5 hb; have BK164 := Aside0.mk hbox; have GW164 := S.geA hg; have GE164 := S.geA hg; replace HB := S.sA hb; clear hb hbox hg; obtain ⟨Z11a, Z11b, Z11c, Y11a, Y11b, Y11c⟩ := S.c3 BK164.out) | ((with_reducible refine gate_builtin (b := .append) (xs := #[.tmp 19, .tmp 22]) rfl ?_); at_builtin; refine Kd.R_append (Kd.int .i64) (w0 := w) w.heap.size rfl (.tmp 19) (.tmp 22) 31 3 (.int .i64 0) 8 rfl Try.underlying31 info3 rfl (by decide) (by omega) u5 x5_1 ((rd_T47 l0 x11_1).f1) [.int .i64 ((rd_T47 l0 x11_1).f1)] (fun _ => True) (fun _ => False) rfl (by first | (go_simp; done) | (go_simp; rfl)) ?aP (fun _ hk => hk.elim) ?aF ?aO ?aB ?aS ?aL ?_; (case aP => exact rfl); (case aB => exact S.bG); (case aF => exact (fun _ _ => trivial)); (case aO => exact (by (with_reducible repeat (first | apply Kd.R_alloc | apply Kd.R_drewN | apply Kd.R_drew)); exact Kd.R_mono (Kd.R_far (p := ⟨gb164, 2, none⟩) (Kd.R_far (p := ⟨gb164, 1, none⟩) (Kd.R_far (p := ⟨gb164, 0, none⟩) (Kd.R_types HO_5.out BK164.out (by decide)) (fun _ hk => hk.2) (.int .i64 ((rd_T47 l0 x11_1).f0))) (fun _ hk => hk.2) (.int .i64 ((rd_T47 l0 x11_1).f1))) (fun _ hk => hk.2) (.int .i64 ((rd_T47 l0 x11_1).f2))) (fun _ hk => trivial))); (case aS => exact (below_size S.bG)); (case aL => have := LMc9.out; omega); intro v166 w12 ho hb hg hat; rw [← Ny165.out] at ho; have n0_ := Aside0.mk (blk_grown (g := gb164) (o := .cells #[.int .i64 ((rd_T47 l0 x11_1).f0), .int .i64 ((rd_T47 l0 x11_1).f1), .int .i64 ((rd_T47 l0 x11_1).f2)] 47 (0, 0)) (by (with_reducible repeat (first | refine blk_drewN ?_ _ | refine blk_drew ?_ | refine blk_alloc ?_ _)); refine blk_put (cs := #[.int .i64 ((rd_T47 l0 x11_1).f0), .int .i64 ((rd_T47 l0 x11_1).f1), .int .i64 0]) ?_ 2 _ rfl; (with_reducible repeat (first | refine blk_drewN ?_ _ | refine blk_drew ?_ | refine blk_alloc ?_ _)); refine blk_put (cs := #[.int .i64 ((rd_T47 l0 x11_1).f0), .int .i64 0, .int .i64 0]) ?_ 1 _ rfl; (with_reducible repeat (first | refine blk_drewN ?_ _ | refine blk_drew ?_ | refine blk_alloc ?_ _)); refine blk_put (cs := #[.int .i64 0, .int .i64 0, .int .i64 0]) ?_ 0 _ rfl; (with_reducible repeat (first | refine blk_drewN ?_ _ | refine blk_drew ?_ | refine blk_alloc ?_ _)); exact BK164.out) hg (Kd.R_ne HO_5.out BK164.out (by decide))); have n1_ := Aside0.mk (hb); have n2_ := Aside0.mk (ho); clear BK164; clear HB; clear HO_5; have BK164 := n0_; have HB := n1_; have HO167 := n2_; clear n0_ n1_ n2_; clear ho hb hg hat))
        go_roundg k1
        case measure => have := HK1.out; omega
        case rel => exact ⟨(y165), (wrap64 (x11_1 + 1)), S.eA, H', ⟨by have := HK1.out; omega⟩, ⟨S.uR HO167.out⟩, ⟨S.bG⟩⟩
       ·rw [if_neg c9] at H
        exact absurd H (by simp)
      ·rw [if_neg c8] at H
       have c8b0 : (((rd_T47 l0 x11_1).f0) == a1) = false := beq_eq_false_iff_ne.mpr c8
       have c8b1 : (((rd_T47 l0 x11_1).f0) != a1) = true := bne_iff_ne.mpr c8
       have H' := Aside0.mk H
       clear H
       have p163 : 0 ≤ (x11_1 : Int) := S.oD
       have q163 : x11_1 < (l0.length : Int) := S.oD
       obtain ⟨ad163, e163, hx163_0, hx163_1, hx163_2⟩ := at_T47 HR0.out x11_1 p163 q163
       cases e163
       replace hx163_0 := S.hb HB hx163_0
       replace hx163_1 := S.hb HB hx163_1
       replace hx163_2 := S.hb HB hx163_2
       replace p163 := eq_true p163
       replace q163 := eq_true q163
       go_wp2_with (first | ((with_reducible refine gate_dst (N := 7) rfl ?_); refine S.bx 7 (cs := #[.int .i64 0, .int .i64 0, .int .i64 0]) (t := 47) ?_; intro gb164 hg w13 hbox hb; replace HO_5 := S.rb HO_5 hb; have BK164 := Aside0.mk hbox; have GW164 := S.geA hg; have GE164 := S.geA hg; replace HB := S.sA hb; clear hb hbox hg; obtain ⟨Z14a, Z14b, Z14c, Y14a, Y14b, Y14c⟩ := S.c3 BK164.out))
       go_roundg k1
       case measure => have := HK1.out; omega
       case rel => exact ⟨(x5_1), (wrap64 (x11_1 + 1)), S.eA, H', ⟨by have := HK1.out; omega⟩, ⟨by (with_reducible repeat (first | apply Kd.R_alloc | apply Kd.R_drewN | apply Kd.R_drew)); exact Kd.R_mono (Kd.R_far (p := ⟨gb164, 2, none⟩) (Kd.R_far (p := ⟨gb164, 1, none⟩) (Kd.R_far (p := ⟨gb164, 0, none⟩) (Kd.R_types HO_5.out BK164.out (by decide)) (fun _ hk => hk.2) (.int .i64 ((rd_T47 l0 x11_1).f0))) (fun _ hk => hk.2) (.int .i64 ((rd_T47 l0 x11_1).f1))) (fun _ hk => hk.2) (.int .i64 ((rd_T47 l0 x11_1).f2))) (fun _ hk => trivial)⟩, ⟨S.bG⟩⟩
     ·rw [if_neg c7] at H
      exact absurd H (by simp)
    ·rw [if_neg c6] at H
     exact absurd H (by simp)
   ·by_cases cL : x5_1.length < 4611686018427387904
    ·rw [if_pos cL] at H
     obtain rfl := Option.some.inj H
     go_wp2_with (first | (go_at_call 68; refine (Go.Proofs.Ytdaofiiedclmpaa.Srt.sort_row cL HB.out HO_5.out).mono ?_; rintro e w' ⟨rfl, hR_, hB_⟩; have n0_ := Aside0.mk hR_; have n1_ := Aside0.mk hB_; clear hR_ hB_ HO_5 HB; have HO_5 := n0_; have HB := n1_; clear n0_ n1_) | (go_at_call 69; refine (Go.Proofs.Ytdaofiiedclmpaa.Srt.compact_row HB.out HO_5.out).mono ?_; rintro e w' ⟨v_, rfl, hR_, hB_⟩; have n0_ := Aside0.mk hR_; have n1_ := Aside0.mk hB_; clear hR_ hB_ HO_5 HB; have HO_5 := n0_; have HB := n1_; clear n0_ n1_))
     go_ret
     exact ⟨_, rfl, HO_5.out, HB.out⟩
    ·rw [if_neg cL] at H
     exact absurd H (by simp)

/-! ### laws_big: function 35 -/
def laws_big.f (l0 : List Int) : Option (Bool) := some (decide ((l0.length : Int) > 1048576))
set_option maxHeartbeats 8000000 in
set_option maxRecDepth 100000 in
theorem laws_big.calls (A0 : Option Addr) (c0 : Nat) (l0 : List Int) (r : Bool) (w : World) (hr0 : Kd.C (Kd.int .u8) w A0 l0.length l0) (hc0 : l0.length ≤ c0) (h : laws_big.f l0 = some r) :
  Calls Try.prog 35 #[.slice A0 l0.length c0] w fun e w' => e = .returned (.bool r) ∧ Drawn0 w w' := by
 have HR0 := Aside0.mk hr0
 have HC0 := Aside0.mk hc0
 clear hr0 hc0
 have H : (some (decide ((l0.length : Int) > 1048576))) = some r := h
 clear h
 obtain rfl := Option.some.inj H
 go_enter Try.func35, Try.ntmps35
 go_wp2
 go_ret
 exact ⟨S.eA, by repeat (first | exact Drawn0.refl _ | apply Drawn0.step)⟩

/-- A state of type 112 at block g of W; what its slices lead to came in by w0. -/
def IsS112 (w0 W : World) (g : Nat) (f0 : List Int) (f1 : Int) (f2 : Int) : Prop := ∃ A0 c0, W.heap[g]? = some (.cells #[.slice A0 f0.length c0, .int .i64 f1, .int .i64 f2] 112 (0, 0)) ∧ w0.heap.size ≤ g ∧ Kd.C (Kd.int .u8) w0 A0 f0.length f0
theorem IsS112.grown {w0 W : World} {g : Nat} {f0 : List Int} {f1 : Int} {f2 : Int} {W1 : World} {row : Option Nat} (h : IsS112 w0 W g f0 f1 f2) (hw : W.grownBy W1 row) (hne : some g ≠ row) : IsS112 w0 W1 g f0 f1 f2 := by
 obtain ⟨A0, c0, hb, hg, hr0⟩ := h
 exact ⟨A0, c0, blk_grown hb hw hne, hg, hr0⟩
theorem IsS112.own_neN {w0 W : World} {g : Nat} {f0 : List Int} {f1 : Int} {f2 : Int} {α : Type} {d : Kd α} {e : Nat} {base : Nat} {ok : Nat → Prop} {v : Value} {xs : List α} (h : IsS112 w0 W g f0 f1 f2) (ho : Kd.N d e W base ok v xs) (ht : e ≠ 112) : some g ≠ v.ownBlock := by
 obtain ⟨A0, c0, hb, hg, hr0⟩ := h
 exact Kd.N_ne ho hb ht
theorem IsS112.fresh {w0 W : World} {g : Nat} {f0 : List Int} {f1 : Int} {f2 : Int} (h : IsS112 w0 W g f0 f1 f2) : ∀ k, W.heap.size ≤ k → k ≠ g := by
 obtain ⟨A0, c0, hb, hg, hr0⟩ := h
 exact Kd.freshB hb
theorem IsS112.kept {w0 W : World} {g : Nat} {f0 : List Int} {f1 : Int} {f2 : Int} {W1 : World} {S : Nat → Prop} (h : IsS112 w0 W g f0 f1 f2) (hk : Kept W W1 S) (hne : ¬ S g) : IsS112 w0 W1 g f0 f1 f2 := by
 obtain ⟨A0, c0, hb, hg, hr0⟩ := h
 exact ⟨A0, c0, blk_kept hb hk hne, hg, hr0⟩
theorem IsS112.below {w0 W : World} {g : Nat} {f0 : List Int} {f1 : Int} {f2 : Int} {W1 : World} (h : IsS112 w0 W g f0 f1 f2) (hw : Below W.heap.size W W1) : IsS112 w0 W1 g f0 f1 f2 := h.grown (grown_of_below hw none) (by simp)
theorem IsS112.alloc {w0 W : World} {g : Nat} {f0 : List Int} {f1 : Int} {f2 : Int} (h : IsS112 w0 W g f0 f1 f2) (o : Obj) : IsS112 w0 (W.alloc o) g f0 f1 f2 := h.below (below_alloc (Below.refl _ _) o)
theorem IsS112.drewN {w0 W : World} {g : Nat} {f0 : List Int} {f1 : Int} {f2 : Int} (h : IsS112 w0 W g f0 f1 f2) (m : Nat) : IsS112 w0 (W.drewN m) g f0 f1 f2 := h
theorem IsS112.drew {w0 W : World} {g : Nat} {f0 : List Int} {f1 : Int} {f2 : Int} (h : IsS112 w0 W g f0 f1 f2) : IsS112 w0 W.drew g f0 f1 f2 := h
theorem IsS112.at_ {w0 W : World} {g : Nat} {f0 : List Int} {f1 : Int} {f2 : Int} {w' : World} {m : Nat} (hq : W.drewN m = w') (h : IsS112 w0 W g f0 f1 f2) : IsS112 w0 w' g f0 f1 f2 := by subst hq; exact IsS112.drewN h m
theorem IsS112.apart {w0 W : World} {g : Nat} {f0 : List Int} {f1 : Int} {f2 : Int} {α : Type} {d : Kd α} {e : Nat} {base : Nat} {ok : Nat → Prop} {v : Value} {xs : List α} (h : IsS112 w0 W g f0 f1 f2) (ho : d.R e W base ok v xs) (ht : ∀ q, q ∈ e :: d.E → q ≠ 112) : d.R e W base (fun k => ok k ∧ k ≠ g) v xs := by
 obtain ⟨A0, c0, hb, hg, hr0⟩ := h
 exact Kd.R_types ho hb ht
theorem IsS112.own_ne {w0 W : World} {g : Nat} {f0 : List Int} {f1 : Int} {f2 : Int} {α : Type} {d : Kd α} {e : Nat} {base : Nat} {ok : Nat → Prop} {v : Value} {xs : List α} (h : IsS112 w0 W g f0 f1 f2) (ho : d.R e W base ok v xs) (ht : e ≠ 112) : some g ≠ v.ownBlock := by
 obtain ⟨A0, c0, hb, hg, hr0⟩ := h
 exact Kd.R_ne ho hb ht
theorem IsS112.apartQ {w0 W : World} {g : Nat} {f0 : List Int} {f1 : Int} {f2 : Int} {α : Type} {d : Kd α} {e : Nat} {base : Nat} {ok : Nat → Prop} {v : Value} {xs : List α} (h : IsS112 w0 W g f0 f1 f2) (ho : d.Q e W base ok v xs) (ht : ∀ q, q ∈ e :: d.E → q ≠ 112) : d.Q e W base (fun k => ok k ∧ k ≠ g) v xs := by
 obtain ⟨A0, c0, hb, hg, hr0⟩ := h
 exact Kd.Q_types ho hb ht
theorem IsS112.own_neQ {w0 W : World} {g : Nat} {f0 : List Int} {f1 : Int} {f2 : Int} {α : Type} {d : Kd α} {e : Nat} {base : Nat} {ok : Nat → Prop} {v : Value} {xs : List α} (h : IsS112 w0 W g f0 f1 f2) (ho : d.Q e W base ok v xs) (ht : e ≠ 112) : some g ≠ v.ownBlock := by
 obtain ⟨A0, c0, hb, hg, hr0⟩ := h
 exact Kd.Q_ne ho hb ht
theorem IsS112.apartS {w0 W : World} {g : Nat} {f0 : List Int} {f1 : Int} {f2 : Int} {α : Type} {d : Kd α} {e : Nat} {base : Nat} {ok : Nat → Prop} {v : Value} {xs : List α} (h : IsS112 w0 W g f0 f1 f2) (ho : d.S e W base ok v xs) (ht : ∀ q, q ∈ e :: d.E → q ≠ 112) : d.S e W base (fun k => ok k ∧ k ≠ g) v xs := by
 obtain ⟨A0, c0, hb, hg, hr0⟩ := h
 exact Kd.S_types ho hb ht
theorem IsS112.own_neS {w0 W : World} {g : Nat} {f0 : List Int} {f1 : Int} {f2 : Int} {α : Type} {d : Kd α} {e : Nat} {base : Nat} {ok : Nat → Prop} {v : Value} {xs : List α} (h : IsS112 w0 W g f0 f1 f2) (ho : d.S e W base ok v xs) (ht : e ≠ 112) : some g ≠ v.ownBlock := by
 obtain ⟨A0, c0, hb, hg, hr0⟩ := h
 exact Kd.S_ne ho hb ht
theorem IsS112.lt {w0 W : World} {g : Nat} {f0 : List Int} {f1 : Int} {f2 : Int} (h : IsS112 w0 W g f0 f1 f2) : g < W.heap.size := by
 obtain ⟨A0, c0, hb, hg, hr0⟩ := h
 exact blk_lt hb
theorem IsS112.ge {w0 W : World} {g : Nat} {f0 : List Int} {f1 : Int} {f2 : Int} (h : IsS112 w0 W g f0 f1 f2) : w0.heap.size ≤ g := by
 obtain ⟨A0, c0, hb, hg, hr0⟩ := h
 exact hg
theorem IsS112.ne_blk {w0 W : World} {g : Nat} {f0 : List Int} {f1 : Int} {f2 : Int} {a : Nat} {cs : Array Value} {t : TypeId} {fr : Nat × Nat} (h : IsS112 w0 W g f0 f1 f2) (hb2 : W.heap[a]? = some (.cells cs t fr)) (ht : t ≠ 112) : g ≠ a := by
 obtain ⟨A0, c0, hb, hg, hr0⟩ := h
 rintro rfl
 rw [hb] at hb2
 injection hb2 with hb2
 injection hb2 with _ ht2
 exact ht ht2.symm
theorem IsS112.far {w0 W : World} {g : Nat} {f0 : List Int} {f1 : Int} {f2 : Int} {p : Addr} (h : IsS112 w0 W g f0 f1 f2) (hne : g ≠ p.block) (u : Value) : IsS112 w0 (W.setCell p u) g f0 f1 f2 := by
 obtain ⟨A0, c0, hb, hg, hr0⟩ := h
 exact ⟨A0, c0, blk_far hb hne u, hg, hr0⟩
theorem cellS112_0 {W : World} {g : Nat} {A0 : Option Addr} {c0 : Nat} {f0 : List Int} {f1 : Int} {f2 : Int} (h : W.heap[g]? = some (.cells #[.slice A0 f0.length c0, .int .i64 f1, .int .i64 f2] 112 (0, 0))) : W.cell? ⟨g, 0, none⟩ = some (.slice A0 f0.length c0) := (blk_cell h 0).trans rfl
theorem cellS112_1 {W : World} {g : Nat} {A0 : Option Addr} {c0 : Nat} {f0 : List Int} {f1 : Int} {f2 : Int} (h : W.heap[g]? = some (.cells #[.slice A0 f0.length c0, .int .i64 f1, .int .i64 f2] 112 (0, 0))) : W.cell? ⟨g, 1, none⟩ = some (.int .i64 f1) := (blk_cell h 1).trans rfl
theorem IsS112.set_1 {w0 W : World} {g : Nat} {f0 : List Int} {f1 : Int} {f2 : Int} (h : IsS112 w0 W g f0 f1 f2) (x : Int) : IsS112 w0 (W.setCell ⟨g, 1, none⟩ (.int .i64 x)) g f0 x f2 := by
 obtain ⟨A0, c0, hb, hg, hr0⟩ := h
 exact ⟨A0, c0, by simpa using blk_set hb 1 (.int .i64 x), hg, hr0⟩
theorem cellS112_2 {W : World} {g : Nat} {A0 : Option Addr} {c0 : Nat} {f0 : List Int} {f1 : Int} {f2 : Int} (h : W.heap[g]? = some (.cells #[.slice A0 f0.length c0, .int .i64 f1, .int .i64 f2] 112 (0, 0))) : W.cell? ⟨g, 2, none⟩ = some (.int .i64 f2) := (blk_cell h 2).trans rfl
theorem IsS112.set_2 {w0 W : World} {g : Nat} {f0 : List Int} {f1 : Int} {f2 : Int} (h : IsS112 w0 W g f0 f1 f2) (x : Int) : IsS112 w0 (W.setCell ⟨g, 2, none⟩ (.int .i64 x)) g f0 f1 x := by
 obtain ⟨A0, c0, hb, hg, hr0⟩ := h
 exact ⟨A0, c0, by simpa using blk_set hb 2 (.int .i64 x), hg, hr0⟩
theorem IsS112.new (w0 W : World) (A0 : Option Addr) (c0 : Nat) (f0 : List Int) (f1 : Int) (f2 : Int) (hB : Below w0.heap.size w0 W) (hr0 : Kd.C (Kd.int .u8) w0 A0 f0.length f0) : IsS112 w0 (W.alloc (.cells #[.slice A0 f0.length c0, .int .i64 f1, .int .i64 f2] 112)) W.heap.size f0 f1 f2 := ⟨A0, c0, by simpa using heap_alloc_new W _, hB.size, hr0⟩

/-! ### spec_l1New: function 71 -/
def spec_l1New.l0 : Nat → List Int → Int → Int → Option (List Int × Int × Int)
 | 0, _, _, _ => none
 | k + 1, x0, x3, x4 => if x4 < (x0.length : Int) then (if x4 < 4000 then (if 0 ≤ x4 then (spec_l1New.l0 k x0 (Go.bits .and .i64 (wrap64 ((wrap64 ((wrap64 (x3 * 137)) + (wrap64 (rd x0 x4)))) + 11)) 1073741823) (wrap64 (x4 + 1))) else (none)) else (some (x0, 0, x3))) else (some (x0, 0, x3))
def spec_l1New.f (k : Nat) (l0 : List Int) : Option (List Int × Int × Int) := spec_l1New.l0 k l0 (wrap64 (193017 + (l0.length : Int))) 0
set_option maxHeartbeats 8000000 in
set_option maxRecDepth 100000 in
theorem spec_l1New.calls (k : Nat) (A0 : Option Addr) (c0 : Nat) (l0 : List Int) (r1 : List Int) (r2 : Int) (r3 : Int) (w0 w : World) (hB : Below w0.heap.size w0 w) (hr0 : Kd.C (Kd.int .u8) w0 A0 l0.length l0) (hc0 : l0.length ≤ c0) (h : spec_l1New.f k l0 = some (r1, r2, r3)) :
  Calls Try.prog 71 #[.slice A0 l0.length c0] w fun e w' => ∃ g_ : Nat, e = .returned (.pointer (some ⟨g_, 0, none⟩)) ∧ IsS112 w0 w' g_ r1 r2 r3 ∧ Below w0.heap.size w0 w' ∧ Below w.heap.size w w' := by
 have hu112 := Try.underlying112
 have HR0 := Aside0.mk hr0
 have HC0 := Aside0.mk hc0
 clear hr0 hc0
 have HBW := Aside0.mk (Below.refl w.heap.size w)
 have HW0 := Aside0.mk hB.size
 have HB := Aside0.mk hB
 clear hB
 have H : (spec_l1New.l0 k l0 (wrap64 (193017 + (l0.length : Int))) 0) = some (r1, r2, r3) := h
 clear h
 have H' := Aside0.mk H
 clear H
 go_enter Try.func71, Try.ntmps71
 go_wp2
 go_loopg [3, 4] k (fun kq v3 v4 w' => ∃ (x3_1 : Int) (x4_1 : Int), v3 = .int .i64 x3_1 ∧ v4 = .int .i64 x4_1 ∧ Aside0 (spec_l1New.l0 kq l0 x3_1 x4_1 = some (r1, r2, r3)) ∧ Aside0 (kq ≤ k) ∧ Aside0 (Below w0.heap.size w0 w') ∧ Aside0 (Below w.heap.size w w'))
 case atStart => exact ⟨(wrap64 (193017 + (l0.length : Int))), (0), S.eA, S.eA, H', ⟨Nat.le_refl _⟩, ⟨S.bA⟩, ⟨by repeat (first | (with_reducible first | exact HBW.out | apply below_alloc | apply pw_below_drewN | apply below_drew1) | exact HBW.out)⟩⟩
 case round =>
  clear H'
  obtain ⟨x3_1, x4_1, rfl, rfl, HA, HK1, HB, HBW⟩ := hrel
  cases gk with
  | zero => exact absurd HA.out (by simp [spec_l1New.l0])
  | succ k1 =>
   have H := HA.out
   clear HA
   simp only [spec_l1New.l0] at H
   replace H := S.dc H; rcases H with ⟨H, c2b0⟩ | ⟨H, c2b0⟩
   ·by_cases c3 : x4_1 < 4000
    ·rw [if_pos c3] at H
     have c3b0 : decide (x4_1 < 4000) = true := decide_eq_true c3
     clear c3
     by_cases c4 : 0 ≤ x4_1
     ·rw [if_pos c4] at H
      have c4b0 : decide (0 ≤ x4_1) = true := decide_eq_true c4
      clear c4
      have H' := Aside0.mk H
      clear H
      have p168 : 0 ≤ (x4_1 : Int) := S.oD
      have q168 : x4_1 < (l0.length : Int) := S.oD
      obtain ⟨ad168, e168, hx168_0⟩ := Kd.at_int HR0.out x4_1 p168 q168
      cases e168
      replace hx168_0 := pw_cell_below HB.out hx168_0
      replace p168 := eq_true p168
      replace q168 := eq_true q168
      go_wp2
      go_roundg k1
      case measure => have := HK1.out; omega
      case rel => exact ⟨(Go.bits .and .i64 (wrap64 ((wrap64 ((wrap64 (x3_1 * 137)) + (wrap64 (rd l0 x4_1)))) + 11)) 1073741823), (wrap64 (x4_1 + 1)), S.eA, S.eA, H', ⟨by have := HK1.out; omega⟩, ⟨S.bA⟩, ⟨by repeat (first | (with_reducible first | exact HBW.out | apply below_alloc | apply pw_below_drewN | apply below_drew1) | exact HBW.out)⟩⟩
     ·rw [if_neg c4] at H
      exact absurd H (by simp)
    ·rw [if_neg c3] at H
     have c3b0 : decide (x4_1 < 4000) = false := decide_eq_false c3
     clear c3
     simp only [Option.some.injEq, Prod.mk.injEq] at H
     obtain ⟨rfl, rfl, rfl⟩ := H
     go_wp2_with (first | ((with_reducible refine gate_dst (N := 31) rfl ?_); refine S.bx 31 (cs := #[.slice A0 l0.length c0, .int .i64 0, .int .i64 x3_1]) (t := 112) ?_; intro gb169 hg w5 hbox hb; replace HB := S.sA hb; have BK169 := Aside0.mk hbox; have GW169 := Aside0.mk ((by rw [hg]; exact (below_size (by repeat (first | (with_reducible first | exact HBW.out | apply below_alloc | apply pw_below_drewN | apply below_drew1) | exact HBW.out))) : w.heap.size ≤ gb169)); have GE169 := Aside0.mk ((Nat.le_trans HW0.out (by rw [hg]; exact (below_size (by repeat (first | (with_reducible first | exact HBW.out | apply below_alloc | apply pw_below_drewN | apply below_drew1) | exact HBW.out))) : w.heap.size ≤ gb169) : w0.heap.size ≤ gb169)); replace HBW := Aside0.mk (below_step HBW.out hb); clear hb hbox hg))
     go_ret
     exact ⟨_, rfl, (show IsS112 w0 _ gb169 l0 0 x3_1 from ⟨_, _, S.uB BK169.out, GE169.out, HR0.out⟩), S.bG, by repeat (first | (with_reducible first | exact HBW.out | apply below_alloc | apply pw_below_drewN | apply below_drew1 | refine below_set ?_ GW169.out) | exact HBW.out)⟩
   ·simp only [Option.some.injEq, Prod.mk.injEq] at H
    obtain ⟨rfl, rfl, rfl⟩ := H
    go_wp2_with (first | ((with_reducible refine gate_dst (N := 31) rfl ?_); refine S.bx 31 (cs := #[.slice A0 l0.length c0, .int .i64 0, .int .i64 x3_1]) (t := 112) ?_; intro gb170 hg w6 hbox hb; replace HB := S.sA hb; have BK170 := Aside0.mk hbox; have GW170 := Aside0.mk ((by rw [hg]; exact (below_size (by repeat (first | (with_reducible first | exact HBW.out | apply below_alloc | apply pw_below_drewN | apply below_drew1) | exact HBW.out))) : w.heap.size ≤ gb170)); have GE170 := Aside0.mk ((Nat.le_trans HW0.out (by rw [hg]; exact (below_size (by repeat (first | (with_reducible first | exact HBW.out | apply below_alloc | apply pw_below_drewN | apply below_drew1) | exact HBW.out))) : w.heap.size ≤ gb170) : w0.heap.size ≤ gb170)); replace HBW := Aside0.mk (below_step HBW.out hb); clear hb hbox hg))
    go_ret
    exact ⟨_, rfl, (show IsS112 w0 _ gb170 l0 0 x3_1 from ⟨_, _, S.uB BK170.out, GE170.out, HR0.out⟩), S.bG, by repeat (first | (with_reducible first | exact HBW.out | apply below_alloc | apply pw_below_drewN | apply below_drew1 | refine below_set ?_ GW170.out) | exact HBW.out)⟩

end Go.Proofs.Ytdaofiiedclmpaa.PFnStreets
