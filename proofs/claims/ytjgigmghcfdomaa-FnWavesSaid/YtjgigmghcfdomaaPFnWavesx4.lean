/- Printed by a program: what the Go functions compute, as plain Lean functions (.f), and the proofs that the machine's calls come to just that (.calls). -/
import Derived.Test.YtjgigmghcfdomaaPFnWavesx0
import Derived.Test.YtjgigmghcfdomaaPFnWavesx3
namespace Go.Proofs.Ytjgigmghcfdomaa.PFnWaves
open Go.RowKit Go.Proofs.YtjgigmghcfdomaaW.PrintWords Go.Proofs.YtjgigmghcfdomaaW.PrintLast Go.Proofs.YtjgigmghcfdomaaW.PrintMore
attribute [local go_sem] max2_int min2_int max_two min_two max_three min_three max_four min_four   -- for this text's walks alone
set_option linter.unusedVariables false
set_option linter.unusedSimpArgs false
/-! ### impl_LightAt: function 44 -/
def impl_LightAt.f (k : Nat) (l0 : List (S71)) (l1 : List (S85)) (a2 : Int) (a3 : Int) : Option (Int) := (impl_FindPath.f l0 a3).bind fun t220 => (if t220 < 0 then (some 0) else (if 0 ≤ t220 then (if t220 < (l0.length : Int) then ((impl_shown.f k l0 l1 a2 ((rd_T71 l0 t220).f0) ((rd_T71 l0 t220).f1) ((rd_T71 l0 t220).f2) ((rd_T71 l0 t220).f3)).bind fun t222 => (some t222)) else (none)) else (none)))
set_option maxHeartbeats 8000000 in
set_option maxRecDepth 100000 in
theorem impl_LightAt.calls (k : Nat) (A0 : Option Addr) (c0 : Nat) (l0 : List (S71)) (A1 : Option Addr) (c1 : Nat) (l1 : List (S85)) (a2 : Int) (a3 : Int) (r : Int) (w : World) (hr0 : Kd.C k71 w A0 l0.length l0) (hc0 : l0.length ≤ c0) (hr1 : Kd.C k85 w A1 l1.length l1) (hc1 : l1.length ≤ c1) (h : impl_LightAt.f k l0 l1 a2 a3 = some r) :
  Calls Try.prog 44 #[.slice A0 l0.length c0, .slice A1 l1.length c1, .int .i64 a2, .int .i64 a3] w fun e w' => e = .returned (.int .i64 r) ∧ Below w.heap.size w w' := by
 have hu71 := Try.underlying71
 have HR0 := Aside0.mk hr0
 have HC0 := Aside0.mk hc0
 clear hr0 hc0
 have HR1 := Aside0.mk hr1
 have HC1 := Aside0.mk hc1
 clear hr1 hc1
 have HB := Aside0.mk (Below.refl w.heap.size w)
 have H : ((impl_FindPath.f l0 a3).bind fun t220 => (if t220 < 0 then (some 0) else (if 0 ≤ t220 then (if t220 < (l0.length : Int) then ((impl_shown.f k l0 l1 a2 ((rd_T71 l0 t220).f0) ((rd_T71 l0 t220).f1) ((rd_T71 l0 t220).f2) ((rd_T71 l0 t220).f3)).bind fun t222 => (some t222)) else (none)) else (none)))) = some r := h
 clear h
 replace H := S.bd H; obtain ⟨t220, A5, H⟩ := H
 (try dsimp only at H)
 replace H := S.dc H; rcases H with ⟨H, c6b0⟩ | ⟨H, c6b0⟩
 ·obtain rfl := Option.some.inj H
  go_enter Try.func44, Try.ntmps44
  go_wp2_with (first | ((with_reducible refine gate_callee (f := 83) rfl ?_); refine S.gL (some 12) Try.func83 #[.slice A0 l0.length c0, .int .i64 a3] ?_; (with_reducible refine (impl_FindPath.calls _ _ l0 a3 t220 _ ?s1 HC0.out A5.out).mono ?_); (case s1 => repeat (first | exact HR0.out | (with_reducible refine Kd.C_alloc ?_ _) | (with_reducible refine Kd.C_drewN ?_ _) | (with_reducible refine Kd.C_drew ?_))); rintro e w7 ⟨rfl, hb⟩; refine ⟨_, rfl, ?_⟩; replace HB := S.sA hb; (try clear hb)))
  go_ret
  exact ⟨S.eW, S.bA⟩
 ·by_cases c8 : 0 ≤ t220
  ·rw [if_pos c8] at H
   have c8b0 : decide (0 ≤ t220) = true := decide_eq_true c8
   clear c8
   by_cases c9 : t220 < (l0.length : Int)
   ·rw [if_pos c9] at H
    have c9b0 : decide (t220 < (l0.length : Int)) = true := decide_eq_true c9
    clear c9
    replace H := S.bd H; obtain ⟨t222, A10, H⟩ := H
    (try dsimp only at H)
    obtain rfl := Option.some.inj H
    go_enter Try.func44, Try.ntmps44
    go_wp2_with (first | ((with_reducible refine gate_callee (f := 83) rfl ?_); refine S.gL (some 12) Try.func83 #[.slice A0 l0.length c0, .int .i64 a3] ?_; (with_reducible refine (impl_FindPath.calls _ _ l0 a3 t220 _ ?s1 HC0.out A5.out).mono ?_); (case s1 => repeat (first | exact HR0.out | (with_reducible refine Kd.C_alloc ?_ _) | (with_reducible refine Kd.C_drewN ?_ _) | (with_reducible refine Kd.C_drew ?_))); rintro e w11 ⟨rfl, hb⟩; refine ⟨_, rfl, ?_⟩; replace HB := S.sA hb; (try clear hb); have p221 : 0 ≤ (t220 : Int) := S.oD; have q221 : t220 < (l0.length : Int) := S.oD; obtain ⟨ad221, e221, hx221_0, hx221_1, hx221_2, hx221_3⟩ := at_T71 HR0.out t220 p221 q221; cases e221; replace hx221_0 := S.hb HB hx221_0; replace hx221_1 := S.hb HB hx221_1; replace hx221_2 := S.hb HB hx221_2; replace hx221_3 := S.hb HB hx221_3; replace p221 := eq_true p221; replace q221 := eq_true q221) | ((with_reducible refine gate_callee (f := 84) rfl ?_); refine S.gL (some 22) Try.func84 #[.slice (some ad221) l0.length c0, .slice A1 l1.length c1, .int .i64 a2, .agg #[.int .i64 ((rd_T71 l0 t220).f0), .int .i64 ((rd_T71 l0 t220).f1), .int .i64 ((rd_T71 l0 t220).f2), .int .i64 ((rd_T71 l0 t220).f3)]] ?_; (with_reducible refine (impl_shown.calls k _ _ l0 _ _ l1 a2 ((rd_T71 l0 t220).f0) ((rd_T71 l0 t220).f1) ((rd_T71 l0 t220).f2) ((rd_T71 l0 t220).f3) t222 _ ?s1 HC0.out ?s3 HC1.out A10.out).mono ?_); (case s1 => exact S.cA HR0.out); (case s3 => exact S.cA HR1.out); rintro e w12 ⟨rfl, hb⟩; refine ⟨_, rfl, ?_⟩; replace HB := S.sA hb; (try clear hb)))
    go_ret
    exact ⟨S.eW, S.bA⟩
   ·rw [if_neg c9] at H
    exact absurd H (by simp)
  ·rw [if_neg c8] at H
   exact absurd H (by simp)

/-! ### impl_greens: function 75 -/
def impl_greens.l0 : Nat → List (S71) → List (S85) → Int → List Bool → Int → Int → Option (List Bool)
 | 0, _, _, _, _, _, _ => none
 | k + 1, x0, x1, x2, x7, x18, x19 => if x19 < x18 then ((impl_LightAt.f k x0 x1 x19 x2).bind fun t228 => (if 0 ≤ x19 then (if x19 < (x7.length : Int) then (impl_greens.l0 k x0 x1 x2 (x7.set (x19 : Int).toNat (t228 == 1)) x18 (wrap64 (x19 + 1))) else (none)) else (none))) else (some x7)
def impl_greens.f (k : Nat) (l0 : List (S71)) (l1 : List (S85)) (a2 : Int) : Option (List Bool) := (impl_FindPath.f l0 a2).bind fun t223 => (if t223 < 0 then (some ([] : List Bool)) else ((impl_Cycle.f k l0 l1).bind fun t224 => (if 0 ≤ t224 then (if (t224 : Int).toNat ≤ 281474976710656 then ((some (List.replicate (t224 : Int).toNat false : List Bool)).bind fun y225 => (impl_greens.l0 k l0 l1 a2 y225 (y225.length : Int) 0)) else (none)) else (none))))
set_option maxHeartbeats 8000000 in
set_option maxRecDepth 100000 in
theorem impl_greens.calls (k : Nat) (A0 : Option Addr) (c0 : Nat) (l0 : List (S71)) (A1 : Option Addr) (c1 : Nat) (l1 : List (S85)) (a2 : Int) (r : List Bool) (w : World) (hr0 : Kd.C k71 w A0 l0.length l0) (hc0 : l0.length ≤ c0) (hr1 : Kd.C k85 w A1 l1.length l1) (hc1 : l1.length ≤ c1) (h : impl_greens.f k l0 l1 a2 = some r) :
  Calls Try.prog 75 #[.slice A0 l0.length c0, .slice A1 l1.length c1, .int .i64 a2] w fun e w' => ∃ v0_ : Value, e = .returned (v0_) ∧ Kd.R Kd.bool 4 w' w.heap.size (fun _ => True) v0_ r ∧ Below w.heap.size w w' := by
 have HR0 := Aside0.mk hr0
 have HC0 := Aside0.mk hc0
 clear hr0 hc0
 have HR1 := Aside0.mk hr1
 have HC1 := Aside0.mk hc1
 clear hr1 hc1
 have HB := Aside0.mk (Below.refl w.heap.size w)
 have H : ((impl_FindPath.f l0 a2).bind fun t223 => (if t223 < 0 then (some ([] : List Bool)) else ((impl_Cycle.f k l0 l1).bind fun t224 => (if 0 ≤ t224 then (if (t224 : Int).toNat ≤ 281474976710656 then ((some (List.replicate (t224 : Int).toNat false : List Bool)).bind fun y225 => (impl_greens.l0 k l0 l1 a2 y225 (y225.length : Int) 0)) else (none)) else (none))))) = some r := h
 clear h
 replace H := S.bd H; obtain ⟨t223, A4, H⟩ := H
 (try dsimp only at H)
 replace H := S.dc H; rcases H with ⟨H, c5b0⟩ | ⟨H, c5b0⟩
 ·obtain rfl := Option.some.inj H
  go_enter Try.func75, Try.ntmps75
  go_wp2_with (first | ((with_reducible refine gate_callee (f := 83) rfl ?_); refine S.gL (some 11) Try.func83 #[.slice A0 l0.length c0, .int .i64 a2] ?_; (with_reducible refine (impl_FindPath.calls _ _ l0 a2 t223 _ ?s1 HC0.out A4.out).mono ?_); (case s1 => repeat (first | exact HR0.out | (with_reducible refine Kd.C_alloc ?_ _) | (with_reducible refine Kd.C_drewN ?_ _) | (with_reducible refine Kd.C_drew ?_))); rintro e w6 ⟨rfl, hb⟩; refine ⟨_, rfl, ?_⟩; replace HB := S.sA hb; (try clear hb)))
  go_ret
  exact ⟨_, S.eW, by first | exact Kd.R_nil _ _ _ _ _ | exact Kd.N_nil _ _ _ _ _ | exact Kd.V_nil _ _ _ _ _ | exact Kd.Q_nil _ _ _ _ _ | exact Kd.S_nil _ _ _ _ _, S.bA⟩
 ·replace H := Option.bind_eq_some_iff.mp H
  obtain ⟨t224, A70, H⟩ := H
  replace H : (if 0 ≤ t224 then (if (t224 : Int).toNat ≤ 281474976710656 then ((some (List.replicate (t224 : Int).toNat false : List Bool)).bind fun y225 => (impl_greens.l0 k l0 l1 a2 y225 (y225.length : Int) 0)) else (none)) else (none)) = some r := H
  have A7 := Aside0.mk A70
  clear A70
  by_cases c8 : 0 ≤ t224
  ·rw [if_pos c8] at H
   have c8b0 := eq_true c8
   have c8b1 : decide (0 ≤ t224) = true := decide_eq_true c8
   clear c8
   by_cases c9 : (t224 : Int).toNat ≤ 281474976710656
   ·rw [if_pos c9] at H
    have c9b0 := eq_true c9
    have c9b1 : decide ((t224 : Int).toNat ≤ 281474976710656) = true := decide_eq_true c9
    clear c9
    obtain ⟨y225, hy225⟩ : ∃ y_ : List Bool, y_ = (List.replicate (t224 : Int).toNat false) := ⟨_, rfl⟩
    replace H : (impl_greens.l0 k l0 l1 a2 y225 (y225.length : Int) 0) = some r := by first | (rw [hy225]; with_reducible exact H) | (have H2_ := (Option.bind_some _ _).symm.trans H; rw [hy225]; with_reducible exact H2_) | (have H2_ := (Option.bind_some _ _).symm.trans H; with_reducible exact H2_) | with_reducible exact H | (rw [hy225]; exact H) | exact H
    have Ny225 := Aside0.mk hy225
    clear hy225
    have H' := Aside0.mk H
    clear H
    go_enter Try.func75, Try.ntmps75
    go_wp2_with (first | ((with_reducible refine gate_callee (f := 83) rfl ?_); refine S.gL (some 11) Try.func83 #[.slice A0 l0.length c0, .int .i64 a2] ?_; (with_reducible refine (impl_FindPath.calls _ _ l0 a2 t223 _ ?s1 HC0.out A4.out).mono ?_); (case s1 => repeat (first | exact HR0.out | (with_reducible refine Kd.C_alloc ?_ _) | (with_reducible refine Kd.C_drewN ?_ _) | (with_reducible refine Kd.C_drew ?_))); rintro e w10 ⟨rfl, hb⟩; refine ⟨_, rfl, ?_⟩; replace HB := S.sA hb; (try clear hb)) | ((with_reducible refine gate_callee (f := 41) rfl ?_); refine S.gL (some 15) Try.func41 #[.slice A0 l0.length c0, .slice A1 l1.length c1] ?_; (with_reducible refine (impl_Cycle.calls k _ _ l0 _ _ l1 t224 _ ?s1 HC0.out ?s3 HC1.out A7.out).mono ?_); (case s1 => exact S.cA HR0.out); (case s3 => exact S.cA HR1.out); rintro e w11 ⟨rfl, hb⟩; refine ⟨_, rfl, ?_⟩; replace HB := S.sA hb; (try clear hb)) | ((with_reducible refine gate_dst (N := 16) rfl ?_); refine Kd.R_make Kd.bool _ 4 rfl (N := 16) rfl 91 _ _ rfl t224 rfl rfl Try.underlying91 (.bool false) 1 info4 rfl (by decide) (by omega) false (ok := fun _ => True) (okp := fun _ => True) rfl (fun _ hk => hk) trivial (S.oD) (Nat.le_trans (Nat.mul_le_mul_right _ (S.oD : t224.toNat ≤ 281474976710656)) (by omega)) (Below.refl _ _) (Nat.le_refl _) ?_; intro v226 w12 ho13 hb hg_ hnew_; clear hg_ hnew_; (first | rw [← Ny225.out] at ho13 | (simp only [Int.reduceToNat] at ho13; rw [← Ny225.out] at ho13)); have HO227 := S.lwA ho13; replace HB := S.sA hb; clear hb ho13; obtain ⟨Ao14, co14, eo14⟩ := Kd.R_slice HO227.out; subst eo14))
    go_loopg [19] k (fun kq v19 w' => ∃ (x7_1 : List Bool) (x19_1 : Int), v19 = .int .i64 x19_1 ∧ Aside0 (impl_greens.l0 kq l0 l1 a2 x7_1 (y225.length : Int) x19_1 = some r) ∧ Aside0 (kq ≤ k) ∧ Aside0 (Kd.R Kd.bool 4 w' w.heap.size (fun _ => True) (.slice Ao14 y225.length co14) x7_1) ∧ Aside0 (Below w.heap.size w w'))
    case atStart => exact ⟨(y225), (0), S.eA, H', ⟨Nat.le_refl _⟩, ⟨S.uR HO227.out⟩, ⟨S.bA⟩⟩
    case round =>
     clear H'
     try clear c1
     try clear c5
     try clear c5b0
     try clear c8
     try clear c8b0
     try clear c8b1
     try clear c9
     try clear c9b0
     try clear c9b1
     obtain ⟨x7_1, x19_1, rfl, HA, HK1, HO_7, HB⟩ := hrel
     have hl7_1 := (Kd.R_reads' HO_7.out).1
     rw [hl7_1] at HO_7
     (try simp only [hl7_1])
     cases gk with
     | zero => exact absurd HA.out (by simp [impl_greens.l0])
     | succ k1 =>
      have H := HA.out
      clear HA
      simp only [impl_greens.l0] at H
      by_cases c15 : x19_1 < (y225.length : Int)
      ·rw [if_pos c15] at H
       have c15b0 : decide (x19_1 < (y225.length : Int)) = true := decide_eq_true c15
       clear c15
       replace H := S.bd H; obtain ⟨t228, A16, H⟩ := H
       (try dsimp only at H)
       by_cases c17 : 0 ≤ x19_1
       ·rw [if_pos c17] at H
        have c17b0 : decide (0 ≤ x19_1) = true := decide_eq_true c17
        clear c17
        by_cases c18 : x19_1 < (x7_1.length : Int)
        ·rw [if_pos c18] at H
         have c18b0 : decide (x19_1 < (x7_1.length : Int)) = true := decide_eq_true c18
         clear c18
         obtain ⟨y229, hy229⟩ : ∃ y_ : List Bool, y_ = (x7_1.set (x19_1 : Int).toNat (t228 == 1)) := ⟨_, rfl⟩
         replace H : (impl_greens.l0 k1 l0 l1 a2 y229 (y225.length : Int) (wrap64 (x19_1 + 1))) = some r := by first | (rw [hy229]; with_reducible exact H) | (have H2_ := (Option.bind_some _ _).symm.trans H; rw [hy229]; with_reducible exact H2_) | (have H2_ := (Option.bind_some _ _).symm.trans H; with_reducible exact H2_) | with_reducible exact H | (rw [hy229]; exact H) | exact H
         have Ny229 := Aside0.mk hy229
         clear hy229
         have H' := Aside0.mk H
         clear H
         go_wp2_with (first | ((with_reducible refine gate_callee (f := 44) rfl ?_); refine S.gL (some 28) Try.func44 #[.slice A0 l0.length c0, .slice A1 l1.length c1, .int .i64 x19_1, .int .i64 a2] ?_; (with_reducible refine (impl_LightAt.calls k1 _ _ l0 _ _ l1 x19_1 a2 t228 _ ?s1 HC0.out ?s3 HC1.out A16.out).mono ?_); (case s1 => exact S.cA HR0.out); (case s3 => exact S.cA HR1.out); rintro e w20 ⟨rfl, hb⟩; refine ⟨_, rfl, ?_⟩; replace HO_7 := S.rb HO_7 hb; replace HB := S.sA hb; (try clear hb); have p19 : 0 ≤ (x19_1 : Int) := S.oD; have q19 : (x19_1 : Int) < ((x7_1.length : Int) : Int) := S.oD; obtain ⟨go19, co19, eo19, gb19, gl19, cl19, HG19⟩ := Kd.R_form HO_7.out (by omega); (first | cases eo19 | (injection eo19 with ea_ en_ ec_; (first | subst ea_ | (injection ea_ with ea_; subst ea_)); subst ec_; clear en_)); have GB19 := Aside0.mk gb19; have GG19 := Aside0.mk HG19; clear gb19 gl19 HG19; obtain ⟨hx19_0, hf19_0⟩ := Kd.R_celln false HO_7.out (x19_1 : Int) p19 q19; replace p19 := eq_true p19; replace q19 := eq_true q19; obtain ⟨hy21_, hz21_⟩ := Kd.R_celln false HO_7.out (x19_1 : Int) (S.oD) (S.oD); have HP21 := Kd.R_putg HO_7.out (x19_1 : Int) (t228 == 1)) | ((with_reducible refine gate_store (t := 4) (p := 30) rfl ?_); refine store_event (t := 4) (p := 30) (v := ?vo_w22) (w1 := (w20.setCell ⟨go19, (x19_1 : Int).toNat, none⟩ (.bool (t228 == 1)))) ?hg ?ho ?hn ?hr ?_; (case ho => rfl); (case hg => rfl); (case hn => rfl); (case hr => first | (go_simp; done) | (go_simp; rfl)); intro w22 hw; have hg : w20.grownBy w22 (some go19) := (by rw [hw]; exact HP21.2); have hp_ : Kd.R Kd.bool 4 w22 w.heap.size (fun _ => True) (.slice (some ⟨go19, 0, none⟩) x7_1.length co14) y229 := (by rw [hw, Ny229.out]; exact HP21.1); clear HP21; replace HO_7 := Aside0.mk (hp_); replace HB := Aside0.mk ((by rw [hw]; exact below_set (HB.out) GB19.out : Below w.heap.size w w22)); clear hg hw hp_))
         (try simp only [← hl7_1])
         go_roundg k1
         case measure => have := HK1.out; omega
         case rel => exact ⟨(y229), (wrap64 (x19_1 + 1)), S.eA, H', ⟨by have := HK1.out; omega⟩, ⟨by (try simp only [hl7_1]); (with_reducible repeat (first | apply Kd.R_alloc | apply Kd.R_drewN | apply Kd.R_drew)); exact HO_7.out⟩, ⟨S.bA⟩⟩
        ·rw [if_neg c18] at H
         exact absurd H (by simp)
       ·rw [if_neg c17] at H
        exact absurd H (by simp)
      ·rw [if_neg c15] at H
       have c15b0 : decide (x19_1 < (y225.length : Int)) = false := decide_eq_false c15
       (try rw [hl7_1] at c15b0)
       clear c15
       obtain rfl := Option.some.inj H
       go_wp2
       go_ret
       exact ⟨_, S.eW, S.uR HO_7.out, S.bA⟩
   ·rw [if_neg c9] at H
    exact absurd H (by simp)
  ·rw [if_neg c8] at H
   exact absurd H (by simp)

/-! ### impl_WindowOf: function 32 -/
mutual
def impl_WindowOf.j0 : Nat → List Bool → Int → Bool → Option (Int × Int × Bool)
 | 0, _, _, _ => none
 | k + 1, x8, x9, x23 => if x23 = true then (some (0, 0, false)) else (impl_WindowOf.l0 k x8 x9 (x8.length : Int) 0)
def impl_WindowOf.l0 : Nat → List Bool → Int → Int → Int → Option (Int × Int × Bool)
 | 0, _, _, _, _ => none
 | k + 1, x8, x9, x26, x27 => if x27 < x26 then (if 0 ≤ x27 then (if x27 < (x8.length : Int) then (if rdOf false x8 x27 = true then (if x9 = 0 then (none) else (if 0 ≤ (Int.tmod (wrap64 ((wrap64 (x27 + x9)) - 1)) x9) then (if (Int.tmod (wrap64 ((wrap64 (x27 + x9)) - 1)) x9) < (x8.length : Int) then (impl_WindowOf.j2 k x8 x9 x27 x26 x27 (!(rdOf false x8 (Int.tmod (wrap64 ((wrap64 (x27 + x9)) - 1)) x9)))) else (none)) else (none))) else (impl_WindowOf.j2 k x8 x9 x27 x26 x27 false)) else (none)) else (none)) else (some (0, x9, true))
def impl_WindowOf.j2 : Nat → List Bool → Int → Int → Int → Int → Bool → Option (Int × Int × Bool)
 | 0, _, _, _, _, _, _ => none
 | k + 1, x8, x9, x10, x26, x27, x45 => if x45 = true then (impl_WindowOf.l1 k x8 x9 x10 0) else (impl_WindowOf.l0 k x8 x9 x26 (wrap64 (x27 + 1)))
def impl_WindowOf.l1 : Nat → List Bool → Int → Int → Int → Option (Int × Int × Bool)
 | 0, _, _, _, _ => none
 | k + 1, x8, x9, x10, x11 => if x9 = 0 then (none) else (if 0 ≤ (Int.tmod (wrap64 (x10 + x11)) x9) then (if (Int.tmod (wrap64 (x10 + x11)) x9) < (x8.length : Int) then (if rdOf false x8 (Int.tmod (wrap64 (x10 + x11)) x9) = true then (impl_WindowOf.l1 k x8 x9 x10 (wrap64 (x11 + 1))) else (some (x10, x11, true))) else (none)) else (none))
end
def impl_WindowOf.f (k : Nat) (l0 : List (S71)) (l1 : List (S85)) (a2 : Int) : Option (Int × Int × Bool) := (impl_greens.f k l0 l1 a2).bind fun t231 => (if (t231.length : Int) = 0 then (impl_WindowOf.j0 k t231 (t231.length : Int) true) else (impl_WindowOf.j0 k t231 (t231.length : Int) (decide ((t231.length : Int) > 200))))
set_option maxHeartbeats 8000000 in
set_option maxRecDepth 100000 in
theorem impl_WindowOf.calls (k : Nat) (A0 : Option Addr) (c0 : Nat) (l0 : List (S71)) (A1 : Option Addr) (c1 : Nat) (l1 : List (S85)) (a2 : Int) (r1 : Int) (r2 : Int) (r3 : Bool) (w : World) (hr0 : Kd.C k71 w A0 l0.length l0) (hc0 : l0.length ≤ c0) (hr1 : Kd.C k85 w A1 l1.length l1) (hc1 : l1.length ≤ c1) (h : impl_WindowOf.f k l0 l1 a2 = some (r1, r2, r3)) :
  Calls Try.prog 32 #[.slice A0 l0.length c0, .slice A1 l1.length c1, .int .i64 a2] w fun e w' => e = .returned (.tuple #[.agg #[.int .i64 r1, .int .i64 r2], .bool r3]) ∧ Below w.heap.size w w' := by
 have hu45 := Try.underlying45
 have HR0 := Aside0.mk hr0
 have HC0 := Aside0.mk hc0
 clear hr0 hc0
 have HR1 := Aside0.mk hr1
 have HC1 := Aside0.mk hc1
 clear hr1 hc1
 have HB := Aside0.mk (Below.refl w.heap.size w)
 have H : ((impl_greens.f k l0 l1 a2).bind fun t231 => (if (t231.length : Int) = 0 then (impl_WindowOf.j0 k t231 (t231.length : Int) true) else (impl_WindowOf.j0 k t231 (t231.length : Int) (decide ((t231.length : Int) > 200))))) = some (r1, r2, r3) := h
 clear h
 replace H := S.bd H; obtain ⟨t231, A4, H⟩ := H
 (try dsimp only at H)
 have HC5 := Aside0.mk H
 clear H
 go_enter Try.func32, Try.ntmps32
 go_upto_region 3 with (first | ((with_reducible refine gate_dst (N := 6) rfl ?_); refine S.bx 6 (cs := #[.int .i64 0, .int .i64 0]) (t := 45) ?_; intro gb230 hg w6 hbox hb; have BK230 := Aside0.mk hbox; have GW230 := S.geA hg; have GE230 := S.geA hg; replace HB := S.sA hb; clear hb hbox hg) | ((with_reducible refine gate_callee (f := 75) rfl ?_); refine S.gL (some 15) Try.func75 #[.slice A0 l0.length c0, .slice A1 l1.length c1, .int .i64 a2] ?_; (with_reducible refine (impl_greens.calls k _ _ l0 _ _ l1 a2 t231 _ ?s1 HC0.out ?s3 HC1.out A4.out).mono ?_); (case s1 => exact S.cA HR0.out); (case s3 => exact S.cA HR1.out); rintro e w7 ⟨v232, rfl, ho0, hb⟩; refine ⟨_, rfl, ?_⟩; have HO233 := S.lwG ho0; replace BK230 := S.kb BK230 hb; replace HB := S.sG hb; (try clear hb); (try clear ho0); obtain ⟨Ao8, co8, eo8⟩ := Kd.R_slice HO233.out; subst eo8))
 (try simp only [Act.put, List.setIfInBounds_toArray, List.set_cons_zero, List.set_cons_succ])
 go_cut [23] (fun v23 wc => ∃ (kq : Nat) (x23_4 : Bool), v23 = .bool x23_4 ∧ Aside0 (impl_WindowOf.j0 kq t231 (t231.length : Int) x23_4 = some (r1, r2, r3)) ∧ Aside0 (kq ≤ k) ∧ Aside0 (Kd.R Kd.bool 4 wc w.heap.size (fun _ => True) (.slice Ao8 t231.length co8) t231) ∧ Aside0 (wc.heap[gb230]? = some (.cells #[.int .i64 0, .int .i64 0] 45 (0, 0))) ∧ Aside0 (Below w.heap.size w wc))
 case first =>
  have H := HC5.out
  clear HC5
  by_cases c9 : (t231.length : Int) = 0
  ·rw [if_pos c9] at H
   have c9b0 : ((t231.length : Int) == 0) = true := beq_iff_eq.mpr c9
   have c9b1 : ((t231.length : Int) != 0) = false := bne_eq_false_iff_eq.mpr c9
   clear c9
   (first | rw [c9b0] | (simp only [i64_w, i32_w]; rw [c9b0]) | skip)
   have H' := Aside0.mk H
   clear H
   go_wp2
   go_meet
   case rel => exact ⟨_, (true), S.eA, H', S.le, ⟨S.uR HO233.out⟩, ⟨S.uB BK230.out⟩, ⟨S.bG⟩⟩
  ·rw [if_neg c9] at H
   have c9b0 : ((t231.length : Int) == 0) = false := beq_eq_false_iff_ne.mpr c9
   have c9b1 : ((t231.length : Int) != 0) = true := bne_iff_ne.mpr c9
   have c9b2 : ¬ (t231 = []) := fun h_ => c9 (by rw [h_]; rfl)
   (first | rw [c9b0] | (simp only [i64_w, i32_w]; rw [c9b0]) | skip)
   have H' := Aside0.mk H
   clear H
   go_wp2
   go_meet
   case rel => exact ⟨_, (decide ((t231.length : Int) > 200)), S.eA, H', S.le, ⟨S.uR HO233.out⟩, ⟨S.uB BK230.out⟩, ⟨S.bG⟩⟩
 case rest =>
  clear HC5
  try clear c1
  obtain ⟨kq, x23_4, rfl, HA, HJ4, HO_8, BK230, HB⟩ := hcut
  cases kq with
  | zero => exact absurd HA.out (by simp [impl_WindowOf.j0])
  | succ kj4 =>
   have H := HA.out
   clear HA
   simp only [impl_WindowOf.j0] at H
   replace H := S.db H; rcases H with ⟨rfl, H⟩ | ⟨rfl, H⟩
   ·simp only [Option.some.injEq, Prod.mk.injEq] at H
    obtain ⟨rfl, rfl, rfl⟩ := H
    obtain ⟨Z11a, Z11b, Y11a, Y11b⟩ := S.c2 BK230.out
    go_wp2
    refine bodyPost_ret (results_ct rfl _ _ gb230 45 #[.int .i64 0, .int .i64 0] (0, 0) _ rfl (by (with_reducible repeat (first | refine blk_drewN ?_ _ | refine blk_drew ?_ | refine blk_alloc ?_ _)); refine blk_put (cs := #[.int .i64 0, .int .i64 0]) ?_ 1 _ rfl; (with_reducible repeat (first | refine blk_drewN ?_ _ | refine blk_drew ?_ | refine blk_alloc ?_ _)); refine blk_put (cs := #[.int .i64 0, .int .i64 0]) ?_ 0 _ rfl; (with_reducible repeat (first | refine blk_drewN ?_ _ | refine blk_drew ?_ | refine blk_alloc ?_ _)); exact BK230.out) Try.underlying45 rfl (by kernel_rfl)) rfl ?_
    exact ⟨S.eW, S.bG⟩
   ·have H' := Aside0.mk H
    clear H
    go_wp2
    go_loopg [27] kj4 (fun kq v27 w' => ∃ (x27_2 : Int) (x231000_2 : Int) (x231001_2 : Int), v27 = .int .i64 x27_2 ∧ Aside0 (impl_WindowOf.l0 kq t231 (t231.length : Int) (t231.length : Int) x27_2 = some (r1, r2, r3)) ∧ Aside0 (kq ≤ kj4) ∧ Aside0 (Kd.R Kd.bool 4 w' w.heap.size (fun _ => True) (.slice Ao8 t231.length co8) t231) ∧ Aside0 (w'.heap[gb230]? = some (.cells #[.int .i64 x231000_2, .int .i64 x231001_2] 45 (0, 0))) ∧ Aside0 (Below w.heap.size w w'))
    case atStart => exact ⟨(0), (0), (0), S.eA, H', ⟨Nat.le_refl _⟩, ⟨S.uR HO_8.out⟩, ⟨S.uB BK230.out⟩, ⟨S.bG⟩⟩
    case round =>
     clear H'
     try clear c1
     try clear c10
     obtain ⟨x27_2, x231000_2, x231001_2, rfl, HA, HK2, HO_8, BK230, HB⟩ := hrel
     cases gk with
     | zero => exact absurd HA.out (by simp [impl_WindowOf.l0])
     | succ k2 =>
      have H := HA.out
      clear HA
      simp only [impl_WindowOf.l0] at H
      replace H := S.dc H; rcases H with ⟨H, c12b0⟩ | ⟨H, c12b0⟩
      ·have HC13 := Aside0.mk H
       clear H
       go_upto_region 8 with (fail)
       go_cut [45] (fun v45 wc => ∃ (kq : Nat) (x45_12 : Bool), v45 = .bool x45_12 ∧ Aside0 (impl_WindowOf.j2 kq t231 (t231.length : Int) x27_2 (t231.length : Int) x27_2 x45_12 = some (r1, r2, r3)) ∧ Aside0 (kq ≤ k2) ∧ Aside0 (Kd.R Kd.bool 4 wc w.heap.size (fun _ => True) (.slice Ao8 t231.length co8) t231) ∧ Aside0 (wc.heap[gb230]? = some (.cells #[.int .i64 x231000_2, .int .i64 x231001_2] 45 (0, 0))) ∧ Aside0 (Below w.heap.size w wc))
       case first =>
        have H := HC13.out
        clear HC13
        by_cases c14 : 0 ≤ x27_2
        ·rw [if_pos c14] at H
         have c14b0 : decide (0 ≤ x27_2) = true := decide_eq_true c14
         clear c14
         (first | rw [c14b0] | (simp only [i64_w, i32_w]; rw [c14b0]) | skip)
         by_cases c15 : x27_2 < (t231.length : Int)
         ·rw [if_pos c15] at H
          have c15b0 : decide (x27_2 < (t231.length : Int)) = true := decide_eq_true c15
          clear c15
          obtain ⟨bq16, hbq16⟩ : ∃ b_ : Bool, b_ = (rdOf false t231 x27_2) := ⟨_, rfl⟩
          replace H : (if bq16 = true then (if (t231.length : Int) = 0 then (none) else (if 0 ≤ (Int.tmod (wrap64 ((wrap64 (x27_2 + (t231.length : Int))) - 1)) (t231.length : Int)) then (if (Int.tmod (wrap64 ((wrap64 (x27_2 + (t231.length : Int))) - 1)) (t231.length : Int)) < (t231.length : Int) then (impl_WindowOf.j2 k2 t231 (t231.length : Int) x27_2 (t231.length : Int) x27_2 (!(rdOf false t231 (Int.tmod (wrap64 ((wrap64 (x27_2 + (t231.length : Int))) - 1)) (t231.length : Int))))) else (none)) else (none))) else (impl_WindowOf.j2 k2 t231 (t231.length : Int) x27_2 (t231.length : Int) x27_2 false)) = some (r1, r2, r3) := by rw [← hbq16] at H; exact H
          have Nbq16 := Aside0.mk hbq16
          clear hbq16
          replace H := S.db H; rcases H with ⟨rfl, H⟩ | ⟨rfl, H⟩
          ·by_cases c18 : (t231.length : Int) = 0
           ·rw [if_pos c18] at H
            exact absurd H (by simp)
           ·rw [if_neg c18] at H
            have c18b0 : ((t231.length : Int) == 0) = false := beq_eq_false_iff_ne.mpr c18
            have c18b1 : ((t231.length : Int) != 0) = true := bne_iff_ne.mpr c18
            have c18b2 : ¬ (t231 = []) := fun h_ => c18 (by rw [h_]; rfl)
            obtain ⟨ji19, hji19⟩ : ∃ j_ : Int, (Int.tmod (wrap64 ((wrap64 (x27_2 + (t231.length : Int))) - 1)) (t231.length : Int)) = j_ := ⟨_, rfl⟩
            replace H : (if 0 ≤ (ji19) then (if (ji19) < (t231.length : Int) then (impl_WindowOf.j2 k2 t231 (t231.length : Int) x27_2 (t231.length : Int) x27_2 (!(rdOf false t231 (ji19)))) else (none)) else (none)) = some (r1, r2, r3) := by first | (rw [hji19] at H; exact H) | (simp only [hji19] at H ⊢; exact H)
            by_cases c20 : 0 ≤ (ji19)
            ·rw [if_pos c20] at H
             have c20b0 : decide (0 ≤ (ji19)) = true := decide_eq_true c20
             clear c20
             by_cases c21 : (ji19) < (t231.length : Int)
             ·rw [if_pos c21] at H
              have c21b0 : decide ((ji19) < (t231.length : Int)) = true := decide_eq_true c21
              clear c21
              have H' := Aside0.mk H
              clear H
              have p234 : 0 ≤ (x27_2 : Int) := S.oD
              have q234 : x27_2 < (t231.length : Int) := S.oD
              obtain ⟨ad234, e234, hx234_0⟩ := Kd.at_bool (Kd.R_reads' HO_8.out).2.2 x27_2 p234 q234
              (try rw [← Nbq16.out] at hx234_0)
              cases e234
              replace p234 := eq_true p234
              replace q234 := eq_true q234
              have p235 : 0 ≤ ((ji19) : Int) := S.oD
              have q235 : (ji19) < (t231.length : Int) := S.oD
              obtain ⟨ad235, e235, hx235_0⟩ := Kd.at_bool (Kd.R_reads' HO_8.out).2.2 (ji19) p235 q235
              (try rw [← Nbq16.out] at hx235_0)
              obtain rfl : ad234 = ad235 := (by injection e235)
              replace p235 := eq_true p235
              replace q235 := eq_true q235
              go_wp2
              go_meet
              case rel => exact ⟨_, (!(rdOf false t231 (ji19))), (by first | rfl | (simp; done) | (simp only [← hji19] <;> (first | rfl | simp)) | (simp [*]; done)), H', ⟨by have := HJ4.out; have := HK2.out; first | omega | exact Nat.le_refl _⟩, ⟨S.uR HO_8.out⟩, ⟨S.uB BK230.out⟩, ⟨S.bG⟩⟩
             ·rw [if_neg c21] at H
              exact absurd H (by simp)
            ·rw [if_neg c20] at H
             exact absurd H (by simp)
          ·have H' := Aside0.mk H
           clear H
           have p234 : 0 ≤ (x27_2 : Int) := S.oD
           have q234 : x27_2 < (t231.length : Int) := S.oD
           obtain ⟨ad234, e234, hx234_0⟩ := Kd.at_bool (Kd.R_reads' HO_8.out).2.2 x27_2 p234 q234
           (try rw [← Nbq16.out] at hx234_0)
           cases e234
           replace p234 := eq_true p234
           replace q234 := eq_true q234
           go_wp2
           go_meet
           case rel => exact ⟨_, (false), S.eA, H', ⟨by have := HJ4.out; have := HK2.out; first | omega | exact Nat.le_refl _⟩, ⟨S.uR HO_8.out⟩, ⟨S.uB BK230.out⟩, ⟨S.bG⟩⟩
         ·rw [if_neg c15] at H
          exact absurd H (by simp)
        ·rw [if_neg c14] at H
         exact absurd H (by simp)
       case rest =>
        clear HC13
        try clear c1
        try clear c10
        try clear c12
        try clear c12b0
        obtain ⟨kq, x45_12, rfl, HA, HJ12, HO_8, BK230, HB⟩ := hcut
        cases kq with
        | zero => exact absurd HA.out (by simp [impl_WindowOf.j2])
        | succ kj12 =>
         have H := HA.out
         clear HA
         simp only [impl_WindowOf.j2] at H
         replace H := S.db H; rcases H with ⟨rfl, H⟩ | ⟨rfl, H⟩
         ·have H' := Aside0.mk H
          clear H
          go_wp2
          go_loopg [11] kj12 (fun kq v11 w' => ∃ (x11_4 : Int), v11 = .int .i64 x11_4 ∧ Aside0 (impl_WindowOf.l1 kq t231 (t231.length : Int) x27_2 x11_4 = some (r1, r2, r3)) ∧ Aside0 (kq ≤ kj12) ∧ Aside0 (Kd.R Kd.bool 4 w' w.heap.size (fun _ => True) (.slice Ao8 t231.length co8) t231) ∧ Aside0 (w'.heap[gb230]? = some (.cells #[.int .i64 x231000_2, .int .i64 x231001_2] 45 (0, 0))) ∧ Aside0 (Below w.heap.size w w'))
          case atStart => exact ⟨(0), S.eA, H', ⟨Nat.le_refl _⟩, ⟨S.uR HO_8.out⟩, ⟨S.uB BK230.out⟩, ⟨S.bG⟩⟩
          case round =>
           clear H'
           try clear c1
           try clear c10
           try clear c12
           try clear c12b0
           try clear c22
           obtain ⟨x11_4, rfl, HA, HK4, HO_8, BK230, HB⟩ := hrel
           cases gk with
           | zero => exact absurd HA.out (by simp [impl_WindowOf.l1])
           | succ k4 =>
            have H := HA.out
            clear HA
            simp only [impl_WindowOf.l1] at H
            by_cases c23 : (t231.length : Int) = 0
            ·rw [if_pos c23] at H
             exact absurd H (by simp)
            ·rw [if_neg c23] at H
             have c23b0 : ((t231.length : Int) == 0) = false := beq_eq_false_iff_ne.mpr c23
             have c23b1 : ((t231.length : Int) != 0) = true := bne_iff_ne.mpr c23
             have c23b2 : ¬ (t231 = []) := fun h_ => c23 (by rw [h_]; rfl)
             obtain ⟨ji24, hji24⟩ : ∃ j_ : Int, (Int.tmod (wrap64 (x27_2 + x11_4)) (t231.length : Int)) = j_ := ⟨_, rfl⟩
             replace H : (if 0 ≤ (ji24) then (if (ji24) < (t231.length : Int) then (if rdOf false t231 (ji24) = true then (impl_WindowOf.l1 k4 t231 (t231.length : Int) x27_2 (wrap64 (x11_4 + 1))) else (some (x27_2, x11_4, true))) else (none)) else (none)) = some (r1, r2, r3) := by first | (rw [hji24] at H; exact H) | (simp only [hji24] at H ⊢; exact H)
             by_cases c25 : 0 ≤ (ji24)
             ·rw [if_pos c25] at H
              have c25b0 : decide (0 ≤ (ji24)) = true := decide_eq_true c25
              clear c25
              by_cases c26 : (ji24) < (t231.length : Int)
              ·rw [if_pos c26] at H
               have c26b0 : decide ((ji24) < (t231.length : Int)) = true := decide_eq_true c26
               clear c26
               obtain ⟨bq27, hbq27⟩ : ∃ b_ : Bool, b_ = (rdOf false t231 (ji24)) := ⟨_, rfl⟩
               replace H : (if bq27 = true then (impl_WindowOf.l1 k4 t231 (t231.length : Int) x27_2 (wrap64 (x11_4 + 1))) else (some (x27_2, x11_4, true))) = some (r1, r2, r3) := by rw [← hbq27] at H; exact H
               have Nbq27 := Aside0.mk hbq27
               clear hbq27
               replace H := S.db H; rcases H with ⟨rfl, H⟩ | ⟨rfl, H⟩
               ·have H' := Aside0.mk H
                clear H
                have p236 : 0 ≤ ((ji24) : Int) := S.oD
                have q236 : (ji24) < (t231.length : Int) := S.oD
                obtain ⟨ad236, e236, hx236_0⟩ := Kd.at_bool (Kd.R_reads' HO_8.out).2.2 (ji24) p236 q236
                (try rw [← Nbq27.out] at hx236_0)
                cases e236
                replace p236 := eq_true p236
                replace q236 := eq_true q236
                go_wp2
                go_roundg k4
                case measure => have := HJ4.out; have := HK2.out; have := HJ12.out; have := HK4.out; omega
                case rel => exact ⟨(wrap64 (x11_4 + 1)), S.eA, H', ⟨by have := HJ4.out; have := HK2.out; have := HJ12.out; have := HK4.out; omega⟩, ⟨S.uR HO_8.out⟩, ⟨S.uB BK230.out⟩, ⟨S.bG⟩⟩
               ·simp only [Option.some.injEq, Prod.mk.injEq] at H
                obtain ⟨rfl, rfl, rfl⟩ := H
                have p236 : 0 ≤ ((ji24) : Int) := S.oD
                have q236 : (ji24) < (t231.length : Int) := S.oD
                obtain ⟨ad236, e236, hx236_0⟩ := Kd.at_bool (Kd.R_reads' HO_8.out).2.2 (ji24) p236 q236
                (try rw [← Nbq27.out] at hx236_0)
                cases e236
                replace p236 := eq_true p236
                replace q236 := eq_true q236
                obtain ⟨Z29a, Z29b, Y29a, Y29b⟩ := S.c2 BK230.out
                go_wp2
                refine bodyPost_ret (results_ct rfl _ _ gb230 45 #[.int .i64 x27_2, .int .i64 x11_4] (0, 0) _ rfl (by (with_reducible repeat (first | refine blk_drewN ?_ _ | refine blk_drew ?_ | refine blk_alloc ?_ _)); refine blk_put (cs := #[.int .i64 x27_2, .int .i64 x231001_2]) ?_ 1 _ rfl; (with_reducible repeat (first | refine blk_drewN ?_ _ | refine blk_drew ?_ | refine blk_alloc ?_ _)); refine blk_put (cs := #[.int .i64 x231000_2, .int .i64 x231001_2]) ?_ 0 _ rfl; (with_reducible repeat (first | refine blk_drewN ?_ _ | refine blk_drew ?_ | refine blk_alloc ?_ _)); exact BK230.out) Try.underlying45 rfl (by kernel_rfl)) rfl ?_
                exact ⟨by first | rfl | (simp [errW_none, errW_some] <;> rfl) | (simp only [← hji24]; first | rfl | (simp [errW_none, errW_some] <;> rfl)) | (simp [*, errW_none, errW_some] <;> rfl), S.bG⟩
              ·rw [if_neg c26] at H
               exact absurd H (by simp)
             ·rw [if_neg c25] at H
              exact absurd H (by simp)
         ·have H' := Aside0.mk H
          clear H
          go_wp2
          go_roundg kj12
          case measure => have := HJ4.out; have := HK2.out; have := HJ12.out; omega
          case rel => exact ⟨(wrap64 (x27_2 + 1)), (x231000_2), (x231001_2), S.eA, H', ⟨by have := HJ4.out; have := HK2.out; have := HJ12.out; omega⟩, ⟨S.uR HO_8.out⟩, ⟨S.uB BK230.out⟩, ⟨S.bG⟩⟩
      ·simp only [Option.some.injEq, Prod.mk.injEq] at H
       obtain ⟨rfl, rfl, rfl⟩ := H
       obtain ⟨Z30a, Z30b, Y30a, Y30b⟩ := S.c2 BK230.out
       go_wp2
       refine bodyPost_ret (results_ct rfl _ _ gb230 45 #[.int .i64 0, .int .i64 (t231.length : Int)] (0, 0) _ rfl (by (with_reducible repeat (first | refine blk_drewN ?_ _ | refine blk_drew ?_ | refine blk_alloc ?_ _)); refine blk_put (cs := #[.int .i64 0, .int .i64 x231001_2]) ?_ 1 _ rfl; (with_reducible repeat (first | refine blk_drewN ?_ _ | refine blk_drew ?_ | refine blk_alloc ?_ _)); refine blk_put (cs := #[.int .i64 x231000_2, .int .i64 x231001_2]) ?_ 0 _ rfl; (with_reducible repeat (first | refine blk_drewN ?_ _ | refine blk_drew ?_ | refine blk_alloc ?_ _)); exact BK230.out) Try.underlying45 rfl (by kernel_rfl)) rfl ?_
       exact ⟨S.eW, S.bG⟩

/-! ### laws_big: function 34 -/
def laws_big.f (l0 : List Int) : Option (Bool) := some (decide ((l0.length : Int) > 1048576))
set_option maxHeartbeats 8000000 in
set_option maxRecDepth 100000 in
theorem laws_big.calls (A0 : Option Addr) (c0 : Nat) (l0 : List Int) (r : Bool) (w : World) (hr0 : Kd.C (Kd.int .u8) w A0 l0.length l0) (hc0 : l0.length ≤ c0) (h : laws_big.f l0 = some r) :
  Calls Try.prog 34 #[.slice A0 l0.length c0] w fun e w' => e = .returned (.bool r) ∧ Drawn0 w w' := by
 have HR0 := Aside0.mk hr0
 have HC0 := Aside0.mk hc0
 clear hr0 hc0
 have H : (some (decide ((l0.length : Int) > 1048576))) = some r := h
 clear h
 obtain rfl := Option.some.inj H
 go_enter Try.func34, Try.ntmps34
 go_wp2
 go_ret
 exact ⟨S.eA, by repeat (first | exact Drawn0.refl _ | apply Drawn0.step)⟩
end Go.Proofs.Ytjgigmghcfdomaa.PFnWaves
