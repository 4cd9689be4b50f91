/- Printed by a program: what the Go functions compute, as plain Lean functions (.f), and the proofs that the machine's calls come to just that (.calls). -/
import Derived.Test.YtjgigmghcfdomaaPFnWavesx0
namespace Go.Proofs.Ytjgigmghcfdomaa.PFnWaves
open Go.RowKit Go.Proofs.YtjgigmghcfdomaaW.PrintWords Go.Proofs.YtjgigmghcfdomaaW.PrintLast Go.Proofs.YtjgigmghcfdomaaW.PrintMore
attribute [local go_sem] max2_int min2_int max_two min_two max_three min_three max_four min_four   -- for this text's walks alone
set_option linter.unusedVariables false
set_option linter.unusedSimpArgs false
/-- A state of type 114 at block g of W; what its slices lead to came in by w0. -/
def IsS114 (w0 W : World) (g : Nat) (f0 : List Int) (f1 : Int) (f2 : Int) : Prop := ∃ A0 c0, W.heap[g]? = some (.cells #[.slice A0 f0.length c0, .int .i64 f1, .int .i64 f2] 114 (0, 0)) ∧ w0.heap.size ≤ g ∧ Kd.C (Kd.int .u8) w0 A0 f0.length f0
theorem IsS114.grown {w0 W : World} {g : Nat} {f0 : List Int} {f1 : Int} {f2 : Int} {W1 : World} {row : Option Nat} (h : IsS114 w0 W g f0 f1 f2) (hw : W.grownBy W1 row) (hne : some g ≠ row) : IsS114 w0 W1 g f0 f1 f2 := by
 obtain ⟨A0, c0, hb, hg, hr0⟩ := h
 exact ⟨A0, c0, blk_grown hb hw hne, hg, hr0⟩
theorem IsS114.own_neN {w0 W : World} {g : Nat} {f0 : List Int} {f1 : Int} {f2 : Int} {α : Type} {d : Kd α} {e : Nat} {base : Nat} {ok : Nat → Prop} {v : Value} {xs : List α} (h : IsS114 w0 W g f0 f1 f2) (ho : Kd.N d e W base ok v xs) (ht : e ≠ 114) : some g ≠ v.ownBlock := by
 obtain ⟨A0, c0, hb, hg, hr0⟩ := h
 exact Kd.N_ne ho hb ht
theorem IsS114.fresh {w0 W : World} {g : Nat} {f0 : List Int} {f1 : Int} {f2 : Int} (h : IsS114 w0 W g f0 f1 f2) : ∀ k, W.heap.size ≤ k → k ≠ g := by
 obtain ⟨A0, c0, hb, hg, hr0⟩ := h
 exact Kd.freshB hb
theorem IsS114.below {w0 W : World} {g : Nat} {f0 : List Int} {f1 : Int} {f2 : Int} {W1 : World} (h : IsS114 w0 W g f0 f1 f2) (hw : Below W.heap.size W W1) : IsS114 w0 W1 g f0 f1 f2 := h.grown (grown_of_below hw none) (by simp)
theorem IsS114.alloc {w0 W : World} {g : Nat} {f0 : List Int} {f1 : Int} {f2 : Int} (h : IsS114 w0 W g f0 f1 f2) (o : Obj) : IsS114 w0 (W.alloc o) g f0 f1 f2 := h.below (below_alloc (Below.refl _ _) o)
theorem IsS114.drewN {w0 W : World} {g : Nat} {f0 : List Int} {f1 : Int} {f2 : Int} (h : IsS114 w0 W g f0 f1 f2) (m : Nat) : IsS114 w0 (W.drewN m) g f0 f1 f2 := h
theorem IsS114.drew {w0 W : World} {g : Nat} {f0 : List Int} {f1 : Int} {f2 : Int} (h : IsS114 w0 W g f0 f1 f2) : IsS114 w0 W.drew g f0 f1 f2 := h
theorem IsS114.apart {w0 W : World} {g : Nat} {f0 : List Int} {f1 : Int} {f2 : Int} {α : Type} {d : Kd α} {e : Nat} {base : Nat} {ok : Nat → Prop} {v : Value} {xs : List α} (h : IsS114 w0 W g f0 f1 f2) (ho : d.R e W base ok v xs) (ht : ∀ q, q ∈ e :: d.E → q ≠ 114) : d.R e W base (fun k => ok k ∧ k ≠ g) v xs := by
 obtain ⟨A0, c0, hb, hg, hr0⟩ := h
 exact Kd.R_types ho hb ht
theorem IsS114.own_ne {w0 W : World} {g : Nat} {f0 : List Int} {f1 : Int} {f2 : Int} {α : Type} {d : Kd α} {e : Nat} {base : Nat} {ok : Nat → Prop} {v : Value} {xs : List α} (h : IsS114 w0 W g f0 f1 f2) (ho : d.R e W base ok v xs) (ht : e ≠ 114) : some g ≠ v.ownBlock := by
 obtain ⟨A0, c0, hb, hg, hr0⟩ := h
 exact Kd.R_ne ho hb ht
theorem IsS114.lt {w0 W : World} {g : Nat} {f0 : List Int} {f1 : Int} {f2 : Int} (h : IsS114 w0 W g f0 f1 f2) : g < W.heap.size := by
 obtain ⟨A0, c0, hb, hg, hr0⟩ := h
 exact blk_lt hb
theorem IsS114.ge {w0 W : World} {g : Nat} {f0 : List Int} {f1 : Int} {f2 : Int} (h : IsS114 w0 W g f0 f1 f2) : w0.heap.size ≤ g := by
 obtain ⟨A0, c0, hb, hg, hr0⟩ := h
 exact hg
theorem IsS114.ne_blk {w0 W : World} {g : Nat} {f0 : List Int} {f1 : Int} {f2 : Int} {a : Nat} {cs : Array Value} {t : TypeId} {fr : Nat × Nat} (h : IsS114 w0 W g f0 f1 f2) (hb2 : W.heap[a]? = some (.cells cs t fr)) (ht : t ≠ 114) : g ≠ a := by
 obtain ⟨A0, c0, hb, hg, hr0⟩ := h
 rintro rfl
 rw [hb] at hb2
 injection hb2 with hb2
 injection hb2 with _ ht2
 exact ht ht2.symm
theorem IsS114.far {w0 W : World} {g : Nat} {f0 : List Int} {f1 : Int} {f2 : Int} {p : Addr} (h : IsS114 w0 W g f0 f1 f2) (hne : g ≠ p.block) (u : Value) : IsS114 w0 (W.setCell p u) g f0 f1 f2 := by
 obtain ⟨A0, c0, hb, hg, hr0⟩ := h
 exact ⟨A0, c0, blk_far hb hne u, hg, hr0⟩
theorem cellS114_0 {W : World} {g : Nat} {A0 : Option Addr} {c0 : Nat} {f0 : List Int} {f1 : Int} {f2 : Int} (h : W.heap[g]? = some (.cells #[.slice A0 f0.length c0, .int .i64 f1, .int .i64 f2] 114 (0, 0))) : W.cell? ⟨g, 0, none⟩ = some (.slice A0 f0.length c0) := (blk_cell h 0).trans rfl
theorem cellS114_1 {W : World} {g : Nat} {A0 : Option Addr} {c0 : Nat} {f0 : List Int} {f1 : Int} {f2 : Int} (h : W.heap[g]? = some (.cells #[.slice A0 f0.length c0, .int .i64 f1, .int .i64 f2] 114 (0, 0))) : W.cell? ⟨g, 1, none⟩ = some (.int .i64 f1) := (blk_cell h 1).trans rfl
theorem IsS114.set_1 {w0 W : World} {g : Nat} {f0 : List Int} {f1 : Int} {f2 : Int} (h : IsS114 w0 W g f0 f1 f2) (x : Int) : IsS114 w0 (W.setCell ⟨g, 1, none⟩ (.int .i64 x)) g f0 x f2 := by
 obtain ⟨A0, c0, hb, hg, hr0⟩ := h
 exact ⟨A0, c0, by simpa using blk_set hb 1 (.int .i64 x), hg, hr0⟩
theorem cellS114_2 {W : World} {g : Nat} {A0 : Option Addr} {c0 : Nat} {f0 : List Int} {f1 : Int} {f2 : Int} (h : W.heap[g]? = some (.cells #[.slice A0 f0.length c0, .int .i64 f1, .int .i64 f2] 114 (0, 0))) : W.cell? ⟨g, 2, none⟩ = some (.int .i64 f2) := (blk_cell h 2).trans rfl
theorem IsS114.set_2 {w0 W : World} {g : Nat} {f0 : List Int} {f1 : Int} {f2 : Int} (h : IsS114 w0 W g f0 f1 f2) (x : Int) : IsS114 w0 (W.setCell ⟨g, 2, none⟩ (.int .i64 x)) g f0 f1 x := by
 obtain ⟨A0, c0, hb, hg, hr0⟩ := h
 exact ⟨A0, c0, by simpa using blk_set hb 2 (.int .i64 x), hg, hr0⟩
/-! ### spec_l1New: function 76 -/
def spec_l1New.l0 : Nat → List Int → Int → Int → Option (List Int × Int × Int)
 | 0, _, _, _ => none
 | k + 1, x0, x3, x4 => if x4 < (x0.length : Int) then (if x4 < 4000 then (if 0 ≤ x4 then (spec_l1New.l0 k x0 (Go.bits .and .i64 (wrap64 ((wrap64 ((wrap64 (x3 * 137)) + (wrap64 (rd x0 x4)))) + 11)) 1073741823) (wrap64 (x4 + 1))) else (none)) else (some (x0, 0, x3))) else (some (x0, 0, x3))
def spec_l1New.f (k : Nat) (l0 : List Int) : Option (List Int × Int × Int) := spec_l1New.l0 k l0 (wrap64 (193017 + (l0.length : Int))) 0
set_option maxHeartbeats 8000000 in
set_option maxRecDepth 100000 in
theorem spec_l1New.calls (k : Nat) (A0 : Option Addr) (c0 : Nat) (l0 : List Int) (r1 : List Int) (r2 : Int) (r3 : Int) (w0 w : World) (hB : Below w0.heap.size w0 w) (hr0 : Kd.C (Kd.int .u8) w0 A0 l0.length l0) (hc0 : l0.length ≤ c0) (h : spec_l1New.f k l0 = some (r1, r2, r3)) :
  Calls Try.prog 76 #[.slice A0 l0.length c0] w fun e w' => ∃ g_ : Nat, e = .returned (.pointer (some ⟨g_, 0, none⟩)) ∧ IsS114 w0 w' g_ r1 r2 r3 ∧ Below w0.heap.size w0 w' ∧ Below w.heap.size w w' := by
 have hu114 := Try.underlying114
 have HR0 := Aside0.mk hr0
 have HC0 := Aside0.mk hc0
 clear hr0 hc0
 have HBW := Aside0.mk (Below.refl w.heap.size w)
 have HW0 := Aside0.mk hB.size
 have HB := Aside0.mk hB
 clear hB
 have H : (spec_l1New.l0 k l0 (wrap64 (193017 + (l0.length : Int))) 0) = some (r1, r2, r3) := h
 clear h
 have H' := Aside0.mk H
 clear H
 go_enter Try.func76, Try.ntmps76
 go_wp2
 go_loopg [3, 4] k (fun kq v3 v4 w' => ∃ (x3_1 : Int) (x4_1 : Int), v3 = .int .i64 x3_1 ∧ v4 = .int .i64 x4_1 ∧ Aside0 (spec_l1New.l0 kq l0 x3_1 x4_1 = some (r1, r2, r3)) ∧ Aside0 (kq ≤ k) ∧ Aside0 (Below w0.heap.size w0 w') ∧ Aside0 (Below w.heap.size w w'))
 case atStart => exact ⟨(wrap64 (193017 + (l0.length : Int))), (0), S.eA, S.eA, H', ⟨Nat.le_refl _⟩, ⟨S.bA⟩, ⟨by repeat (first | (with_reducible first | exact HBW.out | apply below_alloc | apply pw_below_drewN | apply below_drew1) | exact HBW.out)⟩⟩
 case round =>
  clear H'
  obtain ⟨x3_1, x4_1, rfl, rfl, HA, HK1, HB, HBW⟩ := hrel
  cases gk with
  | zero => exact absurd HA.out (by simp [spec_l1New.l0])
  | succ k1 =>
   have H := HA.out
   clear HA
   simp only [spec_l1New.l0] at H
   replace H := S.dc H; rcases H with ⟨H, c2b0⟩ | ⟨H, c2b0⟩
   ·by_cases c3 : x4_1 < 4000
    ·rw [if_pos c3] at H
     have c3b0 : decide (x4_1 < 4000) = true := decide_eq_true c3
     clear c3
     by_cases c4 : 0 ≤ x4_1
     ·rw [if_pos c4] at H
      have c4b0 : decide (0 ≤ x4_1) = true := decide_eq_true c4
      clear c4
      have H' := Aside0.mk H
      clear H
      have p237 : 0 ≤ (x4_1 : Int) := S.oD
      have q237 : x4_1 < (l0.length : Int) := S.oD
      obtain ⟨ad237, e237, hx237_0⟩ := Kd.at_int HR0.out x4_1 p237 q237
      cases e237
      replace hx237_0 := pw_cell_below HB.out hx237_0
      replace p237 := eq_true p237
      replace q237 := eq_true q237
      go_wp2
      go_roundg k1
      case measure => have := HK1.out; omega
      case rel => exact ⟨(Go.bits .and .i64 (wrap64 ((wrap64 ((wrap64 (x3_1 * 137)) + (wrap64 (rd l0 x4_1)))) + 11)) 1073741823), (wrap64 (x4_1 + 1)), S.eA, S.eA, H', ⟨by have := HK1.out; omega⟩, ⟨S.bA⟩, ⟨by repeat (first | (with_reducible first | exact HBW.out | apply below_alloc | apply pw_below_drewN | apply below_drew1) | exact HBW.out)⟩⟩
     ·rw [if_neg c4] at H
      exact absurd H (by simp)
    ·rw [if_neg c3] at H
     have c3b0 : decide (x4_1 < 4000) = false := decide_eq_false c3
     clear c3
     simp only [Option.some.injEq, Prod.mk.injEq] at H
     obtain ⟨rfl, rfl, rfl⟩ := H
     go_wp2_with (first | ((with_reducible refine gate_dst (N := 31) rfl ?_); refine S.bx 31 (cs := #[.slice A0 l0.length c0, .int .i64 0, .int .i64 x3_1]) (t := 114) ?_; intro gb238 hg w5 hbox hb; replace HB := S.sA hb; have BK238 := Aside0.mk hbox; have GW238 := Aside0.mk ((by rw [hg]; exact (below_size (by repeat (first | (with_reducible first | exact HBW.out | apply below_alloc | apply pw_below_drewN | apply below_drew1) | exact HBW.out))) : w.heap.size ≤ gb238)); have GE238 := Aside0.mk ((Nat.le_trans HW0.out (by rw [hg]; exact (below_size (by repeat (first | (with_reducible first | exact HBW.out | apply below_alloc | apply pw_below_drewN | apply below_drew1) | exact HBW.out))) : w.heap.size ≤ gb238) : w0.heap.size ≤ gb238)); replace HBW := Aside0.mk (below_step HBW.out hb); clear hb hbox hg))
     go_ret
     exact ⟨_, rfl, (show IsS114 w0 _ gb238 l0 0 x3_1 from ⟨_, _, S.uB BK238.out, GE238.out, HR0.out⟩), S.bG, by repeat (first | (with_reducible first | exact HBW.out | apply below_alloc | apply pw_below_drewN | apply below_drew1 | refine below_set ?_ GW238.out) | exact HBW.out)⟩
   ·simp only [Option.some.injEq, Prod.mk.injEq] at H
    obtain ⟨rfl, rfl, rfl⟩ := H
    go_wp2_with (first | ((with_reducible refine gate_dst (N := 31) rfl ?_); refine S.bx 31 (cs := #[.slice A0 l0.length c0, .int .i64 0, .int .i64 x3_1]) (t := 114) ?_; intro gb239 hg w6 hbox hb; replace HB := S.sA hb; have BK239 := Aside0.mk hbox; have GW239 := Aside0.mk ((by rw [hg]; exact (below_size (by repeat (first | (with_reducible first | exact HBW.out | apply below_alloc | apply pw_below_drewN | apply below_drew1) | exact HBW.out))) : w.heap.size ≤ gb239)); have GE239 := Aside0.mk ((Nat.le_trans HW0.out (by rw [hg]; exact (below_size (by repeat (first | (with_reducible first | exact HBW.out | apply below_alloc | apply pw_below_drewN | apply below_drew1) | exact HBW.out))) : w.heap.size ≤ gb239) : w0.heap.size ≤ gb239)); replace HBW := Aside0.mk (below_step HBW.out hb); clear hb hbox hg))
    go_ret
    exact ⟨_, rfl, (show IsS114 w0 _ gb239 l0 0 x3_1 from ⟨_, _, S.uB BK239.out, GE239.out, HR0.out⟩), S.bG, by repeat (first | (with_reducible first | exact HBW.out | apply below_alloc | apply pw_below_drewN | apply below_drew1 | refine below_set ?_ GW239.out) | exact HBW.out)⟩

/-! ### spec_l1Byte: function 121 -/
def spec_l1Byte.f (s0_0 : List Int) (s0_1 : Int) (s0_2 : Int) : Option (Int × Int × Int) := if s0_1 < (s0_0.length : Int) then (if 0 ≤ s0_1 then (some (Go.bits .and .i64 (wrap64 ((Go.bits .and .i64 (Go.bits .xor .i64 ((wrap64 ((wrap64 (s0_2 * 6364136223846793005)) + 1442695040888963407)) / 8589934592) ((wrap64 ((wrap64 (s0_2 * 6364136223846793005)) + 1442695040888963407)) / 140737488355328)) 255) + (wrap64 (rd s0_0 s0_1)))) 255, wrap64 (s0_1 + 1), wrap64 ((wrap64 (s0_2 * 6364136223846793005)) + 1442695040888963407))) else (none)) else (some (Go.bits .and .i64 (Go.bits .xor .i64 ((wrap64 ((wrap64 (s0_2 * 6364136223846793005)) + 1442695040888963407)) / 8589934592) ((wrap64 ((wrap64 (s0_2 * 6364136223846793005)) + 1442695040888963407)) / 140737488355328)) 255, s0_1, wrap64 ((wrap64 (s0_2 * 6364136223846793005)) + 1442695040888963407)))
set_option maxHeartbeats 8000000 in
set_option maxRecDepth 100000 in
theorem spec_l1Byte.calls (g : Nat) (s0_0 : List Int) (s0_1 : Int) (s0_2 : Int) (r1 : Int) (r2 : Int) (r3 : Int) (w0 w : World) (hI : IsS114 w0 w g s0_0 s0_1 s0_2) (hB : Below w0.heap.size w0 w) (h : spec_l1Byte.f s0_0 s0_1 s0_2 = some (r1, r2, r3)) :
  Calls Try.prog 121 #[.pointer (some ⟨g, 0, none⟩)] w fun e w' => e = .returned (.int .i64 r1) ∧ IsS114 w0 w' g s0_0 r2 r3 ∧ Below w0.heap.size w0 w' ∧ KeepBut w w' g none := by
 have HI0 := Aside0.mk hI
 have HK := Aside0.mk (KeepBut.refl w g none)
 have HL := Aside0.mk hB.size
 clear hI
 have HW0 := Aside0.mk hB.size
 have HB := Aside0.mk hB
 clear hB
 have H : (if s0_1 < (s0_0.length : Int) then (if 0 ≤ s0_1 then (some (Go.bits .and .i64 (wrap64 ((Go.bits .and .i64 (Go.bits .xor .i64 ((wrap64 ((wrap64 (s0_2 * 6364136223846793005)) + 1442695040888963407)) / 8589934592) ((wrap64 ((wrap64 (s0_2 * 6364136223846793005)) + 1442695040888963407)) / 140737488355328)) 255) + (wrap64 (rd s0_0 s0_1)))) 255, wrap64 (s0_1 + 1), wrap64 ((wrap64 (s0_2 * 6364136223846793005)) + 1442695040888963407))) else (none)) else (some (Go.bits .and .i64 (Go.bits .xor .i64 ((wrap64 ((wrap64 (s0_2 * 6364136223846793005)) + 1442695040888963407)) / 8589934592) ((wrap64 ((wrap64 (s0_2 * 6364136223846793005)) + 1442695040888963407)) / 140737488355328)) 255, s0_1, wrap64 ((wrap64 (s0_2 * 6364136223846793005)) + 1442695040888963407)))) = some (r1, r2, r3) := h
 clear h
 replace H := S.dc H; rcases H with ⟨H, c2b0⟩ | ⟨H, c2b0⟩
 ·by_cases c3 : 0 ≤ s0_1
  ·rw [if_pos c3] at H
   have c3b0 : decide (0 ≤ s0_1) = true := decide_eq_true c3
   clear c3
   simp only [Option.some.injEq, Prod.mk.injEq] at H
   obtain ⟨rfl, rfl, rfl⟩ := H
   obtain ⟨ASz4_0, cSz4_0, HGz4, hgz4, HSz4_0⟩ := HI0.out
   have Z4a := cellS114_0 HGz4
   have Z4b := cellS114_1 HGz4
   have Z4c := cellS114_2 HGz4
   have Y4b := blk_frozen HGz4 1
   have Y4c := blk_frozen HGz4 2
   clear HGz4 hgz4
   have p240 : 0 ≤ (s0_1 : Int) := S.oD
   have q240 : s0_1 < (s0_0.length : Int) := S.oD
   obtain ⟨ad240, e240, hx240_0⟩ := Kd.at_int HSz4_0 s0_1 p240 q240
   cases e240
   have hn240_0 : ad240.block ≠ g := Nat.ne_of_lt (Nat.lt_of_lt_of_le (by have := World.block_lt_of_cell? _ _ hx240_0; first | rwa [add_block] at this | exact this) (IsS114.ge HI0.out))
   replace hx240_0 := pw_cell_below HB.out hx240_0
   replace hx240_0 := (cell_far (p := ⟨g, 2, none⟩) (by first | (rw [add_block]; exact hn240_0) | (show (Addr.add _ _).block ≠ _; rw [add_block]; exact hn240_0) | exact hn240_0) (.int .i64 (wrap64 ((wrap64 (s0_2 * 6364136223846793005)) + 1442695040888963407)))).trans hx240_0
   (try have hy240_0 := fun (n_ : Nat) => (show (((w.drewN n_).setCell ⟨g, 2, none⟩ (.int .i64 (wrap64 ((wrap64 (s0_2 * 6364136223846793005)) + 1442695040888963407))))).cell? _ = some _ from hx240_0))
   clear hn240_0
   replace p240 := eq_true p240
   replace q240 := eq_true q240
   go_enter Try.func121, Try.ntmps121
   go_wp2
   repeat (go_quiet (fail); try go_wp2)
   go_ret
   exact ⟨S.eW, S.iI, S.bI, S.kA⟩
  ·rw [if_neg c3] at H
   exact absurd H (by simp)
 ·simp only [Option.some.injEq, Prod.mk.injEq] at H
  obtain ⟨rfl, rfl, rfl⟩ := H
  obtain ⟨ASz5_0, cSz5_0, HGz5, hgz5, HSz5_0⟩ := HI0.out
  have Z5a := cellS114_0 HGz5
  have Z5b := cellS114_1 HGz5
  have Z5c := cellS114_2 HGz5
  have Y5b := blk_frozen HGz5 1
  have Y5c := blk_frozen HGz5 2
  clear HGz5 hgz5
  go_enter Try.func121, Try.ntmps121
  go_wp2
  repeat (go_quiet (fail); try go_wp2)
  go_ret
  exact ⟨S.eW, S.iI, S.bI, S.kA⟩

/-! ### spec_l1Below: function 90 -/
def spec_l1Below.f (s0_0 : List Int) (s0_1 : Int) (s0_2 : Int) (a1 : Int) : Option (Int × Int × Int) := if a1 ≤ 0 then (some (0, s0_1, s0_2)) else (if a1 ≤ 256 then ((spec_l1Byte.f s0_0 s0_1 s0_2).bind fun bt241 => (if a1 = 0 then (none) else (some (Int.tmod bt241.1 a1, bt241.2.1, bt241.2.2)))) else ((spec_l1Byte.f s0_0 s0_1 s0_2).bind fun bt244 => ((spec_l1Byte.f s0_0 bt244.2.1 bt244.2.2).bind fun bt247 => ((spec_l1Byte.f s0_0 bt247.2.1 bt247.2.2).bind fun bt250 => (if a1 = 0 then (none) else (some (Int.tmod (wrap64 ((wrap64 ((wrap64 (bt244.1 * 65536)) + (wrap64 (bt247.1 * 256)))) + bt250.1)) a1, bt250.2.1, bt250.2.2)))))))
set_option maxHeartbeats 8000000 in
set_option maxRecDepth 100000 in
theorem spec_l1Below.calls (g : Nat) (s0_0 : List Int) (s0_1 : Int) (s0_2 : Int) (a1 : Int) (r1 : Int) (r2 : Int) (r3 : Int) (w0 w : World) (hI : IsS114 w0 w g s0_0 s0_1 s0_2) (hB : Below w0.heap.size w0 w) (h : spec_l1Below.f s0_0 s0_1 s0_2 a1 = some (r1, r2, r3)) :
  Calls Try.prog 90 #[.pointer (some ⟨g, 0, none⟩), .int .i64 a1] w fun e w' => e = .returned (.int .i64 r1) ∧ IsS114 w0 w' g s0_0 r2 r3 ∧ Below w0.heap.size w0 w' ∧ KeepBut w w' g none := by
 have HI0 := Aside0.mk hI
 have HK := Aside0.mk (KeepBut.refl w g none)
 have HL := Aside0.mk hB.size
 clear hI
 have HW0 := Aside0.mk hB.size
 have HB := Aside0.mk hB
 clear hB
 have H : (if a1 ≤ 0 then (some (0, s0_1, s0_2)) else (if a1 ≤ 256 then ((spec_l1Byte.f s0_0 s0_1 s0_2).bind fun bt241 => (if a1 = 0 then (none) else (some (Int.tmod bt241.1 a1, bt241.2.1, bt241.2.2)))) else ((spec_l1Byte.f s0_0 s0_1 s0_2).bind fun bt244 => ((spec_l1Byte.f s0_0 bt244.2.1 bt244.2.2).bind fun bt247 => ((spec_l1Byte.f s0_0 bt247.2.1 bt247.2.2).bind fun bt250 => (if a1 = 0 then (none) else (some (Int.tmod (wrap64 ((wrap64 ((wrap64 (bt244.1 * 65536)) + (wrap64 (bt247.1 * 256)))) + bt250.1)) a1, bt250.2.1, bt250.2.2)))))))) = some (r1, r2, r3) := h
 clear h
 replace H := S.dc H; rcases H with ⟨H, c3b0⟩ | ⟨H, c3b0⟩
 ·simp only [Option.some.injEq, Prod.mk.injEq] at H
  obtain ⟨rfl, rfl, rfl⟩ := H
  go_enter Try.func90, Try.ntmps90
  go_wp2
  go_ret
  exact ⟨S.eW, S.iI, S.bI, S.kA⟩
 ·by_cases c4 : a1 ≤ 256
  ·rw [if_pos c4] at H
   have c4b0 : decide (a1 ≤ 256) = true := decide_eq_true c4
   clear c4
   replace H := S.bd H; obtain ⟨⟨t241, t242, t243⟩, A5, H⟩ := H
   (try dsimp only at H)
   by_cases c6 : a1 = 0
   ·rw [if_pos c6] at H
    exact absurd H (by simp)
   ·rw [if_neg c6] at H
    have c6b0 : (a1 == 0) = false := beq_eq_false_iff_ne.mpr c6
    have c6b1 : (a1 != 0) = true := bne_iff_ne.mpr c6
    simp only [Option.some.injEq, Prod.mk.injEq] at H
    obtain ⟨rfl, rfl, rfl⟩ := H
    go_enter Try.func90, Try.ntmps90
    go_wp2_with (first | ((with_reducible refine gate_callee (f := 121) rfl ?_); refine S.gL (some 13) Try.func121 #[.pointer (some ⟨g, 0, none⟩)] ?_; (with_reducible refine (spec_l1Byte.calls g s0_0 s0_1 s0_2 t241 t242 t243 w0 _ ?s1 ?s2 A5.out).mono ?_); (case s1 => exact S.iI); (case s2 => exact S.bI); rintro e w7 ⟨rfl, hi, hb, hk⟩; refine ⟨_, rfl, ?_⟩; replace HK := Aside0.mk (KeepBut.trans S.kA hk (.inl rfl)); replace HB := Aside0.mk (hb); replace HI0 := Aside0.mk (hi); (try clear hb); (try clear hk); (try clear hi)))
    go_ret
    exact ⟨S.eW, S.iI, S.bI, S.kA⟩
  ·rw [if_neg c4] at H
   have c4b0 : decide (a1 ≤ 256) = false := decide_eq_false c4
   clear c4
   replace H := S.bd H; obtain ⟨⟨t244, t245, t246⟩, A8, H⟩ := H
   (try dsimp only at H)
   replace H := S.bd H; obtain ⟨⟨t247, t248, t249⟩, A9, H⟩ := H
   (try dsimp only at H)
   replace H := S.bd H; obtain ⟨⟨t250, t251, t252⟩, A10, H⟩ := H
   (try dsimp only at H)
   by_cases c11 : a1 = 0
   ·rw [if_pos c11] at H
    exact absurd H (by simp)
   ·rw [if_neg c11] at H
    have c11b0 : (a1 == 0) = false := beq_eq_false_iff_ne.mpr c11
    have c11b1 : (a1 != 0) = true := bne_iff_ne.mpr c11
    simp only [Option.some.injEq, Prod.mk.injEq] at H
    obtain ⟨rfl, rfl, rfl⟩ := H
    go_enter Try.func90, Try.ntmps90
    go_wp2_with (first | ((with_reducible refine gate_callee (f := 121) rfl ?_); refine S.gL (some 17) Try.func121 #[.pointer (some ⟨g, 0, none⟩)] ?_; (with_reducible refine (spec_l1Byte.calls g s0_0 s0_1 s0_2 t244 t245 t246 w0 _ ?s1 ?s2 A8.out).mono ?_); (case s1 => exact S.iI); (case s2 => exact S.bI); rintro e w12 ⟨rfl, hi, hb, hk⟩; refine ⟨_, rfl, ?_⟩; replace HK := Aside0.mk (KeepBut.trans S.kA hk (.inl rfl)); replace HB := Aside0.mk (hb); replace HI0 := Aside0.mk (hi); (try clear hb); (try clear hk); (try clear hi)) | ((with_reducible refine gate_callee (f := 121) rfl ?_); refine S.gL (some 19) Try.func121 #[.pointer (some ⟨g, 0, none⟩)] ?_; (with_reducible refine (spec_l1Byte.calls g s0_0 t245 t246 t247 t248 t249 w0 _ ?s1 ?s2 A9.out).mono ?_); (case s1 => exact S.iI); (case s2 => exact S.bI); rintro e w13 ⟨rfl, hi, hb, hk⟩; refine ⟨_, rfl, ?_⟩; replace HK := Aside0.mk (KeepBut.trans S.kA hk (.inl rfl)); replace HB := Aside0.mk (hb); replace HI0 := Aside0.mk (hi); (try clear hb); (try clear hk); (try clear hi)) | ((with_reducible refine gate_callee (f := 121) rfl ?_); refine S.gL (some 21) Try.func121 #[.pointer (some ⟨g, 0, none⟩)] ?_; (with_reducible refine (spec_l1Byte.calls g s0_0 t248 t249 t250 t251 t252 w0 _ ?s1 ?s2 A10.out).mono ?_); (case s1 => exact S.iI); (case s2 => exact S.bI); rintro e w14 ⟨rfl, hi, hb, hk⟩; refine ⟨_, rfl, ?_⟩; replace HK := Aside0.mk (KeepBut.trans S.kA hk (.inl rfl)); replace HB := Aside0.mk (hb); replace HI0 := Aside0.mk (hi); (try clear hb); (try clear hk); (try clear hi)))
    go_ret
    exact ⟨S.eW, S.iI, S.bI, S.kA⟩

/-! ### spec_l1Int: function 79 -/
def spec_l1Int.f (s0_0 : List Int) (s0_1 : Int) (s0_2 : Int) (l1 : List Int) : Option (Int × Int × Int) := (spec_l1Below.f s0_0 s0_1 s0_2 (l1.length : Int)).bind fun bt253 => (if 0 ≤ bt253.1 then (if bt253.1 < (l1.length : Int) then (some (rd l1 bt253.1, bt253.2.1, bt253.2.2)) else (none)) else (none))
set_option maxHeartbeats 8000000 in
set_option maxRecDepth 100000 in
theorem spec_l1Int.calls (g : Nat) (s0_0 : List Int) (s0_1 : Int) (s0_2 : Int) (A1 : Option Addr) (c1 : Nat) (l1 : List Int) (r1 : Int) (r2 : Int) (r3 : Int) (w0 w : World) (hI : IsS114 w0 w g s0_0 s0_1 s0_2) (hB : Below w0.heap.size w0 w) (hr1 : Kd.C (Kd.int .i64) w A1 l1.length l1) (hc1 : l1.length ≤ c1) (hf1 : ∀ ad, A1 = some ad → 0 < l1.length → ad.block ≠ g) (h : spec_l1Int.f s0_0 s0_1 s0_2 l1 = some (r1, r2, r3)) :
  Calls Try.prog 79 #[.pointer (some ⟨g, 0, none⟩), .slice A1 l1.length c1] w fun e w' => e = .returned (.int .i64 r1) ∧ IsS114 w0 w' g s0_0 r2 r3 ∧ Below w0.heap.size w0 w' ∧ KeepBut w w' g none := by
 have HR1 := Aside0.mk hr1
 have HC1 := Aside0.mk hc1
 clear hr1 hc1
 have HI0 := Aside0.mk hI
 have HK := Aside0.mk (KeepBut.refl w g none)
 have HL := Aside0.mk hB.size
 clear hI
 have HW0 := Aside0.mk hB.size
 have HB := Aside0.mk hB
 clear hB
 have H : ((spec_l1Below.f s0_0 s0_1 s0_2 (l1.length : Int)).bind fun bt253 => (if 0 ≤ bt253.1 then (if bt253.1 < (l1.length : Int) then (some (rd l1 bt253.1, bt253.2.1, bt253.2.2)) else (none)) else (none))) = some (r1, r2, r3) := h
 clear h
 replace H := S.bd H; obtain ⟨⟨t253, t254, t255⟩, A3, H⟩ := H
 (try dsimp only at H)
 by_cases c4 : 0 ≤ t253
 ·rw [if_pos c4] at H
  have c4b0 : decide (0 ≤ t253) = true := decide_eq_true c4
  clear c4
  by_cases c5 : t253 < (l1.length : Int)
  ·rw [if_pos c5] at H
   have c5b0 : decide (t253 < (l1.length : Int)) = true := decide_eq_true c5
   clear c5
   simp only [Option.some.injEq, Prod.mk.injEq] at H
   obtain ⟨rfl, rfl, rfl⟩ := H
   go_enter Try.func79, Try.ntmps79
   go_wp2_with (first | ((with_reducible refine gate_callee (f := 90) rfl ?_); refine S.gL (some 9) Try.func90 #[.pointer (some ⟨g, 0, none⟩), .int .i64 (l1.length : Int)] ?_; (with_reducible refine (spec_l1Below.calls g s0_0 s0_1 s0_2 (l1.length : Int) t253 t254 t255 w0 _ ?s1 ?s2 A3.out).mono ?_); (case s1 => exact S.iI); (case s2 => exact S.bI); rintro e w6 ⟨rfl, hi, hb, hk⟩; refine ⟨_, rfl, ?_⟩; replace HK := Aside0.mk (KeepBut.trans S.kA hk (.inl rfl)); replace HB := Aside0.mk (hb); replace HI0 := Aside0.mk (hi); (try clear hb); (try clear hk); (try clear hi); have p256 : 0 ≤ (t253 : Int) := S.oD; have q256 : t253 < (l1.length : Int) := S.oD; obtain ⟨ad256, e256, hx256_0⟩ := Kd.at_int HR1.out t253 p256 q256; cases e256; replace hx256_0 := keep_cell HK.out hx256_0 (by first | (rw [add_block]; exact hf1 _ rfl (by omega)) | exact hf1 _ rfl (by omega) | exact hf1 ad256 rfl (by omega)); replace p256 := eq_true p256; replace q256 := eq_true q256))
   go_ret
   exact ⟨S.eW, S.iI, S.bI, S.kA⟩
  ·rw [if_neg c5] at H
   exact absurd H (by simp)
 ·rw [if_neg c4] at H
  exact absurd H (by simp)

/-! ### spec_l21Cycle: function 77 -/
def spec_l21Cycle.f (s0_0 : List Int) (s0_1 : Int) (s0_2 : Int) : Option (Int × Int × Int) := (spec_l1Int.f s0_0 s0_1 s0_2 (([1, 2, 7, 20, 33, 40] : List Int))).bind fun bt260 => (some (bt260.1, bt260.2.1, bt260.2.2))
set_option maxHeartbeats 8000000 in
set_option maxRecDepth 100000 in
theorem spec_l21Cycle.calls (g : Nat) (s0_0 : List Int) (s0_1 : Int) (s0_2 : Int) (r1 : Int) (r2 : Int) (r3 : Int) (w0 w : World) (hI : IsS114 w0 w g s0_0 s0_1 s0_2) (hB : Below w0.heap.size w0 w) (h : spec_l21Cycle.f s0_0 s0_1 s0_2 = some (r1, r2, r3)) :
  Calls Try.prog 77 #[.pointer (some ⟨g, 0, none⟩)] w fun e w' => e = .returned (.int .i64 r1) ∧ IsS114 w0 w' g s0_0 r2 r3 ∧ Below w0.heap.size w0 w' ∧ KeepBut w w' g none := by
 have HI0 := Aside0.mk hI
 have HK := Aside0.mk (KeepBut.refl w g none)
 have HL := Aside0.mk hB.size
 clear hI
 have HW0 := Aside0.mk hB.size
 have HB := Aside0.mk hB
 clear hB
 have H : ((spec_l1Int.f s0_0 s0_1 s0_2 (([1, 2, 7, 20, 33, 40] : List Int))).bind fun bt260 => (some (bt260.1, bt260.2.1, bt260.2.2))) = some (r1, r2, r3) := h
 clear h
 obtain ⟨y257, hy257⟩ : ∃ y_ : List Int, y_ = (([1, 2, 7, 20, 33, 40] : List Int)) := ⟨_, rfl⟩
 replace H : ((spec_l1Int.f s0_0 s0_1 s0_2 y257).bind fun bt260 => (some (bt260.1, bt260.2.1, bt260.2.2))) = some (r1, r2, r3) := by first | (rw [hy257]; with_reducible exact H) | (have H2_ := (Option.bind_some _ _).symm.trans H; rw [hy257]; with_reducible exact H2_) | (have H2_ := (Option.bind_some _ _).symm.trans H; with_reducible exact H2_) | with_reducible exact H | (rw [hy257]; exact H) | exact H
 have Ny257 := Aside0.mk hy257
 clear hy257
 replace H := S.bd H; obtain ⟨⟨t260, t261, t262⟩, A2, H⟩ := H
 (try dsimp only at H)
 simp only [Option.some.injEq, Prod.mk.injEq] at H
 obtain ⟨rfl, rfl, rfl⟩ := H
 go_enter Try.func77, Try.ntmps77
 go_wp2_with (first | ((with_reducible refine gate_dst (N := 4) rfl ?_); refine Kd.R_lit (Kd.int .i64) _ 3 ?hg (N := 4) ?hd (xs := ([1, 2, 7, 20, 33, 40] : List Int)) (inner := [.int .i64 1, .int .i64 2, .int .i64 7, .int .i64 20, .int .i64 33, .int .i64 40]) (ok := fun _ => True) (okp := fun _ => True) ?hr ?hp (fun _ hk => hk) trivial (Below.refl _ _) (Nat.le_refl _) (by simp) ?_; (case hd => rfl); (case hg => rfl); (case hr => first | (go_simp; done) | (go_simp; rfl)); (case hp => exact (Reps.one (show Kd.M (Kd.int .i64) _ _ _ 1 [.int .i64 1] from rfl) (Reps.one (show Kd.M (Kd.int .i64) _ _ _ 2 [.int .i64 2] from rfl) (Reps.one (show Kd.M (Kd.int .i64) _ _ _ 7 [.int .i64 7] from rfl) (Reps.one (show Kd.M (Kd.int .i64) _ _ _ 20 [.int .i64 20] from rfl) (Reps.one (show Kd.M (Kd.int .i64) _ _ _ 33 [.int .i64 33] from rfl) (Reps.one (show Kd.M (Kd.int .i64) _ _ _ 40 [.int .i64 40] from rfl) (Reps.none _ _)))))))); intro v258 w3 ho4 hb hg_ hnew_; clear hg_ hnew_; (first | rw [← Ny257.out] at ho4 | (simp only [Int.reduceToNat] at ho4; rw [← Ny257.out] at ho4)); have HO259 := Aside0.mk (Kd.R_lower ho4 (keep_size (w := w) (g := g) (row := none) S.kA)); replace HK := Aside0.mk (KeepBut.trans S.kA (KeepBut.of_below hb g none) (.inl rfl)); replace HB := Aside0.mk (below_step (S.bI) hb); replace HI0 := Aside0.mk (IsS114.below (S.iI) hb); clear hb ho4; obtain ⟨Ao5, co5, eo5⟩ := Kd.R_slice HO259.out; subst eo5) | ((with_reducible refine gate_callee (f := 79) rfl ?_); refine S.gL (some 5) Try.func79 #[.pointer (some ⟨g, 0, none⟩), .slice Ao5 y257.length co5] ?_; (with_reducible refine (spec_l1Int.calls g s0_0 s0_1 s0_2 _ _ y257 t260 t261 t262 w0 _ ?s1 ?s2 ?s3 (S.rl HO259) ?s5 A2.out).mono ?_); (case s1 => exact S.iI); (case s2 => exact S.bI); (case s3 => exact S.rd HO259); (case s5 => exact far_slice (IsS114.own_ne HI0.out HO259.out (by decide))); rintro e w6 ⟨rfl, hi, hb, hk⟩; refine ⟨_, rfl, ?_⟩; replace HO259 := Aside0.mk (Kd.R_mono (Kd.R_keep (IsS114.apart (show IsS114 w0 _ g s0_0 s0_1 s0_2 from S.iI) (S.uR HO259.out) (by decide)) hk (fun _ h => h.2)) (fun _ h => h.1)); replace HK := Aside0.mk (KeepBut.trans S.kA hk (.inl rfl)); replace HB := Aside0.mk (hb); replace HI0 := Aside0.mk (hi); (try clear hb); (try clear hk); (try clear hi)))
 go_ret
 exact ⟨S.eW, S.iI, S.bI, S.kA⟩

/-! ### spec_l21Window: function 78 -/
def spec_l21Window.f (s0_0 : List Int) (s0_1 : Int) (s0_2 : Int) (a1 : Int) : Option (Int × Int × Int × Int) := (spec_l1Below.f s0_0 s0_1 s0_2 a1).bind fun bt264 => ((spec_l1Below.f s0_0 bt264.2.1 bt264.2.2 (wrap64 (a1 + 1))).bind fun bt267 => ((spec_l1Below.f s0_0 bt267.2.1 bt267.2.2 12).bind fun bt271 => (if bt271.1 = 0 then ((spec_l1Int.f s0_0 bt271.2.1 bt271.2.2 (([(-1), wrap64 (a1 - 1), a1] : List Int))).bind fun bt277 => (some (bt277.1, bt267.1, bt277.2.1, bt277.2.2))) else (if bt271.1 = 1 then ((spec_l1Int.f s0_0 bt271.2.1 bt271.2.2 (([(-1), a1, wrap64 (a1 + 1)] : List Int))).bind fun bt283 => (some (bt264.1, bt283.1, bt283.2.1, bt283.2.2))) else (some (bt264.1, bt267.1, bt271.2.1, bt271.2.2))))))
set_option maxHeartbeats 8000000 in
set_option maxRecDepth 100000 in
theorem spec_l21Window.calls (g : Nat) (s0_0 : List Int) (s0_1 : Int) (s0_2 : Int) (a1 : Int) (r1 : Int) (r2 : Int) (r3 : Int) (r4 : Int) (w0 w : World) (hI : IsS114 w0 w g s0_0 s0_1 s0_2) (hB : Below w0.heap.size w0 w) (h : spec_l21Window.f s0_0 s0_1 s0_2 a1 = some (r1, r2, r3, r4)) :
  Calls Try.prog 78 #[.pointer (some ⟨g, 0, none⟩), .int .i64 a1] w fun e w' => e = .returned (.agg #[.int .i64 r1, .int .i64 r2]) ∧ IsS114 w0 w' g s0_0 r3 r4 ∧ Below w0.heap.size w0 w' ∧ KeepBut w w' g none := by
 have hu45 := Try.underlying45
 have HI0 := Aside0.mk hI
 have HK := Aside0.mk (KeepBut.refl w g none)
 have HL := Aside0.mk hB.size
 clear hI
 have HW0 := Aside0.mk hB.size
 have HB := Aside0.mk hB
 clear hB
 have H : ((spec_l1Below.f s0_0 s0_1 s0_2 a1).bind fun bt264 => ((spec_l1Below.f s0_0 bt264.2.1 bt264.2.2 (wrap64 (a1 + 1))).bind fun bt267 => ((spec_l1Below.f s0_0 bt267.2.1 bt267.2.2 12).bind fun bt271 => (if bt271.1 = 0 then ((spec_l1Int.f s0_0 bt271.2.1 bt271.2.2 (([(-1), wrap64 (a1 - 1), a1] : List Int))).bind fun bt277 => (some (bt277.1, bt267.1, bt277.2.1, bt277.2.2))) else (if bt271.1 = 1 then ((spec_l1Int.f s0_0 bt271.2.1 bt271.2.2 (([(-1), a1, wrap64 (a1 + 1)] : List Int))).bind fun bt283 => (some (bt264.1, bt283.1, bt283.2.1, bt283.2.2))) else (some (bt264.1, bt267.1, bt271.2.1, bt271.2.2))))))) = some (r1, r2, r3, r4) := h
 clear h
 replace H := S.bd H; obtain ⟨⟨t264, t265, t266⟩, A3, H⟩ := H
 (try dsimp only at H)
 replace H := S.bd H; obtain ⟨⟨t267, t268, t269⟩, A4, H⟩ := H
 (try dsimp only at H)
 replace H := S.bd H; obtain ⟨⟨t271, t272, t273⟩, A5, H⟩ := H
 (try dsimp only at H)
 by_cases c6 : t271 = 0
 ·rw [if_pos c6] at H
  have c6b0 : (t271 == 0) = true := beq_iff_eq.mpr c6
  have c6b1 : (t271 != 0) = false := bne_eq_false_iff_eq.mpr c6
  clear c6
  obtain ⟨y274, hy274⟩ : ∃ y_ : List Int, y_ = (([(-1), wrap64 (a1 - 1), a1] : List Int)) := ⟨_, rfl⟩
  replace H : ((spec_l1Int.f s0_0 t272 t273 y274).bind fun bt277 => (some (bt277.1, t267, bt277.2.1, bt277.2.2))) = some (r1, r2, r3, r4) := by first | (rw [hy274]; with_reducible exact H) | (have H2_ := (Option.bind_some _ _).symm.trans H; rw [hy274]; with_reducible exact H2_) | (have H2_ := (Option.bind_some _ _).symm.trans H; with_reducible exact H2_) | with_reducible exact H | (rw [hy274]; exact H) | exact H
  have Ny274 := Aside0.mk hy274
  clear hy274
  replace H := S.bd H; obtain ⟨⟨t277, t278, t279⟩, A7, H⟩ := H
  (try dsimp only at H)
  simp only [Option.some.injEq, Prod.mk.injEq] at H
  obtain ⟨rfl, rfl, rfl, rfl⟩ := H
  go_enter Try.func78, Try.ntmps78
  go_wp2_with (first | ((with_reducible refine gate_dst (N := 4) rfl ?_); refine S.bx 4 (cs := #[.int .i64 0, .int .i64 0]) (t := 45) ?_; intro gb263 hg w8 hbox hb; replace HB := Aside0.mk (below_step (S.bI) hb); have BK263 := Aside0.mk hbox; have GW263 := Aside0.mk ((by rw [hg]; exact (keep_size (w := w) (g := g) (row := none) S.kA) : w.heap.size ≤ gb263)); have GE263 := Aside0.mk ((Nat.le_trans HW0.out (by rw [hg]; exact (keep_size (w := w) (g := g) (row := none) S.kA) : w.heap.size ≤ gb263) : w0.heap.size ≤ gb263)); replace HK := Aside0.mk (KeepBut.trans S.kA (KeepBut.of_below hb g none) (.inl rfl)); have NB0_263 := Aside0.mk ((by rw [hg]; exact Nat.ne_of_lt (IsS114.lt (show IsS114 w0 _ g s0_0 s0_1 s0_2 from S.iI)) : g ≠ gb263)); have NB263_0 := Aside0.mk ((by rw [hg]; exact Nat.ne_of_gt (IsS114.lt (show IsS114 w0 _ g s0_0 s0_1 s0_2 from S.iI)) : gb263 ≠ g)); replace HI0 := Aside0.mk (IsS114.below (S.iI) hb); clear hb hbox hg) | ((with_reducible refine gate_callee (f := 90) rfl ?_); refine S.gL (some 8) Try.func90 #[.pointer (some ⟨g, 0, none⟩), .int .i64 a1] ?_; (with_reducible refine (spec_l1Below.calls g s0_0 s0_1 s0_2 a1 t264 t265 t266 w0 _ ?s1 ?s2 A3.out).mono ?_); (case s1 => exact S.iI); (case s2 => exact S.bI); rintro e w9 ⟨rfl, hi, hb, hk⟩; refine ⟨_, rfl, ?_⟩; replace BK263 := Aside0.mk (KeepBut.blk hk (g' := gb263) (o := .cells #[.int .i64 0, .int .i64 0] 45 (0, 0)) (S.uB BK263.out) NB263_0.out (by simp)); replace HK := Aside0.mk (KeepBut.trans (by repeat (first | (with_reducible first | exact HK.out | apply KeepBut.set_ | apply keep_drewN | apply keep_drew | apply keep_alloc | refine keep_far ?_ GW263.out _) | exact HK.out)) hk (.inl rfl)); replace HB := Aside0.mk (hb); replace HI0 := Aside0.mk (hi); (try clear hb); (try clear hk); (try clear hi)) | ((with_reducible refine gate_callee (f := 90) rfl ?_); refine S.gL (some 12) Try.func90 #[.pointer (some ⟨g, 0, none⟩), .int .i64 (wrap64 (a1 + 1))] ?_; (with_reducible refine (spec_l1Below.calls g s0_0 t265 t266 (wrap64 (a1 + 1)) t267 t268 t269 w0 _ ?s1 ?s2 A4.out).mono ?_); (case s1 => exact S.iI); (case s2 => exact S.bI); rintro e w10 ⟨rfl, hi, hb, hk⟩; refine ⟨_, rfl, ?_⟩; replace BK263 := Aside0.mk (KeepBut.blk hk (g' := gb263) (o := .cells #[.int .i64 0, .int .i64 0] 45 (0, 0)) (S.uB BK263.out) NB263_0.out (by simp)); replace HK := Aside0.mk (KeepBut.trans (by repeat (first | (with_reducible first | exact HK.out | apply KeepBut.set_ | apply keep_drewN | apply keep_drew | apply keep_alloc | refine keep_far ?_ GW263.out _) | exact HK.out)) hk (.inl rfl)); replace HB := Aside0.mk (hb); replace HI0 := Aside0.mk (hi); (try clear hb); (try clear hk); (try clear hi)) | ((with_reducible refine gate_dst (N := 5) rfl ?_); refine S.bx 5 (cs := #[.int .i64 0, .int .i64 0]) (t := 45) ?_; intro gb270 hg w11 hbox hb; replace HB := Aside0.mk (below_step (S.bI) hb); have BK270 := Aside0.mk hbox; have GW270 := Aside0.mk ((by rw [hg]; exact (keep_size (w := w) (g := g) (row := none) (by repeat (first | (with_reducible first | exact HK.out | apply KeepBut.set_ | apply keep_drewN | apply keep_drew | apply keep_alloc | refine keep_far ?_ GW263.out _) | exact HK.out))) : w.heap.size ≤ gb270)); have GE270 := Aside0.mk ((Nat.le_trans HW0.out (by rw [hg]; exact (keep_size (w := w) (g := g) (row := none) (by repeat (first | (with_reducible first | exact HK.out | apply KeepBut.set_ | apply keep_drewN | apply keep_drew | apply keep_alloc | refine keep_far ?_ GW263.out _) | exact HK.out))) : w.heap.size ≤ gb270) : w0.heap.size ≤ gb270)); replace HK := Aside0.mk (KeepBut.trans (by repeat (first | (with_reducible first | exact HK.out | apply KeepBut.set_ | apply keep_drewN | apply keep_drew | apply keep_alloc | refine keep_far ?_ GW263.out _) | exact HK.out)) (KeepBut.of_below hb g none) (.inl rfl)); have NB263_270 := S.nl hg BK263; have NB270_263 := S.ng hg BK263; replace BK263 := S.kb BK263 hb; have NB0_270 := Aside0.mk ((by rw [hg]; exact Nat.ne_of_lt (IsS114.lt (show IsS114 w0 _ g s0_0 t268 t269 from S.iI)) : g ≠ gb270)); have NB270_0 := Aside0.mk ((by rw [hg]; exact Nat.ne_of_gt (IsS114.lt (show IsS114 w0 _ g s0_0 t268 t269 from S.iI)) : gb270 ≠ g)); replace HI0 := Aside0.mk (IsS114.below (S.iI) hb); clear hb hbox hg; have hnb12 := NB270_263.out; have hnc12 := NB263_270.out; have hnb13 := NB270_0.out; have hnc13 := NB0_270.out; obtain ⟨Z14a, Z14b, Y14a, Y14b⟩ := S.c2 BK270.out) | ((with_reducible refine gate_callee (f := 90) rfl ?_); refine S.gL (some 15) Try.func90 #[.pointer (some ⟨g, 0, none⟩), .int .i64 12] ?_; (with_reducible refine (spec_l1Below.calls g s0_0 t268 t269 12 t271 t272 t273 w0 _ ?s1 ?s2 A5.out).mono ?_); (case s1 => exact S.iI); (case s2 => exact S.bI); rintro e w15 ⟨rfl, hi, hb, hk⟩; refine ⟨_, rfl, ?_⟩; replace BK263 := Aside0.mk (KeepBut.blk hk (g' := gb263) (o := .cells #[.int .i64 0, .int .i64 0] 45 (0, 0)) (by (with_reducible repeat (first | refine blk_drewN ?_ _ | refine blk_drew ?_ | refine blk_alloc ?_ _)); refine blk_far ?_ NB263_270.out _; (with_reducible repeat (first | refine blk_drewN ?_ _ | refine blk_drew ?_ | refine blk_alloc ?_ _)); refine blk_far ?_ NB263_270.out _; (with_reducible repeat (first | refine blk_drewN ?_ _ | refine blk_drew ?_ | refine blk_alloc ?_ _)); exact BK263.out) NB263_0.out (by simp)); replace BK270 := Aside0.mk (KeepBut.blk hk (g' := gb270) (o := .cells #[.int .i64 t264, .int .i64 t267] 45 (0, 0)) (by (with_reducible repeat (first | refine blk_drewN ?_ _ | refine blk_drew ?_ | refine blk_alloc ?_ _)); refine blk_put (cs := #[.int .i64 t264, .int .i64 0]) ?_ 1 _ rfl; (with_reducible repeat (first | refine blk_drewN ?_ _ | refine blk_drew ?_ | refine blk_alloc ?_ _)); refine blk_put (cs := #[.int .i64 0, .int .i64 0]) ?_ 0 _ rfl; (with_reducible repeat (first | refine blk_drewN ?_ _ | refine blk_drew ?_ | refine blk_alloc ?_ _)); exact BK270.out) NB270_0.out (by simp)); replace HK := Aside0.mk (KeepBut.trans (by repeat (first | (with_reducible first | exact HK.out | apply KeepBut.set_ | apply keep_drewN | apply keep_drew | apply keep_alloc | refine keep_far ?_ GW263.out _ | refine keep_far ?_ GW270.out _) | exact HK.out)) hk (.inl rfl)); replace HB := Aside0.mk (hb); replace HI0 := Aside0.mk (hi); (try clear hb); (try clear hk); (try clear hi)) | ((with_reducible refine gate_dst (N := 22) rfl ?_); refine Kd.R_lit (Kd.int .i64) _ 3 ?hg (N := 22) ?hd (xs := ([(-1), wrap64 (a1 - 1), a1] : List Int)) (inner := [.int .i64 (-1), .int .i64 (wrap64 (a1 - 1)), .int .i64 a1]) (ok := fun _ => True) (okp := fun _ => True) ?hr ?hp (fun _ hk => hk) trivial (Below.refl _ _) (Nat.le_refl _) (by simp) ?_; (case hd => rfl); (case hg => rfl); (case hr => first | (go_simp; done) | (go_simp; rfl)); (case hp => exact (Reps.one (show Kd.M (Kd.int .i64) _ _ _ (-1) [.int .i64 (-1)] from rfl) (Reps.one (show Kd.M (Kd.int .i64) _ _ _ (wrap64 (a1 - 1)) [.int .i64 (wrap64 (a1 - 1))] from rfl) (Reps.one (show Kd.M (Kd.int .i64) _ _ _ a1 [.int .i64 a1] from rfl) (Reps.none _ _))))); intro v275 w16 ho17 hb hg_ hnew_; clear hg_ hnew_; (first | rw [← Ny274.out] at ho17 | (simp only [Int.reduceToNat] at ho17; rw [← Ny274.out] at ho17)); have HO276 := Aside0.mk (Kd.R_lower ho17 (keep_size (w := w) (g := g) (row := none) (by repeat (first | (with_reducible first | exact HK.out | apply KeepBut.set_ | apply keep_drewN | apply keep_drew | apply keep_alloc | refine keep_far ?_ GW263.out _ | refine keep_far ?_ GW270.out _) | exact HK.out)))); replace BK263 := S.kb BK263 hb; replace BK270 := S.kb BK270 hb; replace HK := Aside0.mk (KeepBut.trans (by repeat (first | (with_reducible first | exact HK.out | apply KeepBut.set_ | apply keep_drewN | apply keep_drew | apply keep_alloc | refine keep_far ?_ GW263.out _ | refine keep_far ?_ GW270.out _) | exact HK.out)) (KeepBut.of_below hb g none) (.inl rfl)); replace HB := Aside0.mk (below_step (S.bI) hb); replace HI0 := Aside0.mk (IsS114.below (S.iI) hb); clear hb ho17; obtain ⟨Ao18, co18, eo18⟩ := Kd.R_slice HO276.out; subst eo18) | ((with_reducible refine gate_callee (f := 79) rfl ?_); refine S.gL (some 23) Try.func79 #[.pointer (some ⟨g, 0, none⟩), .slice Ao18 y274.length co18] ?_; (with_reducible refine (spec_l1Int.calls g s0_0 t272 t273 _ _ y274 t277 t278 t279 w0 _ ?s1 ?s2 ?s3 (S.rl HO276) ?s5 A7.out).mono ?_); (case s1 => exact S.iI); (case s2 => exact S.bI); (case s3 => exact S.rd HO276); (case s5 => exact far_slice (IsS114.own_ne HI0.out HO276.out (by decide))); rintro e w19 ⟨rfl, hi, hb, hk⟩; refine ⟨_, rfl, ?_⟩; replace BK263 := Aside0.mk (KeepBut.blk hk (g' := gb263) (o := .cells #[.int .i64 0, .int .i64 0] 45 (0, 0)) (S.uB BK263.out) NB263_0.out (by simp)); replace BK270 := Aside0.mk (KeepBut.blk hk (g' := gb270) (o := .cells #[.int .i64 t264, .int .i64 t267] 45 (0, 0)) (S.uB BK270.out) NB270_0.out (by simp)); replace HO276 := Aside0.mk (Kd.R_mono (Kd.R_keep (IsS114.apart (show IsS114 w0 _ g s0_0 t272 t273 from S.iI) (S.uR HO276.out) (by decide)) hk (fun _ h => h.2)) (fun _ h => h.1)); replace HK := Aside0.mk (KeepBut.trans (by repeat (first | (with_reducible first | exact HK.out | apply KeepBut.set_ | apply keep_drewN | apply keep_drew | apply keep_alloc | refine keep_far ?_ GW263.out _ | refine keep_far ?_ GW270.out _) | exact HK.out)) hk (.inl rfl)); replace HB := Aside0.mk (hb); replace HI0 := Aside0.mk (hi); (try clear hb); (try clear hk); (try clear hi); obtain ⟨Z20a, Z20b, Y20a, Y20b⟩ := S.c2 BK270.out; have hnb21 := NB263_0.out; have hnc21 := NB0_263.out; obtain ⟨Z22a, Z22b, Y22a, Y22b⟩ := S.c2 BK263.out))
  refine bodyPost_ret (results_cell_row rfl _ _ gb263 45 #[.int .i64 t277, .int .i64 t267] (0, 0) _ rfl (by (with_reducible repeat (first | refine blk_drewN ?_ _ | refine blk_drew ?_ | refine blk_alloc ?_ _)); refine blk_put (cs := #[.int .i64 t277, .int .i64 0]) ?_ 1 _ rfl; (with_reducible repeat (first | refine blk_drewN ?_ _ | refine blk_drew ?_ | refine blk_alloc ?_ _)); refine blk_put (cs := #[.int .i64 0, .int .i64 0]) ?_ 0 _ rfl; (with_reducible repeat (first | refine blk_drewN ?_ _ | refine blk_drew ?_ | refine blk_alloc ?_ _)); refine blk_far ?_ NB263_270.out _; (with_reducible repeat (first | refine blk_drewN ?_ _ | refine blk_drew ?_ | refine blk_alloc ?_ _)); exact BK263.out) Try.underlying45 rfl (by kernel_rfl)) rfl ?_
  exact ⟨S.eW, S.iI, S.bI, by repeat (first | (with_reducible first | exact HK.out | apply KeepBut.set_ | apply keep_drewN | apply keep_drew | apply keep_alloc | refine keep_far ?_ GW263.out _ | refine keep_far ?_ GW270.out _) | exact HK.out)⟩
 ·rw [if_neg c6] at H
  have c6b0 : (t271 == 0) = false := beq_eq_false_iff_ne.mpr c6
  have c6b1 : (t271 != 0) = true := bne_iff_ne.mpr c6
  by_cases c23 : t271 = 1
  ·rw [if_pos c23] at H
   have c23b0 : (t271 == 1) = true := beq_iff_eq.mpr c23
   have c23b1 : (t271 != 1) = false := bne_eq_false_iff_eq.mpr c23
   clear c23
   obtain ⟨y280, hy280⟩ : ∃ y_ : List Int, y_ = (([(-1), a1, wrap64 (a1 + 1)] : List Int)) := ⟨_, rfl⟩
   replace H : ((spec_l1Int.f s0_0 t272 t273 y280).bind fun bt283 => (some (t264, bt283.1, bt283.2.1, bt283.2.2))) = some (r1, r2, r3, r4) := by first | (rw [hy280]; with_reducible exact H) | (have H2_ := (Option.bind_some _ _).symm.trans H; rw [hy280]; with_reducible exact H2_) | (have H2_ := (Option.bind_some _ _).symm.trans H; with_reducible exact H2_) | with_reducible exact H | (rw [hy280]; exact H) | exact H
   have Ny280 := Aside0.mk hy280
   clear hy280
   replace H := S.bd H; obtain ⟨⟨t283, t284, t285⟩, A24, H⟩ := H
   (try dsimp only at H)
   simp only [Option.some.injEq, Prod.mk.injEq] at H
   obtain ⟨rfl, rfl, rfl, rfl⟩ := H
   go_enter Try.func78, Try.ntmps78
   go_wp2_with (first | ((with_reducible refine gate_dst (N := 4) rfl ?_); refine S.bx 4 (cs := #[.int .i64 0, .int .i64 0]) (t := 45) ?_; intro gb263 hg w25 hbox hb; replace HB := Aside0.mk (below_step (S.bI) hb); have BK263 := Aside0.mk hbox; have GW263 := Aside0.mk ((by rw [hg]; exact (keep_size (w := w) (g := g) (row := none) S.kA) : w.heap.size ≤ gb263)); have GE263 := Aside0.mk ((Nat.le_trans HW0.out (by rw [hg]; exact (keep_size (w := w) (g := g) (row := none) S.kA) : w.heap.size ≤ gb263) : w0.heap.size ≤ gb263)); replace HK := Aside0.mk (KeepBut.trans S.kA (KeepBut.of_below hb g none) (.inl rfl)); have NB0_263 := Aside0.mk ((by rw [hg]; exact Nat.ne_of_lt (IsS114.lt (show IsS114 w0 _ g s0_0 s0_1 s0_2 from S.iI)) : g ≠ gb263)); have NB263_0 := Aside0.mk ((by rw [hg]; exact Nat.ne_of_gt (IsS114.lt (show IsS114 w0 _ g s0_0 s0_1 s0_2 from S.iI)) : gb263 ≠ g)); replace HI0 := Aside0.mk (IsS114.below (S.iI) hb); clear hb hbox hg) | ((with_reducible refine gate_callee (f := 90) rfl ?_); refine S.gL (some 8) Try.func90 #[.pointer (some ⟨g, 0, none⟩), .int .i64 a1] ?_; (with_reducible refine (spec_l1Below.calls g s0_0 s0_1 s0_2 a1 t264 t265 t266 w0 _ ?s1 ?s2 A3.out).mono ?_); (case s1 => exact S.iI); (case s2 => exact S.bI); rintro e w26 ⟨rfl, hi, hb, hk⟩; refine ⟨_, rfl, ?_⟩; replace BK263 := Aside0.mk (KeepBut.blk hk (g' := gb263) (o := .cells #[.int .i64 0, .int .i64 0] 45 (0, 0)) (S.uB BK263.out) NB263_0.out (by simp)); replace HK := Aside0.mk (KeepBut.trans (by repeat (first | (with_reducible first | exact HK.out | apply KeepBut.set_ | apply keep_drewN | apply keep_drew | apply keep_alloc | refine keep_far ?_ GW263.out _) | exact HK.out)) hk (.inl rfl)); replace HB := Aside0.mk (hb); replace HI0 := Aside0.mk (hi); (try clear hb); (try clear hk); (try clear hi)) | ((with_reducible refine gate_callee (f := 90) rfl ?_); refine S.gL (some 12) Try.func90 #[.pointer (some ⟨g, 0, none⟩), .int .i64 (wrap64 (a1 + 1))] ?_; (with_reducible refine (spec_l1Below.calls g s0_0 t265 t266 (wrap64 (a1 + 1)) t267 t268 t269 w0 _ ?s1 ?s2 A4.out).mono ?_); (case s1 => exact S.iI); (case s2 => exact S.bI); rintro e w27 ⟨rfl, hi, hb, hk⟩; refine ⟨_, rfl, ?_⟩; replace BK263 := Aside0.mk (KeepBut.blk hk (g' := gb263) (o := .cells #[.int .i64 0, .int .i64 0] 45 (0, 0)) (S.uB BK263.out) NB263_0.out (by simp)); replace HK := Aside0.mk (KeepBut.trans (by repeat (first | (with_reducible first | exact HK.out | apply KeepBut.set_ | apply keep_drewN | apply keep_drew | apply keep_alloc | refine keep_far ?_ GW263.out _) | exact HK.out)) hk (.inl rfl)); replace HB := Aside0.mk (hb); replace HI0 := Aside0.mk (hi); (try clear hb); (try clear hk); (try clear hi)) | ((with_reducible refine gate_dst (N := 5) rfl ?_); refine S.bx 5 (cs := #[.int .i64 0, .int .i64 0]) (t := 45) ?_; intro gb270 hg w28 hbox hb; replace HB := Aside0.mk (below_step (S.bI) hb); have BK270 := Aside0.mk hbox; have GW270 := Aside0.mk ((by rw [hg]; exact (keep_size (w := w) (g := g) (row := none) (by repeat (first | (with_reducible first | exact HK.out | apply KeepBut.set_ | apply keep_drewN | apply keep_drew | apply keep_alloc | refine keep_far ?_ GW263.out _) | exact HK.out))) : w.heap.size ≤ gb270)); have GE270 := Aside0.mk ((Nat.le_trans HW0.out (by rw [hg]; exact (keep_size (w := w) (g := g) (row := none) (by repeat (first | (with_reducible first | exact HK.out | apply KeepBut.set_ | apply keep_drewN | apply keep_drew | apply keep_alloc | refine keep_far ?_ GW263.out _) | exact HK.out))) : w.heap.size ≤ gb270) : w0.heap.size ≤ gb270)); replace HK := Aside0.mk (KeepBut.trans (by repeat (first | (with_reducible first | exact HK.out | apply KeepBut.set_ | apply keep_drewN | apply keep_drew | apply keep_alloc | refine keep_far ?_ GW263.out _) | exact HK.out)) (KeepBut.of_below hb g none) (.inl rfl)); have NB263_270 := S.nl hg BK263; have NB270_263 := S.ng hg BK263; replace BK263 := S.kb BK263 hb; have NB0_270 := Aside0.mk ((by rw [hg]; exact Nat.ne_of_lt (IsS114.lt (show IsS114 w0 _ g s0_0 t268 t269 from S.iI)) : g ≠ gb270)); have NB270_0 := Aside0.mk ((by rw [hg]; exact Nat.ne_of_gt (IsS114.lt (show IsS114 w0 _ g s0_0 t268 t269 from S.iI)) : gb270 ≠ g)); replace HI0 := Aside0.mk (IsS114.below (S.iI) hb); clear hb hbox hg; have hnb29 := NB270_263.out; have hnc29 := NB263_270.out; have hnb30 := NB270_0.out; have hnc30 := NB0_270.out; obtain ⟨Z31a, Z31b, Y31a, Y31b⟩ := S.c2 BK270.out) | ((with_reducible refine gate_callee (f := 90) rfl ?_); refine S.gL (some 15) Try.func90 #[.pointer (some ⟨g, 0, none⟩), .int .i64 12] ?_; (with_reducible refine (spec_l1Below.calls g s0_0 t268 t269 12 t271 t272 t273 w0 _ ?s1 ?s2 A5.out).mono ?_); (case s1 => exact S.iI); (case s2 => exact S.bI); rintro e w32 ⟨rfl, hi, hb, hk⟩; refine ⟨_, rfl, ?_⟩; replace BK263 := Aside0.mk (KeepBut.blk hk (g' := gb263) (o := .cells #[.int .i64 0, .int .i64 0] 45 (0, 0)) (by (with_reducible repeat (first | refine blk_drewN ?_ _ | refine blk_drew ?_ | refine blk_alloc ?_ _)); refine blk_far ?_ NB263_270.out _; (with_reducible repeat (first | refine blk_drewN ?_ _ | refine blk_drew ?_ | refine blk_alloc ?_ _)); refine blk_far ?_ NB263_270.out _; (with_reducible repeat (first | refine blk_drewN ?_ _ | refine blk_drew ?_ | refine blk_alloc ?_ _)); exact BK263.out) NB263_0.out (by simp)); replace BK270 := Aside0.mk (KeepBut.blk hk (g' := gb270) (o := .cells #[.int .i64 t264, .int .i64 t267] 45 (0, 0)) (by (with_reducible repeat (first | refine blk_drewN ?_ _ | refine blk_drew ?_ | refine blk_alloc ?_ _)); refine blk_put (cs := #[.int .i64 t264, .int .i64 0]) ?_ 1 _ rfl; (with_reducible repeat (first | refine blk_drewN ?_ _ | refine blk_drew ?_ | refine blk_alloc ?_ _)); refine blk_put (cs := #[.int .i64 0, .int .i64 0]) ?_ 0 _ rfl; (with_reducible repeat (first | refine blk_drewN ?_ _ | refine blk_drew ?_ | refine blk_alloc ?_ _)); exact BK270.out) NB270_0.out (by simp)); replace HK := Aside0.mk (KeepBut.trans (by repeat (first | (with_reducible first | exact HK.out | apply KeepBut.set_ | apply keep_drewN | apply keep_drew | apply keep_alloc | refine keep_far ?_ GW263.out _ | refine keep_far ?_ GW270.out _) | exact HK.out)) hk (.inl rfl)); replace HB := Aside0.mk (hb); replace HI0 := Aside0.mk (hi); (try clear hb); (try clear hk); (try clear hi)) | ((with_reducible refine gate_dst (N := 31) rfl ?_); refine Kd.R_lit (Kd.int .i64) _ 3 ?hg (N := 31) ?hd (xs := ([(-1), a1, wrap64 (a1 + 1)] : List Int)) (inner := [.int .i64 (-1), .int .i64 a1, .int .i64 (wrap64 (a1 + 1))]) (ok := fun _ => True) (okp := fun _ => True) ?hr ?hp (fun _ hk => hk) trivial (Below.refl _ _) (Nat.le_refl _) (by simp) ?_; (case hd => rfl); (case hg => rfl); (case hr => first | (go_simp; done) | (go_simp; rfl)); (case hp => exact (Reps.one (show Kd.M (Kd.int .i64) _ _ _ (-1) [.int .i64 (-1)] from rfl) (Reps.one (show Kd.M (Kd.int .i64) _ _ _ a1 [.int .i64 a1] from rfl) (Reps.one (show Kd.M (Kd.int .i64) _ _ _ (wrap64 (a1 + 1)) [.int .i64 (wrap64 (a1 + 1))] from rfl) (Reps.none _ _))))); intro v281 w33 ho34 hb hg_ hnew_; clear hg_ hnew_; (first | rw [← Ny280.out] at ho34 | (simp only [Int.reduceToNat] at ho34; rw [← Ny280.out] at ho34)); have HO282 := Aside0.mk (Kd.R_lower ho34 (keep_size (w := w) (g := g) (row := none) (by repeat (first | (with_reducible first | exact HK.out | apply KeepBut.set_ | apply keep_drewN | apply keep_drew | apply keep_alloc | refine keep_far ?_ GW263.out _ | refine keep_far ?_ GW270.out _) | exact HK.out)))); replace BK263 := S.kb BK263 hb; replace BK270 := S.kb BK270 hb; replace HK := Aside0.mk (KeepBut.trans (by repeat (first | (with_reducible first | exact HK.out | apply KeepBut.set_ | apply keep_drewN | apply keep_drew | apply keep_alloc | refine keep_far ?_ GW263.out _ | refine keep_far ?_ GW270.out _) | exact HK.out)) (KeepBut.of_below hb g none) (.inl rfl)); replace HB := Aside0.mk (below_step (S.bI) hb); replace HI0 := Aside0.mk (IsS114.below (S.iI) hb); clear hb ho34; obtain ⟨Ao35, co35, eo35⟩ := Kd.R_slice HO282.out; subst eo35) | ((with_reducible refine gate_callee (f := 79) rfl ?_); refine S.gL (some 32) Try.func79 #[.pointer (some ⟨g, 0, none⟩), .slice Ao35 y280.length co35] ?_; (with_reducible refine (spec_l1Int.calls g s0_0 t272 t273 _ _ y280 t283 t284 t285 w0 _ ?s1 ?s2 ?s3 (S.rl HO282) ?s5 A24.out).mono ?_); (case s1 => exact S.iI); (case s2 => exact S.bI); (case s3 => exact S.rd HO282); (case s5 => exact far_slice (IsS114.own_ne HI0.out HO282.out (by decide))); rintro e w36 ⟨rfl, hi, hb, hk⟩; refine ⟨_, rfl, ?_⟩; replace BK263 := Aside0.mk (KeepBut.blk hk (g' := gb263) (o := .cells #[.int .i64 0, .int .i64 0] 45 (0, 0)) (S.uB BK263.out) NB263_0.out (by simp)); replace BK270 := Aside0.mk (KeepBut.blk hk (g' := gb270) (o := .cells #[.int .i64 t264, .int .i64 t267] 45 (0, 0)) (S.uB BK270.out) NB270_0.out (by simp)); replace HO282 := Aside0.mk (Kd.R_mono (Kd.R_keep (IsS114.apart (show IsS114 w0 _ g s0_0 t272 t273 from S.iI) (S.uR HO282.out) (by decide)) hk (fun _ h => h.2)) (fun _ h => h.1)); replace HK := Aside0.mk (KeepBut.trans (by repeat (first | (with_reducible first | exact HK.out | apply KeepBut.set_ | apply keep_drewN | apply keep_drew | apply keep_alloc | refine keep_far ?_ GW263.out _ | refine keep_far ?_ GW270.out _) | exact HK.out)) hk (.inl rfl)); replace HB := Aside0.mk (hb); replace HI0 := Aside0.mk (hi); (try clear hb); (try clear hk); (try clear hi); obtain ⟨Z37a, Z37b, Y37a, Y37b⟩ := S.c2 BK270.out; have hnb38 := NB263_0.out; have hnc38 := NB0_263.out; obtain ⟨Z39a, Z39b, Y39a, Y39b⟩ := S.c2 BK263.out))
   refine bodyPost_ret (results_cell_row rfl _ _ gb263 45 #[.int .i64 t264, .int .i64 t283] (0, 0) _ rfl (by (with_reducible repeat (first | refine blk_drewN ?_ _ | refine blk_drew ?_ | refine blk_alloc ?_ _)); refine blk_put (cs := #[.int .i64 t264, .int .i64 0]) ?_ 1 _ rfl; (with_reducible repeat (first | refine blk_drewN ?_ _ | refine blk_drew ?_ | refine blk_alloc ?_ _)); refine blk_put (cs := #[.int .i64 0, .int .i64 0]) ?_ 0 _ rfl; (with_reducible repeat (first | refine blk_drewN ?_ _ | refine blk_drew ?_ | refine blk_alloc ?_ _)); refine blk_far ?_ NB263_270.out _; (with_reducible repeat (first | refine blk_drewN ?_ _ | refine blk_drew ?_ | refine blk_alloc ?_ _)); exact BK263.out) Try.underlying45 rfl (by kernel_rfl)) rfl ?_
   exact ⟨S.eW, S.iI, S.bI, by repeat (first | (with_reducible first | exact HK.out | apply KeepBut.set_ | apply keep_drewN | apply keep_drew | apply keep_alloc | refine keep_far ?_ GW263.out _ | refine keep_far ?_ GW270.out _) | exact HK.out)⟩
  ·rw [if_neg c23] at H
   have c23b0 : (t271 == 1) = false := beq_eq_false_iff_ne.mpr c23
   have c23b1 : (t271 != 1) = true := bne_iff_ne.mpr c23
   simp only [Option.some.injEq, Prod.mk.injEq] at H
   obtain ⟨rfl, rfl, rfl, rfl⟩ := H
   go_enter Try.func78, Try.ntmps78
   go_wp2_with (first | ((with_reducible refine gate_dst (N := 4) rfl ?_); refine S.bx 4 (cs := #[.int .i64 0, .int .i64 0]) (t := 45) ?_; intro gb263 hg w40 hbox hb; replace HB := Aside0.mk (below_step (S.bI) hb); have BK263 := Aside0.mk hbox; have GW263 := Aside0.mk ((by rw [hg]; exact (keep_size (w := w) (g := g) (row := none) S.kA) : w.heap.size ≤ gb263)); have GE263 := Aside0.mk ((Nat.le_trans HW0.out (by rw [hg]; exact (keep_size (w := w) (g := g) (row := none) S.kA) : w.heap.size ≤ gb263) : w0.heap.size ≤ gb263)); replace HK := Aside0.mk (KeepBut.trans S.kA (KeepBut.of_below hb g none) (.inl rfl)); have NB0_263 := Aside0.mk ((by rw [hg]; exact Nat.ne_of_lt (IsS114.lt (show IsS114 w0 _ g s0_0 s0_1 s0_2 from S.iI)) : g ≠ gb263)); have NB263_0 := Aside0.mk ((by rw [hg]; exact Nat.ne_of_gt (IsS114.lt (show IsS114 w0 _ g s0_0 s0_1 s0_2 from S.iI)) : gb263 ≠ g)); replace HI0 := Aside0.mk (IsS114.below (S.iI) hb); clear hb hbox hg) | ((with_reducible refine gate_callee (f := 90) rfl ?_); refine S.gL (some 8) Try.func90 #[.pointer (some ⟨g, 0, none⟩), .int .i64 a1] ?_; (with_reducible refine (spec_l1Below.calls g s0_0 s0_1 s0_2 a1 t264 t265 t266 w0 _ ?s1 ?s2 A3.out).mono ?_); (case s1 => exact S.iI); (case s2 => exact S.bI); rintro e w41 ⟨rfl, hi, hb, hk⟩; refine ⟨_, rfl, ?_⟩; replace BK263 := Aside0.mk (KeepBut.blk hk (g' := gb263) (o := .cells #[.int .i64 0, .int .i64 0] 45 (0, 0)) (S.uB BK263.out) NB263_0.out (by simp)); replace HK := Aside0.mk (KeepBut.trans (by repeat (first | (with_reducible first | exact HK.out | apply KeepBut.set_ | apply keep_drewN | apply keep_drew | apply keep_alloc | refine keep_far ?_ GW263.out _) | exact HK.out)) hk (.inl rfl)); replace HB := Aside0.mk (hb); replace HI0 := Aside0.mk (hi); (try clear hb); (try clear hk); (try clear hi)) | ((with_reducible refine gate_callee (f := 90) rfl ?_); refine S.gL (some 12) Try.func90 #[.pointer (some ⟨g, 0, none⟩), .int .i64 (wrap64 (a1 + 1))] ?_; (with_reducible refine (spec_l1Below.calls g s0_0 t265 t266 (wrap64 (a1 + 1)) t267 t268 t269 w0 _ ?s1 ?s2 A4.out).mono ?_); (case s1 => exact S.iI); (case s2 => exact S.bI); rintro e w42 ⟨rfl, hi, hb, hk⟩; refine ⟨_, rfl, ?_⟩; replace BK263 := Aside0.mk (KeepBut.blk hk (g' := gb263) (o := .cells #[.int .i64 0, .int .i64 0] 45 (0, 0)) (S.uB BK263.out) NB263_0.out (by simp)); replace HK := Aside0.mk (KeepBut.trans (by repeat (first | (with_reducible first | exact HK.out | apply KeepBut.set_ | apply keep_drewN | apply keep_drew | apply keep_alloc | refine keep_far ?_ GW263.out _) | exact HK.out)) hk (.inl rfl)); replace HB := Aside0.mk (hb); replace HI0 := Aside0.mk (hi); (try clear hb); (try clear hk); (try clear hi)) | ((with_reducible refine gate_dst (N := 5) rfl ?_); refine S.bx 5 (cs := #[.int .i64 0, .int .i64 0]) (t := 45) ?_; intro gb270 hg w43 hbox hb; replace HB := Aside0.mk (below_step (S.bI) hb); have BK270 := Aside0.mk hbox; have GW270 := Aside0.mk ((by rw [hg]; exact (keep_size (w := w) (g := g) (row := none) (by repeat (first | (with_reducible first | exact HK.out | apply KeepBut.set_ | apply keep_drewN | apply keep_drew | apply keep_alloc | refine keep_far ?_ GW263.out _) | exact HK.out))) : w.heap.size ≤ gb270)); have GE270 := Aside0.mk ((Nat.le_trans HW0.out (by rw [hg]; exact (keep_size (w := w) (g := g) (row := none) (by repeat (first | (with_reducible first | exact HK.out | apply KeepBut.set_ | apply keep_drewN | apply keep_drew | apply keep_alloc | refine keep_far ?_ GW263.out _) | exact HK.out))) : w.heap.size ≤ gb270) : w0.heap.size ≤ gb270)); replace HK := Aside0.mk (KeepBut.trans (by repeat (first | (with_reducible first | exact HK.out | apply KeepBut.set_ | apply keep_drewN | apply keep_drew | apply keep_alloc | refine keep_far ?_ GW263.out _) | exact HK.out)) (KeepBut.of_below hb g none) (.inl rfl)); have NB263_270 := S.nl hg BK263; have NB270_263 := S.ng hg BK263; replace BK263 := S.kb BK263 hb; have NB0_270 := Aside0.mk ((by rw [hg]; exact Nat.ne_of_lt (IsS114.lt (show IsS114 w0 _ g s0_0 t268 t269 from S.iI)) : g ≠ gb270)); have NB270_0 := Aside0.mk ((by rw [hg]; exact Nat.ne_of_gt (IsS114.lt (show IsS114 w0 _ g s0_0 t268 t269 from S.iI)) : gb270 ≠ g)); replace HI0 := Aside0.mk (IsS114.below (S.iI) hb); clear hb hbox hg; have hnb44 := NB270_263.out; have hnc44 := NB263_270.out; have hnb45 := NB270_0.out; have hnc45 := NB0_270.out; obtain ⟨Z46a, Z46b, Y46a, Y46b⟩ := S.c2 BK270.out) | ((with_reducible refine gate_callee (f := 90) rfl ?_); refine S.gL (some 15) Try.func90 #[.pointer (some ⟨g, 0, none⟩), .int .i64 12] ?_; (with_reducible refine (spec_l1Below.calls g s0_0 t268 t269 12 t271 t272 t273 w0 _ ?s1 ?s2 A5.out).mono ?_); (case s1 => exact S.iI); (case s2 => exact S.bI); rintro e w47 ⟨rfl, hi, hb, hk⟩; refine ⟨_, rfl, ?_⟩; replace BK263 := Aside0.mk (KeepBut.blk hk (g' := gb263) (o := .cells #[.int .i64 0, .int .i64 0] 45 (0, 0)) (by (with_reducible repeat (first | refine blk_drewN ?_ _ | refine blk_drew ?_ | refine blk_alloc ?_ _)); refine blk_far ?_ NB263_270.out _; (with_reducible repeat (first | refine blk_drewN ?_ _ | refine blk_drew ?_ | refine blk_alloc ?_ _)); refine blk_far ?_ NB263_270.out _; (with_reducible repeat (first | refine blk_drewN ?_ _ | refine blk_drew ?_ | refine blk_alloc ?_ _)); exact BK263.out) NB263_0.out (by simp)); replace BK270 := Aside0.mk (KeepBut.blk hk (g' := gb270) (o := .cells #[.int .i64 t264, .int .i64 t267] 45 (0, 0)) (by (with_reducible repeat (first | refine blk_drewN ?_ _ | refine blk_drew ?_ | refine blk_alloc ?_ _)); refine blk_put (cs := #[.int .i64 t264, .int .i64 0]) ?_ 1 _ rfl; (with_reducible repeat (first | refine blk_drewN ?_ _ | refine blk_drew ?_ | refine blk_alloc ?_ _)); refine blk_put (cs := #[.int .i64 0, .int .i64 0]) ?_ 0 _ rfl; (with_reducible repeat (first | refine blk_drewN ?_ _ | refine blk_drew ?_ | refine blk_alloc ?_ _)); exact BK270.out) NB270_0.out (by simp)); replace HK := Aside0.mk (KeepBut.trans (by repeat (first | (with_reducible first | exact HK.out | apply KeepBut.set_ | apply keep_drewN | apply keep_drew | apply keep_alloc | refine keep_far ?_ GW263.out _ | refine keep_far ?_ GW270.out _) | exact HK.out)) hk (.inl rfl)); replace HB := Aside0.mk (hb); replace HI0 := Aside0.mk (hi); (try clear hb); (try clear hk); (try clear hi); obtain ⟨Z48a, Z48b, Y48a, Y48b⟩ := S.c2 BK270.out; have hnb49 := NB263_0.out; have hnc49 := NB0_263.out; obtain ⟨Z50a, Z50b, Y50a, Y50b⟩ := S.c2 BK263.out))
   refine bodyPost_ret (results_cell_row rfl _ _ gb263 45 #[.int .i64 t264, .int .i64 t267] (0, 0) _ rfl (by (with_reducible repeat (first | refine blk_drewN ?_ _ | refine blk_drew ?_ | refine blk_alloc ?_ _)); refine blk_put (cs := #[.int .i64 t264, .int .i64 0]) ?_ 1 _ rfl; (with_reducible repeat (first | refine blk_drewN ?_ _ | refine blk_drew ?_ | refine blk_alloc ?_ _)); refine blk_put (cs := #[.int .i64 0, .int .i64 0]) ?_ 0 _ rfl; (with_reducible repeat (first | refine blk_drewN ?_ _ | refine blk_drew ?_ | refine blk_alloc ?_ _)); exact BK263.out) Try.underlying45 rfl (by kernel_rfl)) rfl ?_
   exact ⟨S.eW, S.iI, S.bI, by repeat (first | (with_reducible first | exact HK.out | apply KeepBut.set_ | apply keep_drewN | apply keep_drew | apply keep_alloc | refine keep_far ?_ GW263.out _ | refine keep_far ?_ GW270.out _) | exact HK.out)⟩

/-! ### spec_DrawBand: function 35 -/
def spec_DrawBand.f (k : Nat) (l0 : List Int) : Option (Int × Int × Int × Int × Int × Int × Int) := (spec_l1New.f k l0).bind fun bt288 => ((spec_l21Cycle.f bt288.1 bt288.2.1 bt288.2.2).bind fun bt292 => ((spec_l21Window.f bt288.1 bt292.2.1 bt292.2.2 bt292.1).bind fun bt295 => ((spec_l21Window.f bt288.1 bt295.2.2.1 bt295.2.2.2 bt292.1).bind fun bt300 => ((spec_l1Int.f bt288.1 bt300.2.2.1 bt300.2.2.2 (([0, 5, 13, 60, 100000, 100001, (-1)] : List Int))).bind fun bt308 => ((spec_l1Int.f bt288.1 bt308.2.1 bt308.2.2 (([0, 3, 9, 100000, 100001, (-1)] : List Int))).bind fun bt314 => (some (bt295.1, bt295.2.1, bt300.1, bt300.2.1, bt292.1, bt308.1, bt314.1)))))))
def spec_DrawBand.T6 : Bool × List (List Nat × List Nat) := (true, [([], []), ([], []), ([], []), ([], []), ([], []), ([], []), ([4, 5], [4, 5]), ([0, 6, 0], [0]), ([1, 7, 0, 1, 7], [1]), ([2, 8, 0, 1, 2, 7, 8], [2]), ([3, 9, 0, 1, 2, 3, 7, 8, 9], [3]), ([6, 10, 0, 1, 2, 3, 4, 5, 6, 7, 8, 9, 10], [6])])
def spec_DrawBand.B6 : List Nat := [0, 0, 0, 0, 0, 0, 48, 113, 243, 503, 1023, 2047]
theorem spec_DrawBand.tab6 : rtab .any (opsOf Try.f35 6) = spec_DrawBand.T6 := by kernel_rfl
theorem spec_DrawBand.bits6 : waitsOk spec_DrawBand.T6.2 spec_DrawBand.B6 = true := by kernel_rfl
set_option maxHeartbeats 8000000 in
set_option maxRecDepth 100000 in
theorem spec_DrawBand.calls (k : Nat) (A0 : Option Addr) (c0 : Nat) (l0 : List Int) (r1 : Int) (r2 : Int) (r3 : Int) (r4 : Int) (r5 : Int) (r6 : Int) (r7 : Int) (w : World) (hr0 : Kd.C (Kd.int .u8) w A0 l0.length l0) (hc0 : l0.length ≤ c0) (h : spec_DrawBand.f k l0 = some (r1, r2, r3, r4, r5, r6, r7)) :
  Calls Try.prog 35 #[.slice A0 l0.length c0] w fun e w' => e = .returned (.tuple #[.agg #[.int .i64 r1, .int .i64 r2], .agg #[.int .i64 r3, .int .i64 r4], .int .i64 r5, .int .i64 r6, .int .i64 r7]) ∧ Below w.heap.size w w' := by
 have hu45 := Try.underlying45
 have HR0 := Aside0.mk hr0
 have HC0 := Aside0.mk hc0
 clear hr0 hc0
 have HB := Aside0.mk (Below.refl w.heap.size w)
 have H : ((spec_l1New.f k l0).bind fun bt288 => ((spec_l21Cycle.f bt288.1 bt288.2.1 bt288.2.2).bind fun bt292 => ((spec_l21Window.f bt288.1 bt292.2.1 bt292.2.2 bt292.1).bind fun bt295 => ((spec_l21Window.f bt288.1 bt295.2.2.1 bt295.2.2.2 bt292.1).bind fun bt300 => ((spec_l1Int.f bt288.1 bt300.2.2.1 bt300.2.2.2 (([0, 5, 13, 60, 100000, 100001, (-1)] : List Int))).bind fun bt308 => ((spec_l1Int.f bt288.1 bt308.2.1 bt308.2.2 (([0, 3, 9, 100000, 100001, (-1)] : List Int))).bind fun bt314 => (some (bt295.1, bt295.2.1, bt300.1, bt300.2.1, bt292.1, bt308.1, bt314.1)))))))) = some (r1, r2, r3, r4, r5, r6, r7) := h
 clear h
 replace H := S.bd H; obtain ⟨⟨t288, t289, t290⟩, A2, H⟩ := H
 (try dsimp only at H)
 replace H := S.bd H; obtain ⟨⟨t292, t293, t294⟩, A3, H⟩ := H
 (try dsimp only at H)
 replace H := S.bd H; obtain ⟨⟨t295, t296, t297, t298⟩, A4, H⟩ := H
 (try dsimp only at H)
 replace H := S.bd H; obtain ⟨⟨t300, t301, t302, t303⟩, A5, H⟩ := H
 (try dsimp only at H)
 obtain ⟨y305, hy305⟩ : ∃ y_ : List Int, y_ = (([0, 5, 13, 60, 100000, 100001, (-1)] : List Int)) := ⟨_, rfl⟩
 replace H : ((spec_l1Int.f t288 t302 t303 y305).bind fun bt308 => ((spec_l1Int.f t288 bt308.2.1 bt308.2.2 (([0, 3, 9, 100000, 100001, (-1)] : List Int))).bind fun bt314 => (some (t295, t296, t300, t301, t292, bt308.1, bt314.1)))) = some (r1, r2, r3, r4, r5, r6, r7) := by first | (rw [hy305]; with_reducible exact H) | (have H2_ := (Option.bind_some _ _).symm.trans H; rw [hy305]; with_reducible exact H2_) | (have H2_ := (Option.bind_some _ _).symm.trans H; with_reducible exact H2_) | with_reducible exact H | (rw [hy305]; exact H) | exact H
 have Ny305 := Aside0.mk hy305
 clear hy305
 replace H := S.bd H; obtain ⟨⟨t308, t309, t310⟩, A6, H⟩ := H
 (try dsimp only at H)
 obtain ⟨y311, hy311⟩ : ∃ y_ : List Int, y_ = (([0, 3, 9, 100000, 100001, (-1)] : List Int)) := ⟨_, rfl⟩
 replace H : ((spec_l1Int.f t288 t309 t310 y311).bind fun bt314 => (some (t295, t296, t300, t301, t292, t308, bt314.1))) = some (r1, r2, r3, r4, r5, r6, r7) := by first | (rw [hy311]; with_reducible exact H) | (have H2_ := (Option.bind_some _ _).symm.trans H; rw [hy311]; with_reducible exact H2_) | (have H2_ := (Option.bind_some _ _).symm.trans H; with_reducible exact H2_) | with_reducible exact H | (rw [hy311]; exact H) | exact H
 have Ny311 := Aside0.mk hy311
 clear hy311
 replace H := S.bd H; obtain ⟨⟨t314, t315, t316⟩, A7, H⟩ := H
 (try dsimp only at H)
 simp only [Option.some.injEq, Prod.mk.injEq] at H
 obtain ⟨rfl, rfl, rfl, rfl, rfl, rfl, rfl⟩ := H
 go_enter Try.func35, Try.ntmps35
 try go_wp2_with (first | ((with_reducible refine gate_dst (N := 2) rfl ?_); refine S.bx 2 (cs := #[.int .i64 0, .int .i64 0]) (t := 45) ?_; intro gb286 hg w8 hbox hb; have BK286 := Aside0.mk hbox; have GW286 := S.geA hg; have GE286 := S.geA hg; replace HB := S.sA hb; clear hb hbox hg) | ((with_reducible refine gate_dst (N := 3) rfl ?_); refine S.bx 3 (cs := #[.int .i64 0, .int .i64 0]) (t := 45) ?_; intro gb287 hg w9 hbox hb; have BK287 := Aside0.mk hbox; have GW287 := S.geG hg; have GE287 := S.geG hg; replace HB := S.sG hb; have NB286_287 := S.nl hg BK286; have NB287_286 := S.ng hg BK286; replace BK286 := S.kb BK286 hb; clear hb hbox hg) | ((with_reducible refine gate_callee (f := 76) rfl ?_); refine S.gL (some 13) Try.func76 #[.slice A0 l0.length c0] ?_; (with_reducible refine (spec_l1New.calls k _ _ l0 t288 t289 t290 w _ ?s1 ?s2 HC0.out A2.out).mono ?_); (case s1 => exact S.bG); (case s2 => exact HR0.out); rintro e w10 ⟨g291, rfl, hi, hb, hb2⟩; refine ⟨_, rfl, ?_⟩; replace HB := Aside0.mk (hb); have HI291 := Aside0.mk (hi); have NB291_286 := Aside0.mk (IsS114.ne_blk hi (blk_below (g := gb286) (o := .cells #[.int .i64 0, .int .i64 0] 45 (0, 0)) (S.uB BK286.out) hb2) (by decide)); have NB286_291 := Aside0.mk (Ne.symm (IsS114.ne_blk hi (blk_below (g := gb286) (o := .cells #[.int .i64 0, .int .i64 0] 45 (0, 0)) (S.uB BK286.out) hb2) (by decide))); replace BK286 := Aside0.mk (blk_below (g := gb286) (o := .cells #[.int .i64 0, .int .i64 0] 45 (0, 0)) (S.uB BK286.out) hb2); have NB291_287 := Aside0.mk (IsS114.ne_blk hi (blk_below (g := gb287) (o := .cells #[.int .i64 0, .int .i64 0] 45 (0, 0)) (S.uB BK287.out) hb2) (by decide)); have NB287_291 := Aside0.mk (Ne.symm (IsS114.ne_blk hi (blk_below (g := gb287) (o := .cells #[.int .i64 0, .int .i64 0] 45 (0, 0)) (S.uB BK287.out) hb2) (by decide))); replace BK287 := Aside0.mk (blk_below (g := gb287) (o := .cells #[.int .i64 0, .int .i64 0] 45 (0, 0)) (S.uB BK287.out) hb2); (try clear hb); (try clear hb2); (try clear hi)) | ((with_reducible refine gate_callee (f := 77) rfl ?_); refine S.gL (some 15) Try.func77 #[.pointer (some ⟨g291, 0, none⟩)] ?_; (with_reducible refine (spec_l21Cycle.calls g291 t288 t289 t290 t292 t293 t294 w _ ?s1 ?s2 A3.out).mono ?_); (case s1 => repeat (first | (with_reducible first | exact HI291.out | apply IsS114.alloc | apply IsS114.drewN | apply IsS114.drew | apply IsS114.set_1 | apply IsS114.set_2 | refine IsS114.far ?_ NB291_286.out _ | refine IsS114.far ?_ NB291_287.out _) | exact HI291.out)); (case s2 => repeat (first | (with_reducible first | exact HB.out | apply below_alloc | apply pw_below_drewN | apply below_drew1 | refine below_set ?_ (IsS114.ge HI291.out) | refine below_set ?_ GE286.out | refine below_set ?_ GE287.out) | exact HB.out)); rintro e w11 ⟨rfl, hi, hb, hk⟩; refine ⟨_, rfl, ?_⟩; replace BK286 := Aside0.mk (KeepBut.blk hk (g' := gb286) (o := .cells #[.int .i64 0, .int .i64 0] 45 (0, 0)) (S.uB BK286.out) NB286_291.out (by simp)); replace BK287 := Aside0.mk (KeepBut.blk hk (g' := gb287) (o := .cells #[.int .i64 0, .int .i64 0] 45 (0, 0)) (S.uB BK287.out) NB287_291.out (by simp)); replace HB := Aside0.mk (hb); replace HI291 := Aside0.mk (hi); (try clear hb); (try clear hk); (try clear hi)) | ((with_reducible refine gate_callee (f := 78) rfl ?_); refine S.gL (some 18) Try.func78 #[.pointer (some ⟨g291, 0, none⟩), .int .i64 t292] ?_; (with_reducible refine (spec_l21Window.calls g291 t288 t293 t294 t292 t295 t296 t297 t298 w _ ?s1 ?s2 A4.out).mono ?_); (case s1 => repeat (first | (with_reducible first | exact HI291.out | apply IsS114.alloc | apply IsS114.drewN | apply IsS114.drew | apply IsS114.set_1 | apply IsS114.set_2 | refine IsS114.far ?_ NB291_286.out _ | refine IsS114.far ?_ NB291_287.out _) | exact HI291.out)); (case s2 => repeat (first | (with_reducible first | exact HB.out | apply below_alloc | apply pw_below_drewN | apply below_drew1 | refine below_set ?_ (IsS114.ge HI291.out) | refine below_set ?_ GE286.out | refine below_set ?_ GE287.out) | exact HB.out)); rintro e w12 ⟨rfl, hi, hb, hk⟩; refine ⟨_, rfl, ?_⟩; replace BK286 := Aside0.mk (KeepBut.blk hk (g' := gb286) (o := .cells #[.int .i64 0, .int .i64 0] 45 (0, 0)) (S.uB BK286.out) NB286_291.out (by simp)); replace BK287 := Aside0.mk (KeepBut.blk hk (g' := gb287) (o := .cells #[.int .i64 0, .int .i64 0] 45 (0, 0)) (S.uB BK287.out) NB287_291.out (by simp)); replace HB := Aside0.mk (hb); replace HI291 := Aside0.mk (hi); (try clear hb); (try clear hk); (try clear hi)) | ((with_reducible refine gate_dst (N := 9) rfl ?_); refine S.bx 9 (cs := #[.int .i64 0, .int .i64 0]) (t := 45) ?_; intro gb299 hg w13 hbox hb; have BK299 := Aside0.mk hbox; have GW299 := Aside0.mk ((by rw [hg]; exact (below_size (by repeat (first | (with_reducible first | exact HB.out | apply below_alloc | apply pw_below_drewN | apply below_drew1 | refine below_set ?_ (IsS114.ge HI291.out) | refine below_set ?_ GE286.out | refine below_set ?_ GE287.out) | exact HB.out))) : w.heap.size ≤ gb299)); have GE299 := Aside0.mk ((by rw [hg]; exact (below_size (by repeat (first | (with_reducible first | exact HB.out | apply below_alloc | apply pw_below_drewN | apply below_drew1 | refine below_set ?_ (IsS114.ge HI291.out) | refine below_set ?_ GE286.out | refine below_set ?_ GE287.out) | exact HB.out))) : w.heap.size ≤ gb299)); replace HB := Aside0.mk (below_step (by repeat (first | (with_reducible first | exact HB.out | apply below_alloc | apply pw_below_drewN | apply below_drew1 | refine below_set ?_ (IsS114.ge HI291.out) | refine below_set ?_ GE286.out | refine below_set ?_ GE287.out) | exact HB.out)) hb); have NB286_299 := S.nl hg BK286; have NB299_286 := S.ng hg BK286; replace BK286 := S.kb BK286 hb; have NB287_299 := S.nl hg BK287; have NB299_287 := S.ng hg BK287; replace BK287 := S.kb BK287 hb; have NB291_299 := Aside0.mk ((by rw [hg]; exact Nat.ne_of_lt (IsS114.lt (show IsS114 w _ g291 t288 t297 t298 from by repeat (first | (with_reducible first | exact HI291.out | apply IsS114.alloc | apply IsS114.drewN | apply IsS114.drew | apply IsS114.set_1 | apply IsS114.set_2 | refine IsS114.far ?_ NB291_286.out _ | refine IsS114.far ?_ NB291_287.out _) | exact HI291.out))) : g291 ≠ gb299)); have NB299_291 := Aside0.mk ((by rw [hg]; exact Nat.ne_of_gt (IsS114.lt (show IsS114 w _ g291 t288 t297 t298 from by repeat (first | (with_reducible first | exact HI291.out | apply IsS114.alloc | apply IsS114.drewN | apply IsS114.drew | apply IsS114.set_1 | apply IsS114.set_2 | refine IsS114.far ?_ NB291_286.out _ | refine IsS114.far ?_ NB291_287.out _) | exact HI291.out))) : gb299 ≠ g291)); replace HI291 := Aside0.mk (IsS114.below (by repeat (first | (with_reducible first | exact HI291.out | apply IsS114.alloc | apply IsS114.drewN | apply IsS114.drew | apply IsS114.set_1 | apply IsS114.set_2 | refine IsS114.far ?_ NB291_286.out _ | refine IsS114.far ?_ NB291_287.out _) | exact HI291.out)) hb); clear hb hbox hg; have hnb14 := NB299_286.out; have hnc14 := NB286_299.out; have hnb15 := NB299_287.out; have hnc15 := NB287_299.out; have hnb16 := NB299_291.out; have hnc16 := NB291_299.out; obtain ⟨Z17a, Z17b, Y17a, Y17b⟩ := S.c2 BK299.out) | ((with_reducible refine gate_callee (f := 78) rfl ?_); refine S.gL (some 21) Try.func78 #[.pointer (some ⟨g291, 0, none⟩), .int .i64 t292] ?_; (with_reducible refine (spec_l21Window.calls g291 t288 t297 t298 t292 t300 t301 t302 t303 w _ ?s1 ?s2 A5.out).mono ?_); (case s1 => repeat (first | (with_reducible first | exact HI291.out | apply IsS114.alloc | apply IsS114.drewN | apply IsS114.drew | apply IsS114.set_1 | apply IsS114.set_2 | refine IsS114.far ?_ NB291_286.out _ | refine IsS114.far ?_ NB291_287.out _ | refine IsS114.far ?_ NB291_299.out _) | exact HI291.out)); (case s2 => repeat (first | (with_reducible first | exact HB.out | apply below_alloc | apply pw_below_drewN | apply below_drew1 | refine below_set ?_ (IsS114.ge HI291.out) | refine below_set ?_ GE286.out | refine below_set ?_ GE287.out | refine below_set ?_ GE299.out) | exact HB.out)); rintro e w18 ⟨rfl, hi, hb, hk⟩; refine ⟨_, rfl, ?_⟩; replace BK286 := Aside0.mk (KeepBut.blk hk (g' := gb286) (o := .cells #[.int .i64 0, .int .i64 0] 45 (0, 0)) (by (with_reducible repeat (first | refine blk_drewN ?_ _ | refine blk_drew ?_ | refine blk_alloc ?_ _)); refine blk_far ?_ NB286_299.out _; (with_reducible repeat (first | refine blk_drewN ?_ _ | refine blk_drew ?_ | refine blk_alloc ?_ _)); refine blk_far ?_ NB286_299.out _; (with_reducible repeat (first | refine blk_drewN ?_ _ | refine blk_drew ?_ | refine blk_alloc ?_ _)); exact BK286.out) NB286_291.out (by simp)); replace BK287 := Aside0.mk (KeepBut.blk hk (g' := gb287) (o := .cells #[.int .i64 0, .int .i64 0] 45 (0, 0)) (by (with_reducible repeat (first | refine blk_drewN ?_ _ | refine blk_drew ?_ | refine blk_alloc ?_ _)); refine blk_far ?_ NB287_299.out _; (with_reducible repeat (first | refine blk_drewN ?_ _ | refine blk_drew ?_ | refine blk_alloc ?_ _)); refine blk_far ?_ NB287_299.out _; (with_reducible repeat (first | refine blk_drewN ?_ _ | refine blk_drew ?_ | refine blk_alloc ?_ _)); exact BK287.out) NB287_291.out (by simp)); replace BK299 := Aside0.mk (KeepBut.blk hk (g' := gb299) (o := .cells #[.int .i64 t295, .int .i64 t296] 45 (0, 0)) (by (with_reducible repeat (first | refine blk_drewN ?_ _ | refine blk_drew ?_ | refine blk_alloc ?_ _)); refine blk_put (cs := #[.int .i64 t295, .int .i64 0]) ?_ 1 _ rfl; (with_reducible repeat (first | refine blk_drewN ?_ _ | refine blk_drew ?_ | refine blk_alloc ?_ _)); refine blk_put (cs := #[.int .i64 0, .int .i64 0]) ?_ 0 _ rfl; (with_reducible repeat (first | refine blk_drewN ?_ _ | refine blk_drew ?_ | refine blk_alloc ?_ _)); exact BK299.out) NB299_291.out (by simp)); replace HB := Aside0.mk (hb); replace HI291 := Aside0.mk (hi); (try clear hb); (try clear hk); (try clear hi)) | ((with_reducible refine gate_dst (N := 10) rfl ?_); refine S.bx 10 (cs := #[.int .i64 0, .int .i64 0]) (t := 45) ?_; intro gb304 hg w19 hbox hb; have BK304 := Aside0.mk hbox; have GW304 := Aside0.mk ((by rw [hg]; exact (below_size (by repeat (first | (with_reducible first | exact HB.out | apply below_alloc | apply pw_below_drewN | apply below_drew1 | refine below_set ?_ (IsS114.ge HI291.out) | refine below_set ?_ GE286.out | refine below_set ?_ GE287.out | refine below_set ?_ GE299.out) | exact HB.out))) : w.heap.size ≤ gb304)); have GE304 := Aside0.mk ((by rw [hg]; exact (below_size (by repeat (first | (with_reducible first | exact HB.out | apply below_alloc | apply pw_below_drewN | apply below_drew1 | refine below_set ?_ (IsS114.ge HI291.out) | refine below_set ?_ GE286.out | refine below_set ?_ GE287.out | refine below_set ?_ GE299.out) | exact HB.out))) : w.heap.size ≤ gb304)); replace HB := Aside0.mk (below_step (by repeat (first | (with_reducible first | exact HB.out | apply below_alloc | apply pw_below_drewN | apply below_drew1 | refine below_set ?_ (IsS114.ge HI291.out) | refine below_set ?_ GE286.out | refine below_set ?_ GE287.out | refine below_set ?_ GE299.out) | exact HB.out)) hb); have NB286_304 := S.nl hg BK286; have NB304_286 := S.ng hg BK286; replace BK286 := S.kb BK286 hb; have NB287_304 := S.nl hg BK287; have NB304_287 := S.ng hg BK287; replace BK287 := S.kb BK287 hb; have NB299_304 := S.nl hg BK299; have NB304_299 := S.ng hg BK299; replace BK299 := S.kb BK299 hb; have NB291_304 := Aside0.mk ((by rw [hg]; exact Nat.ne_of_lt (IsS114.lt (show IsS114 w _ g291 t288 t302 t303 from by repeat (first | (with_reducible first | exact HI291.out | apply IsS114.alloc | apply IsS114.drewN | apply IsS114.drew | apply IsS114.set_1 | apply IsS114.set_2 | refine IsS114.far ?_ NB291_286.out _ | refine IsS114.far ?_ NB291_287.out _ | refine IsS114.far ?_ NB291_299.out _) | exact HI291.out))) : g291 ≠ gb304)); have NB304_291 := Aside0.mk ((by rw [hg]; exact Nat.ne_of_gt (IsS114.lt (show IsS114 w _ g291 t288 t302 t303 from by repeat (first | (with_reducible first | exact HI291.out | apply IsS114.alloc | apply IsS114.drewN | apply IsS114.drew | apply IsS114.set_1 | apply IsS114.set_2 | refine IsS114.far ?_ NB291_286.out _ | refine IsS114.far ?_ NB291_287.out _ | refine IsS114.far ?_ NB291_299.out _) | exact HI291.out))) : gb304 ≠ g291)); replace HI291 := Aside0.mk (IsS114.below (by repeat (first | (with_reducible first | exact HI291.out | apply IsS114.alloc | apply IsS114.drewN | apply IsS114.drew | apply IsS114.set_1 | apply IsS114.set_2 | refine IsS114.far ?_ NB291_286.out _ | refine IsS114.far ?_ NB291_287.out _ | refine IsS114.far ?_ NB291_299.out _) | exact HI291.out)) hb); clear hb hbox hg; have hnb20 := NB304_286.out; have hnc20 := NB286_304.out; have hnb21 := NB304_287.out; have hnc21 := NB287_304.out; have hnb22 := NB304_299.out; have hnc22 := NB299_304.out; have hnb23 := NB304_291.out; have hnc23 := NB291_304.out; obtain ⟨Z24a, Z24b, Y24a, Y24b⟩ := S.c2 BK304.out) | ((with_reducible refine gate_dst (N := 23) rfl ?_); refine Kd.R_lit (Kd.int .i64) _ 3 ?hg (N := 23) ?hd (xs := ([0, 5, 13, 60, 100000, 100001, (-1)] : List Int)) (inner := [.int .i64 0, .int .i64 5, .int .i64 13, .int .i64 60, .int .i64 100000, .int .i64 100001, .int .i64 (-1)]) (ok := fun _ => True) (okp := fun _ => True) ?hr ?hp (fun _ hk => hk) trivial (Below.refl _ _) (Nat.le_refl _) (by simp) ?_; (case hd => rfl); (case hg => rfl); (case hr => first | (go_simp; done) | (go_simp; rfl)); (case hp => exact (Reps.one (show Kd.M (Kd.int .i64) _ _ _ 0 [.int .i64 0] from rfl) (Reps.one (show Kd.M (Kd.int .i64) _ _ _ 5 [.int .i64 5] from rfl) (Reps.one (show Kd.M (Kd.int .i64) _ _ _ 13 [.int .i64 13] from rfl) (Reps.one (show Kd.M (Kd.int .i64) _ _ _ 60 [.int .i64 60] from rfl) (Reps.one (show Kd.M (Kd.int .i64) _ _ _ 100000 [.int .i64 100000] from rfl) (Reps.one (show Kd.M (Kd.int .i64) _ _ _ 100001 [.int .i64 100001] from rfl) (Reps.one (show Kd.M (Kd.int .i64) _ _ _ (-1) [.int .i64 (-1)] from rfl) (Reps.none _ _))))))))); intro v306 w25 ho26 hb hg_ hnew_; clear hg_ hnew_; (first | rw [← Ny305.out] at ho26 | (simp only [Int.reduceToNat] at ho26; rw [← Ny305.out] at ho26)); have HO307 := Aside0.mk (Kd.R_lower ho26 (below_size (by repeat (first | (with_reducible first | exact HB.out | apply below_alloc | apply pw_below_drewN | apply below_drew1 | refine below_set ?_ (IsS114.ge HI291.out) | refine below_set ?_ GE286.out | refine below_set ?_ GE287.out | refine below_set ?_ GE299.out | refine below_set ?_ GE304.out) | exact HB.out)))); replace BK286 := S.kf BK286 NB286_304 hb; replace BK287 := S.kf BK287 NB287_304 hb; replace BK299 := S.kf BK299 NB299_304 hb; replace BK304 := S.kp2 BK304 hb; replace HB := Aside0.mk (below_step (by repeat (first | (with_reducible first | exact HB.out | apply below_alloc | apply pw_below_drewN | apply below_drew1 | refine below_set ?_ (IsS114.ge HI291.out) | refine below_set ?_ GE286.out | refine below_set ?_ GE287.out | refine below_set ?_ GE299.out | refine below_set ?_ GE304.out) | exact HB.out)) hb); replace HI291 := Aside0.mk (IsS114.below (show IsS114 w ((w19.setCell ⟨gb304, 0, none⟩ (.int .i64 t300)).setCell ⟨gb304, 1, none⟩ (.int .i64 t301)) g291 t288 t302 t303 from by repeat (first | (with_reducible first | exact HI291.out | apply IsS114.alloc | apply IsS114.drewN | apply IsS114.drew | apply IsS114.set_1 | apply IsS114.set_2 | refine IsS114.far ?_ NB291_286.out _ | refine IsS114.far ?_ NB291_287.out _ | refine IsS114.far ?_ NB291_299.out _ | refine IsS114.far ?_ NB291_304.out _) | exact HI291.out)) hb); clear hb ho26; obtain ⟨Ao27, co27, eo27⟩ := Kd.R_slice HO307.out; subst eo27) | ((with_reducible refine gate_callee (f := 79) rfl ?_); refine S.gL (some 24) Try.func79 #[.pointer (some ⟨g291, 0, none⟩), .slice Ao27 y305.length co27] ?_; (with_reducible refine (spec_l1Int.calls g291 t288 t302 t303 _ _ y305 t308 t309 t310 w _ ?s1 ?s2 ?s3 (S.rl HO307) ?s5 A6.out).mono ?_); (case s1 => repeat (first | (with_reducible first | exact HI291.out | apply IsS114.alloc | apply IsS114.drewN | apply IsS114.drew | apply IsS114.set_1 | apply IsS114.set_2 | refine IsS114.far ?_ NB291_286.out _ | refine IsS114.far ?_ NB291_287.out _ | refine IsS114.far ?_ NB291_299.out _ | refine IsS114.far ?_ NB291_304.out _) | exact HI291.out)); (case s2 => repeat (first | (with_reducible first | exact HB.out | apply below_alloc | apply pw_below_drewN | apply below_drew1 | refine below_set ?_ (IsS114.ge HI291.out) | refine below_set ?_ GE286.out | refine below_set ?_ GE287.out | refine below_set ?_ GE299.out | refine below_set ?_ GE304.out) | exact HB.out)); (case s3 => exact S.rd HO307); (case s5 => exact far_slice (IsS114.own_ne HI291.out HO307.out (by decide))); rintro e w28 ⟨rfl, hi, hb, hk⟩; refine ⟨_, rfl, ?_⟩; replace BK286 := Aside0.mk (KeepBut.blk hk (g' := gb286) (o := .cells #[.int .i64 0, .int .i64 0] 45 (0, 0)) (S.uB BK286.out) NB286_291.out (by simp)); replace BK287 := Aside0.mk (KeepBut.blk hk (g' := gb287) (o := .cells #[.int .i64 0, .int .i64 0] 45 (0, 0)) (S.uB BK287.out) NB287_291.out (by simp)); replace BK299 := Aside0.mk (KeepBut.blk hk (g' := gb299) (o := .cells #[.int .i64 t295, .int .i64 t296] 45 (0, 0)) (S.uB BK299.out) NB299_291.out (by simp)); replace BK304 := Aside0.mk (KeepBut.blk hk (g' := gb304) (o := .cells #[.int .i64 t300, .int .i64 t301] 45 (0, 0)) (S.uB BK304.out) NB304_291.out (by simp)); replace HO307 := Aside0.mk (Kd.R_mono (Kd.R_keep (IsS114.apart (show IsS114 w _ g291 t288 t302 t303 from by repeat (first | (with_reducible first | exact HI291.out | apply IsS114.alloc | apply IsS114.drewN | apply IsS114.drew | apply IsS114.set_1 | apply IsS114.set_2 | refine IsS114.far ?_ NB291_286.out _ | refine IsS114.far ?_ NB291_287.out _ | refine IsS114.far ?_ NB291_299.out _ | refine IsS114.far ?_ NB291_304.out _) | exact HI291.out)) (S.uR HO307.out) (by decide)) hk (fun _ h => h.2)) (fun _ h => h.1)); replace HB := Aside0.mk (hb); replace HI291 := Aside0.mk (hi); (try clear hb); (try clear hk); (try clear hi)))
 replace HO307 := S.dr HO307
 replace BK286 := Aside0.mk (blk_drew BK286.out)
 replace BK287 := Aside0.mk (blk_drew BK287.out)
 replace BK299 := Aside0.mk (blk_drew BK299.out)
 replace BK304 := Aside0.mk (blk_drew BK304.out)
 replace HI291 := Aside0.mk (IsS114.drew HI291.out)
 replace HB := Aside0.mk (below_drew1 HB.out)
 refine S.st (n := 12) (ds := []) #[false, false, false, false, false, false, false, false, false, false, false, false] (fun w_ h_ => have x_ := S.d2 (S.Q h_ BK299.out) (S.e2 (S.Q h_ BK304.out)); x_) (fun hHeld => ?_); refine with_tabW spec_DrawBand.tab6 spec_DrawBand.bits6 (fun HT_ HW_ => ?_)
 generalize w28.drew = w29 at HO307 BK286 BK287 BK299 BK304 HI291 HB hHeld ⊢
 refine S.pS 2 27 ?_
 refine S.pS 3 28 ?_
 refine S.pS 4 29 ?_
 refine S.tK 0 25 #[true, false, true, true, true, false, false, false, false, false, false, false] ?_
 refine S.tK 1 26 #[true, true, true, true, true, false, false, false, false, false, false, false] ?_
 refine S.oN 5 30 #[true, true, true, true, true, true, false, false, false, false, false, false] (fun K hK => ?_)
 refine Kd.R_lit_step (Kd.int .i64) _ 3 ?hg (N := 30) ?hd (xs := ([0, 3, 9, 100000, 100001, (-1)] : List Int)) (inner := [.int .i64 0, .int .i64 3, .int .i64 9, .int .i64 100000, .int .i64 100001, .int .i64 (-1)]) (ok := fun _ => True) (okp := fun _ => True) ?hr ?hp (fun _ hk => hk) trivial (Below.refl _ _) (Nat.le_refl _) (by simp) ?_; (case hd => rfl); (case hg => rfl); (case hr => first | (go_simp; done) | (go_simp; rfl)); (case hp => exact (Reps.one (show Kd.M (Kd.int .i64) _ _ _ 0 [.int .i64 0] from rfl) (Reps.one (show Kd.M (Kd.int .i64) _ _ _ 3 [.int .i64 3] from rfl) (Reps.one (show Kd.M (Kd.int .i64) _ _ _ 9 [.int .i64 9] from rfl) (Reps.one (show Kd.M (Kd.int .i64) _ _ _ 100000 [.int .i64 100000] from rfl) (Reps.one (show Kd.M (Kd.int .i64) _ _ _ 100001 [.int .i64 100001] from rfl) (Reps.one (show Kd.M (Kd.int .i64) _ _ _ (-1) [.int .i64 (-1)] from rfl) (Reps.none _ _))))))))
 intro v312 w30 ho31 hb hg_ hnew_
 clear hg_ hnew_
 (first | rw [← Ny311.out] at ho31 | (simp only [Int.reduceToNat] at ho31; rw [← Ny311.out] at ho31))
 have HO313 := Aside0.mk (Kd.R_lower (Kd.R_new' ho31 (Kd.R_lt (S.uR HO307.out))) (below_size (by repeat (first | (with_reducible first | exact HB.out | apply below_alloc | apply pw_below_drewN | apply below_drew1 | refine below_set ?_ (IsS114.ge HI291.out) | refine below_set ?_ GE286.out | refine below_set ?_ GE287.out | refine below_set ?_ GE299.out | refine below_set ?_ GE304.out) | exact HB.out))))
 replace HO307 := S.re HO307 ho31 hb
 replace BK286 := S.kb BK286 hb
 replace BK287 := S.kb BK287 hb
 replace BK299 := S.kb BK299 hb
 replace BK304 := S.kb BK304 hb
 replace HB := Aside0.mk (below_step (by repeat (first | (with_reducible first | exact HB.out | apply below_alloc | apply pw_below_drewN | apply below_drew1 | refine below_set ?_ (IsS114.ge HI291.out) | refine below_set ?_ GE286.out | refine below_set ?_ GE287.out | refine below_set ?_ GE299.out | refine below_set ?_ GE304.out) | exact HB.out)) hb)
 replace HI291 := Aside0.mk (IsS114.below (by repeat (first | (with_reducible first | exact HI291.out | apply IsS114.alloc | apply IsS114.drewN | apply IsS114.drew | apply IsS114.set_1 | apply IsS114.set_2 | refine IsS114.far ?_ NB291_286.out _ | refine IsS114.far ?_ NB291_287.out _ | refine IsS114.far ?_ NB291_299.out _ | refine IsS114.far ?_ NB291_304.out _) | exact HI291.out)) hb)
 clear hb ho31
 obtain ⟨Ao32, co32, eo32⟩ := Kd.R_slice HO313.out
 (first | subst eo32 | (injection eo32 with f1_ f2_ f3_; have f4_ := f1_.symm; have f5_ := f3_.symm; clear f1_ f2_ f3_; subst f4_; subst f5_))
 refine hK.out _ _ (S.d2 BK299.out (S.e2 BK304.out)) (fun hHeld => ?_)
 clear hK K
 refine S.nm 30 ?_
 refine S.oN 6 31 #[true, true, true, true, true, true, true, false, false, false, false, false] (fun K hK => ?_)
 refine S.go Try.func79 #[.pointer (some ⟨g291, 0, none⟩), .slice Ao32 y311.length co32] ?_
 with_reducible refine (spec_l1Int.calls g291 t288 t309 t310 _ _ y311 t314 t315 t316 w _ ?s1 ?s2 ?s3 ?s4 ?s5 A7.out).mono ?_
 (case s1 => repeat (first | (with_reducible first | exact HI291.out | apply IsS114.alloc | apply IsS114.drewN | apply IsS114.drew | apply IsS114.set_1 | apply IsS114.set_2 | refine IsS114.far ?_ NB291_286.out _ | refine IsS114.far ?_ NB291_287.out _ | refine IsS114.far ?_ NB291_299.out _ | refine IsS114.far ?_ NB291_304.out _) | exact HI291.out))
 (case s2 => repeat (first | (with_reducible first | exact HB.out | apply below_alloc | apply pw_below_drewN | apply below_drew1 | refine below_set ?_ (IsS114.ge HI291.out) | refine below_set ?_ GE286.out | refine below_set ?_ GE287.out | refine below_set ?_ GE299.out | refine below_set ?_ GE304.out) | exact HB.out))
 (case s3 => exact S.rd HO313)
 (case s4 => exact S.rl HO313)
 (case s5 => exact far_slice (IsS114.own_ne HI291.out HO313.out (by decide)))
 rintro e w33 ⟨rfl, hi, hb, hk⟩
 refine ⟨_, rfl, ?_⟩
 replace BK286 := Aside0.mk (KeepBut.blk hk (g' := gb286) (o := .cells #[.int .i64 0, .int .i64 0] 45 (0, 0)) (S.uB BK286.out) NB286_291.out (by simp))
 replace BK287 := Aside0.mk (KeepBut.blk hk (g' := gb287) (o := .cells #[.int .i64 0, .int .i64 0] 45 (0, 0)) (S.uB BK287.out) NB287_291.out (by simp))
 replace BK299 := Aside0.mk (KeepBut.blk hk (g' := gb299) (o := .cells #[.int .i64 t295, .int .i64 t296] 45 (0, 0)) (S.uB BK299.out) NB299_291.out (by simp))
 replace BK304 := Aside0.mk (KeepBut.blk hk (g' := gb304) (o := .cells #[.int .i64 t300, .int .i64 t301] 45 (0, 0)) (S.uB BK304.out) NB304_291.out (by simp))
 replace HO307 := Aside0.mk (Kd.R_mono (Kd.R_keep (IsS114.apart (show IsS114 w _ g291 t288 t309 t310 from by repeat (first | (with_reducible first | exact HI291.out | apply IsS114.alloc | apply IsS114.drewN | apply IsS114.drew | apply IsS114.set_1 | apply IsS114.set_2 | refine IsS114.far ?_ NB291_286.out _ | refine IsS114.far ?_ NB291_287.out _ | refine IsS114.far ?_ NB291_299.out _ | refine IsS114.far ?_ NB291_304.out _) | exact HI291.out)) (S.uR HO307.out) (by decide)) hk (fun _ h => h.2)) (fun _ h => h.1))
 replace HO313 := Aside0.mk (Kd.R_mono (Kd.R_keep (IsS114.apart (show IsS114 w _ g291 t288 t309 t310 from by repeat (first | (with_reducible first | exact HI291.out | apply IsS114.alloc | apply IsS114.drewN | apply IsS114.drew | apply IsS114.set_1 | apply IsS114.set_2 | refine IsS114.far ?_ NB291_286.out _ | refine IsS114.far ?_ NB291_287.out _ | refine IsS114.far ?_ NB291_299.out _ | refine IsS114.far ?_ NB291_304.out _) | exact HI291.out)) (S.uR HO313.out) (by decide)) hk (fun _ h => h.2)) (fun _ h => h.1))
 replace HB := Aside0.mk (hb)
 replace HI291 := Aside0.mk (hi)
 (try clear hb)
 (try clear hb2)
 (try clear hk)
 (try clear hi)
 refine hK.out _ _ (S.d2 BK299.out (S.e2 BK304.out)) (fun hHeld => ?_)
 clear hK K
 refine S.nm 31 ?_
 refine one_ (i := 7) (N := none) #[true, true, true, true, true, true, true, true, false, false, false, false] rfl rfl (one_of HT_.out (by kernel_rfl)) (by decide) (fun K hK => ?_)
 have hs34 : w33.cell? ⟨gb286, 0, none⟩ = some (.int .i64 0) := (blk_cell BK286.out 0).trans rfl
 have hfs34 := blk_frozen BK286.out 0
 have hns34_1 := NB287_286.out
 have hns34_2 := NB299_286.out
 have hns34_3 := NB304_286.out
 have hms34_1 := NB286_287.out
 have hms34_2 := NB286_299.out
 have hms34_3 := NB286_304.out
 have hs35 : w33.cell? ⟨gb286, 1, none⟩ = some (.int .i64 0) := (blk_cell BK286.out 1).trans rfl
 have hfs35 := blk_frozen BK286.out 1
 have hns35_1 := NB287_286.out
 have hns35_2 := NB299_286.out
 have hns35_3 := NB304_286.out
 have hms35_1 := NB286_287.out
 have hms35_2 := NB286_299.out
 have hms35_3 := NB286_304.out
 refine skip_ (w1 := ?_) (by rfl) rfl ?_ ?_
 rotate_left
 ·go_simp
  rfl
 refine hK.out _ _ ⟨((cell_far (p := ⟨gb286, _, none⟩) NB299_286.out _).trans (((cell_far (p := ⟨gb286, _, none⟩) NB299_286.out _).trans (hHeld.1)))), ((cell_far (p := ⟨gb286, _, none⟩) NB299_286.out _).trans (((cell_far (p := ⟨gb286, _, none⟩) NB299_286.out _).trans (hHeld.2.1)))), ((cell_far (p := ⟨gb286, _, none⟩) NB304_286.out _).trans (((cell_far (p := ⟨gb286, _, none⟩) NB304_286.out _).trans (hHeld.2.2.1)))), ((cell_far (p := ⟨gb286, _, none⟩) NB304_286.out _).trans (((cell_far (p := ⟨gb286, _, none⟩) NB304_286.out _).trans (hHeld.2.2.2))))⟩ (fun hHeld => ?_)
 clear hK K
 refine one_ (i := 8) (N := none) #[true, true, true, true, true, true, true, true, true, false, false, false] rfl rfl (one_of HT_.out (by kernel_rfl)) (by decide) (fun K hK => ?_)
 have hs36 : w33.cell? ⟨gb287, 0, none⟩ = some (.int .i64 0) := (blk_cell BK287.out 0).trans rfl
 have hfs36 := blk_frozen BK287.out 0
 have hns36_0 := NB286_287.out
 have hns36_2 := NB299_287.out
 have hns36_3 := NB304_287.out
 have hms36_0 := NB287_286.out
 have hms36_2 := NB287_299.out
 have hms36_3 := NB287_304.out
 have hs37 : w33.cell? ⟨gb287, 1, none⟩ = some (.int .i64 0) := (blk_cell BK287.out 1).trans rfl
 have hfs37 := blk_frozen BK287.out 1
 have hns37_0 := NB286_287.out
 have hns37_2 := NB299_287.out
 have hns37_3 := NB304_287.out
 have hms37_0 := NB287_286.out
 have hms37_2 := NB287_299.out
 have hms37_3 := NB287_304.out
 refine skip_ (w1 := ?_) (by rfl) rfl ?_ ?_
 rotate_left
 ·go_simp
  rfl
 refine hK.out _ _ ⟨((cell_far (p := ⟨gb287, _, none⟩) NB299_287.out _).trans (((cell_far (p := ⟨gb287, _, none⟩) NB299_287.out _).trans (hHeld.1)))), ((cell_far (p := ⟨gb287, _, none⟩) NB299_287.out _).trans (((cell_far (p := ⟨gb287, _, none⟩) NB299_287.out _).trans (hHeld.2.1)))), ((cell_far (p := ⟨gb287, _, none⟩) NB304_287.out _).trans (((cell_far (p := ⟨gb287, _, none⟩) NB304_287.out _).trans (hHeld.2.2.1)))), ((cell_far (p := ⟨gb287, _, none⟩) NB304_287.out _).trans (((cell_far (p := ⟨gb287, _, none⟩) NB304_287.out _).trans (hHeld.2.2.2))))⟩ (fun hHeld => ?_)
 clear hK K
 refine S.pS 9 4 ?_
 refine S.pS 10 5 ?_
 refine S.pS 11 6 ?_
 refine done_ (done_of HT_.out (by kernel_rfl)) ?_
 try go_wp2
 refine bodyPost_ret (results_list (rs := [.cell 2 45, .cell 3 45, .tmp 4, .tmp 5, .tmp 6]) rfl (by simp) (.cell gb286 45 #[.int .i64 t295, .int .i64 t296] (0, 0) _ rfl (by (with_reducible repeat (first | refine blk_drewN ?_ _ | refine blk_drew ?_ | refine blk_alloc ?_ _)); refine blk_far ?_ NB286_287.out _; (with_reducible repeat (first | refine blk_drewN ?_ _ | refine blk_drew ?_ | refine blk_alloc ?_ _)); refine blk_far ?_ NB286_287.out _; (with_reducible repeat (first | refine blk_drewN ?_ _ | refine blk_drew ?_ | refine blk_alloc ?_ _)); refine blk_put (cs := #[.int .i64 t295, .int .i64 0]) ?_ 1 _ rfl; (with_reducible repeat (first | refine blk_drewN ?_ _ | refine blk_drew ?_ | refine blk_alloc ?_ _)); refine blk_put (cs := #[.int .i64 0, .int .i64 0]) ?_ 0 _ rfl; (with_reducible repeat (first | refine blk_drewN ?_ _ | refine blk_drew ?_ | refine blk_alloc ?_ _)); exact BK286.out) Try.underlying45 rfl (by kernel_rfl) (.cell gb287 45 #[.int .i64 t300, .int .i64 t301] (0, 0) _ rfl (by (with_reducible repeat (first | refine blk_drewN ?_ _ | refine blk_drew ?_ | refine blk_alloc ?_ _)); refine blk_put (cs := #[.int .i64 t300, .int .i64 0]) ?_ 1 _ rfl; (with_reducible repeat (first | refine blk_drewN ?_ _ | refine blk_drew ?_ | refine blk_alloc ?_ _)); refine blk_put (cs := #[.int .i64 0, .int .i64 0]) ?_ 0 _ rfl; (with_reducible repeat (first | refine blk_drewN ?_ _ | refine blk_drew ?_ | refine blk_alloc ?_ _)); refine blk_far ?_ NB287_286.out _; (with_reducible repeat (first | refine blk_drewN ?_ _ | refine blk_drew ?_ | refine blk_alloc ?_ _)); refine blk_far ?_ NB287_286.out _; (with_reducible repeat (first | refine blk_drewN ?_ _ | refine blk_drew ?_ | refine blk_alloc ?_ _)); exact BK287.out) Try.underlying45 rfl (by kernel_rfl) (.tmp (.tmp (.tmp .nil)))))) rfl ?_
 exact ⟨S.eW, by repeat (first | (with_reducible first | exact HB.out | apply below_alloc | apply pw_below_drewN | apply below_drew1 | refine below_set ?_ (IsS114.ge HI291.out) | refine below_set ?_ GE286.out | refine below_set ?_ GE287.out | refine below_set ?_ GE299.out | refine below_set ?_ GE304.out) | exact HB.out)⟩

/-! ### impl_IsWindow: function 39 -/
def impl_IsWindow.f (a0_0 : Int) (a0_1 : Int) (a1 : Int) : Option (Bool) := (impl_InRange.f a1 1 200).bind fun t318 => (if t318 = true then ((impl_InRange.f a0_0 0 (wrap64 (a1 - 1))).bind fun t319 => (if t319 = true then ((impl_InRange.f a0_1 0 a1).bind fun t320 => (some t320)) else (some false))) else (some false))
set_option maxHeartbeats 8000000 in
set_option maxRecDepth 100000 in
theorem impl_IsWindow.calls (a0_0 : Int) (a0_1 : Int) (a1 : Int) (r : Bool) (w : World) (h : impl_IsWindow.f a0_0 a0_1 a1 = some r) :
  Calls Try.prog 39 #[.agg #[.int .i64 a0_0, .int .i64 a0_1], .int .i64 a1] w fun e w' => e = .returned (.bool r) ∧ Below w.heap.size w w' := by
 have hu45 := Try.underlying45
 have HB := Aside0.mk (Below.refl w.heap.size w)
 have H : ((impl_InRange.f a1 1 200).bind fun t318 => (if t318 = true then ((impl_InRange.f a0_0 0 (wrap64 (a1 - 1))).bind fun t319 => (if t319 = true then ((impl_InRange.f a0_1 0 a1).bind fun t320 => (some t320)) else (some false))) else (some false))) = some r := h
 clear h
 replace H := S.bd H; obtain ⟨t318, A3, H⟩ := H
 (try dsimp only at H)
 replace H := S.db H; rcases H with ⟨rfl, H⟩ | ⟨rfl, H⟩
 ·replace H := S.bd H; obtain ⟨t319, A5, H⟩ := H
  (try dsimp only at H)
  replace H := S.db H; rcases H with ⟨rfl, H⟩ | ⟨rfl, H⟩
  ·replace H := S.bd H; obtain ⟨t320, A7, H⟩ := H
   (try dsimp only at H)
   obtain rfl := Option.some.inj H
   go_enter Try.func39, Try.ntmps39
   go_wp2_with (first | ((with_reducible refine gate_dst (N := 2) rfl ?_); refine S.bx 2 (cs := #[.int .i64 a0_0, .int .i64 a0_1]) (t := 45) ?_; intro gb317 hg w8 hbox hb; have BK317 := Aside0.mk hbox; have GW317 := S.geA hg; have GE317 := S.geA hg; replace HB := S.sA hb; clear hb hbox hg) | ((with_reducible refine gate_callee (f := 62) rfl ?_); refine S.gL (some 6) Try.func62 #[.int .i64 a1, .int .i64 1, .int .i64 200] ?_; (with_reducible refine (impl_InRange.calls a1 1 200 true _ A3.out).mono ?_); rintro e w' ⟨rfl, ⟨nd, rfl⟩⟩; refine ⟨_, rfl, ?_⟩; obtain ⟨Z9a, Z9b, Y9a, Y9b⟩ := S.c2 BK317.out) | (go_at_call 62; (with_reducible refine (impl_InRange.calls a0_0 0 (wrap64 (a1 - 1)) true _ A5.out).mono ?_); rintro e w' ⟨rfl, ⟨nd, rfl⟩⟩) | (go_at_call 62; (with_reducible refine (impl_InRange.calls a0_1 0 a1 t320 _ A7.out).mono ?_); rintro e w' ⟨rfl, ⟨nd, rfl⟩⟩))
   go_ret
   exact ⟨S.eW, S.bG⟩
  ·obtain rfl := Option.some.inj H
   go_enter Try.func39, Try.ntmps39
   go_wp2_with (first | ((with_reducible refine gate_dst (N := 2) rfl ?_); refine S.bx 2 (cs := #[.int .i64 a0_0, .int .i64 a0_1]) (t := 45) ?_; intro gb317 hg w10 hbox hb; have BK317 := Aside0.mk hbox; have GW317 := S.geA hg; have GE317 := S.geA hg; replace HB := S.sA hb; clear hb hbox hg) | ((with_reducible refine gate_callee (f := 62) rfl ?_); refine S.gL (some 6) Try.func62 #[.int .i64 a1, .int .i64 1, .int .i64 200] ?_; (with_reducible refine (impl_InRange.calls a1 1 200 true _ A3.out).mono ?_); rintro e w' ⟨rfl, ⟨nd, rfl⟩⟩; refine ⟨_, rfl, ?_⟩; obtain ⟨Z11a, Z11b, Y11a, Y11b⟩ := S.c2 BK317.out) | (go_at_call 62; (with_reducible refine (impl_InRange.calls a0_0 0 (wrap64 (a1 - 1)) false _ A5.out).mono ?_); rintro e w' ⟨rfl, ⟨nd, rfl⟩⟩))
   go_ret
   exact ⟨S.eW, S.bG⟩
 ·obtain rfl := Option.some.inj H
  go_enter Try.func39, Try.ntmps39
  go_wp2_with (first | ((with_reducible refine gate_dst (N := 2) rfl ?_); refine S.bx 2 (cs := #[.int .i64 a0_0, .int .i64 a0_1]) (t := 45) ?_; intro gb317 hg w12 hbox hb; have BK317 := Aside0.mk hbox; have GW317 := S.geA hg; have GE317 := S.geA hg; replace HB := S.sA hb; clear hb hbox hg) | ((with_reducible refine gate_callee (f := 62) rfl ?_); refine S.gL (some 6) Try.func62 #[.int .i64 a1, .int .i64 1, .int .i64 200] ?_; (with_reducible refine (impl_InRange.calls a1 1 200 false _ A3.out).mono ?_); rintro e w' ⟨rfl, ⟨nd, rfl⟩⟩; refine ⟨_, rfl, ?_⟩))
  go_ret
  exact ⟨S.eW, S.bG⟩

/-! ### impl_Mod: function 82 -/
def impl_Mod.f (a0 : Int) (a1 : Int) : Option (Int) := (impl_InRange.f a1 1 1000000000000).bind fun t321 => (if t321 = true then (if a1 = 0 then (none) else (if (Int.tmod a0 a1) < 0 then (some (wrap64 ((Int.tmod a0 a1) + a1))) else (some (Int.tmod a0 a1)))) else (some 0))
set_option maxHeartbeats 8000000 in
set_option maxRecDepth 100000 in
theorem impl_Mod.calls (a0 : Int) (a1 : Int) (r : Int) (w : World) (h : impl_Mod.f a0 a1 = some r) :
  Calls Try.prog 82 #[.int .i64 a0, .int .i64 a1] w fun e w' => e = .returned (.int .i64 r) ∧ Drawn0 w w' := by
 have H : ((impl_InRange.f a1 1 1000000000000).bind fun t321 => (if t321 = true then (if a1 = 0 then (none) else (if (Int.tmod a0 a1) < 0 then (some (wrap64 ((Int.tmod a0 a1) + a1))) else (some (Int.tmod a0 a1)))) else (some 0))) = some r := h
 clear h
 replace H := S.bd H; obtain ⟨t321, A3, H⟩ := H
 (try dsimp only at H)
 replace H := S.db H; rcases H with ⟨rfl, H⟩ | ⟨rfl, H⟩
 ·by_cases c5 : a1 = 0
  ·rw [if_pos c5] at H
   exact absurd H (by simp)
  ·rw [if_neg c5] at H
   have c5b0 : (a1 == 0) = false := beq_eq_false_iff_ne.mpr c5
   have c5b1 : (a1 != 0) = true := bne_iff_ne.mpr c5
   replace H := S.dc H; rcases H with ⟨H, c6b0⟩ | ⟨H, c6b0⟩
   ·obtain rfl := Option.some.inj H
    go_enter Try.func82, Try.ntmps82
    go_wp2_with (first | ((with_reducible refine gate_callee (f := 62) rfl ?_); refine S.gL (some 7) Try.func62 #[.int .i64 a1, .int .i64 1, .int .i64 1000000000000] ?_; (with_reducible refine (impl_InRange.calls a1 1 1000000000000 true _ A3.out).mono ?_); rintro e w' ⟨rfl, ⟨nd, rfl⟩⟩; refine ⟨_, rfl, ?_⟩))
    go_ret
    exact ⟨S.eA, by repeat (first | exact Drawn0.refl _ | apply Drawn0.step)⟩
   ·obtain rfl := Option.some.inj H
    go_enter Try.func82, Try.ntmps82
    go_wp2_with (first | ((with_reducible refine gate_callee (f := 62) rfl ?_); refine S.gL (some 7) Try.func62 #[.int .i64 a1, .int .i64 1, .int .i64 1000000000000] ?_; (with_reducible refine (impl_InRange.calls a1 1 1000000000000 true _ A3.out).mono ?_); rintro e w' ⟨rfl, ⟨nd, rfl⟩⟩; refine ⟨_, rfl, ?_⟩))
    go_ret
    exact ⟨S.eA, by repeat (first | exact Drawn0.refl _ | apply Drawn0.step)⟩
 ·obtain rfl := Option.some.inj H
  go_enter Try.func82, Try.ntmps82
  go_wp2_with (first | ((with_reducible refine gate_callee (f := 62) rfl ?_); refine S.gL (some 7) Try.func62 #[.int .i64 a1, .int .i64 1, .int .i64 1000000000000] ?_; (with_reducible refine (impl_InRange.calls a1 1 1000000000000 false _ A3.out).mono ?_); rintro e w' ⟨rfl, ⟨nd, rfl⟩⟩; refine ⟨_, rfl, ?_⟩))
  go_ret
  exact ⟨S.eA, by repeat (first | exact Drawn0.refl _ | apply Drawn0.step)⟩
end Go.Proofs.Ytjgigmghcfdomaa.PFnWaves
