/- Printed by a program: what the Go functions compute, as plain Lean functions (.f), and the proofs that the machine's calls come to just that (.calls). -/
import Derived.Test.YtjgigmghcfdomaaPFnExactMakeSwitchx0
import Derived.Test.YtjgigmghcfdomaaPFnExactMakeSwitchx23
namespace Go.Proofs.Ytjgigmghcfdomaa.PFnExactMakeSwitch
open Go.RowKit Go.Proofs.YtjgigmghcfdomaaW.PrintWords Go.Proofs.YtjgigmghcfdomaaW.PrintLast Go.Proofs.YtjgigmghcfdomaaW.PrintMore
attribute [local go_sem] max2_int min2_int max_two min_two max_three min_three max_four min_four   -- for this text's walks alone
set_option linter.unusedVariables false
set_option linter.unusedSimpArgs false

/-! ### impl_clonePlan: function 86 -/
def impl_clonePlan.l0 : Nat → List (S85) → List (S85) → Int → Int → Option ((List (S85)))
 | 0, _, _, _, _ => none
 | k + 1, x3, x7, x8, x9 => if x9 < x8 then (if 0 ≤ x9 then (if x9 < (x7.length : Int) then ((slices_Clone_int_int.f ((rd_T85 x7 x9).f0)).bind fun t447 => (if x3.length < 4398046511104 then (impl_clonePlan.l0 k (x3 ++ [(⟨t447, (rd_T85 x7 x9).f1⟩ : S85)]) x7 x8 (wrap64 (x9 + 1))) else (none))) else (none)) else (none)) else (some x3)
def impl_clonePlan.f (k : Nat) (l0 : List (S85)) : Option ((List (S85))) := impl_clonePlan.l0 k (([] : List (S85))) l0 (l0.length : Int) 0
def impl_clonePlan.T5 : Bool × List (List Nat × List Nat) := (true, [([], []), ([], []), ([1], [1]), ([2], [2]), ([], []), ([4], [4]), ([3, 5], [3, 5]), ([6], [6]), ([0, 7, 3], [0, 7]), ([8, 8, 0, 1, 2, 3, 4, 5, 6, 7, 8], [0, 8])])
def impl_clonePlan.B5 : List Nat := [0, 0, 2, 6, 0, 16, 62, 126, 255, 511]
theorem impl_clonePlan.tab5 : rtab .any (opsOf Try.f86 5) = impl_clonePlan.T5 := by kernel_rfl
theorem impl_clonePlan.bits5 : waitsOk impl_clonePlan.T5.2 impl_clonePlan.B5 = true := by kernel_rfl
set_option maxHeartbeats 8000000 in
set_option maxRecDepth 100000 in
theorem impl_clonePlan.calls (k : Nat) (A0 : Option Addr) (c0 : Nat) (l0 : List (S85)) (r : List (S85)) (w : World) (hr0 : Kd.C k85 w A0 l0.length l0) (hc0 : l0.length ≤ c0) (h : impl_clonePlan.f k l0 = some r) :
  Calls Try.prog 86 #[.slice A0 l0.length c0] w fun e w' => ∃ v0_ : Value, e = .returned (v0_) ∧ Kd.S k85 85 w' w.heap.size (fun _ => True) v0_ r ∧ Below w.heap.size w w' := by
 have hu85 := Try.underlying85
 have HR0 := Aside0.mk hr0
 have HC0 := Aside0.mk hc0
 clear hr0 hc0
 have HB := Aside0.mk (Below.refl w.heap.size w)
 have H : (impl_clonePlan.l0 k (([] : List (S85))) l0 (l0.length : Int) 0) = some r := h
 clear h
 obtain ⟨y442, hy442⟩ : ∃ y_ : List (S85), y_ = (([] : List (S85))) := ⟨_, rfl⟩
 replace H : (impl_clonePlan.l0 k y442 l0 (l0.length : Int) 0) = some r := by first | (rw [hy442]; with_reducible exact H) | (have H2_ := (Option.bind_some _ _).symm.trans H; rw [hy442]; with_reducible exact H2_) | (have H2_ := (Option.bind_some _ _).symm.trans H; with_reducible exact H2_) | with_reducible exact H | (rw [hy442]; exact H) | exact H
 have Ny442 := Aside0.mk hy442
 clear hy442
 have H' := Aside0.mk H
 clear H
 go_enter Try.func86, Try.ntmps86
 go_wp2_with (first | ((with_reducible refine gate_dst (N := 6) rfl ?_); refine Kd.S_lit k85 _ 85 ?hg (N := 6) ?hd (xs := ([] : List (S85))) (inner := []) (ok := fun _ => True) (okp := fun _ => True) ?hr ?hp (fun _ hk => hk) trivial (Below.refl _ _) (Nat.le_refl _) (by simp) ?_; (case hd => rfl); (case hg => rfl); (case hr => first | (go_simp; done) | (go_simp; rfl)); (case hp => exact (Reps.none _ _)); intro v443 w2 ho3 hb hg_ hnew_; clear hg_ hnew_; (first | rw [← Ny442.out] at ho3 | (simp only [Int.reduceToNat] at ho3; rw [← Ny442.out] at ho3)); have HO444 := Aside0.mk (Kd.S_lower ho3 (below_size S.bA)); replace HB := S.sA hb; clear hb ho3))
 go_loopg [3, 9] k (fun kq v3 v9 w' => ∃ (x3_1 : List (S85)) (x9_1 : Int), v9 = .int .i64 x9_1 ∧ Aside0 (impl_clonePlan.l0 kq x3_1 l0 (l0.length : Int) x9_1 = some r) ∧ Aside0 (kq ≤ k) ∧ Aside0 (Kd.S k85 85 w' w.heap.size (fun _ => True) v3 x3_1) ∧ Aside0 (Below w.heap.size w w'))
 case atStart => exact ⟨(y442), (0), S.eA, H', ⟨Nat.le_refl _⟩, ⟨by (with_reducible repeat (first | apply Kd.S_alloc | apply Kd.S_drewN | apply Kd.S_drew)); exact HO444.out⟩, ⟨S.bA⟩⟩
 case round =>
  clear H'
  obtain ⟨x3_1, x9_1, rfl, HA, HK1, HO_3, HB⟩ := hrel
  cases gk with
  | zero => exact absurd HA.out (by simp [impl_clonePlan.l0])
  | succ k1 =>
   have H := HA.out
   clear HA
   simp only [impl_clonePlan.l0] at H
   replace H := S.dc H; rcases H with ⟨H, c4b0⟩ | ⟨H, c4b0⟩
   ·by_cases c5 : 0 ≤ x9_1
    ·rw [if_pos c5] at H
     have c5b0 : decide (0 ≤ x9_1) = true := decide_eq_true c5
     clear c5
     by_cases c6 : x9_1 < (l0.length : Int)
     ·rw [if_pos c6] at H
      have c6b0 : decide (x9_1 < (l0.length : Int)) = true := decide_eq_true c6
      clear c6
      replace H := S.bd H; obtain ⟨t447, A7, H⟩ := H
      (try dsimp only at H)
      by_cases c8 : x3_1.length < 4398046511104
      ·rw [if_pos c8] at H
       have LMc8 := Aside0.mk c8
       clear c8
       obtain ⟨y450, hy450⟩ : ∃ y_ : List (S85), y_ = (x3_1 ++ [(⟨t447, (rd_T85 l0 x9_1).f1⟩ : S85)]) := ⟨_, rfl⟩
       replace H : (impl_clonePlan.l0 k1 y450 l0 (l0.length : Int) (wrap64 (x9_1 + 1))) = some r := by first | (rw [hy450]; with_reducible exact H) | (have H2_ := (Option.bind_some _ _).symm.trans H; rw [hy450]; with_reducible exact H2_) | (have H2_ := (Option.bind_some _ _).symm.trans H; with_reducible exact H2_) | with_reducible exact H | (rw [hy450]; exact H) | exact H
       have Ny450 := Aside0.mk hy450
       clear hy450
       have H' := Aside0.mk H
       clear H
       have p445 : 0 ≤ (x9_1 : Int) := S.oD
       have q445 : x9_1 < (l0.length : Int) := S.oD
       obtain ⟨ad445, A445_0, c445_0, e445, hx445_0, hx445_1, hl445_0, hi445_0⟩ := at_T85 HR0.out x9_1 p445 q445
       cases e445
       replace hx445_0 := S.hb HB hx445_0
       replace hx445_1 := S.hb HB hx445_1
       have HR445_0 := Aside0.mk hi445_0
       have HC445_0 := Aside0.mk hl445_0
       clear hi445_0 hl445_0
       replace p445 := eq_true p445
       replace q445 := eq_true q445
       try go_wp2_with (first | ((with_reducible refine gate_dst (N := 5) rfl ?_); refine S.bx 5 (cs := #[.slice none 0 0, .int .i64 0]) (t := 85) ?_; intro gb446 hg w9 hbox hb; replace HO_3 := Aside0.mk (Kd.S_below (Kd.S_elderB (by (with_reducible repeat (first | apply Kd.S_alloc | apply Kd.S_drewN | apply Kd.S_drew)); exact HO_3.out) gb446 (Nat.le_of_eq hg.symm)) hb); have BK446 := Aside0.mk hbox; have GW446 := S.geA hg; have GE446 := S.geA hg; replace HB := S.sA hb; clear hb hbox hg; obtain ⟨Z10a, Z10b, Y10a, Y10b⟩ := S.c2 BK446.out))
       have n0_ : Aside0 (Kd.S k85 85 ((w9.setCell ⟨gb446, 0, none⟩ (.slice A445_0 ((rd_T85 l0 x9_1).f0).length c445_0)).setCell ⟨gb446, 1, none⟩ (.int .i64 ((rd_T85 l0 x9_1).f1))) w.heap.size (fun k_ => k_ ≠ gb446) u3 x3_1) := ⟨by (with_reducible repeat (first | apply Kd.S_alloc | apply Kd.S_drewN | apply Kd.S_drew)); exact Kd.S_mono (Kd.S_far (p := ⟨gb446, 1, none⟩) (Kd.S_far (p := ⟨gb446, 0, none⟩) (Kd.S_mono HO_3.out (fun k_ hk => (⟨hk, hk.2⟩ : _ ∧ k_ ≠ gb446))) (fun _ hk => hk.2) (.slice A445_0 ((rd_T85 l0 x9_1).f0).length c445_0)) (fun _ hk => hk.2) (.int .i64 ((rd_T85 l0 x9_1).f1))) (fun _ hk => hk.1.2)⟩
       have n1_ : Aside0 (((w9.setCell ⟨gb446, 0, none⟩ (.slice A445_0 ((rd_T85 l0 x9_1).f0).length c445_0)).setCell ⟨gb446, 1, none⟩ (.int .i64 ((rd_T85 l0 x9_1).f1))).heap[gb446]? = some (.cells #[.slice A445_0 ((rd_T85 l0 x9_1).f0).length c445_0, .int .i64 ((rd_T85 l0 x9_1).f1)] 85 (0, 0))) := ⟨S.up2 BK446⟩
       have n2_ : Aside0 (Below w.heap.size w ((w9.setCell ⟨gb446, 0, none⟩ (.slice A445_0 ((rd_T85 l0 x9_1).f0).length c445_0)).setCell ⟨gb446, 1, none⟩ (.int .i64 ((rd_T85 l0 x9_1).f1)))) := ⟨S.bG⟩
       (try clear HO_3)
       (try clear BK446)
       (try clear HB)
       generalize ((w9.setCell ⟨gb446, 0, none⟩ (.slice A445_0 ((rd_T85 l0 x9_1).f0).length c445_0)).setCell ⟨gb446, 1, none⟩ (.int .i64 ((rd_T85 l0 x9_1).f1))) = w11 at n0_ n1_ n2_ ⊢
       have HO_3 := n0_
       have BK446 := n1_
       have HB := n2_
       clear n0_ n1_ n2_
       replace HO_3 := Aside0.mk (Kd.S_drew HO_3.out)
       replace BK446 := Aside0.mk (blk_drew BK446.out)
       replace HB := Aside0.mk (below_drew1 HB.out)
       refine S.st (n := 10) (ds := []) #[false, false, false, false, false, false, false, false, false, false] (fun w_ h_ => have x_ := S.e2 (S.Q h_ BK446.out); x_) (fun hHeld => ?_); refine with_tabW impl_clonePlan.tab5 impl_clonePlan.bits5 (fun HT_ HW_ => ?_)
       generalize w11.drew = w12 at HO_3 BK446 HB hHeld ⊢
       refine S.pS 0 13 ?_
       refine S.pS 1 14 ?_
       refine S.pS 4 17 ?_
       refine S.tK 2 15 #[true, true, true, false, true, false, false, false, false, false] ?_
       refine S.tK 5 18 #[true, true, true, false, true, true, false, false, false, false] ?_
       refine S.oN 3 16 #[true, true, true, true, true, true, false, false, false, false] (fun K hK => ?_)
       refine S.go Try.func115 #[.slice A445_0 ((rd_T85 l0 x9_1).f0).length c445_0] ?_
       with_reducible refine (slices_Clone_int_int.calls _ _ ((rd_T85 l0 x9_1).f0) t447 _ ?s1 ?s2 A7.out).mono ?_
       (case s1 => exact S.cA HR445_0.out)
       (case s2 => exact HC445_0.out)
       rintro e w13 ⟨v448, rfl, ho0, hb⟩
       refine ⟨_, rfl, ?_⟩
       replace HO_3 := Aside0.mk (Kd.S_elder' (by (with_reducible repeat (first | apply Kd.S_alloc | apply Kd.S_drewN | apply Kd.S_drew)); exact HO_3.out) (Kd.R_base ho0) hb)
       have HO449 := S.lwG ho0
       replace BK446 := S.kb BK446 hb
       replace HB := S.sG hb
       (try clear hb)
       (try clear hb2)
       (try clear hk)
       (try clear hi)
       (try clear ho0)
       obtain ⟨Ao14, co14, eo14⟩ := Kd.R_slice HO449.out
       (first | subst eo14 | (injection eo14 with f1_ f2_ f3_; have f4_ := f1_.symm; have f5_ := f3_.symm; clear f1_ f2_ f3_; subst f4_; subst f5_))
       refine hK.out _ _ (S.e2 BK446.out) (fun hHeld => ?_)
       clear hK K
       refine S.nm 16 ?_
       refine S.pS 6 19 ?_
       refine S.oN 7 20 #[true, true, true, true, true, true, true, true, false, false] (fun K hK => ?_)
       refine value_ (w1 := ?_) (v := ?_) (by rfl) rfl ?_ ?_
       rotate_left 2
       ·go_simp
        constructor
        ·rfl
        ·rfl
       refine hK.out _ _ (And.intro ((blk_cell (blk_alloc BK446.out _) 0).trans rfl) ((blk_cell (blk_alloc BK446.out _) 1).trans rfl)) (fun hHeld => ?_)
       clear hK K
       refine S.nm 20 ?_
       refine S.oN 8 21 #[true, true, true, true, true, true, true, true, true, false] (fun K hK => ?_)
       refine Kd.S_append_step k85 (w0 := w) w.heap.size (by rfl) (.tmp 13) (.tmp 20) 29 85 (.agg #[(.slice none 0 0), (.int .i64 0)]) 32 rfl Try.underlying29 info85 rfl (by decide) (by omega) u3 x3_1 (⟨t447, (rd_T85 l0 x9_1).f1⟩ : S85) [.slice Ao14 t447.length co14, .int .i64 ((rd_T85 l0 x9_1).f1)] (fun k_ => k_ ≠ gb446) (fun k_ => some k_ = (.slice Ao14 t447.length co14 : Value).ownBlock) rfl rfl ?aP (fun k_ hk_ => ((Kd.R_mono (ok' := fun k_ => ((fun k_ => k_ ≠ gb446)) k_ ∧ some k_ ≠ (u3 : Value).ownBlock) (Kd.R_types (Kd.R_apart' (HO449.out) (Kd.S_typed HO_3.out) (by decide)) BK446.out (by decide)) (fun k_ hk => ⟨hk.2, hk.1.2⟩))).1 k_ hk_.symm) ?aF ?aO ?aB ?aS ?aL ?_
       (case aP => exact k85_mkM _ _ _ (⟨t447, (rd_T85 l0 x9_1).f1⟩ : S85) (Kd.R_mono (Kd.R_tight rfl (Kd.R_mono (ok' := fun k_ => ((fun k_ => k_ ≠ gb446)) k_ ∧ some k_ ≠ (u3 : Value).ownBlock) (Kd.R_types (Kd.R_apart' (HO449.out) (Kd.S_typed HO_3.out) (by decide)) BK446.out (by decide)) (fun k_ hk => ⟨hk.2, hk.1.2⟩))) (fun _ h_ => h_)))
       (case aB => exact S.bG)
       (case aF => exact (fun k_ hk => Kd.freshB (g := gb446) (o := .cells #[.slice A445_0 ((rd_T85 l0 x9_1).f0).length c445_0, .int .i64 ((rd_T85 l0 x9_1).f1)] 85 (0, 0)) (S.uB BK446.out) k_ hk))
       (case aO => exact (by (with_reducible repeat (first | apply Kd.S_alloc | apply Kd.S_drewN | apply Kd.S_drew)); exact Kd.S_mono HO_3.out (fun k_ hk => ⟨hk.1, fun e_ => hk.2 e_⟩)))
       (case aS => exact (below_size S.bG))
       (case aL => have := LMc8.out; omega)
       intro v451 w15 ho hb hg hat
       rw [← Ny450.out] at ho
       have n0_ := Aside0.mk (blk_grown (g := gb446) (o := .cells #[.slice A445_0 ((rd_T85 l0 x9_1).f0).length c445_0, .int .i64 ((rd_T85 l0 x9_1).f1)] 85 (0, 0)) (S.uB BK446.out) hg (Kd.S_away HO_3.out (fun _ hk => hk.1)))
       have n1_ := Aside0.mk (hb)
       have n2_ := Aside0.mk (ho)
       clear BK446
       clear HB
       clear HO_3
       clear HO449
       have BK446 := n0_
       have HB := n1_
       have HO452 := n2_
       clear n0_ n1_ n2_
       clear ho hb hg hat
       refine hK.out _ _ (S.e2 BK446.out) (fun hHeld => ?_)
       clear hK K
       refine S.nm 21 ?_
       refine S.pS 9 3 ?_
       refine done_ (done_of HT_.out (by kernel_rfl)) ?_
       try go_wp2
       go_roundg k1
       case measure => have := HK1.out; omega
       case rel => exact ⟨(y450), (wrap64 (x9_1 + 1)), S.eA, H', ⟨by have := HK1.out; omega⟩, ⟨by (with_reducible repeat (first | apply Kd.S_alloc | apply Kd.S_drewN | apply Kd.S_drew)); exact Kd.S_mono HO452.out (fun _ hk => trivial)⟩, ⟨S.bG⟩⟩
      ·rw [if_neg c8] at H
       exact absurd H (by simp)
     ·rw [if_neg c6] at H
      exact absurd H (by simp)
    ·rw [if_neg c5] at H
     exact absurd H (by simp)
   ·obtain rfl := Option.some.inj H
    go_wp2
    go_ret
    exact ⟨_, S.eW, by (with_reducible repeat (first | apply Kd.S_alloc | apply Kd.S_drewN | apply Kd.S_drew)); exact HO_3.out, S.bA⟩

-- NOT PRINTED: function 122 (impl_Part_122)

-- NOT PRINTED: function 91 (impl_Part_91)

/-! ## rows taken apart and put together -/
namespace Rot
section
variable {α : Type} {d : Kd α} {e base : Nat} {w w1 : World} {ok ok' : Nat → Prop} {v : Value} {xs : List α}
/-- The cells of a row whose elements' inner rows lie apart: each element's own blocks are those that f gives to it. -/
theorem S_cells {A : Option Addr} {n c : Nat} (h : Kd.S d e w base ok (.slice A n c) xs) : ∃ (f : Nat → Nat) (cells : List (List Value)), cells.length = xs.length ∧ (Kd.raw d.sz).C w A xs.length cells ∧
  ∀ j x cs, xs[j]? = some x → cells[j]? = some cs → d.M w base (fun k => ok k ∧ f k = j) x cs := by
 have hread := Kd.S_reads' h
 have hform := fun hp => Kd.S_form h hp
 obtain ⟨f, h0, inner, ho, hr⟩ := h
 rw [List.length_zipIdx] at ho
 have hrl : inner.length = xs.length * d.sz := by have := hr.1; rwa [List.length_zipIdx] at this
 have hM : ∀ j x, xs[j]? = some x → d.M w base (fun k => ok k ∧ f k = j) x ((inner.drop (j * d.sz)).take d.sz) := fun j x hj =>
  d.M_mono (fun k hk => ⟨hk.1.1, hk.2⟩) (hr.2 j (x, j) (Kd.zip_at hj))
 refine ⟨f, (List.range xs.length).map (fun j => (inner.drop (j * d.sz)).take d.sz), by simp, ?_, fun j x cs hj hc => ?_⟩
 ·refine ⟨by simp, hread.2.2.2.1, fun hp => ?_⟩
  obtain ⟨g, cap, ev, _⟩ := hform hp
  injection ev with hA hn hcap
  refine ⟨_, hA, fun j p hj => ?_⟩
  have hj2 : j < xs.length := by
   have := (List.getElem?_eq_some_iff.1 hj).1
   simpa using this
  have hpe : p = (inner.drop (j * d.sz)).take d.sz := by
   rw [List.getElem?_map, List.getElem?_range hj2] at hj
   exact (Option.some.inj hj).symm
  have hK := d.K_of_M (hM j _ (List.getElem?_eq_getElem hj2))
  refine ⟨p, by rw [hpe]; exact d.K_len hK, ⟨rfl, by rw [hpe]; exact d.K_len hK, by rw [hpe]; exact d.K_one hK⟩, fun i u hu => ?_⟩
  rw [hpe, List.getElem?_take] at hu
  split at hu
  ·rw [List.getElem?_drop] at hu
   have := ho.cells (g := g) (by rw [hA]; simp [Value.ownBlock]) _ u hu
   rw [add_plain] at this
   rw [add_at, Nat.zero_add]
   exact this
  ·cases hu
 ·rw [List.getElem?_map] at hc
  obtain ⟨i, hi, rfl⟩ := Option.map_eq_some_iff.1 hc
  have : i = j := by
   obtain ⟨h1, h2⟩ := List.getElem?_eq_some_iff.1 hi
   simpa using h2.symm
  subst this
  exact hM i x hj
/-- A row of cells, each element's blocks told one by one and apart: a row whose elements lie apart. -/
theorem S_rebuild {cells : List (List Value)} {ok0 : Nat → Prop} {base0 : Nat} (h : (Kd.raw d.sz).R e w base0 ok0 v cells) (hb : base ≤ base0) (hl : cells.length = xs.length) (okj : Nat → Nat → Prop)
  (hM : ∀ j x cs, xs[j]? = some x → cells[j]? = some cs → d.M w base (okj j) x cs) (hap : ∀ i j k, okj i k → okj j k → i = j) (hok : ∀ j k, okj j k → ok k ∧ some k ≠ v.ownBlock) (h0 : ∀ k, v.ownBlock = some k → ok k) : Kd.S d e w base ok v xs := by
 obtain ⟨_, inner, ho, hr⟩ := h
 obtain ⟨f, hf⟩ := Kd.reps_tag (d := d) (w := w) (base := base) (ok := fun k => ok k ∧ some k ≠ v.ownBlock) (xs := xs) (inner := inner) okj hap hok (by rw [← hl]; exact hr.1) (fun j x hx => by
  have hj : j < cells.length := by rw [hl]; exact (List.getElem?_eq_some_iff.1 hx).1
  have hc := hr.2 j _ (List.getElem?_eq_getElem hj)
  refine hM j x _ hx ?_
  rw [List.getElem?_eq_getElem hj]
  exact congrArg some hc.1.symm)
 exact ⟨f, h0, inner, by rw [List.length_zipIdx, ← hl]; exact own_weaken ho hb, hf⟩
end
theorem turn_at {α : Type} (xs : List α) (i j : Nat) (hi : i ≤ xs.length) : (xs.drop i ++ xs.take i)[j]? = if j < xs.length - i then xs[i + j]? else if j < xs.length then xs[j - (xs.length - i)]? else none := by
 by_cases h : j < xs.length - i
 ·rw [if_pos h, List.getElem?_append_left (by rw [List.length_drop]; exact h), List.getElem?_drop]
 ·rw [if_neg h, List.getElem?_append_right (by rw [List.length_drop]; omega), List.length_drop, List.getElem?_take]
  by_cases h2 : j < xs.length
  ·rw [if_pos h2, if_pos (by omega)]
  ·rw [if_neg h2, if_neg (by omega)]
end Rot
/-! ## slices.Grow at nil -/
set_option maxHeartbeats 8000000 in
set_option maxRecDepth 100000 in
theorem Rot.grow (m : Int) (w : World) (hm : 0 ≤ m) (hn : m ≤ 4398046511104) : Calls Try.prog 122 #[.slice none 0 0, .int .i64 m] w fun e w' => ∃ v : Value, e = .returned v ∧ (Kd.raw 2).R 85 w' w.heap.size (fun _ => True) v [] ∧ Below w.heap.size w w' := by
 obtain ⟨n, rfl⟩ := Int.eq_ofNat_of_zero_le hm
 by_cases h0 : n = 0
 ·subst h0
  go_enter Try.func122, Try.ntmps122
  go_wp2
  go_ret
  exact ⟨_, rfl, Kd.R_nil _ _ _ _ _, Below.refl _ _⟩
 ·obtain ⟨i0, hi, hz0, hz1, hz2⟩ := info_parts info85
  have happ := Lib.run_append_nil_zeros (P := Try.prog) w 29 3 29 85 i0 _ .i64 .i64 Try.underlying29 Try.underlying3 hi hz0 n (by omega) (by omega) (by omega) (by rw [hz2]; omega)
  generalize hcap : grownCap w n 0 85 = cap2 at happ
  have hcapge : n ≤ cap2 := by rw [← hcap]; exact grownCap_ge w _ 0 85
  have hcaple : cap2 ≤ maxLen := by rw [← hcap]; exact grownCap_le_maxLen w _ 0 85 (by unfold maxLen; omega)
  generalize hZ : (Builtin.zeroCells (Value.agg #[.slice none 0 0, .int .i64 0]).cells n ++ Builtin.zeroCells (Value.agg #[.slice none 0 0, .int .i64 0]).cells (cap2 - n)) = Z at happ
  have hZs : Z.size = cap2 * 2 := by rw [← hZ]; simp [size_zeroCells, Value.cells]; omega
  clear hcap hZ
  have HG := Aside0.mk hcapge
  have HL := Aside0.mk hcaple
  have HZ := Aside0.mk hZs
  clear hcaple hZs
  have hpos : (0 : Int) < (n : Int) := by omega
  have hpos2 : decide ((n : Int) > 0) = true := decide_eq_true hpos
  have hneg : decide ((n : Int) < 0) = false := decide_eq_false (by omega)
  go_enter Try.func122, Try.ntmps122
  go_wp2_with (at_builtin; refine Lib.wpList_append_run _ rfl _ _ _ _ rfl _ _ rfl rfl _ _ happ ?_)
  go_ret
  refine ⟨_, rfl, ⟨fun _ _ => trivial, [], ⟨by simp, .inr ⟨_, _, Z, rfl, Nat.le_refl _, ?_, Nat.zero_le _, HL.out, HZ.out, by simp⟩⟩, Reps.none _ _⟩, ?_⟩
  ·exact heap_alloc_new w _
  ·exact ⟨rfl, rfl, rfl, by simp, fun k hk => Below.heap_alloc w _ k hk⟩
/-! ## slices.Concat of two rows of cells -/
set_option maxHeartbeats 8000000 in
set_option maxRecDepth 100000 in
theorem Rot.concat (A1 A2 : Option Addr) (n1 n2 c1 c2 g : Nat) (xs ys : List (List Value)) (w : World) (hx : (Kd.raw 2).C w A1 n1 xs) (hcx : n1 ≤ c1) (hy : (Kd.raw 2).C w A2 n2 ys) (hcy : n2 ≤ c2)
  (h0 : w.cell? ⟨g, 0, none⟩ = some (.slice A1 n1 c1)) (h1 : w.cell? ⟨g, 1, none⟩ = some (.slice A2 n2 c2)) (hn : n1 + n2 < 4398046511104) :
  Calls Try.prog 91 #[.slice (some ⟨g, 0, none⟩) 2 2] w fun e w' => ∃ v : Value, e = .returned v ∧ (Kd.raw 2).R 85 w' w.heap.size (fun _ => True) v (xs ++ ys) ∧ Below w.heap.size w w' := by
 obtain rfl : xs.length = n1 := hx.1
 obtain rfl : ys.length = n2 := hy.1
 have HX := Aside0.mk hx
 have HY := Aside0.mk hy
 have HN := Aside0.mk hn
 obtain ⟨zs, hzs⟩ : ∃ z, z = xs ++ ys := ⟨_, rfl⟩
 have NZ := Aside0.mk hzs
 rw [← hzs]
 clear hx hy hzs
 have hpx : (0 : Int) ≤ (xs.length : Int) := by omega
 have hw1 : wrap64 ((0 : Int) + (xs.length : Int)) = (xs.length : Int) := by unfold wrap64; omega
 have hw2 : wrap64 ((xs.length : Int) + (ys.length : Int)) = ((xs.length + ys.length : Nat) : Int) := by unfold wrap64; omega
 have hneg1 : decide ((xs.length : Int) < 0) = false := decide_eq_false (by omega)
 have hneg2 : decide (((xs.length : Int) + (ys.length : Int)) < 0) = false := decide_eq_false (by omega)
 go_enter Try.func91, Try.ntmps91
 go_wp2
 go_loopg [3, 5, 11] 2 (fun gg v3 _ v11 wr => w = wr ∧ ((v11 = .int .i64 0 ∧ v3 = .int .i64 0 ∧ 2 ≤ gg) ∨ (v11 = .int .i64 1 ∧ v3 = .int .i64 (xs.length : Int) ∧ 1 ≤ gg) ∨ (v11 = .int .i64 2 ∧ v3 = .int .i64 ((xs.length : Int) + (ys.length : Int)))))
 case atStart => exact ⟨rfl, .inl ⟨rfl, rfl, Nat.le_refl _⟩⟩
 case round =>
  obtain ⟨rfl, ⟨rfl, rfl, hg⟩ | ⟨rfl, rfl, hg⟩ | ⟨rfl, rfl⟩⟩ := hrel
  ·go_wp2
   go_roundg 1
   case measure => omega
   case rel => exact ⟨rfl, .inr (.inl ⟨by go_num, by go_num, Nat.le_refl _⟩)⟩
  ·go_wp2
   go_roundg 0
   case measure => omega
   case rel => exact ⟨rfl, .inr (.inr ⟨by go_num, by go_num⟩)⟩
  ·go_wp2_with (first | ((with_reducible refine gate_callee (f := 122) rfl ?_); refine S.gL (some 24) Try.func122 #[.slice none 0 0, .int .i64 ((xs.length : Int) + (ys.length : Int))] ?_; (with_reducible refine (Rot.grow _ _ ?s1 ?s2).mono ?_); (case s1 => omega); (case s2 => have := HN.out; omega); rintro e w1 ⟨v0, rfl, ho0, hb⟩; refine ⟨_, rfl, ?_⟩; have HO := Aside0.mk ho0; have HB := Aside0.mk hb; clear hb ho0))
   go_loopg [6, 8, 27] 2 (fun gg v6 _ v27 wr => Aside0 (Below w.heap.size w wr) ∧ ((v27 = .int .i64 0 ∧ 2 ≤ gg ∧ Aside0 ((Kd.raw 2).R 85 wr w.heap.size (fun _ => True) v6 [])) ∨ (v27 = .int .i64 1 ∧ 1 ≤ gg ∧ Aside0 ((Kd.raw 2).R 85 wr w.heap.size (fun _ => True) v6 xs)) ∨ (v27 = .int .i64 2 ∧ Aside0 ((Kd.raw 2).R 85 wr w.heap.size (fun _ => True) v6 zs))))
   case atStart => exact ⟨HB, .inl ⟨rfl, Nat.le_refl _, HO⟩⟩
   case round =>
    clear HO HB
    obtain ⟨HB, ⟨rfl, hg, HO⟩ | ⟨rfl, hg, HO⟩ | ⟨rfl, HO⟩⟩ := hrel
    ·replace h0 := S.hb HB h0
     replace h1 := S.hb HB h1
     go_wp2_with (first | ((with_reducible refine gate_builtin (b := .append) (xs := #[.tmp 31, .tmp 32]) rfl ?_); at_builtin; refine Kd.R_append_rows (Kd.raw 2) (w0 := w) w.heap.size rfl (.tmp 31) (.tmp 32) 29 85 (.agg #[.slice none 0 0, .int .i64 0]) 32 rfl Try.underlying29 info85 rfl (by decide) (by omega) u6 [] xs _ _ _ (fun _ => True) (fun _ => False) rfl rfl ?aO ?aR (fun _ _ h => h) (fun _ h => h.elim) (fun _ _ => trivial) ?aB ?aS ?aL ?_; (case aR => exact (Kd.C_below HX.out HB.out)); (case aB => exact HB.out); (case aO => exact HO.out); (case aS => exact (below_size HB.out)); (case aL => have := HN.out; simp only [List.length_nil]; omega); intro v113 w8 ho hb hg2 hat; rw [List.nil_append] at ho; replace HO := Aside0.mk ho; replace HB := Aside0.mk hb; clear ho hb hg2 hat))
     go_roundg 1
     case measure => omega
     case rel => exact ⟨HB, .inr (.inl ⟨by go_num, Nat.le_refl _, HO⟩)⟩
    ·replace h0 := S.hb HB h0
     replace h1 := S.hb HB h1
     go_wp2_with (first | ((with_reducible refine gate_builtin (b := .append) (xs := #[.tmp 31, .tmp 32]) rfl ?_); at_builtin; refine Kd.R_append_rows (Kd.raw 2) (w0 := w) w.heap.size rfl (.tmp 31) (.tmp 32) 29 85 (.agg #[.slice none 0 0, .int .i64 0]) 32 rfl Try.underlying29 info85 rfl (by decide) (by omega) u6 xs ys _ _ _ (fun _ => True) (fun _ => False) rfl rfl ?aO ?aR (fun _ _ h => h) (fun _ h => h.elim) (fun _ _ => trivial) ?aB ?aS ?aL ?_; (case aR => exact (Kd.C_below HY.out HB.out)); (case aB => exact HB.out); (case aO => exact HO.out); (case aS => exact (below_size HB.out)); (case aL => have := HN.out; omega); intro v113 w8 ho hb hg2 hat; rw [← NZ.out] at ho; replace HO := Aside0.mk ho; replace HB := Aside0.mk hb; clear ho hb hg2 hat))
     go_roundg 0
     case measure => omega
     case rel => exact ⟨HB, .inr (.inr ⟨by go_num, HO⟩)⟩
    ·go_wp2
     go_ret
     exact ⟨_, rfl, HO.out, HB.out⟩
/-! ### impl_RotatePlan: function 53 -/
def impl_RotatePlan.f (k : Nat) (l0 : List (S85)) (a1 : Int) : Option (List (S85)) := (impl_clonePlan.f k l0).bind fun t => if t.length < 4398046511104 then (if 0 ≤ a1 then (if a1 < (l0.length : Int) then (if a1 ≤ (t.length : Int) then some (t.drop a1.toNat ++ t.take a1.toNat) else none) else some t) else some t) else none
set_option maxHeartbeats 8000000 in
set_option maxRecDepth 100000 in
theorem impl_RotatePlan.calls (k : Nat) (A0 : Option Addr) (c0 : Nat) (l0 : List (S85)) (a1 : Int) (r : List (S85)) (w : World) (hr0 : Kd.C k85 w A0 l0.length l0) (hc0 : l0.length ≤ c0) (h : impl_RotatePlan.f k l0 a1 = some r) :
 Calls Try.prog 53 #[.slice A0 l0.length c0, .int .i64 a1] w fun e w' => ∃ v0_ : Value, e = .returned (v0_) ∧ Kd.S k85 85 w' w.heap.size (fun _ => True) v0_ r ∧ Below w.heap.size w w' := by
 have HR0 := Aside0.mk hr0
 have HC0 := Aside0.mk hc0
 have hbig : l0.length ≤ 9223372036854775807 := hr0.2.1
 clear hr0 hc0
 unfold impl_RotatePlan.f at h
 obtain ⟨t, ht, h⟩ := Option.bind_eq_some_iff.1 h
 have AT := Aside0.mk ht
 clear ht
 by_cases hn : t.length < 4398046511104
 ·rw [if_pos hn] at h
  have HN := Aside0.mk hn
  clear hn
  by_cases h1 : 0 ≤ a1
  ·rw [if_pos h1] at h
   have d1 : decide (a1 < 0) = false := decide_eq_false (by omega)
   by_cases h2 : a1 < (l0.length : Int)
   ·rw [if_pos h2] at h
    have d2 : decide ((l0.length : Int) ≤ a1) = false := decide_eq_false (by omega)
    by_cases h3 : a1 ≤ (t.length : Int)
    ·rw [if_pos h3] at h
     have H := Aside0.mk (Option.some.inj h)
     have H3 := Aside0.mk h3
     clear h h3
     go_enter Try.func53, Try.ntmps53
     go_wp2_with (first | ((with_reducible refine gate_callee (f := 86) rfl ?_); refine S.gL (some 7) Try.func86 #[.slice A0 l0.length c0] ?_; (with_reducible refine (impl_clonePlan.calls k _ _ l0 t _ HR0.out HC0.out AT.out).mono ?_); rintro e w1 ⟨v0, rfl, ho0, hb⟩; refine ⟨_, rfl, ?_⟩; have HO := Aside0.mk ho0; have HB := Aside0.mk hb; clear hb ho0; obtain ⟨Ao, co, eo⟩ := Kd.S_slice HO.out; subst eo))
     obtain ⟨f, cells, hcl, hcC, hcM⟩ := Rot.S_cells HO.out
     have hlen : t.length ≤ co := (Kd.S_reads' HO.out).2.1
     have hi3 : a1.toNat ≤ t.length := by have := H3.out; omega
     obtain ⟨i0, hi0, _, hsz0, _⟩ := info_parts info85
     have hcutA := cut_from (P := Try.prog) 29 85 .i64 Try.underlying29 hi0 2 hsz0 Ao t.length co a1 h1 (by have := H3.out; omega)
     have hcutB := cut_to (P := Try.prog) 29 85 .i64 Try.underlying29 hi0 Ao t.length co a1 h1 (by have := H3.out; omega) hlen
     have hcC2 : (Kd.raw 2).C w1 Ao cells.length cells := by rw [hcl]; exact hcC
     have hcx : (Kd.raw 2).C w1 (if co = a1.toNat then Ao else Ao.map (·.add (a1.toNat * 2))) (cells.drop a1.toNat).length (cells.drop a1.toNat) := Kd.C_drop hcC2 (by omega) (by omega)
     have hcy : (Kd.raw 2).C w1 Ao (cells.take a1.toNat).length (cells.take a1.toNat) := Kd.C_take hcC2 (by omega)
     rw [List.length_drop, hcl] at hcx
     rw [List.length_take, show min a1.toNat cells.length = a1.toNat by omega] at hcy
     generalize (if co = a1.toNat then Ao else Ao.map (·.add (a1.toNat * 2))) = Ax at hcutA hcx
     have HCX := Aside0.mk hcx
     have HCY := Aside0.mk hcy
     have HCL := Aside0.mk hcl
     have HCM := Aside0.mk hcM
     have HI3 := Aside0.mk hi3
     have HLEN := Aside0.mk hlen
     have hb2 : Below w1.heap.size w1 w1.drew := below_drew (Below.refl _ _)
     have HB2 := Aside0.mk hb2
     clear hcx hcy hcl hcM hcC hcC2 hi0 hsz0 hi3 hlen hb2
     go_still_tail 6, (by kernel_rfl)
     change wpList _ _ _ _ _ w1.drew
     generalize w1.drew = w2 at HB2 ⊢
     go_wp2_with (fail)
     refine (Rot.concat Ax Ao (t.length - a1.toNat) a1.toNat (co - a1.toNat) co w2.heap.size (cells.drop a1.toNat) (cells.take a1.toNat) _ ?x1 ?x2 ?x3 ?x4 ?x5 ?x6 ?x7).mono ?_
     case x1 => exact Kd.C_below HCX.out (below_alloc HB2.out _)
     case x2 => have := HLEN.out; omega
     case x3 => exact Kd.C_below HCY.out (below_alloc HB2.out _)
     case x4 => have := HLEN.out; have := HI3.out; omega
     case x5 => simp
     case x6 => simp
     case x7 => have := HN.out; have := HI3.out; omega
     rintro e w3 ⟨v, rfl, hr, hb⟩
     dsimp only
     have hB3 := below_step (below_alloc HB2.out (.cells #[Value.slice Ax (t.length - a1.toNat) (co - a1.toNat), Value.slice Ao a1.toNat co] 29)) hb
     have HB3 := Aside0.mk hB3
     have HR := Aside0.mk hr
     have HS := Aside0.mk (below_size (below_step HB.out (below_alloc HB2.out (.cells #[Value.slice Ax (t.length - a1.toNat) (co - a1.toNat), Value.slice Ao a1.toNat co] 29))))
     have HS1 := Aside0.mk (below_size (below_alloc HB2.out (.cells #[Value.slice Ax (t.length - a1.toNat) (co - a1.toNat), Value.slice Ao a1.toNat co] 29)))
     clear hb hr hB3
     go_wp2_with (fail)
     go_ret
     refine ⟨_, rfl, ?_, below_step HB.out HB3.out⟩
     rw [← H.out]
     have hcl := HCL.out
     have hi3 := HI3.out
     refine Rot.S_rebuild (d := k85) HR.out HS.out (by simp only [List.length_append, List.length_drop, List.length_take]; omega) (fun j k => j < t.length ∧ f k = (if j < t.length - a1.toNat then a1.toNat + j else j - (t.length - a1.toNat)) ∧ k < w1.heap.size) ?_ ?_ ?_ (fun _ _ => trivial)
     ·intro j x cs hx hc
      rw [Rot.turn_at _ _ _ hi3] at hx
      rw [Rot.turn_at _ _ _ (by omega), hcl] at hc
      by_cases hj : j < t.length - a1.toNat
      ·rw [if_pos hj] at hx hc
       exact k85.M_mono (fun k hk => ⟨by omega, by rw [if_pos hj]; exact hk.1.2, hk.2.2.1⟩) (Kd.M_below (k85.M_bound (HCM.out _ x cs hx hc)) HB3.out)
      ·rw [if_neg hj] at hx hc
       by_cases hj2 : j < t.length
       ·rw [if_pos hj2] at hx hc
        exact k85.M_mono (fun k hk => ⟨hj2, by rw [if_neg hj]; exact hk.1.2, hk.2.2.1⟩) (Kd.M_below (k85.M_bound (HCM.out _ x cs hx hc)) HB3.out)
       ·rw [if_neg hj2] at hx
        cases hx
     ·rintro i j k ⟨h5, h6, _⟩ ⟨h7, h8, _⟩
      rw [h6] at h8
      split at h8 <;> split at h8 <;> omega
     ·rintro j k ⟨_, _, h5⟩
      refine ⟨trivial, fun h6 => ?_⟩
      have h7 := Kd.R_base HR.out k h6.symm
      have h8 := HS1.out
      omega
    ·rw [if_neg h3] at h
     cases h
   ·rw [if_neg h2] at h
    have d2 : decide ((l0.length : Int) ≤ a1) = true := decide_eq_true (by omega)
    obtain rfl := Option.some.inj h
    clear h
    go_enter Try.func53, Try.ntmps53
    go_wp2_with (first | ((with_reducible refine gate_callee (f := 86) rfl ?_); refine S.gL (some 7) Try.func86 #[.slice A0 l0.length c0] ?_; (with_reducible refine (impl_clonePlan.calls k _ _ l0 t _ HR0.out HC0.out AT.out).mono ?_); rintro e w1 ⟨v0, rfl, ho0, hb⟩; refine ⟨_, rfl, ?_⟩; have HO := Aside0.mk ho0; have HB := Aside0.mk hb; clear hb ho0))
    go_ret
    exact ⟨_, rfl, HO.out, HB.out⟩
  ·rw [if_neg h1] at h
   have d1 : decide (a1 < 0) = true := decide_eq_true (by omega)
   obtain rfl := Option.some.inj h
   clear h
   go_enter Try.func53, Try.ntmps53
   go_wp2_with (first | ((with_reducible refine gate_callee (f := 86) rfl ?_); refine S.gL (some 7) Try.func86 #[.slice A0 l0.length c0] ?_; (with_reducible refine (impl_clonePlan.calls k _ _ l0 t _ HR0.out HC0.out AT.out).mono ?_); rintro e w1 ⟨v0, rfl, ho0, hb⟩; refine ⟨_, rfl, ?_⟩; have HO := Aside0.mk ho0; have HB := Aside0.mk hb; clear hb ho0))
   go_ret
   exact ⟨_, rfl, HO.out, HB.out⟩
 ·rw [if_neg hn] at h
  cases h

/-! ### impl_MakeSwitch: function 46 -/
def impl_MakeSwitch.l0 : Nat → List (S71) → List (S85) → List (S85) → Int → Int → Option ((List (S85)) × Bool)
 | 0, _, _, _, _, _ => none
 | k + 1, x0, x1, x2, x11, x12 => if x12 < x11 then ((impl_RotatePlan.f k x2 x12).bind fun t457 => ((impl_CanSwitch.f k x0 x1 t457).bind fun t460 => (if t460 = true then (some (t457, true)) else (impl_MakeSwitch.l0 k x0 x1 x2 x11 (wrap64 (x12 + 1)))))) else ((impl_clonePlan.f k x2).bind fun t454 => (some (t454, false)))
def impl_MakeSwitch.f (k : Nat) (l0 : List (S71)) (l1 : List (S85)) (l2 : List (S85)) : Option ((List (S85)) × Bool) := impl_MakeSwitch.l0 k l0 l1 l2 (l2.length : Int) 0
set_option maxHeartbeats 8000000 in
set_option maxRecDepth 100000 in
theorem impl_MakeSwitch.calls (k : Nat) (A0 : Option Addr) (c0 : Nat) (l0 : List (S71)) (A1 : Option Addr) (c1 : Nat) (l1 : List (S85)) (A2 : Option Addr) (c2 : Nat) (l2 : List (S85)) (r1 : List (S85)) (r2 : Bool) (w : World) (hr0 : Kd.C k71 w A0 l0.length l0) (hc0 : l0.length ≤ c0) (hr1 : Kd.C k85 w A1 l1.length l1) (hc1 : l1.length ≤ c1) (hr2 : Kd.C k85 w A2 l2.length l2) (hc2 : l2.length ≤ c2) (h : impl_MakeSwitch.f k l0 l1 l2 = some (r1, r2)) :
  Calls Try.prog 46 #[.slice A0 l0.length c0, .slice A1 l1.length c1, .slice A2 l2.length c2] w fun e w' => ∃ v0_ : Value, e = .returned (.tuple #[v0_, .bool r2]) ∧ Kd.S k85 85 w' w.heap.size (fun _ => True) v0_ r1 ∧ Below w.heap.size w w' := by
 have HR0 := Aside0.mk hr0
 have HC0 := Aside0.mk hc0
 clear hr0 hc0
 have HR1 := Aside0.mk hr1
 have HC1 := Aside0.mk hc1
 clear hr1 hc1
 have HR2 := Aside0.mk hr2
 have HC2 := Aside0.mk hc2
 clear hr2 hc2
 have HB := Aside0.mk (Below.refl w.heap.size w)
 have H : (impl_MakeSwitch.l0 k l0 l1 l2 (l2.length : Int) 0) = some (r1, r2) := h
 clear h
 have H' := Aside0.mk H
 clear H
 go_enter Try.func46, Try.ntmps46
 go_wp2
 go_loopg [12] k (fun kq v12 w' => ∃ (x12_1 : Int), v12 = .int .i64 x12_1 ∧ Aside0 (impl_MakeSwitch.l0 kq l0 l1 l2 (l2.length : Int) x12_1 = some (r1, r2)) ∧ Aside0 (kq ≤ k) ∧ Aside0 (Below w.heap.size w w'))
 case atStart => exact ⟨(0), S.eA, H', ⟨Nat.le_refl _⟩, ⟨S.bA⟩⟩
 case round =>
  clear H'
  try clear c1
  try clear c2
  obtain ⟨x12_1, rfl, HA, HK1, HB⟩ := hrel
  cases gk with
  | zero => exact absurd HA.out (by simp [impl_MakeSwitch.l0])
  | succ k1 =>
   have H := HA.out
   clear HA
   simp only [impl_MakeSwitch.l0] at H
   replace H := S.dc H; rcases H with ⟨H, c4b0⟩ | ⟨H, c4b0⟩
   ·replace H := Option.bind_eq_some_iff.mp H
    obtain ⟨t457, A50, H⟩ := H
    replace H : ((impl_CanSwitch.f k1 l0 l1 t457).bind fun t460 => (if t460 = true then (some (t457, true)) else (impl_MakeSwitch.l0 k1 l0 l1 l2 (l2.length : Int) (wrap64 (x12_1 + 1))))) = some (r1, r2) := H
    have A5 := Aside0.mk A50
    clear A50
    replace H := S.bd H; obtain ⟨t460, A6, H⟩ := H
    (try dsimp only at H)
    replace H := S.db H; rcases H with ⟨rfl, H⟩ | ⟨rfl, H⟩
    ·simp only [Option.some.injEq, Prod.mk.injEq] at H
     obtain ⟨rfl, rfl⟩ := H
     go_wp2_with (first | ((with_reducible refine gate_callee (f := 53) rfl ?_); refine S.gL (some 17) Try.func53 #[.slice A2 l2.length c2, .int .i64 x12_1] ?_; (with_reducible refine (impl_RotatePlan.calls k1 _ _ l2 x12_1 t457 _ ?s1 HC2.out A5.out).mono ?_); (case s1 => exact S.cA HR2.out); rintro e w8 ⟨v458, rfl, ho0, hb⟩; refine ⟨_, rfl, ?_⟩; have HO459 := Aside0.mk (Kd.S_lower ho0 (below_size S.bA)); replace HB := S.sA hb; (try clear hb); (try clear ho0); obtain ⟨Ao9, co9, eo9⟩ := Kd.S_slice HO459.out; subst eo9) | ((with_reducible refine gate_callee (f := 21) rfl ?_); refine S.gL (some 21) Try.func21 #[.slice A0 l0.length c0, .slice A1 l1.length c1, .slice Ao9 t457.length co9] ?_; (with_reducible refine (impl_CanSwitch.calls k1 _ _ l0 _ _ l1 _ _ t457 true _ ?s1 HC0.out ?s3 HC1.out ?s5 ?s6 A6.out).mono ?_); (case s1 => exact S.cA HR0.out); (case s3 => exact S.cA HR1.out); (case s5 => repeat (first | exact (Kd.S_reads' HO459.out).2.2 | (with_reducible refine Kd.C_alloc ?_ _) | (with_reducible refine Kd.C_drewN ?_ _) | (with_reducible refine Kd.C_drew ?_))); (case s6 => exact (Kd.S_reads' HO459.out).2.1); rintro e w10 ⟨rfl, hb⟩; refine ⟨_, rfl, ?_⟩; replace HO459 := Aside0.mk (Kd.S_below (by (with_reducible repeat (first | apply Kd.S_alloc | apply Kd.S_drewN | apply Kd.S_drew)); exact HO459.out) hb); replace HB := S.sA hb; (try clear hb)))
     go_ret2
     exact ⟨_, S.eW, by (with_reducible repeat (first | apply Kd.S_alloc | apply Kd.S_drewN | apply Kd.S_drew)); exact HO459.out, S.bA⟩
    ·have H' := Aside0.mk H
     clear H
     go_wp2_with (first | ((with_reducible refine gate_callee (f := 53) rfl ?_); refine S.gL (some 17) Try.func53 #[.slice A2 l2.length c2, .int .i64 x12_1] ?_; (with_reducible refine (impl_RotatePlan.calls k1 _ _ l2 x12_1 t457 _ ?s1 HC2.out A5.out).mono ?_); (case s1 => exact S.cA HR2.out); rintro e w11 ⟨v458, rfl, ho0, hb⟩; refine ⟨_, rfl, ?_⟩; have HO459 := Aside0.mk (Kd.S_lower ho0 (below_size S.bA)); replace HB := S.sA hb; (try clear hb); (try clear ho0); obtain ⟨Ao12, co12, eo12⟩ := Kd.S_slice HO459.out; subst eo12) | ((with_reducible refine gate_callee (f := 21) rfl ?_); refine S.gL (some 21) Try.func21 #[.slice A0 l0.length c0, .slice A1 l1.length c1, .slice Ao12 t457.length co12] ?_; (with_reducible refine (impl_CanSwitch.calls k1 _ _ l0 _ _ l1 _ _ t457 false _ ?s1 HC0.out ?s3 HC1.out ?s5 ?s6 A6.out).mono ?_); (case s1 => exact S.cA HR0.out); (case s3 => exact S.cA HR1.out); (case s5 => repeat (first | exact (Kd.S_reads' HO459.out).2.2 | (with_reducible refine Kd.C_alloc ?_ _) | (with_reducible refine Kd.C_drewN ?_ _) | (with_reducible refine Kd.C_drew ?_))); (case s6 => exact (Kd.S_reads' HO459.out).2.1); rintro e w13 ⟨rfl, hb⟩; refine ⟨_, rfl, ?_⟩; replace HO459 := Aside0.mk (Kd.S_below (by (with_reducible repeat (first | apply Kd.S_alloc | apply Kd.S_drewN | apply Kd.S_drew)); exact HO459.out) hb); replace HB := S.sA hb; (try clear hb)))
     go_roundg k1
     case measure => have := HK1.out; omega
     case rel => exact ⟨(wrap64 (x12_1 + 1)), S.eA, H', ⟨by have := HK1.out; omega⟩, ⟨S.bA⟩⟩
   ·replace H := Option.bind_eq_some_iff.mp H
    obtain ⟨t454, A140, H⟩ := H
    replace H : (some (t454, false)) = some (r1, r2) := H
    have A14 := Aside0.mk A140
    clear A140
    simp only [Option.some.injEq, Prod.mk.injEq] at H
    obtain ⟨rfl, rfl⟩ := H
    go_wp2_with (first | ((with_reducible refine gate_callee (f := 86) rfl ?_); refine S.gL (some 25) Try.func86 #[.slice A2 l2.length c2] ?_; (with_reducible refine (impl_clonePlan.calls k1 _ _ l2 t454 _ ?s1 HC2.out A14.out).mono ?_); (case s1 => exact S.cA HR2.out); rintro e w15 ⟨v455, rfl, ho0, hb⟩; refine ⟨_, rfl, ?_⟩; have HO456 := Aside0.mk (Kd.S_lower ho0 (below_size S.bA)); replace HB := S.sA hb; (try clear hb); (try clear ho0)))
    go_ret2
    exact ⟨_, S.eW, by (with_reducible repeat (first | apply Kd.S_alloc | apply Kd.S_drewN | apply Kd.S_drew)); exact HO456.out, S.bA⟩

/-! ### laws_heldIntS: function 28 -/
def laws_heldIntS.l0 : Nat → List Int → Int → Int → Option (Int)
 | 0, _, _, _ => none
 | k + 1, x0, x1, x5 => if x5 < (x0.length : Int) then (if 0 ≤ x5 then (if (rd x0 x5) = x1 then (laws_heldIntS.l0 k x0 (wrap64 (x1 + 1)) (wrap64 (x5 + 1))) else (some (-1))) else (none)) else (some x1)
def laws_heldIntS.f (k : Nat) (l0 : List Int) (a1 : Int) : Option (Int) := laws_heldIntS.l0 k l0 a1 0
set_option maxHeartbeats 8000000 in
set_option maxRecDepth 100000 in
theorem laws_heldIntS.calls (k : Nat) (A0 : Option Addr) (c0 : Nat) (l0 : List Int) (a1 : Int) (r : Int) (w : World) (hr0 : Kd.C (Kd.int .i64) w A0 l0.length l0) (hc0 : l0.length ≤ c0) (h : laws_heldIntS.f k l0 a1 = some r) :
  Calls Try.prog 28 #[.slice A0 l0.length c0, .int .i64 a1] w fun e w' => e = .returned (.int .i64 r) ∧ Drawn0 w w' := by
 have HR0 := Aside0.mk hr0
 have HC0 := Aside0.mk hc0
 clear hr0 hc0
 have H : (laws_heldIntS.l0 k l0 a1 0) = some r := h
 clear h
 have H' := Aside0.mk H
 clear H
 go_enter Try.func28, Try.ntmps28
 go_wp2
 go_loopg [1, 5] k (fun kq v1 v5 w' => ∃ (x1_1 : Int) (x5_1 : Int), v1 = .int .i64 x1_1 ∧ v5 = .int .i64 x5_1 ∧ Aside0 (laws_heldIntS.l0 kq l0 x1_1 x5_1 = some r) ∧ Aside0 (kq ≤ k) ∧ Drawn0 w w')
 case atStart => exact ⟨(a1), (0), S.eA, S.eA, H', ⟨Nat.le_refl _⟩, by repeat (first | exact Drawn0.refl _ | apply Drawn0.step)⟩
 case round =>
  clear H'
  obtain ⟨x1_1, x5_1, rfl, rfl, HA, HK1, ⟨m1, rfl⟩⟩ := hrel
  cases gk with
  | zero => exact absurd HA.out (by simp [laws_heldIntS.l0])
  | succ k1 =>
   have H := HA.out
   clear HA
   simp only [laws_heldIntS.l0] at H
   replace H := S.dc H; rcases H with ⟨H, c3b0⟩ | ⟨H, c3b0⟩
   ·by_cases c4 : 0 ≤ x5_1
    ·rw [if_pos c4] at H
     have c4b0 : decide (0 ≤ x5_1) = true := decide_eq_true c4
     clear c4
     by_cases c5 : (rd l0 x5_1) = x1_1
     ·rw [if_pos c5] at H
      have c5b0 : ((rd l0 x5_1) == x1_1) = true := beq_iff_eq.mpr c5
      have c5b1 : ((rd l0 x5_1) != x1_1) = false := bne_eq_false_iff_eq.mpr c5
      clear c5
      have H' := Aside0.mk H
      clear H
      have p461 : 0 ≤ (x5_1 : Int) := S.oD
      have q461 : x5_1 < (l0.length : Int) := S.oD
      obtain ⟨ad461, e461, hx461_0⟩ := Kd.at_int HR0.out x5_1 p461 q461
      cases e461
      replace p461 := eq_true p461
      replace q461 := eq_true q461
      go_wp2
      go_roundg k1
      case measure => have := HK1.out; omega
      case rel => exact ⟨(wrap64 (x1_1 + 1)), (wrap64 (x5_1 + 1)), S.eA, S.eA, H', ⟨by have := HK1.out; omega⟩, by repeat (first | exact Drawn0.refl _ | apply Drawn0.step)⟩
     ·rw [if_neg c5] at H
      have c5b0 : ((rd l0 x5_1) == x1_1) = false := beq_eq_false_iff_ne.mpr c5
      have c5b1 : ((rd l0 x5_1) != x1_1) = true := bne_iff_ne.mpr c5
      obtain rfl := Option.some.inj H
      have p461 : 0 ≤ (x5_1 : Int) := S.oD
      have q461 : x5_1 < (l0.length : Int) := S.oD
      obtain ⟨ad461, e461, hx461_0⟩ := Kd.at_int HR0.out x5_1 p461 q461
      cases e461
      replace p461 := eq_true p461
      replace q461 := eq_true q461
      go_wp2
      go_ret
      exact ⟨S.eA, by repeat (first | exact Drawn0.refl _ | apply Drawn0.step)⟩
    ·rw [if_neg c4] at H
     exact absurd H (by simp)
   ·obtain rfl := Option.some.inj H
    go_wp2
    go_ret
    exact ⟨S.eA, by repeat (first | exact Drawn0.refl _ | apply Drawn0.step)⟩

end Go.Proofs.Ytjgigmghcfdomaa.PFnExactMakeSwitch
