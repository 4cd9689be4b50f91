/- The law FnExactStepPrio of the given program: called with any arguments it returns true and leaves them as they were. No conditions. -/
import Derived.Test.YtopchlafmfgpnaaGreatRows
import Derived.Test.YtopchlafmfgpnaaGreatPFnExactStepPriox16
import Derived.Test.YtopchlafmfgpnaaGreatPureFnExactStepPrio
import Derived.Test.YtopchlafmfgpnaaGreatOpen
import Derived.WalkKit
import Derived.ProofKit
import Derived.OpenShut
import Derived.ShutString
import Derived.ChangeOld
import Derived.Below
import Derived.SizedLaws
import Derived.Carry
namespace Go.Proofs.YtopchlafmfgpnaaGreat.fnExactStepPrio
open Go.ChangeShapes Go.WideShapes Go.ChangeAt Go.RowKit Go.Proofs.YtopchlafmfgpnaaGreat.Opn Go.Proofs.YtopchlafmfgpnaaGreatW.PrintWords Go.Proofs.YtopchlafmfgpnaaGreat.PFnExactStepPrio
set_option linter.unusedVariables false
theorem own : ownKnob Tryz.prog.godebug = none := by kernel_rfl
theorem laidOut : laidOutB Tryz.prog = true := by kernel_rfl
theorem o78 : Opens Tryz.prog 78 k78 (fun x => Pure.FnExactStepPrio.wf78 x) :=
  (Opens.iso (Opens.struct4 Tryz.underlying78 (by kernel_rfl) (by kernel_rfl) (Opens.int Tryz.underlying3) (Opens.int Tryz.underlying3) (Opens.int Tryz.underlying3) (Opens.int Tryz.underlying3)) (fun p => (⟨p.1, p.2.1, p.2.2.1, p.2.2.2⟩ : S78)) (fun _ => rfl)).imp (fun _ h => h)
theorem o83 : Opens Tryz.prog 83 k83 (fun x => Pure.FnExactStepPrio.wf83 x) :=
  (Opens.iso (Opens.struct2 Tryz.underlying83 (by kernel_rfl) (by kernel_rfl) (Opens.int Tryz.underlying3) (Opens.int Tryz.underlying3)) (fun p => (⟨p.1, p.2⟩ : S83)) (fun _ => rfl)).imp (fun _ h => h)
set_option maxRecDepth 100000 in
theorem lifted (os : Os) (started : os.Started) (H : Type) (enc : TypeId × Value → H) :
    ReturnsInHanded {} Tryz.checked os 3 .any (Rows.fnExactStepPrioSpec.pre6 enc Tryz.prog Tryz.f3 Rows.fnExactStepPrioRow.domain false) (Rows.fnExactStepPrioSpec.post enc Tryz.prog Tryz.f3 false true false false) := by
  refine returnsInHanded_of_change_sized (C := Tryz.checked) own started (by kernel_rfl) Tryz.func3
    (ChangeSpec.witness6 (enc := enc) (C := Tryz.checked) false ⟨#[], #[.slice none 0 0, .agg #[.slice none 0 0, .int .i64 0, .slice none 0 0, .int .i64 0], .slice none 0 0, .agg #[.int .i64 0, .int .i64 0]], []⟩ 8 (by kernel_rfl) (by kernel_rfl) (by kernel_rfl) (by kernel_rfl)) ?_
  intro W base args ds gs before hval0 hW hcnd hsz0 _
  have hval : ∀ (j : Nat) t v, Tryz.f3.params[j]? = some t → args[j]? = some v → Value.okWide Tryz.prog W .any base t v := hval0
  have hW' := hW
  obtain ⟨p, q, hA0, hV, rfl, hfz, hnd⟩ := hW
  have hA : DataW.TrodAll enc Tryz.prog W 0 (fun _ => true) true Tryz.f3.params.toList args.toList ds p := hA0
  rw [Tryz.params3] at hA hval
  obtain ⟨v0, vs0, d0, ds0, p0, q0, hargs, rfl, rfl, h0, r0⟩ := trodAll_cons hA
  obtain ⟨v1, vs1, d1, ds1, p1, q1, rfl, rfl, rfl, h1, r1⟩ := trodAll_cons r0
  obtain ⟨v2, vs2, d2, ds2, p2, q2, rfl, rfl, rfl, h2, r2⟩ := trodAll_cons r1
  obtain ⟨v3, vs3, d3, ds3, p3, q3, rfl, rfl, rfl, h3, r3⟩ := trodAll_cons r2
  obtain ⟨rfl, rfl, rfl⟩ := trodAll_nil r3
  obtain rfl : args = #[v0, v1, v2, v3] := by cases args; simp_all
  obtain ⟨rfl, rfl⟩ := trodVars_none hV
  have kt0 := h0
  have lt0 : ∀ x ∈ p0, x.block < W.heap.size := by obtain ⟨m, hm⟩ := kt0; exact DataW.trod_lt m _ _ _ hm
  obtain ⟨adr0, len0, cap0, rfl⟩ := okWide_slice Tryz.underlying22 (hval 0 22 v0 rfl rfl)
  obtain ⟨l0, ⟨A0, c0, ev0, hc0, hr0⟩, wl0, w0⟩ := Opens.arg (Opens.slice Tryz.underlying22 (by kernel_rfl) o78) h0
  simp [Value.cells] at ev0
  obtain ⟨rfl, rfl, rfl⟩ := ev0
  have kt1 := h1
  have lt1 : ∀ x ∈ p1, x.block < W.heap.size := by obtain ⟨m, hm⟩ := kt1; exact DataW.trod_lt m _ _ _ hm
  obtain ⟨cs1, rfl, hsz1⟩ := okWide_struct Tryz.underlying25 (hval 1 25 v1 rfl rfl)
  obtain ⟨⟨l1_0, a1_1, l1_2, a1_3⟩, ⟨_, _, ev1, ⟨A1_0, c1_0, rfl, hc1_0, hr1_0⟩, ⟨_, _, rfl, rfl, ⟨_, _, rfl, ⟨A1_2, c1_2, rfl, hc1_2, hr1_2⟩, rfl⟩⟩⟩, ⟨⟨wl1_0, w1_0⟩, w1_1, ⟨wl1_2, w1_2⟩, w1_3⟩⟩ := Opens.arg (Opens.struct4 Tryz.underlying25 (by kernel_rfl) (by kernel_rfl) (Opens.slice Tryz.underlying23 (by kernel_rfl) (Opens.int Tryz.underlying3)) (Opens.int Tryz.underlying3) (Opens.slice Tryz.underlying23 (by kernel_rfl) (Opens.int Tryz.underlying3)) (Opens.int Tryz.underlying3)) h1
  obtain rfl : cs1 = #[.slice A1_0 l1_0.length c1_0, .int .i64 a1_1, .slice A1_2 l1_2.length c1_2, .int .i64 a1_3] := by apply Array.toList_inj.1; simpa [Value.cells] using ev1
  have kt2 := h2
  have lt2 : ∀ x ∈ p2, x.block < W.heap.size := by obtain ⟨m, hm⟩ := kt2; exact DataW.trod_lt m _ _ _ hm
  obtain ⟨adr2, len2, cap2, rfl⟩ := okWide_slice Tryz.underlying26 (hval 2 26 v2 rfl rfl)
  obtain ⟨l2, ⟨A2, c2, ev2, hc2, hr2⟩, wl2, w2⟩ := Opens.arg (Opens.slice Tryz.underlying26 (by kernel_rfl) o83) h2
  simp [Value.cells] at ev2
  obtain ⟨rfl, rfl, rfl⟩ := ev2
  have kt3 := h3
  have lt3 : ∀ x ∈ p3, x.block < W.heap.size := by obtain ⟨m, hm⟩ := kt3; exact DataW.trod_lt m _ _ _ hm
  obtain ⟨cs3, rfl, hsz3⟩ := okWide_struct Tryz.underlying28 (hval 3 28 v3 rfl rfl)
  obtain ⟨⟨a3_0, a3_1⟩, ⟨_, _, ev3, rfl, rfl⟩, ⟨w3_0, w3_1⟩⟩ := Opens.arg (Opens.struct2 Tryz.underlying28 (by kernel_rfl) (by kernel_rfl) (Opens.int Tryz.underlying3) (Opens.int Tryz.underlying3)) h3
  obtain rfl : cs3 = #[.int .i64 a3_0, .int .i64 a3_1] := by apply Array.toList_inj.1; simpa [Value.cells] using ev3
  clear hA0 hval0 hsz0
  obtain ⟨k, hk⟩ := Pure.FnExactStepPrio.holds l0 l1_0 a1_1 l1_2 a1_3 l2 a3_0 a3_1 wl0 w0 wl1_0 w1_0 w1_1 wl1_2 w1_2 w1_3 wl2 w2 w3_0 w3_1
  refine (laws_FnExactStepPrio.calls k _ _ l0 _ _ l1_0 a1_1 _ _ l1_2 a1_3 _ _ l2 a3_0 a3_1 true W hr0 hc0 hr1_0 hc1_0 hr1_2 hc1_2 hr2 hc2 hk).mono fun e W' ⟨he, bel0⟩ => ?_
  have bel : Below W.heap.size W W' := bel0
  subst he
  exact ⟨_, rfl, _, _, _, [], _, [], hW', trodAll_mk1 (shut_bool Tryz.underlying4 _), (trodAll_cons_mk (Below.trod laidOut (by kernel_rfl) (of_decide_eq_true (by kernel_rfl)) kt0 bel lt0) (trodAll_cons_mk (Below.trod laidOut (by kernel_rfl) (of_decide_eq_true (by kernel_rfl)) kt1 bel lt1) (trodAll_cons_mk (Below.trod laidOut (by kernel_rfl) (of_decide_eq_true (by kernel_rfl)) kt2 bel lt2) (trodAll_cons_mk (Below.trod laidOut (by kernel_rfl) (of_decide_eq_true (by kernel_rfl)) kt3 bel lt3) trodAll_mk0)))), rfl, bel.frame _, fun h => by cases h⟩
theorem over : Rows.fnExactStepPrioRow.holds Tryz.pinned (OpenSpec.ofChange Rows.fnExactStepPrioSpec) :=
  OpenClaim.holds_of_wide 3 Tryz.f3 rfl rfl rfl rfl rfl rfl rfl ⟨rfl, rfl, rfl, rfl, rfl⟩ rfl rfl rfl rfl rfl (by kernel_rfl) Tryz.func3 (by kernel_rfl)
    (of_decide_eq_true (by kernel_rfl)) (by unfold Func.isWrapper; first | (rw [if_pos (by decide +kernel)]; kernel_rfl) | (rw [if_neg (by decide +kernel)]; exact ⟨rfl, rfl⟩))
    (fun os started H enc _ => lifted os started H enc)
theorem proved : Rows.FnExactStepPrioSaid := over
end Go.Proofs.YtopchlafmfgpnaaGreat.fnExactStepPrio
namespace Go.Proofs.YtopchlafmfgpnaaGreat
theorem fnExactStepPrio_holds : Rows.FnExactStepPrioSaid := fnExactStepPrio.proved
#print axioms fnExactStepPrio_holds
end Go.Proofs.YtopchlafmfgpnaaGreat
