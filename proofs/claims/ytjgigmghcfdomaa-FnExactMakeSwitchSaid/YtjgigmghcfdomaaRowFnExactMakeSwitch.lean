/- The law FnExactMakeSwitch of the given program: called with any arguments it returns true and leaves them as they were. No conditions. -/
import Derived.Test.YtjgigmghcfdomaaRows
import Derived.Test.YtjgigmghcfdomaaPFnExactMakeSwitchx26
import Derived.Test.YtjgigmghcfdomaaPureFnExactMakeSwitch
import Derived.Test.YtjgigmghcfdomaaOpen
import Derived.WalkKit
import Derived.ProofKit
import Derived.OpenShut
import Derived.ShutString
import Derived.ChangeOld
import Derived.Below
import Derived.SizedLaws
import Derived.Carry
namespace Go.Proofs.Ytjgigmghcfdomaa.fnExactMakeSwitch
open Go.ChangeShapes Go.WideShapes Go.ChangeAt Go.RowKit Go.Proofs.Ytjgigmghcfdomaa.Opn Go.Proofs.YtjgigmghcfdomaaW.PrintWords Go.Proofs.Ytjgigmghcfdomaa.PFnExactMakeSwitch
set_option linter.unusedVariables false
theorem own : ownKnob Try.prog.godebug = none := by kernel_rfl
theorem laidOut : laidOutB Try.prog = true := by kernel_rfl
theorem o84 : Opens Try.prog 84 k84 (fun x => Pure.FnExactMakeSwitch.wf84 x) :=
  (Opens.iso (Opens.struct4 Try.underlying84 (by kernel_rfl) (by kernel_rfl) (Opens.int Try.underlying3) (Opens.int Try.underlying3) (Opens.int Try.underlying3) (Opens.int Try.underlying3)) (fun p => (⟨p.1, p.2.1, p.2.2.1, p.2.2.2⟩ : S84)) (fun _ => rfl)).imp (fun _ h => h)
theorem o81 : Opens Try.prog 81 k81 (fun x => Pure.FnExactMakeSwitch.wf81 x) :=
  (Opens.iso (Opens.struct2 Try.underlying81 (by kernel_rfl) (by kernel_rfl) (Opens.slice Try.underlying36 (by kernel_rfl) (Opens.int Try.underlying3)) (Opens.int Try.underlying3)) (fun p => (⟨p.1, p.2⟩ : S81)) (fun _ => rfl)).imp (fun _ h => h)
set_option maxRecDepth 100000 in
theorem lifted (os : Os) (started : os.Started) (H : Type) (enc : TypeId × Value → H) :
    ReturnsInHanded {} Try.checked os 9 .any (Rows.fnExactMakeSwitchSpec.pre6 enc Try.prog Try.f9 Rows.fnExactMakeSwitchRow.domain false) (Rows.fnExactMakeSwitchSpec.post enc Try.prog Try.f9 false true false false) := by
  refine returnsInHanded_of_change_sized (C := Try.checked) own started (by kernel_rfl) Try.func9
    (ChangeSpec.witness6 (enc := enc) (C := Try.checked) false ⟨#[], #[.slice none 0 0, .slice none 0 0, .slice none 0 0], []⟩ 8 (by kernel_rfl) (by kernel_rfl) (by kernel_rfl) (by kernel_rfl)) ?_
  intro W base args ds gs before hval0 hW hcnd hsz0 _
  have hval : ∀ (j : Nat) t v, Try.f9.params[j]? = some t → args[j]? = some v → Value.okWide Try.prog W .any base t v := hval0
  have hW' := hW
  obtain ⟨p, q, hA0, hV, rfl, hfz, hnd⟩ := hW
  have hA : DataW.TrodAll enc Try.prog W 0 (fun _ => true) true Try.f9.params.toList args.toList ds p := hA0
  rw [Try.params9] at hA hval
  obtain ⟨v0, vs0, d0, ds0, p0, q0, hargs, rfl, rfl, h0, r0⟩ := trodAll_cons hA
  obtain ⟨v1, vs1, d1, ds1, p1, q1, rfl, rfl, rfl, h1, r1⟩ := trodAll_cons r0
  obtain ⟨v2, vs2, d2, ds2, p2, q2, rfl, rfl, rfl, h2, r2⟩ := trodAll_cons r1
  obtain ⟨rfl, rfl, rfl⟩ := trodAll_nil r2
  obtain rfl : args = #[v0, v1, v2] := by cases args; simp_all
  obtain ⟨rfl, rfl⟩ := trodVars_none hV
  have kt0 := h0
  have lt0 : ∀ x ∈ p0, x.block < W.heap.size := by obtain ⟨m, hm⟩ := kt0; exact DataW.trod_lt m _ _ _ hm
  obtain ⟨adr0, len0, cap0, rfl⟩ := okWide_slice Try.underlying22 (hval 0 22 v0 rfl rfl)
  obtain ⟨l0, ⟨A0, c0, ev0, hc0, hr0⟩, wl0, w0⟩ := Opens.arg (Opens.slice Try.underlying22 (by kernel_rfl) o84) h0
  simp [Value.cells] at ev0
  obtain ⟨rfl, rfl, rfl⟩ := ev0
  have kt1 := h1
  have lt1 : ∀ x ∈ p1, x.block < W.heap.size := by obtain ⟨m, hm⟩ := kt1; exact DataW.trod_lt m _ _ _ hm
  obtain ⟨adr1, len1, cap1, rfl⟩ := okWide_slice Try.underlying23 (hval 1 23 v1 rfl rfl)
  obtain ⟨l1, ⟨A1, c1, ev1, hc1, hr1⟩, wl1, w1⟩ := Opens.arg (Opens.slice Try.underlying23 (by kernel_rfl) o81) h1
  simp [Value.cells] at ev1
  obtain ⟨rfl, rfl, rfl⟩ := ev1
  have kt2 := h2
  have lt2 : ∀ x ∈ p2, x.block < W.heap.size := by obtain ⟨m, hm⟩ := kt2; exact DataW.trod_lt m _ _ _ hm
  obtain ⟨adr2, len2, cap2, rfl⟩ := okWide_slice Try.underlying23 (hval 2 23 v2 rfl rfl)
  obtain ⟨l2, ⟨A2, c2, ev2, hc2, hr2⟩, wl2, w2⟩ := Opens.arg (Opens.slice Try.underlying23 (by kernel_rfl) o81) h2
  simp [Value.cells] at ev2
  obtain ⟨rfl, rfl, rfl⟩ := ev2
  clear hA0 hval0 hsz0
  obtain ⟨k, hk⟩ := Pure.FnExactMakeSwitch.holds l0 l1 l2 wl0 w0 wl1 w1 wl2 w2
  refine (laws_FnExactMakeSwitch.calls k _ _ l0 _ _ l1 _ _ l2 true W hr0 hc0 hr1 hc1 hr2 hc2 hk).mono fun e W' ⟨he, bel0⟩ => ?_
  have bel : Below W.heap.size W W' := bel0
  subst he
  exact ⟨_, rfl, _, _, _, [], _, [], hW', trodAll_mk1 (shut_bool Try.underlying4 _), (trodAll_cons_mk (Below.trod laidOut (by kernel_rfl) (of_decide_eq_true (by kernel_rfl)) kt0 bel lt0) (trodAll_cons_mk (Below.trod laidOut (by kernel_rfl) (of_decide_eq_true (by kernel_rfl)) kt1 bel lt1) (trodAll_cons_mk (Below.trod laidOut (by kernel_rfl) (of_decide_eq_true (by kernel_rfl)) kt2 bel lt2) trodAll_mk0))), rfl, bel.frame _, fun h => by cases h⟩
theorem over : Rows.fnExactMakeSwitchRow.holds Try.pinned (OpenSpec.ofChange Rows.fnExactMakeSwitchSpec) :=
  OpenClaim.holds_of_wide 9 Try.f9 rfl rfl rfl rfl rfl rfl rfl ⟨rfl, rfl, rfl, rfl, rfl⟩ rfl rfl rfl rfl rfl (by kernel_rfl) Try.func9 (by kernel_rfl)
    (of_decide_eq_true (by kernel_rfl)) (by unfold Func.isWrapper; first | (rw [if_pos (by decide +kernel)]; kernel_rfl) | (rw [if_neg (by decide +kernel)]; exact ⟨rfl, rfl⟩))
    (fun os started H enc _ => lifted os started H enc)
theorem proved : Rows.FnExactMakeSwitchSaid := over
end Go.Proofs.Ytjgigmghcfdomaa.fnExactMakeSwitch
namespace Go.Proofs.Ytjgigmghcfdomaa
theorem fnExactMakeSwitch_holds : Rows.FnExactMakeSwitchSaid := fnExactMakeSwitch.proved
#print axioms fnExactMakeSwitch_holds
end Go.Proofs.Ytjgigmghcfdomaa
