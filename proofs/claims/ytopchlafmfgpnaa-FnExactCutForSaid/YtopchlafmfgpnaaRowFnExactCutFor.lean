/- The law FnExactCutFor of the given program: called with any arguments it returns true and leaves them as they were. No conditions. -/
import Derived.Test.YtopchlafmfgpnaaRows
import Derived.Test.YtopchlafmfgpnaaPFnExactCutForx21
import Derived.Test.YtopchlafmfgpnaaPureFnExactCutFor
import Derived.Test.YtopchlafmfgpnaaOpen
import Derived.WalkKit
import Derived.ProofKit
import Derived.OpenShut
import Derived.ShutString
import Derived.ChangeOld
import Derived.Below
import Derived.SizedLaws
import Derived.Carry
namespace Go.Proofs.Ytopchlafmfgpnaa.fnExactCutFor
open Go.ChangeShapes Go.WideShapes Go.ChangeAt Go.RowKit Go.Proofs.Ytopchlafmfgpnaa.Opn Go.Proofs.YtopchlafmfgpnaaW.PrintWords Go.Proofs.Ytopchlafmfgpnaa.PFnExactCutFor
set_option linter.unusedVariables false
theorem own : ownKnob Try.prog.godebug = none := by kernel_rfl
theorem laidOut : laidOutB Try.prog = true := by kernel_rfl
theorem o84 : Opens Try.prog 84 k84 (fun x => Pure.FnExactCutFor.wf84 x) :=
  (Opens.iso (Opens.struct4 Try.underlying84 (by kernel_rfl) (by kernel_rfl) (Opens.int Try.underlying3) (Opens.int Try.underlying3) (Opens.int Try.underlying3) (Opens.int Try.underlying3)) (fun p => (⟨p.1, p.2.1, p.2.2.1, p.2.2.2⟩ : S84)) (fun _ => rfl)).imp (fun _ h => h)
set_option maxRecDepth 100000 in
theorem lifted (os : Os) (started : os.Started) (H : Type) (enc : TypeId × Value → H) :
    ReturnsInHanded {} Try.checked os 7 .any (Rows.fnExactCutForSpec.pre6 enc Try.prog Try.f7 Rows.fnExactCutForRow.domain false) (Rows.fnExactCutForSpec.post enc Try.prog Try.f7 false true false false) := by
  refine returnsInHanded_of_change_sized (C := Try.checked) own started (by kernel_rfl) Try.func7
    (ChangeSpec.witness6 (enc := enc) (C := Try.checked) false ⟨#[], #[.slice none 0 0, .agg #[.slice none 0 0, .int .i64 0, .slice none 0 0, .int .i64 0], .int .i64 0], []⟩ 8 (by kernel_rfl) (by kernel_rfl) (by kernel_rfl) (by kernel_rfl)) ?_
  intro W base args ds gs before hval0 hW hcnd hsz0 _
  have hval : ∀ (j : Nat) t v, Try.f7.params[j]? = some t → args[j]? = some v → Value.okWide Try.prog W .any base t v := hval0
  have hW' := hW
  obtain ⟨p, q, hA0, hV, rfl, hfz, hnd⟩ := hW
  have hA : DataW.TrodAll enc Try.prog W 0 (fun _ => true) true Try.f7.params.toList args.toList ds p := hA0
  rw [Try.params7] at hA hval
  obtain ⟨v0, vs0, d0, ds0, p0, q0, hargs, rfl, rfl, h0, r0⟩ := trodAll_cons hA
  obtain ⟨v1, vs1, d1, ds1, p1, q1, rfl, rfl, rfl, h1, r1⟩ := trodAll_cons r0
  obtain ⟨v2, vs2, d2, ds2, p2, q2, rfl, rfl, rfl, h2, r2⟩ := trodAll_cons r1
  obtain ⟨rfl, rfl, rfl⟩ := trodAll_nil r2
  obtain rfl : args = #[v0, v1, v2] := by cases args; simp_all
  obtain ⟨rfl, rfl⟩ := trodVars_none hV
  have kt0 := h0
  have lt0 : ∀ x ∈ p0, x.block < W.heap.size := by obtain ⟨m, hm⟩ := kt0; exact DataW.trod_lt m _ _ _ hm
  obtain ⟨adr0, len0, cap0, rfl⟩ := okWide_slice Try.underlying22 (hval 0 22 v0 rfl rfl)
  obtain ⟨l0, ⟨A0, c0, ev0, hc0, hr0⟩, wl0, w0⟩ := Opens.arg (Opens.slice Try.underlying22 (by kernel_rfl) o84) h0
  simp [Value.cells] at ev0
  obtain ⟨rfl, rfl, rfl⟩ := ev0
  have kt1 := h1
  have lt1 : ∀ x ∈ p1, x.block < W.heap.size := by obtain ⟨m, hm⟩ := kt1; exact DataW.trod_lt m _ _ _ hm
  obtain ⟨cs1, rfl, hsz1⟩ := okWide_struct Try.underlying57 (hval 1 57 v1 rfl rfl)
  obtain ⟨⟨l1_0, a1_1, l1_2, a1_3⟩, ⟨_, _, ev1, ⟨A1_0, c1_0, rfl, hc1_0, hr1_0⟩, ⟨_, _, rfl, rfl, ⟨_, _, rfl, ⟨A1_2, c1_2, rfl, hc1_2, hr1_2⟩, rfl⟩⟩⟩, ⟨⟨wl1_0, w1_0⟩, w1_1, ⟨wl1_2, w1_2⟩, w1_3⟩⟩ := Opens.arg (Opens.struct4 Try.underlying57 (by kernel_rfl) (by kernel_rfl) (Opens.slice Try.underlying24 (by kernel_rfl) (Opens.int Try.underlying3)) (Opens.int Try.underlying3) (Opens.slice Try.underlying24 (by kernel_rfl) (Opens.int Try.underlying3)) (Opens.int Try.underlying3)) h1
  obtain rfl : cs1 = #[.slice A1_0 l1_0.length c1_0, .int .i64 a1_1, .slice A1_2 l1_2.length c1_2, .int .i64 a1_3] := by apply Array.toList_inj.1; simpa [Value.cells] using ev1
  obtain ⟨a2, rfl, rfl, rfl, w2⟩ := open_int Try.underlying3 (hval 2 3 v2 rfl rfl) h2
  clear hA0 hval0 hsz0
  obtain ⟨k, hk⟩ := Pure.FnExactCutFor.holds l0 l1_0 a1_1 l1_2 a1_3 a2 wl0 w0 wl1_0 w1_0 w1_1 wl1_2 w1_2 w1_3 w2
  refine (laws_FnExactCutFor.calls k _ _ l0 _ _ l1_0 a1_1 _ _ l1_2 a1_3 a2 true W hr0 hc0 hr1_0 hc1_0 hr1_2 hc1_2 hk).mono fun e W' ⟨he, bel0⟩ => ?_
  have bel : Below W.heap.size W W' := bel0
  subst he
  exact ⟨_, rfl, _, _, _, [], _, [], hW', trodAll_mk1 (shut_bool Try.underlying4 _), (trodAll_cons_mk (Below.trod laidOut (by kernel_rfl) (of_decide_eq_true (by kernel_rfl)) kt0 bel lt0) (trodAll_cons_mk (Below.trod laidOut (by kernel_rfl) (of_decide_eq_true (by kernel_rfl)) kt1 bel lt1) (trodAll_cons_mk (shut_int Try.underlying3 w2) trodAll_mk0))), rfl, bel.frame _, fun h => by cases h⟩
theorem over : Rows.fnExactCutForRow.holds Try.pinned (OpenSpec.ofChange Rows.fnExactCutForSpec) :=
  OpenClaim.holds_of_wide 7 Try.f7 rfl rfl rfl rfl rfl rfl rfl ⟨rfl, rfl, rfl, rfl, rfl⟩ rfl rfl rfl rfl rfl (by kernel_rfl) Try.func7 (by kernel_rfl)
    (of_decide_eq_true (by kernel_rfl)) (by unfold Func.isWrapper; first | (rw [if_pos (by decide +kernel)]; kernel_rfl) | (rw [if_neg (by decide +kernel)]; exact ⟨rfl, rfl⟩))
    (fun os started H enc _ => lifted os started H enc)
theorem proved : Rows.FnExactCutForSaid := over
end Go.Proofs.Ytopchlafmfgpnaa.fnExactCutFor
namespace Go.Proofs.Ytopchlafmfgpnaa
theorem fnExactCutFor_holds : Rows.FnExactCutForSaid := fnExactCutFor.proved
#print axioms fnExactCutFor_holds
end Go.Proofs.Ytopchlafmfgpnaa
