/-
  No cell of these rows narrows 'for every input' (looked for: loops, veiled, ifaces, maps, wideKeys, modest, calm, conditions, laid).
  DERIVED. THE GIVEN ROWS OF THIS SEAT. 8 by the template 'for every input the law returns true; each argument reads behind the call as it read before'; 0 by the template 'total and deterministic' (their statements: YtopchlafmfgpnaaTotals.lean).
  GIVEN WITH THE SEED: the statements are not yours to turn. If you find one false, say at which input.
  Laid BY PROGRAM, IN A SANDBOX (cutbox-rows.mjs): the forced cells as the released guide's own fill.sh prints them over the translation fff6157edc3cd31d… (all of the seat's roots in one cut). By AI agents, Wed Nov 11 2026. No macro, syntax, notation, axiom, sorry.
-/
import Derived.Test.YtopchlafmfgpnaaChecked
import GoSem.Claim
import GoSem.ClaimJoined
import GoSem.ClaimMapViews
import Derived.JoinedTies
import Derived.KernelRfl
namespace Go.Proofs.Ytopchlafmfgpnaa
/- THE CELL 'sum', in the pinned program and in every row, IS THE sha256 OF THE DUMP (.gsa) THAT YtopchlafmfgpnaaProg.lean LOADS. Nothing in Lean hashes anything: it is a label: what it is worth is what the hold of that sum in a sandbox is worth. -/
noncomputable def Try.pinned : Pinned := { name := "ytopchlafmfgpnaa", sum := "fff6157edc3cd31dfb95ea69425dc4b192d4a9cf722f0d84f1bcd3722d5b0d1c", checked := Try.checked }
namespace Rows
def none {H : Type} : Left H := { results := [], args := [] }

/-- 'laws.FnExactVisible': WHATEVER THE INPUT: true; the input reads as it did. -/
def fnExactVisibleSpec : ChangeSpec := { name := "fnExactVisible", fn := fun _ => fun
  | [d1, d2, d3] => { results := [.lit (.bool true)], args := [d1, d2, d3] }
  | _ => none }
def fnExactVisibleRow : OpenClaim := { program := "ytopchlafmfgpnaa", sum := "fff6157edc3cd31dfb95ea69425dc4b192d4a9cf722f0d84f1bcd3722d5b0d1c", func := "loop.example/g03006/laws.FnExactVisible", spec := "fnExactVisible", apart := false }
def FnExactVisibleSaid : Prop := fnExactVisibleRow.holds Try.pinned (OpenSpec.ofChange fnExactVisibleSpec)

/-- ITS FALSE NEIGHBOUR: 'it returns false'. Refute it at one input. -/
def fnExactVisibleWrong : ChangeSpec := { name := "fnExactVisible", fn := fun _ => fun
  | [d1, d2, d3] => { results := [.lit (.bool false)], args := [d1, d2, d3] }
  | _ => none }
def FnExactVisibleWrongFalsely : Prop := fnExactVisibleRow.holds Try.pinned (OpenSpec.ofChange fnExactVisibleWrong)

/-- 'laws.FnLamps': WHATEVER THE INPUT: true; the input reads as it did. -/
def fnLampsSpec : ChangeSpec := { name := "fnLamps", fn := fun _ => fun
  | [d] => { results := [.lit (.bool true)], args := [d] }
  | _ => none }
def fnLampsRow : OpenClaim := { program := "ytopchlafmfgpnaa", sum := "fff6157edc3cd31dfb95ea69425dc4b192d4a9cf722f0d84f1bcd3722d5b0d1c", func := "loop.example/g03006/laws.FnLamps", spec := "fnLamps", unfollowed := true, recurses := true, apart := false }
def FnLampsSaid : Prop := fnLampsRow.holds Try.pinned (OpenSpec.ofChange fnLampsSpec)

/-- ITS FALSE NEIGHBOUR: 'it returns false'. Refute it at one input. -/
def fnLampsWrong : ChangeSpec := { name := "fnLamps", fn := fun _ => fun
  | [d] => { results := [.lit (.bool false)], args := [d] }
  | _ => none }
def FnLampsWrongFalsely : Prop := fnLampsRow.holds Try.pinned (OpenSpec.ofChange fnLampsWrong)

/-- 'laws.FnExactCanCut': WHATEVER THE INPUT: true; the input reads as it did. -/
def fnExactCanCutSpec : ChangeSpec := { name := "fnExactCanCut", fn := fun _ => fun
  | [d1, d2] => { results := [.lit (.bool true)], args := [d1, d2] }
  | _ => none }
def fnExactCanCutRow : OpenClaim := { program := "ytopchlafmfgpnaa", sum := "fff6157edc3cd31dfb95ea69425dc4b192d4a9cf722f0d84f1bcd3722d5b0d1c", func := "loop.example/g03006/laws.FnExactCanCut", spec := "fnExactCanCut", unfollowed := true, recurses := true, apart := false }
def FnExactCanCutSaid : Prop := fnExactCanCutRow.holds Try.pinned (OpenSpec.ofChange fnExactCanCutSpec)

/-- ITS FALSE NEIGHBOUR: 'it returns false'. Refute it at one input. -/
def fnExactCanCutWrong : ChangeSpec := { name := "fnExactCanCut", fn := fun _ => fun
  | [d1, d2] => { results := [.lit (.bool false)], args := [d1, d2] }
  | _ => none }
def FnExactCanCutWrongFalsely : Prop := fnExactCanCutRow.holds Try.pinned (OpenSpec.ofChange fnExactCanCutWrong)

/-- 'laws.FnExactPrioWish': WHATEVER THE INPUT: true; the input reads as it did. -/
def fnExactPrioWishSpec : ChangeSpec := { name := "fnExactPrioWish", fn := fun _ => fun
  | [d1, d2, d3] => { results := [.lit (.bool true)], args := [d1, d2, d3] }
  | _ => none }
def fnExactPrioWishRow : OpenClaim := { program := "ytopchlafmfgpnaa", sum := "fff6157edc3cd31dfb95ea69425dc4b192d4a9cf722f0d84f1bcd3722d5b0d1c", func := "loop.example/g03006/laws.FnExactPrioWish", spec := "fnExactPrioWish", unfollowed := true, recurses := true, apart := false }
def FnExactPrioWishSaid : Prop := fnExactPrioWishRow.holds Try.pinned (OpenSpec.ofChange fnExactPrioWishSpec)

/-- ITS FALSE NEIGHBOUR: 'it returns false'. Refute it at one input. -/
def fnExactPrioWishWrong : ChangeSpec := { name := "fnExactPrioWish", fn := fun _ => fun
  | [d1, d2, d3] => { results := [.lit (.bool false)], args := [d1, d2, d3] }
  | _ => none }
def FnExactPrioWishWrongFalsely : Prop := fnExactPrioWishRow.holds Try.pinned (OpenSpec.ofChange fnExactPrioWishWrong)

/-- 'laws.FnExactCutFor': WHATEVER THE INPUT: true; the input reads as it did. -/
def fnExactCutForSpec : ChangeSpec := { name := "fnExactCutFor", fn := fun _ => fun
  | [d1, d2, d3] => { results := [.lit (.bool true)], args := [d1, d2, d3] }
  | _ => none }
def fnExactCutForRow : OpenClaim := { program := "ytopchlafmfgpnaa", sum := "fff6157edc3cd31dfb95ea69425dc4b192d4a9cf722f0d84f1bcd3722d5b0d1c", func := "loop.example/g03006/laws.FnExactCutFor", spec := "fnExactCutFor", unfollowed := true, recurses := true, apart := false }
def FnExactCutForSaid : Prop := fnExactCutForRow.holds Try.pinned (OpenSpec.ofChange fnExactCutForSpec)

/-- ITS FALSE NEIGHBOUR: 'it returns false'. Refute it at one input. -/
def fnExactCutForWrong : ChangeSpec := { name := "fnExactCutFor", fn := fun _ => fun
  | [d1, d2, d3] => { results := [.lit (.bool false)], args := [d1, d2, d3] }
  | _ => none }
def FnExactCutForWrongFalsely : Prop := fnExactCutForRow.holds Try.pinned (OpenSpec.ofChange fnExactCutForWrong)

/-- 'laws.FnExactSirenWait': WHATEVER THE INPUT: true; the input reads as it did. -/
def fnExactSirenWaitSpec : ChangeSpec := { name := "fnExactSirenWait", fn := fun _ => fun
  | [d1, d2, d3] => { results := [.lit (.bool true)], args := [d1, d2, d3] }
  | _ => none }
def fnExactSirenWaitRow : OpenClaim := { program := "ytopchlafmfgpnaa", sum := "fff6157edc3cd31dfb95ea69425dc4b192d4a9cf722f0d84f1bcd3722d5b0d1c", func := "loop.example/g03006/laws.FnExactSirenWait", spec := "fnExactSirenWait", unfollowed := true, recurses := true, apart := false }
def FnExactSirenWaitSaid : Prop := fnExactSirenWaitRow.holds Try.pinned (OpenSpec.ofChange fnExactSirenWaitSpec)

/-- ITS FALSE NEIGHBOUR: 'it returns false'. Refute it at one input. -/
def fnExactSirenWaitWrong : ChangeSpec := { name := "fnExactSirenWait", fn := fun _ => fun
  | [d1, d2, d3] => { results := [.lit (.bool false)], args := [d1, d2, d3] }
  | _ => none }
def FnExactSirenWaitWrongFalsely : Prop := fnExactSirenWaitRow.holds Try.pinned (OpenSpec.ofChange fnExactSirenWaitWrong)

/-- 'laws.FnExactStepSiren': WHATEVER THE INPUT: true; the input reads as it did. -/
def fnExactStepSirenSpec : ChangeSpec := { name := "fnExactStepSiren", fn := fun _ => fun
  | [d1, d2, d3] => { results := [.lit (.bool true)], args := [d1, d2, d3] }
  | _ => none }
def fnExactStepSirenRow : OpenClaim := { program := "ytopchlafmfgpnaa", sum := "fff6157edc3cd31dfb95ea69425dc4b192d4a9cf722f0d84f1bcd3722d5b0d1c", func := "loop.example/g03006/laws.FnExactStepSiren", spec := "fnExactStepSiren", unfollowed := true, recurses := true, apart := false }
def FnExactStepSirenSaid : Prop := fnExactStepSirenRow.holds Try.pinned (OpenSpec.ofChange fnExactStepSirenSpec)

/-- ITS FALSE NEIGHBOUR: 'it returns false'. Refute it at one input. -/
def fnExactStepSirenWrong : ChangeSpec := { name := "fnExactStepSiren", fn := fun _ => fun
  | [d1, d2, d3] => { results := [.lit (.bool false)], args := [d1, d2, d3] }
  | _ => none }
def FnExactStepSirenWrongFalsely : Prop := fnExactStepSirenRow.holds Try.pinned (OpenSpec.ofChange fnExactStepSirenWrong)

/-- 'laws.FnSirens': WHATEVER THE INPUT: true; the input reads as it did. -/
def fnSirensSpec : ChangeSpec := { name := "fnSirens", fn := fun _ => fun
  | [d] => { results := [.lit (.bool true)], args := [d] }
  | _ => none }
def fnSirensRow : OpenClaim := { program := "ytopchlafmfgpnaa", sum := "fff6157edc3cd31dfb95ea69425dc4b192d4a9cf722f0d84f1bcd3722d5b0d1c", func := "loop.example/g03006/laws.FnSirens", spec := "fnSirens", unfollowed := true, recurses := true, apart := false }
def FnSirensSaid : Prop := fnSirensRow.holds Try.pinned (OpenSpec.ofChange fnSirensSpec)

/-- ITS FALSE NEIGHBOUR: 'it returns false'. Refute it at one input. -/
def fnSirensWrong : ChangeSpec := { name := "fnSirens", fn := fun _ => fun
  | [d] => { results := [.lit (.bool false)], args := [d] }
  | _ => none }
def FnSirensWrongFalsely : Prop := fnSirensRow.holds Try.pinned (OpenSpec.ofChange fnSirensWrong)

/- THE SECOND FORM. 'bulk': how many values and letters a reading holds, each counted each time it is reached (what is shared counts as often as it is met; a slice's spare places count too). A statement '..UptoSaid' is the law's where the arguments, and the package variables that the reading takes, are together of bulk at most 1048576: NARROWER than '..Said'. Prove '..Said' where nothing that the law and all that it calls make is longer than what came in: it says more and counts as full. Else prove '..UptoSaid'. A law counts once. -/
mutual
def uptoBulk {H : Type} : DataW H → Nat
  | .lit (.string bytes) => bytes.length + 1
  | .lit _ => 1
  | .nil => 1
  | .ptr d => uptoBulk d + 1
  | .slice elems spare => uptoBulkAll elems + uptoBulkAll spare + 1
  | .agg parts => uptoBulkAll parts + 1
  | .iface _ d => uptoBulk d + 1
  | .map entries => uptoBulkEntries entries + 1
  | .held _ => 1
def uptoBulkAll {H : Type} : List (DataW H) → Nat
  | [] => 0
  | d :: r => uptoBulk d + uptoBulkAll r
def uptoBulkEntries {H : Type} : List (Lit × DataW H) → Nat
  | [] => 0
  | x :: r => uptoBulkEntry x + uptoBulkEntries r
def uptoBulkEntry {H : Type} : Lit × DataW H → Nat
  | (.string bytes, d) => bytes.length + uptoBulk d + 1
  | (_, d) => uptoBulk d + 1
 end
def uptoSmall : (H : Type) → List (DataW H) → Bool := fun _ ds => decide (uptoBulkAll ds ≤ 1048576)
def OpenSpec.upto (s : _root_.Go.ChangeSpec) : _root_.Go.OpenSpec := { _root_.Go.OpenSpec.ofChange s with cond := some uptoSmall }

/-- 'laws.FnExactVisible', WHERE WHAT IT READS IS OF BULK AT MOST 1048576: true; the input reads as it did. -/
def fnExactVisibleUptoRow : OpenClaim := { program := "ytopchlafmfgpnaa", sum := "fff6157edc3cd31dfb95ea69425dc4b192d4a9cf722f0d84f1bcd3722d5b0d1c", func := "loop.example/g03006/laws.FnExactVisible", spec := "fnExactVisible", apart := false, narrowed := true }
def FnExactVisibleUptoSaid : Prop := fnExactVisibleUptoRow.holds Try.pinned (OpenSpec.upto fnExactVisibleSpec)

/-- 'laws.FnLamps', WHERE WHAT IT READS IS OF BULK AT MOST 1048576: true; the input reads as it did. -/
def fnLampsUptoRow : OpenClaim := { program := "ytopchlafmfgpnaa", sum := "fff6157edc3cd31dfb95ea69425dc4b192d4a9cf722f0d84f1bcd3722d5b0d1c", func := "loop.example/g03006/laws.FnLamps", spec := "fnLamps", unfollowed := true, recurses := true, apart := false, narrowed := true }
def FnLampsUptoSaid : Prop := fnLampsUptoRow.holds Try.pinned (OpenSpec.upto fnLampsSpec)

/-- 'laws.FnExactCanCut', WHERE WHAT IT READS IS OF BULK AT MOST 1048576: true; the input reads as it did. -/
def fnExactCanCutUptoRow : OpenClaim := { program := "ytopchlafmfgpnaa", sum := "fff6157edc3cd31dfb95ea69425dc4b192d4a9cf722f0d84f1bcd3722d5b0d1c", func := "loop.example/g03006/laws.FnExactCanCut", spec := "fnExactCanCut", unfollowed := true, recurses := true, apart := false, narrowed := true }
def FnExactCanCutUptoSaid : Prop := fnExactCanCutUptoRow.holds Try.pinned (OpenSpec.upto fnExactCanCutSpec)

/-- 'laws.FnExactPrioWish', WHERE WHAT IT READS IS OF BULK AT MOST 1048576: true; the input reads as it did. -/
def fnExactPrioWishUptoRow : OpenClaim := { program := "ytopchlafmfgpnaa", sum := "fff6157edc3cd31dfb95ea69425dc4b192d4a9cf722f0d84f1bcd3722d5b0d1c", func := "loop.example/g03006/laws.FnExactPrioWish", spec := "fnExactPrioWish", unfollowed := true, recurses := true, apart := false, narrowed := true }
def FnExactPrioWishUptoSaid : Prop := fnExactPrioWishUptoRow.holds Try.pinned (OpenSpec.upto fnExactPrioWishSpec)

/-- 'laws.FnExactCutFor', WHERE WHAT IT READS IS OF BULK AT MOST 1048576: true; the input reads as it did. -/
def fnExactCutForUptoRow : OpenClaim := { program := "ytopchlafmfgpnaa", sum := "fff6157edc3cd31dfb95ea69425dc4b192d4a9cf722f0d84f1bcd3722d5b0d1c", func := "loop.example/g03006/laws.FnExactCutFor", spec := "fnExactCutFor", unfollowed := true, recurses := true, apart := false, narrowed := true }
def FnExactCutForUptoSaid : Prop := fnExactCutForUptoRow.holds Try.pinned (OpenSpec.upto fnExactCutForSpec)

/-- 'laws.FnExactSirenWait', WHERE WHAT IT READS IS OF BULK AT MOST 1048576: true; the input reads as it did. -/
def fnExactSirenWaitUptoRow : OpenClaim := { program := "ytopchlafmfgpnaa", sum := "fff6157edc3cd31dfb95ea69425dc4b192d4a9cf722f0d84f1bcd3722d5b0d1c", func := "loop.example/g03006/laws.FnExactSirenWait", spec := "fnExactSirenWait", unfollowed := true, recurses := true, apart := false, narrowed := true }
def FnExactSirenWaitUptoSaid : Prop := fnExactSirenWaitUptoRow.holds Try.pinned (OpenSpec.upto fnExactSirenWaitSpec)

/-- 'laws.FnExactStepSiren', WHERE WHAT IT READS IS OF BULK AT MOST 1048576: true; the input reads as it did. -/
def fnExactStepSirenUptoRow : OpenClaim := { program := "ytopchlafmfgpnaa", sum := "fff6157edc3cd31dfb95ea69425dc4b192d4a9cf722f0d84f1bcd3722d5b0d1c", func := "loop.example/g03006/laws.FnExactStepSiren", spec := "fnExactStepSiren", unfollowed := true, recurses := true, apart := false, narrowed := true }
def FnExactStepSirenUptoSaid : Prop := fnExactStepSirenUptoRow.holds Try.pinned (OpenSpec.upto fnExactStepSirenSpec)

/-- 'laws.FnSirens', WHERE WHAT IT READS IS OF BULK AT MOST 1048576: true; the input reads as it did. -/
def fnSirensUptoRow : OpenClaim := { program := "ytopchlafmfgpnaa", sum := "fff6157edc3cd31dfb95ea69425dc4b192d4a9cf722f0d84f1bcd3722d5b0d1c", func := "loop.example/g03006/laws.FnSirens", spec := "fnSirens", unfollowed := true, recurses := true, apart := false, narrowed := true }
def FnSirensUptoSaid : Prop := fnSirensUptoRow.holds Try.pinned (OpenSpec.upto fnSirensSpec)

end Rows
end Go.Proofs.Ytopchlafmfgpnaa
