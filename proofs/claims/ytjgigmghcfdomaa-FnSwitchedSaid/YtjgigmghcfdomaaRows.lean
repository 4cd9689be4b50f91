/-
  No cell of these rows narrows 'for every input' (looked for: loops, veiled, ifaces, maps, wideKeys, modest, calm, conditions, laid).
  DERIVED. THE GIVEN ROWS OF THIS SEAT. 9 by the template 'for every input the law returns true; each argument reads behind the call as it read before'; 0 by the template 'total and deterministic' (their statements: YtjgigmghcfdomaaTotals.lean).
  GIVEN WITH THE SEED: the statements are not yours to turn. If you find one false, say at which input.
  Laid BY PROGRAM, IN A SANDBOX (cutbox-rows.mjs): the forced cells as the released guide's own fill.sh prints them over the translation 452a403e5bee0b2e… (all of the seat's roots in one cut). By AI agents, Wed Nov 11 2026. No macro, syntax, notation, axiom, sorry.
-/
import Derived.Test.YtjgigmghcfdomaaChecked
import GoSem.Claim
import GoSem.ClaimJoined
import GoSem.ClaimMapViews
import Derived.JoinedTies
import Derived.KernelRfl
namespace Go.Proofs.Ytjgigmghcfdomaa
/- THE CELL 'sum', in the pinned program and in every row, IS THE sha256 OF THE DUMP (.gsa) THAT YtjgigmghcfdomaaProg.lean LOADS. Nothing in Lean hashes anything: it is a label: what it is worth is what the hold of that sum in a sandbox is worth. -/
noncomputable def Try.pinned : Pinned := { name := "ytjgigmghcfdomaa", sum := "452a403e5bee0b2e23fbeea025b155232a26391335d87d67ec7085030f1a08ed", checked := Try.checked }
namespace Rows
def none {H : Type} : Left H := { results := [], args := [] }

/-- 'laws.FnExactLightAfter': WHATEVER THE INPUT: true; the input reads as it did. -/
def fnExactLightAfterSpec : ChangeSpec := { name := "fnExactLightAfter", fn := fun _ => fun
  | [d1, d2, d3, d4, d5, d6] => { results := [.lit (.bool true)], args := [d1, d2, d3, d4, d5, d6] }
  | _ => none }
def fnExactLightAfterRow : OpenClaim := { program := "ytjgigmghcfdomaa", sum := "452a403e5bee0b2e23fbeea025b155232a26391335d87d67ec7085030f1a08ed", func := "loop.example/g03006/laws.FnExactLightAfter", spec := "fnExactLightAfter", unfollowed := true, recurses := true, apart := false }
def FnExactLightAfterSaid : Prop := fnExactLightAfterRow.holds Try.pinned (OpenSpec.ofChange fnExactLightAfterSpec)

/-- ITS FALSE NEIGHBOUR: 'it returns false'. Refute it at one input. -/
def fnExactLightAfterWrong : ChangeSpec := { name := "fnExactLightAfter", fn := fun _ => fun
  | [d1, d2, d3, d4, d5, d6] => { results := [.lit (.bool false)], args := [d1, d2, d3, d4, d5, d6] }
  | _ => none }
def FnExactLightAfterWrongFalsely : Prop := fnExactLightAfterRow.holds Try.pinned (OpenSpec.ofChange fnExactLightAfterWrong)

/-- 'laws.FnExactCanSwitch': WHATEVER THE INPUT: true; the input reads as it did. -/
def fnExactCanSwitchSpec : ChangeSpec := { name := "fnExactCanSwitch", fn := fun _ => fun
  | [d1, d2, d3] => { results := [.lit (.bool true)], args := [d1, d2, d3] }
  | _ => none }
def fnExactCanSwitchRow : OpenClaim := { program := "ytjgigmghcfdomaa", sum := "452a403e5bee0b2e23fbeea025b155232a26391335d87d67ec7085030f1a08ed", func := "loop.example/g03006/laws.FnExactCanSwitch", spec := "fnExactCanSwitch", unfollowed := true, recurses := true, apart := false }
def FnExactCanSwitchSaid : Prop := fnExactCanSwitchRow.holds Try.pinned (OpenSpec.ofChange fnExactCanSwitchSpec)

/-- ITS FALSE NEIGHBOUR: 'it returns false'. Refute it at one input. -/
def fnExactCanSwitchWrong : ChangeSpec := { name := "fnExactCanSwitch", fn := fun _ => fun
  | [d1, d2, d3] => { results := [.lit (.bool false)], args := [d1, d2, d3] }
  | _ => none }
def FnExactCanSwitchWrongFalsely : Prop := fnExactCanSwitchRow.holds Try.pinned (OpenSpec.ofChange fnExactCanSwitchWrong)

/-- 'laws.FnExactSwitchSeconds': WHATEVER THE INPUT: true; the input reads as it did. -/
def fnExactSwitchSecondsSpec : ChangeSpec := { name := "fnExactSwitchSeconds", fn := fun _ => fun
  | [d1, d2, d3] => { results := [.lit (.bool true)], args := [d1, d2, d3] }
  | _ => none }
def fnExactSwitchSecondsRow : OpenClaim := { program := "ytjgigmghcfdomaa", sum := "452a403e5bee0b2e23fbeea025b155232a26391335d87d67ec7085030f1a08ed", func := "loop.example/g03006/laws.FnExactSwitchSeconds", spec := "fnExactSwitchSeconds", unfollowed := true, recurses := true, apart := false }
def FnExactSwitchSecondsSaid : Prop := fnExactSwitchSecondsRow.holds Try.pinned (OpenSpec.ofChange fnExactSwitchSecondsSpec)

/-- ITS FALSE NEIGHBOUR: 'it returns false'. Refute it at one input. -/
def fnExactSwitchSecondsWrong : ChangeSpec := { name := "fnExactSwitchSeconds", fn := fun _ => fun
  | [d1, d2, d3] => { results := [.lit (.bool false)], args := [d1, d2, d3] }
  | _ => none }
def FnExactSwitchSecondsWrongFalsely : Prop := fnExactSwitchSecondsRow.holds Try.pinned (OpenSpec.ofChange fnExactSwitchSecondsWrong)

/-- 'laws.FnExactSwitchAt': WHATEVER THE INPUT: true; the input reads as it did. -/
def fnExactSwitchAtSpec : ChangeSpec := { name := "fnExactSwitchAt", fn := fun _ => fun
  | [d1, d2, d3, d4] => { results := [.lit (.bool true)], args := [d1, d2, d3, d4] }
  | _ => none }
def fnExactSwitchAtRow : OpenClaim := { program := "ytjgigmghcfdomaa", sum := "452a403e5bee0b2e23fbeea025b155232a26391335d87d67ec7085030f1a08ed", func := "loop.example/g03006/laws.FnExactSwitchAt", spec := "fnExactSwitchAt", unfollowed := true, recurses := true, apart := false }
def FnExactSwitchAtSaid : Prop := fnExactSwitchAtRow.holds Try.pinned (OpenSpec.ofChange fnExactSwitchAtSpec)

/-- ITS FALSE NEIGHBOUR: 'it returns false'. Refute it at one input. -/
def fnExactSwitchAtWrong : ChangeSpec := { name := "fnExactSwitchAt", fn := fun _ => fun
  | [d1, d2, d3, d4] => { results := [.lit (.bool false)], args := [d1, d2, d3, d4] }
  | _ => none }
def FnExactSwitchAtWrongFalsely : Prop := fnExactSwitchAtRow.holds Try.pinned (OpenSpec.ofChange fnExactSwitchAtWrong)

/-- 'laws.FnExactWindowOf': WHATEVER THE INPUT: true; the input reads as it did. -/
def fnExactWindowOfSpec : ChangeSpec := { name := "fnExactWindowOf", fn := fun _ => fun
  | [d1, d2, d3] => { results := [.lit (.bool true)], args := [d1, d2, d3] }
  | _ => none }
def fnExactWindowOfRow : OpenClaim := { program := "ytjgigmghcfdomaa", sum := "452a403e5bee0b2e23fbeea025b155232a26391335d87d67ec7085030f1a08ed", func := "loop.example/g03006/laws.FnExactWindowOf", spec := "fnExactWindowOf", unfollowed := true, recurses := true, apart := false }
def FnExactWindowOfSaid : Prop := fnExactWindowOfRow.holds Try.pinned (OpenSpec.ofChange fnExactWindowOfSpec)

/-- ITS FALSE NEIGHBOUR: 'it returns false'. Refute it at one input. -/
def fnExactWindowOfWrong : ChangeSpec := { name := "fnExactWindowOf", fn := fun _ => fun
  | [d1, d2, d3] => { results := [.lit (.bool false)], args := [d1, d2, d3] }
  | _ => none }
def FnExactWindowOfWrongFalsely : Prop := fnExactWindowOfRow.holds Try.pinned (OpenSpec.ofChange fnExactWindowOfWrong)

/-- 'laws.FnWaves': WHATEVER THE INPUT: true; the input reads as it did. -/
def fnWavesSpec : ChangeSpec := { name := "fnWaves", fn := fun _ => fun
  | [d] => { results := [.lit (.bool true)], args := [d] }
  | _ => none }
def fnWavesRow : OpenClaim := { program := "ytjgigmghcfdomaa", sum := "452a403e5bee0b2e23fbeea025b155232a26391335d87d67ec7085030f1a08ed", func := "loop.example/g03006/laws.FnWaves", spec := "fnWaves", unfollowed := true, recurses := true, apart := false }
def FnWavesSaid : Prop := fnWavesRow.holds Try.pinned (OpenSpec.ofChange fnWavesSpec)

/-- ITS FALSE NEIGHBOUR: 'it returns false'. Refute it at one input. -/
def fnWavesWrong : ChangeSpec := { name := "fnWaves", fn := fun _ => fun
  | [d] => { results := [.lit (.bool false)], args := [d] }
  | _ => none }
def FnWavesWrongFalsely : Prop := fnWavesRow.holds Try.pinned (OpenSpec.ofChange fnWavesWrong)

/-- 'laws.FnExactMakeSwitch': WHATEVER THE INPUT: true; the input reads as it did. -/
def fnExactMakeSwitchSpec : ChangeSpec := { name := "fnExactMakeSwitch", fn := fun _ => fun
  | [d1, d2, d3] => { results := [.lit (.bool true)], args := [d1, d2, d3] }
  | _ => none }
def fnExactMakeSwitchRow : OpenClaim := { program := "ytjgigmghcfdomaa", sum := "452a403e5bee0b2e23fbeea025b155232a26391335d87d67ec7085030f1a08ed", func := "loop.example/g03006/laws.FnExactMakeSwitch", spec := "fnExactMakeSwitch", unfollowed := true, recurses := true, apart := false }
def FnExactMakeSwitchSaid : Prop := fnExactMakeSwitchRow.holds Try.pinned (OpenSpec.ofChange fnExactMakeSwitchSpec)

/-- ITS FALSE NEIGHBOUR: 'it returns false'. Refute it at one input. -/
def fnExactMakeSwitchWrong : ChangeSpec := { name := "fnExactMakeSwitch", fn := fun _ => fun
  | [d1, d2, d3] => { results := [.lit (.bool false)], args := [d1, d2, d3] }
  | _ => none }
def FnExactMakeSwitchWrongFalsely : Prop := fnExactMakeSwitchRow.holds Try.pinned (OpenSpec.ofChange fnExactMakeSwitchWrong)

/-- 'laws.FnSwitched': WHATEVER THE INPUT: true; the input reads as it did. -/
def fnSwitchedSpec : ChangeSpec := { name := "fnSwitched", fn := fun _ => fun
  | [d] => { results := [.lit (.bool true)], args := [d] }
  | _ => none }
def fnSwitchedRow : OpenClaim := { program := "ytjgigmghcfdomaa", sum := "452a403e5bee0b2e23fbeea025b155232a26391335d87d67ec7085030f1a08ed", func := "loop.example/g03006/laws.FnSwitched", spec := "fnSwitched", unfollowed := true, recurses := true, apart := false }
def FnSwitchedSaid : Prop := fnSwitchedRow.holds Try.pinned (OpenSpec.ofChange fnSwitchedSpec)

/-- ITS FALSE NEIGHBOUR: 'it returns false'. Refute it at one input. -/
def fnSwitchedWrong : ChangeSpec := { name := "fnSwitched", fn := fun _ => fun
  | [d] => { results := [.lit (.bool false)], args := [d] }
  | _ => none }
def FnSwitchedWrongFalsely : Prop := fnSwitchedRow.holds Try.pinned (OpenSpec.ofChange fnSwitchedWrong)

/-- 'laws.FnExactRotatePlan': WHATEVER THE INPUT: true; the input reads as it did. -/
def fnExactRotatePlanSpec : ChangeSpec := { name := "fnExactRotatePlan", fn := fun _ => fun
  | [d1, d2] => { results := [.lit (.bool true)], args := [d1, d2] }
  | _ => none }
def fnExactRotatePlanRow : OpenClaim := { program := "ytjgigmghcfdomaa", sum := "452a403e5bee0b2e23fbeea025b155232a26391335d87d67ec7085030f1a08ed", func := "loop.example/g03006/laws.FnExactRotatePlan", spec := "fnExactRotatePlan", apart := false }
def FnExactRotatePlanSaid : Prop := fnExactRotatePlanRow.holds Try.pinned (OpenSpec.ofChange fnExactRotatePlanSpec)

/-- ITS FALSE NEIGHBOUR: 'it returns false'. Refute it at one input. -/
def fnExactRotatePlanWrong : ChangeSpec := { name := "fnExactRotatePlan", fn := fun _ => fun
  | [d1, d2] => { results := [.lit (.bool false)], args := [d1, d2] }
  | _ => none }
def FnExactRotatePlanWrongFalsely : Prop := fnExactRotatePlanRow.holds Try.pinned (OpenSpec.ofChange fnExactRotatePlanWrong)

/- THE SECOND FORM. 'bulk': how many values and letters a reading holds, each counted each time it is reached (what is shared counts as often as it is met; a slice's spare places count too). A statement '..UptoSaid' is the law's where the arguments, and the package variables that the reading takes, are together of bulk at most 1048576: NARROWER than '..Said'. Prove '..Said' where nothing that the law and all that it calls make is longer than what came in: it says more and counts as full. Else prove '..UptoSaid'. A law counts once. -/
mutual
def uptoBulk {H : Type} : DataW H → Nat
  | .lit (.string bytes) => bytes.length + 1
  | .lit _ => 1
  | .nil => 1
  | .ptr d => uptoBulk d + 1
  | .slice elems spare => uptoBulkAll elems + uptoBulkAll spare + 1
  | .agg parts => uptoBulkAll parts + 1
  | .iface _ d => uptoBulk d + 1
  | .map entries => uptoBulkEntries entries + 1
  | .held _ => 1
def uptoBulkAll {H : Type} : List (DataW H) → Nat
  | [] => 0
  | d :: r => uptoBulk d + uptoBulkAll r
def uptoBulkEntries {H : Type} : List (Lit × DataW H) → Nat
  | [] => 0
  | x :: r => uptoBulkEntry x + uptoBulkEntries r
def uptoBulkEntry {H : Type} : Lit × DataW H → Nat
  | (.string bytes, d) => bytes.length + uptoBulk d + 1
  | (_, d) => uptoBulk d + 1
 end
def uptoSmall : (H : Type) → List (DataW H) → Bool := fun _ ds => decide (uptoBulkAll ds ≤ 1048576)
def OpenSpec.upto (s : _root_.Go.ChangeSpec) : _root_.Go.OpenSpec := { _root_.Go.OpenSpec.ofChange s with cond := some uptoSmall }

/-- 'laws.FnExactLightAfter', WHERE WHAT IT READS IS OF BULK AT MOST 1048576: true; the input reads as it did. -/
def fnExactLightAfterUptoRow : OpenClaim := { program := "ytjgigmghcfdomaa", sum := "452a403e5bee0b2e23fbeea025b155232a26391335d87d67ec7085030f1a08ed", func := "loop.example/g03006/laws.FnExactLightAfter", spec := "fnExactLightAfter", unfollowed := true, recurses := true, apart := false, narrowed := true }
def FnExactLightAfterUptoSaid : Prop := fnExactLightAfterUptoRow.holds Try.pinned (OpenSpec.upto fnExactLightAfterSpec)

/-- 'laws.FnExactCanSwitch', WHERE WHAT IT READS IS OF BULK AT MOST 1048576: true; the input reads as it did. -/
def fnExactCanSwitchUptoRow : OpenClaim := { program := "ytjgigmghcfdomaa", sum := "452a403e5bee0b2e23fbeea025b155232a26391335d87d67ec7085030f1a08ed", func := "loop.example/g03006/laws.FnExactCanSwitch", spec := "fnExactCanSwitch", unfollowed := true, recurses := true, apart := false, narrowed := true }
def FnExactCanSwitchUptoSaid : Prop := fnExactCanSwitchUptoRow.holds Try.pinned (OpenSpec.upto fnExactCanSwitchSpec)

/-- 'laws.FnExactSwitchSeconds', WHERE WHAT IT READS IS OF BULK AT MOST 1048576: true; the input reads as it did. -/
def fnExactSwitchSecondsUptoRow : OpenClaim := { program := "ytjgigmghcfdomaa", sum := "452a403e5bee0b2e23fbeea025b155232a26391335d87d67ec7085030f1a08ed", func := "loop.example/g03006/laws.FnExactSwitchSeconds", spec := "fnExactSwitchSeconds", unfollowed := true, recurses := true, apart := false, narrowed := true }
def FnExactSwitchSecondsUptoSaid : Prop := fnExactSwitchSecondsUptoRow.holds Try.pinned (OpenSpec.upto fnExactSwitchSecondsSpec)

/-- 'laws.FnExactSwitchAt', WHERE WHAT IT READS IS OF BULK AT MOST 1048576: true; the input reads as it did. -/
def fnExactSwitchAtUptoRow : OpenClaim := { program := "ytjgigmghcfdomaa", sum := "452a403e5bee0b2e23fbeea025b155232a26391335d87d67ec7085030f1a08ed", func := "loop.example/g03006/laws.FnExactSwitchAt", spec := "fnExactSwitchAt", unfollowed := true, recurses := true, apart := false, narrowed := true }
def FnExactSwitchAtUptoSaid : Prop := fnExactSwitchAtUptoRow.holds Try.pinned (OpenSpec.upto fnExactSwitchAtSpec)

/-- 'laws.FnExactWindowOf', WHERE WHAT IT READS IS OF BULK AT MOST 1048576: true; the input reads as it did. -/
def fnExactWindowOfUptoRow : OpenClaim := { program := "ytjgigmghcfdomaa", sum := "452a403e5bee0b2e23fbeea025b155232a26391335d87d67ec7085030f1a08ed", func := "loop.example/g03006/laws.FnExactWindowOf", spec := "fnExactWindowOf", unfollowed := true, recurses := true, apart := false, narrowed := true }
def FnExactWindowOfUptoSaid : Prop := fnExactWindowOfUptoRow.holds Try.pinned (OpenSpec.upto fnExactWindowOfSpec)

/-- 'laws.FnWaves', WHERE WHAT IT READS IS OF BULK AT MOST 1048576: true; the input reads as it did. -/
def fnWavesUptoRow : OpenClaim := { program := "ytjgigmghcfdomaa", sum := "452a403e5bee0b2e23fbeea025b155232a26391335d87d67ec7085030f1a08ed", func := "loop.example/g03006/laws.FnWaves", spec := "fnWaves", unfollowed := true, recurses := true, apart := false, narrowed := true }
def FnWavesUptoSaid : Prop := fnWavesUptoRow.holds Try.pinned (OpenSpec.upto fnWavesSpec)

/-- 'laws.FnExactMakeSwitch', WHERE WHAT IT READS IS OF BULK AT MOST 1048576: true; the input reads as it did. -/
def fnExactMakeSwitchUptoRow : OpenClaim := { program := "ytjgigmghcfdomaa", sum := "452a403e5bee0b2e23fbeea025b155232a26391335d87d67ec7085030f1a08ed", func := "loop.example/g03006/laws.FnExactMakeSwitch", spec := "fnExactMakeSwitch", unfollowed := true, recurses := true, apart := false, narrowed := true }
def FnExactMakeSwitchUptoSaid : Prop := fnExactMakeSwitchUptoRow.holds Try.pinned (OpenSpec.upto fnExactMakeSwitchSpec)

/-- 'laws.FnSwitched', WHERE WHAT IT READS IS OF BULK AT MOST 1048576: true; the input reads as it did. -/
def fnSwitchedUptoRow : OpenClaim := { program := "ytjgigmghcfdomaa", sum := "452a403e5bee0b2e23fbeea025b155232a26391335d87d67ec7085030f1a08ed", func := "loop.example/g03006/laws.FnSwitched", spec := "fnSwitched", unfollowed := true, recurses := true, apart := false, narrowed := true }
def FnSwitchedUptoSaid : Prop := fnSwitchedUptoRow.holds Try.pinned (OpenSpec.upto fnSwitchedSpec)

/-- 'laws.FnExactRotatePlan', WHERE WHAT IT READS IS OF BULK AT MOST 1048576: true; the input reads as it did. -/
def fnExactRotatePlanUptoRow : OpenClaim := { program := "ytjgigmghcfdomaa", sum := "452a403e5bee0b2e23fbeea025b155232a26391335d87d67ec7085030f1a08ed", func := "loop.example/g03006/laws.FnExactRotatePlan", spec := "fnExactRotatePlan", apart := false, narrowed := true }
def FnExactRotatePlanUptoSaid : Prop := fnExactRotatePlanUptoRow.holds Try.pinned (OpenSpec.upto fnExactRotatePlanSpec)

end Rows
end Go.Proofs.Ytjgigmghcfdomaa
