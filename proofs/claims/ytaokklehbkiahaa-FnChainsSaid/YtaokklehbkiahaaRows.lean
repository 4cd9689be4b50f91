/-
  No cell of these rows narrows 'for every input' (looked for: loops, veiled, ifaces, maps, wideKeys, modest, calm, conditions, laid).
  DERIVED. THE GIVEN ROWS OF THIS SEAT. 12 by the template 'for every input the law returns true; each argument reads behind the call as it read before'; 0 by the template 'total and deterministic' (their statements: YtaokklehbkiahaaTotals.lean).
  GIVEN WITH THE SEED: the statements are not yours to turn. If you find one false, say at which input.
  Laid BY PROGRAM, IN A SANDBOX (cutbox-rows.mjs): the forced cells as the released guide's own fill.sh prints them over the translation 67b50fdea1da772d… (all of the seat's roots in one cut). By AI agents, Wed Nov 11 2026. No macro, syntax, notation, axiom, sorry.
-/
import Derived.Test.YtaokklehbkiahaaChecked
import GoSem.Claim
import GoSem.ClaimJoined
import GoSem.ClaimMapViews
import Derived.JoinedTies
import Derived.KernelRfl
namespace Go.Proofs.Ytaokklehbkiahaa
/- THE CELL 'sum', in the pinned program and in every row, IS THE sha256 OF THE DUMP (.gsa) THAT YtaokklehbkiahaaProg.lean LOADS. Nothing in Lean hashes anything: it is a label: what it is worth is what the hold of that sum in a sandbox is worth. -/
noncomputable def Try.pinned : Pinned := { name := "ytaokklehbkiahaa", sum := "67b50fdea1da772d9c8bcc80ab1892e303fc3f32692bfa0ce0f82c79b66bc40a", checked := Try.checked }
namespace Rows
def none {H : Type} : Left H := { results := [], args := [] }

/-- 'laws.FnExactIsTurn': WHATEVER THE INPUT: true; the input reads as it did. -/
def fnExactIsTurnSpec : ChangeSpec := { name := "fnExactIsTurn", fn := fun _ => fun
  | [d] => { results := [.lit (.bool true)], args := [d] }
  | _ => none }
def fnExactIsTurnRow : OpenClaim := { program := "ytaokklehbkiahaa", sum := "67b50fdea1da772d9c8bcc80ab1892e303fc3f32692bfa0ce0f82c79b66bc40a", func := "loop.example/g03006/laws.FnExactIsTurn", spec := "fnExactIsTurn", apart := false }
def FnExactIsTurnSaid : Prop := fnExactIsTurnRow.holds Try.pinned (OpenSpec.ofChange fnExactIsTurnSpec)

/-- ITS FALSE NEIGHBOUR: 'it returns false'. Refute it at one input. -/
def fnExactIsTurnWrong : ChangeSpec := { name := "fnExactIsTurn", fn := fun _ => fun
  | [d] => { results := [.lit (.bool false)], args := [d] }
  | _ => none }
def FnExactIsTurnWrongFalsely : Prop := fnExactIsTurnRow.holds Try.pinned (OpenSpec.ofChange fnExactIsTurnWrong)

/-- 'laws.FnExactHearAll': WHATEVER THE INPUT: true; the input reads as it did. -/
def fnExactHearAllSpec : ChangeSpec := { name := "fnExactHearAll", fn := fun _ => fun
  | [d1, d2, d3, d4] => { results := [.lit (.bool true)], args := [d1, d2, d3, d4] }
  | _ => none }
def fnExactHearAllRow : OpenClaim := { program := "ytaokklehbkiahaa", sum := "67b50fdea1da772d9c8bcc80ab1892e303fc3f32692bfa0ce0f82c79b66bc40a", func := "loop.example/g03006/laws.FnExactHearAll", spec := "fnExactHearAll", apart := false }
def FnExactHearAllSaid : Prop := fnExactHearAllRow.holds Try.pinned (OpenSpec.ofChange fnExactHearAllSpec)

/-- ITS FALSE NEIGHBOUR: 'it returns false'. Refute it at one input. -/
def fnExactHearAllWrong : ChangeSpec := { name := "fnExactHearAll", fn := fun _ => fun
  | [d1, d2, d3, d4] => { results := [.lit (.bool false)], args := [d1, d2, d3, d4] }
  | _ => none }
def FnExactHearAllWrongFalsely : Prop := fnExactHearAllRow.holds Try.pinned (OpenSpec.ofChange fnExactHearAllWrong)

/-- 'laws.FnExactBestOffset': WHATEVER THE INPUT: true; the input reads as it did. -/
def fnExactBestOffsetSpec : ChangeSpec := { name := "fnExactBestOffset", fn := fun _ => fun
  | [d1, d2, d3, d4] => { results := [.lit (.bool true)], args := [d1, d2, d3, d4] }
  | _ => none }
def fnExactBestOffsetRow : OpenClaim := { program := "ytaokklehbkiahaa", sum := "67b50fdea1da772d9c8bcc80ab1892e303fc3f32692bfa0ce0f82c79b66bc40a", func := "loop.example/g03006/laws.FnExactBestOffset", spec := "fnExactBestOffset", apart := false }
def FnExactBestOffsetSaid : Prop := fnExactBestOffsetRow.holds Try.pinned (OpenSpec.ofChange fnExactBestOffsetSpec)

/-- ITS FALSE NEIGHBOUR: 'it returns false'. Refute it at one input. -/
def fnExactBestOffsetWrong : ChangeSpec := { name := "fnExactBestOffset", fn := fun _ => fun
  | [d1, d2, d3, d4] => { results := [.lit (.bool false)], args := [d1, d2, d3, d4] }
  | _ => none }
def FnExactBestOffsetWrongFalsely : Prop := fnExactBestOffsetRow.holds Try.pinned (OpenSpec.ofChange fnExactBestOffsetWrong)

/-- 'laws.FnExactShiftOffsets': WHATEVER THE INPUT: true; the input reads as it did. -/
def fnExactShiftOffsetsSpec : ChangeSpec := { name := "fnExactShiftOffsets", fn := fun _ => fun
  | [d1, d2, d3] => { results := [.lit (.bool true)], args := [d1, d2, d3] }
  | _ => none }
def fnExactShiftOffsetsRow : OpenClaim := { program := "ytaokklehbkiahaa", sum := "67b50fdea1da772d9c8bcc80ab1892e303fc3f32692bfa0ce0f82c79b66bc40a", func := "loop.example/g03006/laws.FnExactShiftOffsets", spec := "fnExactShiftOffsets", apart := false }
def FnExactShiftOffsetsSaid : Prop := fnExactShiftOffsetsRow.holds Try.pinned (OpenSpec.ofChange fnExactShiftOffsetsSpec)

/-- ITS FALSE NEIGHBOUR: 'it returns false'. Refute it at one input. -/
def fnExactShiftOffsetsWrong : ChangeSpec := { name := "fnExactShiftOffsets", fn := fun _ => fun
  | [d1, d2, d3] => { results := [.lit (.bool false)], args := [d1, d2, d3] }
  | _ => none }
def FnExactShiftOffsetsWrongFalsely : Prop := fnExactShiftOffsetsRow.holds Try.pinned (OpenSpec.ofChange fnExactShiftOffsetsWrong)

/-- 'laws.FnExactInStep': WHATEVER THE INPUT: true; the input reads as it did. -/
def fnExactInStepSpec : ChangeSpec := { name := "fnExactInStep", fn := fun _ => fun
  | [d1, d2] => { results := [.lit (.bool true)], args := [d1, d2] }
  | _ => none }
def fnExactInStepRow : OpenClaim := { program := "ytaokklehbkiahaa", sum := "67b50fdea1da772d9c8bcc80ab1892e303fc3f32692bfa0ce0f82c79b66bc40a", func := "loop.example/g03006/laws.FnExactInStep", spec := "fnExactInStep", apart := false }
def FnExactInStepSaid : Prop := fnExactInStepRow.holds Try.pinned (OpenSpec.ofChange fnExactInStepSpec)

/-- ITS FALSE NEIGHBOUR: 'it returns false'. Refute it at one input. -/
def fnExactInStepWrong : ChangeSpec := { name := "fnExactInStep", fn := fun _ => fun
  | [d1, d2] => { results := [.lit (.bool false)], args := [d1, d2] }
  | _ => none }
def FnExactInStepWrongFalsely : Prop := fnExactInStepRow.holds Try.pinned (OpenSpec.ofChange fnExactInStepWrong)

/-- 'laws.FnExactMendLamp': WHATEVER THE INPUT: true; the input reads as it did. -/
def fnExactMendLampSpec : ChangeSpec := { name := "fnExactMendLamp", fn := fun _ => fun
  | [d1, d2, d3] => { results := [.lit (.bool true)], args := [d1, d2, d3] }
  | _ => none }
def fnExactMendLampRow : OpenClaim := { program := "ytaokklehbkiahaa", sum := "67b50fdea1da772d9c8bcc80ab1892e303fc3f32692bfa0ce0f82c79b66bc40a", func := "loop.example/g03006/laws.FnExactMendLamp", spec := "fnExactMendLamp", apart := false }
def FnExactMendLampSaid : Prop := fnExactMendLampRow.holds Try.pinned (OpenSpec.ofChange fnExactMendLampSpec)

/-- ITS FALSE NEIGHBOUR: 'it returns false'. Refute it at one input. -/
def fnExactMendLampWrong : ChangeSpec := { name := "fnExactMendLamp", fn := fun _ => fun
  | [d1, d2, d3] => { results := [.lit (.bool false)], args := [d1, d2, d3] }
  | _ => none }
def FnExactMendLampWrongFalsely : Prop := fnExactMendLampRow.holds Try.pinned (OpenSpec.ofChange fnExactMendLampWrong)

/-- 'laws.FnLinks': WHATEVER THE INPUT: true; the input reads as it did. -/
def fnLinksSpec : ChangeSpec := { name := "fnLinks", fn := fun _ => fun
  | [d] => { results := [.lit (.bool true)], args := [d] }
  | _ => none }
def fnLinksRow : OpenClaim := { program := "ytaokklehbkiahaa", sum := "67b50fdea1da772d9c8bcc80ab1892e303fc3f32692bfa0ce0f82c79b66bc40a", func := "loop.example/g03006/laws.FnLinks", spec := "fnLinks", apart := false }
def FnLinksSaid : Prop := fnLinksRow.holds Try.pinned (OpenSpec.ofChange fnLinksSpec)

/-- ITS FALSE NEIGHBOUR: 'it returns false'. Refute it at one input. -/
def fnLinksWrong : ChangeSpec := { name := "fnLinks", fn := fun _ => fun
  | [d] => { results := [.lit (.bool false)], args := [d] }
  | _ => none }
def FnLinksWrongFalsely : Prop := fnLinksRow.holds Try.pinned (OpenSpec.ofChange fnLinksWrong)

/-- 'laws.FnExactThroughBand': WHATEVER THE INPUT: true; the input reads as it did. -/
def fnExactThroughBandSpec : ChangeSpec := { name := "fnExactThroughBand", fn := fun _ => fun
  | [d1, d2, d3, d4] => { results := [.lit (.bool true)], args := [d1, d2, d3, d4] }
  | _ => none }
def fnExactThroughBandRow : OpenClaim := { program := "ytaokklehbkiahaa", sum := "67b50fdea1da772d9c8bcc80ab1892e303fc3f32692bfa0ce0f82c79b66bc40a", func := "loop.example/g03006/laws.FnExactThroughBand", spec := "fnExactThroughBand", apart := false }
def FnExactThroughBandSaid : Prop := fnExactThroughBandRow.holds Try.pinned (OpenSpec.ofChange fnExactThroughBandSpec)

/-- ITS FALSE NEIGHBOUR: 'it returns false'. Refute it at one input. -/
def fnExactThroughBandWrong : ChangeSpec := { name := "fnExactThroughBand", fn := fun _ => fun
  | [d1, d2, d3, d4] => { results := [.lit (.bool false)], args := [d1, d2, d3, d4] }
  | _ => none }
def FnExactThroughBandWrongFalsely : Prop := fnExactThroughBandRow.holds Try.pinned (OpenSpec.ofChange fnExactThroughBandWrong)

/-- 'laws.FnExactPairBands': WHATEVER THE INPUT: true; the input reads as it did. -/
def fnExactPairBandsSpec : ChangeSpec := { name := "fnExactPairBands", fn := fun _ => fun
  | [d1, d2, d3, d4] => { results := [.lit (.bool true)], args := [d1, d2, d3, d4] }
  | _ => none }
def fnExactPairBandsRow : OpenClaim := { program := "ytaokklehbkiahaa", sum := "67b50fdea1da772d9c8bcc80ab1892e303fc3f32692bfa0ce0f82c79b66bc40a", func := "loop.example/g03006/laws.FnExactPairBands", spec := "fnExactPairBands", apart := false }
def FnExactPairBandsSaid : Prop := fnExactPairBandsRow.holds Try.pinned (OpenSpec.ofChange fnExactPairBandsSpec)

/-- ITS FALSE NEIGHBOUR: 'it returns false'. Refute it at one input. -/
def fnExactPairBandsWrong : ChangeSpec := { name := "fnExactPairBands", fn := fun _ => fun
  | [d1, d2, d3, d4] => { results := [.lit (.bool false)], args := [d1, d2, d3, d4] }
  | _ => none }
def FnExactPairBandsWrongFalsely : Prop := fnExactPairBandsRow.holds Try.pinned (OpenSpec.ofChange fnExactPairBandsWrong)

/-- 'laws.FnExactChainOffsets': WHATEVER THE INPUT: true; the input reads as it did. -/
def fnExactChainOffsetsSpec : ChangeSpec := { name := "fnExactChainOffsets", fn := fun _ => fun
  | [d1, d2, d3] => { results := [.lit (.bool true)], args := [d1, d2, d3] }
  | _ => none }
def fnExactChainOffsetsRow : OpenClaim := { program := "ytaokklehbkiahaa", sum := "67b50fdea1da772d9c8bcc80ab1892e303fc3f32692bfa0ce0f82c79b66bc40a", func := "loop.example/g03006/laws.FnExactChainOffsets", spec := "fnExactChainOffsets", apart := false }
def FnExactChainOffsetsSaid : Prop := fnExactChainOffsetsRow.holds Try.pinned (OpenSpec.ofChange fnExactChainOffsetsSpec)

/-- ITS FALSE NEIGHBOUR: 'it returns false'. Refute it at one input. -/
def fnExactChainOffsetsWrong : ChangeSpec := { name := "fnExactChainOffsets", fn := fun _ => fun
  | [d1, d2, d3] => { results := [.lit (.bool false)], args := [d1, d2, d3] }
  | _ => none }
def FnExactChainOffsetsWrongFalsely : Prop := fnExactChainOffsetsRow.holds Try.pinned (OpenSpec.ofChange fnExactChainOffsetsWrong)

/-- 'laws.FnChains': WHATEVER THE INPUT: true; the input reads as it did. -/
def fnChainsSpec : ChangeSpec := { name := "fnChains", fn := fun _ => fun
  | [d] => { results := [.lit (.bool true)], args := [d] }
  | _ => none }
def fnChainsRow : OpenClaim := { program := "ytaokklehbkiahaa", sum := "67b50fdea1da772d9c8bcc80ab1892e303fc3f32692bfa0ce0f82c79b66bc40a", func := "loop.example/g03006/laws.FnChains", spec := "fnChains", apart := false }
def FnChainsSaid : Prop := fnChainsRow.holds Try.pinned (OpenSpec.ofChange fnChainsSpec)

/-- ITS FALSE NEIGHBOUR: 'it returns false'. Refute it at one input. -/
def fnChainsWrong : ChangeSpec := { name := "fnChains", fn := fun _ => fun
  | [d] => { results := [.lit (.bool false)], args := [d] }
  | _ => none }
def FnChainsWrongFalsely : Prop := fnChainsRow.holds Try.pinned (OpenSpec.ofChange fnChainsWrong)

/-- 'laws.FnExactRotatePlan': WHATEVER THE INPUT: true; the input reads as it did. -/
def fnExactRotatePlanSpec : ChangeSpec := { name := "fnExactRotatePlan", fn := fun _ => fun
  | [d1, d2] => { results := [.lit (.bool true)], args := [d1, d2] }
  | _ => none }
def fnExactRotatePlanRow : OpenClaim := { program := "ytaokklehbkiahaa", sum := "67b50fdea1da772d9c8bcc80ab1892e303fc3f32692bfa0ce0f82c79b66bc40a", func := "loop.example/g03006/laws.FnExactRotatePlan", spec := "fnExactRotatePlan", apart := false }
def FnExactRotatePlanSaid : Prop := fnExactRotatePlanRow.holds Try.pinned (OpenSpec.ofChange fnExactRotatePlanSpec)

/-- ITS FALSE NEIGHBOUR: 'it returns false'. Refute it at one input. -/
def fnExactRotatePlanWrong : ChangeSpec := { name := "fnExactRotatePlan", fn := fun _ => fun
  | [d1, d2] => { results := [.lit (.bool false)], args := [d1, d2] }
  | _ => none }
def FnExactRotatePlanWrongFalsely : Prop := fnExactRotatePlanRow.holds Try.pinned (OpenSpec.ofChange fnExactRotatePlanWrong)

/- THE SECOND FORM. 'bulk': how many values and letters a reading holds, each counted each time it is reached (what is shared counts as often as it is met; a slice's spare places count too). A statement '..UptoSaid' is the law's where the arguments, and the package variables that the reading takes, are together of bulk at most 1048576: NARROWER than '..Said'. Prove '..Said' where nothing that the law and all that it calls make is longer than what came in: it says more and counts as full. Else prove '..UptoSaid'. A law counts once. -/
mutual
def uptoBulk {H : Type} : DataW H → Nat
  | .lit (.string bytes) => bytes.length + 1
  | .lit _ => 1
  | .nil => 1
  | .ptr d => uptoBulk d + 1
  | .slice elems spare => uptoBulkAll elems + uptoBulkAll spare + 1
  | .agg parts => uptoBulkAll parts + 1
  | .iface _ d => uptoBulk d + 1
  | .map entries => uptoBulkEntries entries + 1
  | .held _ => 1
def uptoBulkAll {H : Type} : List (DataW H) → Nat
  | [] => 0
  | d :: r => uptoBulk d + uptoBulkAll r
def uptoBulkEntries {H : Type} : List (Lit × DataW H) → Nat
  | [] => 0
  | x :: r => uptoBulkEntry x + uptoBulkEntries r
def uptoBulkEntry {H : Type} : Lit × DataW H → Nat
  | (.string bytes, d) => bytes.length + uptoBulk d + 1
  | (_, d) => uptoBulk d + 1
 end
def uptoSmall : (H : Type) → List (DataW H) → Bool := fun _ ds => decide (uptoBulkAll ds ≤ 1048576)
def OpenSpec.upto (s : _root_.Go.ChangeSpec) : _root_.Go.OpenSpec := { _root_.Go.OpenSpec.ofChange s with cond := some uptoSmall }

/-- 'laws.FnExactIsTurn', WHERE WHAT IT READS IS OF BULK AT MOST 1048576: true; the input reads as it did. -/
def fnExactIsTurnUptoRow : OpenClaim := { program := "ytaokklehbkiahaa", sum := "67b50fdea1da772d9c8bcc80ab1892e303fc3f32692bfa0ce0f82c79b66bc40a", func := "loop.example/g03006/laws.FnExactIsTurn", spec := "fnExactIsTurn", apart := false, narrowed := true }
def FnExactIsTurnUptoSaid : Prop := fnExactIsTurnUptoRow.holds Try.pinned (OpenSpec.upto fnExactIsTurnSpec)

/-- 'laws.FnExactHearAll', WHERE WHAT IT READS IS OF BULK AT MOST 1048576: true; the input reads as it did. -/
def fnExactHearAllUptoRow : OpenClaim := { program := "ytaokklehbkiahaa", sum := "67b50fdea1da772d9c8bcc80ab1892e303fc3f32692bfa0ce0f82c79b66bc40a", func := "loop.example/g03006/laws.FnExactHearAll", spec := "fnExactHearAll", apart := false, narrowed := true }
def FnExactHearAllUptoSaid : Prop := fnExactHearAllUptoRow.holds Try.pinned (OpenSpec.upto fnExactHearAllSpec)

/-- 'laws.FnExactBestOffset', WHERE WHAT IT READS IS OF BULK AT MOST 1048576: true; the input reads as it did. -/
def fnExactBestOffsetUptoRow : OpenClaim := { program := "ytaokklehbkiahaa", sum := "67b50fdea1da772d9c8bcc80ab1892e303fc3f32692bfa0ce0f82c79b66bc40a", func := "loop.example/g03006/laws.FnExactBestOffset", spec := "fnExactBestOffset", apart := false, narrowed := true }
def FnExactBestOffsetUptoSaid : Prop := fnExactBestOffsetUptoRow.holds Try.pinned (OpenSpec.upto fnExactBestOffsetSpec)

/-- 'laws.FnExactShiftOffsets', WHERE WHAT IT READS IS OF BULK AT MOST 1048576: true; the input reads as it did. -/
def fnExactShiftOffsetsUptoRow : OpenClaim := { program := "ytaokklehbkiahaa", sum := "67b50fdea1da772d9c8bcc80ab1892e303fc3f32692bfa0ce0f82c79b66bc40a", func := "loop.example/g03006/laws.FnExactShiftOffsets", spec := "fnExactShiftOffsets", apart := false, narrowed := true }
def FnExactShiftOffsetsUptoSaid : Prop := fnExactShiftOffsetsUptoRow.holds Try.pinned (OpenSpec.upto fnExactShiftOffsetsSpec)

/-- 'laws.FnExactInStep', WHERE WHAT IT READS IS OF BULK AT MOST 1048576: true; the input reads as it did. -/
def fnExactInStepUptoRow : OpenClaim := { program := "ytaokklehbkiahaa", sum := "67b50fdea1da772d9c8bcc80ab1892e303fc3f32692bfa0ce0f82c79b66bc40a", func := "loop.example/g03006/laws.FnExactInStep", spec := "fnExactInStep", apart := false, narrowed := true }
def FnExactInStepUptoSaid : Prop := fnExactInStepUptoRow.holds Try.pinned (OpenSpec.upto fnExactInStepSpec)

/-- 'laws.FnExactMendLamp', WHERE WHAT IT READS IS OF BULK AT MOST 1048576: true; the input reads as it did. -/
def fnExactMendLampUptoRow : OpenClaim := { program := "ytaokklehbkiahaa", sum := "67b50fdea1da772d9c8bcc80ab1892e303fc3f32692bfa0ce0f82c79b66bc40a", func := "loop.example/g03006/laws.FnExactMendLamp", spec := "fnExactMendLamp", apart := false, narrowed := true }
def FnExactMendLampUptoSaid : Prop := fnExactMendLampUptoRow.holds Try.pinned (OpenSpec.upto fnExactMendLampSpec)

/-- 'laws.FnLinks', WHERE WHAT IT READS IS OF BULK AT MOST 1048576: true; the input reads as it did. -/
def fnLinksUptoRow : OpenClaim := { program := "ytaokklehbkiahaa", sum := "67b50fdea1da772d9c8bcc80ab1892e303fc3f32692bfa0ce0f82c79b66bc40a", func := "loop.example/g03006/laws.FnLinks", spec := "fnLinks", apart := false, narrowed := true }
def FnLinksUptoSaid : Prop := fnLinksUptoRow.holds Try.pinned (OpenSpec.upto fnLinksSpec)

/-- 'laws.FnExactThroughBand', WHERE WHAT IT READS IS OF BULK AT MOST 1048576: true; the input reads as it did. -/
def fnExactThroughBandUptoRow : OpenClaim := { program := "ytaokklehbkiahaa", sum := "67b50fdea1da772d9c8bcc80ab1892e303fc3f32692bfa0ce0f82c79b66bc40a", func := "loop.example/g03006/laws.FnExactThroughBand", spec := "fnExactThroughBand", apart := false, narrowed := true }
def FnExactThroughBandUptoSaid : Prop := fnExactThroughBandUptoRow.holds Try.pinned (OpenSpec.upto fnExactThroughBandSpec)

/-- 'laws.FnExactPairBands', WHERE WHAT IT READS IS OF BULK AT MOST 1048576: true; the input reads as it did. -/
def fnExactPairBandsUptoRow : OpenClaim := { program := "ytaokklehbkiahaa", sum := "67b50fdea1da772d9c8bcc80ab1892e303fc3f32692bfa0ce0f82c79b66bc40a", func := "loop.example/g03006/laws.FnExactPairBands", spec := "fnExactPairBands", apart := false, narrowed := true }
def FnExactPairBandsUptoSaid : Prop := fnExactPairBandsUptoRow.holds Try.pinned (OpenSpec.upto fnExactPairBandsSpec)

/-- 'laws.FnExactChainOffsets', WHERE WHAT IT READS IS OF BULK AT MOST 1048576: true; the input reads as it did. -/
def fnExactChainOffsetsUptoRow : OpenClaim := { program := "ytaokklehbkiahaa", sum := "67b50fdea1da772d9c8bcc80ab1892e303fc3f32692bfa0ce0f82c79b66bc40a", func := "loop.example/g03006/laws.FnExactChainOffsets", spec := "fnExactChainOffsets", apart := false, narrowed := true }
def FnExactChainOffsetsUptoSaid : Prop := fnExactChainOffsetsUptoRow.holds Try.pinned (OpenSpec.upto fnExactChainOffsetsSpec)

/-- 'laws.FnChains', WHERE WHAT IT READS IS OF BULK AT MOST 1048576: true; the input reads as it did. -/
def fnChainsUptoRow : OpenClaim := { program := "ytaokklehbkiahaa", sum := "67b50fdea1da772d9c8bcc80ab1892e303fc3f32692bfa0ce0f82c79b66bc40a", func := "loop.example/g03006/laws.FnChains", spec := "fnChains", apart := false, narrowed := true }
def FnChainsUptoSaid : Prop := fnChainsUptoRow.holds Try.pinned (OpenSpec.upto fnChainsSpec)

/-- 'laws.FnExactRotatePlan', WHERE WHAT IT READS IS OF BULK AT MOST 1048576: true; the input reads as it did. -/
def fnExactRotatePlanUptoRow : OpenClaim := { program := "ytaokklehbkiahaa", sum := "67b50fdea1da772d9c8bcc80ab1892e303fc3f32692bfa0ce0f82c79b66bc40a", func := "loop.example/g03006/laws.FnExactRotatePlan", spec := "fnExactRotatePlan", apart := false, narrowed := true }
def FnExactRotatePlanUptoSaid : Prop := fnExactRotatePlanUptoRow.holds Try.pinned (OpenSpec.upto fnExactRotatePlanSpec)

end Rows
end Go.Proofs.Ytaokklehbkiahaa
