/-
  No cell of these rows narrows 'for every input' (looked for: loops, veiled, ifaces, maps, wideKeys, modest, calm, conditions, laid).
  DERIVED. THE GIVEN ROWS OF THIS SEAT. 12 by the template 'for every input the law returns true; each argument reads behind the call as it read before'; 0 by the template 'total and deterministic' (their statements: YtpbpjlfpljjjhaaTotals.lean).
  GIVEN WITH THE SEED: the statements are not yours to turn. If you find one false, say at which input.
  Laid BY PROGRAM, IN A SANDBOX (cutbox-rows.mjs): the forced cells as the released guide's own fill.sh prints them over the translation cef42aadd1b88ce5… (all of the seat's roots in one cut). By AI agents, Wed Nov 11 2026. No macro, syntax, notation, axiom, sorry.
-/
import Derived.Test.YtpbpjlfpljjjhaaChecked
import GoSem.Claim
import GoSem.ClaimJoined
import GoSem.ClaimMapViews
import Derived.JoinedTies
import Derived.KernelRfl
namespace Go.Proofs.Ytpbpjlfpljjjhaa
/- THE CELL 'sum', in the pinned program and in every row, IS THE sha256 OF THE DUMP (.gsa) THAT YtpbpjlfpljjjhaaProg.lean LOADS. Nothing in Lean hashes anything: it is a label: what it is worth is what the hold of that sum in a sandbox is worth. -/
noncomputable def Try.pinned : Pinned := { name := "ytpbpjlfpljjjhaa", sum := "cef42aadd1b88ce5bd18750ab58b7d8c14b56fee6ef915a913f8c5b559ffadd4", checked := Try.checked }
namespace Rows
def none {H : Type} : Left H := { results := [], args := [] }

/-- 'laws.FnExactIsWindow': WHATEVER THE INPUT: true; the input reads as it did. -/
def fnExactIsWindowSpec : ChangeSpec := { name := "fnExactIsWindow", fn := fun _ => fun
  | [d1, d2] => { results := [.lit (.bool true)], args := [d1, d2] }
  | _ => none }
def fnExactIsWindowRow : OpenClaim := { program := "ytpbpjlfpljjjhaa", sum := "cef42aadd1b88ce5bd18750ab58b7d8c14b56fee6ef915a913f8c5b559ffadd4", func := "loop.example/g03006/laws.FnExactIsWindow", spec := "fnExactIsWindow", apart := false }
def FnExactIsWindowSaid : Prop := fnExactIsWindowRow.holds Try.pinned (OpenSpec.ofChange fnExactIsWindowSpec)

/-- ITS FALSE NEIGHBOUR: 'it returns false'. Refute it at one input. -/
def fnExactIsWindowWrong : ChangeSpec := { name := "fnExactIsWindow", fn := fun _ => fun
  | [d1, d2] => { results := [.lit (.bool false)], args := [d1, d2] }
  | _ => none }
def FnExactIsWindowWrongFalsely : Prop := fnExactIsWindowRow.holds Try.pinned (OpenSpec.ofChange fnExactIsWindowWrong)

/-- 'laws.FnExactIsLink': WHATEVER THE INPUT: true; the input reads as it did. -/
def fnExactIsLinkSpec : ChangeSpec := { name := "fnExactIsLink", fn := fun _ => fun
  | [d] => { results := [.lit (.bool true)], args := [d] }
  | _ => none }
def fnExactIsLinkRow : OpenClaim := { program := "ytpbpjlfpljjjhaa", sum := "cef42aadd1b88ce5bd18750ab58b7d8c14b56fee6ef915a913f8c5b559ffadd4", func := "loop.example/g03006/laws.FnExactIsLink", spec := "fnExactIsLink", apart := false }
def FnExactIsLinkSaid : Prop := fnExactIsLinkRow.holds Try.pinned (OpenSpec.ofChange fnExactIsLinkSpec)

/-- ITS FALSE NEIGHBOUR: 'it returns false'. Refute it at one input. -/
def fnExactIsLinkWrong : ChangeSpec := { name := "fnExactIsLink", fn := fun _ => fun
  | [d] => { results := [.lit (.bool false)], args := [d] }
  | _ => none }
def FnExactIsLinkWrongFalsely : Prop := fnExactIsLinkRow.holds Try.pinned (OpenSpec.ofChange fnExactIsLinkWrong)

/-- 'laws.FnExactModeName': WHATEVER THE INPUT: true; the input reads as it did. -/
def fnExactModeNameSpec : ChangeSpec := { name := "fnExactModeName", fn := fun _ => fun
  | [d] => { results := [.lit (.bool true)], args := [d] }
  | _ => none }
def fnExactModeNameRow : OpenClaim := { program := "ytpbpjlfpljjjhaa", sum := "cef42aadd1b88ce5bd18750ab58b7d8c14b56fee6ef915a913f8c5b559ffadd4", func := "loop.example/g03006/laws.FnExactModeName", spec := "fnExactModeName", apart := false }
def FnExactModeNameSaid : Prop := fnExactModeNameRow.holds Try.pinned (OpenSpec.ofChange fnExactModeNameSpec)

/-- ITS FALSE NEIGHBOUR: 'it returns false'. Refute it at one input. -/
def fnExactModeNameWrong : ChangeSpec := { name := "fnExactModeName", fn := fun _ => fun
  | [d] => { results := [.lit (.bool false)], args := [d] }
  | _ => none }
def FnExactModeNameWrongFalsely : Prop := fnExactModeNameRow.holds Try.pinned (OpenSpec.ofChange fnExactModeNameWrong)

/-- 'laws.FnExactStateName': WHATEVER THE INPUT: true; the input reads as it did. -/
def fnExactStateNameSpec : ChangeSpec := { name := "fnExactStateName", fn := fun _ => fun
  | [d] => { results := [.lit (.bool true)], args := [d] }
  | _ => none }
def fnExactStateNameRow : OpenClaim := { program := "ytpbpjlfpljjjhaa", sum := "cef42aadd1b88ce5bd18750ab58b7d8c14b56fee6ef915a913f8c5b559ffadd4", func := "loop.example/g03006/laws.FnExactStateName", spec := "fnExactStateName", apart := false }
def FnExactStateNameSaid : Prop := fnExactStateNameRow.holds Try.pinned (OpenSpec.ofChange fnExactStateNameSpec)

/-- ITS FALSE NEIGHBOUR: 'it returns false'. Refute it at one input. -/
def fnExactStateNameWrong : ChangeSpec := { name := "fnExactStateName", fn := fun _ => fun
  | [d] => { results := [.lit (.bool false)], args := [d] }
  | _ => none }
def FnExactStateNameWrongFalsely : Prop := fnExactStateNameRow.holds Try.pinned (OpenSpec.ofChange fnExactStateNameWrong)

/-- 'laws.FnExactGreatestBand': WHATEVER THE INPUT: true; the input reads as it did. -/
def fnExactGreatestBandSpec : ChangeSpec := { name := "fnExactGreatestBand", fn := fun _ => fun
  | [d1, d2, d3] => { results := [.lit (.bool true)], args := [d1, d2, d3] }
  | _ => none }
def fnExactGreatestBandRow : OpenClaim := { program := "ytpbpjlfpljjjhaa", sum := "cef42aadd1b88ce5bd18750ab58b7d8c14b56fee6ef915a913f8c5b559ffadd4", func := "loop.example/g03006/laws.FnExactGreatestBand", spec := "fnExactGreatestBand", apart := false }
def FnExactGreatestBandSaid : Prop := fnExactGreatestBandRow.holds Try.pinned (OpenSpec.ofChange fnExactGreatestBandSpec)

/-- ITS FALSE NEIGHBOUR: 'it returns false'. Refute it at one input. -/
def fnExactGreatestBandWrong : ChangeSpec := { name := "fnExactGreatestBand", fn := fun _ => fun
  | [d1, d2, d3] => { results := [.lit (.bool false)], args := [d1, d2, d3] }
  | _ => none }
def FnExactGreatestBandWrongFalsely : Prop := fnExactGreatestBandRow.holds Try.pinned (OpenSpec.ofChange fnExactGreatestBandWrong)

/-- 'laws.FnExactLinkState': WHATEVER THE INPUT: true; the input reads as it did. -/
def fnExactLinkStateSpec : ChangeSpec := { name := "fnExactLinkState", fn := fun _ => fun
  | [d1, d2] => { results := [.lit (.bool true)], args := [d1, d2] }
  | _ => none }
def fnExactLinkStateRow : OpenClaim := { program := "ytpbpjlfpljjjhaa", sum := "cef42aadd1b88ce5bd18750ab58b7d8c14b56fee6ef915a913f8c5b559ffadd4", func := "loop.example/g03006/laws.FnExactLinkState", spec := "fnExactLinkState", apart := false }
def FnExactLinkStateSaid : Prop := fnExactLinkStateRow.holds Try.pinned (OpenSpec.ofChange fnExactLinkStateSpec)

/-- ITS FALSE NEIGHBOUR: 'it returns false'. Refute it at one input. -/
def fnExactLinkStateWrong : ChangeSpec := { name := "fnExactLinkState", fn := fun _ => fun
  | [d1, d2] => { results := [.lit (.bool false)], args := [d1, d2] }
  | _ => none }
def FnExactLinkStateWrongFalsely : Prop := fnExactLinkStateRow.holds Try.pinned (OpenSpec.ofChange fnExactLinkStateWrong)

/-- 'laws.FnExactInWindow': WHATEVER THE INPUT: true; the input reads as it did. -/
def fnExactInWindowSpec : ChangeSpec := { name := "fnExactInWindow", fn := fun _ => fun
  | [d1, d2, d3, d4] => { results := [.lit (.bool true)], args := [d1, d2, d3, d4] }
  | _ => none }
def fnExactInWindowRow : OpenClaim := { program := "ytpbpjlfpljjjhaa", sum := "cef42aadd1b88ce5bd18750ab58b7d8c14b56fee6ef915a913f8c5b559ffadd4", func := "loop.example/g03006/laws.FnExactInWindow", spec := "fnExactInWindow", apart := false }
def FnExactInWindowSaid : Prop := fnExactInWindowRow.holds Try.pinned (OpenSpec.ofChange fnExactInWindowSpec)

/-- ITS FALSE NEIGHBOUR: 'it returns false'. Refute it at one input. -/
def fnExactInWindowWrong : ChangeSpec := { name := "fnExactInWindow", fn := fun _ => fun
  | [d1, d2, d3, d4] => { results := [.lit (.bool false)], args := [d1, d2, d3, d4] }
  | _ => none }
def FnExactInWindowWrongFalsely : Prop := fnExactInWindowRow.holds Try.pinned (OpenSpec.ofChange fnExactInWindowWrong)

/-- 'laws.FnExactHearLink': WHATEVER THE INPUT: true; the input reads as it did. -/
def fnExactHearLinkSpec : ChangeSpec := { name := "fnExactHearLink", fn := fun _ => fun
  | [d1, d2, d3, d4] => { results := [.lit (.bool true)], args := [d1, d2, d3, d4] }
  | _ => none }
def fnExactHearLinkRow : OpenClaim := { program := "ytpbpjlfpljjjhaa", sum := "cef42aadd1b88ce5bd18750ab58b7d8c14b56fee6ef915a913f8c5b559ffadd4", func := "loop.example/g03006/laws.FnExactHearLink", spec := "fnExactHearLink", apart := false }
def FnExactHearLinkSaid : Prop := fnExactHearLinkRow.holds Try.pinned (OpenSpec.ofChange fnExactHearLinkSpec)

/-- ITS FALSE NEIGHBOUR: 'it returns false'. Refute it at one input. -/
def fnExactHearLinkWrong : ChangeSpec := { name := "fnExactHearLink", fn := fun _ => fun
  | [d1, d2, d3, d4] => { results := [.lit (.bool false)], args := [d1, d2, d3, d4] }
  | _ => none }
def FnExactHearLinkWrongFalsely : Prop := fnExactHearLinkRow.holds Try.pinned (OpenSpec.ofChange fnExactHearLinkWrong)

/-- 'laws.FnExactBand': WHATEVER THE INPUT: true; the input reads as it did. -/
def fnExactBandSpec : ChangeSpec := { name := "fnExactBand", fn := fun _ => fun
  | [d1, d2, d3, d4, d5] => { results := [.lit (.bool true)], args := [d1, d2, d3, d4, d5] }
  | _ => none }
def fnExactBandRow : OpenClaim := { program := "ytpbpjlfpljjjhaa", sum := "cef42aadd1b88ce5bd18750ab58b7d8c14b56fee6ef915a913f8c5b559ffadd4", func := "loop.example/g03006/laws.FnExactBand", spec := "fnExactBand", apart := false }
def FnExactBandSaid : Prop := fnExactBandRow.holds Try.pinned (OpenSpec.ofChange fnExactBandSpec)

/-- ITS FALSE NEIGHBOUR: 'it returns false'. Refute it at one input. -/
def fnExactBandWrong : ChangeSpec := { name := "fnExactBand", fn := fun _ => fun
  | [d1, d2, d3, d4, d5] => { results := [.lit (.bool false)], args := [d1, d2, d3, d4, d5] }
  | _ => none }
def FnExactBandWrongFalsely : Prop := fnExactBandRow.holds Try.pinned (OpenSpec.ofChange fnExactBandWrong)

/-- 'laws.FnExactLeastWindow': WHATEVER THE INPUT: true; the input reads as it did. -/
def fnExactLeastWindowSpec : ChangeSpec := { name := "fnExactLeastWindow", fn := fun _ => fun
  | [d] => { results := [.lit (.bool true)], args := [d] }
  | _ => none }
def fnExactLeastWindowRow : OpenClaim := { program := "ytpbpjlfpljjjhaa", sum := "cef42aadd1b88ce5bd18750ab58b7d8c14b56fee6ef915a913f8c5b559ffadd4", func := "loop.example/g03006/laws.FnExactLeastWindow", spec := "fnExactLeastWindow", apart := false }
def FnExactLeastWindowSaid : Prop := fnExactLeastWindowRow.holds Try.pinned (OpenSpec.ofChange fnExactLeastWindowSpec)

/-- ITS FALSE NEIGHBOUR: 'it returns false'. Refute it at one input. -/
def fnExactLeastWindowWrong : ChangeSpec := { name := "fnExactLeastWindow", fn := fun _ => fun
  | [d] => { results := [.lit (.bool false)], args := [d] }
  | _ => none }
def FnExactLeastWindowWrongFalsely : Prop := fnExactLeastWindowRow.holds Try.pinned (OpenSpec.ofChange fnExactLeastWindowWrong)

/-- 'laws.FnExactIsBroken': WHATEVER THE INPUT: true; the input reads as it did. -/
def fnExactIsBrokenSpec : ChangeSpec := { name := "fnExactIsBroken", fn := fun _ => fun
  | [d1, d2, d3] => { results := [.lit (.bool true)], args := [d1, d2, d3] }
  | _ => none }
def fnExactIsBrokenRow : OpenClaim := { program := "ytpbpjlfpljjjhaa", sum := "cef42aadd1b88ce5bd18750ab58b7d8c14b56fee6ef915a913f8c5b559ffadd4", func := "loop.example/g03006/laws.FnExactIsBroken", spec := "fnExactIsBroken", apart := false }
def FnExactIsBrokenSaid : Prop := fnExactIsBrokenRow.holds Try.pinned (OpenSpec.ofChange fnExactIsBrokenSpec)

/-- ITS FALSE NEIGHBOUR: 'it returns false'. Refute it at one input. -/
def fnExactIsBrokenWrong : ChangeSpec := { name := "fnExactIsBroken", fn := fun _ => fun
  | [d1, d2, d3] => { results := [.lit (.bool false)], args := [d1, d2, d3] }
  | _ => none }
def FnExactIsBrokenWrongFalsely : Prop := fnExactIsBrokenRow.holds Try.pinned (OpenSpec.ofChange fnExactIsBrokenWrong)

/-- 'laws.FnExactCountVotes': WHATEVER THE INPUT: true; the input reads as it did. -/
def fnExactCountVotesSpec : ChangeSpec := { name := "fnExactCountVotes", fn := fun _ => fun
  | [d1, d2] => { results := [.lit (.bool true)], args := [d1, d2] }
  | _ => none }
def fnExactCountVotesRow : OpenClaim := { program := "ytpbpjlfpljjjhaa", sum := "cef42aadd1b88ce5bd18750ab58b7d8c14b56fee6ef915a913f8c5b559ffadd4", func := "loop.example/g03006/laws.FnExactCountVotes", spec := "fnExactCountVotes", apart := false }
def FnExactCountVotesSaid : Prop := fnExactCountVotesRow.holds Try.pinned (OpenSpec.ofChange fnExactCountVotesSpec)

/-- ITS FALSE NEIGHBOUR: 'it returns false'. Refute it at one input. -/
def fnExactCountVotesWrong : ChangeSpec := { name := "fnExactCountVotes", fn := fun _ => fun
  | [d1, d2] => { results := [.lit (.bool false)], args := [d1, d2] }
  | _ => none }
def FnExactCountVotesWrongFalsely : Prop := fnExactCountVotesRow.holds Try.pinned (OpenSpec.ofChange fnExactCountVotesWrong)

/- THE SECOND FORM. 'bulk': how many values and letters a reading holds, each counted each time it is reached (what is shared counts as often as it is met; a slice's spare places count too). A statement '..UptoSaid' is the law's where the arguments, and the package variables that the reading takes, are together of bulk at most 1048576: NARROWER than '..Said'. Prove '..Said' where nothing that the law and all that it calls make is longer than what came in: it says more and counts as full. Else prove '..UptoSaid'. A law counts once. -/
mutual
def uptoBulk {H : Type} : DataW H → Nat
  | .lit (.string bytes) => bytes.length + 1
  | .lit _ => 1
  | .nil => 1
  | .ptr d => uptoBulk d + 1
  | .slice elems spare => uptoBulkAll elems + uptoBulkAll spare + 1
  | .agg parts => uptoBulkAll parts + 1
  | .iface _ d => uptoBulk d + 1
  | .map entries => uptoBulkEntries entries + 1
  | .held _ => 1
def uptoBulkAll {H : Type} : List (DataW H) → Nat
  | [] => 0
  | d :: r => uptoBulk d + uptoBulkAll r
def uptoBulkEntries {H : Type} : List (Lit × DataW H) → Nat
  | [] => 0
  | x :: r => uptoBulkEntry x + uptoBulkEntries r
def uptoBulkEntry {H : Type} : Lit × DataW H → Nat
  | (.string bytes, d) => bytes.length + uptoBulk d + 1
  | (_, d) => uptoBulk d + 1
 end
def uptoSmall : (H : Type) → List (DataW H) → Bool := fun _ ds => decide (uptoBulkAll ds ≤ 1048576)
def OpenSpec.upto (s : _root_.Go.ChangeSpec) : _root_.Go.OpenSpec := { _root_.Go.OpenSpec.ofChange s with cond := some uptoSmall }

/-- 'laws.FnExactIsWindow', WHERE WHAT IT READS IS OF BULK AT MOST 1048576: true; the input reads as it did. -/
def fnExactIsWindowUptoRow : OpenClaim := { program := "ytpbpjlfpljjjhaa", sum := "cef42aadd1b88ce5bd18750ab58b7d8c14b56fee6ef915a913f8c5b559ffadd4", func := "loop.example/g03006/laws.FnExactIsWindow", spec := "fnExactIsWindow", apart := false, narrowed := true }
def FnExactIsWindowUptoSaid : Prop := fnExactIsWindowUptoRow.holds Try.pinned (OpenSpec.upto fnExactIsWindowSpec)

/-- 'laws.FnExactIsLink', WHERE WHAT IT READS IS OF BULK AT MOST 1048576: true; the input reads as it did. -/
def fnExactIsLinkUptoRow : OpenClaim := { program := "ytpbpjlfpljjjhaa", sum := "cef42aadd1b88ce5bd18750ab58b7d8c14b56fee6ef915a913f8c5b559ffadd4", func := "loop.example/g03006/laws.FnExactIsLink", spec := "fnExactIsLink", apart := false, narrowed := true }
def FnExactIsLinkUptoSaid : Prop := fnExactIsLinkUptoRow.holds Try.pinned (OpenSpec.upto fnExactIsLinkSpec)

/-- 'laws.FnExactModeName', WHERE WHAT IT READS IS OF BULK AT MOST 1048576: true; the input reads as it did. -/
def fnExactModeNameUptoRow : OpenClaim := { program := "ytpbpjlfpljjjhaa", sum := "cef42aadd1b88ce5bd18750ab58b7d8c14b56fee6ef915a913f8c5b559ffadd4", func := "loop.example/g03006/laws.FnExactModeName", spec := "fnExactModeName", apart := false, narrowed := true }
def FnExactModeNameUptoSaid : Prop := fnExactModeNameUptoRow.holds Try.pinned (OpenSpec.upto fnExactModeNameSpec)

/-- 'laws.FnExactStateName', WHERE WHAT IT READS IS OF BULK AT MOST 1048576: true; the input reads as it did. -/
def fnExactStateNameUptoRow : OpenClaim := { program := "ytpbpjlfpljjjhaa", sum := "cef42aadd1b88ce5bd18750ab58b7d8c14b56fee6ef915a913f8c5b559ffadd4", func := "loop.example/g03006/laws.FnExactStateName", spec := "fnExactStateName", apart := false, narrowed := true }
def FnExactStateNameUptoSaid : Prop := fnExactStateNameUptoRow.holds Try.pinned (OpenSpec.upto fnExactStateNameSpec)

/-- 'laws.FnExactGreatestBand', WHERE WHAT IT READS IS OF BULK AT MOST 1048576: true; the input reads as it did. -/
def fnExactGreatestBandUptoRow : OpenClaim := { program := "ytpbpjlfpljjjhaa", sum := "cef42aadd1b88ce5bd18750ab58b7d8c14b56fee6ef915a913f8c5b559ffadd4", func := "loop.example/g03006/laws.FnExactGreatestBand", spec := "fnExactGreatestBand", apart := false, narrowed := true }
def FnExactGreatestBandUptoSaid : Prop := fnExactGreatestBandUptoRow.holds Try.pinned (OpenSpec.upto fnExactGreatestBandSpec)

/-- 'laws.FnExactLinkState', WHERE WHAT IT READS IS OF BULK AT MOST 1048576: true; the input reads as it did. -/
def fnExactLinkStateUptoRow : OpenClaim := { program := "ytpbpjlfpljjjhaa", sum := "cef42aadd1b88ce5bd18750ab58b7d8c14b56fee6ef915a913f8c5b559ffadd4", func := "loop.example/g03006/laws.FnExactLinkState", spec := "fnExactLinkState", apart := false, narrowed := true }
def FnExactLinkStateUptoSaid : Prop := fnExactLinkStateUptoRow.holds Try.pinned (OpenSpec.upto fnExactLinkStateSpec)

/-- 'laws.FnExactInWindow', WHERE WHAT IT READS IS OF BULK AT MOST 1048576: true; the input reads as it did. -/
def fnExactInWindowUptoRow : OpenClaim := { program := "ytpbpjlfpljjjhaa", sum := "cef42aadd1b88ce5bd18750ab58b7d8c14b56fee6ef915a913f8c5b559ffadd4", func := "loop.example/g03006/laws.FnExactInWindow", spec := "fnExactInWindow", apart := false, narrowed := true }
def FnExactInWindowUptoSaid : Prop := fnExactInWindowUptoRow.holds Try.pinned (OpenSpec.upto fnExactInWindowSpec)

/-- 'laws.FnExactHearLink', WHERE WHAT IT READS IS OF BULK AT MOST 1048576: true; the input reads as it did. -/
def fnExactHearLinkUptoRow : OpenClaim := { program := "ytpbpjlfpljjjhaa", sum := "cef42aadd1b88ce5bd18750ab58b7d8c14b56fee6ef915a913f8c5b559ffadd4", func := "loop.example/g03006/laws.FnExactHearLink", spec := "fnExactHearLink", apart := false, narrowed := true }
def FnExactHearLinkUptoSaid : Prop := fnExactHearLinkUptoRow.holds Try.pinned (OpenSpec.upto fnExactHearLinkSpec)

/-- 'laws.FnExactBand', WHERE WHAT IT READS IS OF BULK AT MOST 1048576: true; the input reads as it did. -/
def fnExactBandUptoRow : OpenClaim := { program := "ytpbpjlfpljjjhaa", sum := "cef42aadd1b88ce5bd18750ab58b7d8c14b56fee6ef915a913f8c5b559ffadd4", func := "loop.example/g03006/laws.FnExactBand", spec := "fnExactBand", apart := false, narrowed := true }
def FnExactBandUptoSaid : Prop := fnExactBandUptoRow.holds Try.pinned (OpenSpec.upto fnExactBandSpec)

/-- 'laws.FnExactLeastWindow', WHERE WHAT IT READS IS OF BULK AT MOST 1048576: true; the input reads as it did. -/
def fnExactLeastWindowUptoRow : OpenClaim := { program := "ytpbpjlfpljjjhaa", sum := "cef42aadd1b88ce5bd18750ab58b7d8c14b56fee6ef915a913f8c5b559ffadd4", func := "loop.example/g03006/laws.FnExactLeastWindow", spec := "fnExactLeastWindow", apart := false, narrowed := true }
def FnExactLeastWindowUptoSaid : Prop := fnExactLeastWindowUptoRow.holds Try.pinned (OpenSpec.upto fnExactLeastWindowSpec)

/-- 'laws.FnExactIsBroken', WHERE WHAT IT READS IS OF BULK AT MOST 1048576: true; the input reads as it did. -/
def fnExactIsBrokenUptoRow : OpenClaim := { program := "ytpbpjlfpljjjhaa", sum := "cef42aadd1b88ce5bd18750ab58b7d8c14b56fee6ef915a913f8c5b559ffadd4", func := "loop.example/g03006/laws.FnExactIsBroken", spec := "fnExactIsBroken", apart := false, narrowed := true }
def FnExactIsBrokenUptoSaid : Prop := fnExactIsBrokenUptoRow.holds Try.pinned (OpenSpec.upto fnExactIsBrokenSpec)

/-- 'laws.FnExactCountVotes', WHERE WHAT IT READS IS OF BULK AT MOST 1048576: true; the input reads as it did. -/
def fnExactCountVotesUptoRow : OpenClaim := { program := "ytpbpjlfpljjjhaa", sum := "cef42aadd1b88ce5bd18750ab58b7d8c14b56fee6ef915a913f8c5b559ffadd4", func := "loop.example/g03006/laws.FnExactCountVotes", spec := "fnExactCountVotes", apart := false, narrowed := true }
def FnExactCountVotesUptoSaid : Prop := fnExactCountVotesUptoRow.holds Try.pinned (OpenSpec.upto fnExactCountVotesSpec)

end Rows
end Go.Proofs.Ytpbpjlfpljjjhaa
