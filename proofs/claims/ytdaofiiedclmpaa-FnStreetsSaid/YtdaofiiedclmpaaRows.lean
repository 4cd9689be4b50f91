/-
  No cell of these rows narrows 'for every input' (looked for: loops, veiled, ifaces, maps, wideKeys, modest, calm, conditions, laid).
  DERIVED. THE GIVEN ROWS OF THIS SEAT. 12 by the template 'for every input the law returns true; each argument reads behind the call as it read before'; 0 by the template 'total and deterministic' (their statements: YtdaofiiedclmpaaTotals.lean).
  GIVEN WITH THE SEED: the statements are not yours to turn. If you find one false, say at which input.
  Laid BY PROGRAM, IN A SANDBOX (cutbox-rows.mjs): the forced cells as the released guide's own fill.sh prints them over the translation 210dc0e10431aa60… (all of the seat's roots in one cut). By AI agents, Wed Nov 11 2026. No macro, syntax, notation, axiom, sorry.
-/
import Derived.Test.YtdaofiiedclmpaaChecked
import GoSem.Claim
import GoSem.ClaimJoined
import GoSem.ClaimMapViews
import Derived.JoinedTies
import Derived.KernelRfl
namespace Go.Proofs.Ytdaofiiedclmpaa
/- THE CELL 'sum', in the pinned program and in every row, IS THE sha256 OF THE DUMP (.gsa) THAT YtdaofiiedclmpaaProg.lean LOADS. Nothing in Lean hashes anything: it is a label: what it is worth is what the hold of that sum in a sandbox is worth. -/
noncomputable def Try.pinned : Pinned := { name := "ytdaofiiedclmpaa", sum := "210dc0e10431aa601e7f0412b5fcc89615a46758ae13c75d411bbbc4dab33d83", checked := Try.checked }
namespace Rows
def none {H : Type} : Left H := { results := [], args := [] }

/-- 'laws.FnExactAreStreets': WHATEVER THE INPUT: true; the input reads as it did. -/
def fnExactAreStreetsSpec : ChangeSpec := { name := "fnExactAreStreets", fn := fun _ => fun
  | [d] => { results := [.lit (.bool true)], args := [d] }
  | _ => none }
def fnExactAreStreetsRow : OpenClaim := { program := "ytdaofiiedclmpaa", sum := "210dc0e10431aa601e7f0412b5fcc89615a46758ae13c75d411bbbc4dab33d83", func := "loop.example/g03006/laws.FnExactAreStreets", spec := "fnExactAreStreets", unfollowed := true, recurses := true, apart := false }
def FnExactAreStreetsSaid : Prop := fnExactAreStreetsRow.holds Try.pinned (OpenSpec.ofChange fnExactAreStreetsSpec)

/-- ITS FALSE NEIGHBOUR: 'it returns false'. Refute it at one input. -/
def fnExactAreStreetsWrong : ChangeSpec := { name := "fnExactAreStreets", fn := fun _ => fun
  | [d] => { results := [.lit (.bool false)], args := [d] }
  | _ => none }
def FnExactAreStreetsWrongFalsely : Prop := fnExactAreStreetsRow.holds Try.pinned (OpenSpec.ofChange fnExactAreStreetsWrong)

/-- 'laws.FnExactTravel': WHATEVER THE INPUT: true; the input reads as it did. -/
def fnExactTravelSpec : ChangeSpec := { name := "fnExactTravel", fn := fun _ => fun
  | [d1, d2, d3] => { results := [.lit (.bool true)], args := [d1, d2, d3] }
  | _ => none }
def fnExactTravelRow : OpenClaim := { program := "ytdaofiiedclmpaa", sum := "210dc0e10431aa601e7f0412b5fcc89615a46758ae13c75d411bbbc4dab33d83", func := "loop.example/g03006/laws.FnExactTravel", spec := "fnExactTravel", unfollowed := true, recurses := true, apart := false }
def FnExactTravelSaid : Prop := fnExactTravelRow.holds Try.pinned (OpenSpec.ofChange fnExactTravelSpec)

/-- ITS FALSE NEIGHBOUR: 'it returns false'. Refute it at one input. -/
def fnExactTravelWrong : ChangeSpec := { name := "fnExactTravel", fn := fun _ => fun
  | [d1, d2, d3] => { results := [.lit (.bool false)], args := [d1, d2, d3] }
  | _ => none }
def FnExactTravelWrongFalsely : Prop := fnExactTravelRow.holds Try.pinned (OpenSpec.ofChange fnExactTravelWrong)

/-- 'laws.FnExactReachedIn': WHATEVER THE INPUT: true; the input reads as it did. -/
def fnExactReachedInSpec : ChangeSpec := { name := "fnExactReachedIn", fn := fun _ => fun
  | [d1, d2, d3] => { results := [.lit (.bool true)], args := [d1, d2, d3] }
  | _ => none }
def fnExactReachedInRow : OpenClaim := { program := "ytdaofiiedclmpaa", sum := "210dc0e10431aa601e7f0412b5fcc89615a46758ae13c75d411bbbc4dab33d83", func := "loop.example/g03006/laws.FnExactReachedIn", spec := "fnExactReachedIn", unfollowed := true, recurses := true, apart := false }
def FnExactReachedInSaid : Prop := fnExactReachedInRow.holds Try.pinned (OpenSpec.ofChange fnExactReachedInSpec)

/-- ITS FALSE NEIGHBOUR: 'it returns false'. Refute it at one input. -/
def fnExactReachedInWrong : ChangeSpec := { name := "fnExactReachedIn", fn := fun _ => fun
  | [d1, d2, d3] => { results := [.lit (.bool false)], args := [d1, d2, d3] }
  | _ => none }
def FnExactReachedInWrongFalsely : Prop := fnExactReachedInRow.holds Try.pinned (OpenSpec.ofChange fnExactReachedInWrong)

/-- 'laws.FnExactIsChain': WHATEVER THE INPUT: true; the input reads as it did. -/
def fnExactIsChainSpec : ChangeSpec := { name := "fnExactIsChain", fn := fun _ => fun
  | [d1, d2] => { results := [.lit (.bool true)], args := [d1, d2] }
  | _ => none }
def fnExactIsChainRow : OpenClaim := { program := "ytdaofiiedclmpaa", sum := "210dc0e10431aa601e7f0412b5fcc89615a46758ae13c75d411bbbc4dab33d83", func := "loop.example/g03006/laws.FnExactIsChain", spec := "fnExactIsChain", unfollowed := true, recurses := true, apart := false }
def FnExactIsChainSaid : Prop := fnExactIsChainRow.holds Try.pinned (OpenSpec.ofChange fnExactIsChainSpec)

/-- ITS FALSE NEIGHBOUR: 'it returns false'. Refute it at one input. -/
def fnExactIsChainWrong : ChangeSpec := { name := "fnExactIsChain", fn := fun _ => fun
  | [d1, d2] => { results := [.lit (.bool false)], args := [d1, d2] }
  | _ => none }
def FnExactIsChainWrongFalsely : Prop := fnExactIsChainRow.holds Try.pinned (OpenSpec.ofChange fnExactIsChainWrong)

/-- 'laws.FnExactChainTravel': WHATEVER THE INPUT: true; the input reads as it did. -/
def fnExactChainTravelSpec : ChangeSpec := { name := "fnExactChainTravel", fn := fun _ => fun
  | [d1, d2] => { results := [.lit (.bool true)], args := [d1, d2] }
  | _ => none }
def fnExactChainTravelRow : OpenClaim := { program := "ytdaofiiedclmpaa", sum := "210dc0e10431aa601e7f0412b5fcc89615a46758ae13c75d411bbbc4dab33d83", func := "loop.example/g03006/laws.FnExactChainTravel", spec := "fnExactChainTravel", unfollowed := true, recurses := true, apart := false }
def FnExactChainTravelSaid : Prop := fnExactChainTravelRow.holds Try.pinned (OpenSpec.ofChange fnExactChainTravelSpec)

/-- ITS FALSE NEIGHBOUR: 'it returns false'. Refute it at one input. -/
def fnExactChainTravelWrong : ChangeSpec := { name := "fnExactChainTravel", fn := fun _ => fun
  | [d1, d2] => { results := [.lit (.bool false)], args := [d1, d2] }
  | _ => none }
def FnExactChainTravelWrongFalsely : Prop := fnExactChainTravelRow.holds Try.pinned (OpenSpec.ofChange fnExactChainTravelWrong)

/-- 'laws.FnExactStreetsFrom': WHATEVER THE INPUT: true; the input reads as it did. -/
def fnExactStreetsFromSpec : ChangeSpec := { name := "fnExactStreetsFrom", fn := fun _ => fun
  | [d1, d2] => { results := [.lit (.bool true)], args := [d1, d2] }
  | _ => none }
def fnExactStreetsFromRow : OpenClaim := { program := "ytdaofiiedclmpaa", sum := "210dc0e10431aa601e7f0412b5fcc89615a46758ae13c75d411bbbc4dab33d83", func := "loop.example/g03006/laws.FnExactStreetsFrom", spec := "fnExactStreetsFrom", recurses := true, apart := false }
def FnExactStreetsFromSaid : Prop := fnExactStreetsFromRow.holds Try.pinned (OpenSpec.ofChange fnExactStreetsFromSpec)

/-- ITS FALSE NEIGHBOUR: 'it returns false'. Refute it at one input. -/
def fnExactStreetsFromWrong : ChangeSpec := { name := "fnExactStreetsFrom", fn := fun _ => fun
  | [d1, d2] => { results := [.lit (.bool false)], args := [d1, d2] }
  | _ => none }
def FnExactStreetsFromWrongFalsely : Prop := fnExactStreetsFromRow.holds Try.pinned (OpenSpec.ofChange fnExactStreetsFromWrong)

/-- 'laws.FnStreets': WHATEVER THE INPUT: true; the input reads as it did. -/
def fnStreetsSpec : ChangeSpec := { name := "fnStreets", fn := fun _ => fun
  | [d] => { results := [.lit (.bool true)], args := [d] }
  | _ => none }
def fnStreetsRow : OpenClaim := { program := "ytdaofiiedclmpaa", sum := "210dc0e10431aa601e7f0412b5fcc89615a46758ae13c75d411bbbc4dab33d83", func := "loop.example/g03006/laws.FnStreets", spec := "fnStreets", unfollowed := true, recurses := true, apart := false }
def FnStreetsSaid : Prop := fnStreetsRow.holds Try.pinned (OpenSpec.ofChange fnStreetsSpec)

/-- ITS FALSE NEIGHBOUR: 'it returns false'. Refute it at one input. -/
def fnStreetsWrong : ChangeSpec := { name := "fnStreets", fn := fun _ => fun
  | [d] => { results := [.lit (.bool false)], args := [d] }
  | _ => none }
def FnStreetsWrongFalsely : Prop := fnStreetsRow.holds Try.pinned (OpenSpec.ofChange fnStreetsWrong)

/-- 'laws.FnExactIsPrio': WHATEVER THE INPUT: true; the input reads as it did. -/
def fnExactIsPrioSpec : ChangeSpec := { name := "fnExactIsPrio", fn := fun _ => fun
  | [d1, d2] => { results := [.lit (.bool true)], args := [d1, d2] }
  | _ => none }
def fnExactIsPrioRow : OpenClaim := { program := "ytdaofiiedclmpaa", sum := "210dc0e10431aa601e7f0412b5fcc89615a46758ae13c75d411bbbc4dab33d83", func := "loop.example/g03006/laws.FnExactIsPrio", spec := "fnExactIsPrio", unfollowed := true, recurses := true, apart := false }
def FnExactIsPrioSaid : Prop := fnExactIsPrioRow.holds Try.pinned (OpenSpec.ofChange fnExactIsPrioSpec)

/-- ITS FALSE NEIGHBOUR: 'it returns false'. Refute it at one input. -/
def fnExactIsPrioWrong : ChangeSpec := { name := "fnExactIsPrio", fn := fun _ => fun
  | [d1, d2] => { results := [.lit (.bool false)], args := [d1, d2] }
  | _ => none }
def FnExactIsPrioWrongFalsely : Prop := fnExactIsPrioRow.holds Try.pinned (OpenSpec.ofChange fnExactIsPrioWrong)

/-- 'laws.FnExactLongestSiren': WHATEVER THE INPUT: true; the input reads as it did. -/
def fnExactLongestSirenSpec : ChangeSpec := { name := "fnExactLongestSiren", fn := fun _ => fun
  | [d] => { results := [.lit (.bool true)], args := [d] }
  | _ => none }
def fnExactLongestSirenRow : OpenClaim := { program := "ytdaofiiedclmpaa", sum := "210dc0e10431aa601e7f0412b5fcc89615a46758ae13c75d411bbbc4dab33d83", func := "loop.example/g03006/laws.FnExactLongestSiren", spec := "fnExactLongestSiren", apart := false }
def FnExactLongestSirenSaid : Prop := fnExactLongestSirenRow.holds Try.pinned (OpenSpec.ofChange fnExactLongestSirenSpec)

/-- ITS FALSE NEIGHBOUR: 'it returns false'. Refute it at one input. -/
def fnExactLongestSirenWrong : ChangeSpec := { name := "fnExactLongestSiren", fn := fun _ => fun
  | [d] => { results := [.lit (.bool false)], args := [d] }
  | _ => none }
def FnExactLongestSirenWrongFalsely : Prop := fnExactLongestSirenRow.holds Try.pinned (OpenSpec.ofChange fnExactLongestSirenWrong)

/-- 'laws.FnExactAskPrio': WHATEVER THE INPUT: true; the input reads as it did. -/
def fnExactAskPrioSpec : ChangeSpec := { name := "fnExactAskPrio", fn := fun _ => fun
  | [d1, d2, d3] => { results := [.lit (.bool true)], args := [d1, d2, d3] }
  | _ => none }
def fnExactAskPrioRow : OpenClaim := { program := "ytdaofiiedclmpaa", sum := "210dc0e10431aa601e7f0412b5fcc89615a46758ae13c75d411bbbc4dab33d83", func := "loop.example/g03006/laws.FnExactAskPrio", spec := "fnExactAskPrio", unfollowed := true, recurses := true, apart := false }
def FnExactAskPrioSaid : Prop := fnExactAskPrioRow.holds Try.pinned (OpenSpec.ofChange fnExactAskPrioSpec)

/-- ITS FALSE NEIGHBOUR: 'it returns false'. Refute it at one input. -/
def fnExactAskPrioWrong : ChangeSpec := { name := "fnExactAskPrio", fn := fun _ => fun
  | [d1, d2, d3] => { results := [.lit (.bool false)], args := [d1, d2, d3] }
  | _ => none }
def FnExactAskPrioWrongFalsely : Prop := fnExactAskPrioRow.holds Try.pinned (OpenSpec.ofChange fnExactAskPrioWrong)

/-- 'laws.FnExactAreLamps': WHATEVER THE INPUT: true; the input reads as it did. -/
def fnExactAreLampsSpec : ChangeSpec := { name := "fnExactAreLamps", fn := fun _ => fun
  | [d1, d2] => { results := [.lit (.bool true)], args := [d1, d2] }
  | _ => none }
def fnExactAreLampsRow : OpenClaim := { program := "ytdaofiiedclmpaa", sum := "210dc0e10431aa601e7f0412b5fcc89615a46758ae13c75d411bbbc4dab33d83", func := "loop.example/g03006/laws.FnExactAreLamps", spec := "fnExactAreLamps", unfollowed := true, recurses := true, apart := false }
def FnExactAreLampsSaid : Prop := fnExactAreLampsRow.holds Try.pinned (OpenSpec.ofChange fnExactAreLampsSpec)

/-- ITS FALSE NEIGHBOUR: 'it returns false'. Refute it at one input. -/
def fnExactAreLampsWrong : ChangeSpec := { name := "fnExactAreLamps", fn := fun _ => fun
  | [d1, d2] => { results := [.lit (.bool false)], args := [d1, d2] }
  | _ => none }
def FnExactAreLampsWrongFalsely : Prop := fnExactAreLampsRow.holds Try.pinned (OpenSpec.ofChange fnExactAreLampsWrong)

/-- 'laws.FnExactModeFor': WHATEVER THE INPUT: true; the input reads as it did. -/
def fnExactModeForSpec : ChangeSpec := { name := "fnExactModeFor", fn := fun _ => fun
  | [d1, d2, d3] => { results := [.lit (.bool true)], args := [d1, d2, d3] }
  | _ => none }
def fnExactModeForRow : OpenClaim := { program := "ytdaofiiedclmpaa", sum := "210dc0e10431aa601e7f0412b5fcc89615a46758ae13c75d411bbbc4dab33d83", func := "loop.example/g03006/laws.FnExactModeFor", spec := "fnExactModeFor", unfollowed := true, recurses := true, apart := false }
def FnExactModeForSaid : Prop := fnExactModeForRow.holds Try.pinned (OpenSpec.ofChange fnExactModeForSpec)

/-- ITS FALSE NEIGHBOUR: 'it returns false'. Refute it at one input. -/
def fnExactModeForWrong : ChangeSpec := { name := "fnExactModeFor", fn := fun _ => fun
  | [d1, d2, d3] => { results := [.lit (.bool false)], args := [d1, d2, d3] }
  | _ => none }
def FnExactModeForWrongFalsely : Prop := fnExactModeForRow.holds Try.pinned (OpenSpec.ofChange fnExactModeForWrong)

/- THE SECOND FORM. 'bulk': how many values and letters a reading holds, each counted each time it is reached (what is shared counts as often as it is met; a slice's spare places count too). A statement '..UptoSaid' is the law's where the arguments, and the package variables that the reading takes, are together of bulk at most 1048576: NARROWER than '..Said'. Prove '..Said' where nothing that the law and all that it calls make is longer than what came in: it says more and counts as full. Else prove '..UptoSaid'. A law counts once. -/
mutual
def uptoBulk {H : Type} : DataW H → Nat
  | .lit (.string bytes) => bytes.length + 1
  | .lit _ => 1
  | .nil => 1
  | .ptr d => uptoBulk d + 1
  | .slice elems spare => uptoBulkAll elems + uptoBulkAll spare + 1
  | .agg parts => uptoBulkAll parts + 1
  | .iface _ d => uptoBulk d + 1
  | .map entries => uptoBulkEntries entries + 1
  | .held _ => 1
def uptoBulkAll {H : Type} : List (DataW H) → Nat
  | [] => 0
  | d :: r => uptoBulk d + uptoBulkAll r
def uptoBulkEntries {H : Type} : List (Lit × DataW H) → Nat
  | [] => 0
  | x :: r => uptoBulkEntry x + uptoBulkEntries r
def uptoBulkEntry {H : Type} : Lit × DataW H → Nat
  | (.string bytes, d) => bytes.length + uptoBulk d + 1
  | (_, d) => uptoBulk d + 1
 end
def uptoSmall : (H : Type) → List (DataW H) → Bool := fun _ ds => decide (uptoBulkAll ds ≤ 1048576)
def OpenSpec.upto (s : _root_.Go.ChangeSpec) : _root_.Go.OpenSpec := { _root_.Go.OpenSpec.ofChange s with cond := some uptoSmall }

/-- 'laws.FnExactAreStreets', WHERE WHAT IT READS IS OF BULK AT MOST 1048576: true; the input reads as it did. -/
def fnExactAreStreetsUptoRow : OpenClaim := { program := "ytdaofiiedclmpaa", sum := "210dc0e10431aa601e7f0412b5fcc89615a46758ae13c75d411bbbc4dab33d83", func := "loop.example/g03006/laws.FnExactAreStreets", spec := "fnExactAreStreets", unfollowed := true, recurses := true, apart := false, narrowed := true }
def FnExactAreStreetsUptoSaid : Prop := fnExactAreStreetsUptoRow.holds Try.pinned (OpenSpec.upto fnExactAreStreetsSpec)

/-- 'laws.FnExactTravel', WHERE WHAT IT READS IS OF BULK AT MOST 1048576: true; the input reads as it did. -/
def fnExactTravelUptoRow : OpenClaim := { program := "ytdaofiiedclmpaa", sum := "210dc0e10431aa601e7f0412b5fcc89615a46758ae13c75d411bbbc4dab33d83", func := "loop.example/g03006/laws.FnExactTravel", spec := "fnExactTravel", unfollowed := true, recurses := true, apart := false, narrowed := true }
def FnExactTravelUptoSaid : Prop := fnExactTravelUptoRow.holds Try.pinned (OpenSpec.upto fnExactTravelSpec)

/-- 'laws.FnExactReachedIn', WHERE WHAT IT READS IS OF BULK AT MOST 1048576: true; the input reads as it did. -/
def fnExactReachedInUptoRow : OpenClaim := { program := "ytdaofiiedclmpaa", sum := "210dc0e10431aa601e7f0412b5fcc89615a46758ae13c75d411bbbc4dab33d83", func := "loop.example/g03006/laws.FnExactReachedIn", spec := "fnExactReachedIn", unfollowed := true, recurses := true, apart := false, narrowed := true }
def FnExactReachedInUptoSaid : Prop := fnExactReachedInUptoRow.holds Try.pinned (OpenSpec.upto fnExactReachedInSpec)

/-- 'laws.FnExactIsChain', WHERE WHAT IT READS IS OF BULK AT MOST 1048576: true; the input reads as it did. -/
def fnExactIsChainUptoRow : OpenClaim := { program := "ytdaofiiedclmpaa", sum := "210dc0e10431aa601e7f0412b5fcc89615a46758ae13c75d411bbbc4dab33d83", func := "loop.example/g03006/laws.FnExactIsChain", spec := "fnExactIsChain", unfollowed := true, recurses := true, apart := false, narrowed := true }
def FnExactIsChainUptoSaid : Prop := fnExactIsChainUptoRow.holds Try.pinned (OpenSpec.upto fnExactIsChainSpec)

/-- 'laws.FnExactChainTravel', WHERE WHAT IT READS IS OF BULK AT MOST 1048576: true; the input reads as it did. -/
def fnExactChainTravelUptoRow : OpenClaim := { program := "ytdaofiiedclmpaa", sum := "210dc0e10431aa601e7f0412b5fcc89615a46758ae13c75d411bbbc4dab33d83", func := "loop.example/g03006/laws.FnExactChainTravel", spec := "fnExactChainTravel", unfollowed := true, recurses := true, apart := false, narrowed := true }
def FnExactChainTravelUptoSaid : Prop := fnExactChainTravelUptoRow.holds Try.pinned (OpenSpec.upto fnExactChainTravelSpec)

/-- 'laws.FnExactStreetsFrom', WHERE WHAT IT READS IS OF BULK AT MOST 1048576: true; the input reads as it did. -/
def fnExactStreetsFromUptoRow : OpenClaim := { program := "ytdaofiiedclmpaa", sum := "210dc0e10431aa601e7f0412b5fcc89615a46758ae13c75d411bbbc4dab33d83", func := "loop.example/g03006/laws.FnExactStreetsFrom", spec := "fnExactStreetsFrom", recurses := true, apart := false, narrowed := true }
def FnExactStreetsFromUptoSaid : Prop := fnExactStreetsFromUptoRow.holds Try.pinned (OpenSpec.upto fnExactStreetsFromSpec)

/-- 'laws.FnStreets', WHERE WHAT IT READS IS OF BULK AT MOST 1048576: true; the input reads as it did. -/
def fnStreetsUptoRow : OpenClaim := { program := "ytdaofiiedclmpaa", sum := "210dc0e10431aa601e7f0412b5fcc89615a46758ae13c75d411bbbc4dab33d83", func := "loop.example/g03006/laws.FnStreets", spec := "fnStreets", unfollowed := true, recurses := true, apart := false, narrowed := true }
def FnStreetsUptoSaid : Prop := fnStreetsUptoRow.holds Try.pinned (OpenSpec.upto fnStreetsSpec)

/-- 'laws.FnExactIsPrio', WHERE WHAT IT READS IS OF BULK AT MOST 1048576: true; the input reads as it did. -/
def fnExactIsPrioUptoRow : OpenClaim := { program := "ytdaofiiedclmpaa", sum := "210dc0e10431aa601e7f0412b5fcc89615a46758ae13c75d411bbbc4dab33d83", func := "loop.example/g03006/laws.FnExactIsPrio", spec := "fnExactIsPrio", unfollowed := true, recurses := true, apart := false, narrowed := true }
def FnExactIsPrioUptoSaid : Prop := fnExactIsPrioUptoRow.holds Try.pinned (OpenSpec.upto fnExactIsPrioSpec)

/-- 'laws.FnExactLongestSiren', WHERE WHAT IT READS IS OF BULK AT MOST 1048576: true; the input reads as it did. -/
def fnExactLongestSirenUptoRow : OpenClaim := { program := "ytdaofiiedclmpaa", sum := "210dc0e10431aa601e7f0412b5fcc89615a46758ae13c75d411bbbc4dab33d83", func := "loop.example/g03006/laws.FnExactLongestSiren", spec := "fnExactLongestSiren", apart := false, narrowed := true }
def FnExactLongestSirenUptoSaid : Prop := fnExactLongestSirenUptoRow.holds Try.pinned (OpenSpec.upto fnExactLongestSirenSpec)

/-- 'laws.FnExactAskPrio', WHERE WHAT IT READS IS OF BULK AT MOST 1048576: true; the input reads as it did. -/
def fnExactAskPrioUptoRow : OpenClaim := { program := "ytdaofiiedclmpaa", sum := "210dc0e10431aa601e7f0412b5fcc89615a46758ae13c75d411bbbc4dab33d83", func := "loop.example/g03006/laws.FnExactAskPrio", spec := "fnExactAskPrio", unfollowed := true, recurses := true, apart := false, narrowed := true }
def FnExactAskPrioUptoSaid : Prop := fnExactAskPrioUptoRow.holds Try.pinned (OpenSpec.upto fnExactAskPrioSpec)

/-- 'laws.FnExactAreLamps', WHERE WHAT IT READS IS OF BULK AT MOST 1048576: true; the input reads as it did. -/
def fnExactAreLampsUptoRow : OpenClaim := { program := "ytdaofiiedclmpaa", sum := "210dc0e10431aa601e7f0412b5fcc89615a46758ae13c75d411bbbc4dab33d83", func := "loop.example/g03006/laws.FnExactAreLamps", spec := "fnExactAreLamps", unfollowed := true, recurses := true, apart := false, narrowed := true }
def FnExactAreLampsUptoSaid : Prop := fnExactAreLampsUptoRow.holds Try.pinned (OpenSpec.upto fnExactAreLampsSpec)

/-- 'laws.FnExactModeFor', WHERE WHAT IT READS IS OF BULK AT MOST 1048576: true; the input reads as it did. -/
def fnExactModeForUptoRow : OpenClaim := { program := "ytdaofiiedclmpaa", sum := "210dc0e10431aa601e7f0412b5fcc89615a46758ae13c75d411bbbc4dab33d83", func := "loop.example/g03006/laws.FnExactModeFor", spec := "fnExactModeFor", unfollowed := true, recurses := true, apart := false, narrowed := true }
def FnExactModeForUptoSaid : Prop := fnExactModeForUptoRow.holds Try.pinned (OpenSpec.upto fnExactModeForSpec)

end Rows
end Go.Proofs.Ytdaofiiedclmpaa
