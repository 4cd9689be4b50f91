/- Printed by a program: what the Go functions compute, as plain Lean functions (.f), and the proofs that the machine's calls come to just that (.calls). -/
import Derived.Test.YtaokklehbkiahaaProg
import Derived.Below
import Derived.Deep.Draws
import Derived.Deep.AppendLies
import Derived.Maps.AppendAt
import Derived.OwnWalk
import Derived.Laws.BytesArg
import Derived.Laws.MakeOwn
import Derived.Laws.OwnMore
import Derived.Deep.OwnRows
import Derived.Tactics
import Derived.Lib.ConvBytes
import Derived.Laws.Slices
import Derived.WalkKit
import Derived.KernelRfl
import Derived.RowKit3
import Derived.Deep.LoopGhost
import Derived.Deep.QuietTactic
import Derived.BigQuiet
import Derived.WideLaws
import Derived.Deep.DeepCutAuto
import Derived.Deep.CutBlock
import Derived.Deep.RegionHeld3
import Derived.Laws.Rows
import Derived.Lib.AppendStr
import Derived.ArgAppend
import Derived.Laws.IdiomCopy
import Derived.OrdersHeld
import Derived.Laws.BitsLemmas
import Derived.RowKit
import Derived.Lib.LazyBuf
import Derived.Test.YtaokklehbkiahaaHand
import Derived.Test.YtaokklehbkiahaaWWords
import Derived.Test.YtaokklehbkiahaaWLast
import Derived.Test.YtaokklehbkiahaaWTab
import Derived.Test.YtaokklehbkiahaaWFour
import Derived.Test.YtaokklehbkiahaaWQPut
import Derived.Test.YtaokklehbkiahaaWApart
import Derived.Test.YtaokklehbkiahaaWArr
import Derived.Test.YtaokklehbkiahaaWZeros
import Derived.Test.YtaokklehbkiahaaWFoot
import Derived.Test.YtaokklehbkiahaaWKept
import Derived.Test.YtaokklehbkiahaaWShare
import Derived.Test.YtaokklehbkiahaaWN
import Derived.Test.YtaokklehbkiahaaWFootNe
import Derived.Test.YtaokklehbkiahaaWAt
import Derived.Test.YtaokklehbkiahaaWEqStruct
import Derived.Test.YtaokklehbkiahaaWRepsOne
import Derived.Test.YtaokklehbkiahaaWInv
import Derived.Test.YtaokklehbkiahaaWInvWords
import Derived.Test.YtaokklehbkiahaaWGuard
import Derived.Test.YtaokklehbkiahaaWNEv
import Derived.Test.YtaokklehbkiahaaWMore
namespace Go.Proofs.Ytaokklehbkiahaa.PFnExactShiftOffsets
open Go.RowKit Go.Proofs.YtaokklehbkiahaaW.PrintWords Go.Proofs.YtaokklehbkiahaaW.PrintLast Go.Proofs.YtaokklehbkiahaaW.PrintMore
attribute [local go_sem] max2_int min2_int max_two min_two max_three min_three max_four min_four   -- for this text's walks alone
set_option linter.unusedVariables false
set_option linter.unusedSimpArgs false



def errW : Option Int → Value
  | none => .nilIface
  | some c => .iface 0 (.int .i64 c)
theorem errW_none : errW none = .nilIface := rfl
theorem errW_some (c : Int) : errW (some c) = .iface 0 (.int .i64 c) := rfl

theorem info3 : (Try.prog.info? 3).map (fun i => (i.zero, i.size, i.bytes)) = some (some (.int .i64 0), 1, 8) := by kernel_rfl
-- the values' own types

end Go.Proofs.Ytaokklehbkiahaa.PFnExactShiftOffsets
