/- Words that the printed proofs lean on (the part of the kit's print that they come to). -/
import Derived.Test.YtaokklehbkiahaaWInv
import Derived.Test.YtaokklehbkiahaaWFootNe
namespace Go.Proofs.YtaokklehbkiahaaW.PrintWords
open Go.RowKit
end Go.Proofs.YtaokklehbkiahaaW.PrintWords
namespace Go.Proofs.YtaokklehbkiahaaW.PrintLast
section
variable {ops : Array Oper} {a : Act} {o og : Oper} {g : Nat} {t : Tmp} {u : Bool}
end
end Go.Proofs.YtaokklehbkiahaaW.PrintLast
