/- Words that the printed proofs lean on (the part of the kit's print that they come to). -/
import Derived.Test.YtdaofiiedclmpaaWInv
import Derived.Test.YtdaofiiedclmpaaWFootNe
namespace Go.Proofs.YtdaofiiedclmpaaW.PrintWords
open Go.RowKit
end Go.Proofs.YtdaofiiedclmpaaW.PrintWords
namespace Go.Proofs.YtdaofiiedclmpaaW.PrintLast
section
variable {ops : Array Oper} {a : Act} {o og : Oper} {g : Nat} {t : Tmp} {u : Bool}
end
end Go.Proofs.YtdaofiiedclmpaaW.PrintLast
