/- Words that the printed proofs lean on (the part of the kit's print that they come to). -/
import Derived.Test.YtjgigmghcfdomaaWInv
import Derived.Test.YtjgigmghcfdomaaWFootNe
namespace Go.Proofs.YtjgigmghcfdomaaW.PrintWords
open Go.RowKit
end Go.Proofs.YtjgigmghcfdomaaW.PrintWords
namespace Go.Proofs.YtjgigmghcfdomaaW.PrintLast
section
variable {ops : Array Oper} {a : Act} {o og : Oper} {g : Nat} {t : Tmp} {u : Bool}
end
end Go.Proofs.YtjgigmghcfdomaaW.PrintLast
