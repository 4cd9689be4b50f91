/- Words that the printed proofs lean on (the part of the kit's print that they come to). -/
import Derived.Test.YtjgigmghcfdomaaWWords
namespace Go.Proofs.YtjgigmghcfdomaaW.PrintWords
open Go.RowKit
section
variable {P : Program} {ops : Array Oper} {rest : List Oper} {o : Oper} {a : Act} {Q : Exit → Act → World → Prop} {W : World}
end
end Go.Proofs.YtjgigmghcfdomaaW.PrintWords
