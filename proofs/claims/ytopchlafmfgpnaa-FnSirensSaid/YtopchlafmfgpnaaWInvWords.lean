/- Words that the printed proofs lean on (the part of the kit's print that they come to). -/
import Derived.Test.YtopchlafmfgpnaaWInv
import Derived.Test.YtopchlafmfgpnaaWFootNe
namespace Go.Proofs.YtopchlafmfgpnaaW.PrintWords
open Go.RowKit
end Go.Proofs.YtopchlafmfgpnaaW.PrintWords
namespace Go.Proofs.YtopchlafmfgpnaaW.PrintLast
section
variable {ops : Array Oper} {a : Act} {o og : Oper} {g : Nat} {t : Tmp} {u : Bool}
end
end Go.Proofs.YtopchlafmfgpnaaW.PrintLast
