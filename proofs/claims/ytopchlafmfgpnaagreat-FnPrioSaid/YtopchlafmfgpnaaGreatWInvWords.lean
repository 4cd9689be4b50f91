/- Words that the printed proofs lean on (the part of the kit's print that they come to). -/
import Derived.Test.YtopchlafmfgpnaaGreatWInv
import Derived.Test.YtopchlafmfgpnaaGreatWFootNe
namespace Go.Proofs.YtopchlafmfgpnaaGreatW.PrintWords
open Go.RowKit
end Go.Proofs.YtopchlafmfgpnaaGreatW.PrintWords
namespace Go.Proofs.YtopchlafmfgpnaaGreatW.PrintLast
section
variable {ops:Array Oper} {a:Act} {o og:Oper} {g:Nat} {t:Tmp} {u:Bool}
end
end Go.Proofs.YtopchlafmfgpnaaGreatW.PrintLast
