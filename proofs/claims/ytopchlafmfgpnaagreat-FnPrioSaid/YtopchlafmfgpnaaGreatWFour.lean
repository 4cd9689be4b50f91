/- Words that the printed proofs lean on (the part of the kit's print that they come to). -/
import Derived.Test.YtopchlafmfgpnaaGreatWTab
namespace Go.Proofs.YtopchlafmfgpnaaGreatW.PrintLast
section
variable {P:Program} {ops:Array Oper} {Q:Exit→Act→World→Prop} {md:Region.Mode} {S:World→Prop} {ds:List Nat} {T:Bool×List (List Nat×List Nat)}
end
end Go.Proofs.YtopchlafmfgpnaaGreatW.PrintLast
