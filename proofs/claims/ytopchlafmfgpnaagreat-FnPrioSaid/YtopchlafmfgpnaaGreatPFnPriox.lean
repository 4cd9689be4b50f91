/- Printed by a program: what the Go functions compute, as plain Lean functions (.f), and the proofs that the machine's calls come to just that (.calls). -/
import Derived.Test.YtopchlafmfgpnaaGreatPFnPriox0
import Derived.Test.YtopchlafmfgpnaaGreatPFnPriox1
import Derived.Test.YtopchlafmfgpnaaGreatPFnPriox2
import Derived.Test.YtopchlafmfgpnaaGreatPFnPriox3
import Derived.Test.YtopchlafmfgpnaaGreatPFnPriox4
import Derived.Test.YtopchlafmfgpnaaGreatPFnPriox5
import Derived.Test.YtopchlafmfgpnaaGreatPFnPriox6
import Derived.Test.YtopchlafmfgpnaaGreatPFnPriox7
import Derived.Test.YtopchlafmfgpnaaGreatPFnPriox8
import Derived.Test.YtopchlafmfgpnaaGreatPFnPriox9
import Derived.Test.YtopchlafmfgpnaaGreatPFnPriox10
import Derived.Test.YtopchlafmfgpnaaGreatPFnPriox11
import Derived.Test.YtopchlafmfgpnaaGreatPFnPriox12
import Derived.Test.YtopchlafmfgpnaaGreatPFnPriox13
import Derived.Test.YtopchlafmfgpnaaGreatPFnPriox14
import Derived.Test.YtopchlafmfgpnaaGreatPFnPriox15
namespace Go.Proofs.YtopchlafmfgpnaaGreat.PFnPrio
end Go.Proofs.YtopchlafmfgpnaaGreat.PFnPrio

