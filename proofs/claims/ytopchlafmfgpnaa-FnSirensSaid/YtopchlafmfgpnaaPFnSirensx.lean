/- Printed by a program: what the Go functions compute, as plain Lean functions (.f), and the proofs that the machine's calls come to just that (.calls). -/
import Derived.Test.YtopchlafmfgpnaaPFnSirensx0
import Derived.Test.YtopchlafmfgpnaaPFnSirensx1
import Derived.Test.YtopchlafmfgpnaaPFnSirensx2
import Derived.Test.YtopchlafmfgpnaaPFnSirensx3
import Derived.Test.YtopchlafmfgpnaaPFnSirensx4
import Derived.Test.YtopchlafmfgpnaaPFnSirensx5
import Derived.Test.YtopchlafmfgpnaaPFnSirensx6
import Derived.Test.YtopchlafmfgpnaaPFnSirensx7
import Derived.Test.YtopchlafmfgpnaaPFnSirensx8
import Derived.Test.YtopchlafmfgpnaaPFnSirensx9
import Derived.Test.YtopchlafmfgpnaaPFnSirensx10
import Derived.Test.YtopchlafmfgpnaaPFnSirensx11
import Derived.Test.YtopchlafmfgpnaaPFnSirensx12
import Derived.Test.YtopchlafmfgpnaaPFnSirensx13
import Derived.Test.YtopchlafmfgpnaaPFnSirensx14
namespace Go.Proofs.Ytopchlafmfgpnaa.PFnSirens
end Go.Proofs.Ytopchlafmfgpnaa.PFnSirens
