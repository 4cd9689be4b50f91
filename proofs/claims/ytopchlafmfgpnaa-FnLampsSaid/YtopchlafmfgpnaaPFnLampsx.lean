/- Printed by a program: what the Go functions compute, as plain Lean functions (.f), and the proofs that the machine's calls come to just that (.calls). -/
import Derived.Test.YtopchlafmfgpnaaPFnLampsx0
import Derived.Test.YtopchlafmfgpnaaPFnLampsx1
import Derived.Test.YtopchlafmfgpnaaPFnLampsx2
import Derived.Test.YtopchlafmfgpnaaPFnLampsx3
import Derived.Test.YtopchlafmfgpnaaPFnLampsx4
import Derived.Test.YtopchlafmfgpnaaPFnLampsx5
import Derived.Test.YtopchlafmfgpnaaPFnLampsx6
import Derived.Test.YtopchlafmfgpnaaPFnLampsx7
import Derived.Test.YtopchlafmfgpnaaPFnLampsx8
namespace Go.Proofs.Ytopchlafmfgpnaa.PFnLamps
open Go.RowKit Go.Proofs.YtopchlafmfgpnaaW.PrintWords Go.Proofs.YtopchlafmfgpnaaW.PrintLast Go.Proofs.YtopchlafmfgpnaaW.PrintMore
attribute [local go_sem] max2_int min2_int max_two min_two max_three min_three max_four min_four   -- for this text's walks alone
set_option linter.unusedVariables false
set_option linter.unusedSimpArgs false

end Go.Proofs.Ytopchlafmfgpnaa.PFnLamps
