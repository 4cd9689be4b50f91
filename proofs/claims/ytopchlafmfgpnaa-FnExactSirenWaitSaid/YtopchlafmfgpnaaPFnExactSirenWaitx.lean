/- Printed by a program: what the Go functions compute, as plain Lean functions (.f), and the proofs that the machine's calls come to just that (.calls). -/
import Derived.Test.YtopchlafmfgpnaaPFnExactSirenWaitx0
import Derived.Test.YtopchlafmfgpnaaPFnExactSirenWaitx1
import Derived.Test.YtopchlafmfgpnaaPFnExactSirenWaitx2
import Derived.Test.YtopchlafmfgpnaaPFnExactSirenWaitx3
import Derived.Test.YtopchlafmfgpnaaPFnExactSirenWaitx4
import Derived.Test.YtopchlafmfgpnaaPFnExactSirenWaitx5
import Derived.Test.YtopchlafmfgpnaaPFnExactSirenWaitx6
import Derived.Test.YtopchlafmfgpnaaPFnExactSirenWaitx7
import Derived.Test.YtopchlafmfgpnaaPFnExactSirenWaitx8
import Derived.Test.YtopchlafmfgpnaaPFnExactSirenWaitx9
import Derived.Test.YtopchlafmfgpnaaPFnExactSirenWaitx10
import Derived.Test.YtopchlafmfgpnaaPFnExactSirenWaitx11
import Derived.Test.YtopchlafmfgpnaaPFnExactSirenWaitx12
import Derived.Test.YtopchlafmfgpnaaPFnExactSirenWaitx13
import Derived.Test.YtopchlafmfgpnaaPFnExactSirenWaitx14
import Derived.Test.YtopchlafmfgpnaaPFnExactSirenWaitx15
import Derived.Test.YtopchlafmfgpnaaPFnExactSirenWaitx16
import Derived.Test.YtopchlafmfgpnaaPFnExactSirenWaitx17
import Derived.Test.YtopchlafmfgpnaaPFnExactSirenWaitx18
import Derived.Test.YtopchlafmfgpnaaPFnExactSirenWaitx19
import Derived.Test.YtopchlafmfgpnaaPFnExactSirenWaitx20
import Derived.Test.YtopchlafmfgpnaaPFnExactSirenWaitx21
import Derived.Test.YtopchlafmfgpnaaPFnExactSirenWaitx22
namespace Go.Proofs.Ytopchlafmfgpnaa.PFnExactSirenWait
open Go.RowKit Go.Proofs.YtopchlafmfgpnaaW.PrintWords Go.Proofs.YtopchlafmfgpnaaW.PrintLast Go.Proofs.YtopchlafmfgpnaaW.PrintMore
attribute [local go_sem] max2_int min2_int max_two min_two max_three min_three max_four min_four   -- for this text's walks alone
set_option linter.unusedVariables false
set_option linter.unusedSimpArgs false

end Go.Proofs.Ytopchlafmfgpnaa.PFnExactSirenWait
