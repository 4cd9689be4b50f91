/- Printed by a program: what the Go functions compute, as plain Lean functions (.f), and the proofs that the machine's calls come to just that (.calls). -/
import Derived.Test.YtopchlafmfgpnaaPFnExactStepSirenx0
import Derived.Test.YtopchlafmfgpnaaPFnExactStepSirenx1
import Derived.Test.YtopchlafmfgpnaaPFnExactStepSirenx2
import Derived.Test.YtopchlafmfgpnaaPFnExactStepSirenx3
import Derived.Test.YtopchlafmfgpnaaPFnExactStepSirenx4
import Derived.Test.YtopchlafmfgpnaaPFnExactStepSirenx5
import Derived.Test.YtopchlafmfgpnaaPFnExactStepSirenx6
import Derived.Test.YtopchlafmfgpnaaPFnExactStepSirenx7
import Derived.Test.YtopchlafmfgpnaaPFnExactStepSirenx8
import Derived.Test.YtopchlafmfgpnaaPFnExactStepSirenx9
import Derived.Test.YtopchlafmfgpnaaPFnExactStepSirenx10
import Derived.Test.YtopchlafmfgpnaaPFnExactStepSirenx11
import Derived.Test.YtopchlafmfgpnaaPFnExactStepSirenx12
import Derived.Test.YtopchlafmfgpnaaPFnExactStepSirenx13
import Derived.Test.YtopchlafmfgpnaaPFnExactStepSirenx14
import Derived.Test.YtopchlafmfgpnaaPFnExactStepSirenx15
import Derived.Test.YtopchlafmfgpnaaPFnExactStepSirenx16
import Derived.Test.YtopchlafmfgpnaaPFnExactStepSirenx17
import Derived.Test.YtopchlafmfgpnaaPFnExactStepSirenx18
import Derived.Test.YtopchlafmfgpnaaPFnExactStepSirenx19
import Derived.Test.YtopchlafmfgpnaaPFnExactStepSirenx20
import Derived.Test.YtopchlafmfgpnaaPFnExactStepSirenx21
namespace Go.Proofs.Ytopchlafmfgpnaa.PFnExactStepSiren
open Go.RowKit Go.Proofs.YtopchlafmfgpnaaW.PrintWords Go.Proofs.YtopchlafmfgpnaaW.PrintLast Go.Proofs.YtopchlafmfgpnaaW.PrintMore
attribute [local go_sem] max2_int min2_int max_two min_two max_three min_three max_four min_four   -- for this text's walks alone
set_option linter.unusedVariables false
set_option linter.unusedSimpArgs false

end Go.Proofs.Ytopchlafmfgpnaa.PFnExactStepSiren
