/- Printed by a program: what the Go functions compute, as plain Lean functions (.f), and the proofs that the machine's calls come to just that (.calls). -/
import Derived.Test.YtopchlafmfgpnaaPFnExactCanCutx0
import Derived.Test.YtopchlafmfgpnaaPFnExactCanCutx1
import Derived.Test.YtopchlafmfgpnaaPFnExactCanCutx2
import Derived.Test.YtopchlafmfgpnaaPFnExactCanCutx3
import Derived.Test.YtopchlafmfgpnaaPFnExactCanCutx4
import Derived.Test.YtopchlafmfgpnaaPFnExactCanCutx5
import Derived.Test.YtopchlafmfgpnaaPFnExactCanCutx6
import Derived.Test.YtopchlafmfgpnaaPFnExactCanCutx7
import Derived.Test.YtopchlafmfgpnaaPFnExactCanCutx8
import Derived.Test.YtopchlafmfgpnaaPFnExactCanCutx9
import Derived.Test.YtopchlafmfgpnaaPFnExactCanCutx10
import Derived.Test.YtopchlafmfgpnaaPFnExactCanCutx11
import Derived.Test.YtopchlafmfgpnaaPFnExactCanCutx12
import Derived.Test.YtopchlafmfgpnaaPFnExactCanCutx13
import Derived.Test.YtopchlafmfgpnaaPFnExactCanCutx14
import Derived.Test.YtopchlafmfgpnaaPFnExactCanCutx15
import Derived.Test.YtopchlafmfgpnaaPFnExactCanCutx16
import Derived.Test.YtopchlafmfgpnaaPFnExactCanCutx17
import Derived.Test.YtopchlafmfgpnaaPFnExactCanCutx18
import Derived.Test.YtopchlafmfgpnaaPFnExactCanCutx19
namespace Go.Proofs.Ytopchlafmfgpnaa.PFnExactCanCut
open Go.RowKit Go.Proofs.YtopchlafmfgpnaaW.PrintWords Go.Proofs.YtopchlafmfgpnaaW.PrintLast Go.Proofs.YtopchlafmfgpnaaW.PrintMore
attribute [local go_sem] max2_int min2_int max_two min_two max_three min_three max_four min_four   -- for this text's walks alone
set_option linter.unusedVariables false
set_option linter.unusedSimpArgs false

end Go.Proofs.Ytopchlafmfgpnaa.PFnExactCanCut
