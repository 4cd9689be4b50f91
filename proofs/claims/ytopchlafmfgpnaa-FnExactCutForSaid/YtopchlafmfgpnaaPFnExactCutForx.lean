/- Printed by a program: what the Go functions compute, as plain Lean functions (.f), and the proofs that the machine's calls come to just that (.calls). -/
import Derived.Test.YtopchlafmfgpnaaPFnExactCutForx0
import Derived.Test.YtopchlafmfgpnaaPFnExactCutForx1
import Derived.Test.YtopchlafmfgpnaaPFnExactCutForx2
import Derived.Test.YtopchlafmfgpnaaPFnExactCutForx3
import Derived.Test.YtopchlafmfgpnaaPFnExactCutForx4
import Derived.Test.YtopchlafmfgpnaaPFnExactCutForx5
import Derived.Test.YtopchlafmfgpnaaPFnExactCutForx6
import Derived.Test.YtopchlafmfgpnaaPFnExactCutForx7
import Derived.Test.YtopchlafmfgpnaaPFnExactCutForx8
import Derived.Test.YtopchlafmfgpnaaPFnExactCutForx9
import Derived.Test.YtopchlafmfgpnaaPFnExactCutForx10
import Derived.Test.YtopchlafmfgpnaaPFnExactCutForx11
import Derived.Test.YtopchlafmfgpnaaPFnExactCutForx12
import Derived.Test.YtopchlafmfgpnaaPFnExactCutForx13
import Derived.Test.YtopchlafmfgpnaaPFnExactCutForx14
import Derived.Test.YtopchlafmfgpnaaPFnExactCutForx15
import Derived.Test.YtopchlafmfgpnaaPFnExactCutForx16
import Derived.Test.YtopchlafmfgpnaaPFnExactCutForx17
import Derived.Test.YtopchlafmfgpnaaPFnExactCutForx18
import Derived.Test.YtopchlafmfgpnaaPFnExactCutForx19
import Derived.Test.YtopchlafmfgpnaaPFnExactCutForx20
import Derived.Test.YtopchlafmfgpnaaPFnExactCutForx21
namespace Go.Proofs.Ytopchlafmfgpnaa.PFnExactCutFor
open Go.RowKit Go.Proofs.YtopchlafmfgpnaaW.PrintWords Go.Proofs.YtopchlafmfgpnaaW.PrintLast Go.Proofs.YtopchlafmfgpnaaW.PrintMore
attribute [local go_sem] max2_int min2_int max_two min_two max_three min_three max_four min_four   -- for this text's walks alone
set_option linter.unusedVariables false
set_option linter.unusedSimpArgs false

end Go.Proofs.Ytopchlafmfgpnaa.PFnExactCutFor
