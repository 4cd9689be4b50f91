/- Printed by a program: what the Go functions compute, as plain Lean functions (.f), and the proofs that the machine's calls come to just that (.calls). -/
import Derived.Test.YtopchlafmfgpnaaPFnExactPrioWishx0
import Derived.Test.YtopchlafmfgpnaaPFnExactPrioWishx1
import Derived.Test.YtopchlafmfgpnaaPFnExactPrioWishx2
import Derived.Test.YtopchlafmfgpnaaPFnExactPrioWishx3
import Derived.Test.YtopchlafmfgpnaaPFnExactPrioWishx4
import Derived.Test.YtopchlafmfgpnaaPFnExactPrioWishx5
import Derived.Test.YtopchlafmfgpnaaPFnExactPrioWishx6
import Derived.Test.YtopchlafmfgpnaaPFnExactPrioWishx7
import Derived.Test.YtopchlafmfgpnaaPFnExactPrioWishx8
import Derived.Test.YtopchlafmfgpnaaPFnExactPrioWishx9
import Derived.Test.YtopchlafmfgpnaaPFnExactPrioWishx10
import Derived.Test.YtopchlafmfgpnaaPFnExactPrioWishx11
import Derived.Test.YtopchlafmfgpnaaPFnExactPrioWishx12
import Derived.Test.YtopchlafmfgpnaaPFnExactPrioWishx13
import Derived.Test.YtopchlafmfgpnaaPFnExactPrioWishx14
import Derived.Test.YtopchlafmfgpnaaPFnExactPrioWishx15
import Derived.Test.YtopchlafmfgpnaaPFnExactPrioWishx16
import Derived.Test.YtopchlafmfgpnaaPFnExactPrioWishx17
import Derived.Test.YtopchlafmfgpnaaPFnExactPrioWishx18
import Derived.Test.YtopchlafmfgpnaaPFnExactPrioWishx19
import Derived.Test.YtopchlafmfgpnaaPFnExactPrioWishx20
import Derived.Test.YtopchlafmfgpnaaPFnExactPrioWishx21
import Derived.Test.YtopchlafmfgpnaaPFnExactPrioWishx22
import Derived.Test.YtopchlafmfgpnaaPFnExactPrioWishx23
namespace Go.Proofs.Ytopchlafmfgpnaa.PFnExactPrioWish
open Go.RowKit Go.Proofs.YtopchlafmfgpnaaW.PrintWords Go.Proofs.YtopchlafmfgpnaaW.PrintLast Go.Proofs.YtopchlafmfgpnaaW.PrintMore
attribute [local go_sem] max2_int min2_int max_two min_two max_three min_three max_four min_four   -- for this text's walks alone
set_option linter.unusedVariables false
set_option linter.unusedSimpArgs false

end Go.Proofs.Ytopchlafmfgpnaa.PFnExactPrioWish
