-- PRINTED BY print.sh 35421559b90ae4d0a3588c463048766b98c2df88dd9212a6774a882060cdf62d: not written by this session
import Derived.Test.YtaokklehbkiahaaPFnExactThroughBandx0
import Derived.Test.YtaokklehbkiahaaPFnExactThroughBandx1
import Derived.Test.YtaokklehbkiahaaPFnExactThroughBandx2
import Derived.Test.YtaokklehbkiahaaPFnExactThroughBandx3
import Derived.Test.YtaokklehbkiahaaPFnExactThroughBandx4
import Derived.Test.YtaokklehbkiahaaPFnExactThroughBandx5
import Derived.Test.YtaokklehbkiahaaPFnExactThroughBandx6
import Derived.Test.YtaokklehbkiahaaPFnExactThroughBandx7
namespace Go.Proofs.Ytaokklehbkiahaa.PFnExactThroughBand
open Go.RowKit Go.Proofs.YtaokklehbkiahaaW.PrintWords Go.Proofs.YtaokklehbkiahaaW.PrintLast Go.Proofs.YtaokklehbkiahaaW.PrintMore
attribute [local go_sem] max2_int min2_int max_two min_two max_three min_three max_four min_four   -- for this text's walks alone
set_option linter.unusedVariables false
set_option linter.unusedSimpArgs false

end Go.Proofs.Ytaokklehbkiahaa.PFnExactThroughBand
