-- PRINTED BY print.sh 35421559b90ae4d0a3588c463048766b98c2df88dd9212a6774a882060cdf62d: not written by this session
import Derived.Test.YtaokklehbkiahaaPFnExactBestOffsetx0
import Derived.Test.YtaokklehbkiahaaPFnExactBestOffsetx1
import Derived.Test.YtaokklehbkiahaaPFnExactBestOffsetx2
import Derived.Test.YtaokklehbkiahaaPFnExactBestOffsetx3
import Derived.Test.YtaokklehbkiahaaPFnExactBestOffsetx4
import Derived.Test.YtaokklehbkiahaaPFnExactBestOffsetx5
import Derived.Test.YtaokklehbkiahaaPFnExactBestOffsetx6
import Derived.Test.YtaokklehbkiahaaPFnExactBestOffsetx7
namespace Go.Proofs.Ytaokklehbkiahaa.PFnExactBestOffset
open Go.RowKit Go.Proofs.YtaokklehbkiahaaW.PrintWords Go.Proofs.YtaokklehbkiahaaW.PrintLast Go.Proofs.YtaokklehbkiahaaW.PrintMore
attribute [local go_sem] max2_int min2_int max_two min_two max_three min_three max_four min_four   -- for this text's walks alone
set_option linter.unusedVariables false
set_option linter.unusedSimpArgs false

end Go.Proofs.Ytaokklehbkiahaa.PFnExactBestOffset
