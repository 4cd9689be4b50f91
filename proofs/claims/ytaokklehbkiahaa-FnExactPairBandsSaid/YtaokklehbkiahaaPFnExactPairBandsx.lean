/- Printed by a program: what the Go functions compute, as plain Lean functions (.f), and the proofs that the machine's calls come to just that (.calls). -/
import Derived.Test.YtaokklehbkiahaaPFnExactPairBandsx0
import Derived.Test.YtaokklehbkiahaaPFnExactPairBandsx1
import Derived.Test.YtaokklehbkiahaaPFnExactPairBandsx2
import Derived.Test.YtaokklehbkiahaaPFnExactPairBandsx3
import Derived.Test.YtaokklehbkiahaaPFnExactPairBandsx4
import Derived.Test.YtaokklehbkiahaaPFnExactPairBandsx5
import Derived.Test.YtaokklehbkiahaaPFnExactPairBandsx6
import Derived.Test.YtaokklehbkiahaaPFnExactPairBandsx7
import Derived.Test.YtaokklehbkiahaaPFnExactPairBandsx8
namespace Go.Proofs.Ytaokklehbkiahaa.PFnExactPairBands
open Go.RowKit Go.Proofs.YtaokklehbkiahaaW.PrintWords Go.Proofs.YtaokklehbkiahaaW.PrintLast Go.Proofs.YtaokklehbkiahaaW.PrintMore
attribute [local go_sem] max2_int min2_int max_two min_two max_three min_three max_four min_four   -- for this text's walks alone
set_option linter.unusedVariables false
set_option linter.unusedSimpArgs false

end Go.Proofs.Ytaokklehbkiahaa.PFnExactPairBands
