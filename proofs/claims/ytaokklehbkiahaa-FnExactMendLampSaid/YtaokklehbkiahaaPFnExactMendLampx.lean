/- Printed by a program: what the Go functions compute, as plain Lean functions (.f), and the proofs that the machine's calls come to just that (.calls). -/
import Derived.Test.YtaokklehbkiahaaPFnExactMendLampx0
import Derived.Test.YtaokklehbkiahaaPFnExactMendLampx1
import Derived.Test.YtaokklehbkiahaaPFnExactMendLampx2
import Derived.Test.YtaokklehbkiahaaPFnExactMendLampx3
namespace Go.Proofs.Ytaokklehbkiahaa.PFnExactMendLamp
open Go.RowKit Go.Proofs.YtaokklehbkiahaaW.PrintWords Go.Proofs.YtaokklehbkiahaaW.PrintLast Go.Proofs.YtaokklehbkiahaaW.PrintMore
attribute [local go_sem] max2_int min2_int max_two min_two max_three min_three max_four min_four   -- for this text's walks alone
set_option linter.unusedVariables false
set_option linter.unusedSimpArgs false

end Go.Proofs.Ytaokklehbkiahaa.PFnExactMendLamp
