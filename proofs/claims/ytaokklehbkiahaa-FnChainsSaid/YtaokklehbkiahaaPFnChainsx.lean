/- Printed by a program: what the Go functions compute, as plain Lean functions (.f), and the proofs that the machine's calls come to just that (.calls). -/
import Derived.Test.YtaokklehbkiahaaPFnChainsx0
import Derived.Test.YtaokklehbkiahaaPFnChainsx1
import Derived.Test.YtaokklehbkiahaaPFnChainsx2
import Derived.Test.YtaokklehbkiahaaPFnChainsx3
import Derived.Test.YtaokklehbkiahaaPFnChainsx4
import Derived.Test.YtaokklehbkiahaaPFnChainsx5
import Derived.Test.YtaokklehbkiahaaPFnChainsx6
import Derived.Test.YtaokklehbkiahaaPFnChainsx7
import Derived.Test.YtaokklehbkiahaaPFnChainsx8
import Derived.Test.YtaokklehbkiahaaPFnChainsx9
import Derived.Test.YtaokklehbkiahaaPFnChainsx10
import Derived.Test.YtaokklehbkiahaaPFnChainsx11
import Derived.Test.YtaokklehbkiahaaPFnChainsx12
import Derived.Test.YtaokklehbkiahaaPFnChainsx13
import Derived.Test.YtaokklehbkiahaaPFnChainsx14
namespace Go.Proofs.Ytaokklehbkiahaa.PFnChains
open Go.RowKit Go.Proofs.YtaokklehbkiahaaW.PrintWords Go.Proofs.YtaokklehbkiahaaW.PrintLast Go.Proofs.YtaokklehbkiahaaW.PrintMore
attribute [local go_sem] max2_int min2_int max_two min_two max_three min_three max_four min_four   -- for this text's walks alone
set_option linter.unusedVariables false
set_option linter.unusedSimpArgs false

end Go.Proofs.Ytaokklehbkiahaa.PFnChains
