/- Printed by a program: what the Go functions compute, as plain Lean functions (.f), and the proofs that the machine's calls come to just that (.calls). -/
import Derived.Test.YtjgigmghcfdomaaPFnExactRotatePlanx0
import Derived.Test.YtjgigmghcfdomaaPFnExactRotatePlanx1
import Derived.Test.YtjgigmghcfdomaaPFnExactRotatePlanx2
import Derived.Test.YtjgigmghcfdomaaPFnExactRotatePlanx3
import Derived.Test.YtjgigmghcfdomaaPFnExactRotatePlanx4
import Derived.Test.YtjgigmghcfdomaaPFnExactRotatePlanx5
namespace Go.Proofs.Ytjgigmghcfdomaa.PFnExactRotatePlan
open Go.RowKit Go.Proofs.YtjgigmghcfdomaaW.PrintWords Go.Proofs.YtjgigmghcfdomaaW.PrintLast Go.Proofs.YtjgigmghcfdomaaW.PrintMore
attribute [local go_sem] max2_int min2_int max_two min_two max_three min_three max_four min_four   -- for this text's walks alone
set_option linter.unusedVariables false
set_option linter.unusedSimpArgs false

end Go.Proofs.Ytjgigmghcfdomaa.PFnExactRotatePlan
