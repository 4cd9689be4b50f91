/- Printed by a program: what the Go functions compute, as plain Lean functions (.f), and the proofs that the machine's calls come to just that (.calls). -/
import Derived.Test.YtjgigmghcfdomaaPFnExactSwitchAtx0
import Derived.Test.YtjgigmghcfdomaaPFnExactSwitchAtx1
import Derived.Test.YtjgigmghcfdomaaPFnExactSwitchAtx2
import Derived.Test.YtjgigmghcfdomaaPFnExactSwitchAtx3
import Derived.Test.YtjgigmghcfdomaaPFnExactSwitchAtx4
import Derived.Test.YtjgigmghcfdomaaPFnExactSwitchAtx5
import Derived.Test.YtjgigmghcfdomaaPFnExactSwitchAtx6
import Derived.Test.YtjgigmghcfdomaaPFnExactSwitchAtx7
import Derived.Test.YtjgigmghcfdomaaPFnExactSwitchAtx8
import Derived.Test.YtjgigmghcfdomaaPFnExactSwitchAtx9
import Derived.Test.YtjgigmghcfdomaaPFnExactSwitchAtx10
import Derived.Test.YtjgigmghcfdomaaPFnExactSwitchAtx11
import Derived.Test.YtjgigmghcfdomaaPFnExactSwitchAtx12
import Derived.Test.YtjgigmghcfdomaaPFnExactSwitchAtx13
import Derived.Test.YtjgigmghcfdomaaPFnExactSwitchAtx14
import Derived.Test.YtjgigmghcfdomaaPFnExactSwitchAtx15
import Derived.Test.YtjgigmghcfdomaaPFnExactSwitchAtx16
import Derived.Test.YtjgigmghcfdomaaPFnExactSwitchAtx17
import Derived.Test.YtjgigmghcfdomaaPFnExactSwitchAtx18
import Derived.Test.YtjgigmghcfdomaaPFnExactSwitchAtx19
import Derived.Test.YtjgigmghcfdomaaPFnExactSwitchAtx20
import Derived.Test.YtjgigmghcfdomaaPFnExactSwitchAtx21
import Derived.Test.YtjgigmghcfdomaaPFnExactSwitchAtx22
import Derived.Test.YtjgigmghcfdomaaPFnExactSwitchAtx23
namespace Go.Proofs.Ytjgigmghcfdomaa.PFnExactSwitchAt
open Go.RowKit Go.Proofs.YtjgigmghcfdomaaW.PrintWords Go.Proofs.YtjgigmghcfdomaaW.PrintLast Go.Proofs.YtjgigmghcfdomaaW.PrintMore
attribute [local go_sem] max2_int min2_int max_two min_two max_three min_three max_four min_four   -- for this text's walks alone
set_option linter.unusedVariables false
set_option linter.unusedSimpArgs false

end Go.Proofs.Ytjgigmghcfdomaa.PFnExactSwitchAt
