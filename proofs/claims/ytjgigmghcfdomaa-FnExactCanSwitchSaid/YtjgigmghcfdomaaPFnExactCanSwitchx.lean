/- Printed by a program: what the Go functions compute, as plain Lean functions (.f), and the proofs that the machine's calls come to just that (.calls). -/
import Derived.Test.YtjgigmghcfdomaaPFnExactCanSwitchx0
import Derived.Test.YtjgigmghcfdomaaPFnExactCanSwitchx1
import Derived.Test.YtjgigmghcfdomaaPFnExactCanSwitchx2
import Derived.Test.YtjgigmghcfdomaaPFnExactCanSwitchx3
import Derived.Test.YtjgigmghcfdomaaPFnExactCanSwitchx4
import Derived.Test.YtjgigmghcfdomaaPFnExactCanSwitchx5
import Derived.Test.YtjgigmghcfdomaaPFnExactCanSwitchx6
import Derived.Test.YtjgigmghcfdomaaPFnExactCanSwitchx7
import Derived.Test.YtjgigmghcfdomaaPFnExactCanSwitchx8
import Derived.Test.YtjgigmghcfdomaaPFnExactCanSwitchx9
import Derived.Test.YtjgigmghcfdomaaPFnExactCanSwitchx10
import Derived.Test.YtjgigmghcfdomaaPFnExactCanSwitchx11
import Derived.Test.YtjgigmghcfdomaaPFnExactCanSwitchx12
import Derived.Test.YtjgigmghcfdomaaPFnExactCanSwitchx13
import Derived.Test.YtjgigmghcfdomaaPFnExactCanSwitchx14
import Derived.Test.YtjgigmghcfdomaaPFnExactCanSwitchx15
import Derived.Test.YtjgigmghcfdomaaPFnExactCanSwitchx16
import Derived.Test.YtjgigmghcfdomaaPFnExactCanSwitchx17
import Derived.Test.YtjgigmghcfdomaaPFnExactCanSwitchx18
import Derived.Test.YtjgigmghcfdomaaPFnExactCanSwitchx19
import Derived.Test.YtjgigmghcfdomaaPFnExactCanSwitchx20
import Derived.Test.YtjgigmghcfdomaaPFnExactCanSwitchx21
import Derived.Test.YtjgigmghcfdomaaPFnExactCanSwitchx22
import Derived.Test.YtjgigmghcfdomaaPFnExactCanSwitchx23
namespace Go.Proofs.Ytjgigmghcfdomaa.PFnExactCanSwitch
open Go.RowKit Go.Proofs.YtjgigmghcfdomaaW.PrintWords Go.Proofs.YtjgigmghcfdomaaW.PrintLast Go.Proofs.YtjgigmghcfdomaaW.PrintMore
attribute [local go_sem] max2_int min2_int max_two min_two max_three min_three max_four min_four   -- for this text's walks alone
set_option linter.unusedVariables false
set_option linter.unusedSimpArgs false

end Go.Proofs.Ytjgigmghcfdomaa.PFnExactCanSwitch
