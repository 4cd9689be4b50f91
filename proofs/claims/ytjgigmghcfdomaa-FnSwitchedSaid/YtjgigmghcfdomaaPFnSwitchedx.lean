/- Printed by a program: what the Go functions compute, as plain Lean functions (.f), and the proofs that the machine's calls come to just that (.calls). -/
import Derived.Test.YtjgigmghcfdomaaPFnSwitchedx0
import Derived.Test.YtjgigmghcfdomaaPFnSwitchedx1
import Derived.Test.YtjgigmghcfdomaaPFnSwitchedx2
import Derived.Test.YtjgigmghcfdomaaPFnSwitchedx3
import Derived.Test.YtjgigmghcfdomaaPFnSwitchedx4
import Derived.Test.YtjgigmghcfdomaaPFnSwitchedx5
import Derived.Test.YtjgigmghcfdomaaPFnSwitchedx6
import Derived.Test.YtjgigmghcfdomaaPFnSwitchedx7
import Derived.Test.YtjgigmghcfdomaaPFnSwitchedx8
import Derived.Test.YtjgigmghcfdomaaPFnSwitchedx9
import Derived.Test.YtjgigmghcfdomaaPFnSwitchedx10
import Derived.Test.YtjgigmghcfdomaaPFnSwitchedx11
import Derived.Test.YtjgigmghcfdomaaPFnSwitchedx12
import Derived.Test.YtjgigmghcfdomaaPFnSwitchedx13
namespace Go.Proofs.Ytjgigmghcfdomaa.PFnSwitched
end Go.Proofs.Ytjgigmghcfdomaa.PFnSwitched
