/- Printed by a program: what the Go functions compute, as plain Lean functions (.f), and the proofs that the machine's calls come to just that (.calls). -/
import Derived.Test.YtjgigmghcfdomaaPFnWavesx0
import Derived.Test.YtjgigmghcfdomaaPFnWavesx1
import Derived.Test.YtjgigmghcfdomaaPFnWavesx2
import Derived.Test.YtjgigmghcfdomaaPFnWavesx3
import Derived.Test.YtjgigmghcfdomaaPFnWavesx4
import Derived.Test.YtjgigmghcfdomaaPFnWavesx5
import Derived.Test.YtjgigmghcfdomaaPFnWavesx6
import Derived.Test.YtjgigmghcfdomaaPFnWavesx7
import Derived.Test.YtjgigmghcfdomaaPFnWavesx8
import Derived.Test.YtjgigmghcfdomaaPFnWavesx9
import Derived.Test.YtjgigmghcfdomaaPFnWavesx10
import Derived.Test.YtjgigmghcfdomaaPFnWavesx11
import Derived.Test.YtjgigmghcfdomaaPFnWavesx12
import Derived.Test.YtjgigmghcfdomaaPFnWavesx13
namespace Go.Proofs.Ytjgigmghcfdomaa.PFnWaves
end Go.Proofs.Ytjgigmghcfdomaa.PFnWaves
