/- Printed by a program: what the Go functions compute, as plain Lean functions (.f), and the proofs that the machine's calls come to just that (.calls). -/
import Derived.Test.YtdaofiiedclmpaaPFnStreetsx0
import Derived.Test.YtdaofiiedclmpaaPFnStreetsx1
import Derived.Test.YtdaofiiedclmpaaPFnStreetsx2
import Derived.Test.YtdaofiiedclmpaaPFnStreetsx3
import Derived.Test.YtdaofiiedclmpaaPFnStreetsx4
import Derived.Test.YtdaofiiedclmpaaPFnStreetsx5
import Derived.Test.YtdaofiiedclmpaaPFnStreetsx6
import Derived.Test.YtdaofiiedclmpaaPFnStreetsx7
namespace Go.Proofs.Ytdaofiiedclmpaa.PFnStreets
open Go.RowKit Go.Proofs.YtdaofiiedclmpaaW.PrintWords Go.Proofs.YtdaofiiedclmpaaW.PrintLast Go.Proofs.YtdaofiiedclmpaaW.PrintMore
attribute [local go_sem] max2_int min2_int max_two min_two max_three min_three max_four min_four   -- for this text's walks alone
set_option linter.unusedVariables false
set_option linter.unusedSimpArgs false

end Go.Proofs.Ytdaofiiedclmpaa.PFnStreets
