/- Walks of functions that FnExactAskHouses reaches: written by a tool of the kit for this claim, then shortened by a program of ours. -/
import Derived.Test.YtejhjenlodclpaaPFnExactAskHousesx0
import Derived.Test.YtejhjenlodclpaaPFnExactAskHousesx1
import Derived.Test.YtejhjenlodclpaaPFnExactAskHousesx2
import Derived.Test.YtejhjenlodclpaaPFnExactAskHousesx3
import Derived.Test.YtejhjenlodclpaaPFnExactAskHousesx4
import Derived.Test.YtejhjenlodclpaaPFnExactAskHousesx5
import Derived.Test.YtejhjenlodclpaaPFnExactAskHousesx6
import Derived.Test.YtejhjenlodclpaaPFnExactAskHousesx7
import Derived.Test.YtejhjenlodclpaaPFnExactAskHousesx8
import Derived.Test.YtejhjenlodclpaaPFnExactAskHousesx9
import Derived.Test.YtejhjenlodclpaaPFnExactAskHousesx10
/- narrow -/
namespace Go.Proofs.Ytejhjenlodclpaa.PFnExactAskHouses
open Go.RowKit Go.Proofs.YtejhjenlodclpaaW.PrintWords Go.Proofs.YtejhjenlodclpaaW.PrintLast Go.Proofs.YtejhjenlodclpaaW.PrintMore
attribute [local go_sem] max2_int min2_int max_two min_two max_three min_three max_four min_four   -- for this text's walks alone
set_option linter.unusedVariables false
set_option linter.unusedSimpArgs false

end Go.Proofs.Ytejhjenlodclpaa.PFnExactAskHouses
