/- Walks of functions that FnParcels reaches: written by a tool of the kit for this claim, then shortened by a program of ours. -/
import Derived.Test.YtejhjenlodclpaaPFnParcelsx0
import Derived.Test.YtejhjenlodclpaaPFnParcelsx1
import Derived.Test.YtejhjenlodclpaaPFnParcelsx2
import Derived.Test.YtejhjenlodclpaaPFnParcelsx3
import Derived.Test.YtejhjenlodclpaaPFnParcelsx4
import Derived.Test.YtejhjenlodclpaaPFnParcelsx5
import Derived.Test.YtejhjenlodclpaaPFnParcelsx6
import Derived.Test.YtejhjenlodclpaaPFnParcelsx7
import Derived.Test.YtejhjenlodclpaaPFnParcelsx8
import Derived.Test.YtejhjenlodclpaaPFnParcelsx9
import Derived.Test.YtejhjenlodclpaaPFnParcelsx10
import Derived.Test.YtejhjenlodclpaaPFnParcelsx11
import Derived.Test.YtejhjenlodclpaaPFnParcelsx12
import Derived.Test.YtejhjenlodclpaaPFnParcelsx13
import Derived.Test.YtejhjenlodclpaaPFnParcelsx14
/- narrow -/
namespace Go.Proofs.Ytejhjenlodclpaa.PFnParcels
open Go.RowKit Go.Proofs.YtejhjenlodclpaaW.PrintWords Go.Proofs.YtejhjenlodclpaaW.PrintLast Go.Proofs.YtejhjenlodclpaaW.PrintMore
attribute [local go_sem] max2_int min2_int max_two min_two max_three min_three max_four min_four   -- for this text's walks alone
set_option linter.unusedVariables false
set_option linter.unusedSimpArgs false

end Go.Proofs.Ytejhjenlodclpaa.PFnParcels
