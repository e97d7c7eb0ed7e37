/- Walks of functions that FnExactSendParcel reaches: written by a tool of the kit for this claim, then shortened by a program of ours. -/
import Derived.Test.YtejhjenlodclpaaPFnExactSendParcelx0
import Derived.Test.YtejhjenlodclpaaPFnExactSendParcelx1
import Derived.Test.YtejhjenlodclpaaPFnExactSendParcelx2
import Derived.Test.YtejhjenlodclpaaPFnExactSendParcelx3
import Derived.Test.YtejhjenlodclpaaPFnExactSendParcelx4
import Derived.Test.YtejhjenlodclpaaPFnExactSendParcelx5
import Derived.Test.YtejhjenlodclpaaPFnExactSendParcelx6
import Derived.Test.YtejhjenlodclpaaPFnExactSendParcelx7
import Derived.Test.YtejhjenlodclpaaPFnExactSendParcelx8
import Derived.Test.YtejhjenlodclpaaPFnExactSendParcelx9
import Derived.Test.YtejhjenlodclpaaPFnExactSendParcelx10
import Derived.Test.YtejhjenlodclpaaPFnExactSendParcelx11
import Derived.Test.YtejhjenlodclpaaPFnExactSendParcelx12
import Derived.Test.YtejhjenlodclpaaPFnExactSendParcelx13
import Derived.Test.YtejhjenlodclpaaPFnExactSendParcelx14
namespace Go.Proofs.Ytejhjenlodclpaa.PFnExactSendParcel
open Go.RowKit Go.Proofs.YtejhjenlodclpaaW.PrintWords Go.Proofs.YtejhjenlodclpaaW.PrintLast Go.Proofs.YtejhjenlodclpaaW.PrintMore
attribute [local go_sem] max2_int min2_int max_two min_two max_three min_three max_four min_four   -- for this text's walks alone
set_option linter.unusedVariables false
set_option linter.unusedSimpArgs false

end Go.Proofs.Ytejhjenlodclpaa.PFnExactSendParcel
