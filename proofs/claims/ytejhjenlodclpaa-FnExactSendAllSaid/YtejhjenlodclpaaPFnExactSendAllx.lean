/- Walks of functions that FnExactSendAll reaches: written by a tool of the kit for this claim, then shortened by a program of ours. -/
import Derived.Test.YtejhjenlodclpaaPFnExactSendAllx0
import Derived.Test.YtejhjenlodclpaaPFnExactSendAllx1
import Derived.Test.YtejhjenlodclpaaPFnExactSendAllx2
import Derived.Test.YtejhjenlodclpaaPFnExactSendAllx3
import Derived.Test.YtejhjenlodclpaaPFnExactSendAllx4
import Derived.Test.YtejhjenlodclpaaPFnExactSendAllx5
import Derived.Test.YtejhjenlodclpaaPFnExactSendAllx6
import Derived.Test.YtejhjenlodclpaaPFnExactSendAllx7
import Derived.Test.YtejhjenlodclpaaPFnExactSendAllx8
import Derived.Test.YtejhjenlodclpaaPFnExactSendAllx9
import Derived.Test.YtejhjenlodclpaaPFnExactSendAllx10
import Derived.Test.YtejhjenlodclpaaPFnExactSendAllx11
import Derived.Test.YtejhjenlodclpaaPFnExactSendAllx12
import Derived.Test.YtejhjenlodclpaaPFnExactSendAllx13
import Derived.Test.YtejhjenlodclpaaPFnExactSendAllx14
import Derived.Test.YtejhjenlodclpaaPFnExactSendAllx15
import Derived.Test.YtejhjenlodclpaaPFnExactSendAllx16
/- narrow -/
namespace Go.Proofs.Ytejhjenlodclpaa.PFnExactSendAll
open Go.RowKit Go.Proofs.YtejhjenlodclpaaW.PrintWords Go.Proofs.YtejhjenlodclpaaW.PrintLast Go.Proofs.YtejhjenlodclpaaW.PrintMore
attribute [local go_sem] max2_int min2_int max_two min_two max_three min_three max_four min_four   -- for this text's walks alone
set_option linter.unusedVariables false
set_option linter.unusedSimpArgs false

end Go.Proofs.Ytejhjenlodclpaa.PFnExactSendAll
