/- Walks of functions that FnExactMayHave reaches: written by a tool of the kit for this claim, then shortened by a program of ours. -/
import Derived.Test.YtejhjenlodclpaaPFnExactMayHavex0
import Derived.Test.YtejhjenlodclpaaPFnExactMayHavex1
import Derived.Test.YtejhjenlodclpaaPFnExactMayHavex2
import Derived.Test.YtejhjenlodclpaaPFnExactMayHavex3
import Derived.Test.YtejhjenlodclpaaPFnExactMayHavex4
import Derived.Test.YtejhjenlodclpaaPFnExactMayHavex5
import Derived.Test.YtejhjenlodclpaaPFnExactMayHavex6
import Derived.Test.YtejhjenlodclpaaPFnExactMayHavex7
namespace Go.Proofs.Ytejhjenlodclpaa.PFnExactMayHave
open Go.RowKit Go.Proofs.YtejhjenlodclpaaW.PrintWords Go.Proofs.YtejhjenlodclpaaW.PrintLast Go.Proofs.YtejhjenlodclpaaW.PrintMore
attribute [local go_sem] max2_int min2_int max_two min_two max_three min_three max_four min_four   -- for this text's walks alone
set_option linter.unusedVariables false
set_option linter.unusedSimpArgs false

end Go.Proofs.Ytejhjenlodclpaa.PFnExactMayHave
