/- Walks of functions that FnExactHintsOf reaches: written by a tool of the kit for this claim, then shortened by a program of ours. -/
import Derived.Test.YtejhjenlodclpaaPFnExactHintsOfx0
import Derived.Test.YtejhjenlodclpaaPFnExactHintsOfx1
import Derived.Test.YtejhjenlodclpaaPFnExactHintsOfx2
import Derived.Test.YtejhjenlodclpaaPFnExactHintsOfx3
import Derived.Test.YtejhjenlodclpaaPFnExactHintsOfx4
import Derived.Test.YtejhjenlodclpaaPFnExactHintsOfx5
import Derived.Test.YtejhjenlodclpaaPFnExactHintsOfx6
import Derived.Test.YtejhjenlodclpaaPFnExactHintsOfx7
import Derived.Test.YtejhjenlodclpaaPFnExactHintsOfx8
namespace Go.Proofs.Ytejhjenlodclpaa.PFnExactHintsOf
open Go.RowKit Go.Proofs.YtejhjenlodclpaaW.PrintWords Go.Proofs.YtejhjenlodclpaaW.PrintLast Go.Proofs.YtejhjenlodclpaaW.PrintMore
attribute [local go_sem] max2_int min2_int max_two min_two max_three min_three max_four min_four   -- for this text's walks alone
set_option linter.unusedVariables false
set_option linter.unusedSimpArgs false

end Go.Proofs.Ytejhjenlodclpaa.PFnExactHintsOf
