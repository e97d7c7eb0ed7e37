/- Walks of functions that FnExactHintsFor reaches: written by a tool of the kit for this claim, then shortened by a program of ours. -/
import Derived.Test.YtejhjenlodclpaaPFnExactHintsForx0
import Derived.Test.YtejhjenlodclpaaPFnExactHintsForx1
import Derived.Test.YtejhjenlodclpaaPFnExactHintsForx2
import Derived.Test.YtejhjenlodclpaaPFnExactHintsForx3
import Derived.Test.YtejhjenlodclpaaPFnExactHintsForx4
import Derived.Test.YtejhjenlodclpaaPFnExactHintsForx5
import Derived.Test.YtejhjenlodclpaaPFnExactHintsForx6
import Derived.Test.YtejhjenlodclpaaPFnExactHintsForx7
namespace Go.Proofs.Ytejhjenlodclpaa.PFnExactHintsFor
open Go.RowKit Go.Proofs.YtejhjenlodclpaaW.PrintWords Go.Proofs.YtejhjenlodclpaaW.PrintLast Go.Proofs.YtejhjenlodclpaaW.PrintMore
attribute [local go_sem] max2_int min2_int max_two min_two max_three min_three max_four min_four   -- for this text's walks alone
set_option linter.unusedVariables false
set_option linter.unusedSimpArgs false

end Go.Proofs.Ytejhjenlodclpaa.PFnExactHintsFor
