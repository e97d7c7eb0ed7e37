/- Walks of functions that FnExactTighten reaches: written by a tool of the kit for this claim, then shortened by a program of ours. -/
import Derived.Test.YtejhjenlodclpaaPFnExactTightenx0
import Derived.Test.YtejhjenlodclpaaPFnExactTightenx1
import Derived.Test.YtejhjenlodclpaaPFnExactTightenx2
import Derived.Test.YtejhjenlodclpaaPFnExactTightenx3
import Derived.Test.YtejhjenlodclpaaPFnExactTightenx4
import Derived.Test.YtejhjenlodclpaaPFnExactTightenx5
import Derived.Test.YtejhjenlodclpaaPFnExactTightenx6
import Derived.Test.YtejhjenlodclpaaPFnExactTightenx7
import Derived.Test.YtejhjenlodclpaaPFnExactTightenx8
import Derived.Test.YtejhjenlodclpaaPFnExactTightenx9
import Derived.Test.YtejhjenlodclpaaPFnExactTightenx10
import Derived.Test.YtejhjenlodclpaaPFnExactTightenx11
import Derived.Test.YtejhjenlodclpaaPFnExactTightenx12
import Derived.Test.YtejhjenlodclpaaPFnExactTightenx13
import Derived.Test.YtejhjenlodclpaaPFnExactTightenx14
import Derived.Test.YtejhjenlodclpaaPFnExactTightenx15
import Derived.Test.YtejhjenlodclpaaPFnExactTightenx16
import Derived.Test.YtejhjenlodclpaaPFnExactTightenx17
/- narrow -/
namespace Go.Proofs.Ytejhjenlodclpaa.PFnExactTighten
open Go.RowKit Go.Proofs.YtejhjenlodclpaaW.PrintWords Go.Proofs.YtejhjenlodclpaaW.PrintLast Go.Proofs.YtejhjenlodclpaaW.PrintMore
attribute [local go_sem] max2_int min2_int max_two min_two max_three min_three max_four min_four   -- for this text's walks alone
set_option linter.unusedVariables false
set_option linter.unusedSimpArgs false

end Go.Proofs.Ytejhjenlodclpaa.PFnExactTighten
