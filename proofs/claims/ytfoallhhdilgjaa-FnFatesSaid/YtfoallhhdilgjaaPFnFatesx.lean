/- Walks of functions that FnFates reaches: written by a tool of the kit for this claim, then shortened by a program of ours. -/
import Derived.Test.YtfoallhhdilgjaaPFnFatesx0
import Derived.Test.YtfoallhhdilgjaaPFnFatesx1
import Derived.Test.YtfoallhhdilgjaaPFnFatesx2
import Derived.Test.YtfoallhhdilgjaaPFnFatesx3
import Derived.Test.YtfoallhhdilgjaaPFnFatesx4
import Derived.Test.YtfoallhhdilgjaaPFnFatesx5
import Derived.Test.YtfoallhhdilgjaaPFnFatesx6
import Derived.Test.YtfoallhhdilgjaaPFnFatesx7
import Derived.Test.YtfoallhhdilgjaaPFnFatesx8
import Derived.Test.YtfoallhhdilgjaaPFnFatesx9
import Derived.Test.YtfoallhhdilgjaaPFnFatesx10
import Derived.Test.YtfoallhhdilgjaaPFnFatesx11
/- narrow -/
namespace Go.Proofs.Ytfoallhhdilgjaa.PFnFates
open Go.RowKit Go.Proofs.YtfoallhhdilgjaaW.PrintWords Go.Proofs.YtfoallhhdilgjaaW.PrintLast Go.Proofs.YtfoallhhdilgjaaW.PrintMore
attribute [local go_sem] max2_int min2_int max_two min_two max_three min_three max_four min_four   -- for this text's walks alone
set_option linter.unusedVariables false
set_option linter.unusedSimpArgs false

end Go.Proofs.Ytfoallhhdilgjaa.PFnFates
