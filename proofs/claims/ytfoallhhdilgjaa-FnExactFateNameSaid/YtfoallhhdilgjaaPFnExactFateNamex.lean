/- Walks of functions that FnExactFateName reaches: written by a tool of the kit for this claim, with contracts of ours for the functions that it does not take. -/
import Derived.Test.YtfoallhhdilgjaaPFnExactFateNamex0
import Derived.Test.YtfoallhhdilgjaaPFnExactFateNamex1
namespace Go.Proofs.Ytfoallhhdilgjaa.PFnExactFateName
open Go.RowKit Go.Proofs.YtfoallhhdilgjaaW.PrintWords Go.Proofs.YtfoallhhdilgjaaW.PrintLast Go.Proofs.YtfoallhhdilgjaaW.PrintMore
attribute [local go_sem] max2_int min2_int max_two min_two max_three min_three max_four min_four   -- for this text's walks alone
set_option linter.unusedVariables false
set_option linter.unusedSimpArgs false

end Go.Proofs.Ytfoallhhdilgjaa.PFnExactFateName
