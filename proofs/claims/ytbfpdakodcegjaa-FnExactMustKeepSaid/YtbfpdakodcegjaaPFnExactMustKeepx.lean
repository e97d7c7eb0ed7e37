/- Walks of functions that FnExactMustKeep reaches: written by a tool of the kit for this claim, with contracts of ours for the functions that it does not take. -/
import Derived.Test.YtbfpdakodcegjaaPFnExactMustKeepx0
import Derived.Test.YtbfpdakodcegjaaPFnExactMustKeepx1
import Derived.Test.YtbfpdakodcegjaaPFnExactMustKeepx2
import Derived.Test.YtbfpdakodcegjaaPFnExactMustKeepx3
import Derived.Test.YtbfpdakodcegjaaPFnExactMustKeepx4
import Derived.Test.YtbfpdakodcegjaaPFnExactMustKeepx5
import Derived.Test.YtbfpdakodcegjaaPFnExactMustKeepx6
namespace Go.Proofs.Ytbfpdakodcegjaa.PFnExactMustKeep
open Go.RowKit Go.Proofs.YtbfpdakodcegjaaW.PrintWords Go.Proofs.YtbfpdakodcegjaaW.PrintLast Go.Proofs.YtbfpdakodcegjaaW.PrintMore
attribute [local go_sem] max2_int min2_int max_two min_two max_three min_three max_four min_four   -- for this text's walks alone
set_option linter.unusedVariables false
set_option linter.unusedSimpArgs false

end Go.Proofs.Ytbfpdakodcegjaa.PFnExactMustKeep
