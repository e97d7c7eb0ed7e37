/- Walks of functions that FnExactDueThings reaches: written by a tool of the kit for this claim, with contracts of ours for the functions that it does not take. -/
import Derived.Test.YtbfpdakodcegjaaPFnExactDueThingsx0
import Derived.Test.YtbfpdakodcegjaaPFnExactDueThingsx1
import Derived.Test.YtbfpdakodcegjaaPFnExactDueThingsx2
import Derived.Test.YtbfpdakodcegjaaPFnExactDueThingsx3
import Derived.Test.YtbfpdakodcegjaaPFnExactDueThingsx4
namespace Go.Proofs.Ytbfpdakodcegjaa.PFnExactDueThings
open Go.RowKit Go.Proofs.YtbfpdakodcegjaaW.PrintWords Go.Proofs.YtbfpdakodcegjaaW.PrintLast Go.Proofs.YtbfpdakodcegjaaW.PrintMore
attribute [local go_sem] max2_int min2_int max_two min_two max_three min_three max_four min_four   -- for this text's walks alone
set_option linter.unusedVariables false
set_option linter.unusedSimpArgs false

end Go.Proofs.Ytbfpdakodcegjaa.PFnExactDueThings
