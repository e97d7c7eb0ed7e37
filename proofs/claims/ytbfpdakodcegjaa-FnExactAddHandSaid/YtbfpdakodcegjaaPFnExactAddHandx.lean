/- Walks of functions that FnExactAddHand reaches: written by a tool of the kit for this claim, then shortened by a program of ours. -/
import Derived.Test.YtbfpdakodcegjaaPFnExactAddHandx0
import Derived.Test.YtbfpdakodcegjaaPFnExactAddHandx1
import Derived.Test.YtbfpdakodcegjaaPFnExactAddHandx2
import Derived.Test.YtbfpdakodcegjaaPFnExactAddHandx3
import Derived.Test.YtbfpdakodcegjaaPFnExactAddHandx4
import Derived.Test.YtbfpdakodcegjaaPFnExactAddHandx5
import Derived.Test.YtbfpdakodcegjaaPFnExactAddHandx6
import Derived.Test.YtbfpdakodcegjaaPFnExactAddHandx7
import Derived.Test.YtbfpdakodcegjaaPFnExactAddHandx8
import Derived.Test.YtbfpdakodcegjaaPFnExactAddHandx9
namespace Go.Proofs.Ytbfpdakodcegjaa.PFnExactAddHand
open Go.RowKit Go.Proofs.YtbfpdakodcegjaaW.PrintWords Go.Proofs.YtbfpdakodcegjaaW.PrintLast Go.Proofs.YtbfpdakodcegjaaW.PrintMore
attribute [local go_sem] max2_int min2_int max_two min_two max_three min_three max_four min_four   -- for this text's walks alone
set_option linter.unusedVariables false
set_option linter.unusedSimpArgs false

end Go.Proofs.Ytbfpdakodcegjaa.PFnExactAddHand
