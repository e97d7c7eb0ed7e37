/- Walks of functions that FnExactHolderAt reaches: written by a tool of the kit for this claim, then shortened by a program of ours. -/
import Derived.Test.YtbfpdakodcegjaaPFnExactHolderAtx0
import Derived.Test.YtbfpdakodcegjaaPFnExactHolderAtx1
import Derived.Test.YtbfpdakodcegjaaPFnExactHolderAtx2
import Derived.Test.YtbfpdakodcegjaaPFnExactHolderAtx3
import Derived.Test.YtbfpdakodcegjaaPFnExactHolderAtx4
import Derived.Test.YtbfpdakodcegjaaPFnExactHolderAtx5
import Derived.Test.YtbfpdakodcegjaaPFnExactHolderAtx6
namespace Go.Proofs.Ytbfpdakodcegjaa.PFnExactHolderAt
open Go.RowKit Go.Proofs.YtbfpdakodcegjaaW.PrintWords Go.Proofs.YtbfpdakodcegjaaW.PrintLast Go.Proofs.YtbfpdakodcegjaaW.PrintMore
attribute [local go_sem] max2_int min2_int max_two min_two max_three min_three max_four min_four   -- for this text's walks alone
set_option linter.unusedVariables false
set_option linter.unusedSimpArgs false

end Go.Proofs.Ytbfpdakodcegjaa.PFnExactHolderAt
