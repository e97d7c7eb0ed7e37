/- Walks of functions that FnExactCountIn reaches: written by a tool of the kit for this claim, then shortened by a program of ours. -/
import Derived.Test.YtbfpdakodcegjaaPFnExactCountInx0
import Derived.Test.YtbfpdakodcegjaaPFnExactCountInx1
import Derived.Test.YtbfpdakodcegjaaPFnExactCountInx2
import Derived.Test.YtbfpdakodcegjaaPFnExactCountInx3
import Derived.Test.YtbfpdakodcegjaaPFnExactCountInx4
import Derived.Test.YtbfpdakodcegjaaPFnExactCountInx5
import Derived.Test.YtbfpdakodcegjaaPFnExactCountInx6
namespace Go.Proofs.Ytbfpdakodcegjaa.PFnExactCountIn
open Go.RowKit Go.Proofs.YtbfpdakodcegjaaW.PrintWords Go.Proofs.YtbfpdakodcegjaaW.PrintLast Go.Proofs.YtbfpdakodcegjaaW.PrintMore
attribute [local go_sem] max2_int min2_int max_two min_two max_three min_three max_four min_four   -- for this text's walks alone
set_option linter.unusedVariables false
set_option linter.unusedSimpArgs false

end Go.Proofs.Ytbfpdakodcegjaa.PFnExactCountIn
