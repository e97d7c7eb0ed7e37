/- Walks of functions that FnExactWriteLetter reaches: written by a tool of the kit for this claim, with contracts of ours for the functions that it does not take. -/
import Derived.Test.YtbfpdakodcegjaaPFnExactWriteLetterx0
import Derived.Test.YtbfpdakodcegjaaPFnExactWriteLetterx1
import Derived.Test.YtbfpdakodcegjaaPFnExactWriteLetterx2
import Derived.Test.YtbfpdakodcegjaaPFnExactWriteLetterx3
import Derived.Test.YtbfpdakodcegjaaPFnExactWriteLetterx4
import Derived.Test.YtbfpdakodcegjaaPFnExactWriteLetterx5
import Derived.Test.YtbfpdakodcegjaaPFnExactWriteLetterx6
namespace Go.Proofs.Ytbfpdakodcegjaa.PFnExactWriteLetter
open Go.RowKit Go.Proofs.YtbfpdakodcegjaaW.PrintWords Go.Proofs.YtbfpdakodcegjaaW.PrintLast Go.Proofs.YtbfpdakodcegjaaW.PrintMore
attribute [local go_sem] max2_int min2_int max_two min_two max_three min_three max_four min_four   -- for this text's walks alone
set_option linter.unusedVariables false
set_option linter.unusedSimpArgs false

end Go.Proofs.Ytbfpdakodcegjaa.PFnExactWriteLetter
