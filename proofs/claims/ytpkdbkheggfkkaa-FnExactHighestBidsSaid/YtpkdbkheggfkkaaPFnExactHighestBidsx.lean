/- Walks of functions that FnExactHighestBids reaches: written by a tool of the kit for this claim, with contracts of ours for the functions that it does not take. -/
import Derived.Test.YtpkdbkheggfkkaaPFnExactHighestBidsx0
import Derived.Test.YtpkdbkheggfkkaaPFnExactHighestBidsx1
import Derived.Test.YtpkdbkheggfkkaaPFnExactHighestBidsx2
import Derived.Test.YtpkdbkheggfkkaaPFnExactHighestBidsx3
import Derived.Test.YtpkdbkheggfkkaaPFnExactHighestBidsx4
import Derived.Test.YtpkdbkheggfkkaaPFnExactHighestBidsx5
import Derived.Test.YtpkdbkheggfkkaaPFnExactHighestBidsx6
namespace Go.Proofs.Ytpkdbkheggfkkaa.PFnExactHighestBids
open Go.RowKit Go.Proofs.YtpkdbkheggfkkaaW.PrintWords Go.Proofs.YtpkdbkheggfkkaaW.PrintLast Go.Proofs.YtpkdbkheggfkkaaW.PrintMore
attribute [local go_sem] max2_int min2_int max_two min_two max_three min_three max_four min_four   -- for this text's walks alone
set_option linter.unusedVariables false
set_option linter.unusedSimpArgs false

end Go.Proofs.Ytpkdbkheggfkkaa.PFnExactHighestBids
