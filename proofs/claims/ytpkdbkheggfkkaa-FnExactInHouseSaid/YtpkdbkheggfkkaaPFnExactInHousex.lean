/- Walks of functions that FnExactInHouse reaches: written by a tool of the kit for this claim, then shortened by a program of ours. -/
import Derived.Test.YtpkdbkheggfkkaaPFnExactInHousex0
import Derived.Test.YtpkdbkheggfkkaaPFnExactInHousex1
import Derived.Test.YtpkdbkheggfkkaaPFnExactInHousex2
import Derived.Test.YtpkdbkheggfkkaaPFnExactInHousex3
import Derived.Test.YtpkdbkheggfkkaaPFnExactInHousex4
import Derived.Test.YtpkdbkheggfkkaaPFnExactInHousex5
import Derived.Test.YtpkdbkheggfkkaaPFnExactInHousex6
import Derived.Test.YtpkdbkheggfkkaaPFnExactInHousex7
import Derived.Test.YtpkdbkheggfkkaaPFnExactInHousex8
namespace Go.Proofs.Ytpkdbkheggfkkaa.PFnExactInHouse
open Go.RowKit Go.Proofs.YtpkdbkheggfkkaaW.PrintWords Go.Proofs.YtpkdbkheggfkkaaW.PrintLast Go.Proofs.YtpkdbkheggfkkaaW.PrintMore
attribute [local go_sem] max2_int min2_int max_two min_two max_three min_three max_four min_four   -- for this text's walks alone
set_option linter.unusedVariables false
set_option linter.unusedSimpArgs false

end Go.Proofs.Ytpkdbkheggfkkaa.PFnExactInHouse
