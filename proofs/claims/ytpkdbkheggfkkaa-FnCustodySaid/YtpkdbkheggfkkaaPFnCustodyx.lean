/- Walks of functions that FnCustody reaches: written by a tool of the kit for this claim, then shortened by a program of ours. -/
import Derived.Test.YtpkdbkheggfkkaaPFnCustodyx0
import Derived.Test.YtpkdbkheggfkkaaPFnCustodyx1
import Derived.Test.YtpkdbkheggfkkaaPFnCustodyx2
import Derived.Test.YtpkdbkheggfkkaaPFnCustodyx3
import Derived.Test.YtpkdbkheggfkkaaPFnCustodyx4
import Derived.Test.YtpkdbkheggfkkaaPFnCustodyx5
import Derived.Test.YtpkdbkheggfkkaaPFnCustodyx6
import Derived.Test.YtpkdbkheggfkkaaPFnCustodyx7
import Derived.Test.YtpkdbkheggfkkaaPFnCustodyx8
import Derived.Test.YtpkdbkheggfkkaaPFnCustodyx9
import Derived.Test.YtpkdbkheggfkkaaPFnCustodyx10
namespace Go.Proofs.Ytpkdbkheggfkkaa.PFnCustody
open Go.RowKit Go.Proofs.YtpkdbkheggfkkaaW.PrintWords Go.Proofs.YtpkdbkheggfkkaaW.PrintLast Go.Proofs.YtpkdbkheggfkkaaW.PrintMore
attribute [local go_sem] max2_int min2_int max_two min_two max_three min_three max_four min_four   -- for this text's walks alone
set_option linter.unusedVariables false
set_option linter.unusedSimpArgs false

end Go.Proofs.Ytpkdbkheggfkkaa.PFnCustody
