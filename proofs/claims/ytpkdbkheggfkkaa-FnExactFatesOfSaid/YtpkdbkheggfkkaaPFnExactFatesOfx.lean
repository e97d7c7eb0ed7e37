/- Walks of functions that FnExactFatesOf reaches: written by a tool of the kit for this claim, then shortened by a program of ours. -/
import Derived.Test.YtpkdbkheggfkkaaPFnExactFatesOfx0
import Derived.Test.YtpkdbkheggfkkaaPFnExactFatesOfx1
import Derived.Test.YtpkdbkheggfkkaaPFnExactFatesOfx2
import Derived.Test.YtpkdbkheggfkkaaPFnExactFatesOfx3
import Derived.Test.YtpkdbkheggfkkaaPFnExactFatesOfx4
import Derived.Test.YtpkdbkheggfkkaaPFnExactFatesOfx5
import Derived.Test.YtpkdbkheggfkkaaPFnExactFatesOfx6
import Derived.Test.YtpkdbkheggfkkaaPFnExactFatesOfx7
import Derived.Test.YtpkdbkheggfkkaaPFnExactFatesOfx8
import Derived.Test.YtpkdbkheggfkkaaPFnExactFatesOfx9
namespace Go.Proofs.Ytpkdbkheggfkkaa.PFnExactFatesOf
open Go.RowKit Go.Proofs.YtpkdbkheggfkkaaW.PrintWords Go.Proofs.YtpkdbkheggfkkaaW.PrintLast Go.Proofs.YtpkdbkheggfkkaaW.PrintMore
attribute [local go_sem] max2_int min2_int max_two min_two max_three min_three max_four min_four   -- for this text's walks alone
set_option linter.unusedVariables false
set_option linter.unusedSimpArgs false

end Go.Proofs.Ytpkdbkheggfkkaa.PFnExactFatesOf
