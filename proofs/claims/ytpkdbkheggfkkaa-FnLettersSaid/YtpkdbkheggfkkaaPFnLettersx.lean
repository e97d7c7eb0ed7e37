/- Walks of functions that FnLetters reaches, shortened. -/
import Derived.Test.YtpkdbkheggfkkaaPFnLettersx0
import Derived.Test.YtpkdbkheggfkkaaPFnLettersx1
import Derived.Test.YtpkdbkheggfkkaaPFnLettersx2
import Derived.Test.YtpkdbkheggfkkaaPFnLettersx3
import Derived.Test.YtpkdbkheggfkkaaPFnLettersx4
import Derived.Test.YtpkdbkheggfkkaaPFnLettersx5
import Derived.Test.YtpkdbkheggfkkaaPFnLettersx6
import Derived.Test.YtpkdbkheggfkkaaPFnLettersx7
import Derived.Test.YtpkdbkheggfkkaaPFnLettersx8
import Derived.Test.YtpkdbkheggfkkaaPFnLettersx9
import Derived.Test.YtpkdbkheggfkkaaPFnLettersx10
import Derived.Test.YtpkdbkheggfkkaaPFnLettersx11
import Derived.Test.YtpkdbkheggfkkaaPFnLettersx12
import Derived.Test.YtpkdbkheggfkkaaPFnLettersx13
import Derived.Test.YtpkdbkheggfkkaaPFnLettersx14
import Derived.Test.YtpkdbkheggfkkaaPFnLettersx15
import Derived.Test.YtpkdbkheggfkkaaPFnLettersx16
namespace Go.Proofs.Ytpkdbkheggfkkaa.PFnLetters
open Go.RowKit Go.Proofs.YtpkdbkheggfkkaaW.PrintWords Go.Proofs.YtpkdbkheggfkkaaW.PrintLast Go.Proofs.YtpkdbkheggfkkaaW.PrintMore
attribute [local go_sem] max2_int min2_int max_two min_two max_three min_three max_four min_four
set_option linter.unusedVariables false
set_option linter.unusedSimpArgs false

end Go.Proofs.Ytpkdbkheggfkkaa.PFnLetters
