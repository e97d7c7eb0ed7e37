/- Walks of functions that FnHints reaches, shortened. -/
import Derived.Test.YtejhjenlodclpaaPFnHintsx0
import Derived.Test.YtejhjenlodclpaaPFnHintsx1
import Derived.Test.YtejhjenlodclpaaPFnHintsx2
import Derived.Test.YtejhjenlodclpaaPFnHintsx3
import Derived.Test.YtejhjenlodclpaaPFnHintsx4
import Derived.Test.YtejhjenlodclpaaPFnHintsx5
import Derived.Test.YtejhjenlodclpaaPFnHintsx6
import Derived.Test.YtejhjenlodclpaaPFnHintsx7
import Derived.Test.YtejhjenlodclpaaPFnHintsx8
import Derived.Test.YtejhjenlodclpaaPFnHintsx9
import Derived.Test.YtejhjenlodclpaaPFnHintsx10
import Derived.Test.YtejhjenlodclpaaPFnHintsx11
import Derived.Test.YtejhjenlodclpaaPFnHintsx12
import Derived.Test.YtejhjenlodclpaaPFnHintsx13
import Derived.Test.YtejhjenlodclpaaPFnHintsx14
import Derived.Test.YtejhjenlodclpaaPFnHintsx15
import Derived.Test.YtejhjenlodclpaaPFnHintsx16
import Derived.Test.YtejhjenlodclpaaPFnHintsx17
import Derived.Test.YtejhjenlodclpaaPFnHintsx18
import Derived.Test.YtejhjenlodclpaaPFnHintsx19
namespace Go.Proofs.Ytejhjenlodclpaa.PFnHints
open Go.RowKit Go.Proofs.YtejhjenlodclpaaW.PrintWords Go.Proofs.YtejhjenlodclpaaW.PrintLast Go.Proofs.YtejhjenlodclpaaW.PrintMore
attribute [local go_sem] max2_int min2_int max_two min_two max_three min_three max_four min_four
set_option linter.unusedVariables false
set_option linter.unusedSimpArgs false

end Go.Proofs.Ytejhjenlodclpaa.PFnHints
