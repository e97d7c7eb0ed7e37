/- Walks of functions that FnExactAreBids reaches: written by a tool of the kit for this claim, with contracts of ours for the functions that it does not take. -/
import Derived.Test.YtoemmbagjjjimaaPFnExactAreBidsx0
import Derived.Test.YtoemmbagjjjimaaPFnExactAreBidsx1
import Derived.Test.YtoemmbagjjjimaaPFnExactAreBidsx2
namespace Go.Proofs.Ytoemmbagjjjimaa.PFnExactAreBids
open Go.RowKit Go.Proofs.YtoemmbagjjjimaaW.PrintWords Go.Proofs.YtoemmbagjjjimaaW.PrintLast Go.Proofs.YtoemmbagjjjimaaW.PrintMore
attribute [local go_sem] max2_int min2_int max_two min_two max_three min_three max_four min_four   -- for this text's walks alone
set_option linter.unusedVariables false
set_option linter.unusedSimpArgs false

end Go.Proofs.Ytoemmbagjjjimaa.PFnExactAreBids
