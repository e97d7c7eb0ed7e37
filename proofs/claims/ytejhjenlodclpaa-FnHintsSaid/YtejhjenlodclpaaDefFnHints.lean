/- The plain statement of FnHints, and how its arguments' types are read. -/
import Derived.Test.YtejhjenlodclpaaPFnHintsx19
import Derived.Test.YtejhjenlodclpaaOpenFnHints
import Derived.KernelRfl
namespace Go.Proofs.Ytejhjenlodclpaa.PFnHints
open Go.RowKit Go.Proofs.YtejhjenlodclpaaW.PrintWords Go.Proofs.Ytejhjenlodclpaa.Opening
/-- What is to be proved of plain values. -/
def FnHintsLaw : Prop := ∀ (l0 : List (Int)), l0.length ≤ 9223372036854775807 → (∀ y ∈ l0, (Lit.int .u8 y).wf = true) → ∃ k, laws_FnHints.f k l0 = some true
end Go.Proofs.Ytejhjenlodclpaa.PFnHints
