/- The plain statement of FnFates, and how its arguments' types are read. -/
import Derived.Test.YtfoallhhdilgjaaPFnFatesx11
import Derived.Test.YtfoallhhdilgjaaOpenFnFates
import Derived.KernelRfl
namespace Go.Proofs.Ytfoallhhdilgjaa.PFnFates
open Go.RowKit Go.Proofs.YtfoallhhdilgjaaW.PrintWords Go.Proofs.Ytfoallhhdilgjaa.Opening
/-- What is to be proved of plain values. -/
def FnFatesLaw : Prop := ∀ (l0 : List (Int)), l0.length ≤ 9223372036854775807 → (∀ y ∈ l0, (Lit.int .u8 y).wf = true) → ∃ k, laws_FnFates.f k l0 = some true
end Go.Proofs.Ytfoallhhdilgjaa.PFnFates
