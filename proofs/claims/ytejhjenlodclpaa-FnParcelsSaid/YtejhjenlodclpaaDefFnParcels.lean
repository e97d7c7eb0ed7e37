/- The plain statement of FnParcels, and how its arguments' types are read. -/
import Derived.Test.YtejhjenlodclpaaPFnParcelsx14
import Derived.Test.YtejhjenlodclpaaOpenFnParcels
import Derived.KernelRfl
namespace Go.Proofs.Ytejhjenlodclpaa.PFnParcels
open Go.RowKit Go.Proofs.YtejhjenlodclpaaW.PrintWords Go.Proofs.Ytejhjenlodclpaa.Opening
/-- What is to be proved of plain values. -/
def FnParcelsLaw : Prop := ∀ (l0 : List (Int)), l0.length ≤ 9223372036854775807 → (∀ y ∈ l0, (Lit.int .u8 y).wf = true) → ∃ k, laws_FnParcels.f k l0 = some true
end Go.Proofs.Ytejhjenlodclpaa.PFnParcels
