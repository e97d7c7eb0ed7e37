/- The plain statement of FnCustody, and how its arguments' types are read. -/
import Derived.Test.YtpkdbkheggfkkaaPFnCustodyx10
import Derived.Test.YtpkdbkheggfkkaaOpenFnCustody
import Derived.KernelRfl
namespace Go.Proofs.Ytpkdbkheggfkkaa.PFnCustody
open Go.RowKit Go.Proofs.YtpkdbkheggfkkaaW.PrintWords Go.Proofs.Ytpkdbkheggfkkaa.Opening
/-- What is to be proved of plain values. -/
def FnCustodyLaw : Prop := ∀ (l0 : List (Int)), l0.length ≤ 9223372036854775807 → (∀ y ∈ l0, (Lit.int .u8 y).wf = true) → ∃ k, laws_FnCustody.f k l0 = some true
end Go.Proofs.Ytpkdbkheggfkkaa.PFnCustody
