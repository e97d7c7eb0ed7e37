/- The plain statement of FnAuctions, and how its arguments' types are read. -/
import Derived.Test.YtpkdbkheggfkkaaPFnAuctionsx5
import Derived.Test.YtpkdbkheggfkkaaOpen
import Derived.KernelRfl
namespace Go.Proofs.Ytpkdbkheggfkkaa.PFnAuctions
open Go.RowKit Go.Proofs.YtpkdbkheggfkkaaW.PrintWords Go.Proofs.Ytpkdbkheggfkkaa.Opening
/-- What is to be proved of plain values. -/
def FnAuctionsLaw : Prop := ∀ (l0 : List (Int)), l0.length ≤ 9223372036854775807 → (∀ y ∈ l0, (Lit.int .u8 y).wf = true) → ∃ k, laws_FnAuctions.f k l0 = some true
end Go.Proofs.Ytpkdbkheggfkkaa.PFnAuctions
