/- The plain statement of FnLetters, and how its arguments' types are read. -/
import Derived.Test.YtpkdbkheggfkkaaPFnLettersx16
import Derived.Test.YtpkdbkheggfkkaaOpenFnLetters
import Derived.KernelRfl
namespace Go.Proofs.Ytpkdbkheggfkkaa.PFnLetters
open Go.RowKit Go.Proofs.YtpkdbkheggfkkaaW.PrintWords Go.Proofs.Ytpkdbkheggfkkaa.Opening
/-- What is to be proved of plain values. -/
def FnLettersLaw : Prop := ∀ (l0 : List (Int)), l0.length ≤ 9223372036854775807 → (∀ y ∈ l0, (Lit.int .u8 y).wf = true) → ∃ k, laws_FnLetters.f k l0 = some true
end Go.Proofs.Ytpkdbkheggfkkaa.PFnLetters
