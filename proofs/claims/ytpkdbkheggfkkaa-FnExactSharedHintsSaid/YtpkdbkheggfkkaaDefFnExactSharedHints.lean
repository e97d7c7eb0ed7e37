/- The plain statement of FnExactSharedHints, and how its arguments' types are read. -/
import Derived.Test.YtpkdbkheggfkkaaPFnExactSharedHintsx3
import Derived.Test.YtpkdbkheggfkkaaOpen
import Derived.KernelRfl
namespace Go.Proofs.Ytpkdbkheggfkkaa.PFnExactSharedHints
open Go.RowKit Go.Proofs.YtpkdbkheggfkkaaW.PrintWords Go.Proofs.Ytpkdbkheggfkkaa.Opening
/-- What is to be proved of plain values. -/
def FnExactSharedHintsLaw : Prop := ∀ (l0 : List (Int)) (l1 : List (Int)), l0.length ≤ 9223372036854775807 → (∀ y ∈ l0, (Lit.int .i64 y).wf = true) → l1.length ≤ 9223372036854775807 → (∀ y ∈ l1, (Lit.int .i64 y).wf = true) → ∃ k, laws_FnExactSharedHints.f k l0 l1 = some true
end Go.Proofs.Ytpkdbkheggfkkaa.PFnExactSharedHints
