/- The plain statement of FnKept, and how its arguments' types are read. -/
import Derived.Test.YtbfpdakodcegjaaPFnKeptx6
import Derived.Test.YtbfpdakodcegjaaOpenFnKept
import Derived.KernelRfl
namespace Go.Proofs.Ytbfpdakodcegjaa.PFnKept
open Go.RowKit Go.Proofs.YtbfpdakodcegjaaW.PrintWords Go.Proofs.Ytbfpdakodcegjaa.Opening
/-- What is to be proved of plain values. -/
def FnKeptLaw : Prop := ∀ (l0 : List (Int)), l0.length ≤ 9223372036854775807 → (∀ y ∈ l0, (Lit.int .u8 y).wf = true) → ∃ k, laws_FnKept.f k l0 = some true
end Go.Proofs.Ytbfpdakodcegjaa.PFnKept
