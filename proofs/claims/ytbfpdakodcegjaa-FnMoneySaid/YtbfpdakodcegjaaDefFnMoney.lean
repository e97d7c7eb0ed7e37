/- The plain statement of FnMoney, and how its arguments' types are read. -/
import Derived.Test.YtbfpdakodcegjaaPFnMoneyx5
import Derived.Test.YtbfpdakodcegjaaOpen
import Derived.KernelRfl
namespace Go.Proofs.Ytbfpdakodcegjaa.PFnMoney
open Go.RowKit Go.Proofs.YtbfpdakodcegjaaW.PrintWords Go.Proofs.Ytbfpdakodcegjaa.Opening
/-- What is to be proved of plain values. -/
def FnMoneyLaw : Prop := ∀ (l0 : List (Int)), l0.length ≤ 9223372036854775807 → (∀ y ∈ l0, (Lit.int .u8 y).wf = true) → ∃ k, laws_FnMoney.f k l0 = some true
end Go.Proofs.Ytbfpdakodcegjaa.PFnMoney
