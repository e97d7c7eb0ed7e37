/- The plain statement of FnExactSplitMoney, and how its arguments' types are read. -/
import Derived.Test.YtoemmbagjjjimaaPFnExactSplitMoneyx3
import Derived.Test.YtoemmbagjjjimaaOpen
import Derived.KernelRfl
namespace Go.Proofs.Ytoemmbagjjjimaa.PFnExactSplitMoney
open Go.RowKit Go.Proofs.YtoemmbagjjjimaaW.PrintWords Go.Proofs.Ytoemmbagjjjimaa.Opening
/-- What is to be proved of plain values. -/
def FnExactSplitMoneyLaw : Prop := ∀ (a0 : Int) (l1 : List (Int)), (Lit.int .i64 a0).wf = true → l1.length ≤ 9223372036854775807 → (∀ y ∈ l1, (Lit.int .i64 y).wf = true) → ∃ k, laws_FnExactSplitMoney.f k a0 l1 = some true
end Go.Proofs.Ytoemmbagjjjimaa.PFnExactSplitMoney
