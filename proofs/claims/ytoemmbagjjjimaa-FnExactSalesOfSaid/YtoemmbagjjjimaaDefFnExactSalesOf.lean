/- The plain statement of FnExactSalesOf, and how its arguments' types are read. -/
import Derived.Test.YtoemmbagjjjimaaPFnExactSalesOfx4
import Derived.Test.YtoemmbagjjjimaaOpen
import Derived.KernelRfl
namespace Go.Proofs.Ytoemmbagjjjimaa.PFnExactSalesOf
open Go.RowKit Go.Proofs.YtoemmbagjjjimaaW.PrintWords Go.Proofs.Ytoemmbagjjjimaa.Opening
/-- What is to be proved of plain values. -/
def FnExactSalesOfLaw : Prop := ∀ (a0 : Int) (a1 : Int), (Lit.int .i64 a0).wf = true → (Lit.int .i64 a1).wf = true → ∃ k, laws_FnExactSalesOf.f k a0 a1 = some true
end Go.Proofs.Ytoemmbagjjjimaa.PFnExactSalesOf
