/- The plain statement of FnExactCountFate, and how its arguments' types are read. -/
import Derived.Test.YtnnlkklmpahppaaPFnExactCountFatex1
import Derived.Test.YtnnlkklmpahppaaOpen
import Derived.KernelRfl
namespace Go.Proofs.Ytnnlkklmpahppaa.PFnExactCountFate
open Go.RowKit Go.Proofs.YtnnlkklmpahppaaW.PrintWords Go.Proofs.Ytnnlkklmpahppaa.Opening
/-- What is to be proved of plain values. -/
def FnExactCountFateLaw : Prop := ∀ (l0 : List (Int)) (a1 : Int), l0.length ≤ 9223372036854775807 → (∀ y ∈ l0, (Lit.int .i64 y).wf = true) → (Lit.int .i64 a1).wf = true → ∃ k, laws_FnExactCountFate.f k l0 a1 = some true
end Go.Proofs.Ytnnlkklmpahppaa.PFnExactCountFate
