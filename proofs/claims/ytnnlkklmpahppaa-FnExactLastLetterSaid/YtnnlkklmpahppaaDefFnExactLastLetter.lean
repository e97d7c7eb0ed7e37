/- The plain statement of FnExactLastLetter, and how its arguments' types are read. -/
import Derived.Test.YtnnlkklmpahppaaPFnExactLastLetterx2
import Derived.Test.YtnnlkklmpahppaaOpen
import Derived.KernelRfl
namespace Go.Proofs.Ytnnlkklmpahppaa.PFnExactLastLetter
open Go.RowKit Go.Proofs.YtnnlkklmpahppaaW.PrintWords Go.Proofs.Ytnnlkklmpahppaa.Opening
def Q76 (x : S76) : Prop := (Lit.int .i64 x.f0).wf = true ∧ (Lit.int .i64 x.f1).wf = true ∧ (Lit.int .i64 x.f2).wf = true
theorem opens76 : Opens Try.prog 76 k76 Q76 :=
  opens_iso _ (fun p => ⟨p.1, p.2.1, p.2.2⟩) (fun _ => rfl) (opens_struct Try.underlying76 (by kernel_rfl) (opensF_cons rfl (opens_int Try.underlying3 (by kernel_rfl)) (opensF_cons rfl (opens_int Try.underlying3 (by kernel_rfl)) (opensF_one rfl (opens_int Try.underlying3 (by kernel_rfl))))))
theorem o76 {w : World} {x : S76} {cs : List Value} (h : k76.K w x cs) : cs = [.int .i64 x.f0, .int .i64 x.f1, .int .i64 x.f2] := by
  obtain ⟨_, _, rfl, rfl, ⟨_, _, rfl, rfl, rfl⟩⟩ := h
  exact rfl
/-- What is to be proved of plain values. -/
def FnExactLastLetterLaw : Prop := ∀ (l0 : List (S76)) (a1 : Int), l0.length ≤ 9223372036854775807 → (∀ y ∈ l0, (Q76 y)) → (Lit.int .i64 a1).wf = true → ∃ k, laws_FnExactLastLetter.f k l0 a1 = some true
end Go.Proofs.Ytnnlkklmpahppaa.PFnExactLastLetter
