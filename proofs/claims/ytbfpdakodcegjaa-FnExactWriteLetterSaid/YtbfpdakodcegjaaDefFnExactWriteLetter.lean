/- The plain statement of FnExactWriteLetter, and how its arguments' types are read. -/
import Derived.Test.YtbfpdakodcegjaaPFnExactWriteLetterx6
import Derived.Test.YtbfpdakodcegjaaOpen
import Derived.KernelRfl
namespace Go.Proofs.Ytbfpdakodcegjaa.PFnExactWriteLetter
open Go.RowKit Go.Proofs.YtbfpdakodcegjaaW.PrintWords Go.Proofs.Ytbfpdakodcegjaa.Opening
def Q116 (x : S116) : Prop := (Lit.int .i64 x.f0).wf = true ∧ (Lit.int .i64 x.f1).wf = true ∧ (Lit.int .i64 x.f2).wf = true
theorem opens116 : Opens Try.prog 116 k116 Q116 :=
  opens_iso _ (fun p => ⟨p.1, p.2.1, p.2.2⟩) (fun _ => rfl) (opens_struct Try.underlying116 (by kernel_rfl) (opensF_cons rfl (opens_int Try.underlying3 (by kernel_rfl)) (opensF_cons rfl (opens_int Try.underlying3 (by kernel_rfl)) (opensF_one rfl (opens_int Try.underlying3 (by kernel_rfl))))))
theorem o116 {w : World} {x : S116} {cs : List Value} (h : k116.K w x cs) : cs = [.int .i64 x.f0, .int .i64 x.f1, .int .i64 x.f2] := by
  obtain ⟨_, _, rfl, rfl, ⟨_, _, rfl, rfl, rfl⟩⟩ := h
  exact rfl
/-- What is to be proved of plain values. -/
def FnExactWriteLetterLaw : Prop := ∀ (l0 : List (S116)) (a1 : Int) (a2 : Int) (a3 : Int), l0.length ≤ 9223372036854775807 → (∀ y ∈ l0, (Q116 y)) → (Lit.int .i64 a1).wf = true → (Lit.int .i64 a2).wf = true → (Lit.int .i64 a3).wf = true → ∃ k, laws_FnExactWriteLetter.f k l0 a1 a2 a3 = some true
end Go.Proofs.Ytbfpdakodcegjaa.PFnExactWriteLetter
