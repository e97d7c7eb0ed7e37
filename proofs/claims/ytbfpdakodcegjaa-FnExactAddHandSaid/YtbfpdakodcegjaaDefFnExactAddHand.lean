/- The plain statement of FnExactAddHand, and how its arguments' types are read. -/
import Derived.Test.YtbfpdakodcegjaaPFnExactAddHandx9
import Derived.Test.YtbfpdakodcegjaaOpenFnExactAddHand
import Derived.KernelRfl
namespace Go.Proofs.Ytbfpdakodcegjaa.PFnExactAddHand
open Go.RowKit Go.Proofs.YtbfpdakodcegjaaW.PrintWords Go.Proofs.Ytbfpdakodcegjaa.Opening
def Q96 (x : S96) : Prop := (Lit.int .i64 x.f0).wf = true ∧ (Lit.int .i64 x.f1).wf = true ∧ (Lit.int .i64 x.f2).wf = true ∧ (Lit.int .i64 x.f3).wf = true ∧ (Lit.int .i64 x.f4).wf = true
theorem opens96 : Opens Try.prog 96 k96 Q96 :=
  opens_iso _ (fun p => ⟨p.1, p.2.1, p.2.2.1, p.2.2.2.1, p.2.2.2.2⟩) (fun _ => rfl) (opens_struct Try.underlying96 (by kernel_rfl) (opensF_cons rfl (opens_int Try.underlying3 (by kernel_rfl)) (opensF_cons rfl (opens_int Try.underlying3 (by kernel_rfl)) (opensF_cons rfl (opens_int Try.underlying3 (by kernel_rfl)) (opensF_cons rfl (opens_int Try.underlying3 (by kernel_rfl)) (opensF_one rfl (opens_int Try.underlying3 (by kernel_rfl))))))))
theorem o96 {w : World} {x : S96} {cs : List Value} (h : k96.K w x cs) : cs = [.int .i64 x.f0, .int .i64 x.f1, .int .i64 x.f2, .int .i64 x.f3, .int .i64 x.f4] := by
  obtain ⟨_, _, rfl, rfl, ⟨_, _, rfl, rfl, ⟨_, _, rfl, rfl, ⟨_, _, rfl, rfl, rfl⟩⟩⟩⟩ := h
  exact rfl
/-- What is to be proved of plain values. -/
def FnExactAddHandLaw : Prop := ∀ (l0 : List (S96)) (y1 : S96), l0.length ≤ 9223372036854775807 → (∀ y ∈ l0, (Q96 y)) → (Q96 y1) → ∃ k, laws_FnExactAddHand.f k l0 y1.f0 y1.f1 y1.f2 y1.f3 y1.f4 = some true
end Go.Proofs.Ytbfpdakodcegjaa.PFnExactAddHand
