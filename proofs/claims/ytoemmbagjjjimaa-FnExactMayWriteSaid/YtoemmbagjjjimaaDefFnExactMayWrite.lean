/- The plain statement of FnExactMayWrite, and how its arguments' types are read. -/
import Derived.Test.YtoemmbagjjjimaaPFnExactMayWritex5
import Derived.Test.YtoemmbagjjjimaaOpen
import Derived.KernelRfl
namespace Go.Proofs.Ytoemmbagjjjimaa.PFnExactMayWrite
open Go.RowKit Go.Proofs.YtoemmbagjjjimaaW.PrintWords Go.Proofs.Ytoemmbagjjjimaa.Opening
def Q98 (x : S98) : Prop := (Lit.int .i64 x.f0).wf = true ∧ (Lit.int .i64 x.f1).wf = true ∧ (Lit.int .i64 x.f2).wf = true
theorem opens98 : Opens Try.prog 98 k98 Q98 :=
  opens_iso _ (fun p => ⟨p.1, p.2.1, p.2.2⟩) (fun _ => rfl) (opens_struct Try.underlying98 (by kernel_rfl) (opensF_cons rfl (opens_int Try.underlying3 (by kernel_rfl)) (opensF_cons rfl (opens_int Try.underlying3 (by kernel_rfl)) (opensF_one rfl (opens_int Try.underlying3 (by kernel_rfl))))))
theorem o98 {w : World} {x : S98} {cs : List Value} (h : k98.K w x cs) : cs = [.int .i64 x.f0, .int .i64 x.f1, .int .i64 x.f2] := by
  obtain ⟨_, _, rfl, rfl, ⟨_, _, rfl, rfl, rfl⟩⟩ := h
  exact rfl
/-- What is to be proved of plain values. -/
def FnExactMayWriteLaw : Prop := ∀ (l0 : List (S98)) (a1 : Int) (a2 : Int) (a3 : Int), l0.length ≤ 9223372036854775807 → (∀ y ∈ l0, (Q98 y)) → (Lit.int .i64 a1).wf = true → (Lit.int .i64 a2).wf = true → (Lit.int .i64 a3).wf = true → ∃ k, laws_FnExactMayWrite.f k l0 a1 a2 a3 = some true
end Go.Proofs.Ytoemmbagjjjimaa.PFnExactMayWrite
