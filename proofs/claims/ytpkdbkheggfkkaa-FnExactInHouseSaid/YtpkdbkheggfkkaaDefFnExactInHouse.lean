/- The plain statement of FnExactInHouse, and how its arguments' types are read. -/
import Derived.Test.YtpkdbkheggfkkaaPFnExactInHousex8
import Derived.Test.YtpkdbkheggfkkaaOpenFnExactInHouse
import Derived.KernelRfl
namespace Go.Proofs.Ytpkdbkheggfkkaa.PFnExactInHouse
open Go.RowKit Go.Proofs.YtpkdbkheggfkkaaW.PrintWords Go.Proofs.Ytpkdbkheggfkkaa.Opening
def Q150 (x : S150) : Prop := (Lit.int .i64 x.f0).wf = true ∧ (Lit.int .i64 x.f1).wf = true ∧ (Lit.int .i64 x.f2).wf = true ∧ (Lit.int .i64 x.f3).wf = true ∧ (Lit.int .i64 x.f4).wf = true
theorem opens150 : Opens Try.prog 150 k150 Q150 :=
  opens_iso _ (fun p => ⟨p.1, p.2.1, p.2.2.1, p.2.2.2.1, p.2.2.2.2⟩) (fun _ => rfl) (opens_struct Try.underlying150 (by kernel_rfl) (opensF_cons rfl (opens_int Try.underlying3 (by kernel_rfl)) (opensF_cons rfl (opens_int Try.underlying3 (by kernel_rfl)) (opensF_cons rfl (opens_int Try.underlying3 (by kernel_rfl)) (opensF_cons rfl (opens_int Try.underlying3 (by kernel_rfl)) (opensF_one rfl (opens_int Try.underlying3 (by kernel_rfl))))))))
theorem o150 {w : World} {x : S150} {cs : List Value} (h : k150.K w x cs) : cs = [.int .i64 x.f0, .int .i64 x.f1, .int .i64 x.f2, .int .i64 x.f3, .int .i64 x.f4] := by
  obtain ⟨_, _, rfl, rfl, ⟨_, _, rfl, rfl, ⟨_, _, rfl, rfl, ⟨_, _, rfl, rfl, rfl⟩⟩⟩⟩ := h
  exact rfl
/-- What is to be proved of plain values. -/
def FnExactInHouseLaw : Prop := ∀ (l0 : List (S150)) (a1 : Int), l0.length ≤ 9223372036854775807 → (∀ y ∈ l0, (Q150 y)) → (Lit.int .i64 a1).wf = true → ∃ k, laws_FnExactInHouse.f k l0 a1 = some true
end Go.Proofs.Ytpkdbkheggfkkaa.PFnExactInHouse
