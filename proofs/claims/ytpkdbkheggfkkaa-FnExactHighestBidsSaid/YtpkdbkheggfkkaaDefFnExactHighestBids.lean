/- The plain statement of FnExactHighestBids, and how its arguments' types are read. -/
import Derived.Test.YtpkdbkheggfkkaaPFnExactHighestBidsx6
import Derived.Test.YtpkdbkheggfkkaaOpen
import Derived.KernelRfl
namespace Go.Proofs.Ytpkdbkheggfkkaa.PFnExactHighestBids
open Go.RowKit Go.Proofs.YtpkdbkheggfkkaaW.PrintWords Go.Proofs.Ytpkdbkheggfkkaa.Opening
def Q120 (x : S120) : Prop := (Lit.int .i64 x.f0).wf = true ∧ (Lit.int .i64 x.f1).wf = true ∧ (Lit.int .i64 x.f2).wf = true
theorem opens120 : Opens Try.prog 120 k120 Q120 :=
  opens_iso _ (fun p => ⟨p.1, p.2.1, p.2.2⟩) (fun _ => rfl) (opens_struct Try.underlying120 (by kernel_rfl) (opensF_cons rfl (opens_int Try.underlying3 (by kernel_rfl)) (opensF_cons rfl (opens_int Try.underlying3 (by kernel_rfl)) (opensF_one rfl (opens_int Try.underlying3 (by kernel_rfl))))))
theorem o120 {w : World} {x : S120} {cs : List Value} (h : k120.K w x cs) : cs = [.int .i64 x.f0, .int .i64 x.f1, .int .i64 x.f2] := by
  obtain ⟨_, _, rfl, rfl, ⟨_, _, rfl, rfl, rfl⟩⟩ := h
  exact rfl
/-- What is to be proved of plain values. -/
def FnExactHighestBidsLaw : Prop := ∀ (l0 : List (S120)) (a1 : Int), l0.length ≤ 9223372036854775807 → (∀ y ∈ l0, (Q120 y)) → (Lit.int .i64 a1).wf = true → ∃ k, laws_FnExactHighestBids.f k l0 a1 = some true
end Go.Proofs.Ytpkdbkheggfkkaa.PFnExactHighestBids
