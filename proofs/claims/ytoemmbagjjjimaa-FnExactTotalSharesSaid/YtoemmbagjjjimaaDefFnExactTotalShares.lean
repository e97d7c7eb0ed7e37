/- The plain statement of FnExactTotalShares, and how its arguments' types are read. -/
import Derived.Test.YtoemmbagjjjimaaPFnExactTotalSharesx2
import Derived.Test.YtoemmbagjjjimaaOpen
import Derived.KernelRfl
namespace Go.Proofs.Ytoemmbagjjjimaa.PFnExactTotalShares
open Go.RowKit Go.Proofs.YtoemmbagjjjimaaW.PrintWords Go.Proofs.Ytoemmbagjjjimaa.Opening
def Q89 (x : S89) : Prop := (Lit.int .i64 x.f0).wf = true ∧ (Lit.int .i64 x.f1).wf = true
theorem opens89 : Opens Try.prog 89 k89 Q89 :=
  opens_iso _ (fun p => ⟨p.1, p.2⟩) (fun _ => rfl) (opens_struct Try.underlying89 (by kernel_rfl) (opensF_cons rfl (opens_int Try.underlying3 (by kernel_rfl)) (opensF_one rfl (opens_int Try.underlying3 (by kernel_rfl)))))
theorem o89 {w : World} {x : S89} {cs : List Value} (h : k89.K w x cs) : cs = [.int .i64 x.f0, .int .i64 x.f1] := by
  obtain ⟨_, _, rfl, rfl, rfl⟩ := h
  exact rfl
/-- What is to be proved of plain values. -/
def FnExactTotalSharesLaw : Prop := ∀ (l0 : List (S89)), l0.length ≤ 9223372036854775807 → (∀ y ∈ l0, (Q89 y)) → ∃ k, laws_FnExactTotalShares.f k l0 = some true
end Go.Proofs.Ytoemmbagjjjimaa.PFnExactTotalShares
