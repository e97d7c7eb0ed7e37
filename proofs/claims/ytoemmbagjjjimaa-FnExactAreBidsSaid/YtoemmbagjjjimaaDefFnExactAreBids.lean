/- The plain statement of FnExactAreBids, and how its arguments' types are read. -/
import Derived.Test.YtoemmbagjjjimaaPFnExactAreBidsx2
import Derived.Test.YtoemmbagjjjimaaOpen
import Derived.KernelRfl
namespace Go.Proofs.Ytoemmbagjjjimaa.PFnExactAreBids
open Go.RowKit Go.Proofs.YtoemmbagjjjimaaW.PrintWords Go.Proofs.Ytoemmbagjjjimaa.Opening
def Q104 (x : S104) : Prop := (Lit.int .i64 x.f0).wf = true ∧ (Lit.int .i64 x.f1).wf = true ∧ (Lit.int .i64 x.f2).wf = true
theorem opens104 : Opens Try.prog 104 k104 Q104 :=
  opens_iso _ (fun p => ⟨p.1, p.2.1, p.2.2⟩) (fun _ => rfl) (opens_struct Try.underlying104 (by kernel_rfl) (opensF_cons rfl (opens_int Try.underlying3 (by kernel_rfl)) (opensF_cons rfl (opens_int Try.underlying3 (by kernel_rfl)) (opensF_one rfl (opens_int Try.underlying3 (by kernel_rfl))))))
theorem o104 {w : World} {x : S104} {cs : List Value} (h : k104.K w x cs) : cs = [.int .i64 x.f0, .int .i64 x.f1, .int .i64 x.f2] := by
  obtain ⟨_, _, rfl, rfl, ⟨_, _, rfl, rfl, rfl⟩⟩ := h
  exact rfl
/-- What is to be proved of plain values. -/
def FnExactAreBidsLaw : Prop := ∀ (l0 : List (S104)), l0.length ≤ 9223372036854775807 → (∀ y ∈ l0, (Q104 y)) → ∃ k, laws_FnExactAreBids.f k l0 = some true
end Go.Proofs.Ytoemmbagjjjimaa.PFnExactAreBids
