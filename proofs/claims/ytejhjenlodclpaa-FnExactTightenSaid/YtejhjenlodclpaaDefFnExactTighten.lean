/- The plain statement of FnExactTighten, and how its arguments' types are read. -/
import Derived.Test.YtejhjenlodclpaaPFnExactTightenx17
import Derived.Test.YtejhjenlodclpaaOpenFnExactTighten
import Derived.KernelRfl
namespace Go.Proofs.Ytejhjenlodclpaa.PFnExactTighten
open Go.RowKit Go.Proofs.YtejhjenlodclpaaW.PrintWords Go.Proofs.Ytejhjenlodclpaa.Opening
def Q156 (x : S156) : Prop := (Lit.int .i64 x.f0).wf = true ∧ (Lit.int .i64 x.f1).wf = true ∧ (Lit.int .i64 x.f2).wf = true
theorem opens156 : Opens Try.prog 156 k156 Q156 :=
  opens_iso _ (fun p => ⟨p.1, p.2.1, p.2.2⟩) (fun _ => rfl) (opens_struct Try.underlying156 (by kernel_rfl) (opensF_cons rfl (opens_int Try.underlying3 (by kernel_rfl)) (opensF_cons rfl (opens_int Try.underlying3 (by kernel_rfl)) (opensF_one rfl (opens_int Try.underlying3 (by kernel_rfl))))))
theorem o156 {w : World} {x : S156} {cs : List Value} (h : k156.K w x cs) : cs = [.int .i64 x.f0, .int .i64 x.f1, .int .i64 x.f2] := by
  obtain ⟨_, _, rfl, rfl, ⟨_, _, rfl, rfl, rfl⟩⟩ := h
  exact rfl
def Q122 (x : S122) : Prop := (Lit.int .i64 x.f0).wf = true ∧ (Lit.int .i64 x.f1).wf = true ∧ (Lit.int .i64 x.f2).wf = true ∧ (Lit.int .i64 x.f3).wf = true ∧ (Lit.int .i64 x.f4).wf = true
theorem opens122 : Opens Try.prog 122 k122 Q122 :=
  opens_iso _ (fun p => ⟨p.1, p.2.1, p.2.2.1, p.2.2.2.1, p.2.2.2.2⟩) (fun _ => rfl) (opens_struct Try.underlying122 (by kernel_rfl) (opensF_cons rfl (opens_int Try.underlying3 (by kernel_rfl)) (opensF_cons rfl (opens_int Try.underlying3 (by kernel_rfl)) (opensF_cons rfl (opens_int Try.underlying3 (by kernel_rfl)) (opensF_cons rfl (opens_int Try.underlying3 (by kernel_rfl)) (opensF_one rfl (opens_int Try.underlying3 (by kernel_rfl))))))))
theorem o122 {w : World} {x : S122} {cs : List Value} (h : k122.K w x cs) : cs = [.int .i64 x.f0, .int .i64 x.f1, .int .i64 x.f2, .int .i64 x.f3, .int .i64 x.f4] := by
  obtain ⟨_, _, rfl, rfl, ⟨_, _, rfl, rfl, ⟨_, _, rfl, rfl, ⟨_, _, rfl, rfl, rfl⟩⟩⟩⟩ := h
  exact rfl
/-- What is to be proved of plain values. -/
def FnExactTightenLaw : Prop := ∀ (l0 : List (S156)) (l1 : List (S122)), l0.length ≤ 9223372036854775807 → (∀ y ∈ l0, (Q156 y)) → l1.length ≤ 9223372036854775807 → (∀ y ∈ l1, (Q122 y)) → ∃ k, laws_FnExactTighten.f k l0 l1 = some true
end Go.Proofs.Ytejhjenlodclpaa.PFnExactTighten
