/- The plain statement of FnExactSendAll, and how its arguments' types are read. -/
import Derived.Test.YtejhjenlodclpaaPFnExactSendAllx16
import Derived.Test.YtejhjenlodclpaaOpenFnExactSendAll
import Derived.KernelRfl
namespace Go.Proofs.Ytejhjenlodclpaa.PFnExactSendAll
open Go.RowKit Go.Proofs.YtejhjenlodclpaaW.PrintWords Go.Proofs.Ytejhjenlodclpaa.Opening
def Q145 (x : S145) : Prop := (Lit.int .i64 x.f0).wf = true ∧ (Lit.int .i64 x.f1).wf = true ∧ (Lit.int .i64 x.f2).wf = true ∧ (Lit.int .i64 x.f3).wf = true ∧ (Lit.int .i64 x.f4).wf = true
theorem opens145 : Opens Try.prog 145 k145 Q145 :=
  opens_iso _ (fun p => ⟨p.1, p.2.1, p.2.2.1, p.2.2.2.1, p.2.2.2.2⟩) (fun _ => rfl) (opens_struct Try.underlying145 (by kernel_rfl) (opensF_cons rfl (opens_int Try.underlying3 (by kernel_rfl)) (opensF_cons rfl (opens_int Try.underlying3 (by kernel_rfl)) (opensF_cons rfl (opens_int Try.underlying3 (by kernel_rfl)) (opensF_cons rfl (opens_int Try.underlying3 (by kernel_rfl)) (opensF_one rfl (opens_int Try.underlying3 (by kernel_rfl))))))))
theorem o145 {w : World} {x : S145} {cs : List Value} (h : k145.K w x cs) : cs = [.int .i64 x.f0, .int .i64 x.f1, .int .i64 x.f2, .int .i64 x.f3, .int .i64 x.f4] := by
  obtain ⟨_, _, rfl, rfl, ⟨_, _, rfl, rfl, ⟨_, _, rfl, rfl, ⟨_, _, rfl, rfl, rfl⟩⟩⟩⟩ := h
  exact rfl
def Q74 (x : S74) : Prop := (Lit.int .i64 x.f0).wf = true ∧ (Lit.int .i64 x.f1).wf = true ∧ (x.f2.length ≤ 9223372036854775807 ∧ ∀ y ∈ x.f2, (Lit.int .i64 y).wf = true) ∧ (Lit.int .i64 x.f3).wf = true
theorem opens74 : Opens Try.prog 74 k74 Q74 :=
  opens_iso _ (fun p => ⟨p.1, p.2.1, p.2.2.1, p.2.2.2⟩) (fun _ => rfl) (opens_struct Try.underlying74 (by kernel_rfl) (opensF_cons rfl (opens_int Try.underlying3 (by kernel_rfl)) (opensF_cons rfl (opens_int Try.underlying3 (by kernel_rfl)) (opensF_cons rfl (opens_slice Try.underlying24 (by kernel_rfl) (opens_int Try.underlying3 (by kernel_rfl))) (opensF_one rfl (opens_int Try.underlying3 (by kernel_rfl)))))))
theorem o74 {w : World} {x : S74} {cs : List Value} (h : k74.K w x cs) : ∃ (A2 : Option Addr) (c2 : Nat), cs = [.int .i64 x.f0, .int .i64 x.f1, .slice A2 x.f2.length c2, .int .i64 x.f3] ∧ x.f2.length ≤ c2 ∧ Kd.C (Kd.int .i64) w A2 x.f2.length x.f2 := by
  obtain ⟨_, _, rfl, rfl, ⟨_, _, rfl, rfl, ⟨_, _, rfl, h2, rfl⟩⟩⟩ := h
  obtain ⟨A2, c2, rfl, hl2, hC2⟩ := h2
  exact ⟨A2, c2, rfl, hl2, hC2⟩
/-- What is to be proved of plain values. -/
def FnExactSendAllLaw : Prop := ∀ (l0 : List (S145)) (l1 : List (S74)), l0.length ≤ 9223372036854775807 → (∀ y ∈ l0, (Q145 y)) → l1.length ≤ 9223372036854775807 → (∀ y ∈ l1, (Q74 y)) → ∃ k, laws_FnExactSendAll.f k l0 l1 = some true
end Go.Proofs.Ytejhjenlodclpaa.PFnExactSendAll
