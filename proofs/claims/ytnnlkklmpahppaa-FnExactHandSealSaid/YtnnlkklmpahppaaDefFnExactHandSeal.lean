/- The plain statement of FnExactHandSeal, and how its arguments' types are read. -/
import Derived.Test.YtnnlkklmpahppaaPFnExactHandSealx1
import Derived.Test.YtnnlkklmpahppaaOpen
import Derived.KernelRfl
namespace Go.Proofs.Ytnnlkklmpahppaa.PFnExactHandSeal
open Go.RowKit Go.Proofs.YtnnlkklmpahppaaW.PrintWords Go.Proofs.Ytnnlkklmpahppaa.Opening
structure S41 where
  f0 : Int
  f1 : Int
  f2 : Int
  f3 : Int
  f4 : Int
def k41 : Kd S41 := Kd.iso (Kd.pair (Kd.int .i64) (Kd.pair (Kd.int .i64) (Kd.pair (Kd.int .i64) (Kd.pair (Kd.int .i64) (Kd.int .i64))))) (fun x : S41 => (x.f0, x.f1, x.f2, x.f3, x.f4))
def Q41 (x : S41) : Prop := (Lit.int .i64 x.f0).wf = true ∧ (Lit.int .i64 x.f1).wf = true ∧ (Lit.int .i64 x.f2).wf = true ∧ (Lit.int .i64 x.f3).wf = true ∧ (Lit.int .i64 x.f4).wf = true
theorem opens41 : Opens Try.prog 41 k41 Q41 :=
  opens_iso _ (fun p => ⟨p.1, p.2.1, p.2.2.1, p.2.2.2.1, p.2.2.2.2⟩) (fun _ => rfl) (opens_struct Try.underlying41 (by kernel_rfl) (opensF_cons rfl (opens_int Try.underlying3 (by kernel_rfl)) (opensF_cons rfl (opens_int Try.underlying3 (by kernel_rfl)) (opensF_cons rfl (opens_int Try.underlying3 (by kernel_rfl)) (opensF_cons rfl (opens_int Try.underlying3 (by kernel_rfl)) (opensF_one rfl (opens_int Try.underlying3 (by kernel_rfl))))))))
theorem o41 {w : World} {x : S41} {cs : List Value} (h : k41.K w x cs) : cs = [.int .i64 x.f0, .int .i64 x.f1, .int .i64 x.f2, .int .i64 x.f3, .int .i64 x.f4] := by
  obtain ⟨_, _, rfl, rfl, ⟨_, _, rfl, rfl, ⟨_, _, rfl, rfl, ⟨_, _, rfl, rfl, rfl⟩⟩⟩⟩ := h
  exact rfl
/-- What is to be proved of plain values. -/
def FnExactHandSealLaw : Prop := ∀ (a0 : Int) (y1 : S41), (Lit.int .i64 a0).wf = true → (Q41 y1) → ∃ k, laws_FnExactHandSeal.f k a0 y1.f0 y1.f1 y1.f2 y1.f3 y1.f4 = some true
end Go.Proofs.Ytnnlkklmpahppaa.PFnExactHandSeal
