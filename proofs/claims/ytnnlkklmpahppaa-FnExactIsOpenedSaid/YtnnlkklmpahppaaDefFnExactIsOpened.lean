/- The plain statement of FnExactIsOpened, and how its arguments' types are read. -/
import Derived.Test.YtnnlkklmpahppaaPFnExactIsOpenedx2
import Derived.Test.YtnnlkklmpahppaaOpen
import Derived.KernelRfl
namespace Go.Proofs.Ytnnlkklmpahppaa.PFnExactIsOpened
open Go.RowKit Go.Proofs.YtnnlkklmpahppaaW.PrintWords Go.Proofs.Ytnnlkklmpahppaa.Opening
structure S47 where
  f0 : Int
  f1 : Int
  f2 : Int
def k47 : Kd S47 := Kd.iso (Kd.pair (Kd.int .i64) (Kd.pair (Kd.int .i64) (Kd.int .i64))) (fun x : S47 => (x.f0, x.f1, x.f2))
def Q47 (x : S47) : Prop := (Lit.int .i64 x.f0).wf = true ∧ (Lit.int .i64 x.f1).wf = true ∧ (Lit.int .i64 x.f2).wf = true
theorem opens47 : Opens Try.prog 47 k47 Q47 :=
  opens_iso _ (fun p => ⟨p.1, p.2.1, p.2.2⟩) (fun _ => rfl) (opens_struct Try.underlying47 (by kernel_rfl) (opensF_cons rfl (opens_int Try.underlying3 (by kernel_rfl)) (opensF_cons rfl (opens_int Try.underlying3 (by kernel_rfl)) (opensF_one rfl (opens_int Try.underlying3 (by kernel_rfl))))))
theorem o47 {w : World} {x : S47} {cs : List Value} (h : k47.K w x cs) : cs = [.int .i64 x.f0, .int .i64 x.f1, .int .i64 x.f2] := by
  obtain ⟨_, _, rfl, rfl, ⟨_, _, rfl, rfl, rfl⟩⟩ := h
  exact rfl
/-- What is to be proved of plain values. -/
def FnExactIsOpenedLaw : Prop := ∀ (y0 : S47) (a1 : Int), (Q47 y0) → (Lit.int .i64 a1).wf = true → ∃ k, laws_FnExactIsOpened.f k y0.f0 y0.f1 y0.f2 a1 = some true
end Go.Proofs.Ytnnlkklmpahppaa.PFnExactIsOpened
