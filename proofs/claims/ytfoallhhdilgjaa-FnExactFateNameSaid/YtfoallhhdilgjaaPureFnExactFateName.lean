/- The plain part of FnExactFateName: what the printed functions come to, and that the law's answer is true. No conditions beyond those of the statement. -/
import Derived.Test.YtfoallhhdilgjaaPFnExactFateNamex
import Derived.Test.YtfoallhhdilgjaaBase
namespace Go.Proofs.Ytfoallhhdilgjaa.PFnExactFateName
open Go.RowKit Go.Proofs.YtfoallhhdilgjaaW.PrintWords Go.Proofs.YtfoallhhdilgjaaW.PrintMore Go.Proofs.Ytfoallhhdilgjaa.Base
set_option linter.unusedVariables false
set_option linter.unusedSimpArgs false

/-! spec_l1In -/
theorem spec_l1In_eq (a b c : Int) : spec_l1In.f a b c = some (inr a b c) := by
  unfold spec_l1In.f inr
  by_cases h : b ≤ a <;> simp [h]

/-! fateName -/
def fateText (a : Int) : ByteArray := if a < 0 then ⟨#[]⟩ else if a ≥ 6 then ⟨#[]⟩ else rdOf ByteArray.empty fateNames a

/-! spec_FateName -/
theorem spec_FateName_eq (a : Int) : spec_FateName.f a = some (fateText a) := by
  unfold spec_FateName.f fateText
  rw [spec_l1In_eq, Option.bind_some]
  cases h : inr a 0 5 with
  | false =>
    have h' : ¬ (0 ≤ a ∧ a ≤ 5) := fun q => by rw [(inr_iff a 0 5).2 q] at h; cases h
    simp only [Bool.false_eq_true, if_false]
    by_cases h0 : a < 0
    · rw [if_pos h0]
    · rw [if_neg h0, if_pos (by omega)]
  | true =>
    have h' := (inr_iff a 0 5).1 h
    simp only [if_true, Option.bind_some, if_pos h'.1]
    rw [if_pos (by simp; omega), if_neg (by omega), if_neg (by omega)]
    rfl

/-! impl_FateName -/
theorem impl_FateName_eq (a : Int) : impl_FateName.f a = some (fateText a) := rfl

/-! the law -/
theorem Pf.FnExactFateName : laws_FnExactFateName.Pure := by
  intro a _
  simp only [laws_FnExactFateName.f, spec_FateName_eq, impl_FateName_eq, Option.bind_some, if_true]

end Go.Proofs.Ytfoallhhdilgjaa.PFnExactFateName
namespace Go.Proofs.Ytfoallhhdilgjaa.Pure
theorem FnExactFateName : PFnExactFateName.laws_FnExactFateName.Pure := PFnExactFateName.Pf.FnExactFateName
end Go.Proofs.Ytfoallhhdilgjaa.Pure
