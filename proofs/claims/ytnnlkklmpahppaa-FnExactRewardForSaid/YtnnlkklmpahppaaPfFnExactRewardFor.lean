/- The plain part of FnExactRewardFor: what the printed functions come to, and that the law's answer is true. No conditions beyond those of the statement. -/
import Derived.Test.YtnnlkklmpahppaaPFnExactRewardForx
import Derived.Test.YtnnlkklmpahppaaBase
import Derived.Test.YtnnlkklmpahppaaDefFnExactRewardFor
namespace Go.Proofs.Ytnnlkklmpahppaa.PFnExactRewardFor
open Go.RowKit Go.Proofs.YtnnlkklmpahppaaW.PrintWords Go.Proofs.YtnnlkklmpahppaaW.PrintMore Go.Proofs.Ytnnlkklmpahppaa.Base
set_option linter.unusedVariables false
set_option linter.unusedSimpArgs false

/-! spec_l1In -/
theorem spec_l1In_eq (a b c : Int) : spec_l1In.f a b c = some (inr a b c) := by
  unfold spec_l1In.f inr
  by_cases h : b ≤ a <;> simp [h]

/-! spec_IsThing -/
theorem spec_IsThing_eq (a b c d e : Int) : spec_IsThing.f a b c d e = some (isThing a b c d e) := by
  simp only [spec_IsThing.f, spec_l1In_eq, Option.bind_some, ite_and, isThing]

/-! spec_Min -/
theorem spec_Min_eq (a b : Int) : spec_Min.f a b = some (if b < a then b else a) := by
  simp only [spec_Min.f, ite_some]

/-! impl_InRange -/
theorem impl_InRange_eq (a b c : Int) : impl_InRange.f a b c = some (inr a b c) := by
  unfold impl_InRange.f inr
  by_cases h : b ≤ a <;> simp [h]

/-! impl_IsThing -/
theorem impl_IsThing_eq (a b c d e : Int) : impl_IsThing.f a b c d e = some (isThing a b c d e) := by
  simp only [impl_IsThing.f, impl_InRange_eq, Option.bind_some, ite_and, isThing]

/-! the law -/
theorem Pf.FnExactRewardFor : FnExactRewardForLaw := by
  intro y _
  simp only [laws_FnExactRewardFor.f, laws_toThing.f, Option.bind_some, spec_RewardFor.f, impl_RewardFor.f, spec_IsThing_eq, impl_IsThing_eq, spec_Min_eq]
  by_cases h1 : isThing y.f0 y.f1 y.f2 y.f3 y.f4 = true
  · simp only [h1, if_true, Option.bind_some]
    simp only [isThing, Bool.and_eq_true, inr_iff] at h1
    have e1 : mn y.f4 50000 = if y.f4 < 50000 then y.f4 else 50000 := by unfold mn; split <;> split <;> omega
    have e2 : wrap64 (y.f4 - 50000) = y.f4 - 50000 := w64 (by omega) (by omega)
    have e3 : mx 0 (y.f4 - 50000) = y.f4 - (if y.f4 < 50000 then y.f4 else 50000) := by unfold mx; split <;> split <;> omega
    rw [e1, e2, e3, w64 (x := y.f4 - _) (by split <;> omega) (by split <;> omega)]
    rw [if_pos rfl]
  · simp only [h1]
    simp

end Go.Proofs.Ytnnlkklmpahppaa.PFnExactRewardFor
