/- The plain part of FnExactFeeFor: what the printed functions come to, and that the law's answer is true. No conditions beyond those of the statement. -/
import Derived.Test.YtnnlkklmpahppaaPFnExactFeeForx
import Derived.Test.YtnnlkklmpahppaaBase
import Derived.Test.YtnnlkklmpahppaaDefFnExactFeeFor
namespace Go.Proofs.Ytnnlkklmpahppaa.PFnExactFeeFor
open Go.RowKit Go.Proofs.YtnnlkklmpahppaaW.PrintWords Go.Proofs.YtnnlkklmpahppaaW.PrintMore Go.Proofs.Ytnnlkklmpahppaa.Base
set_option linter.unusedVariables false
set_option linter.unusedSimpArgs false

/-! spec_l1In -/
theorem spec_l1In_eq (a b c : Int) : spec_l1In.f a b c = some (inr a b c) := by
  unfold spec_l1In.f inr
  by_cases h : b ≤ a <;> simp [h]

/-! spec_IsThing -/
theorem spec_IsThing_eq (a b c d e : Int) : spec_IsThing.f a b c d e = some (isThing a b c d e) := by
  simp only [spec_IsThing.f, spec_l1In_eq, Option.bind_some, ite_and, isThing]

/-! spec_Min -/
theorem spec_Min_eq (a b : Int) : spec_Min.f a b = some (if b < a then b else a) := by
  simp only [spec_Min.f, ite_some]

/-! impl_InRange -/
theorem impl_InRange_eq (a b c : Int) : impl_InRange.f a b c = some (inr a b c) := by
  unfold impl_InRange.f inr
  by_cases h : b ≤ a <;> simp [h]

/-! impl_IsThing -/
theorem impl_IsThing_eq (a b c d e : Int) : impl_IsThing.f a b c d e = some (isThing a b c d e) := by
  simp only [impl_IsThing.f, impl_InRange_eq, Option.bind_some, ite_and, isThing]

/-! the law -/
theorem Pf.FnExactFeeFor : FnExactFeeForLaw := by
  intro y a _ _
  simp only [laws_FnExactFeeFor.f, laws_toThing.f, Option.bind_some, spec_FeeFor.f, impl_FeeFor.f, spec_IsThing_eq, impl_IsThing_eq, spec_l1In_eq, impl_InRange_eq, spec_Min_eq]
  by_cases h1 : isThing y.f0 y.f1 y.f2 y.f3 y.f4 = true
  · by_cases h2 : inr a 0 1000 = true
    · simp only [h1, h2, if_true, Option.bind_some]
      have ha := (inr_iff _ _ _).1 h2
      simp only [isThing, Bool.and_eq_true, inr_iff] at h1
      have e : Int.tdiv y.f4 10 = y.f4 / 10 := Int.tdiv_eq_ediv_of_nonneg (by omega)
      rw [w64 (x := 10 * a) (by omega) (by omega), w64 (x := 100 + 10 * a) (by omega) (by omega), e, w64 (x := y.f4 / 10) (by omega) (by omega)]
      rw [if_pos]
      unfold mx mn
      split <;> split <;> omega
    · simp only [h1, h2, if_true]
      simp
  · simp only [h1]
    simp

end Go.Proofs.Ytnnlkklmpahppaa.PFnExactFeeFor
