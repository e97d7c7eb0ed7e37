/- The plain part of FnExactDueHour: what the printed functions come to, and that the law's answer is true. No conditions beyond those of the statement. -/
import Derived.Test.YtnnlkklmpahppaaPFnExactDueHourx
import Derived.Test.YtnnlkklmpahppaaBase
import Derived.Test.YtnnlkklmpahppaaDefFnExactDueHour
namespace Go.Proofs.Ytnnlkklmpahppaa.PFnExactDueHour
open Go.RowKit Go.Proofs.YtnnlkklmpahppaaW.PrintWords Go.Proofs.YtnnlkklmpahppaaW.PrintMore Go.Proofs.Ytnnlkklmpahppaa.Base
set_option linter.unusedVariables false
set_option linter.unusedSimpArgs false

/-! spec_l1In -/
theorem spec_l1In_eq (a b c : Int) : spec_l1In.f a b c = some (inr a b c) := by
  unfold spec_l1In.f inr
  by_cases h : b ≤ a <;> simp [h]

/-! spec_KeepDays -/
theorem spec_KeepDays_eq (a : Int) : spec_KeepDays.f a = some (keepDays a) := by
  simp only [spec_KeepDays.f, spec_l1In_eq, Option.bind_some, keepDays]
  by_cases h7 : a = 7
  · subst h7; rfl
  by_cases h4 : a = 4
  · subst h4; rfl
  by_cases h5 : a = 5
  · subst h5; rfl
  simp only [h7, h4, h5, if_false, ite_some]

/-! spec_IsThing -/
theorem spec_IsThing_eq (a b c d e : Int) : spec_IsThing.f a b c d e = some (isThing a b c d e) := by
  simp only [spec_IsThing.f, spec_l1In_eq, Option.bind_some, ite_and, isThing]

/-! spec_IsFind -/
theorem spec_IsFind_eq (a b c d e f g h : Int) : spec_IsFind.f a b c d e f g h = some (isFind a b c d e f g h) := by
  simp only [spec_IsFind.f, spec_IsThing_eq, spec_l1In_eq, Option.bind_some, ite_and, isFind]

/-! spec_DueHour -/
theorem spec_DueHour_eq (a b c d e f g h : Int) : spec_DueHour.f a b c d e f g h = some (dueHour a b c d e f g h) := by
  simp only [spec_DueHour.f, spec_IsFind_eq, spec_KeepDays_eq, Option.bind_some, dueHour, ite_some]

/-! impl_KeepDays -/
theorem impl_KeepDays_ev (a : Int) : Ev (fun k => impl_KeepDays.f k a) (keepDays a) := by
  refine ev_succ ?_
  simp only [impl_KeepDays.f, impl_KeepDays.j0]
  refine ev_const ?_
  unfold keepDays
  by_cases h7 : a = 7
  · simp [h7]
  by_cases h4 : a = 4
  · simp [h4]
  by_cases h5 : a = 5
  · simp [h5]
  simp only [h7, h4, h5, if_false, beq_iff_eq]
  by_cases hr : inr a 1 8 = true
  · have := (inr_iff a 1 8).1 hr
    rw [if_pos hr]
    have : a = 1 ∨ a = 2 ∨ a = 3 ∨ a = 6 ∨ a = 8 := by omega
    rcases this with rfl | rfl | rfl | rfl | rfl <;> rfl
  · rw [if_neg hr]
    have hn : ¬ (1 ≤ a ∧ a ≤ 8) := fun h => hr ((inr_iff a 1 8).2 h)
    rw [if_neg (by omega), if_neg (by omega), if_neg (by omega), if_neg (by omega), if_neg (by omega)]

/-! impl_InRange -/
theorem impl_InRange_eq (a b c : Int) : impl_InRange.f a b c = some (inr a b c) := by
  unfold impl_InRange.f inr
  by_cases h : b ≤ a <;> simp [h]

/-! impl_IsThing -/
theorem impl_IsThing_eq (a b c d e : Int) : impl_IsThing.f a b c d e = some (isThing a b c d e) := by
  simp only [impl_IsThing.f, impl_InRange_eq, Option.bind_some, ite_and, isThing]

/-! impl_IsFind -/
theorem impl_IsFind_eq (a b c d e f g h : Int) : impl_IsFind.f a b c d e f g h = some (isFind a b c d e f g h) := by
  simp only [impl_IsFind.f, impl_IsThing_eq, impl_InRange_eq, Option.bind_some, ite_and, isFind]

/-! impl_DueHour -/
theorem impl_DueHour_ev (a b c d e f g h : Int) : Ev (fun k => impl_DueHour.f k a b c d e f g h) (dueHour a b c d e f g h) := by
  simp only [impl_DueHour.f, impl_IsFind_eq, Option.bind_some, dueHour]
  by_cases h1 : isFind a b c d e f g h = true
  · simp only [h1, if_true]
    exact Ev.bind (impl_KeepDays_ev b) (Ev.now _)
  · simp only [h1]
    exact Ev.now _

/-! the law -/
theorem Pf.FnExactDueHour : FnExactDueHourLaw := by
  intro y _
  refine Ev.rounds ?_
  simp only [laws_FnExactDueHour.f, laws_toFind.f, laws_toThing.f, Option.bind_some, spec_DueHour_eq]
  refine Ev.bind (impl_DueHour_ev _ _ _ _ _ _ _ _) ?_
  simp only [if_true]
  exact Ev.now _

end Go.Proofs.Ytnnlkklmpahppaa.PFnExactDueHour
