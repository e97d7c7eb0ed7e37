/- The plain part of FnExactKeepDays: what the printed functions come to, and that the law's answer is true. No conditions beyond those of the statement. -/
import Derived.Test.YtnnlkklmpahppaaPFnExactKeepDaysx
import Derived.Test.YtnnlkklmpahppaaBase
namespace Go.Proofs.Ytnnlkklmpahppaa.PFnExactKeepDays
open Go.RowKit Go.Proofs.YtnnlkklmpahppaaW.PrintWords Go.Proofs.YtnnlkklmpahppaaW.PrintMore Go.Proofs.Ytnnlkklmpahppaa.Base
set_option linter.unusedVariables false
set_option linter.unusedSimpArgs false

/-! spec_l1In -/
theorem spec_l1In_eq (a b c : Int) : spec_l1In.f a b c = some (inr a b c) := by
  unfold spec_l1In.f inr
  by_cases h : b ≤ a <;> simp [h]

/-! spec_KeepDays -/
theorem spec_KeepDays_eq (a : Int) : spec_KeepDays.f a = some (keepDays a) := by
  simp only [spec_KeepDays.f, spec_l1In_eq, Option.bind_some, keepDays]
  by_cases h7 : a = 7
  · subst h7; rfl
  by_cases h4 : a = 4
  · subst h4; rfl
  by_cases h5 : a = 5
  · subst h5; rfl
  simp only [h7, h4, h5, if_false, ite_some]

/-! impl_KeepDays -/
theorem impl_KeepDays_ev (a : Int) : Ev (fun k => impl_KeepDays.f k a) (keepDays a) := by
  refine ev_succ ?_
  simp only [impl_KeepDays.f, impl_KeepDays.j0]
  refine ev_const ?_
  unfold keepDays
  by_cases h7 : a = 7
  · simp [h7]
  by_cases h4 : a = 4
  · simp [h4]
  by_cases h5 : a = 5
  · simp [h5]
  simp only [h7, h4, h5, if_false, beq_iff_eq]
  by_cases hr : inr a 1 8 = true
  · have := (inr_iff a 1 8).1 hr
    rw [if_pos hr]
    have : a = 1 ∨ a = 2 ∨ a = 3 ∨ a = 6 ∨ a = 8 := by omega
    rcases this with rfl | rfl | rfl | rfl | rfl <;> rfl
  · rw [if_neg hr]
    have hn : ¬ (1 ≤ a ∧ a ≤ 8) := fun h => hr ((inr_iff a 1 8).2 h)
    rw [if_neg (by omega), if_neg (by omega), if_neg (by omega), if_neg (by omega), if_neg (by omega)]

/-! the law -/
theorem Pf.FnExactKeepDays : laws_FnExactKeepDays.Pure := by
  intro a _
  refine Ev.rounds ?_
  simp only [laws_FnExactKeepDays.f, spec_KeepDays_eq, Option.bind_some]
  refine Ev.bind (impl_KeepDays_ev a) ?_
  simp only [if_true]
  exact Ev.now _

end Go.Proofs.Ytnnlkklmpahppaa.PFnExactKeepDays
namespace Go.Proofs.Ytnnlkklmpahppaa.Pure
theorem FnExactKeepDays : PFnExactKeepDays.laws_FnExactKeepDays.Pure := PFnExactKeepDays.Pf.FnExactKeepDays
end Go.Proofs.Ytnnlkklmpahppaa.Pure
