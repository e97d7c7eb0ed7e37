/- The plain part of FnExactDaysLeft: what the printed functions come to, and that the law's answer is true. No conditions beyond those of the statement. -/
import Derived.Test.YtoemmbagjjjimaaPFnExactDaysLeftx
import Derived.Test.YtoemmbagjjjimaaBase
import Derived.Test.YtoemmbagjjjimaaDefFnExactDaysLeft
namespace Go.Proofs.Ytoemmbagjjjimaa.PFnExactDaysLeft
open Go.RowKit Go.Proofs.YtoemmbagjjjimaaW.PrintWords Go.Proofs.YtoemmbagjjjimaaW.PrintMore Go.Proofs.Ytoemmbagjjjimaa.Base
set_option linter.unusedVariables false
set_option linter.unusedSimpArgs false

/-! spec_l1In -/
theorem spec_l1In_eq (a b c : Int) : spec_l1In.f a b c = some (inr a b c) := by
  unfold spec_l1In.f inr
  by_cases h : b ≤ a <;> simp [h]

/-! spec_IsThing -/
theorem spec_IsThing_eq (a b c d e : Int) : spec_IsThing.f a b c d e = some (isThing a b c d e) := by
  simp only [spec_IsThing.f, spec_l1In_eq, Option.bind_some, ite_and, isThing]

/-! spec_IsFind -/
theorem spec_IsFind_eq (a b c d e f g h : Int) : spec_IsFind.f a b c d e f g h = some (isFind a b c d e f g h) := by
  simp only [spec_IsFind.f, spec_IsThing_eq, spec_l1In_eq, Option.bind_some, ite_and, isFind]

/-! spec_KeepDays -/
theorem spec_KeepDays_eq (a : Int) : spec_KeepDays.f a = some (keepDays a) := by
  simp only [spec_KeepDays.f, spec_l1In_eq, Option.bind_some, keepDays]
  by_cases h7 : a = 7
  · subst h7; rfl
  by_cases h4 : a = 4
  · subst h4; rfl
  by_cases h5 : a = 5
  · subst h5; rfl
  simp only [h7, h4, h5, if_false, ite_some]

/-! spec_DueHour -/
theorem spec_DueHour_eq (a b c d e f g h : Int) : spec_DueHour.f a b c d e f g h = some (dueHour a b c d e f g h) := by
  simp only [spec_DueHour.f, spec_IsFind_eq, spec_KeepDays_eq, Option.bind_some, dueHour, ite_some]

/-! spec_IsDue -/
theorem spec_IsDue_eq (a b c d e f g h n : Int) : spec_IsDue.f a b c d e f g h n = some (isDue a b c d e f g h n) := by
  simp only [spec_IsDue.f, spec_IsFind_eq, spec_DueHour_eq, Option.bind_some, isDue, ite_and]

/-! ceilDiv -/
def ceilDiv (a b : Int) : Int := if inr a 0 1000000000000 = true ∧ inr b 1 1000000000000 = true then wrap64 (Int.tdiv (wrap64 (wrap64 (a + b) - 1)) b) else 0
def daysLeft (a b c d e f g h n : Int) : Int := if isFind a b c d e f g h = true ∧ inr n 0 200000 = true ∧ isDue a b c d e f g h n = false then ceilDiv (wrap64 (dueHour a b c d e f g h - n)) 24 else 0

/-! spec_CeilDiv -/
theorem spec_CeilDiv_eq (a b : Int) : spec_CeilDiv.f a b = some (ceilDiv a b) := by
  simp only [spec_CeilDiv.f, spec_l1In_eq, Option.bind_some, ceilDiv]
  cases h1 : inr a 0 1000000000000 with
  | false => simp
  | true =>
    cases h2 : inr b 1 1000000000000 with
    | false => simp
    | true =>
      have := (inr_iff _ _ _).1 h2
      simp only [if_true, if_neg (show ¬ b = 0 by omega), and_self]

/-! spec_DaysLeft -/
theorem spec_DaysLeft_ev (a b c d e f g h n : Int) : Ev (fun k => spec_DaysLeft.f k a b c d e f g h n) (daysLeft a b c d e f g h n) := by
  have j1 : Ev (fun k => spec_DaysLeft.j0 k n true a b c d e f g h) 0 := by
    refine ev_succ ?_
    simp only [spec_DaysLeft.j0, if_true]
    exact Ev.now _
  have j0 : Ev (fun k => spec_DaysLeft.j0 k n false a b c d e f g h) (ceilDiv (wrap64 (dueHour a b c d e f g h - n)) 24) := by
    refine ev_succ ?_
    simp only [spec_DaysLeft.j0, Bool.false_eq_true, if_false, spec_DueHour_eq, spec_CeilDiv_eq, Option.bind_some]
    exact Ev.now _
  simp only [spec_DaysLeft.f, spec_IsFind_eq, spec_l1In_eq, spec_IsDue_eq, Option.bind_some, daysLeft]
  cases h1 : isFind a b c d e f g h with
  | false => simpa using j1
  | true =>
    cases h2 : inr n 0 200000 with
    | false => simpa using j1
    | true =>
      cases h3 : isDue a b c d e f g h n with
      | true => simpa using j1
      | false => simpa using j0

/-! impl_InRange -/
theorem impl_InRange_eq (a b c : Int) : impl_InRange.f a b c = some (inr a b c) := by
  unfold impl_InRange.f inr
  by_cases h : b ≤ a <;> simp [h]

/-! impl_IsThing -/
theorem impl_IsThing_eq (a b c d e : Int) : impl_IsThing.f a b c d e = some (isThing a b c d e) := by
  simp only [impl_IsThing.f, impl_InRange_eq, Option.bind_some, ite_and, isThing]

/-! impl_IsFind -/
theorem impl_IsFind_eq (a b c d e f g h : Int) : impl_IsFind.f a b c d e f g h = some (isFind a b c d e f g h) := by
  simp only [impl_IsFind.f, impl_IsThing_eq, impl_InRange_eq, Option.bind_some, ite_and, isFind]

/-! impl_KeepDays -/
theorem impl_KeepDays_ev (a : Int) : Ev (fun k => impl_KeepDays.f k a) (keepDays a) := by
  refine ev_succ ?_
  simp only [impl_KeepDays.f, impl_KeepDays.j0]
  refine ev_const ?_
  unfold keepDays
  by_cases h7 : a = 7
  · simp [h7]
  by_cases h4 : a = 4
  · simp [h4]
  by_cases h5 : a = 5
  · simp [h5]
  simp only [h7, h4, h5, if_false, beq_iff_eq]
  by_cases hr : inr a 1 8 = true
  · have := (inr_iff a 1 8).1 hr
    rw [if_pos hr]
    have : a = 1 ∨ a = 2 ∨ a = 3 ∨ a = 6 ∨ a = 8 := by omega
    rcases this with rfl | rfl | rfl | rfl | rfl <;> rfl
  · rw [if_neg hr]
    have hn : ¬ (1 ≤ a ∧ a ≤ 8) := fun h => hr ((inr_iff a 1 8).2 h)
    rw [if_neg (by omega), if_neg (by omega), if_neg (by omega), if_neg (by omega), if_neg (by omega)]

/-! impl_DueHour -/
theorem impl_DueHour_ev (a b c d e f g h : Int) : Ev (fun k => impl_DueHour.f k a b c d e f g h) (dueHour a b c d e f g h) := by
  simp only [impl_DueHour.f, impl_IsFind_eq, Option.bind_some, dueHour]
  by_cases h1 : isFind a b c d e f g h = true
  · simp only [h1, if_true]
    exact Ev.bind (impl_KeepDays_ev b) (Ev.now _)
  · simp only [h1]
    exact Ev.now _

/-! impl_IsDue -/
theorem impl_IsDue_ev (a b c d e f g h n : Int) : Ev (fun k => impl_IsDue.f k a b c d e f g h n) (isDue a b c d e f g h n) := by
  simp only [impl_IsDue.f, impl_IsFind_eq, Option.bind_some, isDue]
  cases h1 : isFind a b c d e f g h with
  | false => exact Ev.now _
  | true => exact Ev.bind (impl_DueHour_ev _ _ _ _ _ _ _ _) (Ev.now _)

/-! impl_CeilDiv -/
theorem impl_CeilDiv_eq (a b : Int) : impl_CeilDiv.f a b = some (ceilDiv a b) := by
  simp only [impl_CeilDiv.f, impl_InRange_eq, Option.bind_some, ceilDiv]
  cases h1 : inr a 0 1000000000000 with
  | false => simp
  | true =>
    cases h2 : inr b 1 1000000000000 with
    | false => simp
    | true =>
      have := (inr_iff _ _ _).1 h2
      simp only [if_true, if_neg (show ¬ b = 0 by omega), and_self]

/-! impl_DaysLeft -/
theorem impl_DaysLeft_ev (a b c d e f g h n : Int) : Ev (fun k => impl_DaysLeft.f k a b c d e f g h n) (daysLeft a b c d e f g h n) := by
  have j1 : Ev (fun k => impl_DaysLeft.j0 k n true a b c d e f g h) 0 := by
    refine ev_succ ?_
    simp only [impl_DaysLeft.j0, if_true]
    exact Ev.now _
  have j0 : Ev (fun k => impl_DaysLeft.j0 k n false a b c d e f g h) (ceilDiv (wrap64 (dueHour a b c d e f g h - n)) 24) := by
    refine ev_succ ?_
    simp only [impl_DaysLeft.j0, Bool.false_eq_true, if_false]
    refine Ev.bind (impl_DueHour_ev _ _ _ _ _ _ _ _) ?_
    simp only [impl_CeilDiv_eq, Option.bind_some]
    exact Ev.now _
  simp only [impl_DaysLeft.f, impl_IsFind_eq, Option.bind_some, daysLeft]
  cases h1 : isFind a b c d e f g h with
  | false => simpa using j1
  | true =>
    simp only [if_true]
    refine Ev.bind (impl_IsDue_ev a b c d e f g h n) ?_
    cases h3 : isDue a b c d e f g h n with
    | true => simpa using j1
    | false =>
      simp only [impl_InRange_eq, Option.bind_some, Bool.false_eq_true, if_false]
      cases h2 : inr n 0 200000 with
      | false => simpa using j1
      | true => simpa using j0

/-! the law -/
theorem Pf.FnExactDaysLeft : FnExactDaysLeftLaw := by
  intro y0 a1 hq0 hq1
  refine Ev.rounds ?_
  unfold laws_FnExactDaysLeft.f
  repeat' first
    | exact Ev.now _
    | refine Ev.bind (spec_DaysLeft_ev _ _ _ _ _ _ _ _ _) ?_
    | refine Ev.bind (impl_DaysLeft_ev _ _ _ _ _ _ _ _ _) ?_
    | simp only [if_true, if_false, Bool.not_true, Bool.not_false, bne_self_eq_false, Bool.false_eq_true, Option.bind_some, laws_toFind.f, laws_toThing.f]
    | (refine ev_succ ?_; simp only [laws_FnExactDaysLeft.j0])

end Go.Proofs.Ytoemmbagjjjimaa.PFnExactDaysLeft
