/- The plain part of FnExactIsOpened: what the printed functions come to, and that the law's answer is true. No conditions beyond those of the statement. -/
import Derived.Test.YtnnlkklmpahppaaPFnExactIsOpenedx
import Derived.Test.YtnnlkklmpahppaaBase
import Derived.Test.YtnnlkklmpahppaaDefFnExactIsOpened
namespace Go.Proofs.Ytnnlkklmpahppaa.PFnExactIsOpened
open Go.RowKit Go.Proofs.YtnnlkklmpahppaaW.PrintWords Go.Proofs.YtnnlkklmpahppaaW.PrintMore Go.Proofs.Ytnnlkklmpahppaa.Base
set_option linter.unusedVariables false
set_option linter.unusedSimpArgs false

/-! spec_l1In -/
theorem spec_l1In_eq (a b c : Int) : spec_l1In.f a b c = some (inr a b c) := by
  unfold spec_l1In.f inr
  by_cases h : b ≤ a <;> simp [h]

/-! spec_Mod -/
theorem spec_Mod_eq (a : Int) : spec_Mod.f a 2147483647 = some (a % 2147483647) := by
  simp only [spec_Mod.f, spec_l1In_eq, Option.bind_some]
  rw [if_pos (by decide), if_neg (by decide), mod_up]

/-! spec_Hash -/
theorem spec_Hash_loop (rest : List Int) : ∀ (pre : List Int) (acc : Int), (pre ++ rest).length < 9223372036854775807 → Ev (fun k => spec_Hash.l0 k (pre ++ rest) acc (pre.length : Int)) (rest.foldl hstep acc) := by
  induction rest with
  | nil =>
    intro pre acc h
    refine ev_succ ?_
    simp only [spec_Hash.l0, if_neg (nlt_pre pre)]
    exact Ev.now _
  | cons x rest ih =>
    intro pre acc h
    have hl := len_pre pre x rest
    refine ev_succ ?_
    simp only [spec_Hash.l0, if_pos (lt_pre pre x rest), if_pos (ge0 pre.length), rd_pre, spec_Mod_eq, Option.bind_some, wsucc (show pre.length < 9223372036854775807 by omega)]
    rw [snoc_len pre x]
    have := ih (pre ++ [x]) (hstep acc x) (by rw [← app_pre]; exact h)
    rw [← app_pre] at this
    exact this
theorem spec_Hash_ev (l : List Int) (h : l.length < 9223372036854775807) : Ev (fun k => spec_Hash.f k l) (ghash l) := spec_Hash_loop l [] 11 h

/-! spec_SealBid -/
theorem spec_SealBid_ev (a b c : Int) : Ev (fun k => spec_SealBid.f k a b c) (ghash [a, b, c]) := by
  simp only [spec_SealBid.f]
  exact Ev.bind (spec_Hash_ev _ (by simp)) (Ev.now _)

/-! spec_IsOpened -/
theorem spec_IsOpened_ev (a b c s : Int) : Ev (fun k => spec_IsOpened.f k a b c s) (isBid a b && (ghash [s, a, b] == c)) := by
  simp only [spec_IsOpened.f, spec_l1In_eq, Option.bind_some, isBid]
  cases h1 : inr a 1 999 with
  | false => exact Ev.now _
  | true =>
    cases h2 : inr b 1 10000000 with
    | false => exact Ev.now _
    | true => exact Ev.bind (spec_SealBid_ev s a b) (Ev.now _)

/-! impl_InRange -/
theorem impl_InRange_eq (a b c : Int) : impl_InRange.f a b c = some (inr a b c) := by
  unfold impl_InRange.f inr
  by_cases h : b ≤ a <;> simp [h]

/-! impl_Mod -/
theorem impl_Mod_eq (a : Int) : impl_Mod.f a 2147483647 = some (a % 2147483647) := by
  simp only [impl_Mod.f, impl_InRange_eq, Option.bind_some]
  rw [if_pos (by decide), if_neg (by decide)]
  by_cases h : Int.tmod a 2147483647 < 0
  · rw [if_pos h, mod_lo a h]
  · rw [if_neg h, mod_hi a h]

/-! impl_fold -/
theorem impl_fold_eq (a v : Int) : impl_fold.f a v = some (hstep a v) := by
  simp only [impl_fold.f, impl_Mod_eq, Option.bind_some, hstep]

/-! impl_Hash -/
theorem impl_Hash_loop (rest : List Int) : ∀ (pre : List Int) (acc : Int), (pre ++ rest).length < 9223372036854775807 → Ev (fun k => impl_Hash.l0 k acc (pre ++ rest) ((pre ++ rest).length : Int) (pre.length : Int)) (rest.foldl hstep acc) := by
  induction rest with
  | nil =>
    intro pre acc h
    refine ev_succ ?_
    simp only [impl_Hash.l0, if_neg (nlt_pre pre)]
    exact Ev.now _
  | cons x rest ih =>
    intro pre acc h
    have hl := len_pre pre x rest
    refine ev_succ ?_
    simp only [impl_Hash.l0, if_pos (lt_pre pre x rest), if_pos (ge0 pre.length), rd_pre, impl_fold_eq, Option.bind_some, wsucc (show pre.length < 9223372036854775807 by omega)]
    rw [snoc_len pre x]
    have := ih (pre ++ [x]) (hstep acc x) (by rw [← app_pre]; exact h)
    rw [← app_pre] at this
    exact this
theorem impl_Hash_ev (l : List Int) (h : l.length < 9223372036854775807) : Ev (fun k => impl_Hash.f k l) (ghash l) := impl_Hash_loop l [] 11 h

/-! impl_SealBid -/
theorem impl_SealBid_ev (a b c : Int) : Ev (fun k => impl_SealBid.f k a b c) (ghash [a, b, c]) := by
  simp only [impl_SealBid.f]
  exact Ev.bind (impl_Hash_ev _ (by simp)) (Ev.now _)

/-! impl_isBid -/
theorem impl_isBid_eq (a b c : Int) : impl_isBid.f a b c = some (isBid a b) := by
  simp only [impl_isBid.f, impl_InRange_eq, Option.bind_some, ite_and, isBid]

/-! impl_IsOpened -/
theorem impl_IsOpened_ev (a b c s : Int) : Ev (fun k => impl_IsOpened.f k a b c s) (isBid a b && (ghash [s, a, b] == c)) := by
  simp only [impl_IsOpened.f, impl_isBid_eq, Option.bind_some]
  cases h1 : isBid a b with
  | false => exact Ev.now _
  | true => exact Ev.bind (impl_SealBid_ev s a b) (Ev.now _)

/-! the law -/
theorem Pf.FnExactIsOpened : FnExactIsOpenedLaw := by
  intro y a _ _
  refine Ev.rounds ?_
  simp only [laws_FnExactIsOpened.f, laws_toBid.f, Option.bind_some]
  refine Ev.bind (spec_IsOpened_ev y.f0 y.f1 y.f2 a) ?_
  refine Ev.bind (impl_IsOpened_ev y.f0 y.f1 y.f2 a) ?_
  simp only [bne_self_eq_false]
  exact Ev.now _

end Go.Proofs.Ytnnlkklmpahppaa.PFnExactIsOpened
