/- The plain part of FnExactIsParcel: what the printed functions come to, and that the law's answer is true. No conditions beyond those of the statement. -/
import Derived.Test.YtoemmbagjjjimaaPFnExactIsParcelx
import Derived.Test.YtoemmbagjjjimaaBase
import Derived.Test.YtoemmbagjjjimaaDefFnExactIsParcel
namespace Go.Proofs.Ytoemmbagjjjimaa.PFnExactIsParcel
open Go.RowKit Go.Proofs.YtoemmbagjjjimaaW.PrintWords Go.Proofs.YtoemmbagjjjimaaW.PrintMore Go.Proofs.Ytoemmbagjjjimaa.Base
set_option linter.unusedVariables false
set_option linter.unusedSimpArgs false

/-! laws_szIntS -/
theorem laws_szIntS_ok (l : List Int) (a : Int) (h0 : (l.length : Int) ≤ a) (h1 : a ≤ 1048576) : laws_szIntS.f l a = some (a - (l.length : Int)) := by
  unfold laws_szIntS.f
  rw [w64 (by omega) (by omega), if_neg (by omega)]
theorem laws_szIntS_big (l : List Int) (a : Int) (h0 : a < (l.length : Int)) (h1 : 0 ≤ a) (h2 : l.length ≤ 9223372036854775807) : laws_szIntS.f l a = some (-1) := by
  unfold laws_szIntS.f
  rw [w64 (by omega) (by omega), if_pos (by omega)]

/-! spec_l1In -/
theorem spec_l1In_eq (a b c : Int) : spec_l1In.f a b c = some (inr a b c) := by
  unfold spec_l1In.f inr
  by_cases h : b ≤ a <;> simp [h]

/-! ascends -/
def ascOk (lo hi : Int) : Option Int → List Int → Bool
  | _, [] => true
  | p, x :: rest => inr x lo hi && ((match p with | none => true | some y => decide (y < x)) && ascOk lo hi (some x) rest)

/-! spec_l7Ids -/
theorem spec_l7Ids_ev (l : List Int) (lo hi : Int) (h : l.length ≤ 1099511627776) : Ev (fun k => spec_l7Ids.f k l lo hi) (ascOk lo hi none l) := by
  refine ev_range l (fun k (_ : Option Int) i => spec_l7Ids.l0 k l lo hi i) (fun s r => ascOk lo hi s r) (fun p s => s = p.getLast?) (by omega) ?_ ?_ none rfl
  · intro s _
    simp only [spec_l7Ids.l0, if_neg (Int.lt_irrefl _)]
    exact Ev.now _
  · rintro pre x rest s e hlt hget rfl ih
    have hr : rd l (pre.length : Int) = x := hget 0
    have ih' := ih (some x) (by simp)
    simp only [spec_l7Ids.l0, if_pos hlt, if_pos (ge0 pre.length), hr, spec_l1In_eq, Option.bind_some, ascOk]
    cases h1 : inr x lo hi with
    | false => exact Ev.now _
    | true =>
      simp only [if_true, Bool.true_and]
      rcases prev_cases e (by omega) with ⟨hp, hn⟩ | ⟨y, hy, h4, h5, h6, h7⟩
      · simp only [if_neg hn]
        exact ev_map ih' (by simp [hp])
      · have hr7 : rd l (wrap64 ((pre.length : Int) - 1)) = y := h7 0
        simp only [if_pos h4, if_pos h5, if_pos h6, hr7, hy]
        by_cases h8 : y ≥ x
        · simp only [if_pos h8]
          exact ev_const (by simp [show ¬ y < x by omega])
        · simp only [if_neg h8]
          exact ev_map ih' (by simp [show y < x by omega])

/-! isParcel -/
def isParcel (f t : Int) (l : List Int) (h : Int) : Bool := inr f 1 9 && (inr t 1 9 && (!decide (f = t) && (inr (l.length : Int) 1 10 && (ascOk 1 999 none l && inr h 0 100000))))

/-! spec_IsParcel -/
theorem spec_IsParcel_ev (f t : Int) (l : List Int) (h : Int) (hl : l.length ≤ 1099511627776) : Ev (fun k => spec_IsParcel.f k f t l h) (isParcel f t l h) := by
  simp only [spec_IsParcel.f, spec_l1In_eq, Option.bind_some, isParcel]
  cases h1 : inr f 1 9 with
  | false => exact Ev.now _
  | true =>
    cases h2 : inr t 1 9 with
    | false => exact Ev.now _
    | true =>
      by_cases h3 : f = t
      · simp only [if_true, if_pos h3]
        exact ev_const (by simp [h3])
      · cases h4 : inr (l.length : Int) 1 10 with
        | false =>
          simp only [if_true, if_neg h3]
          exact ev_const (by simp)
        | true =>
          simp only [if_true, if_neg h3]
          refine Ev.bind (spec_l7Ids_ev l 1 999 hl) ?_
          refine ev_const ?_
          rw [ite_and]
          simp [h3]

/-! laws_toIntS -/
theorem laws_toIntS_loop (rest : List Int) : ∀ (pre : List Int), (pre ++ rest).length ≤ 1099511627776 → Ev (fun k => laws_toIntS.l0 k (pre ++ rest) (pre ++ List.replicate rest.length (0 : Int)) (pre.length : Int)) (pre ++ rest) := by
  induction rest with
  | nil =>
    intro pre h
    refine ev_succ ?_
    simp only [laws_toIntS.l0, if_neg (nlt_pre pre)]
    exact ev_const (by simp)
  | cons x rest ih =>
    intro pre h
    have hl := len_pre pre x rest
    have hlt : (pre.length : Int) < ((pre ++ List.replicate (x :: rest).length (0 : Int)).length : Int) := by
      simp
      omega
    have hset : (pre ++ List.replicate (x :: rest).length (0 : Int)).set ((pre.length : Int)).toNat x = (pre ++ [x]) ++ List.replicate rest.length (0 : Int) := by
      simp [List.replicate_succ]
    refine ev_succ ?_
    simp only [laws_toIntS.l0, if_pos (lt_pre pre x rest), if_pos (ge0 pre.length), rd_pre, Option.bind_some, if_pos hlt, wsucc (show pre.length < 9223372036854775807 by omega)]
    refine ev_map (Ev.congr (fun k => ?_) (ih (pre ++ [x]) (by rw [← app_pre]; exact h))) (by rw [← app_pre pre x rest])
    rw [hset, snoc_len pre x, ← app_pre pre x rest]
theorem laws_toIntS_ev (l : List Int) (h : l.length ≤ 1048576) : Ev (fun k => laws_toIntS.f k l) (l) := by
  have e := laws_toIntS_loop l [] (by simp; omega)
  unfold laws_toIntS.f
  simp only [if_pos (ge0 l.length), if_pos (show ((l.length : Int)).toNat ≤ 35184372088832 by omega)]
  exact e

/-! impl_InRange -/
theorem impl_InRange_eq (a b c : Int) : impl_InRange.f a b c = some (inr a b c) := by
  unfold impl_InRange.f inr
  by_cases h : b ≤ a <;> simp [h]

/-! impl_isAscending -/
theorem impl_isAscending_ev (l : List Int) (lo hi : Int) (h : l.length ≤ 1099511627776) : Ev (fun k => impl_isAscending.f k l lo hi) (ascOk lo hi none l) := by
  refine ev_range l (fun k (_ : Option Int) i => impl_isAscending.l0 k l lo hi l (l.length : Int) i) (fun s r => ascOk lo hi s r) (fun p s => s = p.getLast?) (by omega) ?_ ?_ none rfl
  · intro s _
    simp only [impl_isAscending.l0, if_neg (Int.lt_irrefl _)]
    exact Ev.now _
  · rintro pre x rest s e hlt hget rfl ih
    have hr : rd l (pre.length : Int) = x := hget 0
    have ih' := ih (some x) (by simp)
    simp only [impl_isAscending.l0, if_pos hlt, if_pos (ge0 pre.length), hr, impl_InRange_eq, Option.bind_some, ascOk]
    cases h1 : inr x lo hi with
    | false => exact Ev.now _
    | true =>
      simp only [if_true, Bool.true_and]
      rcases prev_cases e (by omega) with ⟨hp, hn⟩ | ⟨y, hy, h4, h5, h6, h7⟩
      · simp only [if_neg hn]
        exact ev_map ih' (by simp [hp])
      · have hr7 : rd l (wrap64 ((pre.length : Int) - 1)) = y := h7 0
        simp only [if_pos h4, if_pos h5, if_pos h6, hr7, hy]
        by_cases h8 : x ≤ y
        · simp only [if_pos h8]
          exact ev_const (by simp [show ¬ y < x by omega])
        · simp only [if_neg h8]
          exact ev_map ih' (by simp [show y < x by omega])

/-! impl_IsParcel -/
theorem impl_IsParcel_ev (f t : Int) (l : List Int) (h : Int) (hl : l.length ≤ 1099511627776) : Ev (fun k => impl_IsParcel.f k f t l h) (isParcel f t l h) := by
  simp only [impl_IsParcel.f, impl_InRange_eq, Option.bind_some, isParcel]
  cases h1 : inr f 1 9 with
  | false => exact Ev.now _
  | true =>
    cases h2 : inr t 1 9 with
    | false => exact Ev.now _
    | true =>
      by_cases h3 : f = t
      · simp only [if_true, if_pos h3]
        exact ev_const (by simp [h3])
      · cases h4 : inr (l.length : Int) 1 10 with
        | false =>
          simp only [if_true, if_neg h3]
          exact ev_const (by simp)
        | true =>
          simp only [if_true, if_neg h3]
          refine Ev.bind (impl_isAscending_ev l 1 999 hl) ?_
          refine ev_const ?_
          rw [ite_and]
          simp [h3]

/-! laws_eqIntS -/
theorem laws_eqIntS_loop (rest : List Int) : ∀ (pre : List Int), (pre ++ rest).length ≤ 1099511627776 → Ev (fun k => laws_eqIntS.l0 k (pre ++ rest) (pre ++ rest) (pre.length : Int)) true := by
  induction rest with
  | nil =>
    intro pre h
    refine ev_succ ?_
    simp only [laws_eqIntS.l0, if_neg (nlt_pre pre)]
    exact Ev.now _
  | cons x rest ih =>
    intro pre h
    have hl := len_pre pre x rest
    refine ev_succ ?_
    simp only [laws_eqIntS.l0, if_pos (lt_pre pre x rest), if_pos (ge0 pre.length), rd_pre, Option.bind_some, if_true, wsucc (show pre.length < 9223372036854775807 by omega)]
    refine Ev.congr (fun k => ?_) (ih (pre ++ [x]) (by rw [← app_pre]; exact h))
    rw [snoc_len pre x, ← app_pre]
theorem laws_eqIntS_refl (l : List Int) (h : l.length ≤ 1099511627776) : Ev (fun k => laws_eqIntS.f k l l) true := by
  have e := laws_eqIntS_loop l [] h
  unfold laws_eqIntS.f
  simp only [if_true]
  exact e

/-! the law -/
theorem Pf.FnExactIsParcel : FnExactIsParcelLaw := by
  intro y hq
  have hm := hq.2.2.1.1
  refine Ev.rounds ?_
  unfold laws_FnExactIsParcel.f
  by_cases hl : (y.f2.length : Int) ≤ 1048576
  · have hsz : ¬ (1048576 - (y.f2.length : Int) < 0) := by omega
    simp only [laws_szParcel.f, laws_szIntS_ok y.f2 1048576 hl (by omega), Option.bind_some, if_neg hsz, laws_toParcel.f]
    have hto : Ev (fun k => (laws_toIntS.f k y.f2).bind fun t => (some (y.f0, y.f1, t, y.f3))) (y.f0, y.f1, y.f2, y.f3) := Ev.bind (laws_toIntS_ev _ (by omega)) (Ev.now _)
    refine Ev.bind hto ?_
    refine Ev.bind (spec_IsParcel_ev _ _ _ _ (by show y.f2.length ≤ _; omega)) ?_
    refine Ev.bind hto ?_
    refine Ev.bind (impl_IsParcel_ev _ _ _ _ (by show y.f2.length ≤ _; omega)) ?_
    simp only [bne_self_eq_false, Bool.false_eq_true, if_false]
    refine Ev.bind hto ?_
    simp only [laws_eqParcel.f, if_true]
    refine Ev.bind (Ev.bind (laws_eqIntS_refl y.f2 (by omega)) (r := true) ?_) ?_
    · simp only [if_true]
      exact Ev.now _
    · simp only [if_true]
      exact Ev.now _
  · simp only [laws_szParcel.f, laws_szIntS_big y.f2 1048576 (by omega) (by omega) hm, Option.bind_some]
    exact Ev.now _

end Go.Proofs.Ytoemmbagjjjimaa.PFnExactIsParcel
