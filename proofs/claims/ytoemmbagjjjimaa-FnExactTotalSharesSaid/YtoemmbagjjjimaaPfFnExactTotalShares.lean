/- The plain part of FnExactTotalShares: what the printed functions come to, and that the law's answer is true. No conditions beyond those of the statement. -/
import Derived.Test.YtoemmbagjjjimaaPFnExactTotalSharesx
import Derived.Test.YtoemmbagjjjimaaBase
import Derived.Test.YtoemmbagjjjimaaDefFnExactTotalShares
namespace Go.Proofs.Ytoemmbagjjjimaa.PFnExactTotalShares
open Go.RowKit Go.Proofs.YtoemmbagjjjimaaW.PrintWords Go.Proofs.YtoemmbagjjjimaaW.PrintMore Go.Proofs.Ytoemmbagjjjimaa.Base
set_option linter.unusedVariables false
set_option linter.unusedSimpArgs false

/-! laws_szShareS -/
theorem laws_szShareS_ok (l : List (S89)) (a : Int) (h0 : (l.length : Int) ≤ a) (h1 : a ≤ 1048576) : laws_szShareS.f l a = some (a - (l.length : Int)) := by
  unfold laws_szShareS.f
  rw [w64 (by omega) (by omega), if_neg (by omega)]
theorem laws_szShareS_big (l : List (S89)) (a : Int) (h0 : a < (l.length : Int)) (h1 : 0 ≤ a) (h2 : l.length ≤ 9223372036854775807) : laws_szShareS.f l a = some (-1) := by
  unfold laws_szShareS.f
  rw [w64 (by omega) (by omega), if_pos (by omega)]

/-! spec_Max -/
theorem spec_Max_eq (a b : Int) : spec_Max.f a b = some (if b > a then b else a) := by
  simp only [spec_Max.f, ite_some]

/-! spec_Min -/
theorem spec_Min_eq (a b : Int) : spec_Min.f a b = some (if b < a then b else a) := by
  simp only [spec_Min.f, ite_some]

/-! type_87 -/
theorem rd_T87_pre (pre : List (S87)) (x : S87) (rest : List (S87)) : rd_T87 (pre ++ x :: rest) (pre.length : Int) = x := getD_pre pre x rest z87

/-! spec_TotalShares -/
theorem spec_TotalShares_ev (l : List (S87)) (h : l.length ≤ 1099511627776) : Ev (fun k => spec_TotalShares.f k l) (l.foldl (fun n x => wrap64 (n + mx 0 (mn x.f1 10000000))) 0) := by
  refine ev_range l (fun k n i => spec_TotalShares.l0 k l n i) (fun n r => r.foldl (fun n x => wrap64 (n + mx 0 (mn x.f1 10000000))) n) (fun _ _ => True) (by omega) ?_ ?_ 0 trivial
  · intro n _
    simp only [spec_TotalShares.l0, if_neg (Int.lt_irrefl _)]
    exact Ev.now _
  · intro pre x rest n _ hlt hget _ ih
    have hr : rd_T87 l (pre.length : Int) = x := hget _
    have e : (if (if x.f1 < 10000000 then x.f1 else 10000000) > 0 then (if x.f1 < 10000000 then x.f1 else 10000000) else 0) = mx 0 (mn x.f1 10000000) := by
      unfold mx mn
      split <;> split <;> split <;> omega
    simp only [spec_TotalShares.l0, if_pos hlt, if_pos (ge0 pre.length), hr, spec_Min_eq, spec_Max_eq, Option.bind_some, e]
    exact ih _ trivial

/-! type_89 -/
theorem rd_T89_pre (pre : List (S89)) (x : S89) (rest : List (S89)) : rd_T89 (pre ++ x :: rest) (pre.length : Int) = x := getD_pre pre x rest z89

/-! conv_Share -/
def cShare (x : S89) : S87 := ⟨x.f0, x.f1⟩

/-! laws_toShareS -/
theorem laws_toShareS_loop (rest : List (S89)) : ∀ (pre : List (S89)), (pre ++ rest).length ≤ 1099511627776 → Ev (fun k => laws_toShareS.l0 k (pre ++ rest) ((pre).map cShare ++ List.replicate rest.length z87) (pre.length : Int)) ((pre ++ rest).map cShare) := by
  induction rest with
  | nil =>
    intro pre h
    refine ev_succ ?_
    simp only [laws_toShareS.l0, if_neg (nlt_pre pre)]
    exact ev_const (by simp)
  | cons x rest ih =>
    intro pre h
    have hl := len_pre pre x rest
    have hlt : (pre.length : Int) < (((pre).map cShare ++ List.replicate (x :: rest).length z87).length : Int) := by
      simp
      omega
    have hset : ((pre).map cShare ++ List.replicate (x :: rest).length z87).set ((pre.length : Int)).toNat (⟨x.f0, x.f1⟩ : S87) = (pre ++ [x]).map cShare ++ List.replicate rest.length z87 := by
      simp [List.replicate_succ, cShare]
    refine ev_succ ?_
    simp only [laws_toShareS.l0, if_pos (lt_pre pre x rest), if_pos (ge0 pre.length), rd_T89_pre, laws_toShare.f, Option.bind_some, if_pos hlt, wsucc (show pre.length < 9223372036854775807 by omega)]
    refine ev_map (Ev.congr (fun k => ?_) (ih (pre ++ [x]) (by rw [← app_pre]; exact h))) (by rw [← app_pre pre x rest])
    rw [hset, snoc_len pre x, ← app_pre pre x rest]
theorem laws_toShareS_ev (l : List (S89)) (h : l.length ≤ 1048576) : Ev (fun k => laws_toShareS.f k l) (l.map cShare) := by
  have e := laws_toShareS_loop l [] (by simp; omega)
  unfold laws_toShareS.f
  simp only [if_pos (ge0 l.length), if_pos (show ((l.length : Int)).toNat ≤ 17592186044416 by omega)]
  exact e

/-! impl_TotalShares -/
theorem impl_TotalShares_ev (l : List (S87)) (h : l.length ≤ 1099511627776) : Ev (fun k => impl_TotalShares.f k l) (l.foldl (fun n x => wrap64 (n + mx 0 (mn x.f1 10000000))) 0) := by
  refine ev_range l (fun k n i => impl_TotalShares.l0 k n l (l.length : Int) i) (fun n r => r.foldl (fun n x => wrap64 (n + mx 0 (mn x.f1 10000000))) n) (fun _ _ => True) (by omega) ?_ ?_ 0 trivial
  · intro n _
    simp only [impl_TotalShares.l0, if_neg (Int.lt_irrefl _)]
    exact Ev.now _
  · intro pre x rest n _ hlt hget _ ih
    have hr : rd_T87 l (pre.length : Int) = x := hget _
    simp only [impl_TotalShares.l0, if_pos hlt, if_pos (ge0 pre.length), hr]
    exact ih _ trivial

/-! laws_eqShareS -/
theorem laws_eqShareS_loop (rest : List (S87)) : ∀ (pre : List (S87)), (pre ++ rest).length ≤ 1099511627776 → Ev (fun k => laws_eqShareS.l0 k (pre ++ rest) (pre ++ rest) (pre.length : Int)) true := by
  induction rest with
  | nil =>
    intro pre h
    refine ev_succ ?_
    simp only [laws_eqShareS.l0, if_neg (nlt_pre pre)]
    exact Ev.now _
  | cons x rest ih =>
    intro pre h
    have hl := len_pre pre x rest
    refine ev_succ ?_
    simp only [laws_eqShareS.l0, if_pos (lt_pre pre x rest), if_pos (ge0 pre.length), rd_T87_pre, laws_eqShare.f, Option.bind_some, if_true, wsucc (show pre.length < 9223372036854775807 by omega)]
    refine Ev.congr (fun k => ?_) (ih (pre ++ [x]) (by rw [← app_pre]; exact h))
    rw [snoc_len pre x, ← app_pre]
theorem laws_eqShareS_refl (l : List (S87)) (h : l.length ≤ 1099511627776) : Ev (fun k => laws_eqShareS.f k l l) true := by
  have e := laws_eqShareS_loop l [] h
  unfold laws_eqShareS.f
  simp only [if_true]
  exact e

/-! the law -/
theorem Pf.FnExactTotalShares : FnExactTotalSharesLaw := by
  intro l hm _
  refine Ev.rounds ?_
  unfold laws_FnExactTotalShares.f
  by_cases hl : (l.length : Int) ≤ 1048576
  · simp only [laws_szShareS_ok l 1048576 hl (by omega), Option.bind_some, if_neg (show ¬ (1048576 - (l.length : Int) < 0) by omega)]
    have hl' : l.length ≤ 1048576 := by omega
    have hc : (l.map cShare).length ≤ 1099511627776 := by rw [List.length_map]; omega
    refine Ev.bind (laws_toShareS_ev l hl') ?_
    refine Ev.bind (spec_TotalShares_ev _ (by omega)) ?_
    refine Ev.bind (laws_toShareS_ev l hl') ?_
    refine Ev.bind (impl_TotalShares_ev _ (by omega)) ?_
    simp only [if_true]
    refine Ev.bind (laws_toShareS_ev l hl') ?_
    refine Ev.bind (laws_eqShareS_refl _ hc) ?_
    simp only [if_true]
    exact Ev.now _
  · simp only [laws_szShareS_big l 1048576 (by omega) (by omega) hm, Option.bind_some]
    exact Ev.now _

end Go.Proofs.Ytoemmbagjjjimaa.PFnExactTotalShares
