/- The plain part of FnExactCountFate: what the printed functions come to, and that the law's answer is true. No conditions beyond those of the statement. -/
import Derived.Test.YtnnlkklmpahppaaPFnExactCountFatex
import Derived.Test.YtnnlkklmpahppaaBase
import Derived.Test.YtnnlkklmpahppaaDefFnExactCountFate
namespace Go.Proofs.Ytnnlkklmpahppaa.PFnExactCountFate
open Go.RowKit Go.Proofs.YtnnlkklmpahppaaW.PrintWords Go.Proofs.YtnnlkklmpahppaaW.PrintMore Go.Proofs.Ytnnlkklmpahppaa.Base
set_option linter.unusedVariables false
set_option linter.unusedSimpArgs false

/-! spec_CountFate -/
theorem spec_CountFate_ev (l : List Int) (f : Int) (h : l.length ≤ 1099511627776) : Ev (fun k => spec_CountFate.f k l f) (l.foldl (fun n x => if x = f then wrap64 (n + 1) else n) 0) := by
  refine ev_range l (fun k n i => spec_CountFate.l0 k l f n i) (fun n r => r.foldl (fun n x => if x = f then wrap64 (n + 1) else n) n) (fun _ _ => True) (by omega) ?_ ?_ 0 trivial
  · intro n _
    simp only [spec_CountFate.l0, if_neg (Int.lt_irrefl _)]
    exact Ev.now _
  · intro pre x rest n _ hlt hget _ ih
    have hr : rd l (pre.length : Int) = x := hget 0
    simp only [spec_CountFate.l0, if_pos hlt, if_pos (ge0 pre.length), hr]
    by_cases hx : x = f
    · simp only [if_pos hx]
      exact ev_map (ih _ trivial) (by simp [hx])
    · simp only [if_neg hx]
      exact ev_map (ih _ trivial) (by simp [hx])

/-! laws_toIntS -/
theorem laws_toIntS_loop (rest : List Int) : ∀ (pre : List Int), (pre ++ rest).length ≤ 1099511627776 → Ev (fun k => laws_toIntS.l0 k (pre ++ rest) (pre ++ List.replicate rest.length (0 : Int)) (pre.length : Int)) (pre ++ rest) := by
  induction rest with
  | nil =>
    intro pre h
    refine ev_succ ?_
    simp only [laws_toIntS.l0, if_neg (nlt_pre pre)]
    exact ev_const (by simp)
  | cons x rest ih =>
    intro pre h
    have hl := len_pre pre x rest
    have hlt : (pre.length : Int) < ((pre ++ List.replicate (x :: rest).length (0 : Int)).length : Int) := by
      simp
      omega
    have hset : (pre ++ List.replicate (x :: rest).length (0 : Int)).set ((pre.length : Int)).toNat x = (pre ++ [x]) ++ List.replicate rest.length (0 : Int) := by
      simp [List.replicate_succ]
    refine ev_succ ?_
    simp only [laws_toIntS.l0, if_pos (lt_pre pre x rest), if_pos (ge0 pre.length), rd_pre, Option.bind_some, if_pos hlt, wsucc (show pre.length < 9223372036854775807 by omega)]
    refine ev_map (Ev.congr (fun k => ?_) (ih (pre ++ [x]) (by rw [← app_pre]; exact h))) (by rw [← app_pre pre x rest])
    rw [hset, snoc_len pre x, ← app_pre pre x rest]
theorem laws_toIntS_ev (l : List Int) (h : l.length ≤ 1048576) : Ev (fun k => laws_toIntS.f k l) (l) := by
  have e := laws_toIntS_loop l [] (by simp; omega)
  unfold laws_toIntS.f
  simp only [if_pos (ge0 l.length), if_pos (show ((l.length : Int)).toNat ≤ 35184372088832 by omega)]
  exact e

/-! impl_CountFate -/
theorem impl_CountFate_ev (l : List Int) (f : Int) (h : l.length ≤ 1099511627776) : Ev (fun k => impl_CountFate.f k l f) (l.foldl (fun n x => if x = f then wrap64 (n + 1) else n) 0) := by
  refine ev_range l (fun k n i => impl_CountFate.l0 k f n l (l.length : Int) i) (fun n r => r.foldl (fun n x => if x = f then wrap64 (n + 1) else n) n) (fun _ _ => True) (by omega) ?_ ?_ 0 trivial
  · intro n _
    simp only [impl_CountFate.l0, if_neg (Int.lt_irrefl _)]
    exact Ev.now _
  · intro pre x rest n _ hlt hget _ ih
    have hr : rd l (pre.length : Int) = x := hget 0
    simp only [impl_CountFate.l0, if_pos hlt, if_pos (ge0 pre.length), hr]
    by_cases hx : x = f
    · simp only [if_pos hx]
      exact ev_map (ih _ trivial) (by simp [hx])
    · simp only [if_neg hx]
      exact ev_map (ih _ trivial) (by simp [hx])

/-! laws_eqIntS -/
theorem laws_eqIntS_loop (rest : List Int) : ∀ (pre : List Int), (pre ++ rest).length ≤ 1099511627776 → Ev (fun k => laws_eqIntS.l0 k (pre ++ rest) (pre ++ rest) (pre.length : Int)) true := by
  induction rest with
  | nil =>
    intro pre h
    refine ev_succ ?_
    simp only [laws_eqIntS.l0, if_neg (nlt_pre pre)]
    exact Ev.now _
  | cons x rest ih =>
    intro pre h
    have hl := len_pre pre x rest
    refine ev_succ ?_
    simp only [laws_eqIntS.l0, if_pos (lt_pre pre x rest), if_pos (ge0 pre.length), rd_pre, Option.bind_some, if_true, wsucc (show pre.length < 9223372036854775807 by omega)]
    refine Ev.congr (fun k => ?_) (ih (pre ++ [x]) (by rw [← app_pre]; exact h))
    rw [snoc_len pre x, ← app_pre]
theorem laws_eqIntS_refl (l : List Int) (h : l.length ≤ 1099511627776) : Ev (fun k => laws_eqIntS.f k l l) true := by
  have e := laws_eqIntS_loop l [] h
  unfold laws_eqIntS.f
  simp only [if_true]
  exact e

/-! the law -/
theorem Pf.FnExactCountFate : FnExactCountFateLaw := by
  intro l f hm _ _
  refine Ev.rounds ?_
  unfold laws_FnExactCountFate.f
  by_cases hl : (l.length : Int) > 1048576
  · simp only [if_pos hl]
    exact Ev.now _
  · simp only [if_neg hl]
    have hl' : l.length ≤ 1048576 := by omega
    refine Ev.bind (laws_toIntS_ev l hl') ?_
    refine Ev.bind (spec_CountFate_ev l f (by omega)) ?_
    refine Ev.bind (laws_toIntS_ev l hl') ?_
    refine Ev.bind (impl_CountFate_ev l f (by omega)) ?_
    simp only [if_true]
    refine Ev.bind (laws_toIntS_ev l hl') ?_
    refine Ev.bind (laws_eqIntS_refl l (by omega)) ?_
    simp only [if_true]
    exact Ev.now _

end Go.Proofs.Ytnnlkklmpahppaa.PFnExactCountFate
