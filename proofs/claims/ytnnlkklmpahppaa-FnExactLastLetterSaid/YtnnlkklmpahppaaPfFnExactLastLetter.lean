/- The plain part of FnExactLastLetter: what the printed functions come to, and that the law's answer is true. No conditions beyond those of the statement. -/
import Derived.Test.YtnnlkklmpahppaaPFnExactLastLetterx
import Derived.Test.YtnnlkklmpahppaaBase
import Derived.Test.YtnnlkklmpahppaaDefFnExactLastLetter
namespace Go.Proofs.Ytnnlkklmpahppaa.PFnExactLastLetter
open Go.RowKit Go.Proofs.YtnnlkklmpahppaaW.PrintWords Go.Proofs.YtnnlkklmpahppaaW.PrintMore Go.Proofs.Ytnnlkklmpahppaa.Base
set_option linter.unusedVariables false
set_option linter.unusedSimpArgs false

/-! laws_szLetterS -/
theorem laws_szLetterS_ok (l : List (S76)) (a : Int) (h0 : (l.length : Int) ≤ a) (h1 : a ≤ 1048576) : laws_szLetterS.f l a = some (a - (l.length : Int)) := by
  unfold laws_szLetterS.f
  rw [w64 (by omega) (by omega), if_neg (by omega)]
theorem laws_szLetterS_big (l : List (S76)) (a : Int) (h0 : a < (l.length : Int)) (h1 : 0 ≤ a) (h2 : l.length ≤ 9223372036854775807) : laws_szLetterS.f l a = some (-1) := by
  unfold laws_szLetterS.f
  rw [w64 (by omega) (by omega), if_pos (by omega)]

/-! type_76 -/
theorem rd_T76_pre (pre : List (S76)) (x : S76) (rest : List (S76)) : rd_T76 (pre ++ x :: rest) (pre.length : Int) = x := getD_pre pre x rest z76

/-! type_74 -/
theorem rd_T74_pre (pre : List (S74)) (x : S74) (rest : List (S74)) : rd_T74 (pre ++ x :: rest) (pre.length : Int) = x := getD_pre pre x rest z74

/-! conv_Letter -/
def cLetter (x : S76) : S74 := ⟨x.f0, x.f1, x.f2⟩

/-! laws_toLetterS -/
theorem laws_toLetterS_loop (rest : List (S76)) : ∀ (pre : List (S76)), (pre ++ rest).length ≤ 1099511627776 → Ev (fun k => laws_toLetterS.l0 k (pre ++ rest) ((pre).map cLetter ++ List.replicate rest.length z74) (pre.length : Int)) ((pre ++ rest).map cLetter) := by
  induction rest with
  | nil =>
    intro pre h
    refine ev_succ ?_
    simp only [laws_toLetterS.l0, if_neg (nlt_pre pre)]
    exact ev_const (by simp)
  | cons x rest ih =>
    intro pre h
    have hl := len_pre pre x rest
    have hlt : (pre.length : Int) < (((pre).map cLetter ++ List.replicate (x :: rest).length z74).length : Int) := by
      simp
      omega
    have hset : ((pre).map cLetter ++ List.replicate (x :: rest).length z74).set ((pre.length : Int)).toNat (⟨x.f0, x.f1, x.f2⟩ : S74) = (pre ++ [x]).map cLetter ++ List.replicate rest.length z74 := by
      simp [List.replicate_succ, cLetter]
    refine ev_succ ?_
    simp only [laws_toLetterS.l0, if_pos (lt_pre pre x rest), if_pos (ge0 pre.length), rd_T76_pre, laws_toLetter.f, Option.bind_some, if_pos hlt, wsucc (show pre.length < 9223372036854775807 by omega)]
    refine ev_map (Ev.congr (fun k => ?_) (ih (pre ++ [x]) (by rw [← app_pre]; exact h))) (by rw [← app_pre pre x rest])
    rw [hset, snoc_len pre x, ← app_pre pre x rest]
theorem laws_toLetterS_ev (l : List (S76)) (h : l.length ≤ 1048576) : Ev (fun k => laws_toLetterS.f k l) (l.map cLetter) := by
  have e := laws_toLetterS_loop l [] (by simp; omega)
  unfold laws_toLetterS.f
  simp only [if_pos (ge0 l.length), if_pos (show ((l.length : Int)).toNat ≤ 11728124029610 by omega)]
  exact e

/-! laws_eqLetterS -/
theorem laws_eqLetterS_loop (rest : List (S74)) : ∀ (pre : List (S74)), (pre ++ rest).length ≤ 1099511627776 → Ev (fun k => laws_eqLetterS.l0 k (pre ++ rest) (pre ++ rest) (pre.length : Int)) true := by
  induction rest with
  | nil =>
    intro pre h
    refine ev_succ ?_
    simp only [laws_eqLetterS.l0, if_neg (nlt_pre pre)]
    exact Ev.now _
  | cons x rest ih =>
    intro pre h
    have hl := len_pre pre x rest
    refine ev_succ ?_
    simp only [laws_eqLetterS.l0, if_pos (lt_pre pre x rest), if_pos (ge0 pre.length), rd_T74_pre, laws_eqLetter.f, Option.bind_some, if_true, wsucc (show pre.length < 9223372036854775807 by omega)]
    refine Ev.congr (fun k => ?_) (ih (pre ++ [x]) (by rw [← app_pre]; exact h))
    rw [snoc_len pre x, ← app_pre]
theorem laws_eqLetterS_refl (l : List (S74)) (h : l.length ≤ 1099511627776) : Ev (fun k => laws_eqLetterS.f k l l) true := by
  have e := laws_eqLetterS_loop l [] h
  unfold laws_eqLetterS.f
  simp only [if_true]
  exact e

/-! spec_LastLetter -/
theorem spec_LastLetter_ev (l : List (S74)) (f : Int) (h : l.length ≤ 1099511627776) : Ev (fun k => spec_LastLetter.f k l f) (l.foldl (fun n x => if x.f0 = f then x.f2 else n) (-1)) := by
  refine ev_range l (fun k n i => spec_LastLetter.l0 k l f n i) (fun n r => r.foldl (fun n x => if x.f0 = f then x.f2 else n) n) (fun _ _ => True) (by omega) ?_ ?_ (-1) trivial
  · intro n _
    simp only [spec_LastLetter.l0, if_neg (Int.lt_irrefl _)]
    exact Ev.now _
  · intro pre x rest n _ hlt hget _ ih
    have hr : rd_T74 l (pre.length : Int) = x := hget _
    simp only [spec_LastLetter.l0, if_pos hlt, if_pos (ge0 pre.length), hr]
    by_cases hx : x.f0 = f
    · simp only [if_pos hx]
      exact ev_map (ih _ trivial) (by simp [hx])
    · simp only [if_neg hx]
      exact ev_map (ih _ trivial) (by simp [hx])

/-! impl_LastLetter -/
theorem impl_LastLetter_ev (l : List (S74)) (f : Int) (h : l.length ≤ 1099511627776) : Ev (fun k => impl_LastLetter.f k l f) (l.foldl (fun n x => if x.f0 = f then x.f2 else n) (-1)) := by
  refine ev_range l (fun k n i => impl_LastLetter.l0 k f n l (l.length : Int) i) (fun n r => r.foldl (fun n x => if x.f0 = f then x.f2 else n) n) (fun _ _ => True) (by omega) ?_ ?_ (-1) trivial
  · intro n _
    simp only [impl_LastLetter.l0, if_neg (Int.lt_irrefl _)]
    exact Ev.now _
  · intro pre x rest n _ hlt hget _ ih
    have hr : rd_T74 l (pre.length : Int) = x := hget _
    simp only [impl_LastLetter.l0, if_pos hlt, if_pos (ge0 pre.length), hr]
    by_cases hx : x.f0 = f
    · simp only [if_pos hx]
      exact ev_map (ih _ trivial) (by simp [hx])
    · simp only [if_neg hx]
      exact ev_map (ih _ trivial) (by simp [hx])

/-! the law -/
theorem Pf.FnExactLastLetter : FnExactLastLetterLaw := by
  intro l f hm _ _
  refine Ev.rounds ?_
  unfold laws_FnExactLastLetter.f
  by_cases hl : (l.length : Int) ≤ 1048576
  · simp only [laws_szLetterS_ok l 1048576 hl (by omega), Option.bind_some, if_neg (show ¬ (1048576 - (l.length : Int) < 0) by omega)]
    have hl' : l.length ≤ 1048576 := by omega
    have hc : (l.map cLetter).length ≤ 1099511627776 := by rw [List.length_map]; omega
    refine Ev.bind (laws_toLetterS_ev l hl') ?_
    refine Ev.bind (spec_LastLetter_ev _ f hc) ?_
    refine Ev.bind (laws_toLetterS_ev l hl') ?_
    refine Ev.bind (impl_LastLetter_ev _ f hc) ?_
    simp only [if_true]
    refine Ev.bind (laws_toLetterS_ev l hl') ?_
    refine Ev.bind (laws_eqLetterS_refl _ hc) ?_
    simp only [if_true]
    exact Ev.now _
  · simp only [laws_szLetterS_big l 1048576 (by omega) (by omega) hm, Option.bind_some]
    exact Ev.now _

end Go.Proofs.Ytnnlkklmpahppaa.PFnExactLastLetter
