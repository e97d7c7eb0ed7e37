/- The plain part of FnExactAreBids: what the printed functions come to, and that the law's answer is true. No conditions beyond those of the statement. -/
import Derived.Test.YtoemmbagjjjimaaPFnExactAreBidsx
import Derived.Test.YtoemmbagjjjimaaBase
import Derived.Test.YtoemmbagjjjimaaDefFnExactAreBids
namespace Go.Proofs.Ytoemmbagjjjimaa.PFnExactAreBids
open Go.RowKit Go.Proofs.YtoemmbagjjjimaaW.PrintWords Go.Proofs.YtoemmbagjjjimaaW.PrintMore Go.Proofs.Ytoemmbagjjjimaa.Base
set_option linter.unusedVariables false
set_option linter.unusedSimpArgs false

/-! laws_szBidS -/
theorem laws_szBidS_ok (l : List (S104)) (a : Int) (h0 : (l.length : Int) ≤ a) (h1 : a ≤ 1048576) : laws_szBidS.f l a = some (a - (l.length : Int)) := by
  unfold laws_szBidS.f
  rw [w64 (by omega) (by omega), if_neg (by omega)]
theorem laws_szBidS_big (l : List (S104)) (a : Int) (h0 : a < (l.length : Int)) (h1 : 0 ≤ a) (h2 : l.length ≤ 9223372036854775807) : laws_szBidS.f l a = some (-1) := by
  unfold laws_szBidS.f
  rw [w64 (by omega) (by omega), if_pos (by omega)]

/-! spec_l1In -/
theorem spec_l1In_eq (a b c : Int) : spec_l1In.f a b c = some (inr a b c) := by
  unfold spec_l1In.f inr
  by_cases h : b ≤ a <;> simp [h]

/-! type_102 -/
theorem rd_T102_pre (pre : List (S102)) (x : S102) (rest : List (S102)) : rd_T102 (pre ++ x :: rest) (pre.length : Int) = x := getD_pre pre x rest z102

/-! areBids -/
def bdClash (x y : S102) : Bool := decide (y.f0 = x.f0)
def bdOk : List (S102) → List (S102) → Bool
  | _, [] => true
  | pre, x :: rest => isBid x.f0 x.f1 && (!pre.any (bdClash x) && bdOk (pre ++ [x]) rest)
def areBids (l : List (S102)) : Bool := decide (l.length ≤ 20) && bdOk [] l

/-! spec_AreBids -/
theorem spec_AreBids_j1_true (l : List (S102)) (i : Int) : Ev (fun k => spec_AreBids.j1 k l i true) false := by
  refine ev_succ ?_
  simp only [spec_AreBids.j1, if_true]
  exact Ev.now _
theorem spec_AreBids_j1_false {l pre rest : List (S102)} {x : S102} (e : l = pre ++ x :: rest) (hl : l.length < 9223372036854775807) (R : Bool) (ih : Ev (fun k => spec_AreBids.l0 k l (wrap64 ((pre.length : Int) + 1))) R) :
    Ev (fun k => spec_AreBids.j1 k l (pre.length : Int) false) (!pre.any (bdClash x) && R) := by
  have hlen : l.length = pre.length + (rest.length + 1) := by rw [e, len_pre]
  have hx : rd_T102 l (pre.length : Int) = x := by
    unfold rd_T102
    rw [e]
    simp
  refine ev_succ ?_
  simp only [spec_AreBids.j1, Bool.false_eq_true, if_false]
  refine ev_range pre (fun k _ j => spec_AreBids.l1 k l (pre.length : Int) j) (fun _ r => !r.any (bdClash x) && R) (fun _ _ => True) (by omega) ?_ ?_ () trivial
  · intro _ _
    simp only [spec_AreBids.l1, if_neg (Int.lt_irrefl _)]
    simpa using ih
  · intro p y r _ ep hlt hget _ ihj
    have hr : rd_T102 l (p.length : Int) = y := by
      have := hget z102
      unfold rd_T102
      rw [e, getD_app _ _ _ (by omega)]
      exact this
    simp only [spec_AreBids.l1, if_pos hlt, if_pos (ge0 p.length), if_pos (show (p.length : Int) < (l.length : Int) by omega), if_pos (ge0 pre.length), if_pos (show (pre.length : Int) < (l.length : Int) by omega), hr, hx]
    by_cases h0 : y.f0 = x.f0
    · simp only [if_pos h0]
      exact ev_const (by simp [bdClash, h0])
    · simp only [if_neg h0]
      exact ev_map (ihj () trivial) (by simp [bdClash, h0])
theorem spec_AreBids_ev (l : List (S102)) (hl : l.length < 9223372036854775807) : Ev (fun k => spec_AreBids.f k l) (areBids l) := by
  refine ev_map (ev_range l (fun k (_ : List (S102)) i => spec_AreBids.l0 k l i) (fun s r => bdOk s r && decide ((l.length : Int) ≤ 20)) (fun p s => s = p) hl ?_ ?_ [] rfl) ?_
  · intro s _
    simp only [spec_AreBids.l0, if_neg (Int.lt_irrefl _)]
    exact ev_const (by simp [bdOk])
  · rintro pre x rest s e hlt hget rfl ih
    have hr : rd_T102 l (s.length : Int) = x := hget _
    have ih' := ih _ rfl
    simp only [spec_AreBids.l0, if_pos hlt, if_pos (ge0 s.length), hr, spec_l1In_eq, Option.bind_some, bdOk, isBid]
    cases h1 : inr x.f0 1 999 with
    | false => exact spec_AreBids_j1_true _ _
    | true =>
      cases h2 : inr x.f1 1 10000000 with
      | false => exact spec_AreBids_j1_true _ _
      | true =>
        simp only [if_true, Bool.true_and, Bool.not_true, Bool.and_assoc]
        exact spec_AreBids_j1_false e hl _ ih'
  · unfold areBids
    rw [Bool.and_comm, show decide ((l.length : Int) ≤ 20) = decide (l.length ≤ 20) from decide_eq_decide.2 (by omega)]

/-! type_104 -/
theorem rd_T104_pre (pre : List (S104)) (x : S104) (rest : List (S104)) : rd_T104 (pre ++ x :: rest) (pre.length : Int) = x := getD_pre pre x rest z104

/-! conv_Bid -/
def cBid (x : S104) : S102 := (⟨x.f0, x.f1, x.f2⟩ : S102)

/-! laws_toBidS -/
theorem laws_toBidS_loop (rest : List (S104)) : ∀ (pre : List (S104)), (pre ++ rest).length ≤ 1099511627776 → Ev (fun k => laws_toBidS.l0 k (pre ++ rest) ((pre).map cBid ++ List.replicate rest.length z102) (pre.length : Int)) ((pre ++ rest).map cBid) := by
  induction rest with
  | nil =>
    intro pre h
    refine ev_succ ?_
    simp only [laws_toBidS.l0, if_neg (nlt_pre pre)]
    exact ev_const (by simp)
  | cons x rest ih =>
    intro pre h
    have hl := len_pre pre x rest
    have hlt : (pre.length : Int) < (((pre).map cBid ++ List.replicate (x :: rest).length z102).length : Int) := by
      simp
      omega
    have hset : ((pre).map cBid ++ List.replicate (x :: rest).length z102).set ((pre.length : Int)).toNat (⟨x.f0, x.f1, x.f2⟩ : S102) = (pre ++ [x]).map cBid ++ List.replicate rest.length z102 := by
      simp [List.replicate_succ, cBid]
    refine ev_succ ?_
    simp only [laws_toBidS.l0, if_pos (lt_pre pre x rest), if_pos (ge0 pre.length), rd_T104_pre, laws_toBid.f, Option.bind_some, if_pos hlt, wsucc (show pre.length < 9223372036854775807 by omega)]
    refine ev_map (Ev.congr (fun k => ?_) (ih (pre ++ [x]) (by rw [← app_pre]; exact h))) (by rw [← app_pre pre x rest])
    rw [hset, snoc_len pre x, ← app_pre pre x rest]
theorem laws_toBidS_ev (l : List (S104)) (h : l.length ≤ 1048576) : Ev (fun k => laws_toBidS.f k l) (l.map cBid) := by
  have e := laws_toBidS_loop l [] (by simp; omega)
  unfold laws_toBidS.f
  simp only [if_pos (ge0 l.length), if_pos (show ((l.length : Int)).toNat ≤ 11728124029610 by omega)]
  exact e

/-! impl_InRange -/
theorem impl_InRange_eq (a b c : Int) : impl_InRange.f a b c = some (inr a b c) := by
  unfold impl_InRange.f inr
  by_cases h : b ≤ a <;> simp [h]

/-! impl_isBid -/
theorem impl_isBid_eq (a b c : Int) : impl_isBid.f a b c = some (isBid a b) := by
  simp only [impl_isBid.f, impl_InRange_eq, Option.bind_some, ite_and, isBid]

/-! impl_AreBids -/
theorem impl_AreBids_ev (l : List (S102)) (hl : l.length < 9223372036854775807) : Ev (fun k => impl_AreBids.f k l) (areBids l) := by
  unfold impl_AreBids.f areBids
  by_cases hb : (l.length : Int) > 20
  · simp only [if_pos hb]
    exact ev_const (by simp; omega)
  · simp only [if_neg hb, show decide (l.length ≤ 20) = true from decide_eq_true (by omega), Bool.true_and]
    refine ev_range l (fun k (_ : List (S102)) i => impl_AreBids.l0 k l l (l.length : Int) i) (fun s r => bdOk s r) (fun p s => s = p) hl ?_ ?_ [] rfl
    · intro s _
      simp only [impl_AreBids.l0, if_neg (Int.lt_irrefl _)]
      exact ev_const (by simp [bdOk])
    · rintro pre x rest s e hlt hget rfl ih
      have hr : rd_T102 l (s.length : Int) = x := hget _
      have ih' := ih _ rfl
      have ht : l.take ((s.length : Int)).toNat = s := by rw [e]; simp
      have hp : impl_AreBids_1.p x.f0 x.f1 x.f2 = bdClash x := rfl
      simp only [impl_AreBids.l0, if_pos hlt, if_pos (ge0 s.length), hr, impl_isBid_eq, Option.bind_some, bdOk, if_pos (show (s.length : Int) ≤ (l.length : Int) by omega), ht, impl_AreBids_1.f, hp]
      cases h1 : isBid x.f0 x.f1 with
      | false =>
        simp only [Bool.false_eq_true, if_false, Bool.false_and]
        exact Ev.now _
      | true =>
        cases h2 : s.any (bdClash x) with
        | true =>
          simp only [if_true, Bool.not_true, Bool.false_and, Bool.and_false]
          exact Ev.now _
        | false =>
          simp only [if_true, Bool.false_eq_true, if_false, Bool.not_false, Bool.true_and]
          exact ih'

/-! laws_eqBidS -/
theorem laws_eqBidS_loop (rest : List (S102)) : ∀ (pre : List (S102)), (pre ++ rest).length ≤ 1099511627776 → Ev (fun k => laws_eqBidS.l0 k (pre ++ rest) (pre ++ rest) (pre.length : Int)) true := by
  induction rest with
  | nil =>
    intro pre h
    refine ev_succ ?_
    simp only [laws_eqBidS.l0, if_neg (nlt_pre pre)]
    exact Ev.now _
  | cons x rest ih =>
    intro pre h
    have hl := len_pre pre x rest
    refine ev_succ ?_
    simp only [laws_eqBidS.l0, if_pos (lt_pre pre x rest), if_pos (ge0 pre.length), rd_T102_pre, laws_eqBid.f, Option.bind_some, if_true, wsucc (show pre.length < 9223372036854775807 by omega)]
    refine Ev.congr (fun k => ?_) (ih (pre ++ [x]) (by rw [← app_pre]; exact h))
    rw [snoc_len pre x, ← app_pre]
theorem laws_eqBidS_refl (l : List (S102)) (h : l.length ≤ 1099511627776) : Ev (fun k => laws_eqBidS.f k l l) true := by
  have e := laws_eqBidS_loop l [] h
  unfold laws_eqBidS.f
  simp only [if_true]
  exact e

/-! the law -/
theorem Pf.FnExactAreBids : FnExactAreBidsLaw := by
  intro l hm _
  refine Ev.rounds ?_
  unfold laws_FnExactAreBids.f
  by_cases hl : (l.length : Int) ≤ 1048576
  · simp only [laws_szBidS_ok l 1048576 hl (by omega), Option.bind_some, if_neg (show ¬ (1048576 - (l.length : Int) < 0) by omega)]
    have hl' : l.length ≤ 1048576 := by omega
    have hc : (l.map cBid).length ≤ 1099511627776 := by rw [List.length_map]; omega
    refine Ev.bind (laws_toBidS_ev l hl') ?_
    refine Ev.bind (spec_AreBids_ev _ (by omega)) ?_
    refine Ev.bind (laws_toBidS_ev l hl') ?_
    refine Ev.bind (impl_AreBids_ev _ (by omega)) ?_
    simp only [bne_self_eq_false, Bool.false_eq_true, if_false]
    refine Ev.bind (laws_toBidS_ev l hl') ?_
    refine Ev.bind (laws_eqBidS_refl _ hc) ?_
    simp only [if_true]
    exact Ev.now _
  · simp only [laws_szBidS_big l 1048576 (by omega) (by omega) hm, Option.bind_some]
    exact Ev.now _

end Go.Proofs.Ytoemmbagjjjimaa.PFnExactAreBids
