/- The plain part of FnExactWithoutBid: what the printed functions come to, and that the law's answer is true. No conditions beyond those of the statement. -/
import Derived.Test.YtoemmbagjjjimaaPFnExactWithoutBidx
import Derived.Test.YtoemmbagjjjimaaBase
import Derived.Test.YtoemmbagjjjimaaDefFnExactWithoutBid
namespace Go.Proofs.Ytoemmbagjjjimaa.PFnExactWithoutBid
open Go.RowKit Go.Proofs.YtoemmbagjjjimaaW.PrintWords Go.Proofs.YtoemmbagjjjimaaW.PrintMore Go.Proofs.Ytoemmbagjjjimaa.Base
set_option linter.unusedVariables false
set_option linter.unusedSimpArgs false

/-! laws_szBidS -/
theorem laws_szBidS_ok (l : List (S104)) (a : Int) (h0 : (l.length : Int) ≤ a) (h1 : a ≤ 1048576) : laws_szBidS.f l a = some (a - (l.length : Int)) := by
  unfold laws_szBidS.f
  rw [w64 (by omega) (by omega), if_neg (by omega)]
theorem laws_szBidS_big (l : List (S104)) (a : Int) (h0 : a < (l.length : Int)) (h1 : 0 ≤ a) (h2 : l.length ≤ 9223372036854775807) : laws_szBidS.f l a = some (-1) := by
  unfold laws_szBidS.f
  rw [w64 (by omega) (by omega), if_pos (by omega)]

/-! type_104 -/
theorem rd_T104_pre (pre : List (S104)) (x : S104) (rest : List (S104)) : rd_T104 (pre ++ x :: rest) (pre.length : Int) = x := getD_pre pre x rest z104

/-! type_102 -/
theorem rd_T102_pre (pre : List (S102)) (x : S102) (rest : List (S102)) : rd_T102 (pre ++ x :: rest) (pre.length : Int) = x := getD_pre pre x rest z102

/-! conv_Bid -/
def cBid (x : S104) : S102 := ⟨x.f0, x.f1, x.f2⟩

/-! laws_toBidS -/
theorem laws_toBidS_loop (rest : List (S104)) : ∀ (pre : List (S104)), (pre ++ rest).length ≤ 1099511627776 → Ev (fun k => laws_toBidS.l0 k (pre ++ rest) ((pre).map cBid ++ List.replicate rest.length z102) (pre.length : Int)) ((pre ++ rest).map cBid) := by
  induction rest with
  | nil =>
    intro pre h
    refine ev_succ ?_
    simp only [laws_toBidS.l0, if_neg (nlt_pre pre)]
    exact ev_const (by simp)
  | cons x rest ih =>
    intro pre h
    have hl := len_pre pre x rest
    have hlt : (pre.length : Int) < (((pre).map cBid ++ List.replicate (x :: rest).length z102).length : Int) := by
      simp
      omega
    have hset : ((pre).map cBid ++ List.replicate (x :: rest).length z102).set ((pre.length : Int)).toNat (⟨x.f0, x.f1, x.f2⟩ : S102) = (pre ++ [x]).map cBid ++ List.replicate rest.length z102 := by
      simp [List.replicate_succ, cBid]
    refine ev_succ ?_
    simp only [laws_toBidS.l0, if_pos (lt_pre pre x rest), if_pos (ge0 pre.length), rd_T104_pre, laws_toBid.f, Option.bind_some, if_pos hlt, wsucc (show pre.length < 9223372036854775807 by omega)]
    refine ev_map (Ev.congr (fun k => ?_) (ih (pre ++ [x]) (by rw [← app_pre]; exact h))) (by rw [← app_pre pre x rest])
    rw [hset, snoc_len pre x, ← app_pre pre x rest]
theorem laws_toBidS_ev (l : List (S104)) (h : l.length ≤ 1048576) : Ev (fun k => laws_toBidS.f k l) (l.map cBid) := by
  have e := laws_toBidS_loop l [] (by simp; omega)
  unfold laws_toBidS.f
  simp only [if_pos (ge0 l.length), if_pos (show ((l.length : Int)).toNat ≤ 11728124029610 by omega)]
  exact e

/-! laws_eqBidS -/
theorem laws_eqBidS_loop (rest : List (S102)) : ∀ (pre : List (S102)), (pre ++ rest).length ≤ 1099511627776 → Ev (fun k => laws_eqBidS.l0 k (pre ++ rest) (pre ++ rest) (pre.length : Int)) true := by
  induction rest with
  | nil =>
    intro pre h
    refine ev_succ ?_
    simp only [laws_eqBidS.l0, if_neg (nlt_pre pre)]
    exact Ev.now _
  | cons x rest ih =>
    intro pre h
    have hl := len_pre pre x rest
    refine ev_succ ?_
    simp only [laws_eqBidS.l0, if_pos (lt_pre pre x rest), if_pos (ge0 pre.length), rd_T102_pre, laws_eqBid.f, Option.bind_some, if_true, wsucc (show pre.length < 9223372036854775807 by omega)]
    refine Ev.congr (fun k => ?_) (ih (pre ++ [x]) (by rw [← app_pre]; exact h))
    rw [snoc_len pre x, ← app_pre]
theorem laws_eqBidS_refl (l : List (S102)) (h : l.length ≤ 1099511627776) : Ev (fun k => laws_eqBidS.f k l l) true := by
  have e := laws_eqBidS_loop l [] h
  unfold laws_eqBidS.f
  simp only [if_true]
  exact e

/-! withoutBid -/
def withoutBid (l : List (S102)) (a : Int) : List (S102) := l.filter (fun x => !decide (x.f0 = a))
theorem withoutBid_len (l : List (S102)) (a : Int) : (withoutBid l a).length ≤ l.length := List.length_filter_le _ _

/-! spec_WithoutBid -/
theorem spec_WithoutBid_ev (l : List (S102)) (a : Int) (h : l.length ≤ 1099511627776) : Ev (fun k => spec_WithoutBid.f k l a) (withoutBid l a) := by
  refine ev_map (ev_range l (fun k (s : List (S102)) i => spec_WithoutBid.l0 k l a s i) (fun s r => s ++ withoutBid r a) (fun p s => s.length ≤ p.length) (by omega) ?_ ?_ [] (Nat.le_refl _)) (by simp)
  · intro s _
    simp only [spec_WithoutBid.l0, if_neg (Int.lt_irrefl _)]
    exact ev_const (by simp [withoutBid])
  · intro pre x rest s _ hlt hget hs ih
    have hr : rd_T102 l (pre.length : Int) = x := hget _
    have hx : (⟨x.f0, x.f1, x.f2⟩ : S102) = x := rfl
    have hs' : s.length ≤ pre.length := hs
    simp only [spec_WithoutBid.l0, if_pos hlt, if_pos (ge0 pre.length), hr, hx, if_pos (show s.length < 5864062014805 by omega)]
    by_cases h0 : x.f0 = a
    · simp only [if_pos h0]
      exact ev_map (ih s (by simp; omega)) (by simp [withoutBid, h0])
    · simp only [if_neg h0]
      exact ev_map (ih _ (by simp; omega)) (by simp [withoutBid, h0])

/-! impl_WithoutBid -/
theorem impl_WithoutBid_ev (l : List (S102)) (a : Int) (h : l.length ≤ 1099511627776) : Ev (fun k => impl_WithoutBid.f k l a) (withoutBid l a) := by
  refine ev_map (ev_range l (fun k (s : List (S102)) i => impl_WithoutBid.l0 k a s l (l.length : Int) i) (fun s r => s ++ withoutBid r a) (fun p s => s.length ≤ p.length) (by omega) ?_ ?_ [] (Nat.le_refl _)) (by simp)
  · intro s _
    simp only [impl_WithoutBid.l0, if_neg (Int.lt_irrefl _)]
    exact ev_const (by simp [withoutBid])
  · intro pre x rest s _ hlt hget hs ih
    have hr : rd_T102 l (pre.length : Int) = x := hget _
    have hx : (⟨x.f0, x.f1, x.f2⟩ : S102) = x := rfl
    have hs' : s.length ≤ pre.length := hs
    simp only [impl_WithoutBid.l0, if_pos hlt, if_pos (ge0 pre.length), hr, hx, if_pos (show s.length < 5864062014805 by omega)]
    by_cases h0 : x.f0 = a
    · simp only [if_pos h0]
      exact ev_map (ih s (by simp; omega)) (by simp [withoutBid, h0])
    · simp only [if_neg h0]
      exact ev_map (ih _ (by simp; omega)) (by simp [withoutBid, h0])

/-! marked_Bid -/
def markedBid : List (S102) → Int → List (S102)
  | [], _ => []
  | _ :: l, a => ⟨a, a + 1, a + 2⟩ :: markedBid l (a + 3)
theorem markedBid_length (l : List (S102)) : ∀ a, (markedBid l a).length = l.length := by
  induction l with
  | nil => intro a; rfl
  | cons x l ih => intro a; simp [markedBid, ih]
-- Bid

/-! laws_markBidS -/
theorem laws_markBidS_loop (rest : List (S102)) : ∀ (pre : List (S102)) (a : Int), 0 ≤ a → a + 3 * (rest.length : Int) ≤ 9223372036854775000 → (pre ++ rest).length ≤ 1099511627776 → Ev (fun k => laws_markBidS.l0 k (pre ++ rest) a (pre.length : Int)) (a + 3 * (rest.length : Int), pre ++ markedBid rest a) := by
  induction rest with
  | nil =>
    intro pre a h0 h1 h
    refine ev_succ ?_
    simp only [laws_markBidS.l0, if_neg (nlt_pre pre)]
    exact ev_const (by simp [markedBid])
  | cons x rest ih =>
    intro pre a h0 h1 h
    have hl := len_pre pre x rest
    rw [List.length_cons] at h1
    refine ev_succ ?_
    simp only [laws_markBidS.l0, if_pos (lt_pre pre x rest), if_pos (ge0 pre.length), rd_T102_pre, set_pre, Option.bind_some, wsucc (show pre.length < 9223372036854775807 by omega), w64 (x := a + 1) (by omega) (by omega), w64 (x := a + 2) (by omega) (by omega), w64 (x := a + 3) (by omega) (by omega), show a + 1 + 1 = a + 2 by omega, show a + 2 + 1 = a + 3 by omega]
    refine Ev.congr (fun k => ?_) (ev_map (ih (pre ++ [⟨a, a + 1, a + 2⟩]) (a + 3) (by omega) (by omega) (by rw [← app_pre, len_pre]; omega)) ?_)
    · rw [← app_pre, List.length_append, List.length_singleton]
    · simp only [markedBid, List.length_cons, List.append_assoc, List.singleton_append, Prod.mk.injEq, and_true]
      omega
theorem laws_markBidS_ev (l : List (S102)) (a : Int) (h0 : 0 ≤ a) (h1 : a ≤ 1099511627776) (h : l.length ≤ 1099511627776) : Ev (fun k => laws_markBidS.f k l a) (a + 3 * (l.length : Int), markedBid l a) := laws_markBidS_loop l [] a h0 (by omega) h

/-! laws_heldBidS -/
theorem laws_heldBidS_loop (rest : List (S102)) : ∀ (pre : List (S102)) (a : Int), 0 ≤ a → a + 3 * (rest.length : Int) ≤ 9223372036854775000 → (pre ++ rest).length ≤ 1099511627776 → Ev (fun k => laws_heldBidS.l0 k (pre ++ markedBid rest a) a (pre.length : Int)) (a + 3 * (rest.length : Int)) := by
  induction rest with
  | nil =>
    intro pre a h0 h1 h
    refine ev_succ ?_
    show Ev (fun k => laws_heldBidS.l0 (k + 1) (pre ++ []) a (pre.length : Int)) _
    simp only [laws_heldBidS.l0, if_neg (nlt_pre pre)]
    exact ev_const (by simp)
  | cons x rest ih =>
    intro pre a h0 h1 h
    have hl := len_pre pre x rest
    rw [List.length_cons] at h1
    refine ev_succ ?_
    show Ev (fun k => laws_heldBidS.l0 (k + 1) (pre ++ (⟨a, a + 1, a + 2⟩ : S102) :: markedBid rest (a + 3)) a (pre.length : Int)) _
    simp only [laws_heldBidS.l0, if_pos (lt_pre _ _ _), if_pos (ge0 pre.length), rd_T102_pre, wsucc (show pre.length < 9223372036854775807 by omega), w64 (x := a + 1) (by omega) (by omega), w64 (x := a + 2) (by omega) (by omega), w64 (x := a + 3) (by omega) (by omega), show a + 1 + 1 = a + 2 by omega, show a + 2 + 1 = a + 3 by omega, if_true]
    refine Ev.congr (fun k => ?_) (ev_map (ih (pre ++ [⟨a, a + 1, a + 2⟩]) (a + 3) (by omega) (by omega) (by rw [← app_pre, len_pre]; omega)) ?_)
    · rw [← app_pre, List.length_append, List.length_singleton]
    · rw [List.length_cons]
      omega
theorem laws_heldBidS_ev (l : List (S102)) (a : Int) (h0 : 0 ≤ a) (h1 : a ≤ 1099511627776) (h : l.length ≤ 1099511627776) : Ev (fun k => laws_heldBidS.f k (markedBid l a) a) (a + 3 * (l.length : Int)) := laws_heldBidS_loop l [] a h0 (by omega) h

/-! the law -/
theorem Pf.FnExactWithoutBid : FnExactWithoutBidLaw := by
  intro l0 a1 hm0 hq0 hq1
  refine Ev.rounds ?_
  unfold laws_FnExactWithoutBid.f
  by_cases hl0 : (l0.length : Int) ≤ 1048576
  · have hsz0 : ¬ (1048576 - (l0.length : Int) < 0) := by omega
    simp only [laws_szBidS_ok l0 (1048576) hl0 (by omega), Option.bind_some, if_neg hsz0]
    have hc0 : (l0.map cBid).length ≤ 1048576 := by rw [List.length_map]; omega
    have hk0 : ¬ ((1 : Int) + 3 * ((l0.map cBid).length : Int) < 0) := by omega
    have hR0 : (withoutBid (l0.map cBid) a1).length ≤ 1099511627776 := Nat.le_trans (withoutBid_len _ _) (by omega)
    have hr0 : ¬ ((1 : Int) + 3 * ((withoutBid (l0.map cBid) a1).length : Int) < 0) := by omega
    repeat' first
      | exact Ev.now _
      | refine Ev.bind (spec_WithoutBid_ev _ _ (by omega)) ?_
      | refine Ev.bind (impl_WithoutBid_ev _ _ (by omega)) ?_
      | refine Ev.bind (laws_toBidS_ev _ (by omega)) ?_
      | refine Ev.bind (laws_eqBidS_refl _ (by omega)) ?_
      | refine Ev.bind (laws_markBidS_ev _ _ (by omega) (by omega) (by omega)) ?_
      | refine Ev.bind (laws_heldBidS_ev _ _ (by omega) (by omega) (by omega)) ?_
      | simp only [if_true, if_false, Bool.not_true, Bool.not_false, bne_self_eq_false, Bool.false_eq_true, Option.bind_some, if_neg hk0, if_neg hr0]
      | (refine ev_succ ?_; simp only [laws_FnExactWithoutBid.j0])
  · simp only [laws_szBidS_big l0 (1048576) (by omega) (by omega) hm0, Option.bind_some]
    exact Ev.now _

end Go.Proofs.Ytoemmbagjjjimaa.PFnExactWithoutBid
