/- The plain part of FnExactHousesOf: what the printed functions come to, and that the law's answer is true. No conditions beyond those of the statement. -/
import Derived.Test.YtoemmbagjjjimaaPFnExactHousesOfx
import Derived.Test.YtoemmbagjjjimaaBase
import Derived.Test.YtoemmbagjjjimaaDefFnExactHousesOf
namespace Go.Proofs.Ytoemmbagjjjimaa.PFnExactHousesOf
open Go.RowKit Go.Proofs.YtoemmbagjjjimaaW.PrintWords Go.Proofs.YtoemmbagjjjimaaW.PrintMore Go.Proofs.Ytoemmbagjjjimaa.Base
set_option linter.unusedVariables false
set_option linter.unusedSimpArgs false

/-! laws_eqIntS -/
theorem laws_eqIntS_loop (rest : List Int) : ∀ (pre : List Int), (pre ++ rest).length ≤ 1099511627776 → Ev (fun k => laws_eqIntS.l0 k (pre ++ rest) (pre ++ rest) (pre.length : Int)) true := by
  induction rest with
  | nil =>
    intro pre h
    refine ev_succ ?_
    simp only [laws_eqIntS.l0, if_neg (nlt_pre pre)]
    exact Ev.now _
  | cons x rest ih =>
    intro pre h
    have hl := len_pre pre x rest
    refine ev_succ ?_
    simp only [laws_eqIntS.l0, if_pos (lt_pre pre x rest), if_pos (ge0 pre.length), rd_pre, Option.bind_some, if_true, wsucc (show pre.length < 9223372036854775807 by omega)]
    refine Ev.congr (fun k => ?_) (ih (pre ++ [x]) (by rw [← app_pre]; exact h))
    rw [snoc_len pre x, ← app_pre]
theorem laws_eqIntS_refl (l : List Int) (h : l.length ≤ 1099511627776) : Ev (fun k => laws_eqIntS.f k l l) true := by
  have e := laws_eqIntS_loop l [] h
  unfold laws_eqIntS.f
  simp only [if_true]
  exact e

/-! marked_Int -/
def markedInt : List Int → Int → List Int
  | [], _ => []
  | _ :: l, a => a :: markedInt l (a + 1)
theorem markedInt_length (l : List Int) : ∀ a, (markedInt l a).length = l.length := by
  induction l with
  | nil => intro a; rfl
  | cons x l ih => intro a; simp [markedInt, ih]
-- Int

/-! laws_markIntS -/
theorem laws_markIntS_loop (rest : List Int) : ∀ (pre : List Int) (a : Int), 0 ≤ a → a + 1 * (rest.length : Int) ≤ 9223372036854775000 → (pre ++ rest).length ≤ 1099511627776 → Ev (fun k => laws_markIntS.l0 k (pre ++ rest) a (pre.length : Int)) (a + 1 * (rest.length : Int), pre ++ markedInt rest a) := by
  induction rest with
  | nil =>
    intro pre a h0 h1 h
    refine ev_succ ?_
    simp only [laws_markIntS.l0, if_neg (nlt_pre pre)]
    exact ev_const (by simp [markedInt])
  | cons x rest ih =>
    intro pre a h0 h1 h
    have hl := len_pre pre x rest
    rw [List.length_cons] at h1
    refine ev_succ ?_
    simp only [laws_markIntS.l0, if_pos (lt_pre pre x rest), if_pos (ge0 pre.length), rd_pre, set_pre, Option.bind_some, wsucc (show pre.length < 9223372036854775807 by omega), w64 (x := a + 1) (by omega) (by omega)]
    refine Ev.congr (fun k => ?_) (ev_map (ih (pre ++ [a]) (a + 1) (by omega) (by omega) (by rw [← app_pre, len_pre]; omega)) ?_)
    · rw [← app_pre, List.length_append, List.length_singleton]
    · simp only [markedInt, List.length_cons, List.append_assoc, List.singleton_append, Prod.mk.injEq, and_true]
      omega
theorem laws_markIntS_ev (l : List Int) (a : Int) (h0 : 0 ≤ a) (h1 : a ≤ 1099511627776) (h : l.length ≤ 1099511627776) : Ev (fun k => laws_markIntS.f k l a) (a + 1 * (l.length : Int), markedInt l a) := laws_markIntS_loop l [] a h0 (by omega) h

/-! laws_heldIntS -/
theorem laws_heldIntS_loop (rest : List Int) : ∀ (pre : List Int) (a : Int), 0 ≤ a → a + 1 * (rest.length : Int) ≤ 9223372036854775000 → (pre ++ rest).length ≤ 1099511627776 → Ev (fun k => laws_heldIntS.l0 k (pre ++ markedInt rest a) a (pre.length : Int)) (a + 1 * (rest.length : Int)) := by
  induction rest with
  | nil =>
    intro pre a h0 h1 h
    refine ev_succ ?_
    show Ev (fun k => laws_heldIntS.l0 (k + 1) (pre ++ []) a (pre.length : Int)) _
    simp only [laws_heldIntS.l0, if_neg (nlt_pre pre)]
    exact ev_const (by simp)
  | cons x rest ih =>
    intro pre a h0 h1 h
    have hl := len_pre pre x rest
    rw [List.length_cons] at h1
    refine ev_succ ?_
    show Ev (fun k => laws_heldIntS.l0 (k + 1) (pre ++ a :: markedInt rest (a + 1)) a (pre.length : Int)) _
    simp only [laws_heldIntS.l0, if_pos (lt_pre _ _ _), if_pos (ge0 pre.length), rd_pre, wsucc (show pre.length < 9223372036854775807 by omega), w64 (x := a + 1) (by omega) (by omega), if_true]
    refine Ev.congr (fun k => ?_) (ev_map (ih (pre ++ [a]) (a + 1) (by omega) (by omega) (by rw [← app_pre, len_pre]; omega)) ?_)
    · rw [← app_pre, List.length_append, List.length_singleton]
    · rw [List.length_cons]
      omega
theorem laws_heldIntS_ev (l : List Int) (a : Int) (h0 : 0 ≤ a) (h1 : a ≤ 1099511627776) (h : l.length ≤ 1099511627776) : Ev (fun k => laws_heldIntS.f k (markedInt l a) a) (a + 1 * (l.length : Int)) := laws_heldIntS_loop l [] a h0 (by omega) h

/-! laws_szHandS -/
theorem laws_szHandS_ok (l : List (S112)) (a : Int) (h0 : (l.length : Int) ≤ a) (h1 : a ≤ 1048576) : laws_szHandS.f l a = some (a - (l.length : Int)) := by
  unfold laws_szHandS.f
  rw [w64 (by omega) (by omega), if_neg (by omega)]
theorem laws_szHandS_big (l : List (S112)) (a : Int) (h0 : a < (l.length : Int)) (h1 : 0 ≤ a) (h2 : l.length ≤ 9223372036854775807) : laws_szHandS.f l a = some (-1) := by
  unfold laws_szHandS.f
  rw [w64 (by omega) (by omega), if_pos (by omega)]

/-! type_112 -/
theorem rd_T112_pre (pre : List (S112)) (x : S112) (rest : List (S112)) : rd_T112 (pre ++ x :: rest) (pre.length : Int) = x := getD_pre pre x rest z112

/-! type_110 -/
theorem rd_T110_pre (pre : List (S110)) (x : S110) (rest : List (S110)) : rd_T110 (pre ++ x :: rest) (pre.length : Int) = x := getD_pre pre x rest z110

/-! conv_Hand -/
def cHand (x : S112) : S110 := ⟨x.f0, x.f1, x.f2, x.f3, x.f4⟩

/-! laws_toHandS -/
theorem laws_toHandS_loop (rest : List (S112)) : ∀ (pre : List (S112)), (pre ++ rest).length ≤ 1099511627776 → Ev (fun k => laws_toHandS.l0 k (pre ++ rest) ((pre).map cHand ++ List.replicate rest.length z110) (pre.length : Int)) ((pre ++ rest).map cHand) := by
  induction rest with
  | nil =>
    intro pre h
    refine ev_succ ?_
    simp only [laws_toHandS.l0, if_neg (nlt_pre pre)]
    exact ev_const (by simp)
  | cons x rest ih =>
    intro pre h
    have hl := len_pre pre x rest
    have hlt : (pre.length : Int) < (((pre).map cHand ++ List.replicate (x :: rest).length z110).length : Int) := by
      simp
      omega
    have hset : ((pre).map cHand ++ List.replicate (x :: rest).length z110).set ((pre.length : Int)).toNat (⟨x.f0, x.f1, x.f2, x.f3, x.f4⟩ : S110) = (pre ++ [x]).map cHand ++ List.replicate rest.length z110 := by
      simp [List.replicate_succ, cHand]
    refine ev_succ ?_
    simp only [laws_toHandS.l0, if_pos (lt_pre pre x rest), if_pos (ge0 pre.length), rd_T112_pre, laws_toHand.f, Option.bind_some, if_pos hlt, wsucc (show pre.length < 9223372036854775807 by omega)]
    refine ev_map (Ev.congr (fun k => ?_) (ih (pre ++ [x]) (by rw [← app_pre]; exact h))) (by rw [← app_pre pre x rest])
    rw [hset, snoc_len pre x, ← app_pre pre x rest]
theorem laws_toHandS_ev (l : List (S112)) (h : l.length ≤ 1048576) : Ev (fun k => laws_toHandS.f k l) (l.map cHand) := by
  have e := laws_toHandS_loop l [] (by simp; omega)
  unfold laws_toHandS.f
  simp only [if_pos (ge0 l.length), if_pos (show ((l.length : Int)).toNat ≤ 7036874417766 by omega)]
  exact e

/-! laws_eqHandS -/
theorem laws_eqHandS_loop (rest : List (S110)) : ∀ (pre : List (S110)), (pre ++ rest).length ≤ 1099511627776 → Ev (fun k => laws_eqHandS.l0 k (pre ++ rest) (pre ++ rest) (pre.length : Int)) true := by
  induction rest with
  | nil =>
    intro pre h
    refine ev_succ ?_
    simp only [laws_eqHandS.l0, if_neg (nlt_pre pre)]
    exact Ev.now _
  | cons x rest ih =>
    intro pre h
    have hl := len_pre pre x rest
    refine ev_succ ?_
    simp only [laws_eqHandS.l0, if_pos (lt_pre pre x rest), if_pos (ge0 pre.length), rd_T110_pre, laws_eqHand.f, Option.bind_some, if_true, wsucc (show pre.length < 9223372036854775807 by omega)]
    refine Ev.congr (fun k => ?_) (ih (pre ++ [x]) (by rw [← app_pre]; exact h))
    rw [snoc_len pre x, ← app_pre]
theorem laws_eqHandS_refl (l : List (S110)) (h : l.length ≤ 1099511627776) : Ev (fun k => laws_eqHandS.f k l l) true := by
  have e := laws_eqHandS_loop l [] h
  unfold laws_eqHandS.f
  simp only [if_true]
  exact e

/-! marked_Hand -/
def markedHand : List (S110) → Int → List (S110)
  | [], _ => []
  | _ :: l, a => ⟨a, a + 1, a + 2, a + 3, a + 4⟩ :: markedHand l (a + 5)
theorem markedHand_length (l : List (S110)) : ∀ a, (markedHand l a).length = l.length := by
  induction l with
  | nil => intro a; rfl
  | cons x l ih => intro a; simp [markedHand, ih]
-- Hand

/-! laws_markHandS -/
theorem laws_markHandS_loop (rest : List (S110)) : ∀ (pre : List (S110)) (a : Int), 0 ≤ a → a + 5 * (rest.length : Int) ≤ 9223372036854775000 → (pre ++ rest).length ≤ 1099511627776 → Ev (fun k => laws_markHandS.l0 k (pre ++ rest) a (pre.length : Int)) (a + 5 * (rest.length : Int), pre ++ markedHand rest a) := by
  induction rest with
  | nil =>
    intro pre a h0 h1 h
    refine ev_succ ?_
    simp only [laws_markHandS.l0, if_neg (nlt_pre pre)]
    exact ev_const (by simp [markedHand])
  | cons x rest ih =>
    intro pre a h0 h1 h
    have hl := len_pre pre x rest
    rw [List.length_cons] at h1
    refine ev_succ ?_
    simp only [laws_markHandS.l0, if_pos (lt_pre pre x rest), if_pos (ge0 pre.length), rd_T110_pre, set_pre, Option.bind_some, wsucc (show pre.length < 9223372036854775807 by omega), w64 (x := a + 1) (by omega) (by omega), w64 (x := a + 2) (by omega) (by omega), w64 (x := a + 3) (by omega) (by omega), w64 (x := a + 4) (by omega) (by omega), w64 (x := a + 5) (by omega) (by omega), show a + 1 + 1 = a + 2 by omega, show a + 2 + 1 = a + 3 by omega, show a + 3 + 1 = a + 4 by omega, show a + 4 + 1 = a + 5 by omega]
    refine Ev.congr (fun k => ?_) (ev_map (ih (pre ++ [⟨a, a + 1, a + 2, a + 3, a + 4⟩]) (a + 5) (by omega) (by omega) (by rw [← app_pre, len_pre]; omega)) ?_)
    · rw [← app_pre, List.length_append, List.length_singleton]
    · simp only [markedHand, List.length_cons, List.append_assoc, List.singleton_append, Prod.mk.injEq, and_true]
      omega
theorem laws_markHandS_ev (l : List (S110)) (a : Int) (h0 : 0 ≤ a) (h1 : a ≤ 1099511627776) (h : l.length ≤ 1099511627776) : Ev (fun k => laws_markHandS.f k l a) (a + 5 * (l.length : Int), markedHand l a) := laws_markHandS_loop l [] a h0 (by omega) h

/-! housesOf -/
def housesOf (l : List (S110)) (a : Int) : List Int := (l.filter (fun x => decide (x.f0 = a) && decide (x.f1 = 2))).map (fun x => x.f2)
theorem housesOf_len (l : List (S110)) (a : Int) : (housesOf l a).length ≤ l.length := by
  unfold housesOf
  rw [List.length_map]
  exact List.length_filter_le _ _

/-! spec_HousesOf -/
theorem spec_HousesOf_ev (l : List (S110)) (a : Int) (h : l.length ≤ 1099511627776) : Ev (fun k => spec_HousesOf.f k l a) (housesOf l a) := by
  refine ev_map (ev_range l (fun k (s : List Int) i => spec_HousesOf.l0 k l a s i) (fun s r => s ++ housesOf r a) (fun p s => s.length ≤ p.length) (by omega) ?_ ?_ [] (Nat.le_refl _)) (by simp)
  · intro s _
    simp only [spec_HousesOf.l0, if_neg (Int.lt_irrefl _)]
    exact ev_const (by simp [housesOf])
  · intro pre x rest s _ hlt hget hs ih
    have hr : rd_T110 l (pre.length : Int) = x := hget _
    have hs' : s.length ≤ pre.length := hs
    simp only [spec_HousesOf.l0, if_pos hlt, if_pos (ge0 pre.length), hr, if_pos (show s.length < 17592186044416 by omega)]
    by_cases h0 : x.f0 = a
    · by_cases h1 : x.f1 = 2
      · simp only [if_pos h0, if_pos h1]
        exact ev_map (ih _ (by simp; omega)) (by simp [housesOf, h0, h1])
      · simp only [if_pos h0, if_neg h1]
        exact ev_map (ih s (by simp; omega)) (by simp [housesOf, h0, h1])
    · simp only [if_neg h0]
      exact ev_map (ih s (by simp; omega)) (by simp [housesOf, h0])

/-! impl_HousesOf -/
theorem impl_HousesOf_ev (l : List (S110)) (a : Int) (h : l.length ≤ 1099511627776) : Ev (fun k => impl_HousesOf.f k l a) (housesOf l a) := by
  refine ev_map (ev_range l (fun k (s : List Int) i => impl_HousesOf.l0 k a s l (l.length : Int) i) (fun s r => s ++ housesOf r a) (fun p s => s.length ≤ p.length) (by omega) ?_ ?_ [] (Nat.le_refl _)) (by simp)
  · intro s _
    simp only [impl_HousesOf.l0, if_neg (Int.lt_irrefl _)]
    exact ev_const (by simp [housesOf])
  · intro pre x rest s _ hlt hget hs ih
    have hr : rd_T110 l (pre.length : Int) = x := hget _
    have hs' : s.length ≤ pre.length := hs
    simp only [impl_HousesOf.l0, if_pos hlt, if_pos (ge0 pre.length), hr, if_pos (show s.length < 17592186044416 by omega)]
    by_cases h0 : x.f0 = a
    · by_cases h1 : x.f1 = 2
      · simp only [if_pos h0, if_pos h1]
        exact ev_map (ih _ (by simp; omega)) (by simp [housesOf, h0, h1])
      · simp only [if_pos h0, if_neg h1]
        exact ev_map (ih s (by simp; omega)) (by simp [housesOf, h0, h1])
    · simp only [if_neg h0]
      exact ev_map (ih s (by simp; omega)) (by simp [housesOf, h0])

/-! the law -/
theorem Pf.FnExactHousesOf : FnExactHousesOfLaw := by
  intro l0 a1 hm0 hq0 hq1
  refine Ev.rounds ?_
  unfold laws_FnExactHousesOf.f
  by_cases hl0 : (l0.length : Int) ≤ 1048576
  · have hsz0 : ¬ (1048576 - (l0.length : Int) < 0) := by omega
    simp only [laws_szHandS_ok l0 (1048576) hl0 (by omega), Option.bind_some, if_neg hsz0]
    have hc0 : (l0.map cHand).length ≤ 1048576 := by rw [List.length_map]; omega
    have hk0 : ¬ ((1 : Int) + 5 * ((l0.map cHand).length : Int) < 0) := by omega
    have hR0 : (housesOf (l0.map cHand) a1).length ≤ 1099511627776 := Nat.le_trans (housesOf_len _ _) (by omega)
    have hr0 : ¬ ((1 : Int) + 1 * ((housesOf (l0.map cHand) a1).length : Int) < 0) := by omega
    repeat' first
      | exact Ev.now _
      | refine Ev.bind (spec_HousesOf_ev _ _ (by omega)) ?_
      | refine Ev.bind (impl_HousesOf_ev _ _ (by omega)) ?_
      | refine Ev.bind (laws_toHandS_ev _ (by omega)) ?_
      | refine Ev.bind (laws_eqHandS_refl _ (by omega)) ?_
      | refine Ev.bind (laws_markHandS_ev _ _ (by omega) (by omega) (by omega)) ?_
      | refine Ev.bind (laws_eqIntS_refl _ (by omega)) ?_
      | refine Ev.bind (laws_markIntS_ev _ _ (by omega) (by omega) (by omega)) ?_
      | refine Ev.bind (laws_heldIntS_ev _ _ (by omega) (by omega) (by omega)) ?_
      | simp only [if_true, if_false, Bool.not_true, Bool.not_false, bne_self_eq_false, Bool.false_eq_true, Option.bind_some, if_neg hk0, if_neg hr0]
      | (refine ev_succ ?_; simp only [laws_FnExactHousesOf.j0])
  · simp only [laws_szHandS_big l0 (1048576) (by omega) (by omega) hm0, Option.bind_some]
    exact Ev.now _

end Go.Proofs.Ytoemmbagjjjimaa.PFnExactHousesOf
