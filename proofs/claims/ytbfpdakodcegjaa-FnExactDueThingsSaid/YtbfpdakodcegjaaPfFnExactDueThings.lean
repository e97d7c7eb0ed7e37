/- The plain part of FnExactDueThings: what the printed functions come to, and that the law's answer is true. No conditions beyond those of the statement. -/
import Derived.Test.YtbfpdakodcegjaaPFnExactDueThingsx
import Derived.Test.YtbfpdakodcegjaaBase
import Derived.Test.YtbfpdakodcegjaaDefFnExactDueThings
namespace Go.Proofs.Ytbfpdakodcegjaa.PFnExactDueThings
open Go.RowKit Go.Proofs.YtbfpdakodcegjaaW.PrintWords Go.Proofs.YtbfpdakodcegjaaW.PrintMore Go.Proofs.Ytbfpdakodcegjaa.Base
set_option linter.unusedVariables false
set_option linter.unusedSimpArgs false

/-! laws_szFindS -/
theorem laws_szFindS_ok (l : List (S83)) (a : Int) (h0 : (l.length : Int) ≤ a) (h1 : a ≤ 1048576) : laws_szFindS.f l a = some (a - (l.length : Int)) := by
  unfold laws_szFindS.f
  rw [w64 (by omega) (by omega), if_neg (by omega)]
theorem laws_szFindS_big (l : List (S83)) (a : Int) (h0 : a < (l.length : Int)) (h1 : 0 ≤ a) (h2 : l.length ≤ 9223372036854775807) : laws_szFindS.f l a = some (-1) := by
  unfold laws_szFindS.f
  rw [w64 (by omega) (by omega), if_pos (by omega)]

/-! type_83 -/
theorem rd_T83_pre (pre : List (S83)) (x : S83) (rest : List (S83)) : rd_T83 (pre ++ x :: rest) (pre.length : Int) = x := getD_pre pre x rest z83

/-! type_68 -/
theorem rd_T68_pre (pre : List (S68)) (x : S68) (rest : List (S68)) : rd_T68 (pre ++ x :: rest) (pre.length : Int) = x := getD_pre pre x rest z68

/-! conv_Find -/
def cFind (x : S83) : S68 := (⟨(⟨x.f0.f0, x.f0.f1, x.f0.f2, x.f0.f3, x.f0.f4⟩ : S58), x.f1, x.f2, x.f3⟩ : S68)

/-! laws_toFindS -/
theorem laws_toFindS_loop (rest : List (S83)) : ∀ (pre : List (S83)), (pre ++ rest).length ≤ 1099511627776 → Ev (fun k => laws_toFindS.l0 k (pre ++ rest) ((pre).map cFind ++ List.replicate rest.length z68) (pre.length : Int)) ((pre ++ rest).map cFind) := by
  induction rest with
  | nil =>
    intro pre h
    refine ev_succ ?_
    simp only [laws_toFindS.l0, if_neg (nlt_pre pre)]
    exact ev_const (by simp)
  | cons x rest ih =>
    intro pre h
    have hl := len_pre pre x rest
    have hlt : (pre.length : Int) < (((pre).map cFind ++ List.replicate (x :: rest).length z68).length : Int) := by
      simp
      omega
    have hset : ((pre).map cFind ++ List.replicate (x :: rest).length z68).set ((pre.length : Int)).toNat (⟨(⟨x.f0.f0, x.f0.f1, x.f0.f2, x.f0.f3, x.f0.f4⟩ : S58), x.f1, x.f2, x.f3⟩ : S68) = (pre ++ [x]).map cFind ++ List.replicate rest.length z68 := by
      simp [List.replicate_succ, cFind]
    refine ev_succ ?_
    simp only [laws_toFindS.l0, if_pos (lt_pre pre x rest), if_pos (ge0 pre.length), rd_T83_pre, laws_toFind.f, laws_toThing.f, Option.bind_some, if_pos hlt, wsucc (show pre.length < 9223372036854775807 by omega)]
    refine ev_map (Ev.congr (fun k => ?_) (ih (pre ++ [x]) (by rw [← app_pre]; exact h))) (by rw [← app_pre pre x rest])
    rw [hset, snoc_len pre x, ← app_pre pre x rest]
theorem laws_toFindS_ev (l : List (S83)) (h : l.length ≤ 1048576) : Ev (fun k => laws_toFindS.f k l) (l.map cFind) := by
  have e := laws_toFindS_loop l [] (by simp; omega)
  unfold laws_toFindS.f
  simp only [if_pos (ge0 l.length), if_pos (show ((l.length : Int)).toNat ≤ 4398046511104 by omega)]
  exact e

/-! laws_eqFindS -/
theorem laws_eqFindS_loop (rest : List (S68)) : ∀ (pre : List (S68)), (pre ++ rest).length ≤ 1099511627776 → Ev (fun k => laws_eqFindS.l0 k (pre ++ rest) (pre ++ rest) (pre.length : Int)) true := by
  induction rest with
  | nil =>
    intro pre h
    refine ev_succ ?_
    simp only [laws_eqFindS.l0, if_neg (nlt_pre pre)]
    exact Ev.now _
  | cons x rest ih =>
    intro pre h
    have hl := len_pre pre x rest
    refine ev_succ ?_
    simp only [laws_eqFindS.l0, if_pos (lt_pre pre x rest), if_pos (ge0 pre.length), rd_T68_pre, laws_eqFind.f, laws_eqThing.f, Option.bind_some, if_true, wsucc (show pre.length < 9223372036854775807 by omega)]
    refine Ev.congr (fun k => ?_) (ih (pre ++ [x]) (by rw [← app_pre]; exact h))
    rw [snoc_len pre x, ← app_pre]
theorem laws_eqFindS_refl (l : List (S68)) (h : l.length ≤ 1099511627776) : Ev (fun k => laws_eqFindS.f k l l) true := by
  have e := laws_eqFindS_loop l [] h
  unfold laws_eqFindS.f
  simp only [if_true]
  exact e

/-! impl_InRange -/
theorem impl_InRange_eq (a b c : Int) : impl_InRange.f a b c = some (inr a b c) := by
  unfold impl_InRange.f inr
  by_cases h : b ≤ a <;> simp [h]

/-! impl_IsThing -/
theorem impl_IsThing_eq (a b c d e : Int) : impl_IsThing.f a b c d e = some (isThing a b c d e) := by
  simp only [impl_IsThing.f, impl_InRange_eq, Option.bind_some, ite_and, isThing]

/-! impl_IsFind -/
theorem impl_IsFind_eq (a b c d e f g h : Int) : impl_IsFind.f a b c d e f g h = some (isFind a b c d e f g h) := by
  simp only [impl_IsFind.f, impl_IsThing_eq, impl_InRange_eq, Option.bind_some, ite_and, isFind]

/-! impl_KeepDays -/
theorem impl_KeepDays_ev (a : Int) : Ev (fun k => impl_KeepDays.f k a) (keepDays a) := by
  refine ev_succ ?_
  simp only [impl_KeepDays.f, impl_KeepDays.j0]
  refine ev_const ?_
  unfold keepDays
  by_cases h7 : a = 7
  · simp [h7]
  by_cases h4 : a = 4
  · simp [h4]
  by_cases h5 : a = 5
  · simp [h5]
  simp only [h7, h4, h5, if_false, beq_iff_eq]
  by_cases hr : inr a 1 8 = true
  · have := (inr_iff a 1 8).1 hr
    rw [if_pos hr]
    have : a = 1 ∨ a = 2 ∨ a = 3 ∨ a = 6 ∨ a = 8 := by omega
    rcases this with rfl | rfl | rfl | rfl | rfl <;> rfl
  · rw [if_neg hr]
    have hn : ¬ (1 ≤ a ∧ a ≤ 8) := fun h => hr ((inr_iff a 1 8).2 h)
    rw [if_neg (by omega), if_neg (by omega), if_neg (by omega), if_neg (by omega), if_neg (by omega)]

/-! impl_DueHour -/
theorem impl_DueHour_ev (a b c d e f g h : Int) : Ev (fun k => impl_DueHour.f k a b c d e f g h) (dueHour a b c d e f g h) := by
  simp only [impl_DueHour.f, impl_IsFind_eq, Option.bind_some, dueHour]
  by_cases h1 : isFind a b c d e f g h = true
  · simp only [h1, if_true]
    exact Ev.bind (impl_KeepDays_ev b) (Ev.now _)
  · simp only [h1]
    exact Ev.now _

/-! impl_IsDue -/
theorem impl_IsDue_ev (a b c d e f g h n : Int) : Ev (fun k => impl_IsDue.f k a b c d e f g h n) (isDue a b c d e f g h n) := by
  simp only [impl_IsDue.f, impl_IsFind_eq, Option.bind_some, isDue]
  cases h1 : isFind a b c d e f g h with
  | false => exact Ev.now _
  | true => exact Ev.bind (impl_DueHour_ev _ _ _ _ _ _ _ _) (Ev.now _)

/-! nextDue -/
def dueOf (x : S68) : Int := dueHour x.f0.f0 x.f0.f1 x.f0.f2 x.f0.f3 x.f0.f4 x.f1 x.f2 x.f3
def dueStep (now : Int) (n : Int) (x : S68) : Int := if dueOf x > now ∧ dueOf x ≥ 0 ∧ (n < 0 ∨ dueOf x < n) then dueOf x else n

/-! dueThings -/
def dueNow (now : Int) (x : S68) : Bool := isDue x.f0.f0 x.f0.f1 x.f0.f2 x.f0.f3 x.f0.f4 x.f1 x.f2 x.f3 now
def dueThings (l : List (S68)) (now : Int) : List Int := (l.filter (dueNow now)).map (fun x => x.f0.f0)
theorem dueThings_len (l : List (S68)) (now : Int) : (dueThings l now).length ≤ l.length := by
  unfold dueThings
  rw [List.length_map]
  exact List.length_filter_le _ _

/-! impl_DueThings -/
theorem impl_DueThings_ev (l : List (S68)) (now : Int) (h : l.length ≤ 1099511627776) : Ev (fun k => impl_DueThings.f k l now) (dueThings l now) := by
  refine ev_map (ev_range l (fun k (s : List Int) i => impl_DueThings.l0 k now s l (l.length : Int) i) (fun s r => s ++ dueThings r now) (fun p s => s.length ≤ p.length) (by omega) ?_ ?_ [] (Nat.le_refl _)) (by simp)
  · intro s _
    simp only [impl_DueThings.l0, if_neg (Int.lt_irrefl _)]
    exact ev_const (by simp [dueThings])
  · intro pre x rest s _ hlt hget hs ih
    have hr : rd_T68 l (pre.length : Int) = x := hget _
    have hs' : s.length ≤ pre.length := hs
    have hd : isDue x.f0.f0 x.f0.f1 x.f0.f2 x.f0.f3 x.f0.f4 x.f1 x.f2 x.f3 now = dueNow now x := rfl
    simp only [impl_DueThings.l0, if_pos hlt, if_pos (ge0 pre.length), hr]
    refine Ev.bind (impl_IsDue_ev _ _ _ _ _ _ _ _ _) ?_
    simp only [hd]
    cases hx : dueNow now x with
    | false =>
      simp only [Bool.false_eq_true, if_false]
      exact ev_map (ih s (by simp; omega)) (by simp [dueThings, hx])
    | true =>
      simp only [if_true, if_pos (show s.length < 17592186044416 by omega)]
      exact ev_map (ih _ (by simp; omega)) (by simp [dueThings, hx])

/-! spec_l1In -/
theorem spec_l1In_eq (a b c : Int) : spec_l1In.f a b c = some (inr a b c) := by
  unfold spec_l1In.f inr
  by_cases h : b ≤ a <;> simp [h]

/-! spec_IsThing -/
theorem spec_IsThing_eq (a b c d e : Int) : spec_IsThing.f a b c d e = some (isThing a b c d e) := by
  simp only [spec_IsThing.f, spec_l1In_eq, Option.bind_some, ite_and, isThing]

/-! spec_IsFind -/
theorem spec_IsFind_eq (a b c d e f g h : Int) : spec_IsFind.f a b c d e f g h = some (isFind a b c d e f g h) := by
  simp only [spec_IsFind.f, spec_IsThing_eq, spec_l1In_eq, Option.bind_some, ite_and, isFind]

/-! spec_KeepDays -/
theorem spec_KeepDays_eq (a : Int) : spec_KeepDays.f a = some (keepDays a) := by
  simp only [spec_KeepDays.f, spec_l1In_eq, Option.bind_some, keepDays]
  by_cases h7 : a = 7
  · subst h7; rfl
  by_cases h4 : a = 4
  · subst h4; rfl
  by_cases h5 : a = 5
  · subst h5; rfl
  simp only [h7, h4, h5, if_false, ite_some]

/-! spec_DueHour -/
theorem spec_DueHour_eq (a b c d e f g h : Int) : spec_DueHour.f a b c d e f g h = some (dueHour a b c d e f g h) := by
  simp only [spec_DueHour.f, spec_IsFind_eq, spec_KeepDays_eq, Option.bind_some, dueHour, ite_some]

/-! spec_IsDue -/
theorem spec_IsDue_eq (a b c d e f g h n : Int) : spec_IsDue.f a b c d e f g h n = some (isDue a b c d e f g h n) := by
  simp only [spec_IsDue.f, spec_IsFind_eq, spec_DueHour_eq, Option.bind_some, isDue, ite_and]

/-! spec_DueThings -/
theorem spec_DueThings_ev (l : List (S68)) (now : Int) (h : l.length ≤ 1099511627776) : Ev (fun k => spec_DueThings.f k l now) (dueThings l now) := by
  refine ev_map (ev_range l (fun k (s : List Int) i => spec_DueThings.l0 k l now s i) (fun s r => s ++ dueThings r now) (fun p s => s.length ≤ p.length) (by omega) ?_ ?_ [] (Nat.le_refl _)) (by simp)
  · intro s _
    simp only [spec_DueThings.l0, if_neg (Int.lt_irrefl _)]
    exact ev_const (by simp [dueThings])
  · intro pre x rest s _ hlt hget hs ih
    have hr : rd_T68 l (pre.length : Int) = x := hget _
    have hs' : s.length ≤ pre.length := hs
    have hd : isDue x.f0.f0 x.f0.f1 x.f0.f2 x.f0.f3 x.f0.f4 x.f1 x.f2 x.f3 now = dueNow now x := rfl
    simp only [spec_DueThings.l0, if_pos hlt, if_pos (ge0 pre.length), hr]
    simp only [spec_IsDue_eq, Option.bind_some, hd]
    cases hx : dueNow now x with
    | false =>
      simp only [Bool.false_eq_true, if_false]
      exact ev_map (ih s (by simp; omega)) (by simp [dueThings, hx])
    | true =>
      simp only [if_true, if_pos (show s.length < 17592186044416 by omega)]
      exact ev_map (ih _ (by simp; omega)) (by simp [dueThings, hx])

/-! laws_eqIntS -/
theorem laws_eqIntS_loop (rest : List Int) : ∀ (pre : List Int), (pre ++ rest).length ≤ 1099511627776 → Ev (fun k => laws_eqIntS.l0 k (pre ++ rest) (pre ++ rest) (pre.length : Int)) true := by
  induction rest with
  | nil =>
    intro pre h
    refine ev_succ ?_
    simp only [laws_eqIntS.l0, if_neg (nlt_pre pre)]
    exact Ev.now _
  | cons x rest ih =>
    intro pre h
    have hl := len_pre pre x rest
    refine ev_succ ?_
    simp only [laws_eqIntS.l0, if_pos (lt_pre pre x rest), if_pos (ge0 pre.length), rd_pre, Option.bind_some, if_true, wsucc (show pre.length < 9223372036854775807 by omega)]
    refine Ev.congr (fun k => ?_) (ih (pre ++ [x]) (by rw [← app_pre]; exact h))
    rw [snoc_len pre x, ← app_pre]
theorem laws_eqIntS_refl (l : List Int) (h : l.length ≤ 1099511627776) : Ev (fun k => laws_eqIntS.f k l l) true := by
  have e := laws_eqIntS_loop l [] h
  unfold laws_eqIntS.f
  simp only [if_true]
  exact e

/-! marked_Find -/
def markedFind : List (S68) → Int → List (S68)
  | [], _ => []
  | _ :: l, a => (⟨(⟨a, a + 1, a + 2, a + 3, a + 4⟩ : S58), a + 5, a + 6, a + 7⟩ : S68) :: markedFind l (a + 8)
theorem markedFind_length (l : List (S68)) : ∀ a, (markedFind l a).length = l.length := by
  induction l with
  | nil => intro a; rfl
  | cons x l ih => intro a; simp [markedFind, ih]
-- Find

/-! laws_markFindS -/
theorem laws_markFindS_loop (rest : List (S68)) : ∀ (pre : List (S68)) (a : Int), 0 ≤ a → a + 8 * (rest.length : Int) ≤ 9223372036854775000 → (pre ++ rest).length ≤ 1099511627776 → Ev (fun k => laws_markFindS.l0 k (pre ++ rest) a (pre.length : Int)) (a + 8 * (rest.length : Int), pre ++ markedFind rest a) := by
  induction rest with
  | nil =>
    intro pre a h0 h1 h
    refine ev_succ ?_
    simp only [laws_markFindS.l0, if_neg (nlt_pre pre)]
    exact ev_const (by simp [markedFind])
  | cons x rest ih =>
    intro pre a h0 h1 h
    have hl := len_pre pre x rest
    rw [List.length_cons] at h1
    refine ev_succ ?_
    simp only [laws_markFindS.l0, if_pos (lt_pre pre x rest), if_pos (ge0 pre.length), rd_T68_pre, set_pre, Option.bind_some, wsucc (show pre.length < 9223372036854775807 by omega), w64 (x := a + 1) (by omega) (by omega), w64 (x := a + 2) (by omega) (by omega), w64 (x := a + 3) (by omega) (by omega), w64 (x := a + 4) (by omega) (by omega), w64 (x := a + 5) (by omega) (by omega), w64 (x := a + 6) (by omega) (by omega), w64 (x := a + 7) (by omega) (by omega), w64 (x := a + 8) (by omega) (by omega), show a + 1 + 1 = a + 2 by omega, show a + 2 + 1 = a + 3 by omega, show a + 3 + 1 = a + 4 by omega, show a + 4 + 1 = a + 5 by omega, show a + 5 + 1 = a + 6 by omega, show a + 6 + 1 = a + 7 by omega, show a + 7 + 1 = a + 8 by omega]
    refine Ev.congr (fun k => ?_) (ev_map (ih (pre ++ [(⟨(⟨a, a + 1, a + 2, a + 3, a + 4⟩ : S58), a + 5, a + 6, a + 7⟩ : S68)]) (a + 8) (by omega) (by omega) (by rw [← app_pre, len_pre]; omega)) ?_)
    · rw [← app_pre, List.length_append, List.length_singleton]
    · simp only [markedFind, List.length_cons, List.append_assoc, List.singleton_append, Prod.mk.injEq, and_true]
      omega
theorem laws_markFindS_ev (l : List (S68)) (a : Int) (h0 : 0 ≤ a) (h1 : a ≤ 1099511627776) (h : l.length ≤ 1099511627776) : Ev (fun k => laws_markFindS.f k l a) (a + 8 * (l.length : Int), markedFind l a) := laws_markFindS_loop l [] a h0 (by omega) h

/-! marked_Int -/
def markedInt : List Int → Int → List Int
  | [], _ => []
  | _ :: l, a => a :: markedInt l (a + 1)
theorem markedInt_length (l : List Int) : ∀ a, (markedInt l a).length = l.length := by
  induction l with
  | nil => intro a; rfl
  | cons x l ih => intro a; simp [markedInt, ih]
-- Int

/-! laws_markIntS -/
theorem laws_markIntS_loop (rest : List Int) : ∀ (pre : List Int) (a : Int), 0 ≤ a → a + 1 * (rest.length : Int) ≤ 9223372036854775000 → (pre ++ rest).length ≤ 1099511627776 → Ev (fun k => laws_markIntS.l0 k (pre ++ rest) a (pre.length : Int)) (a + 1 * (rest.length : Int), pre ++ markedInt rest a) := by
  induction rest with
  | nil =>
    intro pre a h0 h1 h
    refine ev_succ ?_
    simp only [laws_markIntS.l0, if_neg (nlt_pre pre)]
    exact ev_const (by simp [markedInt])
  | cons x rest ih =>
    intro pre a h0 h1 h
    have hl := len_pre pre x rest
    rw [List.length_cons] at h1
    refine ev_succ ?_
    simp only [laws_markIntS.l0, if_pos (lt_pre pre x rest), if_pos (ge0 pre.length), rd_pre, set_pre, Option.bind_some, wsucc (show pre.length < 9223372036854775807 by omega), w64 (x := a + 1) (by omega) (by omega)]
    refine Ev.congr (fun k => ?_) (ev_map (ih (pre ++ [a]) (a + 1) (by omega) (by omega) (by rw [← app_pre, len_pre]; omega)) ?_)
    · rw [← app_pre, List.length_append, List.length_singleton]
    · simp only [markedInt, List.length_cons, List.append_assoc, List.singleton_append, Prod.mk.injEq, and_true]
      omega
theorem laws_markIntS_ev (l : List Int) (a : Int) (h0 : 0 ≤ a) (h1 : a ≤ 1099511627776) (h : l.length ≤ 1099511627776) : Ev (fun k => laws_markIntS.f k l a) (a + 1 * (l.length : Int), markedInt l a) := laws_markIntS_loop l [] a h0 (by omega) h

/-! laws_heldIntS -/
theorem laws_heldIntS_loop (rest : List Int) : ∀ (pre : List Int) (a : Int), 0 ≤ a → a + 1 * (rest.length : Int) ≤ 9223372036854775000 → (pre ++ rest).length ≤ 1099511627776 → Ev (fun k => laws_heldIntS.l0 k (pre ++ markedInt rest a) a (pre.length : Int)) (a + 1 * (rest.length : Int)) := by
  induction rest with
  | nil =>
    intro pre a h0 h1 h
    refine ev_succ ?_
    show Ev (fun k => laws_heldIntS.l0 (k + 1) (pre ++ []) a (pre.length : Int)) _
    simp only [laws_heldIntS.l0, if_neg (nlt_pre pre)]
    exact ev_const (by simp)
  | cons x rest ih =>
    intro pre a h0 h1 h
    have hl := len_pre pre x rest
    rw [List.length_cons] at h1
    refine ev_succ ?_
    show Ev (fun k => laws_heldIntS.l0 (k + 1) (pre ++ a :: markedInt rest (a + 1)) a (pre.length : Int)) _
    simp only [laws_heldIntS.l0, if_pos (lt_pre _ _ _), if_pos (ge0 pre.length), rd_pre, wsucc (show pre.length < 9223372036854775807 by omega), w64 (x := a + 1) (by omega) (by omega), if_true]
    refine Ev.congr (fun k => ?_) (ev_map (ih (pre ++ [a]) (a + 1) (by omega) (by omega) (by rw [← app_pre, len_pre]; omega)) ?_)
    · rw [← app_pre, List.length_append, List.length_singleton]
    · rw [List.length_cons]
      omega
theorem laws_heldIntS_ev (l : List Int) (a : Int) (h0 : 0 ≤ a) (h1 : a ≤ 1099511627776) (h : l.length ≤ 1099511627776) : Ev (fun k => laws_heldIntS.f k (markedInt l a) a) (a + 1 * (l.length : Int)) := laws_heldIntS_loop l [] a h0 (by omega) h

/-! the law -/
theorem Pf.FnExactDueThings : FnExactDueThingsLaw := by
  intro l0 a1 hm0 hq0 hq1
  refine Ev.rounds ?_
  unfold laws_FnExactDueThings.f
  by_cases hl0 : (l0.length : Int) ≤ 1048576
  · have hsz0 : ¬ (1048576 - (l0.length : Int) < 0) := by omega
    simp only [laws_szFindS_ok l0 (1048576) hl0 (by omega), Option.bind_some, if_neg hsz0]
    have hc0 : (l0.map cFind).length ≤ 1048576 := by rw [List.length_map]; omega
    have hk0 : ¬ ((1 : Int) + 8 * ((l0.map cFind).length : Int) < 0) := by omega
    have hR0 : (dueThings (l0.map cFind) a1).length ≤ 1099511627776 := Nat.le_trans (dueThings_len _ _) (by omega)
    have hr0 : ¬ ((1 : Int) + 1 * ((dueThings (l0.map cFind) a1).length : Int) < 0) := by omega
    repeat' first
      | exact Ev.now _
      | refine Ev.bind (spec_DueThings_ev _ _ (by omega)) ?_
      | refine Ev.bind (impl_DueThings_ev _ _ (by omega)) ?_
      | refine Ev.bind (laws_toFindS_ev _ (by omega)) ?_
      | refine Ev.bind (laws_eqFindS_refl _ (by omega)) ?_
      | refine Ev.bind (laws_markFindS_ev _ _ (by omega) (by omega) (by omega)) ?_
      | refine Ev.bind (laws_eqIntS_refl _ (by omega)) ?_
      | refine Ev.bind (laws_markIntS_ev _ _ (by omega) (by omega) (by omega)) ?_
      | refine Ev.bind (laws_heldIntS_ev _ _ (by omega) (by omega) (by omega)) ?_
      | simp only [if_true, if_false, Bool.not_true, Bool.not_false, bne_self_eq_false, Bool.false_eq_true, Option.bind_some, if_neg hk0, if_neg hr0]
      | (refine ev_succ ?_; simp only [laws_FnExactDueThings.j0])
  · simp only [laws_szFindS_big l0 (1048576) (by omega) (by omega) hm0, Option.bind_some]
    exact Ev.now _

end Go.Proofs.Ytbfpdakodcegjaa.PFnExactDueThings
