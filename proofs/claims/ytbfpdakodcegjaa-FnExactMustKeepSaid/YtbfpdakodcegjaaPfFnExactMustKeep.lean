/- The plain part of FnExactMustKeep: what the printed functions come to, and that the law's answer is true. No conditions beyond those of the statement. -/
import Derived.Test.YtbfpdakodcegjaaPFnExactMustKeepx
import Derived.Test.YtbfpdakodcegjaaBase
import Derived.Test.YtbfpdakodcegjaaDefFnExactMustKeep
namespace Go.Proofs.Ytbfpdakodcegjaa.PFnExactMustKeep
open Go.RowKit Go.Proofs.YtbfpdakodcegjaaW.PrintWords Go.Proofs.YtbfpdakodcegjaaW.PrintMore Go.Proofs.Ytbfpdakodcegjaa.Base
set_option linter.unusedVariables false
set_option linter.unusedSimpArgs false

/-! laws_szClaimS -/
theorem laws_szClaimS_ok (l : List (S138)) (a : Int) (h0 : (l.length : Int) ≤ a) (h1 : a ≤ 1048576) : laws_szClaimS.f l a = some (a - (l.length : Int)) := by
  unfold laws_szClaimS.f
  rw [w64 (by omega) (by omega), if_neg (by omega)]
theorem laws_szClaimS_big (l : List (S138)) (a : Int) (h0 : a < (l.length : Int)) (h1 : 0 ≤ a) (h2 : l.length ≤ 9223372036854775807) : laws_szClaimS.f l a = some (-1) := by
  unfold laws_szClaimS.f
  rw [w64 (by omega) (by omega), if_pos (by omega)]

/-! type_138 -/
theorem rd_T138_pre (pre : List (S138)) (x : S138) (rest : List (S138)) : rd_T138 (pre ++ x :: rest) (pre.length : Int) = x := getD_pre pre x rest z138

/-! type_108 -/
theorem rd_T108_pre (pre : List (S108)) (x : S108) (rest : List (S108)) : rd_T108 (pre ++ x :: rest) (pre.length : Int) = x := getD_pre pre x rest z108

/-! conv_Claim -/
def cClaim (x : S138) : S108 := (⟨x.f0, x.f1, x.f2, x.f3, x.f4⟩ : S108)

/-! laws_toClaimS -/
theorem laws_toClaimS_loop (rest : List (S138)) : ∀ (pre : List (S138)), (pre ++ rest).length ≤ 1099511627776 → Ev (fun k => laws_toClaimS.l0 k (pre ++ rest) ((pre).map cClaim ++ List.replicate rest.length z108) (pre.length : Int)) ((pre ++ rest).map cClaim) := by
  induction rest with
  | nil =>
    intro pre h
    refine ev_succ ?_
    simp only [laws_toClaimS.l0, if_neg (nlt_pre pre)]
    exact ev_const (by simp)
  | cons x rest ih =>
    intro pre h
    have hl := len_pre pre x rest
    have hlt : (pre.length : Int) < (((pre).map cClaim ++ List.replicate (x :: rest).length z108).length : Int) := by
      simp
      omega
    have hset : ((pre).map cClaim ++ List.replicate (x :: rest).length z108).set ((pre.length : Int)).toNat (⟨x.f0, x.f1, x.f2, x.f3, x.f4⟩ : S108) = (pre ++ [x]).map cClaim ++ List.replicate rest.length z108 := by
      simp [List.replicate_succ, cClaim]
    refine ev_succ ?_
    simp only [laws_toClaimS.l0, if_pos (lt_pre pre x rest), if_pos (ge0 pre.length), rd_T138_pre, laws_toClaim.f, Option.bind_some, if_pos hlt, wsucc (show pre.length < 9223372036854775807 by omega)]
    refine ev_map (Ev.congr (fun k => ?_) (ih (pre ++ [x]) (by rw [← app_pre]; exact h))) (by rw [← app_pre pre x rest])
    rw [hset, snoc_len pre x, ← app_pre pre x rest]
theorem laws_toClaimS_ev (l : List (S138)) (h : l.length ≤ 1048576) : Ev (fun k => laws_toClaimS.f k l) (l.map cClaim) := by
  have e := laws_toClaimS_loop l [] (by simp; omega)
  unfold laws_toClaimS.f
  simp only [if_pos (ge0 l.length), if_pos (show ((l.length : Int)).toNat ≤ 7036874417766 by omega)]
  exact e

/-! laws_eqClaimS -/
theorem laws_eqClaimS_loop (rest : List (S108)) : ∀ (pre : List (S108)), (pre ++ rest).length ≤ 1099511627776 → Ev (fun k => laws_eqClaimS.l0 k (pre ++ rest) (pre ++ rest) (pre.length : Int)) true := by
  induction rest with
  | nil =>
    intro pre h
    refine ev_succ ?_
    simp only [laws_eqClaimS.l0, if_neg (nlt_pre pre)]
    exact Ev.now _
  | cons x rest ih =>
    intro pre h
    have hl := len_pre pre x rest
    refine ev_succ ?_
    simp only [laws_eqClaimS.l0, if_pos (lt_pre pre x rest), if_pos (ge0 pre.length), rd_T108_pre, laws_eqClaim.f, Option.bind_some, if_true, wsucc (show pre.length < 9223372036854775807 by omega)]
    refine Ev.congr (fun k => ?_) (ih (pre ++ [x]) (by rw [← app_pre]; exact h))
    rw [snoc_len pre x, ← app_pre]
theorem laws_eqClaimS_refl (l : List (S108)) (h : l.length ≤ 1099511627776) : Ev (fun k => laws_eqClaimS.f k l l) true := by
  have e := laws_eqClaimS_loop l [] h
  unfold laws_eqClaimS.f
  simp only [if_true]
  exact e

/-! fateOf -/
def fpStep (t : Int) (o : Option (S108)) (x : S108) : Option (S108) :=
  if x.f2 = t ∧ x.f4 = 1 then (match o with | none => some x | some b => if x.f3 < b.f3 then some x else some b) else o
def fpId (o : Option (S108)) : Int := match o with | none => 0 | some b => b.f0
def firstProved (l : List (S108)) (t : Int) : Int := fpId (l.foldl (fpStep t) none)
def opens (t : Int) (x : S108) : Bool := decide (x.f2 = t) && decide (x.f4 = 0)
def fateOf (id kind colour size worth place hour finder : Int) (l : List (S108)) (now : Int) : Int :=
  if firstProved l id = 0 then
    (if l.any (opens id) then 0
    else if isDue id kind colour size worth place hour finder now then (if kind = 7 ∨ worth = 0 then 5 else if worth > 5000 then 3 else if finder = 0 then 4 else 2) else 0)
  else 1

/-! spec_FirstProved -/
theorem spec_FirstProved_ev (l : List (S108)) (t : Int) (h : l.length ≤ 1099511627776) : Ev (fun k => spec_FirstProved.f k l t) (firstProved l t) := by
  refine ev_range l (fun k (s : Option (S108) × Int) i => spec_FirstProved.l0 k l t s.2 i) (fun s r => fpId (r.foldl (fpStep t) s.1)) (fun _ s => (s.1 = none ∧ s.2 = -1) ∨ ∃ b, s.1 = some b ∧ 0 ≤ s.2 ∧ s.2 < (l.length : Int) ∧ rd_T108 l s.2 = b) (by omega) ?_ ?_ (none, -1) (.inl ⟨rfl, rfl⟩)
  · rintro ⟨o, i⟩ hs
    simp only [spec_FirstProved.l0, if_neg (Int.lt_irrefl _)]
    rcases hs with ⟨e1, e2⟩ | ⟨b, e1, h1, h2, h3⟩
    · simp only at e1 e2
      subst e1 e2
      exact Ev.now _
    · simp only at e1 h1 h2 h3
      subst e1
      simp only [if_neg (show ¬ i < 0 by omega), if_pos h1, if_pos h2, h3]
      exact Ev.now _
  · rintro pre x rest ⟨o, i⟩ _ hlt hget hs ih
    have hr : rd_T108 l (pre.length : Int) = x := hget _
    simp only [spec_FirstProved.l0, if_pos hlt, if_pos (ge0 pre.length), hr, List.foldl_cons]
    by_cases h1 : x.f2 = t
    · by_cases h2 : x.f4 = 1
      · rcases hs with ⟨e1, e2⟩ | ⟨b, e1, p1, p2, p3⟩
        · simp only at e1 e2
          subst e1 e2
          simp only [if_pos h1, if_pos h2, if_pos (show (-1 : Int) < 0 by omega), show fpStep t none x = some x by simp [fpStep, h1, h2]]
          exact ih (some x, (pre.length : Int)) (.inr ⟨x, rfl, ge0 _, hlt, hr⟩)
        · simp only at e1 p1 p2 p3
          subst e1
          by_cases h3 : x.f3 < b.f3
          · simp only [if_pos h1, if_pos h2, if_neg (show ¬ i < 0 by omega), if_pos p1, if_pos p2, p3, if_pos h3, show fpStep t (some b) x = some x by simp [fpStep, h1, h2, h3]]
            exact ih (some x, (pre.length : Int)) (.inr ⟨x, rfl, ge0 _, hlt, hr⟩)
          · simp only [if_pos h1, if_pos h2, if_neg (show ¬ i < 0 by omega), if_pos p1, if_pos p2, p3, if_neg h3, show fpStep t (some b) x = some b by simp [fpStep, h3]]
            exact ih (some b, i) (.inr ⟨b, rfl, p1, p2, p3⟩)
      · simp only [if_pos h1, if_neg h2, show fpStep t o x = o by simp [fpStep, h2]]
        exact ih (o, i) hs
    · simp only [if_neg h1, show fpStep t o x = o by simp [fpStep, h1]]
      exact ih (o, i) hs

/-! spec_l1In -/
theorem spec_l1In_eq (a b c : Int) : spec_l1In.f a b c = some (inr a b c) := by
  unfold spec_l1In.f inr
  by_cases h : b ≤ a <;> simp [h]

/-! spec_IsThing -/
theorem spec_IsThing_eq (a b c d e : Int) : spec_IsThing.f a b c d e = some (isThing a b c d e) := by
  simp only [spec_IsThing.f, spec_l1In_eq, Option.bind_some, ite_and, isThing]

/-! spec_IsFind -/
theorem spec_IsFind_eq (a b c d e f g h : Int) : spec_IsFind.f a b c d e f g h = some (isFind a b c d e f g h) := by
  simp only [spec_IsFind.f, spec_IsThing_eq, spec_l1In_eq, Option.bind_some, ite_and, isFind]

/-! spec_KeepDays -/
theorem spec_KeepDays_eq (a : Int) : spec_KeepDays.f a = some (keepDays a) := by
  simp only [spec_KeepDays.f, spec_l1In_eq, Option.bind_some, keepDays]
  by_cases h7 : a = 7
  · subst h7; rfl
  by_cases h4 : a = 4
  · subst h4; rfl
  by_cases h5 : a = 5
  · subst h5; rfl
  simp only [h7, h4, h5, if_false, ite_some]

/-! spec_DueHour -/
theorem spec_DueHour_eq (a b c d e f g h : Int) : spec_DueHour.f a b c d e f g h = some (dueHour a b c d e f g h) := by
  simp only [spec_DueHour.f, spec_IsFind_eq, spec_KeepDays_eq, Option.bind_some, dueHour, ite_some]

/-! spec_IsDue -/
theorem spec_IsDue_eq (a b c d e f g h n : Int) : spec_IsDue.f a b c d e f g h n = some (isDue a b c d e f g h n) := by
  simp only [spec_IsDue.f, spec_IsFind_eq, spec_DueHour_eq, Option.bind_some, isDue, ite_and]

/-! spec_FateOf -/
theorem spec_FateOf_j1_ev (b : Bool) (x0 x1 x2 x3 w x5 x6 f : Int) : Ev (fun k => spec_FateOf.j1 k b x0 x1 x2 x3 w x5 x6 f) (if b then 5 else if w > 5000 then 3 else if f = 0 then 4 else 2) := by
  refine ev_succ ?_
  simp only [spec_FateOf.j1]
  cases b <;> by_cases h : w > 5000 <;> by_cases h' : f = 0 <;> simp only [h, h', if_true, if_false, Bool.false_eq_true] <;> exact Ev.now _
theorem spec_FateOf_ev (id kind colour size worth place hour finder : Int) (l : List (S108)) (now : Int) (h : l.length ≤ 1099511627776) :
    Ev (fun k => spec_FateOf.f k id kind colour size worth place hour finder l now) (fateOf id kind colour size worth place hour finder l now) := by
  unfold spec_FateOf.f fateOf
  refine Ev.bind (spec_FirstProved_ev l id h) ?_
  by_cases h1 : firstProved l id = 0
  · simp only [if_pos h1]
    refine ev_range l (fun k (_ : Unit) i => spec_FateOf.l0 k l now i id kind colour size worth place hour finder) (fun _ r => if r.any (opens id) then 0 else if isDue id kind colour size worth place hour finder now then (if kind = 7 ∨ worth = 0 then 5 else if worth > 5000 then 3 else if finder = 0 then 4 else 2) else 0) (fun _ _ => True) (by omega) ?_ ?_ () trivial
    · intro _ _
      simp only [spec_FateOf.l0, if_neg (Int.lt_irrefl _), spec_IsDue_eq, Option.bind_some, List.any_nil, Bool.false_eq_true, if_false]
      cases h2 : isDue id kind colour size worth place hour finder now with
      | false =>
        simp only [Bool.false_eq_true, if_false]
        exact Ev.now _
      | true =>
        simp only [if_true]
        by_cases h3 : kind = 7
        · simp only [if_pos h3]
          exact ev_map (spec_FateOf_j1_ev _ _ _ _ _ _ _ _ _) (by simp [h3])
        · simp only [if_neg h3]
          exact ev_map (spec_FateOf_j1_ev _ _ _ _ _ _ _ _ _) (by simp [h3])
    · intro pre x rest _ _ hlt hget _ ih
      have hr : rd_T108 l (pre.length : Int) = x := hget _
      simp only [spec_FateOf.l0, if_pos hlt, if_pos (ge0 pre.length), hr, List.any_cons]
      by_cases h2 : x.f2 = id
      · by_cases h3 : x.f4 = 0
        · simp only [if_pos h2, if_pos h3]
          exact ev_const (by simp [opens, h2, h3])
        · simp only [if_pos h2, if_neg h3]
          exact ev_map (ih () trivial) (by simp [opens, h3])
      · simp only [if_neg h2]
        exact ev_map (ih () trivial) (by simp [opens, h2])
  · simp only [if_neg h1]
    exact Ev.now _

/-! mustKeep -/
theorem fateOf_ge (id kind colour size worth place hour finder : Int) (l : List (S108)) (now : Int) : 0 ≤ fateOf id kind colour size worth place hour finder l now ∧ fateOf id kind colour size worth place hour finder l now ≤ 5 := by
  unfold fateOf
  split
  · split
    · decide
    · split
      · split
        · decide
        · split
          · decide
          · split <;> decide
      · decide
  · decide

/-! spec_MustKeep -/
theorem spec_MustKeep_ev (id kind colour size worth place hour finder : Int) (l : List (S108)) (now : Int) (h : l.length ≤ 1099511627776) :
    Ev (fun k => spec_MustKeep.f k id kind colour size worth place hour finder l now) (decide (fateOf id kind colour size worth place hour finder l now ≤ 1)) := by
  unfold spec_MustKeep.f
  exact Ev.bind (spec_FateOf_ev _ _ _ _ _ _ _ _ l now h) (Ev.now _)

/-! impl_InRange -/
theorem impl_InRange_eq (a b c : Int) : impl_InRange.f a b c = some (inr a b c) := by
  unfold impl_InRange.f inr
  by_cases h : b ≤ a <;> simp [h]

/-! impl_IsThing -/
theorem impl_IsThing_eq (a b c d e : Int) : impl_IsThing.f a b c d e = some (isThing a b c d e) := by
  simp only [impl_IsThing.f, impl_InRange_eq, Option.bind_some, ite_and, isThing]

/-! impl_IsFind -/
theorem impl_IsFind_eq (a b c d e f g h : Int) : impl_IsFind.f a b c d e f g h = some (isFind a b c d e f g h) := by
  simp only [impl_IsFind.f, impl_IsThing_eq, impl_InRange_eq, Option.bind_some, ite_and, isFind]

/-! impl_KeepDays -/
theorem impl_KeepDays_ev (a : Int) : Ev (fun k => impl_KeepDays.f k a) (keepDays a) := by
  refine ev_succ ?_
  simp only [impl_KeepDays.f, impl_KeepDays.j0]
  refine ev_const ?_
  unfold keepDays
  by_cases h7 : a = 7
  · simp [h7]
  by_cases h4 : a = 4
  · simp [h4]
  by_cases h5 : a = 5
  · simp [h5]
  simp only [h7, h4, h5, if_false, beq_iff_eq]
  by_cases hr : inr a 1 8 = true
  · have := (inr_iff a 1 8).1 hr
    rw [if_pos hr]
    have : a = 1 ∨ a = 2 ∨ a = 3 ∨ a = 6 ∨ a = 8 := by omega
    rcases this with rfl | rfl | rfl | rfl | rfl <;> rfl
  · rw [if_neg hr]
    have hn : ¬ (1 ≤ a ∧ a ≤ 8) := fun h => hr ((inr_iff a 1 8).2 h)
    rw [if_neg (by omega), if_neg (by omega), if_neg (by omega), if_neg (by omega), if_neg (by omega)]

/-! impl_DueHour -/
theorem impl_DueHour_ev (a b c d e f g h : Int) : Ev (fun k => impl_DueHour.f k a b c d e f g h) (dueHour a b c d e f g h) := by
  simp only [impl_DueHour.f, impl_IsFind_eq, Option.bind_some, dueHour]
  by_cases h1 : isFind a b c d e f g h = true
  · simp only [h1, if_true]
    exact Ev.bind (impl_KeepDays_ev b) (Ev.now _)
  · simp only [h1]
    exact Ev.now _

/-! impl_IsDue -/
theorem impl_IsDue_ev (a b c d e f g h n : Int) : Ev (fun k => impl_IsDue.f k a b c d e f g h n) (isDue a b c d e f g h n) := by
  simp only [impl_IsDue.f, impl_IsFind_eq, Option.bind_some, isDue]
  cases h1 : isFind a b c d e f g h with
  | false => exact Ev.now _
  | true => exact Ev.bind (impl_DueHour_ev _ _ _ _ _ _ _ _) (Ev.now _)

/-! impl_FirstProved -/
theorem impl_FirstProved_ev (l : List (S108)) (t : Int) (h : l.length ≤ 1099511627776) : Ev (fun k => impl_FirstProved.f k l t) (firstProved l t) := by
  refine ev_range l (fun k (o : Option (S108)) i => impl_FirstProved.l0 k t o.isSome l (l.length : Int) i (o.getD ⟨0, 0, 0, 0, 0⟩).f0 (o.getD ⟨0, 0, 0, 0, 0⟩).f1 (o.getD ⟨0, 0, 0, 0, 0⟩).f2 (o.getD ⟨0, 0, 0, 0, 0⟩).f3 (o.getD ⟨0, 0, 0, 0, 0⟩).f4) (fun o r => fpId (r.foldl (fpStep t) o)) (fun _ _ => True) (by omega) ?_ ?_ none trivial
  · intro o _
    simp only [impl_FirstProved.l0, if_neg (Int.lt_irrefl _)]
    cases o <;> exact Ev.now _
  · intro pre x rest o _ hlt hget _ ih
    have hr : rd_T108 l (pre.length : Int) = x := hget _
    simp only [impl_FirstProved.l0, if_pos hlt, if_pos (ge0 pre.length), hr, List.foldl_cons]
    by_cases h1 : x.f2 = t
    · by_cases h2 : x.f4 = 1
      · cases o with
        | none =>
          simp only [if_pos h1, if_pos h2, Option.isSome_none, Bool.false_eq_true, if_false, show fpStep t none x = some x by simp [fpStep, h1, h2]]
          exact ih (some x) trivial
        | some b =>
          by_cases h3 : x.f3 < b.f3
          · simp only [if_pos h1, if_pos h2, Option.isSome_some, if_true, Option.getD_some, if_pos h3, show fpStep t (some b) x = some x by simp [fpStep, h1, h2, h3]]
            exact ih (some x) trivial
          · simp only [if_pos h1, if_pos h2, Option.isSome_some, if_true, Option.getD_some, if_neg h3, show fpStep t (some b) x = some b by simp [fpStep, h3]]
            exact ih (some b) trivial
      · simp only [if_pos h1, if_neg h2, show fpStep t o x = o by simp [fpStep, h2]]
        exact ih o trivial
    · simp only [if_neg h1, show fpStep t o x = o by simp [fpStep, h1]]
      exact ih o trivial

/-! impl_FateOf -/
theorem impl_FateOf_j2_ev (b : Bool) (a0 a1 a2 a3 w : Int) : Ev (fun k => impl_FateOf.j2 k b a0 a1 a2 a3 w) (if b then 2 else if w > 5000 then 3 else 4) := by
  refine ev_succ ?_
  simp only [impl_FateOf.j2]
  cases b <;> by_cases h : w > 5000 <;> simp only [h, if_true, if_false, Bool.false_eq_true] <;> exact Ev.now _
theorem impl_FateOf_j1_ev (b : Bool) (x0 x1 x2 x3 x4 x5 x6 f a0 a1 a2 a3 w : Int) : Ev (fun k => impl_FateOf.j1 k b x0 x1 x2 x3 x4 x5 x6 f a0 a1 a2 a3 w) (if b then 5 else if w > 5000 then 3 else if f = 0 then 4 else 2) := by
  refine ev_succ ?_
  simp only [impl_FateOf.j1]
  cases b with
  | true =>
    simp only [if_true]
    exact Ev.now _
  | false =>
    simp only [Bool.false_eq_true, if_false]
    by_cases h1 : f = 0
    · simp only [if_pos h1]
      exact ev_map (impl_FateOf_j2_ev _ _ _ _ _ _) (by simp)
    · simp only [if_neg h1]
      refine ev_map (impl_FateOf_j2_ev _ _ _ _ _ _) ?_
      by_cases h2 : w > 5000
      · simp [h2]
      · simp [h2]
theorem impl_FateOf_j0_ev (b : Bool) (x0 x1 x2 x3 x4 x5 x6 f a0 kind a2 a3 w : Int) : Ev (fun k => impl_FateOf.j0 k b x0 x1 x2 x3 x4 x5 x6 f a0 kind a2 a3 w) (if b then 0 else if kind = 7 ∨ w = 0 then 5 else if w > 5000 then 3 else if f = 0 then 4 else 2) := by
  refine ev_succ ?_
  simp only [impl_FateOf.j0]
  cases b with
  | true =>
    simp only [if_true]
    exact Ev.now _
  | false =>
    simp only [Bool.false_eq_true, if_false]
    by_cases h1 : kind = 7
    · simp only [if_pos h1]
      exact ev_map (impl_FateOf_j1_ev _ _ _ _ _ _ _ _ _ _ _ _ _ _) (by simp [h1])
    · simp only [if_neg h1]
      exact ev_map (impl_FateOf_j1_ev _ _ _ _ _ _ _ _ _ _ _ _ _ _) (by simp [h1])
theorem impl_FateOf_ev (id kind colour size worth place hour finder : Int) (l : List (S108)) (now : Int) (h : l.length ≤ 1099511627776) :
    Ev (fun k => impl_FateOf.f k id kind colour size worth place hour finder l now) (fateOf id kind colour size worth place hour finder l now) := by
  unfold impl_FateOf.f fateOf
  refine Ev.bind (impl_FirstProved_ev l id h) ?_
  by_cases h1 : firstProved l id = 0
  · simp only [if_pos h1]
    refine Ev.bind (impl_IsDue_ev _ _ _ _ _ _ _ _ _) ?_
    cases h2 : isDue id kind colour size worth place hour finder now with
    | false =>
      simp only [Bool.false_eq_true, if_false]
      exact ev_map (impl_FateOf_j0_ev _ _ _ _ _ _ _ _ _ _ _ _ _ _) (by simp)
    | true =>
      have hp : (impl_FateOf_1.p id kind colour size worth : S108 → Bool) = opens id := by
        funext y
        unfold impl_FateOf_1.p opens
        rw [Bool.beq_eq_decide_eq, Bool.beq_eq_decide_eq]
      simp only [if_true, impl_FateOf_1.f, hp, Option.bind_some]
      exact ev_map (impl_FateOf_j0_ev _ _ _ _ _ _ _ _ _ _ _ _ _ _) (by simp)
  · simp only [if_neg h1]
    exact Ev.now _

/-! impl_MustKeep -/
theorem impl_MustKeep_ev (id kind colour size worth place hour finder : Int) (l : List (S108)) (now : Int) (h : l.length ≤ 1099511627776) :
    Ev (fun k => impl_MustKeep.f k id kind colour size worth place hour finder l now) (decide (fateOf id kind colour size worth place hour finder l now ≤ 1)) := by
  unfold impl_MustKeep.f
  refine Ev.bind (impl_FateOf_ev _ _ _ _ _ _ _ _ l now h) ?_
  have hg := fateOf_ge id kind colour size worth place hour finder l now
  generalize fateOf id kind colour size worth place hour finder l now = t at hg ⊢
  by_cases h1 : t = 0
  · simp only [if_pos h1]
    exact ev_const (by simp [h1])
  · simp only [if_neg h1]
    refine ev_const ?_
    by_cases h2 : t = 1
    · simp [h2]
    · have h3 : ¬ t ≤ 1 := by omega
      simp [h2, h3]

/-! the law -/
theorem Pf.FnExactMustKeep : FnExactMustKeepLaw := by
  intro y0 l1 a2 hq0 hm1 hq1 hq2
  refine Ev.rounds ?_
  unfold laws_FnExactMustKeep.f
  by_cases hl1 : (l1.length : Int) ≤ 1048576
  · have hsz1 : ¬ (1048576 - (l1.length : Int) < 0) := by omega
    simp only [laws_szClaimS_ok l1 (1048576) hl1 (by omega), Option.bind_some, if_neg hsz1]
    have hc1 : (l1.map cClaim).length ≤ 1048576 := by rw [List.length_map]; omega
    have hk1 : ¬ ((1 : Int) + 5 * ((l1.map cClaim).length : Int) < 0) := by omega
    repeat' first
      | exact Ev.now _
      | refine Ev.bind (spec_MustKeep_ev _ _ _ _ _ _ _ _ _ _ (by omega)) ?_
      | refine Ev.bind (impl_MustKeep_ev _ _ _ _ _ _ _ _ _ _ (by omega)) ?_
      | refine Ev.bind (laws_toClaimS_ev _ (by omega)) ?_
      | refine Ev.bind (laws_eqClaimS_refl _ (by omega)) ?_
      | refine Ev.bind (laws_markClaimS_ev _ _ (by omega) (by omega) (by omega)) ?_
      | simp only [if_true, if_false, Bool.not_true, Bool.not_false, bne_self_eq_false, Bool.false_eq_true, Option.bind_some, if_neg hk1, laws_toFind.f, laws_toThing.f]
      | (refine ev_succ ?_; simp only [laws_FnExactMustKeep.j0])
  · simp only [laws_szClaimS_big l1 (1048576) (by omega) (by omega) hm1, Option.bind_some]
    exact Ev.now _

end Go.Proofs.Ytbfpdakodcegjaa.PFnExactMustKeep
