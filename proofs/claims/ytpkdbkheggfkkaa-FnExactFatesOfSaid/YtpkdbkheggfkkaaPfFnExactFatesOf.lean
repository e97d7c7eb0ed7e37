/- The plain part of FnExactFatesOf: what the printed functions come to, and that the law's answer is true. No conditions beyond those of the statement. -/
import Derived.Test.YtpkdbkheggfkkaaPFnExactFatesOfx
import Derived.Test.YtpkdbkheggfkkaaBaseFnExactFatesOf
import Derived.Test.YtpkdbkheggfkkaaDefFnExactFatesOf
namespace Go.Proofs.Ytpkdbkheggfkkaa.PFnExactFatesOf
open Go.RowKit Go.Proofs.YtpkdbkheggfkkaaW.PrintWords Go.Proofs.YtpkdbkheggfkkaaW.PrintMore Go.Proofs.Ytpkdbkheggfkkaa.Base
set_option linter.unusedVariables false
set_option linter.unusedSimpArgs false

/-! laws_eqIntS -/
theorem laws_eqIntS_loop (rest : List Int) : ∀ (pre : List Int), (pre ++ rest).length ≤ 1099511627776 → Ev (fun k => laws_eqIntS.l0 k (pre ++ rest) (pre ++ rest) (pre.length : Int)) true := by
  induction rest with
  | nil =>
    intro pre h
    refine ev_succ ?_
    simp only [laws_eqIntS.l0, if_neg (nlt_pre pre)]
    exact Ev.now _
  | cons x rest ih =>
    intro pre h
    have hl := len_pre pre x rest
    refine ev_succ ?_
    simp only [laws_eqIntS.l0, if_pos (lt_pre pre x rest), if_pos (ge0 pre.length), rd_pre, Option.bind_some, if_true, wsucc (show pre.length < 9223372036854775807 by omega)]
    refine Ev.congr (fun k => ?_) (ih (pre ++ [x]) (by rw [← app_pre]; exact h))
    rw [snoc_len pre x, ← app_pre]
theorem laws_eqIntS_refl (l : List Int) (h : l.length ≤ 1099511627776) : Ev (fun k => laws_eqIntS.f k l l) true := by
  have e := laws_eqIntS_loop l [] h
  unfold laws_eqIntS.f
  simp only [if_true]
  exact e

/-! marked_Int -/
def markedInt : List Int → Int → List Int
  | [], _ => []
  | _ :: l, a => a :: markedInt l (a + 1)
theorem markedInt_length (l : List Int) : ∀ a, (markedInt l a).length = l.length := by
  induction l with
  | nil => intro a; rfl
  | cons x l ih => intro a; simp [markedInt, ih]
-- Int

/-! laws_markIntS -/
theorem laws_markIntS_loop (rest : List Int) : ∀ (pre : List Int) (a : Int), 0 ≤ a → a + 1 * (rest.length : Int) ≤ 9223372036854775000 → (pre ++ rest).length ≤ 1099511627776 → Ev (fun k => laws_markIntS.l0 k (pre ++ rest) a (pre.length : Int)) (a + 1 * (rest.length : Int), pre ++ markedInt rest a) := by
  induction rest with
  | nil =>
    intro pre a h0 h1 h
    refine ev_succ ?_
    simp only [laws_markIntS.l0, if_neg (nlt_pre pre)]
    exact ev_const (by simp [markedInt])
  | cons x rest ih =>
    intro pre a h0 h1 h
    have hl := len_pre pre x rest
    rw [List.length_cons] at h1
    refine ev_succ ?_
    simp only [laws_markIntS.l0, if_pos (lt_pre pre x rest), if_pos (ge0 pre.length), rd_pre, set_pre, Option.bind_some, wsucc (show pre.length < 9223372036854775807 by omega), w64 (x := a + 1) (by omega) (by omega)]
    refine Ev.congr (fun k => ?_) (ev_map (ih (pre ++ [a]) (a + 1) (by omega) (by omega) (by rw [← app_pre, len_pre]; omega)) ?_)
    · rw [← app_pre, List.length_append, List.length_singleton]
    · simp only [markedInt, List.length_cons, List.append_assoc, List.singleton_append, Prod.mk.injEq, and_true]
      omega
theorem laws_markIntS_ev (l : List Int) (a : Int) (h0 : 0 ≤ a) (h1 : a ≤ 1099511627776) (h : l.length ≤ 1099511627776) : Ev (fun k => laws_markIntS.f k l a) (a + 1 * (l.length : Int), markedInt l a) := laws_markIntS_loop l [] a h0 (by omega) h

/-! laws_heldIntS -/
theorem laws_heldIntS_loop (rest : List Int) : ∀ (pre : List Int) (a : Int), 0 ≤ a → a + 1 * (rest.length : Int) ≤ 9223372036854775000 → (pre ++ rest).length ≤ 1099511627776 → Ev (fun k => laws_heldIntS.l0 k (pre ++ markedInt rest a) a (pre.length : Int)) (a + 1 * (rest.length : Int)) := by
  induction rest with
  | nil =>
    intro pre a h0 h1 h
    refine ev_succ ?_
    show Ev (fun k => laws_heldIntS.l0 (k + 1) (pre ++ []) a (pre.length : Int)) _
    simp only [laws_heldIntS.l0, if_neg (nlt_pre pre)]
    exact ev_const (by simp)
  | cons x rest ih =>
    intro pre a h0 h1 h
    have hl := len_pre pre x rest
    rw [List.length_cons] at h1
    refine ev_succ ?_
    show Ev (fun k => laws_heldIntS.l0 (k + 1) (pre ++ a :: markedInt rest (a + 1)) a (pre.length : Int)) _
    simp only [laws_heldIntS.l0, if_pos (lt_pre _ _ _), if_pos (ge0 pre.length), rd_pre, wsucc (show pre.length < 9223372036854775807 by omega), w64 (x := a + 1) (by omega) (by omega), if_true]
    refine Ev.congr (fun k => ?_) (ev_map (ih (pre ++ [a]) (a + 1) (by omega) (by omega) (by rw [← app_pre, len_pre]; omega)) ?_)
    · rw [← app_pre, List.length_append, List.length_singleton]
    · rw [List.length_cons]
      omega
theorem laws_heldIntS_ev (l : List Int) (a : Int) (h0 : 0 ≤ a) (h1 : a ≤ 1099511627776) (h : l.length ≤ 1099511627776) : Ev (fun k => laws_heldIntS.f k (markedInt l a) a) (a + 1 * (l.length : Int)) := laws_heldIntS_loop l [] a h0 (by omega) h

/-! laws_szFindS -/
theorem laws_szFindS_ok (l : List (S130)) (a : Int) (h0 : (l.length : Int) ≤ a) (h1 : a ≤ 1048576) : laws_szFindS.f l a = some (a - (l.length : Int)) := by
  unfold laws_szFindS.f
  rw [w64 (by omega) (by omega), if_neg (by omega)]
theorem laws_szFindS_big (l : List (S130)) (a : Int) (h0 : a < (l.length : Int)) (h1 : 0 ≤ a) (h2 : l.length ≤ 9223372036854775807) : laws_szFindS.f l a = some (-1) := by
  unfold laws_szFindS.f
  rw [w64 (by omega) (by omega), if_pos (by omega)]

/-! laws_szClaimS -/
theorem laws_szClaimS_ok (l : List (S134)) (a : Int) (h0 : (l.length : Int) ≤ a) (h1 : a ≤ 1048576) : laws_szClaimS.f l a = some (a - (l.length : Int)) := by
  unfold laws_szClaimS.f
  rw [w64 (by omega) (by omega), if_neg (by omega)]
theorem laws_szClaimS_big (l : List (S134)) (a : Int) (h0 : a < (l.length : Int)) (h1 : 0 ≤ a) (h2 : l.length ≤ 9223372036854775807) : laws_szClaimS.f l a = some (-1) := by
  unfold laws_szClaimS.f
  rw [w64 (by omega) (by omega), if_pos (by omega)]

/-! type_132 -/
theorem rd_T132_pre (pre : List (S132)) (x : S132) (rest : List (S132)) : rd_T132 (pre ++ x :: rest) (pre.length : Int) = x := getD_pre pre x rest z132

/-! fateOf -/
def fpStep (t : Int) (o : Option (S132)) (x : S132) : Option (S132) :=
  if x.f2 = t ∧ x.f4 = 1 then (match o with | none => some x | some b => if x.f3 < b.f3 then some x else some b) else o
def fpId (o : Option (S132)) : Int := match o with | none => 0 | some b => b.f0
def firstProved (l : List (S132)) (t : Int) : Int := fpId (l.foldl (fpStep t) none)
def opens (t : Int) (x : S132) : Bool := decide (x.f2 = t) && decide (x.f4 = 0)
def fateOf (id kind colour size worth place hour finder : Int) (l : List (S132)) (now : Int) : Int :=
  if firstProved l id = 0 then
    (if l.any (opens id) then 0
    else if isDue id kind colour size worth place hour finder now then (if kind = 7 ∨ worth = 0 then 5 else if worth > 5000 then 3 else if finder = 0 then 4 else 2) else 0)
  else 1

/-! spec_FirstProved -/
theorem spec_FirstProved_ev (l : List (S132)) (t : Int) (h : l.length ≤ 1099511627776) : Ev (fun k => spec_FirstProved.f k l t) (firstProved l t) := by
  refine ev_range l (fun k (s : Option (S132) × Int) i => spec_FirstProved.l0 k l t s.2 i) (fun s r => fpId (r.foldl (fpStep t) s.1)) (fun _ s => (s.1 = none ∧ s.2 = -1) ∨ ∃ b, s.1 = some b ∧ 0 ≤ s.2 ∧ s.2 < (l.length : Int) ∧ rd_T132 l s.2 = b) (by omega) ?_ ?_ (none, -1) (.inl ⟨rfl, rfl⟩)
  · rintro ⟨o, i⟩ hs
    simp only [spec_FirstProved.l0, if_neg (Int.lt_irrefl _)]
    rcases hs with ⟨e1, e2⟩ | ⟨b, e1, h1, h2, h3⟩
    · simp only at e1 e2
      subst e1 e2
      exact Ev.now _
    · simp only at e1 h1 h2 h3
      subst e1
      simp only [if_neg (show ¬ i < 0 by omega), if_pos h1, if_pos h2, h3]
      exact Ev.now _
  · rintro pre x rest ⟨o, i⟩ _ hlt hget hs ih
    have hr : rd_T132 l (pre.length : Int) = x := hget _
    simp only [spec_FirstProved.l0, if_pos hlt, if_pos (ge0 pre.length), hr, List.foldl_cons]
    by_cases h1 : x.f2 = t
    · by_cases h2 : x.f4 = 1
      · rcases hs with ⟨e1, e2⟩ | ⟨b, e1, p1, p2, p3⟩
        · simp only at e1 e2
          subst e1 e2
          simp only [if_pos h1, if_pos h2, if_pos (show (-1 : Int) < 0 by omega), show fpStep t none x = some x by simp [fpStep, h1, h2]]
          exact ih (some x, (pre.length : Int)) (.inr ⟨x, rfl, ge0 _, hlt, hr⟩)
        · simp only at e1 p1 p2 p3
          subst e1
          by_cases h3 : x.f3 < b.f3
          · simp only [if_pos h1, if_pos h2, if_neg (show ¬ i < 0 by omega), if_pos p1, if_pos p2, p3, if_pos h3, show fpStep t (some b) x = some x by simp [fpStep, h1, h2, h3]]
            exact ih (some x, (pre.length : Int)) (.inr ⟨x, rfl, ge0 _, hlt, hr⟩)
          · simp only [if_pos h1, if_pos h2, if_neg (show ¬ i < 0 by omega), if_pos p1, if_pos p2, p3, if_neg h3, show fpStep t (some b) x = some b by simp [fpStep, h3]]
            exact ih (some b, i) (.inr ⟨b, rfl, p1, p2, p3⟩)
      · simp only [if_pos h1, if_neg h2, show fpStep t o x = o by simp [fpStep, h2]]
        exact ih (o, i) hs
    · simp only [if_neg h1, show fpStep t o x = o by simp [fpStep, h1]]
      exact ih (o, i) hs

/-! spec_l1In -/
theorem spec_l1In_eq (a b c : Int) : spec_l1In.f a b c = some (inr a b c) := by
  unfold spec_l1In.f inr
  by_cases h : b ≤ a <;> simp [h]

/-! spec_IsThing -/
theorem spec_IsThing_eq (a b c d e : Int) : spec_IsThing.f a b c d e = some (isThing a b c d e) := by
  simp only [spec_IsThing.f, spec_l1In_eq, Option.bind_some, ite_and, isThing]

/-! spec_IsFind -/
theorem spec_IsFind_eq (a b c d e f g h : Int) : spec_IsFind.f a b c d e f g h = some (isFind a b c d e f g h) := by
  simp only [spec_IsFind.f, spec_IsThing_eq, spec_l1In_eq, Option.bind_some, ite_and, isFind]

/-! spec_KeepDays -/
theorem spec_KeepDays_eq (a : Int) : spec_KeepDays.f a = some (keepDays a) := by
  simp only [spec_KeepDays.f, spec_l1In_eq, Option.bind_some, keepDays]
  by_cases h7 : a = 7
  · subst h7; rfl
  by_cases h4 : a = 4
  · subst h4; rfl
  by_cases h5 : a = 5
  · subst h5; rfl
  simp only [h7, h4, h5, if_false, ite_some]

/-! spec_DueHour -/
theorem spec_DueHour_eq (a b c d e f g h : Int) : spec_DueHour.f a b c d e f g h = some (dueHour a b c d e f g h) := by
  simp only [spec_DueHour.f, spec_IsFind_eq, spec_KeepDays_eq, Option.bind_some, dueHour, ite_some]

/-! spec_IsDue -/
theorem spec_IsDue_eq (a b c d e f g h n : Int) : spec_IsDue.f a b c d e f g h n = some (isDue a b c d e f g h n) := by
  simp only [spec_IsDue.f, spec_IsFind_eq, spec_DueHour_eq, Option.bind_some, isDue, ite_and]

/-! spec_FateOf -/
theorem spec_FateOf_j1_ev (b : Bool) (x0 x1 x2 x3 w x5 x6 f : Int) : Ev (fun k => spec_FateOf.j1 k b x0 x1 x2 x3 w x5 x6 f) (if b then 5 else if w > 5000 then 3 else if f = 0 then 4 else 2) := by
  refine ev_succ ?_
  simp only [spec_FateOf.j1]
  cases b <;> by_cases h : w > 5000 <;> by_cases h' : f = 0 <;> simp only [h, h', if_true, if_false, Bool.false_eq_true] <;> exact Ev.now _
theorem spec_FateOf_ev (id kind colour size worth place hour finder : Int) (l : List (S132)) (now : Int) (h : l.length ≤ 1099511627776) :
    Ev (fun k => spec_FateOf.f k id kind colour size worth place hour finder l now) (fateOf id kind colour size worth place hour finder l now) := by
  unfold spec_FateOf.f fateOf
  refine Ev.bind (spec_FirstProved_ev l id h) ?_
  by_cases h1 : firstProved l id = 0
  · simp only [if_pos h1]
    refine ev_range l (fun k (_ : Unit) i => spec_FateOf.l0 k l now i id kind colour size worth place hour finder) (fun _ r => if r.any (opens id) then 0 else if isDue id kind colour size worth place hour finder now then (if kind = 7 ∨ worth = 0 then 5 else if worth > 5000 then 3 else if finder = 0 then 4 else 2) else 0) (fun _ _ => True) (by omega) ?_ ?_ () trivial
    · intro _ _
      simp only [spec_FateOf.l0, if_neg (Int.lt_irrefl _), spec_IsDue_eq, Option.bind_some, List.any_nil, Bool.false_eq_true, if_false]
      cases h2 : isDue id kind colour size worth place hour finder now with
      | false =>
        simp only [Bool.false_eq_true, if_false]
        exact Ev.now _
      | true =>
        simp only [if_true]
        by_cases h3 : kind = 7
        · simp only [if_pos h3]
          exact ev_map (spec_FateOf_j1_ev _ _ _ _ _ _ _ _ _) (by simp [h3])
        · simp only [if_neg h3]
          exact ev_map (spec_FateOf_j1_ev _ _ _ _ _ _ _ _ _) (by simp [h3])
    · intro pre x rest _ _ hlt hget _ ih
      have hr : rd_T132 l (pre.length : Int) = x := hget _
      simp only [spec_FateOf.l0, if_pos hlt, if_pos (ge0 pre.length), hr, List.any_cons]
      by_cases h2 : x.f2 = id
      · by_cases h3 : x.f4 = 0
        · simp only [if_pos h2, if_pos h3]
          exact ev_const (by simp [opens, h2, h3])
        · simp only [if_pos h2, if_neg h3]
          exact ev_map (ih () trivial) (by simp [opens, h3])
      · simp only [if_neg h2]
        exact ev_map (ih () trivial) (by simp [opens, h2])
  · simp only [if_neg h1]
    exact Ev.now _

/-! type_126 -/
theorem rd_T126_pre (pre : List (S126)) (x : S126) (rest : List (S126)) : rd_T126 (pre ++ x :: rest) (pre.length : Int) = x := getD_pre pre x rest z126

/-! fatesOf -/
def fateFor (l : List (S132)) (now : Int) (x : S126) : Int := fateOf x.f0.f0 x.f0.f1 x.f0.f2 x.f0.f3 x.f0.f4 x.f1 x.f2 x.f3 l now
def fatesOf (f : List (S126)) (l : List (S132)) (now : Int) : List Int := f.map (fateFor l now)
theorem fatesOf_len (f : List (S126)) (l : List (S132)) (now : Int) : (fatesOf f l now).length = f.length := by
  unfold fatesOf
  rw [List.length_map]

/-! spec_FatesOf -/
theorem spec_FatesOf_ev (f : List (S126)) (l : List (S132)) (now : Int) (h : f.length ≤ 1099511627776) (h' : l.length ≤ 1099511627776) : Ev (fun k => spec_FatesOf.f k f l now) (fatesOf f l now) := by
  refine ev_map (ev_range f (fun k (s : List Int) i => spec_FatesOf.l0 k f l now s i) (fun s r => s ++ r.map (fateFor l now)) (fun p s => s.length ≤ p.length) (by omega) ?_ ?_ [] (Nat.le_refl _)) (by simp [fatesOf])
  · intro s _
    simp only [spec_FatesOf.l0, if_neg (Int.lt_irrefl _)]
    exact ev_const (by simp)
  · intro pre x rest s _ hlt hget hs ih
    have hr : rd_T126 f (pre.length : Int) = x := hget _
    have hs' : s.length ≤ pre.length := hs
    have hd : fateOf x.f0.f0 x.f0.f1 x.f0.f2 x.f0.f3 x.f0.f4 x.f1 x.f2 x.f3 l now = fateFor l now x := rfl
    simp only [spec_FatesOf.l0, if_pos hlt, if_pos (ge0 pre.length), hr]
    refine Ev.bind (spec_FateOf_ev _ _ _ _ _ _ _ _ _ _ h') ?_
    simp only [hd, if_pos (show s.length < 17592186044416 by omega)]
    exact ev_map (ih _ (by simp; omega)) (by simp)

/-! type_130 -/
theorem rd_T130_pre (pre : List (S130)) (x : S130) (rest : List (S130)) : rd_T130 (pre ++ x :: rest) (pre.length : Int) = x := getD_pre pre x rest z130

/-! conv_Find -/
def cFind (x : S130) : S126 := (⟨(⟨x.f0.f0, x.f0.f1, x.f0.f2, x.f0.f3, x.f0.f4⟩ : S124), x.f1, x.f2, x.f3⟩ : S126)

/-! laws_toFindS -/
theorem laws_toFindS_loop (rest : List (S130)) : ∀ (pre : List (S130)), (pre ++ rest).length ≤ 1099511627776 → Ev (fun k => laws_toFindS.l0 k (pre ++ rest) ((pre).map cFind ++ List.replicate rest.length z126) (pre.length : Int)) ((pre ++ rest).map cFind) := by
  induction rest with
  | nil =>
    intro pre h
    refine ev_succ ?_
    simp only [laws_toFindS.l0, if_neg (nlt_pre pre)]
    exact ev_const (by simp)
  | cons x rest ih =>
    intro pre h
    have hl := len_pre pre x rest
    have hlt : (pre.length : Int) < (((pre).map cFind ++ List.replicate (x :: rest).length z126).length : Int) := by
      simp
      omega
    have hset : ((pre).map cFind ++ List.replicate (x :: rest).length z126).set ((pre.length : Int)).toNat (⟨(⟨x.f0.f0, x.f0.f1, x.f0.f2, x.f0.f3, x.f0.f4⟩ : S124), x.f1, x.f2, x.f3⟩ : S126) = (pre ++ [x]).map cFind ++ List.replicate rest.length z126 := by
      simp [List.replicate_succ, cFind]
    refine ev_succ ?_
    simp only [laws_toFindS.l0, if_pos (lt_pre pre x rest), if_pos (ge0 pre.length), rd_T130_pre, laws_toFind.f, laws_toThing.f, Option.bind_some, if_pos hlt, wsucc (show pre.length < 9223372036854775807 by omega)]
    refine ev_map (Ev.congr (fun k => ?_) (ih (pre ++ [x]) (by rw [← app_pre]; exact h))) (by rw [← app_pre pre x rest])
    rw [hset, snoc_len pre x, ← app_pre pre x rest]
theorem laws_toFindS_ev (l : List (S130)) (h : l.length ≤ 1048576) : Ev (fun k => laws_toFindS.f k l) (l.map cFind) := by
  have e := laws_toFindS_loop l [] (by simp; omega)
  unfold laws_toFindS.f
  simp only [if_pos (ge0 l.length), if_pos (show ((l.length : Int)).toNat ≤ 4398046511104 by omega)]
  exact e

/-! type_134 -/
theorem rd_T134_pre (pre : List (S134)) (x : S134) (rest : List (S134)) : rd_T134 (pre ++ x :: rest) (pre.length : Int) = x := getD_pre pre x rest z134

/-! conv_Claim -/
def cClaim (x : S134) : S132 := (⟨x.f0, x.f1, x.f2, x.f3, x.f4⟩ : S132)

/-! laws_toClaimS -/
theorem laws_toClaimS_loop (rest : List (S134)) : ∀ (pre : List (S134)), (pre ++ rest).length ≤ 1099511627776 → Ev (fun k => laws_toClaimS.l0 k (pre ++ rest) ((pre).map cClaim ++ List.replicate rest.length z132) (pre.length : Int)) ((pre ++ rest).map cClaim) := by
  induction rest with
  | nil =>
    intro pre h
    refine ev_succ ?_
    simp only [laws_toClaimS.l0, if_neg (nlt_pre pre)]
    exact ev_const (by simp)
  | cons x rest ih =>
    intro pre h
    have hl := len_pre pre x rest
    have hlt : (pre.length : Int) < (((pre).map cClaim ++ List.replicate (x :: rest).length z132).length : Int) := by
      simp
      omega
    have hset : ((pre).map cClaim ++ List.replicate (x :: rest).length z132).set ((pre.length : Int)).toNat (⟨x.f0, x.f1, x.f2, x.f3, x.f4⟩ : S132) = (pre ++ [x]).map cClaim ++ List.replicate rest.length z132 := by
      simp [List.replicate_succ, cClaim]
    refine ev_succ ?_
    simp only [laws_toClaimS.l0, if_pos (lt_pre pre x rest), if_pos (ge0 pre.length), rd_T134_pre, laws_toClaim.f, Option.bind_some, if_pos hlt, wsucc (show pre.length < 9223372036854775807 by omega)]
    refine ev_map (Ev.congr (fun k => ?_) (ih (pre ++ [x]) (by rw [← app_pre]; exact h))) (by rw [← app_pre pre x rest])
    rw [hset, snoc_len pre x, ← app_pre pre x rest]
theorem laws_toClaimS_ev (l : List (S134)) (h : l.length ≤ 1048576) : Ev (fun k => laws_toClaimS.f k l) (l.map cClaim) := by
  have e := laws_toClaimS_loop l [] (by simp; omega)
  unfold laws_toClaimS.f
  simp only [if_pos (ge0 l.length), if_pos (show ((l.length : Int)).toNat ≤ 7036874417766 by omega)]
  exact e

/-! impl_FirstProved -/
theorem impl_FirstProved_ev (l : List (S132)) (t : Int) (h : l.length ≤ 1099511627776) : Ev (fun k => impl_FirstProved.f k l t) (firstProved l t) := by
  refine ev_range l (fun k (o : Option (S132)) i => impl_FirstProved.l0 k t o.isSome l (l.length : Int) i (o.getD ⟨0, 0, 0, 0, 0⟩).f0 (o.getD ⟨0, 0, 0, 0, 0⟩).f1 (o.getD ⟨0, 0, 0, 0, 0⟩).f2 (o.getD ⟨0, 0, 0, 0, 0⟩).f3 (o.getD ⟨0, 0, 0, 0, 0⟩).f4) (fun o r => fpId (r.foldl (fpStep t) o)) (fun _ _ => True) (by omega) ?_ ?_ none trivial
  · intro o _
    simp only [impl_FirstProved.l0, if_neg (Int.lt_irrefl _)]
    cases o <;> exact Ev.now _
  · intro pre x rest o _ hlt hget _ ih
    have hr : rd_T132 l (pre.length : Int) = x := hget _
    simp only [impl_FirstProved.l0, if_pos hlt, if_pos (ge0 pre.length), hr, List.foldl_cons]
    by_cases h1 : x.f2 = t
    · by_cases h2 : x.f4 = 1
      · cases o with
        | none =>
          simp only [if_pos h1, if_pos h2, Option.isSome_none, Bool.false_eq_true, if_false, show fpStep t none x = some x by simp [fpStep, h1, h2]]
          exact ih (some x) trivial
        | some b =>
          by_cases h3 : x.f3 < b.f3
          · simp only [if_pos h1, if_pos h2, Option.isSome_some, if_true, Option.getD_some, if_pos h3, show fpStep t (some b) x = some x by simp [fpStep, h1, h2, h3]]
            exact ih (some x) trivial
          · simp only [if_pos h1, if_pos h2, Option.isSome_some, if_true, Option.getD_some, if_neg h3, show fpStep t (some b) x = some b by simp [fpStep, h3]]
            exact ih (some b) trivial
      · simp only [if_pos h1, if_neg h2, show fpStep t o x = o by simp [fpStep, h2]]
        exact ih o trivial
    · simp only [if_neg h1, show fpStep t o x = o by simp [fpStep, h1]]
      exact ih o trivial

/-! impl_InRange -/
theorem impl_InRange_eq (a b c : Int) : impl_InRange.f a b c = some (inr a b c) := by
  unfold impl_InRange.f inr
  by_cases h : b ≤ a <;> simp [h]

/-! impl_IsThing -/
theorem impl_IsThing_eq (a b c d e : Int) : impl_IsThing.f a b c d e = some (isThing a b c d e) := by
  simp only [impl_IsThing.f, impl_InRange_eq, Option.bind_some, ite_and, isThing]

/-! impl_IsFind -/
theorem impl_IsFind_eq (a b c d e f g h : Int) : impl_IsFind.f a b c d e f g h = some (isFind a b c d e f g h) := by
  simp only [impl_IsFind.f, impl_IsThing_eq, impl_InRange_eq, Option.bind_some, ite_and, isFind]

/-! impl_KeepDays -/
theorem impl_KeepDays_ev (a : Int) : Ev (fun k => impl_KeepDays.f k a) (keepDays a) := by
  refine ev_succ ?_
  simp only [impl_KeepDays.f, impl_KeepDays.j0]
  refine ev_const ?_
  unfold keepDays
  by_cases h7 : a = 7
  · simp [h7]
  by_cases h4 : a = 4
  · simp [h4]
  by_cases h5 : a = 5
  · simp [h5]
  simp only [h7, h4, h5, if_false, beq_iff_eq]
  by_cases hr : inr a 1 8 = true
  · have := (inr_iff a 1 8).1 hr
    rw [if_pos hr]
    have : a = 1 ∨ a = 2 ∨ a = 3 ∨ a = 6 ∨ a = 8 := by omega
    rcases this with rfl | rfl | rfl | rfl | rfl <;> rfl
  · rw [if_neg hr]
    have hn : ¬ (1 ≤ a ∧ a ≤ 8) := fun h => hr ((inr_iff a 1 8).2 h)
    rw [if_neg (by omega), if_neg (by omega), if_neg (by omega), if_neg (by omega), if_neg (by omega)]

/-! impl_DueHour -/
theorem impl_DueHour_ev (a b c d e f g h : Int) : Ev (fun k => impl_DueHour.f k a b c d e f g h) (dueHour a b c d e f g h) := by
  simp only [impl_DueHour.f, impl_IsFind_eq, Option.bind_some, dueHour]
  by_cases h1 : isFind a b c d e f g h = true
  · simp only [h1, if_true]
    exact Ev.bind (impl_KeepDays_ev b) (Ev.now _)
  · simp only [h1]
    exact Ev.now _

/-! impl_IsDue -/
theorem impl_IsDue_ev (a b c d e f g h n : Int) : Ev (fun k => impl_IsDue.f k a b c d e f g h n) (isDue a b c d e f g h n) := by
  simp only [impl_IsDue.f, impl_IsFind_eq, Option.bind_some, isDue]
  cases h1 : isFind a b c d e f g h with
  | false => exact Ev.now _
  | true => exact Ev.bind (impl_DueHour_ev _ _ _ _ _ _ _ _) (Ev.now _)

/-! impl_FateOf -/
theorem impl_FateOf_j2_ev (b : Bool) (a0 a1 a2 a3 w : Int) : Ev (fun k => impl_FateOf.j2 k b a0 a1 a2 a3 w) (if b then 2 else if w > 5000 then 3 else 4) := by
  refine ev_succ ?_
  simp only [impl_FateOf.j2]
  cases b <;> by_cases h : w > 5000 <;> simp only [h, if_true, if_false, Bool.false_eq_true] <;> exact Ev.now _
theorem impl_FateOf_j1_ev (b : Bool) (x0 x1 x2 x3 x4 x5 x6 f a0 a1 a2 a3 w : Int) : Ev (fun k => impl_FateOf.j1 k b x0 x1 x2 x3 x4 x5 x6 f a0 a1 a2 a3 w) (if b then 5 else if w > 5000 then 3 else if f = 0 then 4 else 2) := by
  refine ev_succ ?_
  simp only [impl_FateOf.j1]
  cases b with
  | true =>
    simp only [if_true]
    exact Ev.now _
  | false =>
    simp only [Bool.false_eq_true, if_false]
    by_cases h1 : f = 0
    · simp only [if_pos h1]
      exact ev_map (impl_FateOf_j2_ev _ _ _ _ _ _) (by simp)
    · simp only [if_neg h1]
      refine ev_map (impl_FateOf_j2_ev _ _ _ _ _ _) ?_
      by_cases h2 : w > 5000
      · simp [h2]
      · simp [h2]
theorem impl_FateOf_j0_ev (b : Bool) (x0 x1 x2 x3 x4 x5 x6 f a0 kind a2 a3 w : Int) : Ev (fun k => impl_FateOf.j0 k b x0 x1 x2 x3 x4 x5 x6 f a0 kind a2 a3 w) (if b then 0 else if kind = 7 ∨ w = 0 then 5 else if w > 5000 then 3 else if f = 0 then 4 else 2) := by
  refine ev_succ ?_
  simp only [impl_FateOf.j0]
  cases b with
  | true =>
    simp only [if_true]
    exact Ev.now _
  | false =>
    simp only [Bool.false_eq_true, if_false]
    by_cases h1 : kind = 7
    · simp only [if_pos h1]
      exact ev_map (impl_FateOf_j1_ev _ _ _ _ _ _ _ _ _ _ _ _ _ _) (by simp [h1])
    · simp only [if_neg h1]
      exact ev_map (impl_FateOf_j1_ev _ _ _ _ _ _ _ _ _ _ _ _ _ _) (by simp [h1])
theorem impl_FateOf_ev (id kind colour size worth place hour finder : Int) (l : List (S132)) (now : Int) (h : l.length ≤ 1099511627776) :
    Ev (fun k => impl_FateOf.f k id kind colour size worth place hour finder l now) (fateOf id kind colour size worth place hour finder l now) := by
  unfold impl_FateOf.f fateOf
  refine Ev.bind (impl_FirstProved_ev l id h) ?_
  by_cases h1 : firstProved l id = 0
  · simp only [if_pos h1]
    refine Ev.bind (impl_IsDue_ev _ _ _ _ _ _ _ _ _) ?_
    cases h2 : isDue id kind colour size worth place hour finder now with
    | false =>
      simp only [Bool.false_eq_true, if_false]
      exact ev_map (impl_FateOf_j0_ev _ _ _ _ _ _ _ _ _ _ _ _ _ _) (by simp)
    | true =>
      have hp : (impl_FateOf_1.p id kind colour size worth : S132 → Bool) = opens id := by
        funext y
        unfold impl_FateOf_1.p opens
        rw [Bool.beq_eq_decide_eq, Bool.beq_eq_decide_eq]
      simp only [if_true, impl_FateOf_1.f, hp, Option.bind_some]
      exact ev_map (impl_FateOf_j0_ev _ _ _ _ _ _ _ _ _ _ _ _ _ _) (by simp)
  · simp only [if_neg h1]
    exact Ev.now _

/-! impl_FatesOf -/
theorem impl_FatesOf_ev (f : List (S126)) (l : List (S132)) (now : Int) (h : f.length ≤ 1099511627776) (h' : l.length ≤ 1099511627776) : Ev (fun k => impl_FatesOf.f k f l now) (fatesOf f l now) := by
  refine ev_map (ev_range f (fun k (s : List Int) i => impl_FatesOf.l0 k l now s f (f.length : Int) i) (fun s r => s ++ r.map (fateFor l now)) (fun p s => s.length ≤ p.length) (by omega) ?_ ?_ [] (Nat.le_refl _)) (by simp [fatesOf])
  · intro s _
    simp only [impl_FatesOf.l0, if_neg (Int.lt_irrefl _)]
    exact ev_const (by simp)
  · intro pre x rest s _ hlt hget hs ih
    have hr : rd_T126 f (pre.length : Int) = x := hget _
    have hs' : s.length ≤ pre.length := hs
    have hd : fateOf x.f0.f0 x.f0.f1 x.f0.f2 x.f0.f3 x.f0.f4 x.f1 x.f2 x.f3 l now = fateFor l now x := rfl
    simp only [impl_FatesOf.l0, if_pos hlt, if_pos (ge0 pre.length), hr]
    refine Ev.bind (impl_FateOf_ev _ _ _ _ _ _ _ _ _ _ h') ?_
    simp only [hd, if_pos (show s.length < 17592186044416 by omega)]
    exact ev_map (ih _ (by simp; omega)) (by simp)

/-! laws_eqFindS -/
theorem laws_eqFindS_loop (rest : List (S126)) : ∀ (pre : List (S126)), (pre ++ rest).length ≤ 1099511627776 → Ev (fun k => laws_eqFindS.l0 k (pre ++ rest) (pre ++ rest) (pre.length : Int)) true := by
  induction rest with
  | nil =>
    intro pre h
    refine ev_succ ?_
    simp only [laws_eqFindS.l0, if_neg (nlt_pre pre)]
    exact Ev.now _
  | cons x rest ih =>
    intro pre h
    have hl := len_pre pre x rest
    refine ev_succ ?_
    simp only [laws_eqFindS.l0, if_pos (lt_pre pre x rest), if_pos (ge0 pre.length), rd_T126_pre, laws_eqFind.f, laws_eqThing.f, Option.bind_some, if_true, wsucc (show pre.length < 9223372036854775807 by omega)]
    refine Ev.congr (fun k => ?_) (ih (pre ++ [x]) (by rw [← app_pre]; exact h))
    rw [snoc_len pre x, ← app_pre]
theorem laws_eqFindS_refl (l : List (S126)) (h : l.length ≤ 1099511627776) : Ev (fun k => laws_eqFindS.f k l l) true := by
  have e := laws_eqFindS_loop l [] h
  unfold laws_eqFindS.f
  simp only [if_true]
  exact e

/-! laws_eqClaimS -/
theorem laws_eqClaimS_loop (rest : List (S132)) : ∀ (pre : List (S132)), (pre ++ rest).length ≤ 1099511627776 → Ev (fun k => laws_eqClaimS.l0 k (pre ++ rest) (pre ++ rest) (pre.length : Int)) true := by
  induction rest with
  | nil =>
    intro pre h
    refine ev_succ ?_
    simp only [laws_eqClaimS.l0, if_neg (nlt_pre pre)]
    exact Ev.now _
  | cons x rest ih =>
    intro pre h
    have hl := len_pre pre x rest
    refine ev_succ ?_
    simp only [laws_eqClaimS.l0, if_pos (lt_pre pre x rest), if_pos (ge0 pre.length), rd_T132_pre, laws_eqClaim.f, Option.bind_some, if_true, wsucc (show pre.length < 9223372036854775807 by omega)]
    refine Ev.congr (fun k => ?_) (ih (pre ++ [x]) (by rw [← app_pre]; exact h))
    rw [snoc_len pre x, ← app_pre]
theorem laws_eqClaimS_refl (l : List (S132)) (h : l.length ≤ 1099511627776) : Ev (fun k => laws_eqClaimS.f k l l) true := by
  have e := laws_eqClaimS_loop l [] h
  unfold laws_eqClaimS.f
  simp only [if_true]
  exact e

/-! marked_Find -/
def markedFind : List (S126) → Int → List (S126)
  | [], _ => []
  | _ :: l, a => (⟨(⟨a, a + 1, a + 2, a + 3, a + 4⟩ : S124), a + 5, a + 6, a + 7⟩ : S126) :: markedFind l (a + 8)
theorem markedFind_length (l : List (S126)) : ∀ a, (markedFind l a).length = l.length := by
  induction l with
  | nil => intro a; rfl
  | cons x l ih => intro a; simp [markedFind, ih]
-- Find

/-! laws_markFindS -/
theorem laws_markFindS_loop (rest : List (S126)) : ∀ (pre : List (S126)) (a : Int), 0 ≤ a → a + 8 * (rest.length : Int) ≤ 9223372036854775000 → (pre ++ rest).length ≤ 1099511627776 → Ev (fun k => laws_markFindS.l0 k (pre ++ rest) a (pre.length : Int)) (a + 8 * (rest.length : Int), pre ++ markedFind rest a) := by
  induction rest with
  | nil =>
    intro pre a h0 h1 h
    refine ev_succ ?_
    simp only [laws_markFindS.l0, if_neg (nlt_pre pre)]
    exact ev_const (by simp [markedFind])
  | cons x rest ih =>
    intro pre a h0 h1 h
    have hl := len_pre pre x rest
    rw [List.length_cons] at h1
    refine ev_succ ?_
    simp only [laws_markFindS.l0, if_pos (lt_pre pre x rest), if_pos (ge0 pre.length), rd_T126_pre, set_pre, Option.bind_some, wsucc (show pre.length < 9223372036854775807 by omega), w64 (x := a + 1) (by omega) (by omega), w64 (x := a + 2) (by omega) (by omega), w64 (x := a + 3) (by omega) (by omega), w64 (x := a + 4) (by omega) (by omega), w64 (x := a + 5) (by omega) (by omega), w64 (x := a + 6) (by omega) (by omega), w64 (x := a + 7) (by omega) (by omega), w64 (x := a + 8) (by omega) (by omega), show a + 1 + 1 = a + 2 by omega, show a + 2 + 1 = a + 3 by omega, show a + 3 + 1 = a + 4 by omega, show a + 4 + 1 = a + 5 by omega, show a + 5 + 1 = a + 6 by omega, show a + 6 + 1 = a + 7 by omega, show a + 7 + 1 = a + 8 by omega]
    refine Ev.congr (fun k => ?_) (ev_map (ih (pre ++ [(⟨(⟨a, a + 1, a + 2, a + 3, a + 4⟩ : S124), a + 5, a + 6, a + 7⟩ : S126)]) (a + 8) (by omega) (by omega) (by rw [← app_pre, len_pre]; omega)) ?_)
    · rw [← app_pre, List.length_append, List.length_singleton]
    · simp only [markedFind, List.length_cons, List.append_assoc, List.singleton_append, Prod.mk.injEq, and_true]
      omega
theorem laws_markFindS_ev (l : List (S126)) (a : Int) (h0 : 0 ≤ a) (h1 : a ≤ 1099511627776) (h : l.length ≤ 1099511627776) : Ev (fun k => laws_markFindS.f k l a) (a + 8 * (l.length : Int), markedFind l a) := laws_markFindS_loop l [] a h0 (by omega) h

/-! marked_Claim -/
def markedClaim : List (S132) → Int → List (S132)
  | [], _ => []
  | _ :: l, a => (⟨a, a + 1, a + 2, a + 3, a + 4⟩ : S132) :: markedClaim l (a + 5)
theorem markedClaim_length (l : List (S132)) : ∀ a, (markedClaim l a).length = l.length := by
  induction l with
  | nil => intro a; rfl
  | cons x l ih => intro a; simp [markedClaim, ih]
-- Claim

/-! laws_markClaimS -/
theorem laws_markClaimS_loop (rest : List (S132)) : ∀ (pre : List (S132)) (a : Int), 0 ≤ a → a + 5 * (rest.length : Int) ≤ 9223372036854775000 → (pre ++ rest).length ≤ 1099511627776 → Ev (fun k => laws_markClaimS.l0 k (pre ++ rest) a (pre.length : Int)) (a + 5 * (rest.length : Int), pre ++ markedClaim rest a) := by
  induction rest with
  | nil =>
    intro pre a h0 h1 h
    refine ev_succ ?_
    simp only [laws_markClaimS.l0, if_neg (nlt_pre pre)]
    exact ev_const (by simp [markedClaim])
  | cons x rest ih =>
    intro pre a h0 h1 h
    have hl := len_pre pre x rest
    rw [List.length_cons] at h1
    refine ev_succ ?_
    simp only [laws_markClaimS.l0, if_pos (lt_pre pre x rest), if_pos (ge0 pre.length), rd_T132_pre, set_pre, Option.bind_some, wsucc (show pre.length < 9223372036854775807 by omega), w64 (x := a + 1) (by omega) (by omega), w64 (x := a + 2) (by omega) (by omega), w64 (x := a + 3) (by omega) (by omega), w64 (x := a + 4) (by omega) (by omega), w64 (x := a + 5) (by omega) (by omega), show a + 1 + 1 = a + 2 by omega, show a + 2 + 1 = a + 3 by omega, show a + 3 + 1 = a + 4 by omega, show a + 4 + 1 = a + 5 by omega]
    refine Ev.congr (fun k => ?_) (ev_map (ih (pre ++ [(⟨a, a + 1, a + 2, a + 3, a + 4⟩ : S132)]) (a + 5) (by omega) (by omega) (by rw [← app_pre, len_pre]; omega)) ?_)
    · rw [← app_pre, List.length_append, List.length_singleton]
    · simp only [markedClaim, List.length_cons, List.append_assoc, List.singleton_append, Prod.mk.injEq, and_true]
      omega
theorem laws_markClaimS_ev (l : List (S132)) (a : Int) (h0 : 0 ≤ a) (h1 : a ≤ 1099511627776) (h : l.length ≤ 1099511627776) : Ev (fun k => laws_markClaimS.f k l a) (a + 5 * (l.length : Int), markedClaim l a) := laws_markClaimS_loop l [] a h0 (by omega) h

/-! the law -/
theorem Pf.FnExactFatesOf : FnExactFatesOfLaw := by
  intro l0 l1 a2 hm0 hq0 hm1 hq1 hq2
  refine Ev.rounds ?_
  unfold laws_FnExactFatesOf.f
  by_cases hl0 : (l0.length : Int) ≤ 1048576
  · have hsz0 : ¬ (1048576 - (l0.length : Int) < 0) := by omega
    simp only [laws_szFindS_ok l0 (1048576) hl0 (by omega), Option.bind_some, if_neg hsz0]
    by_cases hl1 : (l1.length : Int) ≤ 1048576 - (l0.length : Int)
    · have hsz1 : ¬ (1048576 - (l0.length : Int) - (l1.length : Int) < 0) := by omega
      simp only [laws_szClaimS_ok l1 (1048576 - (l0.length : Int)) hl1 (by omega), Option.bind_some, if_neg hsz1]
      have hc0 : (l0.map cFind).length ≤ 1048576 := by rw [List.length_map]; omega
      have hk0 : ¬ ((1 : Int) + 8 * ((l0.map cFind).length : Int) < 0) := by omega
      have hc1 : (l1.map cClaim).length ≤ 1048576 := by rw [List.length_map]; omega
      have hk1 : ¬ ((1 : Int) + 5 * ((l1.map cClaim).length : Int) < 0) := by omega
      have hR0 : (fatesOf (l0.map cFind) (l1.map cClaim) a2).length ≤ 1099511627776 := Nat.le_trans (Nat.le_of_eq (fatesOf_len _ _ _)) (by omega)
      have hr0 : ¬ ((1 : Int) + 1 * ((fatesOf (l0.map cFind) (l1.map cClaim) a2).length : Int) < 0) := by omega
      have hk9 : ¬ ((1 : Int) + 8 * ((l0.map cFind).length : Int) + 5 * ((l1.map cClaim).length : Int) < 0) := by omega
      repeat' first
        | exact Ev.now _
        | refine Ev.bind (spec_FatesOf_ev _ _ _ (by omega) (by omega)) ?_
        | refine Ev.bind (impl_FatesOf_ev _ _ _ (by omega) (by omega)) ?_
        | refine Ev.bind (laws_toFindS_ev _ (by omega)) ?_
        | refine Ev.bind (laws_eqFindS_refl _ (by omega)) ?_
        | refine Ev.bind (laws_markFindS_ev _ _ (by omega) (by omega) (by omega)) ?_
        | refine Ev.bind (laws_toClaimS_ev _ (by omega)) ?_
        | refine Ev.bind (laws_eqClaimS_refl _ (by omega)) ?_
        | refine Ev.bind (laws_markClaimS_ev _ _ (by omega) (by omega) (by omega)) ?_
        | refine Ev.bind (laws_eqIntS_refl _ (by omega)) ?_
        | refine Ev.bind (laws_markIntS_ev _ _ (by omega) (by omega) (by omega)) ?_
        | refine Ev.bind (laws_heldIntS_ev _ _ (by omega) (by omega) (by omega)) ?_
        | simp only [if_true, if_false, Bool.not_true, Bool.not_false, bne_self_eq_false, Bool.false_eq_true, Option.bind_some, if_neg hk0, if_neg hk1, if_neg hr0, if_neg hk9]
        | (refine ev_succ ?_; simp only [laws_FnExactFatesOf.j0])
    · simp only [laws_szClaimS_big l1 (1048576 - (l0.length : Int)) (by omega) (by omega) hm1, Option.bind_some]
      exact Ev.now _
  · simp only [laws_szFindS_big l0 (1048576) (by omega) (by omega) hm0, Option.bind_some]
    exact Ev.now _

end Go.Proofs.Ytpkdbkheggfkkaa.PFnExactFatesOf
