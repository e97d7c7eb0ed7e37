/- The plain part of FnExactWriteLetter: what the printed functions come to, and that the law's answer is true. No conditions beyond those of the statement. -/
import Derived.Test.YtbfpdakodcegjaaPFnExactWriteLetterx
import Derived.Test.YtbfpdakodcegjaaBase
import Derived.Test.YtbfpdakodcegjaaDefFnExactWriteLetter
namespace Go.Proofs.Ytbfpdakodcegjaa.PFnExactWriteLetter
open Go.RowKit Go.Proofs.YtbfpdakodcegjaaW.PrintWords Go.Proofs.YtbfpdakodcegjaaW.PrintMore Go.Proofs.Ytbfpdakodcegjaa.Base
set_option linter.unusedVariables false
set_option linter.unusedSimpArgs false

/-! laws_szLetterS -/
theorem laws_szLetterS_ok (l : List (S116)) (a : Int) (h0 : (l.length : Int) ≤ a) (h1 : a ≤ 1048576) : laws_szLetterS.f l a = some (a - (l.length : Int)) := by
  unfold laws_szLetterS.f
  rw [w64 (by omega) (by omega), if_neg (by omega)]
theorem laws_szLetterS_big (l : List (S116)) (a : Int) (h0 : a < (l.length : Int)) (h1 : 0 ≤ a) (h2 : l.length ≤ 9223372036854775807) : laws_szLetterS.f l a = some (-1) := by
  unfold laws_szLetterS.f
  rw [w64 (by omega) (by omega), if_pos (by omega)]

/-! spec_l1In -/
theorem spec_l1In_eq (a b c : Int) : spec_l1In.f a b c = some (inr a b c) := by
  unfold spec_l1In.f inr
  by_cases h : b ≤ a <;> simp [h]

/-! type_114 -/
theorem rd_T114_pre (pre : List (S114)) (x : S114) (rest : List (S114)) : rd_T114 (pre ++ x :: rest) (pre.length : Int) = x := getD_pre pre x rest z114

/-! areLetters -/
def ltFits (x : S114) : Bool := inr x.f0 1 999 && (inr x.f1 1 999 && inr x.f2 0 100000)
def ltLate (pre : List (S114)) (x : S114) : Bool := match pre.getLast? with | none => false | some y => decide (x.f2 < y.f2)
def ltClash (x y : S114) : Bool := decide (x.f0 = y.f0) && (decide (x.f1 = y.f1) || decide (wrap64 (x.f2 - y.f2) < 168))
def ltOk : List (S114) → List (S114) → Bool
  | _, [] => true
  | pre, x :: rest => ltFits x && (!ltLate pre x && (!pre.any (ltClash x) && ltOk (pre ++ [x]) rest))
def areLetters (l : List (S114)) : Bool := decide (l.length ≤ 60) && ltOk [] l

/-! spec_AreLetters -/
theorem spec_AreLetters_j1_true (l : List (S114)) (i a b c : Int) : Ev (fun k => spec_AreLetters.j1 k l i true a b c) false := by
  refine ev_succ ?_
  simp only [spec_AreLetters.j1, if_true]
  exact Ev.now _
theorem spec_AreLetters_l1 {l pre rest : List (S114)} {x : S114} (e : l = pre ++ x :: rest) (hl : l.length < 9223372036854775807) (R : Bool) (ih : Ev (fun k => spec_AreLetters.l0 k l (wrap64 ((pre.length : Int) + 1))) R) :
    Ev (fun k => spec_AreLetters.l1 k l (pre.length : Int) 0 x.f0 x.f1 x.f2) (!pre.any (ltClash x) && R) := by
  have hlen : l.length = pre.length + (rest.length + 1) := by rw [e, len_pre]
  refine ev_range pre (fun k _ j => spec_AreLetters.l1 k l (pre.length : Int) j x.f0 x.f1 x.f2) (fun _ r => !r.any (ltClash x) && R) (fun _ _ => True) (by omega) ?_ ?_ () trivial
  · intro _ _
    simp only [spec_AreLetters.l1, if_neg (Int.lt_irrefl _)]
    simpa using ih
  · intro p y r _ ep hlt hget _ ihj
    have hr : rd_T114 l (p.length : Int) = y := by
      have := hget z114
      unfold rd_T114
      rw [e, getD_app _ _ _ (by omega)]
      exact this
    simp only [spec_AreLetters.l1, if_pos hlt, if_pos (ge0 p.length), if_pos (show (p.length : Int) < (l.length : Int) by omega), hr]
    by_cases h0 : y.f0 = x.f0
    · by_cases h1 : y.f1 = x.f1
      · simp only [if_pos h0, if_pos h1]
        exact ev_const (by simp [ltClash, h0, h1])
      · by_cases h2 : wrap64 (x.f2 - y.f2) < 168
        · simp only [if_pos h0, if_neg h1, if_pos h2]
          exact ev_const (by simp [ltClash, h0, h2])
        · simp only [if_pos h0, if_neg h1, if_neg h2]
          exact ev_map (ihj () trivial) (by simp [ltClash, h0, Ne.symm h1, h2])
    · simp only [if_neg h0]
      exact ev_map (ihj () trivial) (by simp [ltClash, Ne.symm h0])
theorem spec_AreLetters_j1_false {l pre rest : List (S114)} {x : S114} (e : l = pre ++ x :: rest) (hl : l.length < 9223372036854775807) (R : Bool) (ih : Ev (fun k => spec_AreLetters.l0 k l (wrap64 ((pre.length : Int) + 1))) R) :
    Ev (fun k => spec_AreLetters.j1 k l (pre.length : Int) false x.f0 x.f1 x.f2) (!pre.any (ltClash x) && R) := by
  refine ev_succ ?_
  simp only [spec_AreLetters.j1]
  exact spec_AreLetters_l1 e hl R ih
theorem spec_AreLetters_ev (l : List (S114)) (hl : l.length < 9223372036854775807) : Ev (fun k => spec_AreLetters.f k l) (areLetters l) := by
  refine ev_map (ev_range l (fun k (_ : List (S114)) i => spec_AreLetters.l0 k l i) (fun s r => ltOk s r && decide ((l.length : Int) ≤ 60)) (fun p s => s = p) hl ?_ ?_ [] rfl) ?_
  · intro s _
    simp only [spec_AreLetters.l0, if_neg (Int.lt_irrefl _)]
    exact ev_const (by simp [ltOk])
  · rintro pre x rest s e hlt hget rfl ih
    have hr : rd_T114 l (s.length : Int) = x := hget _
    have ih' := ih _ rfl
    simp only [spec_AreLetters.l0, if_pos hlt, if_pos (ge0 s.length), hr, spec_l1In_eq, Option.bind_some, ltOk, ltFits]
    cases h1 : inr x.f0 1 999 with
    | false => exact spec_AreLetters_j1_true _ _ _ _ _
    | true =>
      cases h2 : inr x.f1 1 999 with
      | false => exact spec_AreLetters_j1_true _ _ _ _ _
      | true =>
        cases h3 : inr x.f2 0 100000 with
        | false => exact spec_AreLetters_j1_true _ _ _ _ _
        | true =>
          simp only [if_true, Bool.true_and]
          rcases prev_cases e hl with ⟨hp, hn⟩ | ⟨y, hy, h4, h5, h6, h7⟩
          · simp only [if_neg hn]
            exact ev_map (spec_AreLetters_j1_false e hl _ ih') (by simp [ltLate, hp])
          · have hr7 : rd_T114 l (wrap64 ((s.length : Int) - 1)) = y := h7 _
            simp only [if_pos h4, if_pos h5, if_pos h6, hr7]
            by_cases h8 : y.f2 > x.f2
            · simp only [h8, decide_true]
              exact ev_map (spec_AreLetters_j1_true _ _ _ _ _) (by simp [ltLate, hy, show x.f2 < y.f2 from h8])
            · simp only [h8, decide_false]
              exact ev_map (spec_AreLetters_j1_false e hl _ ih') (by simp [ltLate, hy, show ¬ x.f2 < y.f2 from h8, Bool.and_assoc])
  · unfold areLetters
    rw [Bool.and_comm, show decide ((l.length : Int) ≤ 60) = decide (l.length ≤ 60) from decide_eq_decide.2 (by omega)]

/-! mayWrite -/
def mayWrite (l : List (S114)) (r t n : Int) : Bool := areLetters l && areLetters (l ++ [⟨r, t, n⟩])

/-! spec_MayWrite -/
theorem spec_MayWrite_ev (l : List (S114)) (r t n : Int) (hl : l.length ≤ 1048576) : Ev (fun k => spec_MayWrite.f k l r t n) (mayWrite l r t n) := by
  unfold spec_MayWrite.f mayWrite
  refine Ev.bind (spec_AreLetters_ev l (by omega)) ?_
  cases h : areLetters l with
  | false => exact Ev.now _
  | true =>
    simp only [if_true, Option.bind_some, List.length_nil, List.nil_append, Nat.zero_add, if_pos (show l.length < 5864062014805 by omega), Bool.true_and]
    refine Ev.bind (spec_AreLetters_ev _ (by simp; omega)) ?_
    exact Ev.now _

/-! writeLetter -/
def writeLetter (l : List (S114)) (r t n : Int) : List (S114) × Bool := if mayWrite l r t n = true then (l ++ [⟨r, t, n⟩], true) else (l, false)
theorem writeLetter_len (l : List (S114)) (r t n : Int) : (writeLetter l r t n).1.length ≤ l.length + 1 := by
  unfold writeLetter
  split <;> simp

/-! spec_WriteLetter -/
theorem spec_WriteLetter_ev (l : List (S114)) (r t n : Int) (hl : l.length ≤ 1048576) : Ev (fun k => spec_WriteLetter.f k l r t n) (writeLetter l r t n) := by
  unfold spec_WriteLetter.f writeLetter
  simp only [Option.bind_some, List.length_nil, List.nil_append, Nat.zero_add, if_pos (show l.length < 5864062014805 by omega)]
  refine Ev.bind (spec_MayWrite_ev l r t n hl) ?_
  cases h : mayWrite l r t n <;> exact Ev.now _

/-! type_116 -/
theorem rd_T116_pre (pre : List (S116)) (x : S116) (rest : List (S116)) : rd_T116 (pre ++ x :: rest) (pre.length : Int) = x := getD_pre pre x rest z116

/-! conv_Letter -/
def cLetter (x : S116) : S114 := (⟨x.f0, x.f1, x.f2⟩ : S114)

/-! laws_toLetterS -/
theorem laws_toLetterS_loop (rest : List (S116)) : ∀ (pre : List (S116)), (pre ++ rest).length ≤ 1099511627776 → Ev (fun k => laws_toLetterS.l0 k (pre ++ rest) ((pre).map cLetter ++ List.replicate rest.length z114) (pre.length : Int)) ((pre ++ rest).map cLetter) := by
  induction rest with
  | nil =>
    intro pre h
    refine ev_succ ?_
    simp only [laws_toLetterS.l0, if_neg (nlt_pre pre)]
    exact ev_const (by simp)
  | cons x rest ih =>
    intro pre h
    have hl := len_pre pre x rest
    have hlt : (pre.length : Int) < (((pre).map cLetter ++ List.replicate (x :: rest).length z114).length : Int) := by
      simp
      omega
    have hset : ((pre).map cLetter ++ List.replicate (x :: rest).length z114).set ((pre.length : Int)).toNat (⟨x.f0, x.f1, x.f2⟩ : S114) = (pre ++ [x]).map cLetter ++ List.replicate rest.length z114 := by
      simp [List.replicate_succ, cLetter]
    refine ev_succ ?_
    simp only [laws_toLetterS.l0, if_pos (lt_pre pre x rest), if_pos (ge0 pre.length), rd_T116_pre, laws_toLetter.f, Option.bind_some, if_pos hlt, wsucc (show pre.length < 9223372036854775807 by omega)]
    refine ev_map (Ev.congr (fun k => ?_) (ih (pre ++ [x]) (by rw [← app_pre]; exact h))) (by rw [← app_pre pre x rest])
    rw [hset, snoc_len pre x, ← app_pre pre x rest]
theorem laws_toLetterS_ev (l : List (S116)) (h : l.length ≤ 1048576) : Ev (fun k => laws_toLetterS.f k l) (l.map cLetter) := by
  have e := laws_toLetterS_loop l [] (by simp; omega)
  unfold laws_toLetterS.f
  simp only [if_pos (ge0 l.length), if_pos (show ((l.length : Int)).toNat ≤ 11728124029610 by omega)]
  exact e

/-! impl_InRange -/
theorem impl_InRange_eq (a b c : Int) : impl_InRange.f a b c = some (inr a b c) := by
  unfold impl_InRange.f inr
  by_cases h : b ≤ a <;> simp [h]

/-! impl_AreLetters -/
theorem impl_AreLetters_j1_true (l : List (S114)) (i n j a b c : Int) : Ev (fun k => impl_AreLetters.j1 k l i l n j true a b c) false := by
  refine ev_succ ?_
  simp only [impl_AreLetters.j1, if_true]
  exact Ev.now _
theorem impl_AreLetters_j1_false {l pre rest : List (S114)} {x : S114} (e : l = pre ++ x :: rest) (hl : l.length < 9223372036854775807) (R : Bool) (ih : Ev (fun k => impl_AreLetters.l0 k l l (l.length : Int) (wrap64 ((pre.length : Int) + 1))) R) :
    Ev (fun k => impl_AreLetters.j1 k l (pre.length : Int) l (l.length : Int) (pre.length : Int) false x.f0 x.f1 x.f2) (!pre.any (ltClash x) && R) := by
  have hlen : l.length = pre.length + (rest.length + 1) := by rw [e, len_pre]
  have ht : l.take ((pre.length : Int)).toNat = pre := by rw [e]; simp
  refine ev_succ ?_
  simp only [impl_AreLetters.j1, if_pos (ge0 pre.length), if_pos (show (pre.length : Int) ≤ (l.length : Int) by omega), ht, Option.bind_some]
  refine ev_range pre (fun k _ j => impl_AreLetters.l1 k l l (l.length : Int) (pre.length : Int) pre (pre.length : Int) j x.f0 x.f1 x.f2) (fun _ r => !r.any (ltClash x) && R) (fun _ _ => True) (by omega) ?_ ?_ () trivial
  · intro _ _
    simp only [impl_AreLetters.l1, if_neg (Int.lt_irrefl _)]
    simpa using ih
  · intro p y r _ ep hlt hget _ ihj
    have hr : rd_T114 pre (p.length : Int) = y := hget _
    simp only [impl_AreLetters.l1, if_pos hlt, if_pos (ge0 p.length), hr]
    by_cases h0 : x.f0 = y.f0
    · by_cases h1 : x.f1 = y.f1
      · simp only [if_pos h0, if_pos h1]
        exact ev_const (by simp [ltClash, h0, h1])
      · by_cases h2 : wrap64 (x.f2 - y.f2) < 168
        · simp only [if_pos h0, if_neg h1, if_pos h2]
          exact ev_const (by simp [ltClash, h0, h2])
        · simp only [if_pos h0, if_neg h1, if_neg h2]
          exact ev_map (ihj () trivial) (by simp [ltClash, h0, h1, h2])
    · simp only [if_neg h0]
      exact ev_map (ihj () trivial) (by simp [ltClash, h0])
theorem impl_AreLetters_ev (l : List (S114)) (hl : l.length < 9223372036854775807) : Ev (fun k => impl_AreLetters.f k l) (areLetters l) := by
  unfold impl_AreLetters.f areLetters
  by_cases hb : (l.length : Int) > 60
  · simp only [if_pos hb]
    exact ev_const (by simp; omega)
  · simp only [if_neg hb, show decide (l.length ≤ 60) = true from decide_eq_true (by omega), Bool.true_and]
    refine ev_range l (fun k (_ : List (S114)) i => impl_AreLetters.l0 k l l (l.length : Int) i) (fun s r => ltOk s r) (fun p s => s = p) hl ?_ ?_ [] rfl
    · intro s _
      simp only [impl_AreLetters.l0, if_neg (Int.lt_irrefl _)]
      exact ev_const (by simp [ltOk])
    · rintro pre x rest s e hlt hget rfl ih
      have hr : rd_T114 l (s.length : Int) = x := hget _
      have ih' := ih _ rfl
      simp only [impl_AreLetters.l0, if_pos hlt, if_pos (ge0 s.length), hr, impl_InRange_eq, Option.bind_some, ltOk, ltFits]
      cases h1 : inr x.f0 1 999 with
      | false => exact impl_AreLetters_j1_true _ _ _ _ _ _ _
      | true =>
        cases h2 : inr x.f1 1 999 with
        | false => exact impl_AreLetters_j1_true _ _ _ _ _ _ _
        | true =>
          cases h3 : inr x.f2 0 100000 with
          | false => exact impl_AreLetters_j1_true _ _ _ _ _ _ _
          | true =>
            simp only [if_true, Bool.true_and]
            rcases prev_cases e hl with ⟨hp, hn⟩ | ⟨y, hy, h4, h5, h6, h7⟩
            · simp only [if_neg hn]
              exact ev_map (impl_AreLetters_j1_false e hl _ ih') (by simp [ltLate, hp])
            · have hr7 : rd_T114 l (wrap64 ((s.length : Int) - 1)) = y := h7 _
              simp only [if_pos h4, if_pos h5, if_pos h6, hr7]
              by_cases h8 : x.f2 < y.f2
              · simp only [h8, decide_true]
                exact ev_map (impl_AreLetters_j1_true _ _ _ _ _ _ _) (by simp [ltLate, hy, h8])
              · simp only [h8, decide_false]
                exact ev_map (impl_AreLetters_j1_false e hl _ ih') (by simp [ltLate, hy, h8])

/-! clone:impl.Letter -/
theorem clone_Letter_eq (l : List (S114)) (h : l.length < 5864062014805) : impl_Letter.f l = some l := by
  unfold impl_Letter.f
  simp only [Option.bind_some, List.length_nil, List.nil_append, Nat.zero_add, if_pos h]

/-! impl_MayWrite -/
theorem impl_MayWrite_ev (l : List (S114)) (r t n : Int) (hl : l.length ≤ 1048576) : Ev (fun k => impl_MayWrite.f k l r t n) (mayWrite l r t n) := by
  unfold impl_MayWrite.f mayWrite
  refine Ev.bind (impl_AreLetters_ev l (by omega)) ?_
  cases h : areLetters l with
  | false => exact Ev.now _
  | true =>
    simp only [if_true, clone_Letter_eq l (by omega), Option.bind_some, List.length_nil, List.nil_append, Nat.zero_add, if_pos (show l.length < 5864062014805 by omega), Bool.true_and]
    refine Ev.bind (impl_AreLetters_ev _ (by simp; omega)) ?_
    exact Ev.now _

/-! impl_WriteLetter -/
theorem impl_WriteLetter_ev (l : List (S114)) (r t n : Int) (hl : l.length ≤ 1048576) : Ev (fun k => impl_WriteLetter.f k l r t n) (writeLetter l r t n) := by
  unfold impl_WriteLetter.f writeLetter
  simp only [clone_Letter_eq l (by omega), Option.bind_some]
  refine Ev.bind (impl_MayWrite_ev l r t n hl) ?_
  cases h : mayWrite l r t n
  · exact Ev.now _
  · simp only [if_true, if_pos (show l.length < 5864062014805 by omega)]
    exact Ev.now _

/-! laws_eqLetterS -/
theorem laws_eqLetterS_loop (rest : List (S114)) : ∀ (pre : List (S114)), (pre ++ rest).length ≤ 1099511627776 → Ev (fun k => laws_eqLetterS.l0 k (pre ++ rest) (pre ++ rest) (pre.length : Int)) true := by
  induction rest with
  | nil =>
    intro pre h
    refine ev_succ ?_
    simp only [laws_eqLetterS.l0, if_neg (nlt_pre pre)]
    exact Ev.now _
  | cons x rest ih =>
    intro pre h
    have hl := len_pre pre x rest
    refine ev_succ ?_
    simp only [laws_eqLetterS.l0, if_pos (lt_pre pre x rest), if_pos (ge0 pre.length), rd_T114_pre, laws_eqLetter.f, Option.bind_some, if_true, wsucc (show pre.length < 9223372036854775807 by omega)]
    refine Ev.congr (fun k => ?_) (ih (pre ++ [x]) (by rw [← app_pre]; exact h))
    rw [snoc_len pre x, ← app_pre]
theorem laws_eqLetterS_refl (l : List (S114)) (h : l.length ≤ 1099511627776) : Ev (fun k => laws_eqLetterS.f k l l) true := by
  have e := laws_eqLetterS_loop l [] h
  unfold laws_eqLetterS.f
  simp only [if_true]
  exact e

/-! marked_Letter -/
def markedLetter : List (S114) → Int → List (S114)
  | [], _ => []
  | _ :: l, a => (⟨a, a + 1, a + 2⟩ : S114) :: markedLetter l (a + 3)
theorem markedLetter_length (l : List (S114)) : ∀ a, (markedLetter l a).length = l.length := by
  induction l with
  | nil => intro a; rfl
  | cons x l ih => intro a; simp [markedLetter, ih]
-- Letter

/-! laws_markLetterS -/
theorem laws_markLetterS_loop (rest : List (S114)) : ∀ (pre : List (S114)) (a : Int), 0 ≤ a → a + 3 * (rest.length : Int) ≤ 9223372036854775000 → (pre ++ rest).length ≤ 1099511627776 → Ev (fun k => laws_markLetterS.l0 k (pre ++ rest) a (pre.length : Int)) (a + 3 * (rest.length : Int), pre ++ markedLetter rest a) := by
  induction rest with
  | nil =>
    intro pre a h0 h1 h
    refine ev_succ ?_
    simp only [laws_markLetterS.l0, if_neg (nlt_pre pre)]
    exact ev_const (by simp [markedLetter])
  | cons x rest ih =>
    intro pre a h0 h1 h
    have hl := len_pre pre x rest
    rw [List.length_cons] at h1
    refine ev_succ ?_
    simp only [laws_markLetterS.l0, if_pos (lt_pre pre x rest), if_pos (ge0 pre.length), rd_T114_pre, set_pre, Option.bind_some, wsucc (show pre.length < 9223372036854775807 by omega), w64 (x := a + 1) (by omega) (by omega), w64 (x := a + 2) (by omega) (by omega), w64 (x := a + 3) (by omega) (by omega), show a + 1 + 1 = a + 2 by omega, show a + 2 + 1 = a + 3 by omega]
    refine Ev.congr (fun k => ?_) (ev_map (ih (pre ++ [(⟨a, a + 1, a + 2⟩ : S114)]) (a + 3) (by omega) (by omega) (by rw [← app_pre, len_pre]; omega)) ?_)
    · rw [← app_pre, List.length_append, List.length_singleton]
    · simp only [markedLetter, List.length_cons, List.append_assoc, List.singleton_append, Prod.mk.injEq, and_true]
      omega
theorem laws_markLetterS_ev (l : List (S114)) (a : Int) (h0 : 0 ≤ a) (h1 : a ≤ 1099511627776) (h : l.length ≤ 1099511627776) : Ev (fun k => laws_markLetterS.f k l a) (a + 3 * (l.length : Int), markedLetter l a) := laws_markLetterS_loop l [] a h0 (by omega) h

/-! laws_heldLetterS -/
theorem laws_heldLetterS_loop (rest : List (S114)) : ∀ (pre : List (S114)) (a : Int), 0 ≤ a → a + 3 * (rest.length : Int) ≤ 9223372036854775000 → (pre ++ rest).length ≤ 1099511627776 → Ev (fun k => laws_heldLetterS.l0 k (pre ++ markedLetter rest a) a (pre.length : Int)) (a + 3 * (rest.length : Int)) := by
  induction rest with
  | nil =>
    intro pre a h0 h1 h
    refine ev_succ ?_
    show Ev (fun k => laws_heldLetterS.l0 (k + 1) (pre ++ []) a (pre.length : Int)) _
    simp only [laws_heldLetterS.l0, if_neg (nlt_pre pre)]
    exact ev_const (by simp)
  | cons x rest ih =>
    intro pre a h0 h1 h
    have hl := len_pre pre x rest
    rw [List.length_cons] at h1
    refine ev_succ ?_
    show Ev (fun k => laws_heldLetterS.l0 (k + 1) (pre ++ (⟨a, a + 1, a + 2⟩ : S114) :: markedLetter rest (a + 3)) a (pre.length : Int)) _
    simp only [laws_heldLetterS.l0, if_pos (lt_pre _ _ _), if_pos (ge0 pre.length), rd_T114_pre, wsucc (show pre.length < 9223372036854775807 by omega), w64 (x := a + 1) (by omega) (by omega), w64 (x := a + 2) (by omega) (by omega), w64 (x := a + 3) (by omega) (by omega), show a + 1 + 1 = a + 2 by omega, show a + 2 + 1 = a + 3 by omega, if_true]
    refine Ev.congr (fun k => ?_) (ev_map (ih (pre ++ [(⟨a, a + 1, a + 2⟩ : S114)]) (a + 3) (by omega) (by omega) (by rw [← app_pre, len_pre]; omega)) ?_)
    · rw [← app_pre, List.length_append, List.length_singleton]
    · rw [List.length_cons]
      omega
theorem laws_heldLetterS_ev (l : List (S114)) (a : Int) (h0 : 0 ≤ a) (h1 : a ≤ 1099511627776) (h : l.length ≤ 1099511627776) : Ev (fun k => laws_heldLetterS.f k (markedLetter l a) a) (a + 3 * (l.length : Int)) := laws_heldLetterS_loop l [] a h0 (by omega) h

/-! the law -/
theorem Pf.FnExactWriteLetter : FnExactWriteLetterLaw := by
  intro l0 a1 a2 a3 hm0 hq0 hq1 hq2 hq3
  refine Ev.rounds ?_
  unfold laws_FnExactWriteLetter.f
  by_cases hl0 : (l0.length : Int) ≤ 1048576
  · have hsz0 : ¬ (1048576 - (l0.length : Int) < 0) := by omega
    simp only [laws_szLetterS_ok l0 (1048576) hl0 (by omega), Option.bind_some, if_neg hsz0]
    have hc0 : (l0.map cLetter).length ≤ 1048576 := by rw [List.length_map]; omega
    have hk0 : ¬ ((1 : Int) + 3 * ((l0.map cLetter).length : Int) < 0) := by omega
    have hR0 : ((writeLetter (l0.map cLetter) a1 a2 a3).1).length ≤ 1099511627776 := Nat.le_trans (writeLetter_len _ _ _ _) (by omega)
    have hr0 : ¬ ((1 : Int) + 3 * (((writeLetter (l0.map cLetter) a1 a2 a3).1).length : Int) < 0) := by omega
    repeat' first
      | exact Ev.now _
      | refine Ev.bind (spec_WriteLetter_ev _ _ _ _ (by omega)) ?_
      | refine Ev.bind (impl_WriteLetter_ev _ _ _ _ (by omega)) ?_
      | refine Ev.bind (laws_toLetterS_ev _ (by omega)) ?_
      | refine Ev.bind (laws_eqLetterS_refl _ (by omega)) ?_
      | refine Ev.bind (laws_markLetterS_ev _ _ (by omega) (by omega) (by omega)) ?_
      | refine Ev.bind (laws_heldLetterS_ev _ _ (by omega) (by omega) (by omega)) ?_
      | simp only [if_true, if_false, Bool.not_true, Bool.not_false, bne_self_eq_false, Bool.false_eq_true, Option.bind_some, if_neg hk0, if_neg hr0]
      | (refine ev_succ ?_; simp only [laws_FnExactWriteLetter.j0])
      | (refine ev_succ ?_; simp only [laws_FnExactWriteLetter.j1])
      | (refine ev_succ ?_; simp only [laws_FnExactWriteLetter.j2])
  · simp only [laws_szLetterS_big l0 (1048576) (by omega) (by omega) hm0, Option.bind_some]
    exact Ev.now _

end Go.Proofs.Ytbfpdakodcegjaa.PFnExactWriteLetter
