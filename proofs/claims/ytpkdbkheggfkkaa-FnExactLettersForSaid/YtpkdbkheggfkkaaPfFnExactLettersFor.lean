/- The plain part of FnExactLettersFor: what the printed functions come to, and that the law's answer is true. No conditions beyond those of the statement. -/
import Derived.Test.YtpkdbkheggfkkaaPFnExactLettersForx
import Derived.Test.YtpkdbkheggfkkaaBaseFnExactLettersFor
import Derived.Test.YtpkdbkheggfkkaaDefFnExactLettersFor
/- narrow -/
namespace Go.Proofs.Ytpkdbkheggfkkaa.PFnExactLettersFor
open Go.RowKit Go.Proofs.YtpkdbkheggfkkaaW.PrintWords Go.Proofs.YtpkdbkheggfkkaaW.PrintMore Go.Proofs.Ytpkdbkheggfkkaa.Base
set_option linter.unusedVariables false
set_option linter.unusedSimpArgs false

/-! laws_szFindS -/
theorem laws_szFindS_ok (l : List (S130)) (a : Int) (h0 : (l.length : Int) ≤ a) (h1 : a ≤ 1048576) : laws_szFindS.f l a = some (a - (l.length : Int)) := by
 unfold laws_szFindS.f
 rw [w64 (by omega) (by omega), if_neg (by omega)]
theorem laws_szFindS_big (l : List (S130)) (a : Int) (h0 : a < (l.length : Int)) (h1 : 0 ≤ a) (h2 : l.length ≤ 9223372036854775807) : laws_szFindS.f l a = some (-1) := by
 unfold laws_szFindS.f
 rw [w64 (by omega) (by omega), if_pos (by omega)]

/-! type_130 -/
theorem rd_T130_pre (pre : List (S130)) (x : S130) (rest : List (S130)) : rd_T130 (pre ++ x :: rest) (pre.length : Int) = x := getD_pre pre x rest z130

/-! type_126 -/
theorem rd_T126_pre (pre : List (S126)) (x : S126) (rest : List (S126)) : rd_T126 (pre ++ x :: rest) (pre.length : Int) = x := getD_pre pre x rest z126

/-! conv_Find -/
def cFind (x : S130) : S126 := (⟨(⟨x.f0.f0, x.f0.f1, x.f0.f2, x.f0.f3, x.f0.f4⟩ : S124), x.f1, x.f2, x.f3⟩ : S126)

/-! laws_toFindS -/
theorem laws_toFindS_loop (rest : List (S130)) : ∀ (pre : List (S130)), (pre ++ rest).length ≤ 1099511627776 → Ev (fun k => laws_toFindS.l0 k (pre ++ rest) ((pre).map cFind ++ List.replicate rest.length z126) (pre.length : Int)) ((pre ++ rest).map cFind) := by
 induction rest with
 | nil =>
  intro pre h
  refine ev_succ ?_
  simp only [laws_toFindS.l0, if_neg (nlt_pre pre)]
  exact ev_const (by simp)
 | cons x rest ih =>
  intro pre h
  have hl := len_pre pre x rest
  have hlt : (pre.length : Int) < (((pre).map cFind ++ List.replicate (x :: rest).length z126).length : Int) := by
   simp
   omega
  have hset : ((pre).map cFind ++ List.replicate (x :: rest).length z126).set ((pre.length : Int)).toNat (⟨(⟨x.f0.f0, x.f0.f1, x.f0.f2, x.f0.f3, x.f0.f4⟩ : S124), x.f1, x.f2, x.f3⟩ : S126) = (pre ++ [x]).map cFind ++ List.replicate rest.length z126 := by
   simp [List.replicate_succ, cFind]
  refine ev_succ ?_
  simp only [laws_toFindS.l0, if_pos (lt_pre pre x rest), if_pos (ge0 pre.length), rd_T130_pre, laws_toFind.f, laws_toThing.f, Option.bind_some, if_pos hlt, wsucc (show pre.length < 9223372036854775807 by omega)]
  refine ev_map (Ev.congr (fun k => ?_) (ih (pre ++ [x]) (by rw [← app_pre]; exact h))) (by rw [← app_pre pre x rest])
  rw [hset, snoc_len pre x, ← app_pre pre x rest]
theorem laws_toFindS_ev (l : List (S130)) (h : l.length ≤ 1048576) : Ev (fun k => laws_toFindS.f k l) (l.map cFind) := by
 have e := laws_toFindS_loop l [] (by simp; omega)
 unfold laws_toFindS.f
 simp only [if_pos (ge0 l.length), if_pos (show ((l.length : Int)).toNat ≤ 4398046511104 by omega)]
 exact e

/-! laws_eqFindS -/
theorem laws_eqFindS_loop (rest : List (S126)) : ∀ (pre : List (S126)), (pre ++ rest).length ≤ 1099511627776 → Ev (fun k => laws_eqFindS.l0 k (pre ++ rest) (pre ++ rest) (pre.length : Int)) true := by
 induction rest with
 | nil =>
  intro pre h
  refine ev_succ ?_
  simp only [laws_eqFindS.l0, if_neg (nlt_pre pre)]
  exact Ev.now _
 | cons x rest ih =>
  intro pre h
  have hl := len_pre pre x rest
  refine ev_succ ?_
  simp only [laws_eqFindS.l0, if_pos (lt_pre pre x rest), if_pos (ge0 pre.length), rd_T126_pre, laws_eqFind.f, laws_eqThing.f, Option.bind_some, if_true, wsucc (show pre.length < 9223372036854775807 by omega)]
  refine Ev.congr (fun k => ?_) (ih (pre ++ [x]) (by rw [← app_pre]; exact h))
  rw [snoc_len pre x, ← app_pre]
theorem laws_eqFindS_refl (l : List (S126)) (h : l.length ≤ 1099511627776) : Ev (fun k => laws_eqFindS.f k l l) true := by
 have e := laws_eqFindS_loop l [] h
 unfold laws_eqFindS.f
 simp only [if_true]
 exact e

/-! impl_InRange -/
theorem impl_InRange_eq (a b c : Int) : impl_InRange.f a b c = some (inr a b c) := by
 unfold impl_InRange.f inr
 by_cases h : b ≤ a <;> simp [h]

/-! type_81 -/
theorem rd_T81_pre (pre : List (S81)) (x : S81) (rest : List (S81)) : rd_T81 (pre ++ x :: rest) (pre.length : Int) = x := getD_pre pre x rest z81

/-! areLetters -/
def ltFits (x : S81) : Bool := inr x.f0 1 999 && (inr x.f1 1 999 && inr x.f2 0 100000)
def ltLate (pre : List (S81)) (x : S81) : Bool := match pre.getLast? with | none => false | some y => decide (x.f2 < y.f2)
def ltClash (x y : S81) : Bool := decide (x.f0 = y.f0) && (decide (x.f1 = y.f1) || decide (wrap64 (x.f2 - y.f2) < 168))
def ltOk : List (S81) → List (S81) → Bool
 | _, [] => true
 | pre, x :: rest => ltFits x && (!ltLate pre x && (!pre.any (ltClash x) && ltOk (pre ++ [x]) rest))
def areLetters (l : List (S81)) : Bool := decide (l.length ≤ 60) && ltOk [] l

/-! impl_AreLetters -/
theorem impl_AreLetters_j1_true (l : List (S81)) (i n j a b c : Int) : Ev (fun k => impl_AreLetters.j1 k l i l n j true a b c) false := by
 refine ev_succ ?_
 simp only [impl_AreLetters.j1, if_true]
 exact Ev.now _
theorem impl_AreLetters_j1_false {l pre rest : List (S81)} {x : S81} (e : l = pre ++ x :: rest) (hl : l.length < 9223372036854775807) (R : Bool) (ih : Ev (fun k => impl_AreLetters.l0 k l l (l.length : Int) (wrap64 ((pre.length : Int) + 1))) R) :
  Ev (fun k => impl_AreLetters.j1 k l (pre.length : Int) l (l.length : Int) (pre.length : Int) false x.f0 x.f1 x.f2) (!pre.any (ltClash x) && R) := by
 have hlen : l.length = pre.length + (rest.length + 1) := by rw [e, len_pre]
 have ht : l.take ((pre.length : Int)).toNat = pre := by rw [e]; simp
 refine ev_succ ?_
 simp only [impl_AreLetters.j1, if_pos (ge0 pre.length), if_pos (show (pre.length : Int) ≤ (l.length : Int) by omega), ht, Option.bind_some]
 refine ev_range pre (fun k _ j => impl_AreLetters.l1 k l l (l.length : Int) (pre.length : Int) pre (pre.length : Int) j x.f0 x.f1 x.f2) (fun _ r => !r.any (ltClash x) && R) (fun _ _ => True) (by omega) ?_ ?_ () trivial
 ·intro _ _
  simp only [impl_AreLetters.l1, if_neg (Int.lt_irrefl _)]
  simpa using ih
 ·intro p y r _ ep hlt hget _ ihj
  have hr : rd_T81 pre (p.length : Int) = y := hget _
  simp only [impl_AreLetters.l1, if_pos hlt, if_pos (ge0 p.length), hr]
  by_cases h0 : x.f0 = y.f0
  ·by_cases h1 : x.f1 = y.f1
   ·simp only [if_pos h0, if_pos h1]
    exact ev_const (by simp [ltClash, h0, h1])
   ·by_cases h2 : wrap64 (x.f2 - y.f2) < 168
    ·simp only [if_pos h0, if_neg h1, if_pos h2]
     exact ev_const (by simp [ltClash, h0, h2])
    ·simp only [if_pos h0, if_neg h1, if_neg h2]
     exact ev_map (ihj () trivial) (by simp [ltClash, h0, h1, h2])
  ·simp only [if_neg h0]
   exact ev_map (ihj () trivial) (by simp [ltClash, h0])
theorem impl_AreLetters_ev (l : List (S81)) (hl : l.length < 9223372036854775807) : Ev (fun k => impl_AreLetters.f k l) (areLetters l) := by
 unfold impl_AreLetters.f areLetters
 by_cases hb : (l.length : Int) > 60
 ·simp only [if_pos hb]
  exact ev_const (by simp; omega)
 ·simp only [if_neg hb, show decide (l.length ≤ 60) = true from decide_eq_true (by omega), Bool.true_and]
  refine ev_range l (fun k (_ : List (S81)) i => impl_AreLetters.l0 k l l (l.length : Int) i) (fun s r => ltOk s r) (fun p s => s = p) hl ?_ ?_ [] rfl
  ·intro s _
   simp only [impl_AreLetters.l0, if_neg (Int.lt_irrefl _)]
   exact ev_const (by simp [ltOk])
  ·rintro pre x rest s e hlt hget rfl ih
   have hr : rd_T81 l (s.length : Int) = x := hget _
   have ih' := ih _ rfl
   simp only [impl_AreLetters.l0, if_pos hlt, if_pos (ge0 s.length), hr, impl_InRange_eq, Option.bind_some, ltOk, ltFits]
   cases h1 : inr x.f0 1 999 with
   | false => exact impl_AreLetters_j1_true _ _ _ _ _ _ _
   | true =>
    cases h2 : inr x.f1 1 999 with
    | false => exact impl_AreLetters_j1_true _ _ _ _ _ _ _
    | true =>
     cases h3 : inr x.f2 0 100000 with
     | false => exact impl_AreLetters_j1_true _ _ _ _ _ _ _
     | true =>
      simp only [if_true, Bool.true_and]
      rcases prev_cases e hl with ⟨hp, hn⟩ | ⟨y, hy, h4, h5, h6, h7⟩
      ·simp only [if_neg hn]
       exact ev_map (impl_AreLetters_j1_false e hl _ ih') (by simp [ltLate, hp])
      ·have hr7 : rd_T81 l (wrap64 ((s.length : Int) - 1)) = y := h7 _
       simp only [if_pos h4, if_pos h5, if_pos h6, hr7]
       by_cases h8 : x.f2 < y.f2
       ·simp only [h8, decide_true]
        exact ev_map (impl_AreLetters_j1_true _ _ _ _ _ _ _) (by simp [ltLate, hy, h8])
       ·simp only [h8, decide_false]
        exact ev_map (impl_AreLetters_j1_false e hl _ ih') (by simp [ltLate, hy, h8])

/-! mayWrite -/
def mayWrite (l : List (S81)) (r t n : Int) : Bool := areLetters l && areLetters (l ++ [⟨r, t, n⟩])

/-! clone:impl.Letter -/
theorem clone_Letter_eq (l : List (S81)) (h : l.length < 5864062014805) : impl_Letter_118.f l = some l := by
 unfold impl_Letter_118.f
 simp only [Option.bind_some, List.length_nil, List.nil_append, Nat.zero_add, if_pos h]

/-! impl_MayWrite -/
theorem impl_MayWrite_ev (l : List (S81)) (r t n : Int) (hl : l.length ≤ 1048576) : Ev (fun k => impl_MayWrite.f k l r t n) (mayWrite l r t n) := by
 unfold impl_MayWrite.f mayWrite
 refine Ev.bind (impl_AreLetters_ev l (by omega)) ?_
 cases h : areLetters l with
 | false => exact Ev.now _
 | true =>
  simp only [if_true, clone_Letter_eq l (by omega), Option.bind_some, List.length_nil, List.nil_append, Nat.zero_add, if_pos (show l.length < 5864062014805 by omega), Bool.true_and]
  refine Ev.bind (impl_AreLetters_ev _ (by simp; omega)) ?_
  exact Ev.now _

/-! writeLetter -/
def writeLetter (l : List (S81)) (r t n : Int) : List (S81) × Bool := if mayWrite l r t n = true then (l ++ [⟨r, t, n⟩], true) else (l, false)
theorem writeLetter_len (l : List (S81)) (r t n : Int) : (writeLetter l r t n).1.length ≤ l.length + 1 := by
 unfold writeLetter
 split <;> simp

/-! impl_WriteLetter -/
theorem impl_WriteLetter_ev (l : List (S81)) (r t n : Int) (hl : l.length ≤ 1048576) : Ev (fun k => impl_WriteLetter.f k l r t n) (writeLetter l r t n) := by
 unfold impl_WriteLetter.f writeLetter
 simp only [clone_Letter_eq l (by omega), Option.bind_some]
 refine Ev.bind (impl_MayWrite_ev l r t n hl) ?_
 cases h : mayWrite l r t n
 ·exact Ev.now _
 ·simp only [if_true, if_pos (show l.length < 5864062014805 by omega)]
  exact Ev.now _

/-! ascends -/
def ascOk (lo hi : Int) : Option Int → List Int → Bool
 | _, [] => true
 | p, x :: rest => inr x lo hi && ((match p with | none => true | some y => decide (y < x)) && ascOk lo hi (some x) rest)

/-! impl_isAscending -/
theorem impl_isAscending_ev (l : List Int) (lo hi : Int) (h : l.length ≤ 1099511627776) : Ev (fun k => impl_isAscending.f k l lo hi) (ascOk lo hi none l) := by
 refine ev_range l (fun k (_ : Option Int) i => impl_isAscending.l0 k l lo hi l (l.length : Int) i) (fun s r => ascOk lo hi s r) (fun p s => s = p.getLast?) (by omega) ?_ ?_ none rfl
 ·intro s _
  simp only [impl_isAscending.l0, if_neg (Int.lt_irrefl _)]
  exact Ev.now _
 ·rintro pre x rest s e hlt hget rfl ih
  have hr : rd l (pre.length : Int) = x := hget 0
  have ih' := ih (some x) (by simp)
  simp only [impl_isAscending.l0, if_pos hlt, if_pos (ge0 pre.length), hr, impl_InRange_eq, Option.bind_some, ascOk]
  cases h1 : inr x lo hi with
  | false => exact Ev.now _
  | true =>
   simp only [if_true, Bool.true_and]
   rcases prev_cases e (by omega) with ⟨hp, hn⟩ | ⟨y, hy, h4, h5, h6, h7⟩
   ·simp only [if_neg hn]
    exact ev_map ih' (by simp [hp])
   ·have hr7 : rd l (wrap64 ((pre.length : Int) - 1)) = y := h7 0
    simp only [if_pos h4, if_pos h5, if_pos h6, hr7, hy]
    by_cases h8 : x ≤ y
    ·simp only [if_pos h8]
     exact ev_const (by simp [show ¬ y < x by omega])
    ·simp only [if_neg h8]
     exact ev_map ih' (by simp [show y < x by omega])

/-! has -/
def has (l : List Int) (n : Int) : Bool := l.any (fun y => decide (y = n))
theorem has_iff (l : List Int) (n : Int) : has l n = true ↔ n ∈ l := by
 unfold has
 rw [List.any_eq_true]
 constructor
 ·rintro ⟨x, hx, h⟩
  rw [← of_decide_eq_true h]
  exact hx
 ·intro h
  exact ⟨n, h, decide_eq_true rfl⟩

/-! report -/
def isSpan (a b : Int) : Bool := inr a 0 100000 && (inr b 0 100000 && decide (a ≤ b))
def isReport (id kind : Int) (cols : List Int) (lo hi : Int) (pl : List Int) (fr un : Int) : Bool :=
 inr id 1 999 && (inr kind 1 8 && (ascOk 0 7 none cols && (decide (1 ≤ lo) && (decide (lo ≤ hi) && (decide (hi ≤ 50) && (ascOk 1 30 none pl && (decide (pl.length ≤ 10) && isSpan fr un)))))))
def allows (l : List Int) (n : Int) : Bool := decide (l.length = 0) || has l n
theorem isReport_sizes {id kind : Int} {cols : List Int} {lo hi : Int} {pl : List Int} {fr un : Int} (h : isReport id kind cols lo hi pl fr un = true) : 1 ≤ lo ∧ lo ≤ hi ∧ hi ≤ 50 := by
 simp only [isReport, Bool.and_eq_true, decide_eq_true_eq] at h
 exact ⟨h.2.2.2.1, h.2.2.2.2.1, h.2.2.2.2.2.1⟩

/-! impl_IsSpan -/
theorem impl_IsSpan_eq (a b : Int) : impl_IsSpan.f a b = some (isSpan a b) := by
 unfold impl_IsSpan.f isSpan
 simp only [impl_InRange_eq, Option.bind_some]
 cases inr a 0 100000 <;> cases inr b 0 100000 <;> simp

/-! impl_IsReport -/
theorem impl_IsReport_ev (id kind : Int) (cols : List Int) (lo hi : Int) (pl : List Int) (fr un : Int) (hc : cols.length ≤ 1099511627776) (hp : pl.length ≤ 1099511627776) :
  Ev (fun k => impl_IsReport.f k id kind cols lo hi pl fr un) (isReport id kind cols lo hi pl fr un) := by
 unfold impl_IsReport.f isReport
 simp only [impl_InRange_eq, impl_IsSpan_eq, Option.bind_some]
 cases h1 : inr id 1 999 with
 | false => exact Ev.now _
 | true =>
 cases h2 : inr kind 1 8 with
 | false => exact Ev.now _
 | true =>
 simp only [if_true, Bool.true_and]
 refine Ev.bind (impl_isAscending_ev cols 0 7 hc) ?_
 cases h3 : ascOk 0 7 none cols with
 | false => exact Ev.now _
 | true =>
 simp only [if_true, Bool.true_and]
 by_cases h4 : 1 ≤ lo
 ·by_cases h5 : lo ≤ hi
  ·by_cases h6 : hi ≤ 50
   ·simp only [if_pos (show 1 ≤ lo from h4), if_pos h5, if_pos h6, decide_eq_true h4, decide_eq_true h5, decide_eq_true h6, Bool.true_and]
    refine Ev.bind (impl_isAscending_ev pl 1 30 hp) ?_
    cases h7 : ascOk 1 30 none pl with
    | false => exact Ev.now _
    | true =>
     simp only [if_true, Bool.true_and]
     by_cases h8 : pl.length ≤ 10
     ·simp only [if_pos (show (pl.length : Int) ≤ 10 by omega), decide_eq_true h8, Bool.true_and]
      exact Ev.now _
     ·simp only [if_neg (show ¬ (pl.length : Int) ≤ 10 by omega), decide_eq_false h8, Bool.false_and]
      exact Ev.now _
   ·simp only [if_pos (show 1 ≤ lo from h4), if_pos h5, if_neg h6, decide_eq_false h6, Bool.false_and, Bool.and_false]
    exact Ev.now _
  ·simp only [if_pos (show 1 ≤ lo from h4), if_neg h5, decide_eq_false h5, Bool.false_and, Bool.and_false]
   exact Ev.now _
 ·simp only [if_neg (show ¬ 1 ≤ lo from h4), decide_eq_false h4, Bool.false_and]
  exact Ev.now _

/-! type_87 -/
theorem rd_T87_pre (pre : List (S87)) (x : S87) (rest : List (S87)) : rd_T87 (pre ++ x :: rest) (pre.length : Int) = x := getD_pre pre x rest z87

/-! areReports -/
def rpFits (x : S87) : Bool := isReport x.f0 x.f1 x.f2 x.f3 x.f4 x.f5 x.f6.f0 x.f6.f1
def rpOk : Option (S87) → List (S87) → Bool
 | _, [] => true
 | p, x :: rest => rpFits x && ((match p with | none => true | some y => decide (y.f0 < x.f0)) && rpOk (some x) rest)
def areReports (l : List (S87)) : Bool := decide (l.length ≤ 20) && rpOk none l
def RBnd (l : List (S87)) : Prop := ∀ x ∈ l, x.f2.length ≤ 1099511627776 ∧ x.f5.length ≤ 1099511627776

/-! impl_AreReports -/
theorem impl_AreReports_ev (l : List (S87)) (hl : l.length < 9223372036854775807) (hb : RBnd l) : Ev (fun k => impl_AreReports.f k l) (areReports l) := by
 unfold impl_AreReports.f areReports
 by_cases hc : (l.length : Int) > 20
 ·simp only [if_pos hc]
  exact ev_const (by simp; omega)
 ·simp only [if_neg hc, show decide (l.length ≤ 20) = true from decide_eq_true (by omega), Bool.true_and]
  refine ev_range l (fun k (_ : Option (S87)) i => impl_AreReports.l0 k l l (l.length : Int) i) (fun s r => rpOk s r) (fun p s => s = p.getLast?) hl ?_ ?_ none rfl
  ·intro s _
   simp only [impl_AreReports.l0, if_neg (Int.lt_irrefl _)]
   exact Ev.now _
  ·rintro pre x rest s e hlt hget rfl ih
   have hr : rd_T87 l (pre.length : Int) = x := hget _
   have ih' := ih (some x) (by simp)
   have hx := hb x (by rw [e]; simp)
   have hf : isReport x.f0 x.f1 x.f2 x.f3 x.f4 x.f5 x.f6.f0 x.f6.f1 = rpFits x := rfl
   simp only [impl_AreReports.l0, if_pos hlt, if_pos (ge0 pre.length), hr, rpOk]
   refine Ev.bind (impl_IsReport_ev _ _ _ _ _ _ _ _ hx.1 hx.2) ?_
   simp only [hf]
   cases h1 : rpFits x with
   | false => exact Ev.now _
   | true =>
    simp only [if_true, Bool.true_and]
    rcases prev_cases e hl with ⟨hp, hn⟩ | ⟨y, hy, h4, h5, h6, h7⟩
    ·simp only [if_neg hn]
     exact ev_map ih' (by simp [hp])
    ·have hr7 : rd_T87 l (wrap64 ((pre.length : Int) - 1)) = y := h7 _
     simp only [if_pos h4, if_pos h5, if_pos h6, hr7, hy]
     by_cases h8 : x.f0 ≤ y.f0
     ·simp only [if_pos h8]
      exact ev_const (by simp [show ¬ y.f0 < x.f0 by omega])
     ·simp only [if_neg h8]
      exact ev_map ih' (by simp [show y.f0 < x.f0 by omega])

/-! impl_IsThing -/
theorem impl_IsThing_eq (a b c d e : Int) : impl_IsThing.f a b c d e = some (isThing a b c d e) := by
 simp only [impl_IsThing.f, impl_InRange_eq, Option.bind_some, ite_and, isThing]

/-! impl_IsFind -/
theorem impl_IsFind_eq (a b c d e f g h : Int) : impl_IsFind.f a b c d e f g h = some (isFind a b c d e f g h) := by
 simp only [impl_IsFind.f, impl_IsThing_eq, impl_InRange_eq, Option.bind_some, ite_and, isFind]

/-! areFinds -/
def fdFits (x : S126) : Bool := isFind x.f0.f0 x.f0.f1 x.f0.f2 x.f0.f3 x.f0.f4 x.f1 x.f2 x.f3
def fdOk : Option (S126) → List (S126) → Bool
 | _, [] => true
 | p, x :: rest => fdFits x && ((match p with | none => true | some y => decide (y.f0.f0 < x.f0.f0)) && fdOk (some x) rest)
def areFinds (l : List (S126)) : Bool := decide (l.length ≤ 20) && fdOk none l
theorem fdOk_lt : ∀ (l : List (S126)) (y : S126), fdOk (some y) l = true → ∀ x ∈ l, y.f0.f0 < x.f0.f0
 | [], _, _ => by simp
 | z :: l, y, h => by
  simp only [fdOk, Bool.and_eq_true, decide_eq_true_eq] at h
  intro x hx
  rcases List.mem_cons.1 hx with rfl | hx
  ·exact h.2.1
  ·have := fdOk_lt l z h.2.2 x hx
   omega
theorem fdOk_inj : ∀ (l : List (S126)) (p : Option (S126)), fdOk p l = true → ∀ x ∈ l, ∀ y ∈ l, x.f0.f0 = y.f0.f0 → x = y
 | [], _, _ => by simp
 | z :: l, p, h => by
  simp only [fdOk, Bool.and_eq_true] at h
  have h1 := fdOk_lt l z h.2.2
  have h2 := fdOk_inj l (some z) h.2.2
  intro x hx y hy e
  rcases List.mem_cons.1 hx with ex | hx1
  ·rcases List.mem_cons.1 hy with ey | hy1
   ·rw [ex, ey]
   ·have := h1 y hy1
    rw [ex] at e
    omega
  ·rcases List.mem_cons.1 hy with ey | hy1
   ·have := h1 x hx1
    rw [ey] at e
    omega
   ·exact h2 x hx1 y hy1 e

/-! impl_AreFinds -/
theorem impl_AreFinds_ev (l : List (S126)) (hl : l.length < 9223372036854775807) : Ev (fun k => impl_AreFinds.f k l) (areFinds l) := by
 unfold impl_AreFinds.f areFinds
 by_cases hb : (l.length : Int) > 20
 ·simp only [if_pos hb]
  exact ev_const (by simp; omega)
 ·simp only [if_neg hb, show decide (l.length ≤ 20) = true from decide_eq_true (by omega), Bool.true_and]
  refine ev_range l (fun k (_ : Option (S126)) i => impl_AreFinds.l0 k l l (l.length : Int) i) (fun s r => fdOk s r) (fun p s => s = p.getLast?) hl ?_ ?_ none rfl
  ·intro s _
   simp only [impl_AreFinds.l0, if_neg (Int.lt_irrefl _)]
   exact Ev.now _
  ·rintro pre x rest s e hlt hget rfl ih
   have hr : rd_T126 l (pre.length : Int) = x := hget _
   have ih' := ih (some x) (by simp)
   have hf : isFind x.f0.f0 x.f0.f1 x.f0.f2 x.f0.f3 x.f0.f4 x.f1 x.f2 x.f3 = fdFits x := rfl
   simp only [impl_AreFinds.l0, if_pos hlt, if_pos (ge0 pre.length), hr, impl_IsFind_eq, Option.bind_some, fdOk, hf]
   cases h1 : fdFits x with
   | false => exact Ev.now _
   | true =>
    simp only [if_true, Bool.true_and]
    rcases prev_cases e hl with ⟨hp, hn⟩ | ⟨y, hy, h4, h5, h6, h7⟩
    ·simp only [if_neg hn]
     exact ev_map ih' (by simp [hp])
    ·have hr7 : rd_T126 l (wrap64 ((pre.length : Int) - 1)) = y := h7 _
     simp only [if_pos h4, if_pos h5, if_pos h6, hr7, hy]
     by_cases h8 : x.f0.f0 ≤ y.f0.f0
     ·simp only [if_pos h8]
      exact ev_const (by simp [show ¬ y.f0.f0 < x.f0.f0 by omega])
     ·simp only [if_neg h8]
      exact ev_map ih' (by simp [show y.f0.f0 < x.f0.f0 by omega])

/-! slices_Index_int_int -/
theorem slices_Index_ev (l : List Int) (n : Int) (h : l.length ≤ 1099511627776) : ∃ r, Ev (fun k => slices_Index_int_int.f k l n) r ∧ decide (r ≥ 0) = has l n := by
 have key : ∀ (rest pre : List Int), l = pre ++ rest → ∃ r, Ev (fun k => slices_Index_int_int.l0 k l n (l.length : Int) (pre.length : Int)) r ∧ decide (r ≥ 0) = has rest n := by
  intro rest
  induction rest with
  | nil =>
   intro pre e
   rw [List.append_nil] at e
   subst e
   refine ⟨-1, ev_succ ?_, by simp [has]⟩
   simp only [slices_Index_int_int.l0, if_neg (Int.lt_irrefl _)]
   exact Ev.now _
  | cons x rest ih =>
   intro pre e
   have hl : l.length = pre.length + (rest.length + 1) := by rw [e, len_pre]
   have hr : rd l (pre.length : Int) = x := by rw [e]; exact rd_pre pre x rest
   by_cases h2 : n = x
   ·refine ⟨(pre.length : Int), ev_succ ?_, ?_⟩
    ·simp only [slices_Index_int_int.l0, if_pos (show (pre.length : Int) < (l.length : Int) by omega), if_pos (ge0 pre.length), hr, if_pos h2]
     exact Ev.now _
    ·rw [decide_eq_true (show (pre.length : Int) ≥ 0 by omega)]
     simp [has, h2]
   ·obtain ⟨r, h3, h4⟩ := ih (pre ++ [x]) (by rw [← app_pre]; exact e)
    refine ⟨r, ev_succ ?_, ?_⟩
    ·simp only [slices_Index_int_int.l0, if_pos (show (pre.length : Int) < (l.length : Int) by omega), if_pos (ge0 pre.length), hr, if_neg h2, wsucc (show pre.length < 9223372036854775807 by omega)]
     rw [snoc_len pre x]
     exact h3
    ·rw [h4]
     simp [has, Ne.symm h2]
 exact key l [] rfl

/-! slices_Contains_int_int -/
theorem slices_Contains_ev (l : List Int) (n : Int) (h : l.length ≤ 1099511627776) : Ev (fun k => slices_Contains_int_int.f k l n) (has l n) := by
 obtain ⟨r, h1, h2⟩ := slices_Index_ev l n h
 unfold slices_Contains_int_int.f
 refine Ev.bind h1 ?_
 exact ev_const (by rw [← h2])

/-! impl_allows -/
theorem impl_allows_ev (l : List Int) (n : Int) (h : l.length ≤ 1099511627776) : Ev (fun k => impl_allows.f k l n) (allows l n) := by
 unfold impl_allows.f allows
 by_cases h0 : l.length = 0
 ·simp only [if_pos (show (l.length : Int) = 0 by omega), decide_eq_true h0, Bool.true_or]
  exact Ev.now _
 ·simp only [if_neg (show ¬ (l.length : Int) = 0 by omega), decide_eq_false h0, Bool.false_or]
  exact Ev.bind (slices_Contains_ev l n h) (Ev.now _)

/-! whyNot -/
def whyRest (kind : Int) (cols : List Int) (lo hi : Int) (pl : List Int) (fr b1 b2 b3 b5 b6 : Int) : ByteArray :=
 if kind = b1 then (if allows cols b2 = true then (if inr b3 lo hi = true then (if allows pl b5 = true then (if b6 < fr then ⟨#[116, 105, 109, 101]⟩ else ⟨#[]⟩) else ⟨#[112, 108, 97, 99, 101]⟩) else ⟨#[115, 105, 122, 101]⟩) else ⟨#[99, 111, 108, 111, 117, 114]⟩) else ⟨#[107, 105, 110, 100]⟩
def whyNot (id kind : Int) (cols : List Int) (lo hi : Int) (pl : List Int) (fr un b0 b1 b2 b3 b4 b5 b6 b7 : Int) : ByteArray :=
 if (isReport id kind cols lo hi pl fr un && isFind b0 b1 b2 b3 b4 b5 b6 b7) = true then whyRest kind cols lo hi pl fr b1 b2 b3 b5 b6 else ⟨#[105, 110, 118, 97, 108, 105, 100]⟩
def canBe (id kind : Int) (cols : List Int) (lo hi : Int) (pl : List Int) (fr un b0 b1 b2 b3 b4 b5 b6 b7 : Int) : Bool := (whyNot id kind cols lo hi pl fr un b0 b1 b2 b3 b4 b5 b6 b7).toList == ([] : List UInt8)
theorem canBe_ok {id kind : Int} {cols : List Int} {lo hi : Int} {pl : List Int} {fr un b0 b1 b2 b3 b4 b5 b6 b7 : Int} (h : canBe id kind cols lo hi pl fr un b0 b1 b2 b3 b4 b5 b6 b7 = true) : isReport id kind cols lo hi pl fr un = true ∧ isFind b0 b1 b2 b3 b4 b5 b6 b7 = true := by
 unfold canBe whyNot at h
 cases h1 : (isReport id kind cols lo hi pl fr un && isFind b0 b1 b2 b3 b4 b5 b6 b7) with
 | true => simpa only [Bool.and_eq_true] using h1
 | false =>
  rw [h1, if_neg (by decide), ByteArray.toList_eq] at h
  exact absurd h (by decide)

/-! impl_WhyNot -/
theorem impl_WhyNot_j0 (c : Bool) (id kind : Int) (cols : List Int) (lo hi : Int) (pl : List Int) (fr un b0 b1 b2 b3 b4 b5 b6 b7 : Int) (hc : cols.length ≤ 1099511627776) (hp : pl.length ≤ 1099511627776) :
  Ev (fun k => impl_WhyNot.j0 k c id kind cols lo hi pl fr un b0 b1 b2 b3 b4 b5 b6 b7) (if c = true then ⟨#[105, 110, 118, 97, 108, 105, 100]⟩ else whyRest kind cols lo hi pl fr b1 b2 b3 b5 b6) := by
 refine ev_succ ?_
 simp only [impl_WhyNot.j0]
 cases c with
 | true => exact Ev.now _
 | false =>
  simp only [Bool.false_eq_true, if_false, whyRest]
  by_cases h1 : kind = b1
  ·simp only [if_pos h1]
   refine Ev.bind (impl_allows_ev cols b2 hc) ?_
   by_cases h2 : allows cols b2 = true
   ·simp only [if_pos h2, impl_InRange_eq, Option.bind_some]
    by_cases h3 : inr b3 lo hi = true
    ·simp only [if_pos h3]
     refine Ev.bind (impl_allows_ev pl b5 hp) ?_
     by_cases h4 : allows pl b5 = true
     ·simp only [if_pos h4]
      exact ev_const (by split <;> rfl)
     ·simp only [if_neg h4]
      exact Ev.now _
    ·simp only [if_neg h3]
     exact Ev.now _
   ·simp only [if_neg h2]
    exact Ev.now _
  ·simp only [if_neg h1]
   exact Ev.now _
theorem impl_WhyNot_ev (id kind : Int) (cols : List Int) (lo hi : Int) (pl : List Int) (fr un b0 b1 b2 b3 b4 b5 b6 b7 : Int) (hc : cols.length ≤ 1099511627776) (hp : pl.length ≤ 1099511627776) :
  Ev (fun k => impl_WhyNot.f k id kind cols lo hi pl fr un b0 b1 b2 b3 b4 b5 b6 b7) (whyNot id kind cols lo hi pl fr un b0 b1 b2 b3 b4 b5 b6 b7) := by
 unfold impl_WhyNot.f whyNot
 refine Ev.bind (impl_IsReport_ev _ _ _ _ _ _ _ _ hc hp) ?_
 have J := fun c => impl_WhyNot_j0 c id kind cols lo hi pl fr un b0 b1 b2 b3 b4 b5 b6 b7 hc hp
 cases h1 : isReport id kind cols lo hi pl fr un with
 | false =>
  simp only [Bool.false_eq_true, if_false, Bool.false_and]
  exact ev_map (J true) rfl
 | true =>
  simp only [if_true, impl_IsFind_eq, Option.bind_some, Bool.true_and]
  cases h2 : isFind b0 b1 b2 b3 b4 b5 b6 b7 with
  | false => exact ev_map (J true) rfl
  | true => exact ev_map (J false) rfl

/-! impl_CanBe -/
theorem impl_CanBe_ev (id kind : Int) (cols : List Int) (lo hi : Int) (pl : List Int) (fr un b0 b1 b2 b3 b4 b5 b6 b7 : Int) (hc : cols.length ≤ 1099511627776) (hp : pl.length ≤ 1099511627776) :
  Ev (fun k => impl_CanBe.f k id kind cols lo hi pl fr un b0 b1 b2 b3 b4 b5 b6 b7) (canBe id kind cols lo hi pl fr un b0 b1 b2 b3 b4 b5 b6 b7) := by
 unfold impl_CanBe.f canBe
 exact Ev.bind (impl_WhyNot_ev _ _ _ _ _ _ _ _ _ _ _ _ _ _ _ _ hc hp) (Ev.now _)

/-! score -/
def b2i (b : Bool) : Int := if b = true then 1 else 0
def score (id kind : Int) (cols : List Int) (lo hi : Int) (pl : List Int) (fr un b0 b1 b2 b3 b4 b5 b6 b7 : Int) : Int :=
 if canBe id kind cols lo hi pl fr un b0 b1 b2 b3 b4 b5 b6 b7 = true then 1 + b2i (inr (cols.length : Int) 1 2) + b2i (decide (wrap64 (hi - lo) ≤ 5)) + b2i (inr (pl.length : Int) 1 2) + b2i (decide (wrap64 (b6 - un) ≤ 24)) else 0
theorem score_late {id kind : Int} {cols : List Int} {lo hi : Int} {pl : List Int} {fr un b0 b1 b2 b3 b4 b5 b6 b7 : Int} (h : canBe id kind cols lo hi pl fr un b0 b1 b2 b3 b4 b5 b6 b7 = true) : decide (b6 ≤ wrap64 (un + 24)) = decide (wrap64 (b6 - un) ≤ 24) := by
 obtain ⟨h1, h2⟩ := canBe_ok h
 simp only [isReport, isSpan, isFind, Bool.and_eq_true, inr_iff, decide_eq_true_eq] at h1 h2
 rw [w64 (x := un + 24) (by omega) (by omega), w64 (x := b6 - un) (by omega) (by omega)]
 exact decide_eq_decide.2 (by omega)

/-! impl_Score -/
theorem impl_Score_j1 (n id kind : Int) (cols : List Int) (lo hi : Int) (pl : List Int) (fr un b0 b1 b2 b3 b4 b5 b6 b7 : Int) (h0 : 0 ≤ n) (h1 : n ≤ 10) :
  Ev (fun k => impl_Score.j1 k n id kind cols lo hi pl fr un b0 b1 b2 b3 b4 b5 b6 b7) (n + b2i (inr (pl.length : Int) 1 2) + b2i (decide (wrap64 (b6 - un) ≤ 24))) := by
 refine ev_succ ?_
 have e1 : wrap64 (n + 1) = n + 1 := w64 (by omega) (by omega)
 have e2 : wrap64 (n + 1 + 1) = n + 1 + 1 := w64 (by omega) (by omega)
 simp only [impl_Score.j1, impl_InRange_eq, Option.bind_some, e1, e2]
 refine ev_const ?_
 cases inr (pl.length : Int) 1 2 <;> by_cases h : wrap64 (b6 - un) ≤ 24 <;> simp [h, b2i]
theorem impl_Score_j0 (n id kind : Int) (cols : List Int) (lo hi : Int) (pl : List Int) (fr un b0 b1 b2 b3 b4 b5 b6 b7 : Int) (h0 : 0 ≤ n) (h1 : n ≤ 9) :
  Ev (fun k => impl_Score.j0 k n id kind cols lo hi pl fr un b0 b1 b2 b3 b4 b5 b6 b7) (n + b2i (decide (wrap64 (hi - lo) ≤ 5)) + b2i (inr (pl.length : Int) 1 2) + b2i (decide (wrap64 (b6 - un) ≤ 24))) := by
 refine ev_succ ?_
 have e1 : wrap64 (n + 1) = n + 1 := w64 (by omega) (by omega)
 simp only [impl_Score.j0, e1]
 by_cases h : wrap64 (hi - lo) ≤ 5
 ·simp only [if_pos h]
  exact ev_map (impl_Score_j1 (n + 1) _ _ _ _ _ _ _ _ _ _ _ _ _ _ _ _ (by omega) (by omega)) (by simp [h, b2i])
 ·simp only [if_neg h]
  exact ev_map (impl_Score_j1 n _ _ _ _ _ _ _ _ _ _ _ _ _ _ _ _ h0 (by omega)) (by simp [h, b2i])
theorem impl_Score_ev (id kind : Int) (cols : List Int) (lo hi : Int) (pl : List Int) (fr un b0 b1 b2 b3 b4 b5 b6 b7 : Int) (hc : cols.length ≤ 1099511627776) (hp : pl.length ≤ 1099511627776) :
  Ev (fun k => impl_Score.f k id kind cols lo hi pl fr un b0 b1 b2 b3 b4 b5 b6 b7) (score id kind cols lo hi pl fr un b0 b1 b2 b3 b4 b5 b6 b7) := by
 unfold impl_Score.f score
 refine Ev.bind (impl_CanBe_ev _ _ _ _ _ _ _ _ _ _ _ _ _ _ _ _ hc hp) ?_
 cases h : canBe id kind cols lo hi pl fr un b0 b1 b2 b3 b4 b5 b6 b7 with
 | false => exact Ev.now _
 | true =>
  simp only [if_true, impl_InRange_eq, Option.bind_some]
  cases h2 : inr (cols.length : Int) 1 2 with
  | true =>
   simp only [if_true]
   exact ev_map (impl_Score_j0 (1 + 1) _ _ _ _ _ _ _ _ _ _ _ _ _ _ _ _ (by decide) (by decide)) (by simp [b2i])
  | false =>
   simp only [Bool.false_eq_true, if_false]
   exact ev_map (impl_Score_j0 1 _ _ _ _ _ _ _ _ _ _ _ _ _ _ _ _ (by decide) (by decide)) (by simp [b2i])

/-! nextFor -/
def scoreFor (r : S87) (x : S126) : Int := score r.f0 r.f1 r.f2 r.f3 r.f4 r.f5 r.f6.f0 r.f6.f1 x.f0.f0 x.f0.f1 x.f0.f2 x.f0.f3 x.f0.f4 x.f1 x.f2 x.f3
def wrote (l : List (S81)) (id t : Int) : Bool := l.any (fun y => (y.f0 == id) && (y.f1 == t))
def nStep (l : List (S81)) (r : S87) (s : Int × Int) (x : S126) : Int × Int :=
 if scoreFor r x > s.2 then (if wrote l r.f0 x.f0.f0 = true then s else (x.f0.f0, scoreFor r x)) else s
def nextFor (l : List (S81)) (r : S87) (f : List (S126)) : Int := (f.foldl (nStep l r) (0, 0)).1
def runLet (f : List (S126)) (now : Int) : List (S87) → List (S81) → List (S81)
 | [], _ => []
 | r :: rs, l => if mayWrite l r.f0 (nextFor l r f) now = true then ⟨r.f0, nextFor l r f, now⟩ :: runLet f now rs (l ++ [⟨r.f0, nextFor l r f, now⟩]) else runLet f now rs l
theorem runLet_len (f : List (S126)) (now : Int) : ∀ (rs : List (S87)) (l : List (S81)), (runLet f now rs l).length ≤ rs.length
 | [], _ => Nat.le_refl _
 | r :: rs, l => by
  have h1 := runLet_len f now rs (l ++ [⟨r.f0, nextFor l r f, now⟩])
  have h2 := runLet_len f now rs l
  simp only [runLet]
  split <;> simp only [List.length_cons] <;> omega
def lettersFor (l : List (S81)) (r : List (S87)) (f : List (S126)) (now : Int) : List (S81) :=
 if (areLetters l && (areReports r && areFinds f)) = true then runLet f now r l else []
theorem lettersFor_len (l : List (S81)) (r : List (S87)) (f : List (S126)) (now : Int) : (lettersFor l r f now).length ≤ r.length := by
 unfold lettersFor
 split
 ·exact runLet_len f now r l
 ·simp

/-! impl_toWrite -/
theorem impl_toWrite_ev (l : List (S81)) (r : S87) (f : List (S126)) (hf : f.length ≤ 1099511627776) (hc : r.f2.length ≤ 1099511627776) (hp : r.f5.length ≤ 1099511627776) :
  Ev (fun k => impl_toWrite.f k l r.f0 r.f1 r.f2 r.f3 r.f4 r.f5 r.f6.f0 r.f6.f1 f) (nextFor l r f) := by
 unfold impl_toWrite.f nextFor
 refine ev_range f (fun k (s : Int × Int) i => impl_toWrite.l0 k l s.1 s.2 f (f.length : Int) i r.f0 r.f1 r.f2 r.f3 r.f4 r.f5 r.f6.f0 r.f6.f1) (fun s q => (q.foldl (nStep l r) s).1) (fun _ _ => True) (by omega) ?_ ?_ (0, 0) trivial
 ·intro s _
  simp only [impl_toWrite.l0, if_neg (Int.lt_irrefl _)]
  exact Ev.now _
 ·rintro pre x rest ⟨b, m⟩ e hlt hget _ ih
  have hr : rd_T126 f (pre.length : Int) = x := hget _
  have hs : score r.f0 r.f1 r.f2 r.f3 r.f4 r.f5 r.f6.f0 r.f6.f1 x.f0.f0 x.f0.f1 x.f0.f2 x.f0.f3 x.f0.f4 x.f1 x.f2 x.f3 = scoreFor r x := rfl
  simp only [impl_toWrite.l0, if_pos hlt, if_pos (ge0 pre.length), hr]
  refine Ev.bind (impl_Score_ev _ _ _ _ _ _ _ _ _ _ _ _ _ _ _ _ hc hp) ?_
  rw [List.foldl_cons]
  simp only [hs]
  by_cases h1 : scoreFor r x > m
  ·have hw : impl_toWrite_1.f l r.f0 x.f0.f0 = some (wrote l r.f0 x.f0.f0) := rfl
   simp only [if_pos h1, hw, Option.bind_some]
   cases h2 : wrote l r.f0 x.f0.f0 with
   | true =>
    simp only [if_true]
    exact ev_map (ih (b, m) trivial) (by simp only [nStep, if_pos h1, h2, if_true])
   | false =>
    simp only [Bool.false_eq_true, if_false]
    exact ev_map (ih (x.f0.f0, scoreFor r x) trivial) (by simp only [nStep, if_pos h1, h2, Bool.false_eq_true, if_false])
  ·simp only [if_neg h1]
   exact ev_map (ih (b, m) trivial) (by simp only [nStep, if_neg h1])

/-! ltFacts -/
theorem ltOk_fits : ∀ (l pre : List (S81)), ltOk pre l = true → ∀ x ∈ l, ltFits x = true
 | [], _, _ => by simp
 | y :: l, pre, h => by
  simp only [ltOk, Bool.and_eq_true] at h
  intro x hx
  rcases List.mem_cons.1 hx with e | hx
  ·rw [e]; exact h.1
  ·exact ltOk_fits l _ h.2.2.2 x hx
theorem mayWrite_zero (l : List (S81)) (r n : Int) : mayWrite l r 0 n = false := by
 cases h : mayWrite l r 0 n with
 | false => rfl
 | true =>
  simp only [mayWrite, areLetters, Bool.and_eq_true] at h
  have h2 := ltOk_fits _ _ h.2.2 ⟨r, 0, n⟩ (by simp)
  simp only [ltFits, Bool.and_eq_true, inr_iff] at h2
  omega

/-! impl_LettersFor -/
theorem impl_LettersFor_l0 (l : List (S81)) (r : List (S87)) (f : List (S126)) (now : Int) (hb : l.length + r.length ≤ 1048576) (hf : f.length ≤ 1048576) (hr : RBnd r) :
  Ev (fun k => impl_LettersFor.l0 k l f now l r (r.length : Int) 0) (runLet f now r l) := by
 refine ev_map (ev_range r (fun k (s : List (S81)) i => impl_LettersFor.l0 k l f now s r (r.length : Int) i) (fun s q => s.drop l.length ++ runLet f now q s) (fun p s => l.length ≤ s.length ∧ s.length ≤ l.length + p.length) (by omega) ?_ ?_ l ⟨Nat.le_refl _, Nat.le_refl _⟩) (by simp)
 ·rintro s ⟨h1, h2⟩
  simp only [impl_LettersFor.l0, if_neg (Int.lt_irrefl _), if_pos (ge0 l.length), if_pos (show (l.length : Int) ≤ (s.length : Int) by omega), Int.toNat_natCast]
  exact ev_const (by simp [runLet])
 ·rintro pre x rest s e hlt hget ⟨h1, h2⟩ ih
  have hx0 : rd_T87 r (pre.length : Int) = x := hget _
  have hx := hr x (by rw [e]; simp)
  have hn : r.length = pre.length + (rest.length + 1) := by rw [e, len_pre]
  simp only [impl_LettersFor.l0, if_pos hlt, if_pos (ge0 pre.length), hx0]
  refine Ev.bind (impl_toWrite_ev s x f (by omega) hx.1 hx.2) ?_
  simp only [runLet]
  have keep : ¬ mayWrite s x.f0 (nextFor s x f) now = true → s.drop l.length ++ (if mayWrite s x.f0 (nextFor s x f) now = true then ⟨x.f0, nextFor s x f, now⟩ :: runLet f now rest (s ++ [⟨x.f0, nextFor s x f, now⟩]) else runLet f now rest s) = s.drop l.length ++ runLet f now rest s := fun h => by rw [if_neg h]
  by_cases h0 : nextFor s x f = 0
  ·simp only [if_pos h0]
   have hm : ¬ mayWrite s x.f0 (nextFor s x f) now = true := by rw [h0, mayWrite_zero]; decide
   exact ev_map (ih s ⟨h1, by rw [List.length_append]; omega⟩) (keep hm).symm
  ·simp only [if_neg h0]
   refine Ev.bind (impl_WriteLetter_ev s x.f0 (nextFor s x f) now (by omega)) ?_
   by_cases hm : mayWrite s x.f0 (nextFor s x f) now = true
   ·have hw : writeLetter s x.f0 (nextFor s x f) now = (s ++ [⟨x.f0, nextFor s x f, now⟩], true) := if_pos hm
    rw [hw]
    refine ev_map (ih (s ++ [⟨x.f0, nextFor s x f, now⟩]) ⟨by rw [List.length_append]; omega, by simp only [List.length_append, List.length_singleton]; omega⟩) ?_
    rw [if_pos hm, List.drop_append_of_le_length h1, List.append_assoc]
    rfl
   ·have hw : writeLetter s x.f0 (nextFor s x f) now = (s, false) := if_neg hm
    rw [hw]
    exact ev_map (ih s ⟨h1, by rw [List.length_append]; omega⟩) (keep hm).symm
theorem impl_LettersFor_ev (l : List (S81)) (r : List (S87)) (f : List (S126)) (now : Int) (hb : l.length + r.length ≤ 1048576) (hf : f.length ≤ 1048576) (hr : RBnd r) :
  Ev (fun k => impl_LettersFor.f k l r f now) (lettersFor l r f now) := by
 have J0 : ∀ c : Bool, Ev (fun k => impl_LettersFor.j0 k l r f now c) (if c = true then [] else runLet f now r l) := fun c => by
  refine ev_succ ?_
  simp only [impl_LettersFor.j0]
  cases c with
  | true => exact Ev.now _
  | false =>
   simp only [Bool.false_eq_true, if_false, clone_Letter_eq l (by omega), Option.bind_some]
   exact impl_LettersFor_l0 l r f now hb hf hr
 unfold impl_LettersFor.f lettersFor
 refine Ev.bind (impl_AreLetters_ev l (by omega)) ?_
 cases h1 : areLetters l with
 | false => exact ev_map (J0 true) rfl
 | true =>
  simp only [if_true, Bool.true_and]
  refine Ev.bind (impl_AreReports_ev r (by omega) hr) ?_
  cases h2 : areReports r with
  | false => exact ev_map (J0 true) rfl
  | true =>
   simp only [if_true, Bool.true_and]
   refine Ev.bind (impl_AreFinds_ev f (by omega)) ?_
   cases h3 : areFinds f with
   | false => exact ev_map (J0 true) rfl
   | true => exact ev_map (J0 false) rfl

/-! laws_szLetterS -/
theorem laws_szLetterS_ok (l : List (S173)) (a : Int) (h0 : (l.length : Int) ≤ a) (h1 : a ≤ 1048576) : laws_szLetterS.f l a = some (a - (l.length : Int)) := by
 unfold laws_szLetterS.f
 rw [w64 (by omega) (by omega), if_neg (by omega)]
theorem laws_szLetterS_big (l : List (S173)) (a : Int) (h0 : a < (l.length : Int)) (h1 : 0 ≤ a) (h2 : l.length ≤ 9223372036854775807) : laws_szLetterS.f l a = some (-1) := by
 unfold laws_szLetterS.f
 rw [w64 (by omega) (by omega), if_pos (by omega)]

/-! laws_szIntS -/
theorem laws_szIntS_ok (l : List Int) (a : Int) (h0 : (l.length : Int) ≤ a) (h1 : a ≤ 1048576) : laws_szIntS.f l a = some (a - (l.length : Int)) := by
 unfold laws_szIntS.f
 rw [w64 (by omega) (by omega), if_neg (by omega)]
theorem laws_szIntS_big (l : List Int) (a : Int) (h0 : a < (l.length : Int)) (h1 : 0 ≤ a) (h2 : l.length ≤ 9223372036854775807) : laws_szIntS.f l a = some (-1) := by
 unfold laws_szIntS.f
 rw [w64 (by omega) (by omega), if_pos (by omega)]

/-! laws_szReport -/
theorem szReport_ok (a b : Int) (l : List Int) (c d : Int) (m : List Int) (e f s : Int) (h : (l.length : Int) + (m.length : Int) ≤ s) (hs : s ≤ 1048576) : laws_szReport.f a b l c d m e f s = some (s - (l.length : Int) - (m.length : Int)) := by
 unfold laws_szReport.f
 rw [laws_szIntS_ok l s (by omega) hs, Option.bind_some, if_neg (by omega), laws_szIntS_ok m _ (by omega) (by omega), Option.bind_some, if_neg (by omega)]
theorem szReport_big (a b : Int) (l : List Int) (c d : Int) (m : List Int) (e f s : Int) (h : s < (l.length : Int) + (m.length : Int)) (h0 : 0 ≤ s) (hs : s ≤ 1048576) (hl : l.length ≤ 9223372036854775807) (hm : m.length ≤ 9223372036854775807) : laws_szReport.f a b l c d m e f s = some (-1) := by
 unfold laws_szReport.f
 by_cases h1 : (l.length : Int) ≤ s
 ·rw [laws_szIntS_ok l s h1 hs, Option.bind_some, if_neg (by omega), laws_szIntS_big m _ (by omega) (by omega) hm, Option.bind_some, if_pos (by omega)]
 ·rw [laws_szIntS_big l s (by omega) h0 hl, Option.bind_some, if_pos (by omega)]

/-! sumR -/
def cReport (x : S171) : S87 := ⟨x.f0, x.f1, x.f2, x.f3, x.f4, x.f5, ⟨x.f6.f0, x.f6.f1⟩⟩
def sumR : List (S87) → Nat
 | [] => 0
 | x :: r => x.f2.length + x.f5.length + sumR r
theorem sumR_mem : ∀ (l : List (S87)) (y : S87), y ∈ l → y.f2.length + y.f5.length ≤ sumR l
 | [], _, h => by cases h
 | x :: r, y, h => by
  have h1 : sumR (x :: r) = x.f2.length + x.f5.length + sumR r := rfl
  rcases List.mem_cons.1 h with e | h
  ·rw [e]; omega
  ·have := sumR_mem r y h; omega
theorem sumR_bnd {l : List (S87)} (h : sumR l ≤ 1048576) : RBnd l := fun x hx => by
 have := sumR_mem l x hx
 omega

/-! laws_szReportS -/
theorem laws_szReportS_ev (l : List (S171)) (s : Int) (h0 : 0 ≤ s) (h1 : s ≤ 1048576) (hl : l.length ≤ 9223372036854775807) (hy : ∀ y ∈ l, y.f2.length ≤ 9223372036854775807 ∧ y.f5.length ≤ 9223372036854775807) :
  Ev (fun k => laws_szReportS.f k l s) (if (l.length : Int) + (sumR (l.map cReport) : Int) ≤ s then s - (l.length : Int) - (sumR (l.map cReport) : Int) else -1) := by
 have e0 : wrap64 (s - (l.length : Int)) = s - (l.length : Int) := w64 (by omega) (by omega)
 unfold laws_szReportS.f
 simp only [e0]
 by_cases hs : s - (l.length : Int) < 0
 ·simp only [if_pos hs]
  exact ev_const (by rw [if_neg (by omega)])
 simp only [if_neg hs]
 refine ev_map (ev_range l (fun k (a : Int) i => laws_szReportS.l0 k l a i) (fun a r => if (sumR (r.map cReport) : Int) ≤ a then a - (sumR (r.map cReport) : Int) else -1) (fun _ a => 0 ≤ a ∧ a ≤ 1048576) (by omega) ?_ ?_ (s - (l.length : Int)) (by omega)) ?_
 ·intro a ha
  simp only [laws_szReportS.l0, if_neg (Int.lt_irrefl _)]
  exact ev_const (by simp [sumR, ha.1])
 ·rintro pre x rest a e hlt hget ha ih
  have hr : rd_T171 l (pre.length : Int) = x := hget _
  have h2 : sumR ((x :: rest).map cReport) = x.f2.length + x.f5.length + sumR (rest.map cReport) := rfl
  have hx := hy x (by rw [e]; simp)
  simp only [laws_szReportS.l0, if_pos hlt, if_pos (ge0 pre.length), hr]
  by_cases h3 : (x.f2.length : Int) + (x.f5.length : Int) ≤ a
  ·simp only [szReport_ok _ _ _ _ _ _ _ _ a h3 ha.2, Option.bind_some, if_neg (show ¬ a - (x.f2.length : Int) - (x.f5.length : Int) < 0 by omega)]
   refine ev_map (ih (a - (x.f2.length : Int) - (x.f5.length : Int)) (by omega)) ?_
   rw [h2]
   by_cases h4 : (sumR (rest.map cReport) : Int) ≤ a - (x.f2.length : Int) - (x.f5.length : Int)
   ·rw [if_pos h4, if_pos (by omega)]; omega
   ·rw [if_neg h4, if_neg (by omega)]
  ·simp only [szReport_big _ _ _ _ _ _ _ _ a (by omega) ha.1 ha.2 hx.1 hx.2, Option.bind_some, if_pos (show (-1 : Int) < 0 by decide)]
   exact ev_const (by rw [h2, if_neg (by omega)])
 ·by_cases h4 : (l.length : Int) + (sumR (l.map cReport) : Int) ≤ s
  ·rw [if_pos (by omega), if_pos h4]
  ·rw [if_neg (by omega), if_neg h4]

/-! spec_l1In -/
theorem spec_l1In_eq (a b c : Int) : spec_l1In.f a b c = some (inr a b c) := by
 unfold spec_l1In.f inr
 by_cases h : b ≤ a <;> simp [h]

/-! spec_AreLetters -/
theorem spec_AreLetters_j1_true (l : List (S81)) (i a b c : Int) : Ev (fun k => spec_AreLetters.j1 k l i true a b c) false := by
 refine ev_succ ?_
 simp only [spec_AreLetters.j1, if_true]
 exact Ev.now _
theorem spec_AreLetters_l1 {l pre rest : List (S81)} {x : S81} (e : l = pre ++ x :: rest) (hl : l.length < 9223372036854775807) (R : Bool) (ih : Ev (fun k => spec_AreLetters.l0 k l (wrap64 ((pre.length : Int) + 1))) R) :
  Ev (fun k => spec_AreLetters.l1 k l (pre.length : Int) 0 x.f0 x.f1 x.f2) (!pre.any (ltClash x) && R) := by
 have hlen : l.length = pre.length + (rest.length + 1) := by rw [e, len_pre]
 refine ev_range pre (fun k _ j => spec_AreLetters.l1 k l (pre.length : Int) j x.f0 x.f1 x.f2) (fun _ r => !r.any (ltClash x) && R) (fun _ _ => True) (by omega) ?_ ?_ () trivial
 ·intro _ _
  simp only [spec_AreLetters.l1, if_neg (Int.lt_irrefl _)]
  simpa using ih
 ·intro p y r _ ep hlt hget _ ihj
  have hr : rd_T81 l (p.length : Int) = y := by
   have := hget z81
   unfold rd_T81
   rw [e, getD_app _ _ _ (by omega)]
   exact this
  simp only [spec_AreLetters.l1, if_pos hlt, if_pos (ge0 p.length), if_pos (show (p.length : Int) < (l.length : Int) by omega), hr]
  by_cases h0 : y.f0 = x.f0
  ·by_cases h1 : y.f1 = x.f1
   ·simp only [if_pos h0, if_pos h1]
    exact ev_const (by simp [ltClash, h0, h1])
   ·by_cases h2 : wrap64 (x.f2 - y.f2) < 168
    ·simp only [if_pos h0, if_neg h1, if_pos h2]
     exact ev_const (by simp [ltClash, h0, h2])
    ·simp only [if_pos h0, if_neg h1, if_neg h2]
     exact ev_map (ihj () trivial) (by simp [ltClash, h0, Ne.symm h1, h2])
  ·simp only [if_neg h0]
   exact ev_map (ihj () trivial) (by simp [ltClash, Ne.symm h0])
theorem spec_AreLetters_j1_false {l pre rest : List (S81)} {x : S81} (e : l = pre ++ x :: rest) (hl : l.length < 9223372036854775807) (R : Bool) (ih : Ev (fun k => spec_AreLetters.l0 k l (wrap64 ((pre.length : Int) + 1))) R) :
  Ev (fun k => spec_AreLetters.j1 k l (pre.length : Int) false x.f0 x.f1 x.f2) (!pre.any (ltClash x) && R) := by
 refine ev_succ ?_
 simp only [spec_AreLetters.j1]
 exact spec_AreLetters_l1 e hl R ih
theorem spec_AreLetters_ev (l : List (S81)) (hl : l.length < 9223372036854775807) : Ev (fun k => spec_AreLetters.f k l) (areLetters l) := by
 refine ev_map (ev_range l (fun k (_ : List (S81)) i => spec_AreLetters.l0 k l i) (fun s r => ltOk s r && decide ((l.length : Int) ≤ 60)) (fun p s => s = p) hl ?_ ?_ [] rfl) ?_
 ·intro s _
  simp only [spec_AreLetters.l0, if_neg (Int.lt_irrefl _)]
  exact ev_const (by simp [ltOk])
 ·rintro pre x rest s e hlt hget rfl ih
  have hr : rd_T81 l (s.length : Int) = x := hget _
  have ih' := ih _ rfl
  simp only [spec_AreLetters.l0, if_pos hlt, if_pos (ge0 s.length), hr, spec_l1In_eq, Option.bind_some, ltOk, ltFits]
  cases h1 : inr x.f0 1 999 with
  | false => exact spec_AreLetters_j1_true _ _ _ _ _
  | true =>
   cases h2 : inr x.f1 1 999 with
   | false => exact spec_AreLetters_j1_true _ _ _ _ _
   | true =>
    cases h3 : inr x.f2 0 100000 with
    | false => exact spec_AreLetters_j1_true _ _ _ _ _
    | true =>
     simp only [if_true, Bool.true_and]
     rcases prev_cases e hl with ⟨hp, hn⟩ | ⟨y, hy, h4, h5, h6, h7⟩
     ·simp only [if_neg hn]
      exact ev_map (spec_AreLetters_j1_false e hl _ ih') (by simp [ltLate, hp])
     ·have hr7 : rd_T81 l (wrap64 ((s.length : Int) - 1)) = y := h7 _
      simp only [if_pos h4, if_pos h5, if_pos h6, hr7]
      by_cases h8 : y.f2 > x.f2
      ·simp only [h8, decide_true]
       exact ev_map (spec_AreLetters_j1_true _ _ _ _ _) (by simp [ltLate, hy, show x.f2 < y.f2 from h8])
      ·simp only [h8, decide_false]
       exact ev_map (spec_AreLetters_j1_false e hl _ ih') (by simp [ltLate, hy, show ¬ x.f2 < y.f2 from h8, Bool.and_assoc])
 ·unfold areLetters
  rw [Bool.and_comm, show decide ((l.length : Int) ≤ 60) = decide (l.length ≤ 60) from decide_eq_decide.2 (by omega)]

/-! spec_l7Ids -/
theorem spec_l7Ids_ev (l : List Int) (lo hi : Int) (h : l.length ≤ 1099511627776) : Ev (fun k => spec_l7Ids.f k l lo hi) (ascOk lo hi none l) := by
 refine ev_range l (fun k (_ : Option Int) i => spec_l7Ids.l0 k l lo hi i) (fun s r => ascOk lo hi s r) (fun p s => s = p.getLast?) (by omega) ?_ ?_ none rfl
 ·intro s _
  simp only [spec_l7Ids.l0, if_neg (Int.lt_irrefl _)]
  exact Ev.now _
 ·rintro pre x rest s e hlt hget rfl ih
  have hr : rd l (pre.length : Int) = x := hget 0
  have ih' := ih (some x) (by simp)
  simp only [spec_l7Ids.l0, if_pos hlt, if_pos (ge0 pre.length), hr, spec_l1In_eq, Option.bind_some, ascOk]
  cases h1 : inr x lo hi with
  | false => exact Ev.now _
  | true =>
   simp only [if_true, Bool.true_and]
   rcases prev_cases e (by omega) with ⟨hp, hn⟩ | ⟨y, hy, h4, h5, h6, h7⟩
   ·simp only [if_neg hn]
    exact ev_map ih' (by simp [hp])
   ·have hr7 : rd l (wrap64 ((pre.length : Int) - 1)) = y := h7 0
    simp only [if_pos h4, if_pos h5, if_pos h6, hr7, hy]
    by_cases h8 : y ≥ x
    ·simp only [if_pos h8]
     exact ev_const (by simp [show ¬ y < x by omega])
    ·simp only [if_neg h8]
     exact ev_map ih' (by simp [show y < x by omega])

/-! spec_IsSpan -/
theorem spec_IsSpan_eq (a b : Int) : spec_IsSpan.f a b = some (isSpan a b) := by
 unfold spec_IsSpan.f isSpan
 simp only [spec_l1In_eq, Option.bind_some]
 cases inr a 0 100000 <;> cases inr b 0 100000 <;> simp

/-! spec_IsReport -/
theorem spec_IsReport_ev (id kind : Int) (cols : List Int) (lo hi : Int) (pl : List Int) (fr un : Int) (hc : cols.length ≤ 1099511627776) (hp : pl.length ≤ 1099511627776) :
  Ev (fun k => spec_IsReport.f k id kind cols lo hi pl fr un) (isReport id kind cols lo hi pl fr un) := by
 unfold spec_IsReport.f isReport
 simp only [spec_l1In_eq, spec_IsSpan_eq, Option.bind_some]
 cases h1 : inr id 1 999 with
 | false => exact Ev.now _
 | true =>
 cases h2 : inr kind 1 8 with
 | false => exact Ev.now _
 | true =>
 simp only [if_true, Bool.true_and]
 refine Ev.bind (spec_l7Ids_ev cols 0 7 hc) ?_
 cases h3 : ascOk 0 7 none cols with
 | false => exact Ev.now _
 | true =>
 simp only [if_true, Bool.true_and]
 by_cases h4 : 1 ≤ lo
 ·by_cases h5 : lo ≤ hi
  ·by_cases h6 : hi ≤ 50
   ·simp only [if_pos (show lo ≥ 1 from h4), if_pos h5, if_pos h6, decide_eq_true h4, decide_eq_true h5, decide_eq_true h6, Bool.true_and]
    refine Ev.bind (spec_l7Ids_ev pl 1 30 hp) ?_
    cases h7 : ascOk 1 30 none pl with
    | false => exact Ev.now _
    | true =>
     simp only [if_true, Bool.true_and]
     by_cases h8 : pl.length ≤ 10
     ·simp only [if_pos (show (pl.length : Int) ≤ 10 by omega), decide_eq_true h8, Bool.true_and]
      exact Ev.now _
     ·simp only [if_neg (show ¬ (pl.length : Int) ≤ 10 by omega), decide_eq_false h8, Bool.false_and]
      exact Ev.now _
   ·simp only [if_pos (show lo ≥ 1 from h4), if_pos h5, if_neg h6, decide_eq_false h6, Bool.false_and, Bool.and_false]
    exact Ev.now _
  ·simp only [if_pos (show lo ≥ 1 from h4), if_neg h5, decide_eq_false h5, Bool.false_and, Bool.and_false]
   exact Ev.now _
 ·simp only [if_neg (show ¬ lo ≥ 1 from h4), decide_eq_false h4, Bool.false_and]
  exact Ev.now _

/-! spec_AreReports -/
theorem spec_AreReports_ev (l : List (S87)) (h : l.length ≤ 1099511627776) (hb : RBnd l) : Ev (fun k => spec_AreReports.f k l) (areReports l) := by
 unfold areReports
 refine ev_map (ev_range l (fun k (_ : Option (S87)) i => spec_AreReports.l0 k l i) (fun s r => rpOk s r && decide (l.length ≤ 20)) (fun p s => s = p.getLast?) (by omega) ?_ ?_ none rfl) (Bool.and_comm _ _)
 ·intro s _
  simp only [spec_AreReports.l0, if_neg (Int.lt_irrefl _), rpOk, Bool.true_and]
  refine ev_const ?_
  rw [show decide ((l.length : Int) ≤ 20) = decide (l.length ≤ 20) from decide_eq_decide.2 (by omega)]
 ·rintro pre x rest s e hlt hget rfl ih
  have hr : rd_T87 l (pre.length : Int) = x := hget _
  have ih' := ih (some x) (by simp)
  have hx := hb x (by rw [e]; simp)
  have hf : isReport x.f0 x.f1 x.f2 x.f3 x.f4 x.f5 x.f6.f0 x.f6.f1 = rpFits x := rfl
  simp only [spec_AreReports.l0, if_pos hlt, if_pos (ge0 pre.length), hr, rpOk]
  refine Ev.bind (spec_IsReport_ev _ _ _ _ _ _ _ _ hx.1 hx.2) ?_
  simp only [hf]
  cases h1 : rpFits x with
  | false => exact Ev.now _
  | true =>
   simp only [if_true, Bool.true_and]
   rcases prev_cases e (by omega) with ⟨hp, hn⟩ | ⟨y, hy, h4, h5, h6, h7⟩
   ·simp only [if_neg hn]
    exact ev_map ih' (by simp [hp])
   ·have hr7 : rd_T87 l (wrap64 ((pre.length : Int) - 1)) = y := h7 _
    simp only [if_pos h4, if_pos h5, if_pos h6, hr7, hy]
    by_cases h8 : y.f0 ≥ x.f0
    ·simp only [if_pos h8]
     exact ev_const (by simp [show ¬ y.f0 < x.f0 by omega])
    ·simp only [if_neg h8]
     exact ev_map ih' (by simp [show y.f0 < x.f0 by omega])

/-! spec_IsThing -/
theorem spec_IsThing_eq (a b c d e : Int) : spec_IsThing.f a b c d e = some (isThing a b c d e) := by
 simp only [spec_IsThing.f, spec_l1In_eq, Option.bind_some, ite_and, isThing]

/-! spec_IsFind -/
theorem spec_IsFind_eq (a b c d e f g h : Int) : spec_IsFind.f a b c d e f g h = some (isFind a b c d e f g h) := by
 simp only [spec_IsFind.f, spec_IsThing_eq, spec_l1In_eq, Option.bind_some, ite_and, isFind]

/-! spec_AreFinds -/
theorem spec_AreFinds_ev (l : List (S126)) (h : l.length ≤ 1099511627776) : Ev (fun k => spec_AreFinds.f k l) (areFinds l) := by
 unfold areFinds
 refine ev_map (ev_range l (fun k (_ : Option (S126)) i => spec_AreFinds.l0 k l i) (fun s r => fdOk s r && decide (l.length ≤ 20)) (fun p s => s = p.getLast?) (by omega) ?_ ?_ none rfl) (Bool.and_comm _ _)
 ·intro s _
  simp only [spec_AreFinds.l0, if_neg (Int.lt_irrefl _), fdOk, Bool.true_and]
  refine ev_const ?_
  rw [show decide ((l.length : Int) ≤ 20) = decide (l.length ≤ 20) from decide_eq_decide.2 (by omega)]
 ·rintro pre x rest s e hlt hget rfl ih
  have hr : rd_T126 l (pre.length : Int) = x := hget _
  have ih' := ih (some x) (by simp)
  have hf : isFind x.f0.f0 x.f0.f1 x.f0.f2 x.f0.f3 x.f0.f4 x.f1 x.f2 x.f3 = fdFits x := rfl
  simp only [spec_AreFinds.l0, if_pos hlt, if_pos (ge0 pre.length), hr, spec_IsFind_eq, Option.bind_some, fdOk, hf]
  cases h1 : fdFits x with
  | false => exact Ev.now _
  | true =>
   simp only [if_true, Bool.true_and]
   rcases prev_cases e (by omega) with ⟨hp, hn⟩ | ⟨y, hy, h4, h5, h6, h7⟩
   ·simp only [if_neg hn]
    exact ev_map ih' (by simp [hp])
   ·have hr7 : rd_T126 l (wrap64 ((pre.length : Int) - 1)) = y := h7 _
    simp only [if_pos h4, if_pos h5, if_pos h6, hr7, hy]
    by_cases h8 : y.f0.f0 ≥ x.f0.f0
    ·simp only [if_pos h8]
     exact ev_const (by simp [show ¬ y.f0.f0 < x.f0.f0 by omega])
    ·simp only [if_neg h8]
     exact ev_map ih' (by simp [show y.f0.f0 < x.f0.f0 by omega])

/-! spec_l8Has -/
theorem spec_l8Has_ev (l : List Int) (n : Int) (h : l.length ≤ 1099511627776) : Ev (fun k => spec_l8Has.f k l n) (has l n) := by
 refine ev_range l (fun k (_ : Unit) i => spec_l8Has.l0 k l n i) (fun _ r => has r n) (fun _ _ => True) (by omega) ?_ ?_ () trivial
 ·intro _ _
  simp only [spec_l8Has.l0, if_neg (Int.lt_irrefl _)]
  exact Ev.now _
 ·intro pre x rest _ _ hlt hget _ ih
  have hr : rd l (pre.length : Int) = x := hget 0
  simp only [spec_l8Has.l0, if_pos hlt, if_pos (ge0 pre.length), hr]
  by_cases h2 : x = n
  ·simp only [if_pos h2]
   exact ev_const (by simp [has, h2])
  ·simp only [if_neg h2]
   exact ev_map (ih () trivial) (by simp [has, h2])

/-! spec_WhyNot -/
theorem spec_WhyNot_j2 (c : Bool) (id kind : Int) (cols : List Int) (lo hi : Int) (pl : List Int) (fr un b0 b1 b2 b3 b4 b5 b6 b7 : Int) :
  Ev (fun k => spec_WhyNot.j2 k c id kind cols lo hi pl fr un b0 b1 b2 b3 b4 b5 b6 b7) (if c = true then ⟨#[112, 108, 97, 99, 101]⟩ else if b6 < fr then ⟨#[116, 105, 109, 101]⟩ else ⟨#[]⟩) := by
 refine ev_succ ?_
 simp only [spec_WhyNot.j2]
 refine ev_const ?_
 cases c
 ·simp only [Bool.false_eq_true, if_false]
  split <;> rfl
 ·rfl
theorem spec_WhyNot_j1 (c : Bool) (id kind : Int) (cols : List Int) (lo hi : Int) (pl : List Int) (fr un b0 b1 b2 b3 b4 b5 b6 b7 : Int) (hp : pl.length ≤ 1099511627776) :
  Ev (fun k => spec_WhyNot.j1 k c id kind cols lo hi pl fr un b0 b1 b2 b3 b4 b5 b6 b7) (if c = true then ⟨#[99, 111, 108, 111, 117, 114]⟩ else if inr b3 lo hi = true then (if allows pl b5 = true then (if b6 < fr then ⟨#[116, 105, 109, 101]⟩ else ⟨#[]⟩) else ⟨#[112, 108, 97, 99, 101]⟩) else ⟨#[115, 105, 122, 101]⟩) := by
 refine ev_succ ?_
 simp only [spec_WhyNot.j1]
 cases c with
 | true => exact Ev.now _
 | false =>
  have J := fun c => spec_WhyNot_j2 c id kind cols lo hi pl fr un b0 b1 b2 b3 b4 b5 b6 b7
  simp only [Bool.false_eq_true, if_false, spec_l1In_eq, Option.bind_some]
  by_cases h3 : inr b3 lo hi = true
  ·simp only [if_pos h3, allows]
   by_cases h0 : pl.length = 0
   ·simp only [if_neg (show ¬ (pl.length : Int) > 0 by omega), decide_eq_true h0, Bool.true_or, if_true]
    exact ev_map (J false) rfl
   ·simp only [if_pos (show (pl.length : Int) > 0 by omega), decide_eq_false h0, Bool.false_or]
    refine Ev.bind (spec_l8Has_ev pl b5 hp) ?_
    cases h4 : has pl b5 with
    | true => exact ev_map (J false) rfl
    | false => exact ev_map (J true) rfl
  ·simp only [if_neg h3]
   exact Ev.now _
theorem spec_WhyNot_j0 (c : Bool) (id kind : Int) (cols : List Int) (lo hi : Int) (pl : List Int) (fr un b0 b1 b2 b3 b4 b5 b6 b7 : Int) (hc : cols.length ≤ 1099511627776) (hp : pl.length ≤ 1099511627776) :
  Ev (fun k => spec_WhyNot.j0 k c id kind cols lo hi pl fr un b0 b1 b2 b3 b4 b5 b6 b7) (if c = true then ⟨#[105, 110, 118, 97, 108, 105, 100]⟩ else whyRest kind cols lo hi pl fr b1 b2 b3 b5 b6) := by
 refine ev_succ ?_
 simp only [spec_WhyNot.j0]
 cases c with
 | true => exact Ev.now _
 | false =>
  have J := fun c => spec_WhyNot_j1 c id kind cols lo hi pl fr un b0 b1 b2 b3 b4 b5 b6 b7 hp
  simp only [Bool.false_eq_true, if_false, whyRest]
  by_cases h1 : kind = b1
  ·simp only [if_pos h1]
   by_cases h0 : cols.length = 0
   ·have ha : allows cols b2 = true := by simp [allows, h0]
    simp only [if_neg (show ¬ (cols.length : Int) > 0 by omega), if_pos ha]
    exact ev_map (J false) rfl
   ·have ha : allows cols b2 = has cols b2 := by simp [allows, h0]
    simp only [if_pos (show (cols.length : Int) > 0 by omega), ha]
    refine Ev.bind (spec_l8Has_ev cols b2 hc) ?_
    cases h4 : has cols b2 with
    | true => exact ev_map (J false) rfl
    | false => exact ev_map (J true) rfl
  ·simp only [if_neg h1]
   exact Ev.now _
theorem spec_WhyNot_ev (id kind : Int) (cols : List Int) (lo hi : Int) (pl : List Int) (fr un b0 b1 b2 b3 b4 b5 b6 b7 : Int) (hc : cols.length ≤ 1099511627776) (hp : pl.length ≤ 1099511627776) :
  Ev (fun k => spec_WhyNot.f k id kind cols lo hi pl fr un b0 b1 b2 b3 b4 b5 b6 b7) (whyNot id kind cols lo hi pl fr un b0 b1 b2 b3 b4 b5 b6 b7) := by
 unfold spec_WhyNot.f whyNot
 refine Ev.bind (spec_IsReport_ev _ _ _ _ _ _ _ _ hc hp) ?_
 have J := fun c => spec_WhyNot_j0 c id kind cols lo hi pl fr un b0 b1 b2 b3 b4 b5 b6 b7 hc hp
 cases h1 : isReport id kind cols lo hi pl fr un with
 | false =>
  simp only [Bool.false_eq_true, if_false, Bool.false_and]
  exact ev_map (J true) rfl
 | true =>
  simp only [if_true, spec_IsFind_eq, Option.bind_some, Bool.true_and]
  cases h2 : isFind b0 b1 b2 b3 b4 b5 b6 b7 with
  | false => exact ev_map (J true) rfl
  | true => exact ev_map (J false) rfl

/-! spec_CanBe -/
theorem spec_CanBe_ev (id kind : Int) (cols : List Int) (lo hi : Int) (pl : List Int) (fr un b0 b1 b2 b3 b4 b5 b6 b7 : Int) (hc : cols.length ≤ 1099511627776) (hp : pl.length ≤ 1099511627776) :
  Ev (fun k => spec_CanBe.f k id kind cols lo hi pl fr un b0 b1 b2 b3 b4 b5 b6 b7) (canBe id kind cols lo hi pl fr un b0 b1 b2 b3 b4 b5 b6 b7) := by
 unfold spec_CanBe.f canBe
 exact Ev.bind (spec_WhyNot_ev _ _ _ _ _ _ _ _ _ _ _ _ _ _ _ _ hc hp) (Ev.now _)

/-! spec_Score -/
theorem spec_l8One_eq (b : Bool) : spec_l8One.f b = some (b2i b) := by
 cases b <;> rfl
theorem spec_Score_ev (id kind : Int) (cols : List Int) (lo hi : Int) (pl : List Int) (fr un b0 b1 b2 b3 b4 b5 b6 b7 : Int) (hc : cols.length ≤ 1099511627776) (hp : pl.length ≤ 1099511627776) :
  Ev (fun k => spec_Score.f k id kind cols lo hi pl fr un b0 b1 b2 b3 b4 b5 b6 b7) (score id kind cols lo hi pl fr un b0 b1 b2 b3 b4 b5 b6 b7) := by
 unfold spec_Score.f score
 refine Ev.bind (spec_CanBe_ev _ _ _ _ _ _ _ _ _ _ _ _ _ _ _ _ hc hp) ?_
 cases h : canBe id kind cols lo hi pl fr un b0 b1 b2 b3 b4 b5 b6 b7 with
 | false => exact Ev.now _
 | true =>
  simp only [if_true, spec_l1In_eq, spec_l8One_eq, Option.bind_some, score_late h]
  refine ev_const ?_
  have hb : ∀ b : Bool, 0 ≤ b2i b ∧ b2i b ≤ 1 := fun b => by cases b <;> decide
  have q1 := hb (inr (cols.length : Int) 1 2)
  have q2 := hb (decide (wrap64 (hi - lo) ≤ 5))
  have q3 := hb (inr (pl.length : Int) 1 2)
  have q4 := hb (decide (wrap64 (b6 - un) ≤ 24))
  rw [w64 (x := 1 + b2i (inr (cols.length : Int) 1 2)) (by omega) (by omega), w64 (x := 1 + b2i (inr (cols.length : Int) 1 2) + b2i (decide (wrap64 (hi - lo) ≤ 5))) (by omega) (by omega), w64 (x := 1 + b2i (inr (cols.length : Int) 1 2) + b2i (decide (wrap64 (hi - lo) ≤ 5)) + b2i (inr (pl.length : Int) 1 2)) (by omega) (by omega), w64 (by omega) (by omega)]

/-! spec_l23Next -/
theorem spec_l23Next_ev (l : List (S81)) (r : S87) (f : List (S126)) (hl : l.length ≤ 1099511627776) (hf : f.length ≤ 1099511627776) (hc : r.f2.length ≤ 1099511627776) (hp : r.f5.length ≤ 1099511627776) :
  Ev (fun k => spec_l23Next.f k l r.f0 r.f1 r.f2 r.f3 r.f4 r.f5 r.f6.f0 r.f6.f1 f) (nextFor l r f) := by
 unfold spec_l23Next.f nextFor
 refine ev_range f (fun k (s : Int × Int) i => spec_l23Next.l0 k l f s.1 s.2 i r.f0 r.f1 r.f2 r.f3 r.f4 r.f5 r.f6.f0 r.f6.f1) (fun s q => (q.foldl (nStep l r) s).1) (fun _ _ => True) (by omega) ?_ ?_ (0, 0) trivial
 ·intro s _
  simp only [spec_l23Next.l0, if_neg (Int.lt_irrefl _)]
  exact Ev.now _
 ·rintro pre x rest ⟨b, m⟩ e hlt hget _ ih
  have hr : rd_T126 f (pre.length : Int) = x := hget _
  have hs : score r.f0 r.f1 r.f2 r.f3 r.f4 r.f5 r.f6.f0 r.f6.f1 x.f0.f0 x.f0.f1 x.f0.f2 x.f0.f3 x.f0.f4 x.f1 x.f2 x.f3 = scoreFor r x := rfl
  simp only [spec_l23Next.l0, if_pos hlt]
  have G := ev_range l (fun k (c : Bool) j => spec_l23Next.l1 k l f b m (pre.length : Int) c j r.f0 r.f1 r.f2 r.f3 r.f4 r.f5 r.f6.f0 r.f6.f1) (fun c q => (rest.foldl (nStep l r) (if scoreFor r x > m then (if (c || q.any (fun y => (y.f0 == r.f0) && (y.f1 == x.f0.f0))) = true then (b, m) else (x.f0.f0, scoreFor r x)) else (b, m))).1) (fun _ _ => True) (by omega) ?_ ?_ false trivial
  ·exact ev_map G (by rw [List.foldl_cons, Bool.false_or]; rfl)
  ·intro c _
   simp only [spec_l23Next.l1, if_neg (Int.lt_irrefl _), if_pos hlt, if_pos (ge0 pre.length), hr]
   refine Ev.bind (spec_Score_ev _ _ _ _ _ _ _ _ _ _ _ _ _ _ _ _ hc hp) ?_
   simp only [hs, List.any_nil, Bool.or_false]
   by_cases h1 : scoreFor r x > m
   ·simp only [if_pos h1]
    cases c with
    | true => exact ih (b, m) trivial
    | false => exact ih (x.f0.f0, scoreFor r x) trivial
   ·simp only [if_neg h1]
    exact ih (b, m) trivial
  ·rintro pre2 y rest2 c e2 hlt2 hget2 _ ih2
   have hr2 : rd_T81 l (pre2.length : Int) = y := hget2 _
   simp only [spec_l23Next.l1, if_pos hlt2, if_pos (ge0 pre2.length), if_pos hlt, if_pos (ge0 pre.length), hr, hr2]
   cases c with
   | true =>
    simp only [if_true]
    exact ev_map (ih2 true trivial) (by simp only [Bool.true_or])
   | false =>
    simp only [Bool.false_eq_true, if_false]
    by_cases h3 : y.f0 = r.f0
    ·simp only [if_pos h3]
     refine ev_map (ih2 (y.f1 == x.f0.f0) trivial) ?_
     simp only [List.any_cons, Bool.false_or, show (y.f0 == r.f0) = true from beq_iff_eq.2 h3, Bool.true_and]
    ·simp only [if_neg h3]
     refine ev_map (ih2 false trivial) ?_
     simp only [List.any_cons, Bool.false_or, show (y.f0 == r.f0) = false from beq_eq_false_iff_ne.2 h3, Bool.false_and]

/-! spec_MayWrite -/
theorem spec_MayWrite_ev (l : List (S81)) (r t n : Int) (hl : l.length ≤ 1048576) : Ev (fun k => spec_MayWrite.f k l r t n) (mayWrite l r t n) := by
 unfold spec_MayWrite.f mayWrite
 refine Ev.bind (spec_AreLetters_ev l (by omega)) ?_
 cases h : areLetters l with
 | false => exact Ev.now _
 | true =>
  simp only [if_true, Option.bind_some, List.length_nil, List.nil_append, Nat.zero_add, if_pos (show l.length < 5864062014805 by omega), Bool.true_and]
  refine Ev.bind (spec_AreLetters_ev _ (by simp; omega)) ?_
  exact Ev.now _

/-! spec_WriteLetter -/
theorem spec_WriteLetter_ev (l : List (S81)) (r t n : Int) (hl : l.length ≤ 1048576) : Ev (fun k => spec_WriteLetter.f k l r t n) (writeLetter l r t n) := by
 unfold spec_WriteLetter.f writeLetter
 simp only [Option.bind_some, List.length_nil, List.nil_append, Nat.zero_add, if_pos (show l.length < 5864062014805 by omega)]
 refine Ev.bind (spec_MayWrite_ev l r t n hl) ?_
 cases h : mayWrite l r t n <;> exact Ev.now _

/-! spec_LettersFor -/
theorem spec_LettersFor_ev (l : List (S81)) (r : List (S87)) (f : List (S126)) (now : Int) (hb : l.length + r.length ≤ 1048576) (hf : f.length ≤ 1048576) (hr : RBnd r) :
  Ev (fun k => spec_LettersFor.f k l r f now) (lettersFor l r f now) := by
 unfold spec_LettersFor.f
 simp only [Option.bind_some, List.nil_append, List.length_nil, Nat.zero_add, if_pos (show l.length < 5864062014805 by omega)]
 have stop : ∀ (o a : List (S81)) (i : Int), Ev (fun k => spec_LettersFor.j1 k l r f now o a i false) o := fun o a i => by
  refine ev_succ ?_
  simp only [spec_LettersFor.j1, Bool.false_eq_true, if_false]
  exact Ev.now _
 have go : ∀ (o a : List (S81)) (i : Int) (R : List (S81)), i < (r.length : Int) → Ev (fun k => spec_LettersFor.j1 k l r f now o a i (areLetters l && (areReports r && areFinds f))) R → Ev (fun k => spec_LettersFor.l0 (k + 1) l r f now o a i) R := fun o a i R hi h => by
  simp only [spec_LettersFor.l0, if_pos hi]
  refine Ev.bind (spec_AreLetters_ev l (by omega)) ?_
  cases h1 : areLetters l with
  | false =>
   rw [h1] at h
   exact h
  | true =>
   rw [h1, Bool.true_and] at h
   simp only [if_true]
   refine Ev.bind (spec_AreReports_ev r (by omega) hr) ?_
   cases h2 : areReports r with
   | false =>
    rw [h2] at h
    exact h
   | true =>
    rw [h2, Bool.true_and] at h
    simp only [if_true]
    exact Ev.bind (spec_AreFinds_ev f (by omega)) h
 unfold lettersFor
 cases hok : (areLetters l && (areReports r && areFinds f)) with
 | false =>
  simp only [Bool.false_eq_true, if_false]
  refine ev_succ ?_
  by_cases h0 : (0 : Int) < (r.length : Int)
  ·exact go [] l 0 [] h0 (by rw [hok]; exact stop _ _ _)
  ·simp only [spec_LettersFor.l0, if_neg h0]
   exact stop _ _ _
 | true =>
  simp only [if_true]
  refine ev_map (ev_range r (fun k (s : List (S81) × List (S81)) i => spec_LettersFor.l0 k l r f now s.1 s.2 i) (fun s q => s.1 ++ runLet f now q s.2) (fun p s => s.1.length ≤ p.length ∧ s.2.length ≤ l.length + p.length) (by omega) ?_ ?_ ([], l) ⟨Nat.le_refl _, Nat.le_refl _⟩) (by simp)
  ·rintro ⟨o, a⟩ _
   simp only [spec_LettersFor.l0, if_neg (Int.lt_irrefl _)]
   exact ev_map (stop _ _ _) (by simp [runLet])
  ·rintro pre x rest ⟨o, a⟩ e hlt hget ⟨h1, h2⟩ ih
   have hx0 : rd_T87 r (pre.length : Int) = x := hget _
   have hx := hr x (by rw [e]; simp)
   have hn : r.length = pre.length + (rest.length + 1) := by rw [e, len_pre]
   refine go o a _ _ hlt ?_
   rw [hok]
   refine ev_succ ?_
   simp only at h1 h2
   simp only [spec_LettersFor.j1, if_true, if_pos hlt, if_pos (ge0 pre.length), hx0]
   refine Ev.bind (spec_l23Next_ev a x f (by omega) (by omega) hx.1 hx.2) ?_
   refine Ev.bind (spec_WriteLetter_ev a x.f0 (nextFor a x f) now (by omega)) ?_
   simp only [runLet]
   by_cases hm : mayWrite a x.f0 (nextFor a x f) now = true
   ·have hw : writeLetter a x.f0 (nextFor a x f) now = (a ++ [⟨x.f0, nextFor a x f, now⟩], true) := if_pos hm
    rw [hw]
    simp only [if_true, if_pos (show o.length < 5864062014805 by omega)]
    refine ev_map (ih (o ++ [⟨x.f0, nextFor a x f, now⟩], a ++ [⟨x.f0, nextFor a x f, now⟩]) ⟨by simp only [List.length_append, List.length_singleton]; omega, by simp only [List.length_append, List.length_singleton]; omega⟩) ?_
    simp only [if_pos hm, List.append_assoc]
    rfl
   ·have hw : writeLetter a x.f0 (nextFor a x f) now = (a, false) := if_neg hm
    rw [hw]
    simp only [Bool.false_eq_true, if_false]
    refine ev_map (ih (o, a) ⟨by simp only [List.length_append]; omega, by simp only [List.length_append]; omega⟩) ?_
    simp only [if_neg hm]

/-! type_173 -/
theorem rd_T173_pre (pre : List (S173)) (x : S173) (rest : List (S173)) : rd_T173 (pre ++ x :: rest) (pre.length : Int) = x := getD_pre pre x rest z173

/-! conv_Letter -/
def cLetter (x : S173) : S81 := (⟨x.f0, x.f1, x.f2⟩ : S81)

/-! laws_toLetterS -/
theorem laws_toLetterS_loop (rest : List (S173)) : ∀ (pre : List (S173)), (pre ++ rest).length ≤ 1099511627776 → Ev (fun k => laws_toLetterS.l0 k (pre ++ rest) ((pre).map cLetter ++ List.replicate rest.length z81) (pre.length : Int)) ((pre ++ rest).map cLetter) := by
 induction rest with
 | nil =>
  intro pre h
  refine ev_succ ?_
  simp only [laws_toLetterS.l0, if_neg (nlt_pre pre)]
  exact ev_const (by simp)
 | cons x rest ih =>
  intro pre h
  have hl := len_pre pre x rest
  have hlt : (pre.length : Int) < (((pre).map cLetter ++ List.replicate (x :: rest).length z81).length : Int) := by
   simp
   omega
  have hset : ((pre).map cLetter ++ List.replicate (x :: rest).length z81).set ((pre.length : Int)).toNat (⟨x.f0, x.f1, x.f2⟩ : S81) = (pre ++ [x]).map cLetter ++ List.replicate rest.length z81 := by
   simp [List.replicate_succ, cLetter]
  refine ev_succ ?_
  simp only [laws_toLetterS.l0, if_pos (lt_pre pre x rest), if_pos (ge0 pre.length), rd_T173_pre, laws_toLetter.f, Option.bind_some, if_pos hlt, wsucc (show pre.length < 9223372036854775807 by omega)]
  refine ev_map (Ev.congr (fun k => ?_) (ih (pre ++ [x]) (by rw [← app_pre]; exact h))) (by rw [← app_pre pre x rest])
  rw [hset, snoc_len pre x, ← app_pre pre x rest]
theorem laws_toLetterS_ev (l : List (S173)) (h : l.length ≤ 1048576) : Ev (fun k => laws_toLetterS.f k l) (l.map cLetter) := by
 have e := laws_toLetterS_loop l [] (by simp; omega)
 unfold laws_toLetterS.f
 simp only [if_pos (ge0 l.length), if_pos (show ((l.length : Int)).toNat ≤ 11728124029610 by omega)]
 exact e

/-! laws_toIntS -/
theorem laws_toIntS_loop (rest : List Int) : ∀ (pre : List Int), (pre ++ rest).length ≤ 1099511627776 → Ev (fun k => laws_toIntS.l0 k (pre ++ rest) (pre ++ List.replicate rest.length (0 : Int)) (pre.length : Int)) (pre ++ rest) := by
 induction rest with
 | nil =>
  intro pre h
  refine ev_succ ?_
  simp only [laws_toIntS.l0, if_neg (nlt_pre pre)]
  exact ev_const (by simp)
 | cons x rest ih =>
  intro pre h
  have hl := len_pre pre x rest
  have hlt : (pre.length : Int) < ((pre ++ List.replicate (x :: rest).length (0 : Int)).length : Int) := by
   simp
   omega
  have hset : (pre ++ List.replicate (x :: rest).length (0 : Int)).set ((pre.length : Int)).toNat x = (pre ++ [x]) ++ List.replicate rest.length (0 : Int) := by
   simp [List.replicate_succ]
  refine ev_succ ?_
  simp only [laws_toIntS.l0, if_pos (lt_pre pre x rest), if_pos (ge0 pre.length), rd_pre, Option.bind_some, if_pos hlt, wsucc (show pre.length < 9223372036854775807 by omega)]
  refine ev_map (Ev.congr (fun k => ?_) (ih (pre ++ [x]) (by rw [← app_pre]; exact h))) (by rw [← app_pre pre x rest])
  rw [hset, snoc_len pre x, ← app_pre pre x rest]
theorem laws_toIntS_ev (l : List Int) (h : l.length ≤ 1048576) : Ev (fun k => laws_toIntS.f k l) (l) := by
 have e := laws_toIntS_loop l [] (by simp; omega)
 unfold laws_toIntS.f
 simp only [if_pos (ge0 l.length), if_pos (show ((l.length : Int)).toNat ≤ 35184372088832 by omega)]
 exact e

/-! laws_toReport -/
theorem toReport_ev (a b : Int) (l : List Int) (c d : Int) (m : List Int) (e f : Int) (hl : l.length ≤ 1048576) (hm : m.length ≤ 1048576) : Ev (fun k => laws_toReport.f k a b l c d m e f) (a, b, l, c, d, m, e, f) := by
 unfold laws_toReport.f
 refine Ev.bind (laws_toIntS_ev l hl) ?_
 refine Ev.bind (laws_toIntS_ev m hm) ?_
 simp only [laws_toSpan.f, Option.bind_some]
 exact Ev.now _

/-! laws_toReportS -/
theorem laws_toReportS_ev (l : List (S171)) (hl : l.length ≤ 1048576) (hs : sumR (l.map cReport) ≤ 1048576) : Ev (fun k => laws_toReportS.f k l) (l.map cReport) := by
 unfold laws_toReportS.f
 simp only [if_pos (ge0 l.length), if_pos (show ((l.length : Int)).toNat ≤ 2932031007402 by omega)]
 refine ev_range l (fun k (s : List (S87)) i => laws_toReportS.l0 k l s i) (fun s r => s.take (l.length - r.length) ++ r.map cReport) (fun p s => s.length = l.length ∧ s.take p.length = p.map cReport) (by omega) ?_ ?_ (List.replicate ((l.length : Int)).toNat z87) (by simp) |> fun h => ev_map h (by simp)
 ·intro s hs
  simp only [laws_toReportS.l0, if_neg (Int.lt_irrefl _)]
  have h9 : s.take l.length = s := by rw [← hs.1, List.take_length]
  exact ev_const (by simp [h9])
 ·rintro pre x rest s e hlt hget ⟨h1, h2⟩ ih
  have hr : rd_T171 l (pre.length : Int) = x := hget _
  have hx : x.f2.length + x.f5.length ≤ sumR (l.map cReport) := sumR_mem (l.map cReport) (cReport x) (List.mem_map_of_mem (by rw [e]; simp))
  have hn : l.length = pre.length + (rest.length + 1) := by rw [e, len_pre]
  simp only [laws_toReportS.l0, if_pos hlt, if_pos (ge0 pre.length), hr]
  refine Ev.bind (toReport_ev _ _ _ _ _ _ _ _ (by omega) (by omega)) ?_
  simp only [if_pos (show (pre.length : Int) < (s.length : Int) by omega), Int.toNat_natCast]
  have ht : (s.set pre.length (cReport x)).take (pre.length + 1) = pre.map cReport ++ [cReport x] := by
   rw [List.take_add_one, List.take_set_of_le (Nat.le_refl _), h2, List.getElem?_set_self (by omega)]
   rfl
  refine ev_map (ih (s.set pre.length (cReport x)) ⟨by rw [List.length_set, h1], by rw [List.length_append, List.map_append]; exact ht⟩) ?_
  simp only [List.length_cons]
  rw [show l.length - rest.length = pre.length + 1 by omega, show l.length - (rest.length + 1) = pre.length by omega, ht, h2]
  simp

/-! laws_eqLetterS -/
theorem laws_eqLetterS_loop (rest : List (S81)) : ∀ (pre : List (S81)), (pre ++ rest).length ≤ 1099511627776 → Ev (fun k => laws_eqLetterS.l0 k (pre ++ rest) (pre ++ rest) (pre.length : Int)) true := by
 induction rest with
 | nil =>
  intro pre h
  refine ev_succ ?_
  simp only [laws_eqLetterS.l0, if_neg (nlt_pre pre)]
  exact Ev.now _
 | cons x rest ih =>
  intro pre h
  have hl := len_pre pre x rest
  refine ev_succ ?_
  simp only [laws_eqLetterS.l0, if_pos (lt_pre pre x rest), if_pos (ge0 pre.length), rd_T81_pre, laws_eqLetter.f, Option.bind_some, if_true, wsucc (show pre.length < 9223372036854775807 by omega)]
  refine Ev.congr (fun k => ?_) (ih (pre ++ [x]) (by rw [← app_pre]; exact h))
  rw [snoc_len pre x, ← app_pre]
theorem laws_eqLetterS_refl (l : List (S81)) (h : l.length ≤ 1099511627776) : Ev (fun k => laws_eqLetterS.f k l l) true := by
 have e := laws_eqLetterS_loop l [] h
 unfold laws_eqLetterS.f
 simp only [if_true]
 exact e

/-! laws_eqIntS -/
theorem laws_eqIntS_loop (rest : List Int) : ∀ (pre : List Int), (pre ++ rest).length ≤ 1099511627776 → Ev (fun k => laws_eqIntS.l0 k (pre ++ rest) (pre ++ rest) (pre.length : Int)) true := by
 induction rest with
 | nil =>
  intro pre h
  refine ev_succ ?_
  simp only [laws_eqIntS.l0, if_neg (nlt_pre pre)]
  exact Ev.now _
 | cons x rest ih =>
  intro pre h
  have hl := len_pre pre x rest
  refine ev_succ ?_
  simp only [laws_eqIntS.l0, if_pos (lt_pre pre x rest), if_pos (ge0 pre.length), rd_pre, Option.bind_some, if_true, wsucc (show pre.length < 9223372036854775807 by omega)]
  refine Ev.congr (fun k => ?_) (ih (pre ++ [x]) (by rw [← app_pre]; exact h))
  rw [snoc_len pre x, ← app_pre]
theorem laws_eqIntS_refl (l : List Int) (h : l.length ≤ 1099511627776) : Ev (fun k => laws_eqIntS.f k l l) true := by
 have e := laws_eqIntS_loop l [] h
 unfold laws_eqIntS.f
 simp only [if_true]
 exact e

/-! laws_eqReport -/
theorem eqReport_refl (a b : Int) (l : List Int) (c d : Int) (m : List Int) (e f : Int) (hl : l.length ≤ 1048576) (hm : m.length ≤ 1048576) : Ev (fun k => laws_eqReport.f k a b l c d m e f a b l c d m e f) true := by
 unfold laws_eqReport.f
 simp only [if_true]
 refine Ev.bind (laws_eqIntS_refl l (by omega)) ?_
 simp only [if_true]
 refine Ev.bind (laws_eqIntS_refl m (by omega)) ?_
 simp only [if_true, laws_eqSpan.f, Option.bind_some]
 exact Ev.now _

/-! laws_eqReportS -/
theorem laws_eqReportS_refl (l : List (S87)) (hl : l.length ≤ 1048576) (hs : sumR l ≤ 1048576) : Ev (fun k => laws_eqReportS.f k l l) true := by
 unfold laws_eqReportS.f
 simp only [if_true]
 refine ev_range l (fun k (_ : Unit) i => laws_eqReportS.l0 k l l i) (fun _ _ => true) (fun _ _ => True) (by omega) ?_ ?_ () trivial
 ·intro s _
  simp only [laws_eqReportS.l0, if_neg (Int.lt_irrefl _)]
  exact Ev.now _
 ·rintro pre x rest s e hlt hget _ ih
  have hr : rd_T87 l (pre.length : Int) = x := hget _
  have hx := sumR_mem l x (by rw [e]; simp)
  simp only [laws_eqReportS.l0, if_pos hlt, if_pos (ge0 pre.length), hr]
  refine Ev.bind (eqReport_refl _ _ _ _ _ _ _ _ (by omega) (by omega)) ?_
  simp only [if_true]
  exact ih () trivial

/-! marked_Letter -/
def markedLetter : List (S81) → Int → List (S81)
 | [], _ => []
 | _ :: l, a => (⟨a, a + 1, a + 2⟩ : S81) :: markedLetter l (a + 3)
theorem markedLetter_length (l : List (S81)) : ∀ a, (markedLetter l a).length = l.length := by
 induction l with
 | nil => intro a; rfl
 | cons x l ih => intro a; simp [markedLetter, ih]
-- Letter

/-! laws_markLetterS -/
theorem laws_markLetterS_loop (rest : List (S81)) : ∀ (pre : List (S81)) (a : Int), 0 ≤ a → a + 3 * (rest.length : Int) ≤ 9223372036854775000 → (pre ++ rest).length ≤ 1099511627776 → Ev (fun k => laws_markLetterS.l0 k (pre ++ rest) a (pre.length : Int)) (a + 3 * (rest.length : Int), pre ++ markedLetter rest a) := by
 induction rest with
 | nil =>
  intro pre a h0 h1 h
  refine ev_succ ?_
  simp only [laws_markLetterS.l0, if_neg (nlt_pre pre)]
  exact ev_const (by simp [markedLetter])
 | cons x rest ih =>
  intro pre a h0 h1 h
  have hl := len_pre pre x rest
  rw [List.length_cons] at h1
  refine ev_succ ?_
  simp only [laws_markLetterS.l0, if_pos (lt_pre pre x rest), if_pos (ge0 pre.length), rd_T81_pre, set_pre, Option.bind_some, wsucc (show pre.length < 9223372036854775807 by omega), w64 (x := a + 1) (by omega) (by omega), w64 (x := a + 2) (by omega) (by omega), w64 (x := a + 3) (by omega) (by omega), show a + 1 + 1 = a + 2 by omega, show a + 2 + 1 = a + 3 by omega]
  refine Ev.congr (fun k => ?_) (ev_map (ih (pre ++ [(⟨a, a + 1, a + 2⟩ : S81)]) (a + 3) (by omega) (by omega) (by rw [← app_pre, len_pre]; omega)) ?_)
  ·rw [← app_pre, List.length_append, List.length_singleton]
  ·simp only [markedLetter, List.length_cons, List.append_assoc, List.singleton_append, Prod.mk.injEq, and_true]
   omega
theorem laws_markLetterS_ev (l : List (S81)) (a : Int) (h0 : 0 ≤ a) (h1 : a ≤ 1099511627776) (h : l.length ≤ 1099511627776) : Ev (fun k => laws_markLetterS.f k l a) (a + 3 * (l.length : Int), markedLetter l a) := laws_markLetterS_loop l [] a h0 (by omega) h

/-! marked_Int -/
def markedInt : List Int → Int → List Int
 | [], _ => []
 | _ :: l, a => a :: markedInt l (a + 1)
theorem markedInt_length (l : List Int) : ∀ a, (markedInt l a).length = l.length := by
 induction l with
 | nil => intro a; rfl
 | cons x l ih => intro a; simp [markedInt, ih]
-- Int

/-! laws_markIntS -/
theorem laws_markIntS_loop (rest : List Int) : ∀ (pre : List Int) (a : Int), 0 ≤ a → a + 1 * (rest.length : Int) ≤ 9223372036854775000 → (pre ++ rest).length ≤ 1099511627776 → Ev (fun k => laws_markIntS.l0 k (pre ++ rest) a (pre.length : Int)) (a + 1 * (rest.length : Int), pre ++ markedInt rest a) := by
 induction rest with
 | nil =>
  intro pre a h0 h1 h
  refine ev_succ ?_
  simp only [laws_markIntS.l0, if_neg (nlt_pre pre)]
  exact ev_const (by simp [markedInt])
 | cons x rest ih =>
  intro pre a h0 h1 h
  have hl := len_pre pre x rest
  rw [List.length_cons] at h1
  refine ev_succ ?_
  simp only [laws_markIntS.l0, if_pos (lt_pre pre x rest), if_pos (ge0 pre.length), rd_pre, set_pre, Option.bind_some, wsucc (show pre.length < 9223372036854775807 by omega), w64 (x := a + 1) (by omega) (by omega)]
  refine Ev.congr (fun k => ?_) (ev_map (ih (pre ++ [a]) (a + 1) (by omega) (by omega) (by rw [← app_pre, len_pre]; omega)) ?_)
  ·rw [← app_pre, List.length_append, List.length_singleton]
  ·simp only [markedInt, List.length_cons, List.append_assoc, List.singleton_append, Prod.mk.injEq, and_true]
   omega
theorem laws_markIntS_ev (l : List Int) (a : Int) (h0 : 0 ≤ a) (h1 : a ≤ 1099511627776) (h : l.length ≤ 1099511627776) : Ev (fun k => laws_markIntS.f k l a) (a + 1 * (l.length : Int), markedInt l a) := laws_markIntS_loop l [] a h0 (by omega) h

/-! laws_markReportS -/
theorem laws_markReportS_ev (l : List (S87)) (a : Int) (h0 : 0 ≤ a) (h1 : a ≤ 10000000) (hl : l.length ≤ 1048576) (hs : sumR l ≤ 1048576) : Ev (fun k => laws_markReportS.f k l a) (a + 6 * (l.length : Int) + (sumR l : Int)) := by
 unfold laws_markReportS.f
 refine ev_range l (fun k (b : Int) i => laws_markReportS.l0 k l b i) (fun b r => b + 6 * (r.length : Int) + (sumR r : Int)) (fun p b => 0 ≤ b ∧ b + 6 * ((l.drop p.length).length : Int) + (sumR (l.drop p.length) : Int) ≤ 20000000) (by omega) ?_ ?_ a ⟨h0, by simp only [List.length_nil, List.drop_zero]; omega⟩
 ·intro b _
  simp only [laws_markReportS.l0, if_neg (Int.lt_irrefl _)]
  exact ev_const (by simp [sumR])
 ·rintro pre x rest b e hlt hget ⟨h4, h5⟩ ih
  have hd : l.drop pre.length = x :: rest := by rw [e, List.drop_left]
  rw [hd] at h5
  have h6 : sumR (x :: rest) = x.f2.length + x.f5.length + sumR rest := rfl
  have hx := sumR_mem l x (by rw [e]; simp)
  have hr : laws_markReportS.at_ l (pre.length : Int) = x := hget _
  have hd3 : l.drop (pre ++ [x]).length = rest := by rw [e, show pre ++ x :: rest = (pre ++ [x]) ++ rest by simp, List.drop_left]
  rw [List.length_cons] at h5
  have e1 : wrap64 (b + 1) = b + 1 := w64 (by omega) (by omega)
  have e2 : wrap64 (b + 1 + 1) = b + 1 + 1 := w64 (by omega) (by omega)
  simp only [laws_markReportS.l0, if_pos hlt, if_pos (ge0 pre.length), hr, e1, e2]
  refine Ev.bind (laws_markIntS_ev x.f2 (b + 1 + 1) (by omega) (by omega) (by omega)) ?_
  have e3 : wrap64 (b + 1 + 1 + 1 * (x.f2.length : Int) + 1) = b + 1 + 1 + 1 * (x.f2.length : Int) + 1 := w64 (by omega) (by omega)
  have e4 : wrap64 (b + 1 + 1 + 1 * (x.f2.length : Int) + 1 + 1) = b + 1 + 1 + 1 * (x.f2.length : Int) + 1 + 1 := w64 (by omega) (by omega)
  simp only [e3, e4]
  refine Ev.bind (laws_markIntS_ev x.f5 (b + 1 + 1 + 1 * (x.f2.length : Int) + 1 + 1) (by omega) (by omega) (by omega)) ?_
  have e5 : wrap64 (b + 1 + 1 + 1 * (x.f2.length : Int) + 1 + 1 + 1 * (x.f5.length : Int) + 1) = b + 1 + 1 + 1 * (x.f2.length : Int) + 1 + 1 + 1 * (x.f5.length : Int) + 1 := w64 (by omega) (by omega)
  have e6 : wrap64 (b + 1 + 1 + 1 * (x.f2.length : Int) + 1 + 1 + 1 * (x.f5.length : Int) + 1 + 1) = b + 1 + 1 + 1 * (x.f2.length : Int) + 1 + 1 + 1 * (x.f5.length : Int) + 1 + 1 := w64 (by omega) (by omega)
  simp only [e5, e6]
  refine ev_map (ih (b + 1 + 1 + 1 * (x.f2.length : Int) + 1 + 1 + 1 * (x.f5.length : Int) + 1 + 1) ⟨by omega, by rw [hd3]; omega⟩) ?_
  rw [h6, List.length_cons]
  omega

/-! laws_heldLetterS -/
theorem laws_heldLetterS_loop (rest : List (S81)) : ∀ (pre : List (S81)) (a : Int), 0 ≤ a → a + 3 * (rest.length : Int) ≤ 9223372036854775000 → (pre ++ rest).length ≤ 1099511627776 → Ev (fun k => laws_heldLetterS.l0 k (pre ++ markedLetter rest a) a (pre.length : Int)) (a + 3 * (rest.length : Int)) := by
 induction rest with
 | nil =>
  intro pre a h0 h1 h
  refine ev_succ ?_
  show Ev (fun k => laws_heldLetterS.l0 (k + 1) (pre ++ []) a (pre.length : Int)) _
  simp only [laws_heldLetterS.l0, if_neg (nlt_pre pre)]
  exact ev_const (by simp)
 | cons x rest ih =>
  intro pre a h0 h1 h
  have hl := len_pre pre x rest
  rw [List.length_cons] at h1
  refine ev_succ ?_
  show Ev (fun k => laws_heldLetterS.l0 (k + 1) (pre ++ (⟨a, a + 1, a + 2⟩ : S81) :: markedLetter rest (a + 3)) a (pre.length : Int)) _
  simp only [laws_heldLetterS.l0, if_pos (lt_pre _ _ _), if_pos (ge0 pre.length), rd_T81_pre, wsucc (show pre.length < 9223372036854775807 by omega), w64 (x := a + 1) (by omega) (by omega), w64 (x := a + 2) (by omega) (by omega), w64 (x := a + 3) (by omega) (by omega), show a + 1 + 1 = a + 2 by omega, show a + 2 + 1 = a + 3 by omega, if_true]
  refine Ev.congr (fun k => ?_) (ev_map (ih (pre ++ [(⟨a, a + 1, a + 2⟩ : S81)]) (a + 3) (by omega) (by omega) (by rw [← app_pre, len_pre]; omega)) ?_)
  ·rw [← app_pre, List.length_append, List.length_singleton]
  ·rw [List.length_cons]
   omega
theorem laws_heldLetterS_ev (l : List (S81)) (a : Int) (h0 : 0 ≤ a) (h1 : a ≤ 1099511627776) (h : l.length ≤ 1099511627776) : Ev (fun k => laws_heldLetterS.f k (markedLetter l a) a) (a + 3 * (l.length : Int)) := laws_heldLetterS_loop l [] a h0 (by omega) h

/-! markFindR -/
theorem laws_markFindS_run (L : Nat) : ∀ (n : Nat) (x : List (S126)) (a : Int) (i : Nat), x.length = L → i + n = L → L ≤ 1048576 → 0 ≤ a → a + 8 * (n : Int) ≤ 20000000 → ∃ y, Ev (fun k => laws_markFindS.l0 k x a (i : Int)) (a + 8 * (n : Int), y)
 | 0, x, a, i, hx, hi, hL, h0, h1 => ⟨x, by
  refine ev_succ ?_
  simp only [laws_markFindS.l0, if_neg (show ¬ (i : Int) < (x.length : Int) by omega)]
  exact ev_const (by simp)⟩
 | n + 1, x, a, i, hx, hi, hL, h0, h1 => by
  obtain ⟨y, hy⟩ := laws_markFindS_run L n (x.set i (laws_markFindS.all a)) (a + 8) (i + 1) (by rw [List.length_set]; exact hx) (by omega) hL (by omega) (by omega)
  refine ⟨y, ev_succ ?_⟩
  have e : ∀ j : Int, 0 ≤ j → j ≤ 7 → wrap64 (a + j + 1) = a + (j + 1) := fun j p q => by rw [w64 (by omega) (by omega)]; omega
  have e0 : wrap64 (a + 1) = a + 1 := w64 (by omega) (by omega)
  have ei : wrap64 ((i : Int) + 1) = ((i + 1 : Nat) : Int) := wsucc (by omega)
  simp only [laws_markFindS.l0, if_pos (show (i : Int) < (x.length : Int) by omega), if_pos (ge0 i), Int.toNat_natCast, ei]
  rw [e0, e 1 (by omega) (by omega), e _ (by omega) (by omega), e _ (by omega) (by omega), e _ (by omega) (by omega), e _ (by omega) (by omega), e _ (by omega) (by omega), e _ (by omega) (by omega)]
  refine ev_map hy ?_
  rw [show a + 8 + 8 * (n : Int) = a + 8 * ((n + 1 : Nat) : Int) by omega]
theorem laws_markFindS_evR (l : List (S126)) (a : Int) (h0 : 0 ≤ a) (h1 : a ≤ 10000000) (hl : l.length ≤ 1048576) : ∃ y, Ev (fun k => laws_markFindS.f k l a) (a + 8 * (l.length : Int), y) := laws_markFindS_run l.length l.length l a 0 rfl (by omega) hl h0 (by omega)

/-! the law -/
theorem Pf.FnExactLettersFor : FnExactLettersForLaw := by
 intro l0 l1 l2 a3 hm0 hq0 hm1 hq1 hm2 hq2 hq3
 refine Ev.rounds ?_
 unfold laws_FnExactLettersFor.f
 by_cases hl0 : (l0.length : Int) ≤ 1048576
 ·have hsz0 : ¬ (1048576 - (l0.length : Int) < 0) := by omega
  simp only [laws_szLetterS_ok l0 (1048576) hl0 (by omega), Option.bind_some, if_neg hsz0]
  refine Ev.bind (laws_szReportS_ev l1 (1048576 - (l0.length : Int)) (by omega) (by omega) hm1 (fun y hy => ⟨(hq1 y hy).2.2.1.1, (hq1 y hy).2.2.2.2.2.1.1⟩)) ?_
  by_cases hl1 : (l1.length : Int) + (sumR (l1.map cReport) : Int) ≤ 1048576 - (l0.length : Int)
  ·simp only [if_pos hl1, if_neg (show ¬ (1048576 - (l0.length : Int) - (l1.length : Int) - (sumR (l1.map cReport) : Int) < 0) by omega)]
   by_cases hl2 : (l2.length : Int) ≤ 1048576 - (l0.length : Int) - (l1.length : Int) - (sumR (l1.map cReport) : Int)
   ·have hsz2 : ¬ (1048576 - (l0.length : Int) - (l1.length : Int) - (sumR (l1.map cReport) : Int) - (l2.length : Int) < 0) := by omega
    simp only [laws_szFindS_ok l2 (1048576 - (l0.length : Int) - (l1.length : Int) - (sumR (l1.map cReport) : Int)) hl2 (by omega), Option.bind_some, if_neg hsz2]
    have hp : l1.length ≤ 1048576 := by omega
    have hp' : (l1.map cReport).length ≤ 1048576 := by rw [List.length_map]; exact hp
    have hs : sumR (l1.map cReport) ≤ 1048576 := by omega
    have hc0 : (l0.map cLetter).length ≤ 1048576 := by rw [List.length_map]; omega
    have hc2 : (l2.map cFind).length ≤ 1048576 := by rw [List.length_map]; omega
    have hcs : (l0.map cLetter).length + (l1.map cReport).length ≤ 1048576 := by rw [List.length_map, List.length_map]; omega
    have hS := spec_LettersFor_ev (l0.map cLetter) (l1.map cReport) (l2.map cFind) a3 hcs hc2 (sumR_bnd hs)
    have hI := impl_LettersFor_ev (l0.map cLetter) (l1.map cReport) (l2.map cFind) a3 hcs hc2 (sumR_bnd hs)
    have hR1 : (lettersFor (l0.map cLetter) (l1.map cReport) (l2.map cFind) a3).length ≤ 1048576 := Nat.le_trans (lettersFor_len _ _ _ _) hp'
    generalize lettersFor (l0.map cLetter) (l1.map cReport) (l2.map cFind) a3 = z at hS hI hR1
    have hr0 : ¬ ((1 : Int) + 3 * (z.length : Int) < 0) := by omega
    obtain ⟨yf, hF⟩ := laws_markFindS_evR (l2.map cFind) ((1 : Int) + 3 * ((l0.map cLetter).length : Int) + 6 * ((l1.map cReport).length : Int) + (sumR (l1.map cReport) : Int)) (by omega) (by omega) hc2
    have hk1 : ¬ ((1 : Int) + 3 * ((l0.map cLetter).length : Int) + 6 * ((l1.map cReport).length : Int) + (sumR (l1.map cReport) : Int) + 8 * ((l2.map cFind).length : Int) < 0) := by omega
    repeat' first
     | exact Ev.now _
     | refine Ev.bind hS ?_
     | refine Ev.bind hI ?_
     | refine Ev.bind hF ?_
     | refine Ev.bind (laws_toLetterS_ev _ (by omega)) ?_
     | refine Ev.bind (laws_toReportS_ev _ hp hs) ?_
     | refine Ev.bind (laws_toFindS_ev _ (by omega)) ?_
     | refine Ev.bind (laws_eqLetterS_refl _ (by omega)) ?_
     | refine Ev.bind (laws_eqReportS_refl _ hp' hs) ?_
     | refine Ev.bind (laws_eqFindS_refl _ (by omega)) ?_
     | refine Ev.bind (laws_markReportS_ev _ _ (by omega) (by omega) hp' hs) ?_
     | refine Ev.bind (laws_markLetterS_ev _ _ (by omega) (by omega) (by omega)) ?_
     | refine Ev.bind (laws_heldLetterS_ev _ _ (by omega) (by omega) (by omega)) ?_
     | simp only [if_true, if_false, Bool.not_true, bne_self_eq_false, Bool.false_eq_true, Option.bind_some, if_neg hk1, if_neg hr0]
     | (refine ev_succ ?_; simp only [laws_FnExactLettersFor.j0])
   ·simp only [laws_szFindS_big l2 (1048576 - (l0.length : Int) - (l1.length : Int) - (sumR (l1.map cReport) : Int)) (by omega) (by omega) hm2, Option.bind_some]
    exact Ev.now _
  ·simp only [if_neg hl1, if_pos (show (-1 : Int) < 0 by decide)]
   exact Ev.now _
 ·simp only [laws_szLetterS_big l0 (1048576) (by omega) (by omega) hm0, Option.bind_some]
  exact Ev.now _

end Go.Proofs.Ytpkdbkheggfkkaa.PFnExactLettersFor
