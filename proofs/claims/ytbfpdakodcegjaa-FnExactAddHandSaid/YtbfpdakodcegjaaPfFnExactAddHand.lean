/- The plain part of FnExactAddHand: what the printed functions come to, and that the law's answer is true. No conditions beyond those of the statement. -/
import Derived.Test.YtbfpdakodcegjaaPFnExactAddHandx
import Derived.Test.YtbfpdakodcegjaaBaseFnExactAddHand
import Derived.Test.YtbfpdakodcegjaaDefFnExactAddHand
namespace Go.Proofs.Ytbfpdakodcegjaa.PFnExactAddHand
open Go.RowKit Go.Proofs.YtbfpdakodcegjaaW.PrintWords Go.Proofs.YtbfpdakodcegjaaW.PrintMore Go.Proofs.Ytbfpdakodcegjaa.Base
set_option linter.unusedVariables false
set_option linter.unusedSimpArgs false

/-! laws_szHandS -/
theorem laws_szHandS_ok (l : List (S96)) (a : Int) (h0 : (l.length : Int) ≤ a) (h1 : a ≤ 1048576) : laws_szHandS.f l a = some (a - (l.length : Int)) := by
  unfold laws_szHandS.f
  rw [w64 (by omega) (by omega), if_neg (by omega)]
theorem laws_szHandS_big (l : List (S96)) (a : Int) (h0 : a < (l.length : Int)) (h1 : 0 ≤ a) (h2 : l.length ≤ 9223372036854775807) : laws_szHandS.f l a = some (-1) := by
  unfold laws_szHandS.f
  rw [w64 (by omega) (by omega), if_pos (by omega)]

/-! type_96 -/
theorem rd_T96_pre (pre : List (S96)) (x : S96) (rest : List (S96)) : rd_T96 (pre ++ x :: rest) (pre.length : Int) = x := getD_pre pre x rest z96

/-! type_99 -/
theorem rd_T99_pre (pre : List (S99)) (x : S99) (rest : List (S99)) : rd_T99 (pre ++ x :: rest) (pre.length : Int) = x := getD_pre pre x rest z99

/-! conv_Hand -/
def cHand (x : S96) : S99 := (⟨x.f0, x.f1, x.f2, x.f3, x.f4⟩ : S99)

/-! laws_toHandS -/
theorem laws_toHandS_loop (rest : List (S96)) : ∀ (pre : List (S96)), (pre ++ rest).length ≤ 1099511627776 → Ev (fun k => laws_toHandS.l0 k (pre ++ rest) ((pre).map cHand ++ List.replicate rest.length z99) (pre.length : Int)) ((pre ++ rest).map cHand) := by
  induction rest with
  | nil =>
    intro pre h
    refine ev_succ ?_
    simp only [laws_toHandS.l0, if_neg (nlt_pre pre)]
    exact ev_const (by simp)
  | cons x rest ih =>
    intro pre h
    have hl := len_pre pre x rest
    have hlt : (pre.length : Int) < (((pre).map cHand ++ List.replicate (x :: rest).length z99).length : Int) := by
      simp
      omega
    have hset : ((pre).map cHand ++ List.replicate (x :: rest).length z99).set ((pre.length : Int)).toNat (⟨x.f0, x.f1, x.f2, x.f3, x.f4⟩ : S99) = (pre ++ [x]).map cHand ++ List.replicate rest.length z99 := by
      simp [List.replicate_succ, cHand]
    refine ev_succ ?_
    simp only [laws_toHandS.l0, if_pos (lt_pre pre x rest), if_pos (ge0 pre.length), rd_T96_pre, laws_toHand.f, Option.bind_some, if_pos hlt, wsucc (show pre.length < 9223372036854775807 by omega)]
    refine ev_map (Ev.congr (fun k => ?_) (ih (pre ++ [x]) (by rw [← app_pre]; exact h))) (by rw [← app_pre pre x rest])
    rw [hset, snoc_len pre x, ← app_pre pre x rest]
theorem laws_toHandS_ev (l : List (S96)) (h : l.length ≤ 1048576) : Ev (fun k => laws_toHandS.f k l) (l.map cHand) := by
  have e := laws_toHandS_loop l [] (by simp; omega)
  unfold laws_toHandS.f
  simp only [if_pos (ge0 l.length), if_pos (show ((l.length : Int)).toNat ≤ 7036874417766 by omega)]
  exact e

/-! laws_eqHandS -/
theorem laws_eqHandS_loop (rest : List (S99)) : ∀ (pre : List (S99)), (pre ++ rest).length ≤ 1099511627776 → Ev (fun k => laws_eqHandS.l0 k (pre ++ rest) (pre ++ rest) (pre.length : Int)) true := by
  induction rest with
  | nil =>
    intro pre h
    refine ev_succ ?_
    simp only [laws_eqHandS.l0, if_neg (nlt_pre pre)]
    exact Ev.now _
  | cons x rest ih =>
    intro pre h
    have hl := len_pre pre x rest
    refine ev_succ ?_
    simp only [laws_eqHandS.l0, if_pos (lt_pre pre x rest), if_pos (ge0 pre.length), rd_T99_pre, laws_eqHand.f, Option.bind_some, if_true, wsucc (show pre.length < 9223372036854775807 by omega)]
    refine Ev.congr (fun k => ?_) (ih (pre ++ [x]) (by rw [← app_pre]; exact h))
    rw [snoc_len pre x, ← app_pre]
theorem laws_eqHandS_refl (l : List (S99)) (h : l.length ≤ 1099511627776) : Ev (fun k => laws_eqHandS.f k l l) true := by
  have e := laws_eqHandS_loop l [] h
  unfold laws_eqHandS.f
  simp only [if_true]
  exact e

/-! spec_l1In -/
theorem spec_l1In_eq (a b c : Int) : spec_l1In.f a b c = some (inr a b c) := by
  unfold spec_l1In.f inr
  by_cases h : b ≤ a <;> simp [h]

/-! spec_Mod -/
theorem spec_Mod_eq (a : Int) : spec_Mod.f a 2147483647 = some (a % 2147483647) := by
  simp only [spec_Mod.f, spec_l1In_eq, Option.bind_some]
  rw [if_pos (by decide), if_neg (by decide), mod_up]

/-! spec_Hash -/
theorem spec_Hash_loop (rest : List Int) : ∀ (pre : List Int) (acc : Int), (pre ++ rest).length < 9223372036854775807 → Ev (fun k => spec_Hash.l0 k (pre ++ rest) acc (pre.length : Int)) (rest.foldl hstep acc) := by
  induction rest with
  | nil =>
    intro pre acc h
    refine ev_succ ?_
    simp only [spec_Hash.l0, if_neg (nlt_pre pre)]
    exact Ev.now _
  | cons x rest ih =>
    intro pre acc h
    have hl := len_pre pre x rest
    refine ev_succ ?_
    simp only [spec_Hash.l0, if_pos (lt_pre pre x rest), if_pos (ge0 pre.length), rd_pre, spec_Mod_eq, Option.bind_some, wsucc (show pre.length < 9223372036854775807 by omega)]
    rw [snoc_len pre x]
    have := ih (pre ++ [x]) (hstep acc x) (by rw [← app_pre]; exact h)
    rw [← app_pre] at this
    exact this
theorem spec_Hash_ev (l : List Int) (h : l.length < 9223372036854775807) : Ev (fun k => spec_Hash.f k l) (ghash l) := spec_Hash_loop l [] 11 h

/-! spec_HandSeal -/
theorem spec_HandSeal_ev (a b c d e f : Int) : Ev (fun k => spec_HandSeal.f k a b c d e f) (ghash [a, b, c, d, e]) := by
  simp only [spec_HandSeal.f]
  exact Ev.bind (spec_Hash_ev _ (by simp)) (Ev.now _)

/-! chain -/
def lastFrom (t : Int) : Nat → Int → List (S99) → Int
  | _, acc, [] => acc
  | n, acc, x :: r => lastFrom t (n + 1) (if x.f0 = t then (n : Int) else acc) r
/-- The place of the last hand of a thing, or -1. -/
def lastIx (l : List (S99)) (t : Int) : Int := lastFrom t 0 (-1) l
theorem lastFrom_snoc (t : Int) (y : S99) : ∀ (l : List (S99)) (n : Nat) (acc : Int), lastFrom t n acc (l ++ [y]) = if y.f0 = t then ((n + l.length : Nat) : Int) else lastFrom t n acc l
  | [], n, acc => by simp [lastFrom]
  | x :: l, n, acc => by
    simp only [List.cons_append, lastFrom, lastFrom_snoc t y l (n + 1), List.length_cons]
    rw [show n + 1 + l.length = n + (l.length + 1) by omega]
theorem lastIx_snoc (l : List (S99)) (y : S99) (t : Int) : lastIx (l ++ [y]) t = if y.f0 = t then (l.length : Int) else lastIx l t := by
  simp only [lastIx, lastFrom_snoc, Nat.zero_add]
theorem lastIx_nil (t : Int) : lastIx [] t = -1 := rfl
theorem lastFrom_bounds (t : Int) : ∀ (l : List (S99)) (n : Nat) (acc : Int), -1 ≤ acc → acc < (n : Int) → -1 ≤ lastFrom t n acc l ∧ lastFrom t n acc l < ((n + l.length : Nat) : Int)
  | [], n, acc, h0, h1 => by simp only [lastFrom, List.length_nil]; omega
  | x :: l, n, acc, h0, h1 => by
    simp only [lastFrom, List.length_cons]
    have := lastFrom_bounds t l (n + 1) (if x.f0 = t then (n : Int) else acc) (by split <;> omega) (by split <;> omega)
    omega
theorem lastIx_bounds (l : List (S99)) (t : Int) : -1 ≤ lastIx l t ∧ lastIx l t < (l.length : Int) := by
  have := lastFrom_bounds t l 0 (-1) (by omega) (by omega)
  unfold lastIx
  omega
def hdFits (x : S99) : Bool := inr x.f0 1 999 && (inr x.f1 1 5 && (inr x.f2 0 999 && inr x.f3 0 100000))
def hdEarly (pre : List (S99)) (x : S99) : Bool := match pre.getLast? with | none => false | some y => decide (x.f3 < y.f3)
def hdStep (pre : List (S99)) (x : S99) : Bool := if lastIx pre x.f0 < 0 then decide (x.f1 ≤ 2) else !decide (x.f1 = 1) && decide ((rd_T99 pre (lastIx pre x.f0)).f1 ≤ 2)
def hseal (s : Int) (x : S99) : Int := ghash [s, x.f0, x.f1, x.f2, x.f3]
def chainOk : Int → List (S99) → List (S99) → Bool
  | _, _, [] => true
  | s, pre, x :: rest => hdFits x && (decide (x.f4 = hseal s x) && (!hdEarly pre x && (hdStep pre x && chainOk x.f4 (pre ++ [x]) rest)))
def isChain (l : List (S99)) : Bool := decide (l.length ≤ 100) && chainOk 0 [] l
theorem rd_T_app {pre rest : List (S99)} {i : Int} (h0 : 0 ≤ i) (h1 : i < (pre.length : Int)) : rd_T99 (pre ++ rest) i = rd_T99 pre i := by
  unfold rd_T99
  exact getD_app _ _ _ (by omega) _

/-! spec_l16Last -/
theorem spec_l16Last_ev (p q : List (S99)) (t : Int) (h : (p ++ q).length ≤ 1099511627776) : Ev (fun k => spec_l16Last.f k (p ++ q) t (p.length : Int)) (lastIx p t) := by
  have hlen : (p ++ q).length = p.length + q.length := List.length_append
  refine ev_range p (fun k (s : Int × Nat) i => spec_l16Last.l0 k (p ++ q) t (p.length : Int) s.1 i) (fun s r => lastFrom t s.2 s.1 r) (fun pre s => s.2 = pre.length) (by omega) ?_ ?_ (-1, 0) rfl
  · rintro ⟨a, n⟩ _
    simp only [spec_l16Last.l0, if_neg (Int.lt_irrefl _)]
    exact Ev.now _
  · rintro pre x rest ⟨a, n⟩ e hlt hget rfl ih
    have hr : rd_T99 (p ++ q) (pre.length : Int) = x := by
      rw [rd_T_app (by omega) hlt]
      exact hget _
    simp only [spec_l16Last.l0, if_pos hlt, if_pos (ge0 pre.length), if_pos (show (pre.length : Int) < ((p ++ q).length : Int) by omega), hr]
    by_cases hx : x.f0 = t
    · simp only [if_pos hx]
      exact ev_map (ih ((pre.length : Int), pre.length + 1) (by simp)) (by simp [lastFrom, hx])
    · simp only [if_neg hx]
      exact ev_map (ih (a, pre.length + 1) (by simp)) (by simp [lastFrom, hx])

/-! spec_IsChain -/
theorem spec_IsChain_j2_true (l : List (S99)) (s i a b c d e : Int) : Ev (fun k => spec_IsChain.j2 k l s i true a b c d e) false := by
  refine ev_succ ?_
  simp only [spec_IsChain.j2, if_true]
  exact Ev.now _
theorem spec_IsChain_j2_false {l pre rest : List (S99)} {x : S99} {s : Int} (e : l = pre ++ x :: rest) (hl : l.length ≤ 1099511627776) (R : Bool) (ih : Ev (fun k => spec_IsChain.l0 k l s (wrap64 ((pre.length : Int) + 1))) R) :
    Ev (fun k => spec_IsChain.j2 k l s (pre.length : Int) false x.f0 x.f1 x.f2 x.f3 x.f4) (hdStep pre x && R) := by
  have hb := lastIx_bounds pre x.f0
  have hlen : l.length = pre.length + (rest.length + 1) := by rw [e, len_pre]
  refine ev_succ ?_
  simp only [spec_IsChain.j2, Bool.false_eq_true, if_false]
  have h1 := spec_l16Last_ev pre (x :: rest) x.f0 (by rw [← e]; exact hl)
  rw [← e] at h1
  refine Ev.bind h1 ?_
  by_cases h2 : lastIx pre x.f0 < 0
  · by_cases h3 : x.f1 > 2
    · simp only [if_pos h2, if_pos h3]
      exact ev_const (by simp [hdStep, h2, show ¬ x.f1 ≤ 2 by omega])
    · simp only [if_pos h2, if_neg h3, if_neg (show ¬ lastIx pre x.f0 ≥ 0 by omega)]
      exact ev_map ih (by simp [hdStep, h2, show x.f1 ≤ 2 by omega])
  · by_cases h3 : x.f1 = 1
    · simp only [if_neg h2, if_pos (show lastIx pre x.f0 ≥ 0 by omega), if_pos h3]
      exact ev_const (by simp [hdStep, h2, h3])
    · have hr : rd_T99 l (lastIx pre x.f0) = rd_T99 pre (lastIx pre x.f0) := by rw [e, rd_T_app (by omega) hb.2]
      simp only [if_neg h2, if_pos (show lastIx pre x.f0 ≥ 0 by omega), if_neg h3, if_pos (show 0 ≤ lastIx pre x.f0 by omega), if_pos (show lastIx pre x.f0 < (l.length : Int) by omega), hr]
      by_cases h4 : (rd_T99 pre (lastIx pre x.f0)).f1 ≥ 3
      · simp only [if_pos h4]
        exact ev_const (by simp [hdStep, h2, show ¬ (rd_T99 pre (lastIx pre x.f0)).f1 ≤ 2 by omega])
      · simp only [if_neg h4]
        exact ev_map ih (by simp [hdStep, h2, h3, show (rd_T99 pre (lastIx pre x.f0)).f1 ≤ 2 by omega])
theorem spec_IsChain_ev (l : List (S99)) (hl : l.length ≤ 1099511627776) : Ev (fun k => spec_IsChain.f k l) (isChain l) := by
  by_cases hb : (l.length : Int) ≤ 100
  · refine ev_map (ev_range l (fun k (s : Int × List (S99)) i => spec_IsChain.l0 k l s.1 i) (fun s r => chainOk s.1 s.2 r) (fun p s => s.2 = p) (by omega) ?_ ?_ (0, []) rfl) (by simp [isChain, show l.length ≤ 100 by omega])
    · rintro ⟨s, p⟩ _
      simp only [spec_IsChain.l0, if_neg (Int.lt_irrefl _)]
      refine ev_succ ?_
      simp only [spec_IsChain.j1, Bool.false_eq_true, if_false]
      exact ev_const (by simp [chainOk]; omega)
    · rintro pre x rest ⟨s, p⟩ e hlt hget rfl ih
      have hr : rd_T99 l (p.length : Int) = x := hget _
      simp only [spec_IsChain.l0, if_pos hlt, decide_eq_true hb]
      refine ev_succ ?_
      simp only [spec_IsChain.j1, if_true, if_pos (ge0 p.length), if_pos hlt, hr]
      refine Ev.bind (spec_HandSeal_ev s x.f0 x.f1 x.f2 x.f3 x.f4) ?_
      have hs : ghash [s, x.f0, x.f1, x.f2, x.f3] = hseal s x := rfl
      simp only [spec_l1In_eq, Option.bind_some, chainOk, hdFits, hs]
      cases h1 : inr x.f0 1 999 with
      | false => exact spec_IsChain_j2_true _ _ _ _ _ _ _ _
      | true =>
        cases h2 : inr x.f1 1 5 with
        | false => exact spec_IsChain_j2_true _ _ _ _ _ _ _ _
        | true =>
          cases h3 : inr x.f2 0 999 with
          | false => exact spec_IsChain_j2_true _ _ _ _ _ _ _ _
          | true =>
            cases h4 : inr x.f3 0 100000 with
            | false => exact spec_IsChain_j2_true _ _ _ _ _ _ _ _
            | true =>
              by_cases h5 : x.f4 = hseal s x
              · have ih' := ih (hseal s x, p ++ [x]) rfl
                simp only [if_true, Bool.true_and, if_pos h5, decide_eq_true h5]
                rcases prev_cases e (by omega) with ⟨hp, hn⟩ | ⟨y, hy, h6, h7, h8, h9⟩
                · simp only [if_neg hn]
                  exact ev_map (spec_IsChain_j2_false e hl _ ih') (by simp [hdEarly, show p = [] from hp, h5])
                · have hr9 : rd_T99 l (wrap64 ((p.length : Int) - 1)) = y := h9 _
                  simp only [if_pos h6, if_pos h7, if_pos h8, hr9]
                  by_cases h10 : y.f3 > x.f3
                  · simp only [decide_eq_true h10]
                    exact ev_map (spec_IsChain_j2_true _ _ _ _ _ _ _ _) (by simp [hdEarly, show p.getLast? = some y from hy, show x.f3 < y.f3 from h10])
                  · simp only [decide_eq_false h10]
                    exact ev_map (spec_IsChain_j2_false e hl _ ih') (by simp [hdEarly, show p.getLast? = some y from hy, show ¬ x.f3 < y.f3 from h10, h5])
              · simp only [if_true, if_neg h5]
                exact ev_map (spec_IsChain_j2_true _ _ _ _ _ _ _ _) (by simp [h5])
  · unfold spec_IsChain.f
    refine ev_succ ?_
    simp only [spec_IsChain.l0, if_pos (show (0 : Int) < (l.length : Int) by omega), decide_eq_false hb]
    refine ev_succ ?_
    simp only [spec_IsChain.j1, Bool.false_eq_true, if_false, decide_eq_false hb]
    exact ev_const (by simp [isChain, show ¬ l.length ≤ 100 by omega])

/-! addHand -/
def lastSeal (l : List (S99)) : Int := match l.getLast? with | none => 0 | some y => y.f4
def withHand (s : Int) (l : List (S99)) (a b c d : Int) : List (S99) := l ++ [⟨a, b, c, d, ghash [s, a, b, c, d]⟩]
def addHand (l : List (S99)) (a b c d : Int) : List (S99) × Bool := if isChain (withHand (lastSeal l) l a b c d) = true then (withHand (lastSeal l) l a b c d, true) else (l, false)
theorem addHand_len (l : List (S99)) (a b c d : Int) : (addHand l a b c d).1.length ≤ l.length + 1 := by
  unfold addHand withHand
  split <;> simp
theorem last_cases (l : List (S99)) (hl : l.length < 9223372036854775807) : (l = [] ∧ ¬ (l.length : Int) > 0) ∨ ∃ y, l.getLast? = some y ∧ (l.length : Int) > 0 ∧ 0 ≤ wrap64 ((l.length : Int) - 1) ∧ wrap64 ((l.length : Int) - 1) < (l.length : Int) ∧ rd_T99 l (wrap64 ((l.length : Int) - 1)) = y := by
  by_cases h0 : l = []
  · exact .inl ⟨h0, by simp [h0]⟩
  · have hp : 0 < l.length := List.length_pos_iff.2 h0
    right
    refine ⟨l[l.length - 1], ?_, by omega, ?_⟩
    · rw [List.getLast?_eq_getElem?, List.getElem?_eq_getElem]
    · rw [w64 (by omega) (by omega)]
      refine ⟨by omega, by omega, ?_⟩
      unfold rd_T99
      rw [List.getD_eq_getElem?_getD, show ((l.length : Int) - 1).toNat = l.length - 1 by omega, List.getElem?_eq_getElem (by omega)]
      rfl

/-! spec_AddHand -/
theorem spec_AddHand_j0 (l : List (S99)) (s a b c d e : Int) (hl : l.length ≤ 1099511627775) : Ev (fun k => spec_AddHand.j0 k l s a b c d e) (if isChain (withHand s l a b c d) = true then (withHand s l a b c d, true) else (l, false)) := by
  refine ev_succ ?_
  simp only [spec_AddHand.j0]
  refine Ev.bind (spec_HandSeal_ev s a b c d e) ?_
  simp only [Option.bind_some, List.length_nil, List.nil_append, Nat.zero_add, if_pos (show l.length < 3518437208883 by omega), List.length_singleton, if_pos (show l.length + 1 < 3518437208883 by omega)]
  refine Ev.bind (spec_IsChain_ev (withHand s l a b c d) (by simp [withHand]; omega)) ?_
  cases h : isChain (withHand s l a b c d) <;> exact Ev.now _
theorem spec_AddHand_ev (l : List (S99)) (a b c d e : Int) (hl : l.length ≤ 1099511627775) : Ev (fun k => spec_AddHand.f k l a b c d e) (addHand l a b c d) := by
  unfold spec_AddHand.f addHand lastSeal
  rcases last_cases l (by omega) with ⟨rfl, h⟩ | ⟨y, hy, h1, h2, h3, h4⟩
  · simp only [if_neg h]
    exact spec_AddHand_j0 [] 0 a b c d e hl
  · simp only [if_pos h1, if_pos h2, if_pos h3, h4, hy]
    exact spec_AddHand_j0 l y.f4 a b c d e hl

/-! impl_InRange -/
theorem impl_InRange_eq (a b c : Int) : impl_InRange.f a b c = some (inr a b c) := by
  unfold impl_InRange.f inr
  by_cases h : b ≤ a <;> simp [h]

/-! impl_Mod -/
theorem impl_Mod_eq (a : Int) : impl_Mod.f a 2147483647 = some (a % 2147483647) := by
  simp only [impl_Mod.f, impl_InRange_eq, Option.bind_some]
  rw [if_pos (by decide), if_neg (by decide)]
  by_cases h : Int.tmod a 2147483647 < 0
  · rw [if_pos h, mod_lo a h]
  · rw [if_neg h, mod_hi a h]

/-! impl_fold -/
theorem impl_fold_eq (a v : Int) : impl_fold.f a v = some (hstep a v) := by
  simp only [impl_fold.f, impl_Mod_eq, Option.bind_some, hstep]

/-! impl_Hash -/
theorem impl_Hash_loop (rest : List Int) : ∀ (pre : List Int) (acc : Int), (pre ++ rest).length < 9223372036854775807 → Ev (fun k => impl_Hash.l0 k acc (pre ++ rest) ((pre ++ rest).length : Int) (pre.length : Int)) (rest.foldl hstep acc) := by
  induction rest with
  | nil =>
    intro pre acc h
    refine ev_succ ?_
    simp only [impl_Hash.l0, if_neg (nlt_pre pre)]
    exact Ev.now _
  | cons x rest ih =>
    intro pre acc h
    have hl := len_pre pre x rest
    refine ev_succ ?_
    simp only [impl_Hash.l0, if_pos (lt_pre pre x rest), if_pos (ge0 pre.length), rd_pre, impl_fold_eq, Option.bind_some, wsucc (show pre.length < 9223372036854775807 by omega)]
    rw [snoc_len pre x]
    have := ih (pre ++ [x]) (hstep acc x) (by rw [← app_pre]; exact h)
    rw [← app_pre] at this
    exact this
theorem impl_Hash_ev (l : List Int) (h : l.length < 9223372036854775807) : Ev (fun k => impl_Hash.f k l) (ghash l) := impl_Hash_loop l [] 11 h

/-! impl_HandSeal -/
theorem impl_HandSeal_ev (a b c d e f : Int) : Ev (fun k => impl_HandSeal.f k a b c d e f) (ghash [a, b, c, d, e]) := by
  simp only [impl_HandSeal.f]
  exact Ev.bind (impl_Hash_ev _ (by simp)) (Ev.now _)

/-! impl_lastHand -/
theorem impl_lastHand_ev (l : List (S99)) (t : Int) (h : l.length ≤ 1099511627776) : Ev (fun k => impl_lastHand.f k l t) (lastIx l t) := by
  have key : ∀ n : Nat, n ≤ l.length → Ev (fun k => impl_lastHand.l0 k l t ((n : Int) - 1)) (lastIx (l.take n) t) := by
    intro n
    induction n with
    | zero =>
      intro _
      refine ev_succ ?_
      simp only [impl_lastHand.l0, if_neg (show ¬ ((0 : Nat) : Int) - 1 ≥ 0 by omega)]
      exact ev_const (by simp [lastIx, lastFrom])
    | succ n ih =>
      intro hn
      have e1 : ((n + 1 : Nat) : Int) - 1 = (n : Int) := by omega
      rw [e1]
      have e2 : l.take (n + 1) = l.take n ++ [l[n]] := by rw [List.take_succ_eq_append_getElem (by omega)]
      have hr : rd_T99 l (n : Int) = l[n] := by
        unfold rd_T99
        rw [List.getD_eq_getElem?_getD, show ((n : Int)).toNat = n by omega, List.getElem?_eq_getElem (by omega)]
        rfl
      rw [e2, lastIx_snoc, List.length_take, Nat.min_eq_left (by omega)]
      refine ev_succ ?_
      simp only [impl_lastHand.l0, if_pos (show (n : Int) ≥ 0 by omega), if_pos (show 0 ≤ (n : Int) by omega), if_pos (show (n : Int) < (l.length : Int) by omega), hr]
      by_cases hx : l[n].f0 = t
      · simp only [if_pos hx]
        exact Ev.now _
      · simp only [if_neg hx, w64 (x := (n : Int) - 1) (by omega) (by omega)]
        exact ih (by omega)
  have := key l.length (Nat.le_refl _)
  rw [List.take_length] at this
  unfold impl_lastHand.f
  rw [w64 (by omega) (by omega)]
  exact this

/-! impl_IsChain -/
theorem impl_IsChain_j1_true (l : List (S99)) (n i j a b c d e : Int) : Ev (fun k => impl_IsChain.j1 k l i l n j true a b c d e) false := by
  refine ev_succ ?_
  simp only [impl_IsChain.j1, if_true]
  exact Ev.now _
theorem impl_IsChain_j1_false {l pre rest : List (S99)} {x : S99} (e : l = pre ++ x :: rest) (hl : l.length ≤ 1099511627776) (R : Bool) (ih : Ev (fun k => impl_IsChain.l0 k l x.f4 l (l.length : Int) (wrap64 ((pre.length : Int) + 1))) R) :
    Ev (fun k => impl_IsChain.j1 k l (pre.length : Int) l (l.length : Int) (pre.length : Int) false x.f0 x.f1 x.f2 x.f3 x.f4) (hdStep pre x && R) := by
  have hb := lastIx_bounds pre x.f0
  have hlen : l.length = pre.length + (rest.length + 1) := by rw [e, len_pre]
  have ht : l.take ((pre.length : Int)).toNat = pre := by rw [e]; simp
  refine ev_succ ?_
  simp only [impl_IsChain.j1, Bool.false_eq_true, if_false, if_pos (ge0 pre.length), if_pos (show (pre.length : Int) ≤ (l.length : Int) by omega), ht]
  refine Ev.bind (impl_lastHand_ev pre x.f0 (by omega)) ?_
  by_cases h2 : lastIx pre x.f0 < 0
  · by_cases h3 : x.f1 > 2
    · simp only [if_pos h2, if_pos h3]
      exact ev_const (by simp [hdStep, h2, show ¬ x.f1 ≤ 2 by omega])
    · simp only [if_pos h2, if_neg h3]
      exact ev_map ih (by simp [hdStep, h2, show x.f1 ≤ 2 by omega])
  · by_cases h3 : x.f1 = 1
    · simp only [if_neg h2, if_pos h3]
      exact ev_const (by simp [hdStep, h2, h3])
    · have hr : rd_T99 l (lastIx pre x.f0) = rd_T99 pre (lastIx pre x.f0) := by rw [e, rd_T_app (by omega) hb.2]
      simp only [if_neg h2, if_neg h3, if_pos (show 0 ≤ lastIx pre x.f0 by omega), if_pos (show lastIx pre x.f0 < (l.length : Int) by omega), hr]
      by_cases h4 : (rd_T99 pre (lastIx pre x.f0)).f1 > 2
      · simp only [if_pos h4]
        exact ev_const (by simp [hdStep, h2, show ¬ (rd_T99 pre (lastIx pre x.f0)).f1 ≤ 2 by omega])
      · simp only [if_neg h4]
        exact ev_map ih (by simp [hdStep, h2, h3, show (rd_T99 pre (lastIx pre x.f0)).f1 ≤ 2 by omega])
theorem impl_IsChain_ev (l : List (S99)) (hl : l.length ≤ 1099511627776) : Ev (fun k => impl_IsChain.f k l) (isChain l) := by
  unfold impl_IsChain.f isChain
  by_cases hb : (l.length : Int) > 100
  · simp only [if_pos hb]
    exact ev_const (by simp; omega)
  · simp only [if_neg hb, show decide (l.length ≤ 100) = true from decide_eq_true (by omega), Bool.true_and]
    refine ev_range l (fun k (s : Int × List (S99)) i => impl_IsChain.l0 k l s.1 l (l.length : Int) i) (fun s r => chainOk s.1 s.2 r) (fun p s => s.2 = p) (by omega) ?_ ?_ (0, []) rfl
    · rintro ⟨s, p⟩ _
      simp only [impl_IsChain.l0, if_neg (Int.lt_irrefl _)]
      exact ev_const (by simp [chainOk])
    · rintro pre x rest ⟨s, p⟩ e hlt hget rfl ih
      have hr : rd_T99 l (p.length : Int) = x := hget _
      have ih' := ih (x.f4, p ++ [x]) rfl
      have hs : ghash [s, x.f0, x.f1, x.f2, x.f3] = hseal s x := rfl
      have hsl : ∀ E : Bool, E = false → Ev (fun k => (impl_HandSeal.f k s x.f0 x.f1 x.f2 x.f3 x.f4).bind fun t => (impl_IsChain.j1 k l (p.length : Int) l (l.length : Int) (p.length : Int) (x.f4 != t) x.f0 x.f1 x.f2 x.f3 x.f4)) (decide (x.f4 = hseal s x) && (!E && (hdStep p x && chainOk x.f4 (p ++ [x]) rest))) := by
        rintro E rfl
        refine Ev.bind (impl_HandSeal_ev s x.f0 x.f1 x.f2 x.f3 x.f4) ?_
        rw [hs]
        by_cases h5 : x.f4 = hseal s x
        · rw [show (x.f4 != hseal s x) = false from bne_eq_false_iff_eq.2 h5]
          exact ev_map (impl_IsChain_j1_false e hl _ ih') (by simp [h5])
        · rw [show (x.f4 != hseal s x) = true from bne_iff_ne.2 h5]
          exact ev_map (impl_IsChain_j1_true _ _ _ _ _ _ _ _ _) (by simp [h5])
      simp only [impl_IsChain.l0, if_pos hlt, if_pos (ge0 p.length), hr, impl_InRange_eq, Option.bind_some, chainOk, hdFits]
      cases h1 : inr x.f0 1 999 with
      | false => exact impl_IsChain_j1_true _ _ _ _ _ _ _ _ _
      | true =>
        cases h2 : inr x.f1 1 5 with
        | false => exact impl_IsChain_j1_true _ _ _ _ _ _ _ _ _
        | true =>
          cases h3 : inr x.f2 0 999 with
          | false => exact impl_IsChain_j1_true _ _ _ _ _ _ _ _ _
          | true =>
            cases h4 : inr x.f3 0 100000 with
            | false => exact impl_IsChain_j1_true _ _ _ _ _ _ _ _ _
            | true =>
              simp only [if_true, Bool.true_and]
              rcases prev_cases e (by omega) with ⟨hp, hn⟩ | ⟨y, hy, h6, h7, h8, h9⟩
              · simp only [if_neg hn]
                exact hsl _ (by simp [hdEarly, show p = [] from hp])
              · have hr9 : rd_T99 l (wrap64 ((p.length : Int) - 1)) = y := h9 _
                simp only [if_pos h6, if_pos h7, if_pos h8, hr9]
                by_cases h10 : x.f3 < y.f3
                · simp only [if_pos h10]
                  exact ev_map (impl_IsChain_j1_true _ _ _ _ _ _ _ _ _) (by simp [hdEarly, show p.getLast? = some y from hy, h10])
                · simp only [if_neg h10]
                  exact hsl _ (by simp [hdEarly, show p.getLast? = some y from hy, h10])

/-! clone:impl.Hand -/
theorem clone_Hand_eq (l : List (S99)) (h : l.length < 3518437208883) : impl_Hand.f l = some l := by
  unfold impl_Hand.f
  simp only [Option.bind_some, List.length_nil, List.nil_append, Nat.zero_add, if_pos h]

/-! impl_AddHand -/
theorem impl_AddHand_j0 (l : List (S99)) (s a b c d e : Int) (hl : l.length ≤ 1099511627775) : Ev (fun k => impl_AddHand.j0 k l s a b c d e) (if isChain (withHand s l a b c d) = true then (withHand s l a b c d, true) else (l, false)) := by
  refine ev_succ ?_
  simp only [impl_AddHand.j0]
  refine Ev.bind (impl_HandSeal_ev s a b c d e) ?_
  simp only [clone_Hand_eq l (by omega), Option.bind_some, List.length_nil, List.nil_append, Nat.zero_add, if_pos (show l.length < 3518437208883 by omega), List.length_singleton, if_pos (show l.length + 1 < 3518437208883 by omega)]
  refine Ev.bind (impl_IsChain_ev (withHand s l a b c d) (by simp [withHand]; omega)) ?_
  cases h : isChain (withHand s l a b c d) <;> exact Ev.now _
theorem impl_AddHand_ev (l : List (S99)) (a b c d e : Int) (hl : l.length ≤ 1099511627775) : Ev (fun k => impl_AddHand.f k l a b c d e) (addHand l a b c d) := by
  unfold impl_AddHand.f addHand lastSeal
  rcases last_cases l (by omega) with ⟨rfl, h⟩ | ⟨y, hy, h1, h2, h3, h4⟩
  · simp only [if_neg h]
    exact impl_AddHand_j0 [] 0 a b c d e hl
  · simp only [if_pos h1, if_pos h2, if_pos h3, h4, hy]
    exact impl_AddHand_j0 l y.f4 a b c d e hl

/-! marked_Hand -/
def markedHand : List (S99) → Int → List (S99)
  | [], _ => []
  | _ :: l, a => (⟨a, a + 1, a + 2, a + 3, a + 4⟩ : S99) :: markedHand l (a + 5)
theorem markedHand_length (l : List (S99)) : ∀ a, (markedHand l a).length = l.length := by
  induction l with
  | nil => intro a; rfl
  | cons x l ih => intro a; simp [markedHand, ih]
-- Hand

/-! laws_markHandS -/
theorem laws_markHandS_loop (rest : List (S99)) : ∀ (pre : List (S99)) (a : Int), 0 ≤ a → a + 5 * (rest.length : Int) ≤ 9223372036854775000 → (pre ++ rest).length ≤ 1099511627776 → Ev (fun k => laws_markHandS.l0 k (pre ++ rest) a (pre.length : Int)) (a + 5 * (rest.length : Int), pre ++ markedHand rest a) := by
  induction rest with
  | nil =>
    intro pre a h0 h1 h
    refine ev_succ ?_
    simp only [laws_markHandS.l0, if_neg (nlt_pre pre)]
    exact ev_const (by simp [markedHand])
  | cons x rest ih =>
    intro pre a h0 h1 h
    have hl := len_pre pre x rest
    rw [List.length_cons] at h1
    refine ev_succ ?_
    simp only [laws_markHandS.l0, if_pos (lt_pre pre x rest), if_pos (ge0 pre.length), rd_T99_pre, set_pre, Option.bind_some, wsucc (show pre.length < 9223372036854775807 by omega), w64 (x := a + 1) (by omega) (by omega), w64 (x := a + 2) (by omega) (by omega), w64 (x := a + 3) (by omega) (by omega), w64 (x := a + 4) (by omega) (by omega), w64 (x := a + 5) (by omega) (by omega), show a + 1 + 1 = a + 2 by omega, show a + 2 + 1 = a + 3 by omega, show a + 3 + 1 = a + 4 by omega, show a + 4 + 1 = a + 5 by omega]
    refine Ev.congr (fun k => ?_) (ev_map (ih (pre ++ [(⟨a, a + 1, a + 2, a + 3, a + 4⟩ : S99)]) (a + 5) (by omega) (by omega) (by rw [← app_pre, len_pre]; omega)) ?_)
    · rw [← app_pre, List.length_append, List.length_singleton]
    · simp only [markedHand, List.length_cons, List.append_assoc, List.singleton_append, Prod.mk.injEq, and_true]
      omega
theorem laws_markHandS_ev (l : List (S99)) (a : Int) (h0 : 0 ≤ a) (h1 : a ≤ 1099511627776) (h : l.length ≤ 1099511627776) : Ev (fun k => laws_markHandS.f k l a) (a + 5 * (l.length : Int), markedHand l a) := laws_markHandS_loop l [] a h0 (by omega) h

/-! laws_heldHandS -/
theorem laws_heldHandS_loop (rest : List (S99)) : ∀ (pre : List (S99)) (a : Int), 0 ≤ a → a + 5 * (rest.length : Int) ≤ 9223372036854775000 → (pre ++ rest).length ≤ 1099511627776 → Ev (fun k => laws_heldHandS.l0 k (pre ++ markedHand rest a) a (pre.length : Int)) (a + 5 * (rest.length : Int)) := by
  induction rest with
  | nil =>
    intro pre a h0 h1 h
    refine ev_succ ?_
    show Ev (fun k => laws_heldHandS.l0 (k + 1) (pre ++ []) a (pre.length : Int)) _
    simp only [laws_heldHandS.l0, if_neg (nlt_pre pre)]
    exact ev_const (by simp)
  | cons x rest ih =>
    intro pre a h0 h1 h
    have hl := len_pre pre x rest
    rw [List.length_cons] at h1
    refine ev_succ ?_
    show Ev (fun k => laws_heldHandS.l0 (k + 1) (pre ++ (⟨a, a + 1, a + 2, a + 3, a + 4⟩ : S99) :: markedHand rest (a + 5)) a (pre.length : Int)) _
    simp only [laws_heldHandS.l0, if_pos (lt_pre _ _ _), if_pos (ge0 pre.length), rd_T99_pre, wsucc (show pre.length < 9223372036854775807 by omega), w64 (x := a + 1) (by omega) (by omega), w64 (x := a + 2) (by omega) (by omega), w64 (x := a + 3) (by omega) (by omega), w64 (x := a + 4) (by omega) (by omega), w64 (x := a + 5) (by omega) (by omega), show a + 1 + 1 = a + 2 by omega, show a + 2 + 1 = a + 3 by omega, show a + 3 + 1 = a + 4 by omega, show a + 4 + 1 = a + 5 by omega, if_true]
    refine Ev.congr (fun k => ?_) (ev_map (ih (pre ++ [(⟨a, a + 1, a + 2, a + 3, a + 4⟩ : S99)]) (a + 5) (by omega) (by omega) (by rw [← app_pre, len_pre]; omega)) ?_)
    · rw [← app_pre, List.length_append, List.length_singleton]
    · rw [List.length_cons]
      omega
theorem laws_heldHandS_ev (l : List (S99)) (a : Int) (h0 : 0 ≤ a) (h1 : a ≤ 1099511627776) (h : l.length ≤ 1099511627776) : Ev (fun k => laws_heldHandS.f k (markedHand l a) a) (a + 5 * (l.length : Int)) := laws_heldHandS_loop l [] a h0 (by omega) h

/-! the law -/
theorem Pf.FnExactAddHand : FnExactAddHandLaw := by
  intro l0 y1 hm0 hq0 hq1
  refine Ev.rounds ?_
  unfold laws_FnExactAddHand.f
  by_cases hl0 : (l0.length : Int) ≤ 1048576
  · have hsz0 : ¬ (1048576 - (l0.length : Int) < 0) := by omega
    simp only [laws_szHandS_ok l0 (1048576) hl0 (by omega), Option.bind_some, if_neg hsz0]
    have hc0 : (l0.map cHand).length ≤ 1048576 := by rw [List.length_map]; omega
    have hk0 : ¬ ((1 : Int) + 5 * ((l0.map cHand).length : Int) < 0) := by omega
    have hR0 : ((addHand (l0.map cHand) y1.f0 y1.f1 y1.f2 y1.f3).1).length ≤ 1099511627776 := Nat.le_trans (addHand_len _ _ _ _ _) (by omega)
    have hr0 : ¬ ((1 : Int) + 5 * (((addHand (l0.map cHand) y1.f0 y1.f1 y1.f2 y1.f3).1).length : Int) < 0) := by omega
    repeat' first
      | exact Ev.now _
      | refine Ev.bind (spec_AddHand_ev _ _ _ _ _ _ (by omega)) ?_
      | refine Ev.bind (impl_AddHand_ev _ _ _ _ _ _ (by omega)) ?_
      | refine Ev.bind (laws_toHandS_ev _ (by omega)) ?_
      | refine Ev.bind (laws_eqHandS_refl _ (by omega)) ?_
      | refine Ev.bind (laws_markHandS_ev _ _ (by omega) (by omega) (by omega)) ?_
      | refine Ev.bind (laws_heldHandS_ev _ _ (by omega) (by omega) (by omega)) ?_
      | simp only [if_true, if_false, Bool.not_true, Bool.not_false, bne_self_eq_false, Bool.false_eq_true, Option.bind_some, if_neg hk0, if_neg hr0, laws_toHand.f]
      | (refine ev_succ ?_; simp only [laws_FnExactAddHand.j0])
      | (refine ev_succ ?_; simp only [laws_FnExactAddHand.j1])
      | (refine ev_succ ?_; simp only [laws_FnExactAddHand.j2])
  · simp only [laws_szHandS_big l0 (1048576) (by omega) (by omega) hm0, Option.bind_some]
    exact Ev.now _

end Go.Proofs.Ytbfpdakodcegjaa.PFnExactAddHand
