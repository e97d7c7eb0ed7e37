/- The plain part of FnCustody: what the printed functions come to, and that the law's answer is true. No conditions beyond those of the statement. -/
import Derived.Test.YtpkdbkheggfkkaaPFnCustodyx
import Derived.Test.YtpkdbkheggfkkaaBaseFnCustody
import Derived.Test.YtpkdbkheggfkkaaDefFnCustody
namespace Go.Proofs.Ytpkdbkheggfkkaa.PFnCustody
open Go.RowKit Go.Proofs.YtpkdbkheggfkkaaW.PrintWords Go.Proofs.YtpkdbkheggfkkaaW.PrintMore Go.Proofs.Ytpkdbkheggfkkaa.Base
set_option linter.unusedVariables false
set_option linter.unusedSimpArgs false

/-! impl_InRange -/
theorem impl_InRange_eq (a b c : Int) : impl_InRange.f a b c = some (inr a b c) := by
  unfold impl_InRange.f inr
  by_cases h : b ≤ a <;> simp [h]

/-! impl_Mod -/
theorem impl_Mod_eq (a : Int) : impl_Mod.f a 2147483647 = some (a % 2147483647) := by
  simp only [impl_Mod.f, impl_InRange_eq, Option.bind_some]
  rw [if_pos (by decide), if_neg (by decide)]
  by_cases h : Int.tmod a 2147483647 < 0
  · rw [if_pos h, mod_lo a h]
  · rw [if_neg h, mod_hi a h]

/-! impl_fold -/
theorem impl_fold_eq (a v : Int) : impl_fold.f a v = some (hstep a v) := by
  simp only [impl_fold.f, impl_Mod_eq, Option.bind_some, hstep]

/-! impl_Hash -/
theorem impl_Hash_loop (rest : List Int) : ∀ (pre : List Int) (acc : Int), (pre ++ rest).length < 9223372036854775807 → Ev (fun k => impl_Hash.l0 k acc (pre ++ rest) ((pre ++ rest).length : Int) (pre.length : Int)) (rest.foldl hstep acc) := by
  induction rest with
  | nil =>
    intro pre acc h
    refine ev_succ ?_
    simp only [impl_Hash.l0, if_neg (nlt_pre pre)]
    exact Ev.now _
  | cons x rest ih =>
    intro pre acc h
    have hl := len_pre pre x rest
    refine ev_succ ?_
    simp only [impl_Hash.l0, if_pos (lt_pre pre x rest), if_pos (ge0 pre.length), rd_pre, impl_fold_eq, Option.bind_some, wsucc (show pre.length < 9223372036854775807 by omega)]
    rw [snoc_len pre x]
    have := ih (pre ++ [x]) (hstep acc x) (by rw [← app_pre]; exact h)
    rw [← app_pre] at this
    exact this
theorem impl_Hash_ev (l : List Int) (h : l.length < 9223372036854775807) : Ev (fun k => impl_Hash.f k l) (ghash l) := impl_Hash_loop l [] 11 h

/-! impl_HandSeal -/
theorem impl_HandSeal_ev (a b c d e f : Int) : Ev (fun k => impl_HandSeal.f k a b c d e f) (ghash [a, b, c, d, e]) := by
  simp only [impl_HandSeal.f]
  exact Ev.bind (impl_Hash_ev _ (by simp)) (Ev.now _)

/-! type_95 -/
theorem rd_T95_pre (pre : List (S95)) (x : S95) (rest : List (S95)) : rd_T95 (pre ++ x :: rest) (pre.length : Int) = x := getD_pre pre x rest z95

/-! chain -/
def lastFrom (t : Int) : Nat → Int → List (S95) → Int
  | _, acc, [] => acc
  | n, acc, x :: r => lastFrom t (n + 1) (if x.f0 = t then (n : Int) else acc) r
/-- The place of the last hand of a thing, or -1. -/
def lastIx (l : List (S95)) (t : Int) : Int := lastFrom t 0 (-1) l
theorem lastFrom_snoc (t : Int) (y : S95) : ∀ (l : List (S95)) (n : Nat) (acc : Int), lastFrom t n acc (l ++ [y]) = if y.f0 = t then ((n + l.length : Nat) : Int) else lastFrom t n acc l
  | [], n, acc => by simp [lastFrom]
  | x :: l, n, acc => by
    simp only [List.cons_append, lastFrom, lastFrom_snoc t y l (n + 1), List.length_cons]
    rw [show n + 1 + l.length = n + (l.length + 1) by omega]
theorem lastIx_snoc (l : List (S95)) (y : S95) (t : Int) : lastIx (l ++ [y]) t = if y.f0 = t then (l.length : Int) else lastIx l t := by
  simp only [lastIx, lastFrom_snoc, Nat.zero_add]
theorem lastIx_nil (t : Int) : lastIx [] t = -1 := rfl
theorem lastFrom_bounds (t : Int) : ∀ (l : List (S95)) (n : Nat) (acc : Int), -1 ≤ acc → acc < (n : Int) → -1 ≤ lastFrom t n acc l ∧ lastFrom t n acc l < ((n + l.length : Nat) : Int)
  | [], n, acc, h0, h1 => by simp only [lastFrom, List.length_nil]; omega
  | x :: l, n, acc, h0, h1 => by
    simp only [lastFrom, List.length_cons]
    have := lastFrom_bounds t l (n + 1) (if x.f0 = t then (n : Int) else acc) (by split <;> omega) (by split <;> omega)
    omega
theorem lastIx_bounds (l : List (S95)) (t : Int) : -1 ≤ lastIx l t ∧ lastIx l t < (l.length : Int) := by
  have := lastFrom_bounds t l 0 (-1) (by omega) (by omega)
  unfold lastIx
  omega
def hdFits (x : S95) : Bool := inr x.f0 1 999 && (inr x.f1 1 5 && (inr x.f2 0 999 && inr x.f3 0 100000))
def hdEarly (pre : List (S95)) (x : S95) : Bool := match pre.getLast? with | none => false | some y => decide (x.f3 < y.f3)
def hdStep (pre : List (S95)) (x : S95) : Bool := if lastIx pre x.f0 < 0 then decide (x.f1 ≤ 2) else !decide (x.f1 = 1) && decide ((rd_T95 pre (lastIx pre x.f0)).f1 ≤ 2)
def hseal (s : Int) (x : S95) : Int := ghash [s, x.f0, x.f1, x.f2, x.f3]
def chainOk : Int → List (S95) → List (S95) → Bool
  | _, _, [] => true
  | s, pre, x :: rest => hdFits x && (decide (x.f4 = hseal s x) && (!hdEarly pre x && (hdStep pre x && chainOk x.f4 (pre ++ [x]) rest)))
def isChain (l : List (S95)) : Bool := decide (l.length ≤ 100) && chainOk 0 [] l
theorem rd_T_app {pre rest : List (S95)} {i : Int} (h0 : 0 ≤ i) (h1 : i < (pre.length : Int)) : rd_T95 (pre ++ rest) i = rd_T95 pre i := by
  unfold rd_T95
  exact getD_app _ _ _ (by omega) _

/-! impl_lastHand -/
theorem impl_lastHand_ev (l : List (S95)) (t : Int) (h : l.length ≤ 1099511627776) : Ev (fun k => impl_lastHand.f k l t) (lastIx l t) := by
  have key : ∀ n : Nat, n ≤ l.length → Ev (fun k => impl_lastHand.l0 k l t ((n : Int) - 1)) (lastIx (l.take n) t) := by
    intro n
    induction n with
    | zero =>
      intro _
      refine ev_succ ?_
      simp only [impl_lastHand.l0, if_neg (show ¬ ((0 : Nat) : Int) - 1 ≥ 0 by omega)]
      exact ev_const (by simp [lastIx, lastFrom])
    | succ n ih =>
      intro hn
      have e1 : ((n + 1 : Nat) : Int) - 1 = (n : Int) := by omega
      rw [e1]
      have e2 : l.take (n + 1) = l.take n ++ [l[n]] := by rw [List.take_succ_eq_append_getElem (by omega)]
      have hr : rd_T95 l (n : Int) = l[n] := by
        unfold rd_T95
        rw [List.getD_eq_getElem?_getD, show ((n : Int)).toNat = n by omega, List.getElem?_eq_getElem (by omega)]
        rfl
      rw [e2, lastIx_snoc, List.length_take, Nat.min_eq_left (by omega)]
      refine ev_succ ?_
      simp only [impl_lastHand.l0, if_pos (show (n : Int) ≥ 0 by omega), if_pos (show 0 ≤ (n : Int) by omega), if_pos (show (n : Int) < (l.length : Int) by omega), hr]
      by_cases hx : l[n].f0 = t
      · simp only [if_pos hx]
        exact Ev.now _
      · simp only [if_neg hx, w64 (x := (n : Int) - 1) (by omega) (by omega)]
        exact ih (by omega)
  have := key l.length (Nat.le_refl _)
  rw [List.take_length] at this
  unfold impl_lastHand.f
  rw [w64 (by omega) (by omega)]
  exact this

/-! impl_IsChain -/
theorem impl_IsChain_j1_true (l : List (S95)) (n i j a b c d e : Int) : Ev (fun k => impl_IsChain.j1 k l i l n j true a b c d e) false := by
  refine ev_succ ?_
  simp only [impl_IsChain.j1, if_true]
  exact Ev.now _
theorem impl_IsChain_j1_false {l pre rest : List (S95)} {x : S95} (e : l = pre ++ x :: rest) (hl : l.length ≤ 1099511627776) (R : Bool) (ih : Ev (fun k => impl_IsChain.l0 k l x.f4 l (l.length : Int) (wrap64 ((pre.length : Int) + 1))) R) :
    Ev (fun k => impl_IsChain.j1 k l (pre.length : Int) l (l.length : Int) (pre.length : Int) false x.f0 x.f1 x.f2 x.f3 x.f4) (hdStep pre x && R) := by
  have hb := lastIx_bounds pre x.f0
  have hlen : l.length = pre.length + (rest.length + 1) := by rw [e, len_pre]
  have ht : l.take ((pre.length : Int)).toNat = pre := by rw [e]; simp
  refine ev_succ ?_
  simp only [impl_IsChain.j1, Bool.false_eq_true, if_false, if_pos (ge0 pre.length), if_pos (show (pre.length : Int) ≤ (l.length : Int) by omega), ht]
  refine Ev.bind (impl_lastHand_ev pre x.f0 (by omega)) ?_
  by_cases h2 : lastIx pre x.f0 < 0
  · by_cases h3 : x.f1 > 2
    · simp only [if_pos h2, if_pos h3]
      exact ev_const (by simp [hdStep, h2, show ¬ x.f1 ≤ 2 by omega])
    · simp only [if_pos h2, if_neg h3]
      exact ev_map ih (by simp [hdStep, h2, show x.f1 ≤ 2 by omega])
  · by_cases h3 : x.f1 = 1
    · simp only [if_neg h2, if_pos h3]
      exact ev_const (by simp [hdStep, h2, h3])
    · have hr : rd_T95 l (lastIx pre x.f0) = rd_T95 pre (lastIx pre x.f0) := by rw [e, rd_T_app (by omega) hb.2]
      simp only [if_neg h2, if_neg h3, if_pos (show 0 ≤ lastIx pre x.f0 by omega), if_pos (show lastIx pre x.f0 < (l.length : Int) by omega), hr]
      by_cases h4 : (rd_T95 pre (lastIx pre x.f0)).f1 > 2
      · simp only [if_pos h4]
        exact ev_const (by simp [hdStep, h2, show ¬ (rd_T95 pre (lastIx pre x.f0)).f1 ≤ 2 by omega])
      · simp only [if_neg h4]
        exact ev_map ih (by simp [hdStep, h2, h3, show (rd_T95 pre (lastIx pre x.f0)).f1 ≤ 2 by omega])
theorem impl_IsChain_ev (l : List (S95)) (hl : l.length ≤ 1099511627776) : Ev (fun k => impl_IsChain.f k l) (isChain l) := by
  unfold impl_IsChain.f isChain
  by_cases hb : (l.length : Int) > 100
  · simp only [if_pos hb]
    exact ev_const (by simp; omega)
  · simp only [if_neg hb, show decide (l.length ≤ 100) = true from decide_eq_true (by omega), Bool.true_and]
    refine ev_range l (fun k (s : Int × List (S95)) i => impl_IsChain.l0 k l s.1 l (l.length : Int) i) (fun s r => chainOk s.1 s.2 r) (fun p s => s.2 = p) (by omega) ?_ ?_ (0, []) rfl
    · rintro ⟨s, p⟩ _
      simp only [impl_IsChain.l0, if_neg (Int.lt_irrefl _)]
      exact ev_const (by simp [chainOk])
    · rintro pre x rest ⟨s, p⟩ e hlt hget rfl ih
      have hr : rd_T95 l (p.length : Int) = x := hget _
      have ih' := ih (x.f4, p ++ [x]) rfl
      have hs : ghash [s, x.f0, x.f1, x.f2, x.f3] = hseal s x := rfl
      have hsl : ∀ E : Bool, E = false → Ev (fun k => (impl_HandSeal.f k s x.f0 x.f1 x.f2 x.f3 x.f4).bind fun t => (impl_IsChain.j1 k l (p.length : Int) l (l.length : Int) (p.length : Int) (x.f4 != t) x.f0 x.f1 x.f2 x.f3 x.f4)) (decide (x.f4 = hseal s x) && (!E && (hdStep p x && chainOk x.f4 (p ++ [x]) rest))) := by
        rintro E rfl
        refine Ev.bind (impl_HandSeal_ev s x.f0 x.f1 x.f2 x.f3 x.f4) ?_
        rw [hs]
        by_cases h5 : x.f4 = hseal s x
        · rw [show (x.f4 != hseal s x) = false from bne_eq_false_iff_eq.2 h5]
          exact ev_map (impl_IsChain_j1_false e hl _ ih') (by simp [h5])
        · rw [show (x.f4 != hseal s x) = true from bne_iff_ne.2 h5]
          exact ev_map (impl_IsChain_j1_true _ _ _ _ _ _ _ _ _) (by simp [h5])
      simp only [impl_IsChain.l0, if_pos hlt, if_pos (ge0 p.length), hr, impl_InRange_eq, Option.bind_some, chainOk, hdFits]
      cases h1 : inr x.f0 1 999 with
      | false => exact impl_IsChain_j1_true _ _ _ _ _ _ _ _ _
      | true =>
        cases h2 : inr x.f1 1 5 with
        | false => exact impl_IsChain_j1_true _ _ _ _ _ _ _ _ _
        | true =>
          cases h3 : inr x.f2 0 999 with
          | false => exact impl_IsChain_j1_true _ _ _ _ _ _ _ _ _
          | true =>
            cases h4 : inr x.f3 0 100000 with
            | false => exact impl_IsChain_j1_true _ _ _ _ _ _ _ _ _
            | true =>
              simp only [if_true, Bool.true_and]
              rcases prev_cases e (by omega) with ⟨hp, hn⟩ | ⟨y, hy, h6, h7, h8, h9⟩
              · simp only [if_neg hn]
                exact hsl _ (by simp [hdEarly, show p = [] from hp])
              · have hr9 : rd_T95 l (wrap64 ((p.length : Int) - 1)) = y := h9 _
                simp only [if_pos h6, if_pos h7, if_pos h8, hr9]
                by_cases h10 : x.f3 < y.f3
                · simp only [if_pos h10]
                  exact ev_map (impl_IsChain_j1_true _ _ _ _ _ _ _ _ _) (by simp [hdEarly, show p.getLast? = some y from hy, h10])
                · simp only [if_neg h10]
                  exact hsl _ (by simp [hdEarly, show p.getLast? = some y from hy, h10])

/-! put -/
/-- x goes into an ascending list, once. -/
def put (n : Int) : List Int → List Int
  | [] => [n]
  | x :: l => if x < n then x :: put n l else if x = n then x :: l else n :: x :: l
def asc (l : List Int) : Prop := l.Pairwise (fun a b => a < b)
theorem put_len (n : Int) : ∀ l : List Int, (put n l).length ≤ l.length + 1
  | [] => by simp [put]
  | x :: l => by
    have := put_len n l
    unfold put
    split
    · simp only [List.length_cons]; omega
    split
    · simp
    · simp
theorem mem_put (n z : Int) : ∀ l : List Int, z ∈ put n l ↔ z = n ∨ z ∈ l
  | [] => by simp [put]
  | x :: l => by
    have ih := mem_put n z l
    unfold put
    split
    · simp only [List.mem_cons, ih]
      constructor
      · rintro (h | h | h)
        · exact .inr (.inl h)
        · exact .inl h
        · exact .inr (.inr h)
      · rintro (h | h | h)
        · exact .inr (.inl h)
        · exact .inl h
        · exact .inr (.inr h)
    split
    · rename_i h
      subst h
      simp only [List.mem_cons]
      constructor
      · exact .inr
      · rintro (h | h | h)
        · exact .inl h
        · exact .inl h
        · exact .inr h
    · simp only [List.mem_cons]
theorem put_asc (n : Int) : ∀ l : List Int, asc l → asc (put n l)
  | [], _ => by simp [put, asc]
  | x :: l, h => by
    obtain ⟨h1, h2⟩ := List.pairwise_cons.1 h
    have ih := put_asc n l h2
    unfold put
    split
    · rename_i hx
      refine List.pairwise_cons.2 ⟨fun z hz => ?_, ih⟩
      rcases (mem_put n z l).1 hz with rfl | hz
      · exact hx
      · exact h1 z hz
    split
    · exact h
    · rename_i hx hn
      refine List.pairwise_cons.2 ⟨fun z hz => ?_, h⟩
      rcases List.mem_cons.1 hz with rfl | hz
      · omega
      · have := h1 z hz
        omega
theorem asc_ext : ∀ (l l' : List Int), asc l → asc l' → (∀ z, z ∈ l ↔ z ∈ l') → l = l'
  | [], [], _, _, _ => rfl
  | [], y :: l', _, _, h => by
    have := (h y).2 (by simp)
    simp at this
  | x :: l, [], _, _, h => by
    have := (h x).1 (by simp)
    simp at this
  | x :: l, y :: l', h1, h2, h => by
    obtain ⟨a1, a2⟩ := List.pairwise_cons.1 h1
    obtain ⟨b1, b2⟩ := List.pairwise_cons.1 h2
    have e : x = y := by
      rcases List.mem_cons.1 ((h x).1 (by simp)) with e | e
      · exact e
      rcases List.mem_cons.1 ((h y).2 (by simp)) with e' | e'
      · exact e'.symm
      have := a1 y e'
      have := b1 x e
      omega
    subst e
    rw [asc_ext l l' a2 b2 (fun z => ?_)]
    constructor
    · intro hz
      rcases List.mem_cons.1 ((h z).1 (List.mem_cons_of_mem _ hz)) with e | e
      · have := a1 z hz
        omega
      · exact e
    · intro hz
      rcases List.mem_cons.1 ((h z).2 (List.mem_cons_of_mem _ hz)) with e | e
      · have := b1 z hz
        omega
      · exact e
def puts (s l : List Int) : List Int := l.foldl (fun s x => put x s) s
theorem puts_asc : ∀ (l s : List Int), asc s → asc (puts s l)
  | [], s, h => h
  | x :: l, s, h => puts_asc l (put x s) (put_asc x s h)
theorem mem_puts (z : Int) : ∀ (l s : List Int), z ∈ puts s l ↔ z ∈ s ∨ z ∈ l
  | [], s => by simp [puts]
  | x :: l, s => by
    have ih := mem_puts z l (put x s)
    have e : puts s (x :: l) = puts (put x s) l := rfl
    rw [e, ih, mem_put, List.mem_cons]
    constructor
    · rintro ((h | h) | h)
      · exact .inr (.inl h)
      · exact .inl h
      · exact .inr (.inr h)
    · rintro (h | h | h)
      · exact .inl (.inr h)
      · exact .inl (.inl h)
      · exact .inr h
theorem puts_len : ∀ (l s : List Int), (puts s l).length ≤ s.length + l.length
  | [], s => by simp [puts]
  | x :: l, s => by
    have := puts_len l (put x s)
    have h := put_len x s
    have e : puts s (x :: l) = puts (put x s) l := rfl
    rw [e, List.length_cons]
    omega
theorem asc_nil : asc [] := List.Pairwise.nil
def msort (l : List Int) : List Int := l.mergeSort fun x y => decide (x ≤ y)
theorem msort_len (l : List Int) : (msort l).length = l.length := List.length_mergeSort l
theorem mem_msort (z : Int) (l : List Int) : z ∈ msort l ↔ z ∈ l := List.mem_mergeSort
theorem msort_le (l : List Int) : (msort l).Pairwise (fun a b => a ≤ b) := by
  have := List.pairwise_mergeSort (le := fun x y : Int => decide (x ≤ y)) (fun a b c h1 h2 => by simp at h1 h2 ⊢; omega) (fun a b => by simp; omega) l
  exact this.imp (fun h => by simpa using h)
theorem msort_asc (l : List Int) (h : l.Nodup) : asc (msort l) := by
  have h1 := msort_le l
  have h2 : (msort l).Nodup := (List.mergeSort_perm l _).nodup_iff.2 h
  exact (h1.and h2).imp (fun ⟨a, b⟩ => by omega)

/-! inHouse -/
/-- The things whose last hand is in the house. -/
def hereFrom (l : List (S95)) (h : Int) : Nat → List (S95) → List Int
  | _, [] => []
  | n, x :: r => if x.f1 = 2 ∧ x.f2 = h ∧ lastIx l x.f0 = (n : Int) then x.f0 :: hereFrom l h (n + 1) r else hereFrom l h (n + 1) r
def hereStep (l : List (S95)) (h : Int) (s : List Int) (x : S95) : List Int := if (rd_T95 l (lastIx l x.f0)).f1 = 2 ∧ (rd_T95 l (lastIx l x.f0)).f2 = h then put x.f0 s else s
def inHouse (l : List (S95)) (h : Int) : List Int := if isChain l = true then msort (hereFrom l h 0 l) else []
theorem hereFrom_len (l : List (S95)) (h : Int) : ∀ (r : List (S95)) (n : Nat), (hereFrom l h n r).length ≤ r.length
  | [], n => by simp [hereFrom]
  | x :: r, n => by
    have := hereFrom_len l h r (n + 1)
    unfold hereFrom
    split
    · simp only [List.length_cons]; omega
    · simp only [List.length_cons]; omega
theorem inHouse_len (l : List (S95)) (h : Int) : (inHouse l h).length ≤ l.length := by
  unfold inHouse
  split
  · rw [msort_len]; exact hereFrom_len l h l 0
  · simp
theorem hereFrom_mem (l : List (S95)) (h z : Int) : ∀ (r : List (S95)) (n : Nat), z ∈ hereFrom l h n r ↔ ∃ i x, r[i]? = some x ∧ x.f0 = z ∧ x.f1 = 2 ∧ x.f2 = h ∧ lastIx l z = ((n + i : Nat) : Int)
  | [], n => by simp [hereFrom]
  | y :: r, n => by
    have ih := hereFrom_mem l h z r (n + 1)
    have key : (∃ i x, (y :: r)[i]? = some x ∧ x.f0 = z ∧ x.f1 = 2 ∧ x.f2 = h ∧ lastIx l z = ((n + i : Nat) : Int)) ↔ (y.f0 = z ∧ y.f1 = 2 ∧ y.f2 = h ∧ lastIx l z = (n : Int)) ∨ ∃ i x, r[i]? = some x ∧ x.f0 = z ∧ x.f1 = 2 ∧ x.f2 = h ∧ lastIx l z = ((n + 1 + i : Nat) : Int) := by
      constructor
      · rintro ⟨i, x, h1, h2⟩
        cases i with
        | zero =>
          have : y = x := by simpa using h1
          subst this
          exact .inl (by simpa using h2)
        | succ i => exact .inr ⟨i, x, by simpa using h1, by rw [show n + 1 + i = n + (i + 1) by omega]; exact h2⟩
      · rintro (h1 | ⟨i, x, h1, h2⟩)
        · exact ⟨0, y, rfl, by simpa using h1⟩
        · exact ⟨i + 1, x, by simpa using h1, by rw [show n + (i + 1) = n + 1 + i by omega]; exact h2⟩
    rw [key]
    unfold hereFrom
    split
    · rename_i hc
      rw [List.mem_cons, ih]
      constructor
      · rintro (rfl | h2)
        · exact .inl ⟨rfl, hc⟩
        · exact .inr h2
      · rintro (⟨rfl, _⟩ | h2)
        · exact .inl rfl
        · exact .inr h2
    · rename_i hc
      rw [ih]
      constructor
      · exact .inr
      · rintro (⟨rfl, h2⟩ | h2)
        · exact absurd h2 hc
        · exact h2
theorem hereFrom_nodup (l : List (S95)) (h : Int) : ∀ (r : List (S95)) (n : Nat), (hereFrom l h n r).Nodup
  | [], n => by simp [hereFrom]
  | y :: r, n => by
    have ih := hereFrom_nodup l h r (n + 1)
    unfold hereFrom
    split
    · rename_i hc
      refine List.nodup_cons.2 ⟨fun hm => ?_, ih⟩
      obtain ⟨i, x, _, _, _, _, h3⟩ := (hereFrom_mem l h y.f0 r (n + 1)).1 hm
      have := hc.2.2
      omega
    · exact ih
theorem lastIx_of : ∀ (n : Nat) (l : List (S95)), l.length = n → ∀ x ∈ l, 0 ≤ lastIx l x.f0 ∧ lastIx l x.f0 < (l.length : Int) ∧ (rd_T95 l (lastIx l x.f0)).f0 = x.f0
  | 0, l, hl, x, hx => by
    rw [List.length_eq_zero_iff.1 hl] at hx
    simp at hx
  | n + 1, l, hl, x, hx => by
    rcases List.eq_nil_or_concat l with rfl | ⟨p, y, hp⟩
    · simp at hx
    rw [List.concat_eq_append] at hp
    subst hp
    have hpl : p.length = n := by simpa using hl
    rw [lastIx_snoc]
    by_cases hy : y.f0 = x.f0
    · rw [if_pos hy]
      refine ⟨by omega, by rw [List.length_append, List.length_singleton]; omega, ?_⟩
      have : rd_T95 (p ++ [y]) (p.length : Int) = y := getD_pre p y [] _
      rw [this]
      exact hy
    · rw [if_neg hy]
      have hxp : x ∈ p := by
        rcases List.mem_append.1 hx with h | h
        · exact h
        · rw [List.mem_singleton.1 h] at hy
          exact absurd rfl hy
      obtain ⟨h1, h2, h3⟩ := lastIx_of n p hpl x hxp
      refine ⟨h1, by simp; omega, ?_⟩
      rw [rd_T_app h1 h2]
      exact h3
theorem getElem_rd (l : List (S95)) (i : Int) (h0 : 0 ≤ i) (h1 : i < (l.length : Int)) : l[i.toNat]? = some (rd_T95 l i) := by
  unfold rd_T95
  rw [List.getD_eq_getElem?_getD, List.getElem?_eq_getElem (by omega)]
  rfl
theorem rd_of_getElem (l : List (S95)) (i : Nat) (x : S95) (h : l[i]? = some x) : rd_T95 l (i : Int) = x := by
  unfold rd_T95
  rw [List.getD_eq_getElem?_getD, show ((i : Int)).toNat = i by omega, h]
  rfl
theorem here_mem (l : List (S95)) (h z : Int) : z ∈ hereFrom l h 0 l ↔ ∃ x ∈ l, x.f0 = z ∧ (rd_T95 l (lastIx l z)).f1 = 2 ∧ (rd_T95 l (lastIx l z)).f2 = h := by
  rw [hereFrom_mem]
  constructor
  · rintro ⟨i, x, h1, rfl, h2, h3, h4⟩
    rw [Nat.zero_add] at h4
    exact ⟨x, List.mem_of_getElem? h1, rfl, by rw [h4, rd_of_getElem l i x h1]; exact ⟨h2, h3⟩⟩
  · rintro ⟨x, hx, rfl, h2, h3⟩
    obtain ⟨h4, h5, h6⟩ := lastIx_of _ l rfl x hx
    exact ⟨(lastIx l x.f0).toNat, _, getElem_rd l _ h4 h5, h6, h2, h3, by omega⟩
theorem step_asc (l : List (S95)) (h : Int) : ∀ (r : List (S95)) (s : List Int), asc s → asc (r.foldl (hereStep l h) s)
  | [], s, hs => hs
  | x :: r, s, hs => by
    rw [List.foldl_cons]
    refine step_asc l h r _ ?_
    unfold hereStep
    split
    · exact put_asc _ _ hs
    · exact hs
theorem step_mem (l : List (S95)) (h z : Int) : ∀ (r : List (S95)) (s : List Int), z ∈ r.foldl (hereStep l h) s ↔ z ∈ s ∨ ∃ x ∈ r, x.f0 = z ∧ (rd_T95 l (lastIx l z)).f1 = 2 ∧ (rd_T95 l (lastIx l z)).f2 = h
  | [], s => by simp
  | x :: r, s => by
    rw [List.foldl_cons, step_mem l h z r]
    simp only [List.mem_cons, exists_eq_or_imp]
    rw [← or_assoc]
    refine or_congr ?_ Iff.rfl
    unfold hereStep
    split
    · rename_i hc
      rw [mem_put]
      constructor
      · rintro (rfl | h1)
        · exact .inr ⟨rfl, hc⟩
        · exact .inl h1
      · rintro (h1 | ⟨rfl, _⟩)
        · exact .inr h1
        · exact .inl rfl
    · rename_i hc
      constructor
      · exact .inl
      · rintro (h1 | ⟨rfl, h2⟩)
        · exact h1
        · exact absurd h2 hc
theorem step_len (l : List (S95)) (h : Int) (s : List Int) (x : S95) : (hereStep l h s x).length ≤ s.length + 1 := by
  unfold hereStep
  split
  · exact put_len _ _
  · omega
theorem here_eq (l : List (S95)) (h : Int) : l.foldl (hereStep l h) [] = msort (hereFrom l h 0 l) := by
  refine asc_ext _ _ (step_asc l h l [] asc_nil) (msort_asc _ (hereFrom_nodup l h l 0)) (fun z => ?_)
  rw [mem_msort, step_mem, here_mem]
  simp

/-! impl_InHouse -/
theorem impl_InHouse_ev (l : List (S95)) (h : Int) (hl : l.length ≤ 1099511627776) : Ev (fun k => impl_InHouse.f k l h) (inHouse l h) := by
  unfold inHouse impl_InHouse.f
  simp only [Option.bind_some]
  refine Ev.bind (impl_IsChain_ev l hl) ?_
  cases hc : isChain l with
  | false => exact Ev.now _
  | true =>
    simp only [if_true]
    refine ev_map (ev_range l (fun k (s : List Int × Nat) i => impl_InHouse.l0 k l h s.1 l (l.length : Int) i) (fun s r => msort (s.1 ++ hereFrom l h s.2 r)) (fun p s => s.2 = p.length ∧ s.1.length ≤ p.length) (by omega) ?_ ?_ ([], 0) ⟨rfl, by simp⟩) (by simp)
    · rintro ⟨a, n⟩ ⟨_, ha⟩
      have ha' : a.length ≤ l.length := ha
      simp only [impl_InHouse.l0, if_neg (Int.lt_irrefl _), slices_Sort.f, if_pos (show a.length < 4611686018427387904 by omega), Option.bind_some]
      exact ev_const (by simp [hereFrom, msort])
    · rintro pre x rest ⟨a, n⟩ e hlt hget ⟨hn, ha⟩ ih
      have hn' : n = pre.length := hn
      have ha' : a.length ≤ pre.length := ha
      subst hn'
      have hr : rd_T95 l (pre.length : Int) = x := hget _
      simp only [impl_InHouse.l0, if_pos hlt, if_pos (ge0 pre.length), hr]
      by_cases h1 : x.f1 = 2
      · by_cases h2 : x.f2 = h
        · simp only [if_pos h1, if_pos h2]
          refine Ev.bind (impl_lastHand_ev l x.f0 hl) ?_
          by_cases h3 : lastIx l x.f0 = (pre.length : Int)
          · simp only [if_pos h3, if_pos (show a.length < 17592186044416 by omega)]
            exact ev_map (ih (a ++ [x.f0], pre.length + 1) ⟨by simp, by simp; omega⟩) (by simp [hereFrom, h1, h2, h3])
          · simp only [if_neg h3]
            exact ev_map (ih (a, pre.length + 1) ⟨by simp, by simp; omega⟩) (by simp [hereFrom, h3])
        · simp only [if_pos h1, if_neg h2]
          exact ev_map (ih (a, pre.length + 1) ⟨by simp, by simp; omega⟩) (by simp [hereFrom, h2])
      · simp only [if_neg h1]
        exact ev_map (ih (a, pre.length + 1) ⟨by simp, by simp; omega⟩) (by simp [hereFrom, h1])

/-! cursor -/
theorem i64_and255 (n : Int) : bits .and .i64 n 255 = n % 256 := by
  have h255 : (BitVec.ofInt 64 255).toNat = 2 ^ 8 - 1 := by decide
  have key : (BitVec.ofInt 64 n &&& BitVec.ofInt 64 255).toNat = (n % ((2 ^ 64 : Nat) : Int)).toNat % 2 ^ 8 := by
    rw [BitVec.toNat_and, BitVec.toNat_ofInt, h255, Nat.and_two_pow_sub_one_eq_mod]
  show IntKind.i64.wrap ((BitVec.ofInt 64 n &&& BitVec.ofInt 64 255).toNat : Nat) = n % 256
  rw [key, IntKind.wrap_i64]
  omega
/-- A cursor over the bytes b stands at place i. -/
def Cur (b : List Int) (i : Int) : Prop := b.length ≤ 1048576 ∧ 0 ≤ i ∧ i ≤ (b.length : Int)

/-! spec_l1New -/
theorem l1New_tot (b : List Int) (hl : b.length ≤ 1048576) : ∃ h, Ev (fun k => spec_l1New.f k b) (b, 0, h) := by
  have key : ∀ (d i : Nat) (h : Int), i + d = b.length → ∃ h', Ev (fun k => spec_l1New.l0 k b h (i : Int)) (b, 0, h') := by
    intro d
    induction d with
    | zero =>
      intro i h hi
      refine ⟨h, ev_succ ?_⟩
      simp only [spec_l1New.l0, if_neg (show ¬ (i : Int) < (b.length : Int) by omega)]
      exact Ev.now _
    | succ d ih =>
      intro i h hi
      by_cases h4 : (i : Int) < 4000
      · obtain ⟨h', e⟩ := ih (i + 1) (bits .and .i64 (wrap64 (wrap64 (wrap64 (h * 137) + wrap64 (rd b i)) + 11)) 1073741823) (by omega)
        refine ⟨h', ev_succ ?_⟩
        simp only [spec_l1New.l0, if_pos (show (i : Int) < (b.length : Int) by omega), if_pos h4, if_pos (ge0 i), wsucc (show i < 9223372036854775807 by omega)]
        exact e
      · refine ⟨h, ev_succ ?_⟩
        simp only [spec_l1New.l0, if_pos (show (i : Int) < (b.length : Int) by omega), if_neg h4]
        exact Ev.now _
  exact key b.length 0 _ (by omega)
theorem cur0 (b : List Int) (hl : b.length ≤ 1048576) : Cur b 0 := ⟨hl, by omega, by omega⟩

/-! spec_l1Byte -/
theorem l1Byte_tot (b : List Int) (i h : Int) (hc : Cur b i) : ∃ x i' h', spec_l1Byte.f b i h = some (x, i', h') ∧ 0 ≤ x ∧ x < 256 ∧ Cur b i' := by
  obtain ⟨h1, h2, h3⟩ := hc
  unfold spec_l1Byte.f
  by_cases hi : i < (b.length : Int)
  · rw [if_pos hi, if_pos h2]
    refine ⟨_, _, _, rfl, ?_, ?_, h1, ?_⟩
    · rw [i64_and255 (wrap64 _)]
      omega
    · rw [i64_and255 (wrap64 _)]
      omega
    · rw [w64 (by omega) (by omega)]
      omega
  · rw [if_neg hi]
    refine ⟨_, _, _, rfl, ?_, ?_, h1, h2, h3⟩
    · rw [i64_and255]
      omega
    · rw [i64_and255]
      omega

/-! spec_l1Below -/
theorem l1Below_tot (b : List Int) (i h n : Int) (hc : Cur b i) : ∃ x i' h', spec_l1Below.f b i h n = some (x, i', h') ∧ 0 ≤ x ∧ (0 < n → x < n) ∧ Cur b i' := by
  unfold spec_l1Below.f
  by_cases hn : n ≤ 0
  · rw [if_pos hn]
    exact ⟨_, _, _, rfl, by omega, fun h => by omega, hc⟩
  · rw [if_neg hn]
    by_cases h256 : n ≤ 256
    · rw [if_pos h256]
      obtain ⟨x, i1, h1, e1, hx0, hx1, c1⟩ := l1Byte_tot b i h hc
      simp only [e1, Option.bind_some, if_neg (show ¬ n = 0 by omega)]
      exact ⟨_, _, _, rfl, Int.tmod_nonneg _ hx0, fun h => Int.tmod_lt_of_pos _ h, c1⟩
    · rw [if_neg h256]
      obtain ⟨x, i1, h1, e1, hx0, hx1, c1⟩ := l1Byte_tot b i h hc
      obtain ⟨y, i2, h2, e2, hy0, hy1, c2⟩ := l1Byte_tot b i1 h1 c1
      obtain ⟨z, i3, h3, e3, hz0, hz1, c3⟩ := l1Byte_tot b i2 h2 c2
      simp only [e1, e2, e3, Option.bind_some, if_neg (show ¬ n = 0 by omega)]
      refine ⟨_, _, _, rfl, Int.tmod_nonneg _ ?_, fun h => Int.tmod_lt_of_pos _ h, c3⟩
      rw [w64 (x := x * 65536) (by omega) (by omega), w64 (x := y * 256) (by omega) (by omega), w64 (x := x * 65536 + y * 256) (by omega) (by omega), w64 (by omega) (by omega)]
      omega

/-! spec_l1Int -/
theorem l1Int_tot (b : List Int) (i h : Int) (l : List Int) (hl : 0 < l.length) (hc : Cur b i) : ∃ x i' h', spec_l1Int.f b i h l = some (x, i', h') ∧ x ∈ l ∧ Cur b i' := by
  obtain ⟨x, i1, h1, e1, hx0, hx1, c1⟩ := l1Below_tot b i h (l.length : Int) hc
  have hx := hx1 (by omega)
  unfold spec_l1Int.f
  simp only [e1, Option.bind_some, if_pos hx0, if_pos hx]
  refine ⟨_, _, _, rfl, ?_, c1⟩
  unfold rd
  rw [List.getD_eq_getElem?_getD, List.getElem?_eq_getElem (by omega)]
  exact List.getElem_mem _

/-! spec_l4Raw -/
theorem l4Raw_tot (b : List Int) (i h : Int) (hc : Cur b i) : ∃ x i' h', spec_l4Raw.f b i h = some (x, i', h') ∧ Cur b i' := by
  obtain ⟨x, i1, h1, e1, _, c1⟩ := l1Int_tot b i h [(-1), 0, 8, 50, 51, 1000, 9223372036854775807, (-9223372036854775808)] (by decide) hc
  unfold spec_l4Raw.f
  simp only [e1, Option.bind_some]
  exact ⟨_, _, _, rfl, c1⟩

/-! spec_l1In -/
theorem spec_l1In_eq (a b c : Int) : spec_l1In.f a b c = some (inr a b c) := by
  unfold spec_l1In.f inr
  by_cases h : b ≤ a <;> simp [h]

/-! spec_l16Last -/
theorem spec_l16Last_ev (p q : List (S95)) (t : Int) (h : (p ++ q).length ≤ 1099511627776) : Ev (fun k => spec_l16Last.f k (p ++ q) t (p.length : Int)) (lastIx p t) := by
  have hlen : (p ++ q).length = p.length + q.length := List.length_append
  refine ev_range p (fun k (s : Int × Nat) i => spec_l16Last.l0 k (p ++ q) t (p.length : Int) s.1 i) (fun s r => lastFrom t s.2 s.1 r) (fun pre s => s.2 = pre.length) (by omega) ?_ ?_ (-1, 0) rfl
  · rintro ⟨a, n⟩ _
    simp only [spec_l16Last.l0, if_neg (Int.lt_irrefl _)]
    exact Ev.now _
  · rintro pre x rest ⟨a, n⟩ e hlt hget rfl ih
    have hr : rd_T95 (p ++ q) (pre.length : Int) = x := by
      rw [rd_T_app (by omega) hlt]
      exact hget _
    simp only [spec_l16Last.l0, if_pos hlt, if_pos (ge0 pre.length), if_pos (show (pre.length : Int) < ((p ++ q).length : Int) by omega), hr]
    by_cases hx : x.f0 = t
    · simp only [if_pos hx]
      exact ev_map (ih ((pre.length : Int), pre.length + 1) (by simp)) (by simp [lastFrom, hx])
    · simp only [if_neg hx]
      exact ev_map (ih (a, pre.length + 1) (by simp)) (by simp [lastFrom, hx])

/-! spec_Mod -/
theorem spec_Mod_eq (a : Int) : spec_Mod.f a 2147483647 = some (a % 2147483647) := by
  simp only [spec_Mod.f, spec_l1In_eq, Option.bind_some]
  rw [if_pos (by decide), if_neg (by decide), mod_up]

/-! spec_Hash -/
theorem spec_Hash_loop (rest : List Int) : ∀ (pre : List Int) (acc : Int), (pre ++ rest).length < 9223372036854775807 → Ev (fun k => spec_Hash.l0 k (pre ++ rest) acc (pre.length : Int)) (rest.foldl hstep acc) := by
  induction rest with
  | nil =>
    intro pre acc h
    refine ev_succ ?_
    simp only [spec_Hash.l0, if_neg (nlt_pre pre)]
    exact Ev.now _
  | cons x rest ih =>
    intro pre acc h
    have hl := len_pre pre x rest
    refine ev_succ ?_
    simp only [spec_Hash.l0, if_pos (lt_pre pre x rest), if_pos (ge0 pre.length), rd_pre, spec_Mod_eq, Option.bind_some, wsucc (show pre.length < 9223372036854775807 by omega)]
    rw [snoc_len pre x]
    have := ih (pre ++ [x]) (hstep acc x) (by rw [← app_pre]; exact h)
    rw [← app_pre] at this
    exact this
theorem spec_Hash_ev (l : List Int) (h : l.length < 9223372036854775807) : Ev (fun k => spec_Hash.f k l) (ghash l) := spec_Hash_loop l [] 11 h

/-! spec_HandSeal -/
theorem spec_HandSeal_ev (a b c d e f : Int) : Ev (fun k => spec_HandSeal.f k a b c d e f) (ghash [a, b, c, d, e]) := by
  simp only [spec_HandSeal.f]
  exact Ev.bind (spec_Hash_ev _ (by simp)) (Ev.now _)

/-! spec_IsChain -/
theorem spec_IsChain_j2_true (l : List (S95)) (s i a b c d e : Int) : Ev (fun k => spec_IsChain.j2 k l s i true a b c d e) false := by
  refine ev_succ ?_
  simp only [spec_IsChain.j2, if_true]
  exact Ev.now _
theorem spec_IsChain_j2_false {l pre rest : List (S95)} {x : S95} {s : Int} (e : l = pre ++ x :: rest) (hl : l.length ≤ 1099511627776) (R : Bool) (ih : Ev (fun k => spec_IsChain.l0 k l s (wrap64 ((pre.length : Int) + 1))) R) :
    Ev (fun k => spec_IsChain.j2 k l s (pre.length : Int) false x.f0 x.f1 x.f2 x.f3 x.f4) (hdStep pre x && R) := by
  have hb := lastIx_bounds pre x.f0
  have hlen : l.length = pre.length + (rest.length + 1) := by rw [e, len_pre]
  refine ev_succ ?_
  simp only [spec_IsChain.j2, Bool.false_eq_true, if_false]
  have h1 := spec_l16Last_ev pre (x :: rest) x.f0 (by rw [← e]; exact hl)
  rw [← e] at h1
  refine Ev.bind h1 ?_
  by_cases h2 : lastIx pre x.f0 < 0
  · by_cases h3 : x.f1 > 2
    · simp only [if_pos h2, if_pos h3]
      exact ev_const (by simp [hdStep, h2, show ¬ x.f1 ≤ 2 by omega])
    · simp only [if_pos h2, if_neg h3, if_neg (show ¬ lastIx pre x.f0 ≥ 0 by omega)]
      exact ev_map ih (by simp [hdStep, h2, show x.f1 ≤ 2 by omega])
  · by_cases h3 : x.f1 = 1
    · simp only [if_neg h2, if_pos (show lastIx pre x.f0 ≥ 0 by omega), if_pos h3]
      exact ev_const (by simp [hdStep, h2, h3])
    · have hr : rd_T95 l (lastIx pre x.f0) = rd_T95 pre (lastIx pre x.f0) := by rw [e, rd_T_app (by omega) hb.2]
      simp only [if_neg h2, if_pos (show lastIx pre x.f0 ≥ 0 by omega), if_neg h3, if_pos (show 0 ≤ lastIx pre x.f0 by omega), if_pos (show lastIx pre x.f0 < (l.length : Int) by omega), hr]
      by_cases h4 : (rd_T95 pre (lastIx pre x.f0)).f1 ≥ 3
      · simp only [if_pos h4]
        exact ev_const (by simp [hdStep, h2, show ¬ (rd_T95 pre (lastIx pre x.f0)).f1 ≤ 2 by omega])
      · simp only [if_neg h4]
        exact ev_map ih (by simp [hdStep, h2, h3, show (rd_T95 pre (lastIx pre x.f0)).f1 ≤ 2 by omega])
theorem spec_IsChain_ev (l : List (S95)) (hl : l.length ≤ 1099511627776) : Ev (fun k => spec_IsChain.f k l) (isChain l) := by
  by_cases hb : (l.length : Int) ≤ 100
  · refine ev_map (ev_range l (fun k (s : Int × List (S95)) i => spec_IsChain.l0 k l s.1 i) (fun s r => chainOk s.1 s.2 r) (fun p s => s.2 = p) (by omega) ?_ ?_ (0, []) rfl) (by simp [isChain, show l.length ≤ 100 by omega])
    · rintro ⟨s, p⟩ _
      simp only [spec_IsChain.l0, if_neg (Int.lt_irrefl _)]
      refine ev_succ ?_
      simp only [spec_IsChain.j1, Bool.false_eq_true, if_false]
      exact ev_const (by simp [chainOk]; omega)
    · rintro pre x rest ⟨s, p⟩ e hlt hget rfl ih
      have hr : rd_T95 l (p.length : Int) = x := hget _
      simp only [spec_IsChain.l0, if_pos hlt, decide_eq_true hb]
      refine ev_succ ?_
      simp only [spec_IsChain.j1, if_true, if_pos (ge0 p.length), if_pos hlt, hr]
      refine Ev.bind (spec_HandSeal_ev s x.f0 x.f1 x.f2 x.f3 x.f4) ?_
      have hs : ghash [s, x.f0, x.f1, x.f2, x.f3] = hseal s x := rfl
      simp only [spec_l1In_eq, Option.bind_some, chainOk, hdFits, hs]
      cases h1 : inr x.f0 1 999 with
      | false => exact spec_IsChain_j2_true _ _ _ _ _ _ _ _
      | true =>
        cases h2 : inr x.f1 1 5 with
        | false => exact spec_IsChain_j2_true _ _ _ _ _ _ _ _
        | true =>
          cases h3 : inr x.f2 0 999 with
          | false => exact spec_IsChain_j2_true _ _ _ _ _ _ _ _
          | true =>
            cases h4 : inr x.f3 0 100000 with
            | false => exact spec_IsChain_j2_true _ _ _ _ _ _ _ _
            | true =>
              by_cases h5 : x.f4 = hseal s x
              · have ih' := ih (hseal s x, p ++ [x]) rfl
                simp only [if_true, Bool.true_and, if_pos h5, decide_eq_true h5]
                rcases prev_cases e (by omega) with ⟨hp, hn⟩ | ⟨y, hy, h6, h7, h8, h9⟩
                · simp only [if_neg hn]
                  exact ev_map (spec_IsChain_j2_false e hl _ ih') (by simp [hdEarly, show p = [] from hp, h5])
                · have hr9 : rd_T95 l (wrap64 ((p.length : Int) - 1)) = y := h9 _
                  simp only [if_pos h6, if_pos h7, if_pos h8, hr9]
                  by_cases h10 : y.f3 > x.f3
                  · simp only [decide_eq_true h10]
                    exact ev_map (spec_IsChain_j2_true _ _ _ _ _ _ _ _) (by simp [hdEarly, show p.getLast? = some y from hy, show x.f3 < y.f3 from h10])
                  · simp only [decide_eq_false h10]
                    exact ev_map (spec_IsChain_j2_false e hl _ ih') (by simp [hdEarly, show p.getLast? = some y from hy, show ¬ x.f3 < y.f3 from h10, h5])
              · simp only [if_true, if_neg h5]
                exact ev_map (spec_IsChain_j2_true _ _ _ _ _ _ _ _) (by simp [h5])
  · unfold spec_IsChain.f
    refine ev_succ ?_
    simp only [spec_IsChain.l0, if_pos (show (0 : Int) < (l.length : Int) by omega), decide_eq_false hb]
    refine ev_succ ?_
    simp only [spec_IsChain.j1, Bool.false_eq_true, if_false, decide_eq_false hb]
    exact ev_const (by simp [isChain, show ¬ l.length ≤ 100 by omega])

/-! addHand -/
def lastSeal (l : List (S95)) : Int := match l.getLast? with | none => 0 | some y => y.f4
def withHand (s : Int) (l : List (S95)) (a b c d : Int) : List (S95) := l ++ [⟨a, b, c, d, ghash [s, a, b, c, d]⟩]
def addHand (l : List (S95)) (a b c d : Int) : List (S95) × Bool := if isChain (withHand (lastSeal l) l a b c d) = true then (withHand (lastSeal l) l a b c d, true) else (l, false)
theorem addHand_len (l : List (S95)) (a b c d : Int) : (addHand l a b c d).1.length ≤ l.length + 1 := by
  unfold addHand withHand
  split <;> simp
theorem last_cases (l : List (S95)) (hl : l.length < 9223372036854775807) : (l = [] ∧ ¬ (l.length : Int) > 0) ∨ ∃ y, l.getLast? = some y ∧ (l.length : Int) > 0 ∧ 0 ≤ wrap64 ((l.length : Int) - 1) ∧ wrap64 ((l.length : Int) - 1) < (l.length : Int) ∧ rd_T95 l (wrap64 ((l.length : Int) - 1)) = y := by
  by_cases h0 : l = []
  · exact .inl ⟨h0, by simp [h0]⟩
  · have hp : 0 < l.length := List.length_pos_iff.2 h0
    right
    refine ⟨l[l.length - 1], ?_, by omega, ?_⟩
    · rw [List.getLast?_eq_getElem?, List.getElem?_eq_getElem]
    · rw [w64 (by omega) (by omega)]
      refine ⟨by omega, by omega, ?_⟩
      unfold rd_T95
      rw [List.getD_eq_getElem?_getD, show ((l.length : Int) - 1).toNat = l.length - 1 by omega, List.getElem?_eq_getElem (by omega)]
      rfl

/-! spec_AddHand -/
theorem spec_AddHand_j0 (l : List (S95)) (s a b c d e : Int) (hl : l.length ≤ 1099511627775) : Ev (fun k => spec_AddHand.j0 k l s a b c d e) (if isChain (withHand s l a b c d) = true then (withHand s l a b c d, true) else (l, false)) := by
  refine ev_succ ?_
  simp only [spec_AddHand.j0]
  refine Ev.bind (spec_HandSeal_ev s a b c d e) ?_
  simp only [Option.bind_some, List.length_nil, List.nil_append, Nat.zero_add, if_pos (show l.length < 3518437208883 by omega), List.length_singleton, if_pos (show l.length + 1 < 3518437208883 by omega)]
  refine Ev.bind (spec_IsChain_ev (withHand s l a b c d) (by simp [withHand]; omega)) ?_
  cases h : isChain (withHand s l a b c d) <;> exact Ev.now _
theorem spec_AddHand_ev (l : List (S95)) (a b c d e : Int) (hl : l.length ≤ 1099511627775) : Ev (fun k => spec_AddHand.f k l a b c d e) (addHand l a b c d) := by
  unfold spec_AddHand.f addHand lastSeal
  rcases last_cases l (by omega) with ⟨rfl, h⟩ | ⟨y, hy, h1, h2, h3, h4⟩
  · simp only [if_neg h]
    exact spec_AddHand_j0 [] 0 a b c d e hl
  · simp only [if_pos h1, if_pos h2, if_pos h3, h4, hy]
    exact spec_AddHand_j0 l y.f4 a b c d e hl

/-! spec_l16Draw -/
theorem l16One_tot (b : List Int) (i h t : Int) (hc : Cur b i) : ∃ x y z i' h', spec_l16One.f b i h t = some (x, y, z, t, 0, i', h') ∧ Cur b i' := by
  obtain ⟨x, i1, h1, e1, _, _, c1⟩ := l1Below_tot b i h 4 hc
  obtain ⟨y, i2, h2, e2, _, c2⟩ := l1Int_tot b i1 h1 [1, 1, 2, 2, 2, 3, 4, 5] (by decide) c1
  obtain ⟨z, i3, h3, e3, _, _, c3⟩ := l1Below_tot b i2 h2 3 c2
  refine ⟨wrap64 (2 * wrap64 (1 + x)), y, wrap64 (1 + z), i3, h3, ?_, c3⟩
  unfold spec_l16One.f
  simp only [e1, e2, e3, Option.bind_some]
theorem l16Draw_tot (b : List Int) (i h : Int) (hc : Cur b i) : ∃ l i' h', Ev (fun k => spec_l16Draw.f k b i h) (l, i', h') ∧ l.length ≤ 12 ∧ Cur b i' := by
  have key : ∀ (m : Nat) (l : List (S95)) (t i h : Int), l.length + m ≤ 12 → Cur b i → ∃ l' i' h', Ev (fun k => spec_l16Draw.l0 k l t (m : Int) b i h) (l', i', h') ∧ l'.length ≤ 12 ∧ Cur b i' := by
    intro m
    induction m with
    | zero =>
      intro l t i h hl hc
      refine ⟨l, i, h, ev_succ ?_, by omega, hc⟩
      simp only [spec_l16Draw.l0, Int.natCast_zero, gt_iff_lt, Int.lt_irrefl, if_false]
      exact Ev.now _
    | succ m ih =>
      intro l t i h hl hc
      obtain ⟨x, y, z, i1, h1, e1, c1⟩ := l16One_tot b i h t hc
      obtain ⟨d, i2, h2, e2, _, _, c2⟩ := l1Below_tot b i1 h1 9 c1
      have hlen := addHand_len l x y z t
      obtain ⟨l', i', h', e, hl', c'⟩ := ih (addHand l x y z t).1 (wrap64 (t + d)) i2 h2 (by omega) c2
      refine ⟨l', i', h', ev_succ ?_, hl', c'⟩
      simp only [spec_l16Draw.l0, e1, Option.bind_some, if_pos (show ((m + 1 : Nat) : Int) > 0 by omega)]
      refine Ev.bind (spec_AddHand_ev l x y z t 0 (by omega)) ?_
      simp only [e2, Option.bind_some, w64 (x := ((m + 1 : Nat) : Int) - 1) (by omega) (by omega), show ((m + 1 : Nat) : Int) - 1 = (m : Int) by omega, w64 (x := (m : Int)) (by omega) (by omega)]
      exact e
  obtain ⟨n, i1, h1, e1, hn0, hn, c1⟩ := l1Below_tot b i h 12 hc
  have hn := hn (by omega)
  obtain ⟨l, i', h', e, hl, c'⟩ := key n.toNat [] 0 i1 h1 (by simp; omega) c1
  refine ⟨l, i', h', ?_, hl, c'⟩
  unfold spec_l16Draw.f
  simp only [e1, Option.bind_some]
  rw [show ((n.toNat : Nat) : Int) = n by omega] at e
  exact e

/-! spec_l16Any -/
theorem l16Any_tot (b : List Int) (i h : Int) (hc : Cur b i) : ∃ l i' h', Ev (fun k => spec_l16Any.f k b i h) (l, i', h') ∧ l.length ≤ 12 ∧ Cur b i' := by
  obtain ⟨l, i1, h1, e1, hl, c1⟩ := l16Draw_tot b i h hc
  unfold spec_l16Any.f
  by_cases h0 : (l.length : Int) = 0
  · refine ⟨l, i1, h1, Ev.bind e1 ?_, hl, c1⟩
    simp only [if_pos h0]
    exact Ev.now _
  obtain ⟨p, i2, h2, e2, hp0, hp1, c2⟩ := l1Below_tot b i1 h1 (l.length : Int) c1
  have hp := hp1 (by omega)
  obtain ⟨a, i3, h3, e3, _, _, c3⟩ := l1Below_tot b i2 h2 12 c2
  by_cases q0 : a = 0
  · refine ⟨l.set p.toNat ⟨wrap64 ((rd_T95 l p).f0 + 1), (rd_T95 l p).f1, (rd_T95 l p).f2, (rd_T95 l p).f3, (rd_T95 l p).f4⟩, i3, h3, Ev.bind e1 ?_, by rw [List.length_set]; exact hl, c3⟩
    simp only [if_neg h0, e2, e3, Option.bind_some, if_pos q0, if_pos hp0, if_pos hp]
    exact Ev.now _
  by_cases q1 : a = 1
  · obtain ⟨z, i4, h4, e4, _, c4⟩ := l1Int_tot b i3 h3 [0, 5, 6] (by decide) c3
    refine ⟨l.set p.toNat ⟨(rd_T95 l p).f0, z, (rd_T95 l p).f2, (rd_T95 l p).f3, (rd_T95 l p).f4⟩, i4, h4, Ev.bind e1 ?_, by rw [List.length_set]; exact hl, c4⟩
    simp only [if_neg h0, e2, e3, e4, Option.bind_some, if_neg q0, if_pos q1, if_pos hp0, if_pos hp]
    exact Ev.now _
  by_cases q2 : a = 2
  · obtain ⟨z, i4, h4, e4, c4⟩ := l4Raw_tot b i3 h3 c3
    refine ⟨l.set p.toNat ⟨(rd_T95 l p).f0, (rd_T95 l p).f1, z, (rd_T95 l p).f3, (rd_T95 l p).f4⟩, i4, h4, Ev.bind e1 ?_, by rw [List.length_set]; exact hl, c4⟩
    simp only [if_neg h0, e2, e3, e4, Option.bind_some, if_neg q0, if_neg q1, if_pos q2, if_pos hp0, if_pos hp]
    exact Ev.now _
  by_cases q3 : a = 3
  · obtain ⟨z, i4, h4, e4, _, c4⟩ := l1Int_tot b i3 h3 [(-1), 100000, 100001] (by decide) c3
    refine ⟨l.set p.toNat ⟨(rd_T95 l p).f0, (rd_T95 l p).f1, (rd_T95 l p).f2, z, (rd_T95 l p).f4⟩, i4, h4, Ev.bind e1 ?_, by rw [List.length_set]; exact hl, c4⟩
    simp only [if_neg h0, e2, e3, e4, Option.bind_some, if_neg q0, if_neg q1, if_neg q2, if_pos q3, if_pos hp0, if_pos hp]
    exact Ev.now _
  by_cases q4 : a = 4
  · refine ⟨l.set p.toNat ⟨(rd_T95 l p).f0, (rd_T95 l p).f1, (rd_T95 l p).f2, (rd_T95 l p).f3, wrap64 ((rd_T95 l p).f4 + 1)⟩, i3, h3, Ev.bind e1 ?_, by rw [List.length_set]; exact hl, c3⟩
    simp only [if_neg h0, e2, e3, Option.bind_some, if_neg q0, if_neg q1, if_neg q2, if_neg q3, if_pos q4, if_pos hp0, if_pos hp]
    exact Ev.now _
  · refine ⟨l, i3, h3, Ev.bind e1 ?_, hl, c3⟩
    simp only [if_neg h0, e2, e3, Option.bind_some, if_neg q0, if_neg q1, if_neg q2, if_neg q3, if_neg q4]
    exact Ev.now _

/-! clone:impl.Hand -/
theorem clone_Hand_eq (l : List (S95)) (h : l.length < 3518437208883) : impl_Hand.f l = some l := by
  unfold impl_Hand.f
  simp only [Option.bind_some, List.length_nil, List.nil_append, Nat.zero_add, if_pos h]

/-! impl_AddHand -/
theorem impl_AddHand_j0 (l : List (S95)) (s a b c d e : Int) (hl : l.length ≤ 1099511627775) : Ev (fun k => impl_AddHand.j0 k l s a b c d e) (if isChain (withHand s l a b c d) = true then (withHand s l a b c d, true) else (l, false)) := by
  refine ev_succ ?_
  simp only [impl_AddHand.j0]
  refine Ev.bind (impl_HandSeal_ev s a b c d e) ?_
  simp only [clone_Hand_eq l (by omega), Option.bind_some, List.length_nil, List.nil_append, Nat.zero_add, if_pos (show l.length < 3518437208883 by omega), List.length_singleton, if_pos (show l.length + 1 < 3518437208883 by omega)]
  refine Ev.bind (impl_IsChain_ev (withHand s l a b c d) (by simp [withHand]; omega)) ?_
  cases h : isChain (withHand s l a b c d) <;> exact Ev.now _
theorem impl_AddHand_ev (l : List (S95)) (a b c d e : Int) (hl : l.length ≤ 1099511627775) : Ev (fun k => impl_AddHand.f k l a b c d e) (addHand l a b c d) := by
  unfold impl_AddHand.f addHand lastSeal
  rcases last_cases l (by omega) with ⟨rfl, h⟩ | ⟨y, hy, h1, h2, h3, h4⟩
  · simp only [if_neg h]
    exact impl_AddHand_j0 [] 0 a b c d e hl
  · simp only [if_pos h1, if_pos h2, if_pos h3, h4, hy]
    exact impl_AddHand_j0 l y.f4 a b c d e hl

/-! holderAt -/
def holdFold (l : List (S95)) (t h : Int) : Int × Int := l.foldl (fun r x => if x.f0 = t ∧ x.f3 ≤ h then (x.f1, x.f2) else r) (0, 0)
def holderAt (l : List (S95)) (t h : Int) : Int × Int := if isChain l = true then holdFold l t h else (0, 0)

/-! impl_HolderAt -/
theorem impl_HolderAt_ev (l : List (S95)) (t h : Int) (hl : l.length ≤ 1099511627776) : Ev (fun k => impl_HolderAt.f k l t h) (holderAt l t h) := by
  have key : ∀ n : Nat, n ≤ l.length → Ev (fun k => impl_HolderAt.l0 k l t h ((n : Int) - 1)) (holdFold (l.take n) t h) := by
    intro n
    induction n with
    | zero =>
      intro _
      refine ev_succ ?_
      simp only [impl_HolderAt.l0, if_neg (show ¬ ((0 : Nat) : Int) - 1 ≥ 0 by omega)]
      exact Ev.now _
    | succ n ih =>
      intro hn
      have e1 : ((n + 1 : Nat) : Int) - 1 = (n : Int) := by omega
      rw [e1]
      have e2 : l.take (n + 1) = l.take n ++ [l[n]] := by rw [List.take_succ_eq_append_getElem (by omega)]
      have hr : rd_T95 l (n : Int) = l[n] := by
        unfold rd_T95
        rw [List.getD_eq_getElem?_getD, show ((n : Int)).toNat = n by omega, List.getElem?_eq_getElem (by omega)]
        rfl
      have e3 : holdFold (l.take (n + 1)) t h = if l[n].f0 = t ∧ l[n].f3 ≤ h then (l[n].f1, l[n].f2) else holdFold (l.take n) t h := by
        rw [e2]
        simp only [holdFold, List.foldl_append, List.foldl_cons, List.foldl_nil]
      rw [e3]
      refine ev_succ ?_
      simp only [impl_HolderAt.l0, if_pos (show (n : Int) ≥ 0 by omega), if_pos (show 0 ≤ (n : Int) by omega), if_pos (show (n : Int) < (l.length : Int) by omega), hr, w64 (x := (n : Int) - 1) (by omega) (by omega)]
      by_cases h1 : l[n].f0 = t
      · by_cases h2 : l[n].f3 ≤ h
        · simp only [if_pos h1, if_pos h2]
          exact ev_const (by rw [if_pos ⟨h1, h2⟩])
        · simp only [if_pos h1, if_neg h2]
          exact ev_map (ih (by omega)) (by rw [if_neg (fun hh => h2 hh.2)])
      · simp only [if_neg h1]
        exact ev_map (ih (by omega)) (by rw [if_neg (fun hh => h1 hh.1)])
  unfold impl_HolderAt.f holderAt
  refine Ev.bind (impl_IsChain_ev l hl) ?_
  cases hc : isChain l with
  | false => exact Ev.now _
  | true =>
    have := key l.length (Nat.le_refl _)
    rw [List.take_length] at this
    simp only [if_true]
    rw [w64 (by omega) (by omega)]
    exact this

/-! handsOf -/
def handsOf (l : List (S95)) (a : Int) : List (S95) := l.filter (fun x => decide (x.f0 = a))
theorem handsOf_len (l : List (S95)) (a : Int) : (handsOf l a).length ≤ l.length := List.length_filter_le _ _

/-! impl_HandsOf -/
theorem impl_HandsOf_ev (l : List (S95)) (a : Int) (h : l.length ≤ 1099511627776) : Ev (fun k => impl_HandsOf.f k l a) (handsOf l a) := by
  refine ev_map (ev_range l (fun k (s : List (S95)) i => impl_HandsOf.l0 k a s l (l.length : Int) i) (fun s r => s ++ handsOf r a) (fun p s => s.length ≤ p.length) (by omega) ?_ ?_ [] (Nat.le_refl _)) (by simp)
  · intro s _
    simp only [impl_HandsOf.l0, if_neg (Int.lt_irrefl _)]
    exact ev_const (by simp [handsOf])
  · intro pre x rest s _ hlt hget hs ih
    have hr : rd_T95 l (pre.length : Int) = x := hget _
    have hx : (⟨x.f0, x.f1, x.f2, x.f3, x.f4⟩ : S95) = x := rfl
    have hs' : s.length ≤ pre.length := hs
    simp only [impl_HandsOf.l0, if_pos hlt, if_pos (ge0 pre.length), hr, hx, if_pos (show s.length < 3518437208883 by omega)]
    by_cases h0 : x.f0 = a
    · simp only [if_pos h0]
      exact ev_map (ih _ (by simp; omega)) (by simp [handsOf, h0])
    · simp only [if_neg h0]
      exact ev_map (ih s (by simp; omega)) (by simp [handsOf, h0])

/-! spec_DrawHands -/
theorem DrawAddHand_tot (b : List Int) (hl : b.length ≤ 1048576) : ∃ l x y z t, Ev (fun k => spec_DrawAddHand.f k b) (l, x, y, z, t, 0) ∧ l.length ≤ 12 := by
  obtain ⟨h0, e0⟩ := l1New_tot b hl
  obtain ⟨l, i1, h1, e1, hl1, c1⟩ := l16Any_tot b 0 h0 (cur0 b hl)
  obtain ⟨n, i2, h2, e2, _, _, c2⟩ := l1Below_tot b i1 h1 60 c1
  obtain ⟨x, y, z, i3, h3, e3, _⟩ := l16One_tot b i2 h2 (wrap64 (20 + n)) c2
  refine ⟨l, x, y, z, wrap64 (20 + n), ?_, hl1⟩
  unfold spec_DrawAddHand.f
  refine Ev.bind e0 ?_
  refine Ev.bind e1 ?_
  simp only [e2, e3, Option.bind_some]
  exact Ev.now _
theorem DrawHolderAt_tot (b : List Int) (hl : b.length ≤ 1048576) : ∃ l t h, Ev (fun k => spec_DrawHolderAt.f k b) (l, t, h) ∧ l.length ≤ 12 := by
  obtain ⟨h0, e0⟩ := l1New_tot b hl
  obtain ⟨l, i1, h1, e1, hl1, c1⟩ := l16Any_tot b 0 h0 (cur0 b hl)
  obtain ⟨n, i2, h2, e2, _, _, c2⟩ := l1Below_tot b i1 h1 6 c1
  obtain ⟨m, i3, h3, e3, _, _, c3⟩ := l1Below_tot b i2 h2 70 c2
  refine ⟨l, wrap64 (2 * n), wrap64 (m - 1), ?_, hl1⟩
  unfold spec_DrawHolderAt.f
  refine Ev.bind e0 ?_
  refine Ev.bind e1 ?_
  simp only [e2, e3, Option.bind_some]
  exact Ev.now _
theorem DrawInHouse_tot (b : List Int) (hl : b.length ≤ 1048576) : ∃ l h, Ev (fun k => spec_DrawInHouse.f k b) (l, h) ∧ l.length ≤ 12 := by
  obtain ⟨h0, e0⟩ := l1New_tot b hl
  obtain ⟨l, i1, h1, e1, hl1, c1⟩ := l16Any_tot b 0 h0 (cur0 b hl)
  obtain ⟨n, i2, h2, e2, _, _, c2⟩ := l1Below_tot b i1 h1 5 c1
  refine ⟨l, n, ?_, hl1⟩
  unfold spec_DrawInHouse.f
  refine Ev.bind e0 ?_
  refine Ev.bind e1 ?_
  simp only [e2, Option.bind_some]
  exact Ev.now _

/-! the law -/
theorem fold_snoc (l : List (S95)) (y : S95) (t h : Int) : holdFold (l ++ [y]) t h = if y.f0 = t ∧ y.f3 ≤ h then (y.f1, y.f2) else holdFold l t h := by
  unfold holdFold
  rw [List.foldl_append]
  rfl
theorem fold_none (t h : Int) : ∀ (l : List (S95)) (r : Int × Int), (∀ x ∈ l, x.f0 ≠ t) → l.foldl (fun r x => if x.f0 = t ∧ x.f3 ≤ h then (x.f1, x.f2) else r) r = r
  | [], r, _ => rfl
  | x :: l, r, hn => by
    rw [List.foldl_cons, if_neg (fun q => hn x (by simp) q.1)]
    exact fold_none t h l r (fun y hy => hn y (by simp [hy]))
theorem fold_last (t h : Int) : ∀ (n : Nat) (l : List (S95)), l.length = n → (∀ x ∈ l, x.f3 ≤ h) → (∃ x ∈ l, x.f0 = t) → holdFold l t h = ((rd_T95 l (lastIx l t)).f1, (rd_T95 l (lastIx l t)).f2)
  | 0, l, hl, _, ⟨x, hx, _⟩ => by
    rw [List.length_eq_zero_iff.1 hl] at hx
    simp at hx
  | n + 1, l, hl, ha, ⟨x, hx, ht⟩ => by
    rcases List.eq_nil_or_concat l with rfl | ⟨p, y, hp⟩
    · simp at hx
    rw [List.concat_eq_append] at hp
    subst hp
    have hpl : p.length = n := by simpa using hl
    rw [fold_snoc, lastIx_snoc]
    have hy3 : y.f3 ≤ h := ha y (by simp)
    by_cases hy : y.f0 = t
    · rw [if_pos ⟨hy, hy3⟩, if_pos hy, show rd_T95 (p ++ [y]) (p.length : Int) = y from getD_pre p y [] _]
    · rw [if_neg (fun q => hy q.1), if_neg hy]
      have hxp : x ∈ p := by
        rcases List.mem_append.1 hx with h | h
        · exact h
        · rw [List.mem_singleton.1 h] at ht
          exact absurd ht hy
      obtain ⟨b0, b1, _⟩ := lastIx_of _ p rfl x hxp
      rw [ht] at b0 b1
      rw [rd_T_app b0 b1]
      exact fold_last t h n p hpl (fun z hz => ha z (by simp [hz])) ⟨x, hxp, ht⟩
theorem chain_fits : ∀ (l : List (S95)) (s : Int) (pre : List (S95)), chainOk s pre l = true → ∀ x ∈ l, hdFits x = true
  | [], _, _, _, x, hx => by simp at hx
  | y :: l, s, pre, h, x, hx => by
    simp only [chainOk, Bool.and_eq_true] at h
    rcases List.mem_cons.1 hx with q | hx
    · rw [q]; exact h.1
    · exact chain_fits l _ _ h.2.2.2.2 x hx
theorem chain_last (w : S95) : ∀ (l : List (S95)) (s : Int) (pre : List (S95)), chainOk s pre (l ++ [w]) = true → hdStep (pre ++ l) w = true
  | [], s, pre, h => by
    simp only [List.nil_append, chainOk, Bool.and_eq_true] at h
    rw [List.append_nil]
    exact h.2.2.2.1
  | y :: l, s, pre, h => by
    simp only [List.cons_append, chainOk, Bool.and_eq_true] at h
    have := chain_last w l _ _ h.2.2.2.2
    rw [List.append_assoc] at this
    exact this
theorem add_no_more (l : List (S95)) (z : S95) (h : Int) (hz : z.f1 ≥ 3) : (addHand (l ++ [z]) z.f0 2 1 h).2 = false := by
  unfold addHand
  split
  · rename_i hc
    exfalso
    unfold isChain withHand at hc
    rw [Bool.and_eq_true] at hc
    have := chain_last _ _ _ _ hc.2
    unfold hdStep at this
    rw [List.nil_append, lastIx_snoc, if_pos rfl, if_neg (show ¬ (l.length : Int) < 0 by omega), show rd_T95 (l ++ [z]) (l.length : Int) = z from getD_pre l z [] _, Bool.and_eq_true, decide_eq_true_eq] at this
    omega
  · rfl
theorem asc_at : ∀ (l : List Int) (i : Nat) (h : i + 1 < l.length), asc l → l[i] < l[i + 1]
  | [], i, h, _ => by simp at h
  | [x], i, h, _ => by simp at h
  | x :: y :: l, 0, _, ha => (List.pairwise_cons.1 ha).1 y (by simp)
  | x :: y :: l, i + 1, h, ha => asc_at (y :: l) i (by simpa using h) (List.pairwise_cons.1 ha).2
theorem laws_ascends_true (l : List Int) (hl : l.length ≤ 1099511627776) (ha : asc l) : Ev (fun k => laws_ascends.f k l) true := by
  have rdi : ∀ i : Nat, (h : i < l.length) → rd l (i : Int) = l[i] := fun i h => by
    unfold rd
    rw [List.getD_eq_getElem?_getD, Int.toNat_natCast, List.getElem?_eq_getElem h]; rfl
  have key : ∀ (m i : Nat), l.length ≤ i + 1 + m → Ev (fun k => laws_ascends.l0 k l ((i + 1 : Nat) : Int)) true := by
    intro m
    induction m with
    | zero =>
      intro i h
      refine ev_succ ?_
      simp only [laws_ascends.l0, if_neg (show ¬ ((i + 1 : Nat) : Int) < (l.length : Int) by omega)]
      exact Ev.now _
    | succ m ih =>
      intro i h
      refine ev_succ ?_
      by_cases h1 : ((i + 1 : Nat) : Int) < (l.length : Int)
      · have h2 := asc_at l i (by omega) ha
        simp only [laws_ascends.l0, if_pos h1, w64 (x := ((i + 1 : Nat) : Int) - 1) (by omega) (by omega), show ((i + 1 : Nat) : Int) - 1 = (i : Int) by omega, w64 (x := (i : Int)) (by omega) (by omega), show ((i + 1 : Nat) : Int) + 1 = ((i + 1 + 1 : Nat) : Int) by omega, if_pos (show (0 : Int) ≤ (i : Int) by omega), if_pos (show (i : Int) < (l.length : Int) by omega), if_pos (show (0 : Int) ≤ ((i + 1 : Nat) : Int) by omega), rdi i (by omega), rdi (i + 1) (by omega), if_neg (show ¬ l[i] ≥ l[i + 1] by omega), w64 (x := ((i + 1 + 1 : Nat) : Int)) (by omega) (by omega)]
        exact ih (i + 1) (by omega)
      · simp only [laws_ascends.l0, if_neg h1]
        exact Ev.now _
  exact key l.length 0 (by omega)
theorem inHouse_asc (l : List (S95)) (h : Int) : asc (inHouse l h) := by
  unfold inHouse
  split
  · exact msort_asc _ (hereFrom_nodup l h l 0)
  · exact asc_nil
theorem inHouse_holds (l : List (S95)) (h z : Int) (hz : z ∈ inHouse l h) : holderAt l z 100000 = (2, h) := by
  unfold inHouse at hz
  split at hz
  · rename_i hc
    rw [mem_msort, here_mem] at hz
    obtain ⟨x, hx, hx0, h1, h2⟩ := hz
    unfold holderAt
    rw [if_pos hc]
    unfold isChain at hc
    rw [Bool.and_eq_true] at hc
    rw [fold_last z 100000 _ l rfl (fun y hy => by
      have := chain_fits l 0 [] hc.2 y hy
      simp only [hdFits, Bool.and_eq_true, inr_iff] at this
      omega) ⟨x, hx, hx0⟩, h1, h2]
  · simp at hz
theorem cu_l0 (b : List (S95)) (h : Int) (hb : b.length ≤ 12) : Ev (fun k => laws_FnCustody.l0 k b h (inHouse b h) 0) true := by
  have hl := inHouse_len b h
  refine ev_range (inHouse b h) (fun k (_ : Unit) i => laws_FnCustody.l0 k b h (inHouse b h) i) (fun _ _ => true) (fun _ _ => True) (by omega) ?_ ?_ () trivial
  · intro _ _
    simp only [laws_FnCustody.l0, if_neg (Int.lt_irrefl _)]
    refine Ev.bind (laws_ascends_true _ (by omega) (inHouse_asc b h)) ?_
    exact Ev.now _
  · rintro pre x rest _ e hlt hget _ ih
    have hr : rd (inHouse b h) (pre.length : Int) = x := hget _
    have hx := inHouse_holds b h x (by rw [e]; simp)
    simp only [laws_FnCustody.l0, if_pos hlt, if_pos (ge0 pre.length), hr]
    refine Ev.bind (impl_HolderAt_ev b x 100000 (by omega)) ?_
    simp only [hx, if_true]
    exact ih () trivial
theorem cu_j2 (code : List Int) (hl : code.length ≤ 1048576) : Ev (fun k => laws_FnCustody.j2 k code false) true := by
  obtain ⟨b, h, e1, hb⟩ := DrawInHouse_tot code hl
  refine ev_succ ?_
  simp only [laws_FnCustody.j2, Bool.false_eq_true, if_false]
  refine Ev.bind e1 ?_
  refine Ev.bind (impl_InHouse_ev b h (by omega)) ?_
  exact cu_l0 b h hb
theorem cu_j1 (code : List Int) (hl : code.length ≤ 1048576) : Ev (fun k => laws_FnCustody.j1 k code) true := by
  obtain ⟨a, t, h, e1, ha⟩ := DrawHolderAt_tot code hl
  have hj := cu_j2 code hl
  refine ev_succ ?_
  simp only [laws_FnCustody.j1]
  refine Ev.bind e1 ?_
  refine Ev.bind (impl_HolderAt_ev a t h (by omega)) ?_
  by_cases h0 : (holderAt a t h).1 = 0
  · simp only [if_pos h0]
    exact hj
  · have hc : isChain a = true := by
      cases hq : isChain a with
      | true => rfl
      | false =>
        exfalso
        unfold holderAt at h0
        rw [hq] at h0
        exact h0 rfl
    have hn : handsOf a t ≠ [] := fun q => by
      apply h0
      unfold holderAt
      rw [if_pos hc]
      unfold holdFold
      rw [fold_none t h a (0, 0) (fun x hx hxt => by
        have : x ∈ handsOf a t := List.mem_filter.2 ⟨hx, decide_eq_true hxt⟩
        rw [q] at this
        simp at this)]
    have hp : 0 < (handsOf a t).length := List.length_pos_iff.2 hn
    simp only [if_neg h0]
    refine Ev.bind (impl_HandsOf_ev a t (by omega)) ?_
    simp only [if_neg (show ¬ ((handsOf a t).length : Int) = 0 by omega)]
    refine Ev.bind (impl_IsChain_ev a (by omega)) ?_
    simp only [hc, Bool.not_true]
    exact hj
theorem Pf.FnCustody : FnCustodyLaw := by
  intro code hm _
  refine Ev.rounds ?_
  unfold laws_FnCustody.f
  simp only [laws_big.f, Option.bind_some]
  by_cases hl' : (code.length : Int) > 1048576
  · simp only [decide_eq_true hl', if_true]
    exact Ev.now _
  have hl : code.length ≤ 1048576 := by omega
  simp only [decide_eq_false hl', Bool.false_eq_true, if_false]
  obtain ⟨l, a, b, c, d, e1, hl12⟩ := DrawAddHand_tot code hl
  have hj := cu_j1 code hl
  refine Ev.bind e1 ?_
  refine Ev.bind (impl_AddHand_ev l a b c d 0 (by omega)) ?_
  by_cases hok : isChain (withHand (lastSeal l) l a b c d) = true
  · have hA : addHand l a b c d = (withHand (lastSeal l) l a b c d, true) := if_pos hok
    simp only [hA, if_true]
    obtain ⟨z, hz⟩ : ∃ z : S95, z = ⟨a, b, c, d, ghash [lastSeal l, a, b, c, d]⟩ := ⟨_, rfl⟩
    have hy : withHand (lastSeal l) l a b c d = l ++ [z] := by rw [hz]; rfl
    rw [hy] at hok ⊢
    have hzl : (l ++ [z]).length = l.length + 1 := by simp
    have hj0 : Ev (fun k => laws_FnCustody.j0 k code (l ++ [z]) false a b c d 0) true := by
      refine ev_succ ?_
      simp only [laws_FnCustody.j0, Bool.false_eq_true, if_false]
      by_cases hb : b ≥ 3
      · simp only [if_pos hb]
        refine Ev.bind (impl_AddHand_ev (l ++ [z]) a 2 1 d 0 (by omega)) ?_
        have := add_no_more l z d (by rw [hz]; exact hb)
        rw [show z.f0 = a by rw [hz]] at this
        simp only [this, Bool.false_eq_true, if_false]
        exact hj
      · simp only [if_neg hb]
        exact hj
    refine Ev.bind (impl_HolderAt_ev (l ++ [z]) a d (by omega)) ?_
    refine Ev.bind (impl_IsChain_ev (l ++ [z]) (by omega)) ?_
    have hh : holderAt (l ++ [z]) a d = (b, c) := by
      unfold holderAt
      rw [if_pos hok, fold_snoc, if_pos (by rw [hz]; exact ⟨rfl, Int.le_refl _⟩), hz]
    have hr : rd_T95 (l ++ [z]) (l.length : Int) = z := getD_pre l z [] _
    simp only [hok, hh, hr, if_true, w64 (x := (l.length : Int) + 1) (by omega) (by omega), if_pos (show ((l ++ [z]).length : Int) = (l.length : Int) + 1 by omega), if_pos (show (0 : Int) ≤ (l.length : Int) by omega), if_pos (show (l.length : Int) < ((l ++ [z]).length : Int) by omega)]
    by_cases h4 : z.f4 = 0
    · simp only [if_pos h4]
      refine Ev.bind (impl_HandSeal_ev 0 a b c d 0) ?_
      by_cases h5 : ghash [0, a, b, c, d] = 0
      · simp only [if_pos h5]
        exact hj0
      · simp only [if_neg h5]
        have hne : ¬ (l.length : Int) = 0 := fun q => by
          have hnil : l = [] := List.length_eq_zero_iff.1 (by omega)
          rw [hz, hnil] at h4
          exact h5 h4
        rw [show ((l.length : Int) == 0) = false from beq_false_of_ne hne]
        exact hj0
    · simp only [if_neg h4]
      exact hj0
  · have hA : addHand l a b c d = (l, false) := if_neg hok
    simp only [hA, Bool.false_eq_true, if_false, if_true]
    exact hj

end Go.Proofs.Ytpkdbkheggfkkaa.PFnCustody
