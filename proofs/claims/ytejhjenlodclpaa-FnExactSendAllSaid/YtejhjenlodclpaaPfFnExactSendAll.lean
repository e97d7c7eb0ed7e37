/- The plain part of FnExactSendAll: what the printed functions come to, and that the law's answer is true. No conditions beyond those of the statement. -/
import Derived.Test.YtejhjenlodclpaaPFnExactSendAllx
import Derived.Test.YtejhjenlodclpaaBaseFnExactSendAll
import Derived.Test.YtejhjenlodclpaaDefFnExactSendAll
namespace Go.Proofs.Ytejhjenlodclpaa.PFnExactSendAll
open Go.RowKit Go.Proofs.YtejhjenlodclpaaW.PrintWords Go.Proofs.YtejhjenlodclpaaW.PrintMore Go.Proofs.Ytejhjenlodclpaa.Base
set_option linter.unusedVariables false
set_option linter.unusedSimpArgs false

/-! type_138 -/
theorem rd_T138_pre (pre : List (S138)) (x : S138) (rest : List (S138)) : rd_T138 (pre ++ x :: rest) (pre.length : Int) = x := getD_pre pre x rest z138

/-! chain -/
def lastFrom (t : Int) : Nat → Int → List (S138) → Int
  | _, acc, [] => acc
  | n, acc, x :: r => lastFrom t (n + 1) (if x.f0 = t then (n : Int) else acc) r
/-- The place of the last hand of a thing, or -1. -/
def lastIx (l : List (S138)) (t : Int) : Int := lastFrom t 0 (-1) l
theorem lastFrom_snoc (t : Int) (y : S138) : ∀ (l : List (S138)) (n : Nat) (acc : Int), lastFrom t n acc (l ++ [y]) = if y.f0 = t then ((n + l.length : Nat) : Int) else lastFrom t n acc l
  | [], n, acc => by simp [lastFrom]
  | x :: l, n, acc => by
    simp only [List.cons_append, lastFrom, lastFrom_snoc t y l (n + 1), List.length_cons]
    rw [show n + 1 + l.length = n + (l.length + 1) by omega]
theorem lastIx_snoc (l : List (S138)) (y : S138) (t : Int) : lastIx (l ++ [y]) t = if y.f0 = t then (l.length : Int) else lastIx l t := by
  simp only [lastIx, lastFrom_snoc, Nat.zero_add]
theorem lastIx_nil (t : Int) : lastIx [] t = -1 := rfl
theorem lastFrom_bounds (t : Int) : ∀ (l : List (S138)) (n : Nat) (acc : Int), -1 ≤ acc → acc < (n : Int) → -1 ≤ lastFrom t n acc l ∧ lastFrom t n acc l < ((n + l.length : Nat) : Int)
  | [], n, acc, h0, h1 => by simp only [lastFrom, List.length_nil]; omega
  | x :: l, n, acc, h0, h1 => by
    simp only [lastFrom, List.length_cons]
    have := lastFrom_bounds t l (n + 1) (if x.f0 = t then (n : Int) else acc) (by split <;> omega) (by split <;> omega)
    omega
theorem lastIx_bounds (l : List (S138)) (t : Int) : -1 ≤ lastIx l t ∧ lastIx l t < (l.length : Int) := by
  have := lastFrom_bounds t l 0 (-1) (by omega) (by omega)
  unfold lastIx
  omega
def hdFits (x : S138) : Bool := inr x.f0 1 999 && (inr x.f1 1 5 && (inr x.f2 0 999 && inr x.f3 0 100000))
def hdEarly (pre : List (S138)) (x : S138) : Bool := match pre.getLast? with | none => false | some y => decide (x.f3 < y.f3)
def hdStep (pre : List (S138)) (x : S138) : Bool := if lastIx pre x.f0 < 0 then decide (x.f1 ≤ 2) else !decide (x.f1 = 1) && decide ((rd_T138 pre (lastIx pre x.f0)).f1 ≤ 2)
def hseal (s : Int) (x : S138) : Int := ghash [s, x.f0, x.f1, x.f2, x.f3]
def chainOk : Int → List (S138) → List (S138) → Bool
  | _, _, [] => true
  | s, pre, x :: rest => hdFits x && (decide (x.f4 = hseal s x) && (!hdEarly pre x && (hdStep pre x && chainOk x.f4 (pre ++ [x]) rest)))
def isChain (l : List (S138)) : Bool := decide (l.length ≤ 100) && chainOk 0 [] l
theorem rd_T_app {pre rest : List (S138)} {i : Int} (h0 : 0 ≤ i) (h1 : i < (pre.length : Int)) : rd_T138 (pre ++ rest) i = rd_T138 pre i := by
  unfold rd_T138
  exact getD_app _ _ _ (by omega) _

/-! impl_lastHand -/
theorem impl_lastHand_ev (l : List (S138)) (t : Int) (h : l.length ≤ 1099511627776) : Ev (fun k => impl_lastHand.f k l t) (lastIx l t) := by
  have key : ∀ n : Nat, n ≤ l.length → Ev (fun k => impl_lastHand.l0 k l t ((n : Int) - 1)) (lastIx (l.take n) t) := by
    intro n
    induction n with
    | zero =>
      intro _
      refine ev_succ ?_
      simp only [impl_lastHand.l0, if_neg (show ¬ ((0 : Nat) : Int) - 1 ≥ 0 by omega)]
      exact ev_const (by simp [lastIx, lastFrom])
    | succ n ih =>
      intro hn
      have e1 : ((n + 1 : Nat) : Int) - 1 = (n : Int) := by omega
      rw [e1]
      have e2 : l.take (n + 1) = l.take n ++ [l[n]] := by rw [List.take_succ_eq_append_getElem (by omega)]
      have hr : rd_T138 l (n : Int) = l[n] := by
        unfold rd_T138
        rw [List.getD_eq_getElem?_getD, show ((n : Int)).toNat = n by omega, List.getElem?_eq_getElem (by omega)]
        rfl
      rw [e2, lastIx_snoc, List.length_take, Nat.min_eq_left (by omega)]
      refine ev_succ ?_
      simp only [impl_lastHand.l0, if_pos (show (n : Int) ≥ 0 by omega), if_pos (show 0 ≤ (n : Int) by omega), if_pos (show (n : Int) < (l.length : Int) by omega), hr]
      by_cases hx : l[n].f0 = t
      · simp only [if_pos hx]
        exact Ev.now _
      · simp only [if_neg hx, w64 (x := (n : Int) - 1) (by omega) (by omega)]
        exact ih (by omega)
  have := key l.length (Nat.le_refl _)
  rw [List.take_length] at this
  unfold impl_lastHand.f
  rw [w64 (by omega) (by omega)]
  exact this

/-! impl_InRange -/
theorem impl_InRange_eq (a b c : Int) : impl_InRange.f a b c = some (inr a b c) := by
  unfold impl_InRange.f inr
  by_cases h : b ≤ a <;> simp [h]

/-! impl_Mod -/
theorem impl_Mod_eq (a : Int) : impl_Mod.f a 2147483647 = some (a % 2147483647) := by
  simp only [impl_Mod.f, impl_InRange_eq, Option.bind_some]
  rw [if_pos (by decide), if_neg (by decide)]
  by_cases h : Int.tmod a 2147483647 < 0
  · rw [if_pos h, mod_lo a h]
  · rw [if_neg h, mod_hi a h]

/-! impl_fold -/
theorem impl_fold_eq (a v : Int) : impl_fold.f a v = some (hstep a v) := by
  simp only [impl_fold.f, impl_Mod_eq, Option.bind_some, hstep]

/-! impl_Hash -/
theorem impl_Hash_loop (rest : List Int) : ∀ (pre : List Int) (acc : Int), (pre ++ rest).length < 9223372036854775807 → Ev (fun k => impl_Hash.l0 k acc (pre ++ rest) ((pre ++ rest).length : Int) (pre.length : Int)) (rest.foldl hstep acc) := by
  induction rest with
  | nil =>
    intro pre acc h
    refine ev_succ ?_
    simp only [impl_Hash.l0, if_neg (nlt_pre pre)]
    exact Ev.now _
  | cons x rest ih =>
    intro pre acc h
    have hl := len_pre pre x rest
    refine ev_succ ?_
    simp only [impl_Hash.l0, if_pos (lt_pre pre x rest), if_pos (ge0 pre.length), rd_pre, impl_fold_eq, Option.bind_some, wsucc (show pre.length < 9223372036854775807 by omega)]
    rw [snoc_len pre x]
    have := ih (pre ++ [x]) (hstep acc x) (by rw [← app_pre]; exact h)
    rw [← app_pre] at this
    exact this
theorem impl_Hash_ev (l : List Int) (h : l.length < 9223372036854775807) : Ev (fun k => impl_Hash.f k l) (ghash l) := impl_Hash_loop l [] 11 h

/-! impl_HandSeal -/
theorem impl_HandSeal_ev (a b c d e f : Int) : Ev (fun k => impl_HandSeal.f k a b c d e f) (ghash [a, b, c, d, e]) := by
  simp only [impl_HandSeal.f]
  exact Ev.bind (impl_Hash_ev _ (by simp)) (Ev.now _)

/-! impl_IsChain -/
theorem impl_IsChain_j1_true (l : List (S138)) (n i j a b c d e : Int) : Ev (fun k => impl_IsChain.j1 k l i l n j true a b c d e) false := by
  refine ev_succ ?_
  simp only [impl_IsChain.j1, if_true]
  exact Ev.now _
theorem impl_IsChain_j1_false {l pre rest : List (S138)} {x : S138} (e : l = pre ++ x :: rest) (hl : l.length ≤ 1099511627776) (R : Bool) (ih : Ev (fun k => impl_IsChain.l0 k l x.f4 l (l.length : Int) (wrap64 ((pre.length : Int) + 1))) R) :
    Ev (fun k => impl_IsChain.j1 k l (pre.length : Int) l (l.length : Int) (pre.length : Int) false x.f0 x.f1 x.f2 x.f3 x.f4) (hdStep pre x && R) := by
  have hb := lastIx_bounds pre x.f0
  have hlen : l.length = pre.length + (rest.length + 1) := by rw [e, len_pre]
  have ht : l.take ((pre.length : Int)).toNat = pre := by rw [e]; simp
  refine ev_succ ?_
  simp only [impl_IsChain.j1, Bool.false_eq_true, if_false, if_pos (ge0 pre.length), if_pos (show (pre.length : Int) ≤ (l.length : Int) by omega), ht]
  refine Ev.bind (impl_lastHand_ev pre x.f0 (by omega)) ?_
  by_cases h2 : lastIx pre x.f0 < 0
  · by_cases h3 : x.f1 > 2
    · simp only [if_pos h2, if_pos h3]
      exact ev_const (by simp [hdStep, h2, show ¬ x.f1 ≤ 2 by omega])
    · simp only [if_pos h2, if_neg h3]
      exact ev_map ih (by simp [hdStep, h2, show x.f1 ≤ 2 by omega])
  · by_cases h3 : x.f1 = 1
    · simp only [if_neg h2, if_pos h3]
      exact ev_const (by simp [hdStep, h2, h3])
    · have hr : rd_T138 l (lastIx pre x.f0) = rd_T138 pre (lastIx pre x.f0) := by rw [e, rd_T_app (by omega) hb.2]
      simp only [if_neg h2, if_neg h3, if_pos (show 0 ≤ lastIx pre x.f0 by omega), if_pos (show lastIx pre x.f0 < (l.length : Int) by omega), hr]
      by_cases h4 : (rd_T138 pre (lastIx pre x.f0)).f1 > 2
      · simp only [if_pos h4]
        exact ev_const (by simp [hdStep, h2, show ¬ (rd_T138 pre (lastIx pre x.f0)).f1 ≤ 2 by omega])
      · simp only [if_neg h4]
        exact ev_map ih (by simp [hdStep, h2, h3, show (rd_T138 pre (lastIx pre x.f0)).f1 ≤ 2 by omega])
theorem impl_IsChain_ev (l : List (S138)) (hl : l.length ≤ 1099511627776) : Ev (fun k => impl_IsChain.f k l) (isChain l) := by
  unfold impl_IsChain.f isChain
  by_cases hb : (l.length : Int) > 100
  · simp only [if_pos hb]
    exact ev_const (by simp; omega)
  · simp only [if_neg hb, show decide (l.length ≤ 100) = true from decide_eq_true (by omega), Bool.true_and]
    refine ev_range l (fun k (s : Int × List (S138)) i => impl_IsChain.l0 k l s.1 l (l.length : Int) i) (fun s r => chainOk s.1 s.2 r) (fun p s => s.2 = p) (by omega) ?_ ?_ (0, []) rfl
    · rintro ⟨s, p⟩ _
      simp only [impl_IsChain.l0, if_neg (Int.lt_irrefl _)]
      exact ev_const (by simp [chainOk])
    · rintro pre x rest ⟨s, p⟩ e hlt hget rfl ih
      have hr : rd_T138 l (p.length : Int) = x := hget _
      have ih' := ih (x.f4, p ++ [x]) rfl
      have hs : ghash [s, x.f0, x.f1, x.f2, x.f3] = hseal s x := rfl
      have hsl : ∀ E : Bool, E = false → Ev (fun k => (impl_HandSeal.f k s x.f0 x.f1 x.f2 x.f3 x.f4).bind fun t => (impl_IsChain.j1 k l (p.length : Int) l (l.length : Int) (p.length : Int) (x.f4 != t) x.f0 x.f1 x.f2 x.f3 x.f4)) (decide (x.f4 = hseal s x) && (!E && (hdStep p x && chainOk x.f4 (p ++ [x]) rest))) := by
        rintro E rfl
        refine Ev.bind (impl_HandSeal_ev s x.f0 x.f1 x.f2 x.f3 x.f4) ?_
        rw [hs]
        by_cases h5 : x.f4 = hseal s x
        · rw [show (x.f4 != hseal s x) = false from bne_eq_false_iff_eq.2 h5]
          exact ev_map (impl_IsChain_j1_false e hl _ ih') (by simp [h5])
        · rw [show (x.f4 != hseal s x) = true from bne_iff_ne.2 h5]
          exact ev_map (impl_IsChain_j1_true _ _ _ _ _ _ _ _ _) (by simp [h5])
      simp only [impl_IsChain.l0, if_pos hlt, if_pos (ge0 p.length), hr, impl_InRange_eq, Option.bind_some, chainOk, hdFits]
      cases h1 : inr x.f0 1 999 with
      | false => exact impl_IsChain_j1_true _ _ _ _ _ _ _ _ _
      | true =>
        cases h2 : inr x.f1 1 5 with
        | false => exact impl_IsChain_j1_true _ _ _ _ _ _ _ _ _
        | true =>
          cases h3 : inr x.f2 0 999 with
          | false => exact impl_IsChain_j1_true _ _ _ _ _ _ _ _ _
          | true =>
            cases h4 : inr x.f3 0 100000 with
            | false => exact impl_IsChain_j1_true _ _ _ _ _ _ _ _ _
            | true =>
              simp only [if_true, Bool.true_and]
              rcases prev_cases e (by omega) with ⟨hp, hn⟩ | ⟨y, hy, h6, h7, h8, h9⟩
              · simp only [if_neg hn]
                exact hsl _ (by simp [hdEarly, show p = [] from hp])
              · have hr9 : rd_T138 l (wrap64 ((p.length : Int) - 1)) = y := h9 _
                simp only [if_pos h6, if_pos h7, if_pos h8, hr9]
                by_cases h10 : x.f3 < y.f3
                · simp only [if_pos h10]
                  exact ev_map (impl_IsChain_j1_true _ _ _ _ _ _ _ _ _) (by simp [hdEarly, show p.getLast? = some y from hy, h10])
                · simp only [if_neg h10]
                  exact hsl _ (by simp [hdEarly, show p.getLast? = some y from hy, h10])

/-! put -/
/-- x goes into an ascending list, once. -/
def put (n : Int) : List Int → List Int
  | [] => [n]
  | x :: l => if x < n then x :: put n l else if x = n then x :: l else n :: x :: l
def asc (l : List Int) : Prop := l.Pairwise (fun a b => a < b)
theorem put_len (n : Int) : ∀ l : List Int, (put n l).length ≤ l.length + 1
  | [] => by simp [put]
  | x :: l => by
    have := put_len n l
    unfold put
    split
    · simp only [List.length_cons]; omega
    split
    · simp
    · simp
theorem mem_put (n z : Int) : ∀ l : List Int, z ∈ put n l ↔ z = n ∨ z ∈ l
  | [] => by simp [put]
  | x :: l => by
    have ih := mem_put n z l
    unfold put
    split
    · simp only [List.mem_cons, ih]
      constructor
      · rintro (h | h | h)
        · exact .inr (.inl h)
        · exact .inl h
        · exact .inr (.inr h)
      · rintro (h | h | h)
        · exact .inr (.inl h)
        · exact .inl h
        · exact .inr (.inr h)
    split
    · rename_i h
      subst h
      simp only [List.mem_cons]
      constructor
      · exact .inr
      · rintro (h | h | h)
        · exact .inl h
        · exact .inl h
        · exact .inr h
    · simp only [List.mem_cons]
theorem put_asc (n : Int) : ∀ l : List Int, asc l → asc (put n l)
  | [], _ => by simp [put, asc]
  | x :: l, h => by
    obtain ⟨h1, h2⟩ := List.pairwise_cons.1 h
    have ih := put_asc n l h2
    unfold put
    split
    · rename_i hx
      refine List.pairwise_cons.2 ⟨fun z hz => ?_, ih⟩
      rcases (mem_put n z l).1 hz with rfl | hz
      · exact hx
      · exact h1 z hz
    split
    · exact h
    · rename_i hx hn
      refine List.pairwise_cons.2 ⟨fun z hz => ?_, h⟩
      rcases List.mem_cons.1 hz with rfl | hz
      · omega
      · have := h1 z hz
        omega
theorem asc_ext : ∀ (l l' : List Int), asc l → asc l' → (∀ z, z ∈ l ↔ z ∈ l') → l = l'
  | [], [], _, _, _ => rfl
  | [], y :: l', _, _, h => by
    have := (h y).2 (by simp)
    simp at this
  | x :: l, [], _, _, h => by
    have := (h x).1 (by simp)
    simp at this
  | x :: l, y :: l', h1, h2, h => by
    obtain ⟨a1, a2⟩ := List.pairwise_cons.1 h1
    obtain ⟨b1, b2⟩ := List.pairwise_cons.1 h2
    have e : x = y := by
      rcases List.mem_cons.1 ((h x).1 (by simp)) with e | e
      · exact e
      rcases List.mem_cons.1 ((h y).2 (by simp)) with e' | e'
      · exact e'.symm
      have := a1 y e'
      have := b1 x e
      omega
    subst e
    rw [asc_ext l l' a2 b2 (fun z => ?_)]
    constructor
    · intro hz
      rcases List.mem_cons.1 ((h z).1 (List.mem_cons_of_mem _ hz)) with e | e
      · have := a1 z hz
        omega
      · exact e
    · intro hz
      rcases List.mem_cons.1 ((h z).2 (List.mem_cons_of_mem _ hz)) with e | e
      · have := b1 z hz
        omega
      · exact e
def puts (s l : List Int) : List Int := l.foldl (fun s x => put x s) s
theorem puts_asc : ∀ (l s : List Int), asc s → asc (puts s l)
  | [], s, h => h
  | x :: l, s, h => puts_asc l (put x s) (put_asc x s h)
theorem mem_puts (z : Int) : ∀ (l s : List Int), z ∈ puts s l ↔ z ∈ s ∨ z ∈ l
  | [], s => by simp [puts]
  | x :: l, s => by
    have ih := mem_puts z l (put x s)
    have e : puts s (x :: l) = puts (put x s) l := rfl
    rw [e, ih, mem_put, List.mem_cons]
    constructor
    · rintro ((h | h) | h)
      · exact .inr (.inl h)
      · exact .inl h
      · exact .inr (.inr h)
    · rintro (h | h | h)
      · exact .inl (.inr h)
      · exact .inl (.inl h)
      · exact .inr h
theorem puts_len : ∀ (l s : List Int), (puts s l).length ≤ s.length + l.length
  | [], s => by simp [puts]
  | x :: l, s => by
    have := puts_len l (put x s)
    have h := put_len x s
    have e : puts s (x :: l) = puts (put x s) l := rfl
    rw [e, List.length_cons]
    omega
theorem asc_nil : asc [] := List.Pairwise.nil
def msort (l : List Int) : List Int := l.mergeSort fun x y => decide (x ≤ y)
theorem msort_len (l : List Int) : (msort l).length = l.length := List.length_mergeSort l
theorem mem_msort (z : Int) (l : List Int) : z ∈ msort l ↔ z ∈ l := List.mem_mergeSort
theorem msort_le (l : List Int) : (msort l).Pairwise (fun a b => a ≤ b) := by
  have := List.pairwise_mergeSort (le := fun x y : Int => decide (x ≤ y)) (fun a b c h1 h2 => by simp at h1 h2 ⊢; omega) (fun a b => by simp; omega) l
  exact this.imp (fun h => by simpa using h)
theorem msort_asc (l : List Int) (h : l.Nodup) : asc (msort l) := by
  have h1 := msort_le l
  have h2 : (msort l).Nodup := (List.mergeSort_perm l _).nodup_iff.2 h
  exact (h1.and h2).imp (fun ⟨a, b⟩ => by omega)

/-! inHouse -/
/-- The things whose last hand is in the house. -/
def hereFrom (l : List (S138)) (h : Int) : Nat → List (S138) → List Int
  | _, [] => []
  | n, x :: r => if x.f1 = 2 ∧ x.f2 = h ∧ lastIx l x.f0 = (n : Int) then x.f0 :: hereFrom l h (n + 1) r else hereFrom l h (n + 1) r
def hereStep (l : List (S138)) (h : Int) (s : List Int) (x : S138) : List Int := if (rd_T138 l (lastIx l x.f0)).f1 = 2 ∧ (rd_T138 l (lastIx l x.f0)).f2 = h then put x.f0 s else s
def inHouse (l : List (S138)) (h : Int) : List Int := if isChain l = true then msort (hereFrom l h 0 l) else []
theorem hereFrom_len (l : List (S138)) (h : Int) : ∀ (r : List (S138)) (n : Nat), (hereFrom l h n r).length ≤ r.length
  | [], n => by simp [hereFrom]
  | x :: r, n => by
    have := hereFrom_len l h r (n + 1)
    unfold hereFrom
    split
    · simp only [List.length_cons]; omega
    · simp only [List.length_cons]; omega
theorem inHouse_len (l : List (S138)) (h : Int) : (inHouse l h).length ≤ l.length := by
  unfold inHouse
  split
  · rw [msort_len]; exact hereFrom_len l h l 0
  · simp
theorem hereFrom_mem (l : List (S138)) (h z : Int) : ∀ (r : List (S138)) (n : Nat), z ∈ hereFrom l h n r ↔ ∃ i x, r[i]? = some x ∧ x.f0 = z ∧ x.f1 = 2 ∧ x.f2 = h ∧ lastIx l z = ((n + i : Nat) : Int)
  | [], n => by simp [hereFrom]
  | y :: r, n => by
    have ih := hereFrom_mem l h z r (n + 1)
    have key : (∃ i x, (y :: r)[i]? = some x ∧ x.f0 = z ∧ x.f1 = 2 ∧ x.f2 = h ∧ lastIx l z = ((n + i : Nat) : Int)) ↔ (y.f0 = z ∧ y.f1 = 2 ∧ y.f2 = h ∧ lastIx l z = (n : Int)) ∨ ∃ i x, r[i]? = some x ∧ x.f0 = z ∧ x.f1 = 2 ∧ x.f2 = h ∧ lastIx l z = ((n + 1 + i : Nat) : Int) := by
      constructor
      · rintro ⟨i, x, h1, h2⟩
        cases i with
        | zero =>
          have : y = x := by simpa using h1
          subst this
          exact .inl (by simpa using h2)
        | succ i => exact .inr ⟨i, x, by simpa using h1, by rw [show n + 1 + i = n + (i + 1) by omega]; exact h2⟩
      · rintro (h1 | ⟨i, x, h1, h2⟩)
        · exact ⟨0, y, rfl, by simpa using h1⟩
        · exact ⟨i + 1, x, by simpa using h1, by rw [show n + (i + 1) = n + 1 + i by omega]; exact h2⟩
    rw [key]
    unfold hereFrom
    split
    · rename_i hc
      rw [List.mem_cons, ih]
      constructor
      · rintro (rfl | h2)
        · exact .inl ⟨rfl, hc⟩
        · exact .inr h2
      · rintro (⟨rfl, _⟩ | h2)
        · exact .inl rfl
        · exact .inr h2
    · rename_i hc
      rw [ih]
      constructor
      · exact .inr
      · rintro (⟨rfl, h2⟩ | h2)
        · exact absurd h2 hc
        · exact h2
theorem hereFrom_nodup (l : List (S138)) (h : Int) : ∀ (r : List (S138)) (n : Nat), (hereFrom l h n r).Nodup
  | [], n => by simp [hereFrom]
  | y :: r, n => by
    have ih := hereFrom_nodup l h r (n + 1)
    unfold hereFrom
    split
    · rename_i hc
      refine List.nodup_cons.2 ⟨fun hm => ?_, ih⟩
      obtain ⟨i, x, _, _, _, _, h3⟩ := (hereFrom_mem l h y.f0 r (n + 1)).1 hm
      have := hc.2.2
      omega
    · exact ih
theorem lastIx_of : ∀ (n : Nat) (l : List (S138)), l.length = n → ∀ x ∈ l, 0 ≤ lastIx l x.f0 ∧ lastIx l x.f0 < (l.length : Int) ∧ (rd_T138 l (lastIx l x.f0)).f0 = x.f0
  | 0, l, hl, x, hx => by
    rw [List.length_eq_zero_iff.1 hl] at hx
    simp at hx
  | n + 1, l, hl, x, hx => by
    rcases List.eq_nil_or_concat l with rfl | ⟨p, y, hp⟩
    · simp at hx
    rw [List.concat_eq_append] at hp
    subst hp
    have hpl : p.length = n := by simpa using hl
    rw [lastIx_snoc]
    by_cases hy : y.f0 = x.f0
    · rw [if_pos hy]
      refine ⟨by omega, by rw [List.length_append, List.length_singleton]; omega, ?_⟩
      have : rd_T138 (p ++ [y]) (p.length : Int) = y := getD_pre p y [] _
      rw [this]
      exact hy
    · rw [if_neg hy]
      have hxp : x ∈ p := by
        rcases List.mem_append.1 hx with h | h
        · exact h
        · rw [List.mem_singleton.1 h] at hy
          exact absurd rfl hy
      obtain ⟨h1, h2, h3⟩ := lastIx_of n p hpl x hxp
      refine ⟨h1, by simp; omega, ?_⟩
      rw [rd_T_app h1 h2]
      exact h3
theorem getElem_rd (l : List (S138)) (i : Int) (h0 : 0 ≤ i) (h1 : i < (l.length : Int)) : l[i.toNat]? = some (rd_T138 l i) := by
  unfold rd_T138
  rw [List.getD_eq_getElem?_getD, List.getElem?_eq_getElem (by omega)]
  rfl
theorem rd_of_getElem (l : List (S138)) (i : Nat) (x : S138) (h : l[i]? = some x) : rd_T138 l (i : Int) = x := by
  unfold rd_T138
  rw [List.getD_eq_getElem?_getD, show ((i : Int)).toNat = i by omega, h]
  rfl
theorem here_mem (l : List (S138)) (h z : Int) : z ∈ hereFrom l h 0 l ↔ ∃ x ∈ l, x.f0 = z ∧ (rd_T138 l (lastIx l z)).f1 = 2 ∧ (rd_T138 l (lastIx l z)).f2 = h := by
  rw [hereFrom_mem]
  constructor
  · rintro ⟨i, x, h1, rfl, h2, h3, h4⟩
    rw [Nat.zero_add] at h4
    exact ⟨x, List.mem_of_getElem? h1, rfl, by rw [h4, rd_of_getElem l i x h1]; exact ⟨h2, h3⟩⟩
  · rintro ⟨x, hx, rfl, h2, h3⟩
    obtain ⟨h4, h5, h6⟩ := lastIx_of _ l rfl x hx
    exact ⟨(lastIx l x.f0).toNat, _, getElem_rd l _ h4 h5, h6, h2, h3, by omega⟩
theorem step_asc (l : List (S138)) (h : Int) : ∀ (r : List (S138)) (s : List Int), asc s → asc (r.foldl (hereStep l h) s)
  | [], s, hs => hs
  | x :: r, s, hs => by
    rw [List.foldl_cons]
    refine step_asc l h r _ ?_
    unfold hereStep
    split
    · exact put_asc _ _ hs
    · exact hs
theorem step_mem (l : List (S138)) (h z : Int) : ∀ (r : List (S138)) (s : List Int), z ∈ r.foldl (hereStep l h) s ↔ z ∈ s ∨ ∃ x ∈ r, x.f0 = z ∧ (rd_T138 l (lastIx l z)).f1 = 2 ∧ (rd_T138 l (lastIx l z)).f2 = h
  | [], s => by simp
  | x :: r, s => by
    rw [List.foldl_cons, step_mem l h z r]
    simp only [List.mem_cons, exists_eq_or_imp]
    rw [← or_assoc]
    refine or_congr ?_ Iff.rfl
    unfold hereStep
    split
    · rename_i hc
      rw [mem_put]
      constructor
      · rintro (rfl | h1)
        · exact .inr ⟨rfl, hc⟩
        · exact .inl h1
      · rintro (h1 | ⟨rfl, _⟩)
        · exact .inr h1
        · exact .inl rfl
    · rename_i hc
      constructor
      · exact .inl
      · rintro (h1 | ⟨rfl, h2⟩)
        · exact h1
        · exact absurd h2 hc
theorem step_len (l : List (S138)) (h : Int) (s : List Int) (x : S138) : (hereStep l h s x).length ≤ s.length + 1 := by
  unfold hereStep
  split
  · exact put_len _ _
  · omega
theorem here_eq (l : List (S138)) (h : Int) : l.foldl (hereStep l h) [] = msort (hereFrom l h 0 l) := by
  refine asc_ext _ _ (step_asc l h l [] asc_nil) (msort_asc _ (hereFrom_nodup l h l 0)) (fun z => ?_)
  rw [mem_msort, step_mem, here_mem]
  simp

/-! impl_InHouse -/
theorem impl_InHouse_ev (l : List (S138)) (h : Int) (hl : l.length ≤ 1099511627776) : Ev (fun k => impl_InHouse.f k l h) (inHouse l h) := by
  unfold inHouse impl_InHouse.f
  simp only [Option.bind_some]
  refine Ev.bind (impl_IsChain_ev l hl) ?_
  cases hc : isChain l with
  | false => exact Ev.now _
  | true =>
    simp only [if_true]
    refine ev_map (ev_range l (fun k (s : List Int × Nat) i => impl_InHouse.l0 k l h s.1 l (l.length : Int) i) (fun s r => msort (s.1 ++ hereFrom l h s.2 r)) (fun p s => s.2 = p.length ∧ s.1.length ≤ p.length) (by omega) ?_ ?_ ([], 0) ⟨rfl, by simp⟩) (by simp)
    · rintro ⟨a, n⟩ ⟨_, ha⟩
      have ha' : a.length ≤ l.length := ha
      simp only [impl_InHouse.l0, if_neg (Int.lt_irrefl _), slices_Sort.f, if_pos (show a.length < 4611686018427387904 by omega), Option.bind_some]
      exact ev_const (by simp [hereFrom, msort])
    · rintro pre x rest ⟨a, n⟩ e hlt hget ⟨hn, ha⟩ ih
      have hn' : n = pre.length := hn
      have ha' : a.length ≤ pre.length := ha
      subst hn'
      have hr : rd_T138 l (pre.length : Int) = x := hget _
      simp only [impl_InHouse.l0, if_pos hlt, if_pos (ge0 pre.length), hr]
      by_cases h1 : x.f1 = 2
      · by_cases h2 : x.f2 = h
        · simp only [if_pos h1, if_pos h2]
          refine Ev.bind (impl_lastHand_ev l x.f0 hl) ?_
          by_cases h3 : lastIx l x.f0 = (pre.length : Int)
          · simp only [if_pos h3, if_pos (show a.length < 17592186044416 by omega)]
            exact ev_map (ih (a ++ [x.f0], pre.length + 1) ⟨by simp, by simp; omega⟩) (by simp [hereFrom, h1, h2, h3])
          · simp only [if_neg h3]
            exact ev_map (ih (a, pre.length + 1) ⟨by simp, by simp; omega⟩) (by simp [hereFrom, h3])
        · simp only [if_pos h1, if_neg h2]
          exact ev_map (ih (a, pre.length + 1) ⟨by simp, by simp; omega⟩) (by simp [hereFrom, h2])
      · simp only [if_neg h1]
        exact ev_map (ih (a, pre.length + 1) ⟨by simp, by simp; omega⟩) (by simp [hereFrom, h1])

/-! ascends -/
def ascOk (lo hi : Int) : Option Int → List Int → Bool
  | _, [] => true
  | p, x :: rest => inr x lo hi && ((match p with | none => true | some y => decide (y < x)) && ascOk lo hi (some x) rest)

/-! impl_isAscending -/
theorem impl_isAscending_ev (l : List Int) (lo hi : Int) (h : l.length ≤ 1099511627776) : Ev (fun k => impl_isAscending.f k l lo hi) (ascOk lo hi none l) := by
  refine ev_range l (fun k (_ : Option Int) i => impl_isAscending.l0 k l lo hi l (l.length : Int) i) (fun s r => ascOk lo hi s r) (fun p s => s = p.getLast?) (by omega) ?_ ?_ none rfl
  · intro s _
    simp only [impl_isAscending.l0, if_neg (Int.lt_irrefl _)]
    exact Ev.now _
  · rintro pre x rest s e hlt hget rfl ih
    have hr : rd l (pre.length : Int) = x := hget 0
    have ih' := ih (some x) (by simp)
    simp only [impl_isAscending.l0, if_pos hlt, if_pos (ge0 pre.length), hr, impl_InRange_eq, Option.bind_some, ascOk]
    cases h1 : inr x lo hi with
    | false => exact Ev.now _
    | true =>
      simp only [if_true, Bool.true_and]
      rcases prev_cases e (by omega) with ⟨hp, hn⟩ | ⟨y, hy, h4, h5, h6, h7⟩
      · simp only [if_neg hn]
        exact ev_map ih' (by simp [hp])
      · have hr7 : rd l (wrap64 ((pre.length : Int) - 1)) = y := h7 0
        simp only [if_pos h4, if_pos h5, if_pos h6, hr7, hy]
        by_cases h8 : x ≤ y
        · simp only [if_pos h8]
          exact ev_const (by simp [show ¬ y < x by omega])
        · simp only [if_neg h8]
          exact ev_map ih' (by simp [show y < x by omega])

/-! isParcel -/
def isParcel (f t : Int) (l : List Int) (h : Int) : Bool := inr f 1 9 && (inr t 1 9 && (!decide (f = t) && (inr (l.length : Int) 1 10 && (ascOk 1 999 none l && inr h 0 100000))))

/-! impl_IsParcel -/
theorem impl_IsParcel_ev (f t : Int) (l : List Int) (h : Int) (hl : l.length ≤ 1099511627776) : Ev (fun k => impl_IsParcel.f k f t l h) (isParcel f t l h) := by
  simp only [impl_IsParcel.f, impl_InRange_eq, Option.bind_some, isParcel]
  cases h1 : inr f 1 9 with
  | false => exact Ev.now _
  | true =>
    cases h2 : inr t 1 9 with
    | false => exact Ev.now _
    | true =>
      by_cases h3 : f = t
      · simp only [if_true, if_pos h3]
        exact ev_const (by simp [h3])
      · cases h4 : inr (l.length : Int) 1 10 with
        | false =>
          simp only [if_true, if_neg h3]
          exact ev_const (by simp)
        | true =>
          simp only [if_true, if_neg h3]
          refine Ev.bind (impl_isAscending_ev l 1 999 hl) ?_
          refine ev_const ?_
          rw [ite_and]
          simp [h3]

/-! addHand -/
def lastSeal (l : List (S138)) : Int := match l.getLast? with | none => 0 | some y => y.f4
def withHand (s : Int) (l : List (S138)) (a b c d : Int) : List (S138) := l ++ [⟨a, b, c, d, ghash [s, a, b, c, d]⟩]
def addHand (l : List (S138)) (a b c d : Int) : List (S138) × Bool := if isChain (withHand (lastSeal l) l a b c d) = true then (withHand (lastSeal l) l a b c d, true) else (l, false)
theorem addHand_len (l : List (S138)) (a b c d : Int) : (addHand l a b c d).1.length ≤ l.length + 1 := by
  unfold addHand withHand
  split <;> simp
theorem last_cases (l : List (S138)) (hl : l.length < 9223372036854775807) : (l = [] ∧ ¬ (l.length : Int) > 0) ∨ ∃ y, l.getLast? = some y ∧ (l.length : Int) > 0 ∧ 0 ≤ wrap64 ((l.length : Int) - 1) ∧ wrap64 ((l.length : Int) - 1) < (l.length : Int) ∧ rd_T138 l (wrap64 ((l.length : Int) - 1)) = y := by
  by_cases h0 : l = []
  · exact .inl ⟨h0, by simp [h0]⟩
  · have hp : 0 < l.length := List.length_pos_iff.2 h0
    right
    refine ⟨l[l.length - 1], ?_, by omega, ?_⟩
    · rw [List.getLast?_eq_getElem?, List.getElem?_eq_getElem]
    · rw [w64 (by omega) (by omega)]
      refine ⟨by omega, by omega, ?_⟩
      unfold rd_T138
      rw [List.getD_eq_getElem?_getD, show ((l.length : Int) - 1).toNat = l.length - 1 by omega, List.getElem?_eq_getElem (by omega)]
      rfl

/-! clone:impl.Hand -/
theorem clone_Hand_eq (l : List (S138)) (h : l.length < 3518437208883) : impl_Hand.f l = some l := by
  unfold impl_Hand.f
  simp only [Option.bind_some, List.length_nil, List.nil_append, Nat.zero_add, if_pos h]

/-! impl_AddHand -/
theorem impl_AddHand_j0 (l : List (S138)) (s a b c d e : Int) (hl : l.length ≤ 1099511627775) : Ev (fun k => impl_AddHand.j0 k l s a b c d e) (if isChain (withHand s l a b c d) = true then (withHand s l a b c d, true) else (l, false)) := by
  refine ev_succ ?_
  simp only [impl_AddHand.j0]
  refine Ev.bind (impl_HandSeal_ev s a b c d e) ?_
  simp only [clone_Hand_eq l (by omega), Option.bind_some, List.length_nil, List.nil_append, Nat.zero_add, if_pos (show l.length < 3518437208883 by omega), List.length_singleton, if_pos (show l.length + 1 < 3518437208883 by omega)]
  refine Ev.bind (impl_IsChain_ev (withHand s l a b c d) (by simp [withHand]; omega)) ?_
  cases h : isChain (withHand s l a b c d) <;> exact Ev.now _
theorem impl_AddHand_ev (l : List (S138)) (a b c d e : Int) (hl : l.length ≤ 1099511627775) : Ev (fun k => impl_AddHand.f k l a b c d e) (addHand l a b c d) := by
  unfold impl_AddHand.f addHand lastSeal
  rcases last_cases l (by omega) with ⟨rfl, h⟩ | ⟨y, hy, h1, h2, h3, h4⟩
  · simp only [if_neg h]
    exact impl_AddHand_j0 [] 0 a b c d e hl
  · simp only [if_pos h1, if_pos h2, if_pos h3, h4, hy]
    exact impl_AddHand_j0 l y.f4 a b c d e hl

/-! has -/
def has (l : List Int) (n : Int) : Bool := l.any (fun y => decide (y = n))
theorem has_iff (l : List Int) (n : Int) : has l n = true ↔ n ∈ l := by
  unfold has
  rw [List.any_eq_true]
  constructor
  · rintro ⟨x, hx, h⟩
    rw [← of_decide_eq_true h]
    exact hx
  · intro h
    exact ⟨n, h, decide_eq_true rfl⟩

/-! slices_Index_int_int -/
theorem slices_Index_ev (l : List Int) (n : Int) (h : l.length ≤ 1099511627776) : ∃ r, Ev (fun k => slices_Index_int_int.f k l n) r ∧ decide (r ≥ 0) = has l n := by
  have key : ∀ (rest pre : List Int), l = pre ++ rest → ∃ r, Ev (fun k => slices_Index_int_int.l0 k l n (l.length : Int) (pre.length : Int)) r ∧ decide (r ≥ 0) = has rest n := by
    intro rest
    induction rest with
    | nil =>
      intro pre e
      rw [List.append_nil] at e
      subst e
      refine ⟨-1, ev_succ ?_, by simp [has]⟩
      simp only [slices_Index_int_int.l0, if_neg (Int.lt_irrefl _)]
      exact Ev.now _
    | cons x rest ih =>
      intro pre e
      have hl : l.length = pre.length + (rest.length + 1) := by rw [e, len_pre]
      have hr : rd l (pre.length : Int) = x := by rw [e]; exact rd_pre pre x rest
      by_cases h2 : n = x
      · refine ⟨(pre.length : Int), ev_succ ?_, ?_⟩
        · simp only [slices_Index_int_int.l0, if_pos (show (pre.length : Int) < (l.length : Int) by omega), if_pos (ge0 pre.length), hr, if_pos h2]
          exact Ev.now _
        · rw [decide_eq_true (show (pre.length : Int) ≥ 0 by omega)]
          simp [has, h2]
      · obtain ⟨r, h3, h4⟩ := ih (pre ++ [x]) (by rw [← app_pre]; exact e)
        refine ⟨r, ev_succ ?_, ?_⟩
        · simp only [slices_Index_int_int.l0, if_pos (show (pre.length : Int) < (l.length : Int) by omega), if_pos (ge0 pre.length), hr, if_neg h2, wsucc (show pre.length < 9223372036854775807 by omega)]
          rw [snoc_len pre x]
          exact h3
        · rw [h4]
          simp [has, Ne.symm h2]
  exact key l [] rfl

/-! slices_Contains_int_int -/
theorem slices_Contains_ev (l : List Int) (n : Int) (h : l.length ≤ 1099511627776) : Ev (fun k => slices_Contains_int_int.f k l n) (has l n) := by
  obtain ⟨r, h1, h2⟩ := slices_Index_ev l n h
  unfold slices_Contains_int_int.f
  refine Ev.bind h1 ?_
  exact ev_const (by rw [← h2])

/-! sendParcel -/
def sendGo (t h : Int) (hs : List Int) : List (S138) → List Int → Option (List (S138))
  | o, [] => some o
  | o, x :: r => if (addHand o x 2 t h).2 = true ∧ has hs x = true then sendGo t h hs (addHand o x 2 t h).1 r else none
def sendEnd (l : List (S138)) : Option (List (S138)) → List (S138) × Bool
  | some o => (o, true)
  | none => (l, false)
def sendParcel (l : List (S138)) (f t : Int) (ts : List Int) (h : Int) : List (S138) × Bool :=
  if isParcel f t ts h = true then sendEnd l (sendGo t h (inHouse l f) l ts) else (l, false)
theorem sendGo_len (t h : Int) (hs : List Int) : ∀ (r : List Int) (o o' : List (S138)), sendGo t h hs o r = some o' → o'.length ≤ o.length + r.length
  | [], o, o', e => by
    unfold sendGo at e
    cases e
    simp
  | x :: r, o, o', e => by
    unfold sendGo at e
    split at e
    · have h1 := sendGo_len t h hs r _ _ e
      have h2 := addHand_len o x 2 t h
      simp only [List.length_cons]
      omega
    · cases e
theorem sendParcel_len (l : List (S138)) (f t : Int) (ts : List Int) (h : Int) : (sendParcel l f t ts h).1.length ≤ l.length + ts.length := by
  unfold sendParcel
  split
  · cases e : sendGo t h (inHouse l f) l ts with
    | none => simp [sendEnd]
    | some o => exact sendGo_len t h _ ts l o e
  · simp

/-! impl_SendParcel -/
theorem impl_SendParcel_ev (l : List (S138)) (f t : Int) (ts : List Int) (h : Int) (hl : l.length ≤ 1048576) (ht : ts.length ≤ 1048576) : Ev (fun k => impl_SendParcel.f k l f t ts h) (sendParcel l f t ts h) := by
  have hin := inHouse_len l f
  have hcl := clone_Hand_eq l (by omega)
  unfold impl_SendParcel.f sendParcel
  refine Ev.bind (impl_IsParcel_ev f t ts h (by omega)) ?_
  cases hp : isParcel f t ts h with
  | false =>
    simp only [Bool.false_eq_true, if_false, hcl, Option.bind_some]
    exact Ev.now _
  | true =>
    simp only [if_true]
    refine Ev.bind (impl_InHouse_ev l f (by omega)) ?_
    simp only [hcl, Option.bind_some]
    refine ev_range ts (fun k (s : List (S138)) i => impl_SendParcel.l0 k l (inHouse l f) s ts (ts.length : Int) i f t ts h) (fun s r => sendEnd l (sendGo t h (inHouse l f) s r)) (fun p s => s.length ≤ l.length + p.length) (by omega) ?_ ?_ l (by simp)
    · intro s _
      simp only [impl_SendParcel.l0, if_neg (Int.lt_irrefl _)]
      exact Ev.now _
    · rintro pre x rest s e hlt hget hs ih
      have hr : rd ts (pre.length : Int) = x := hget _
      have hs' : s.length ≤ l.length + pre.length := hs
      have hlen := addHand_len s x 2 t h
      simp only [impl_SendParcel.l0, if_pos hlt, if_pos (ge0 pre.length), hr]
      refine Ev.bind (impl_AddHand_ev s x 2 t h 0 (by omega)) ?_
      by_cases h1 : (addHand s x 2 t h).2 = true
      · simp only [if_pos h1]
        refine Ev.bind (slices_Contains_ev (inHouse l f) x (by omega)) ?_
        by_cases h2 : has (inHouse l f) x = true
        · simp only [if_pos h2]
          exact ev_map (ih (addHand s x 2 t h).1 (by simp only [List.length_append, List.length_singleton]; omega)) (by rw [show sendGo t h (inHouse l f) s (x :: rest) = sendGo t h (inHouse l f) (addHand s x 2 t h).1 rest from if_pos ⟨h1, h2⟩])
        · simp only [if_neg h2, hcl, Option.bind_some]
          exact ev_const (by rw [show sendGo t h (inHouse l f) s (x :: rest) = none from if_neg (fun q => h2 q.2)]; rfl)
      · simp only [if_neg h1, hcl, Option.bind_some]
        exact ev_const (by rw [show sendGo t h (inHouse l f) s (x :: rest) = none from if_neg (fun q => h1 q.1)]; rfl)

/-! laws_szHandS -/
theorem laws_szHandS_ok (l : List (S145)) (a : Int) (h0 : (l.length : Int) ≤ a) (h1 : a ≤ 1048576) : laws_szHandS.f l a = some (a - (l.length : Int)) := by
  unfold laws_szHandS.f
  rw [w64 (by omega) (by omega), if_neg (by omega)]
theorem laws_szHandS_big (l : List (S145)) (a : Int) (h0 : a < (l.length : Int)) (h1 : 0 ≤ a) (h2 : l.length ≤ 9223372036854775807) : laws_szHandS.f l a = some (-1) := by
  unfold laws_szHandS.f
  rw [w64 (by omega) (by omega), if_pos (by omega)]

/-! type_145 -/
theorem rd_T145_pre (pre : List (S145)) (x : S145) (rest : List (S145)) : rd_T145 (pre ++ x :: rest) (pre.length : Int) = x := getD_pre pre x rest z145

/-! conv_Hand -/
def cHand (x : S145) : S138 := (⟨x.f0, x.f1, x.f2, x.f3, x.f4⟩ : S138)

/-! laws_toHandS -/
theorem laws_toHandS_loop (rest : List (S145)) : ∀ (pre : List (S145)), (pre ++ rest).length ≤ 1099511627776 → Ev (fun k => laws_toHandS.l0 k (pre ++ rest) ((pre).map cHand ++ List.replicate rest.length z138) (pre.length : Int)) ((pre ++ rest).map cHand) := by
  induction rest with
  | nil =>
    intro pre h
    refine ev_succ ?_
    simp only [laws_toHandS.l0, if_neg (nlt_pre pre)]
    exact ev_const (by simp)
  | cons x rest ih =>
    intro pre h
    have hl := len_pre pre x rest
    have hlt : (pre.length : Int) < (((pre).map cHand ++ List.replicate (x :: rest).length z138).length : Int) := by
      simp
      omega
    have hset : ((pre).map cHand ++ List.replicate (x :: rest).length z138).set ((pre.length : Int)).toNat (⟨x.f0, x.f1, x.f2, x.f3, x.f4⟩ : S138) = (pre ++ [x]).map cHand ++ List.replicate rest.length z138 := by
      simp [List.replicate_succ, cHand]
    refine ev_succ ?_
    simp only [laws_toHandS.l0, if_pos (lt_pre pre x rest), if_pos (ge0 pre.length), rd_T145_pre, laws_toHand.f, Option.bind_some, if_pos hlt, wsucc (show pre.length < 9223372036854775807 by omega)]
    refine ev_map (Ev.congr (fun k => ?_) (ih (pre ++ [x]) (by rw [← app_pre]; exact h))) (by rw [← app_pre pre x rest])
    rw [hset, snoc_len pre x, ← app_pre pre x rest]
theorem laws_toHandS_ev (l : List (S145)) (h : l.length ≤ 1048576) : Ev (fun k => laws_toHandS.f k l) (l.map cHand) := by
  have e := laws_toHandS_loop l [] (by simp; omega)
  unfold laws_toHandS.f
  simp only [if_pos (ge0 l.length), if_pos (show ((l.length : Int)).toNat ≤ 7036874417766 by omega)]
  exact e

/-! laws_eqHandS -/
theorem laws_eqHandS_loop (rest : List (S138)) : ∀ (pre : List (S138)), (pre ++ rest).length ≤ 1099511627776 → Ev (fun k => laws_eqHandS.l0 k (pre ++ rest) (pre ++ rest) (pre.length : Int)) true := by
  induction rest with
  | nil =>
    intro pre h
    refine ev_succ ?_
    simp only [laws_eqHandS.l0, if_neg (nlt_pre pre)]
    exact Ev.now _
  | cons x rest ih =>
    intro pre h
    have hl := len_pre pre x rest
    refine ev_succ ?_
    simp only [laws_eqHandS.l0, if_pos (lt_pre pre x rest), if_pos (ge0 pre.length), rd_T138_pre, laws_eqHand.f, Option.bind_some, if_true, wsucc (show pre.length < 9223372036854775807 by omega)]
    refine Ev.congr (fun k => ?_) (ih (pre ++ [x]) (by rw [← app_pre]; exact h))
    rw [snoc_len pre x, ← app_pre]
theorem laws_eqHandS_refl (l : List (S138)) (h : l.length ≤ 1099511627776) : Ev (fun k => laws_eqHandS.f k l l) true := by
  have e := laws_eqHandS_loop l [] h
  unfold laws_eqHandS.f
  simp only [if_true]
  exact e

/-! marked_Hand -/
def markedHand : List (S138) → Int → List (S138)
  | [], _ => []
  | _ :: l, a => (⟨a, a + 1, a + 2, a + 3, a + 4⟩ : S138) :: markedHand l (a + 5)
theorem markedHand_length (l : List (S138)) : ∀ a, (markedHand l a).length = l.length := by
  induction l with
  | nil => intro a; rfl
  | cons x l ih => intro a; simp [markedHand, ih]
-- Hand

/-! laws_markHandS -/
theorem laws_markHandS_loop (rest : List (S138)) : ∀ (pre : List (S138)) (a : Int), 0 ≤ a → a + 5 * (rest.length : Int) ≤ 9223372036854775000 → (pre ++ rest).length ≤ 1099511627776 → Ev (fun k => laws_markHandS.l0 k (pre ++ rest) a (pre.length : Int)) (a + 5 * (rest.length : Int), pre ++ markedHand rest a) := by
  induction rest with
  | nil =>
    intro pre a h0 h1 h
    refine ev_succ ?_
    simp only [laws_markHandS.l0, if_neg (nlt_pre pre)]
    exact ev_const (by simp [markedHand])
  | cons x rest ih =>
    intro pre a h0 h1 h
    have hl := len_pre pre x rest
    rw [List.length_cons] at h1
    refine ev_succ ?_
    simp only [laws_markHandS.l0, if_pos (lt_pre pre x rest), if_pos (ge0 pre.length), rd_T138_pre, set_pre, Option.bind_some, wsucc (show pre.length < 9223372036854775807 by omega), w64 (x := a + 1) (by omega) (by omega), w64 (x := a + 2) (by omega) (by omega), w64 (x := a + 3) (by omega) (by omega), w64 (x := a + 4) (by omega) (by omega), w64 (x := a + 5) (by omega) (by omega), show a + 1 + 1 = a + 2 by omega, show a + 2 + 1 = a + 3 by omega, show a + 3 + 1 = a + 4 by omega, show a + 4 + 1 = a + 5 by omega]
    refine Ev.congr (fun k => ?_) (ev_map (ih (pre ++ [(⟨a, a + 1, a + 2, a + 3, a + 4⟩ : S138)]) (a + 5) (by omega) (by omega) (by rw [← app_pre, len_pre]; omega)) ?_)
    · rw [← app_pre, List.length_append, List.length_singleton]
    · simp only [markedHand, List.length_cons, List.append_assoc, List.singleton_append, Prod.mk.injEq, and_true]
      omega
theorem laws_markHandS_ev (l : List (S138)) (a : Int) (h0 : 0 ≤ a) (h1 : a ≤ 1099511627776) (h : l.length ≤ 1099511627776) : Ev (fun k => laws_markHandS.f k l a) (a + 5 * (l.length : Int), markedHand l a) := laws_markHandS_loop l [] a h0 (by omega) h

/-! laws_heldHandS -/
theorem laws_heldHandS_loop (rest : List (S138)) : ∀ (pre : List (S138)) (a : Int), 0 ≤ a → a + 5 * (rest.length : Int) ≤ 9223372036854775000 → (pre ++ rest).length ≤ 1099511627776 → Ev (fun k => laws_heldHandS.l0 k (pre ++ markedHand rest a) a (pre.length : Int)) (a + 5 * (rest.length : Int)) := by
  induction rest with
  | nil =>
    intro pre a h0 h1 h
    refine ev_succ ?_
    show Ev (fun k => laws_heldHandS.l0 (k + 1) (pre ++ []) a (pre.length : Int)) _
    simp only [laws_heldHandS.l0, if_neg (nlt_pre pre)]
    exact ev_const (by simp)
  | cons x rest ih =>
    intro pre a h0 h1 h
    have hl := len_pre pre x rest
    rw [List.length_cons] at h1
    refine ev_succ ?_
    show Ev (fun k => laws_heldHandS.l0 (k + 1) (pre ++ (⟨a, a + 1, a + 2, a + 3, a + 4⟩ : S138) :: markedHand rest (a + 5)) a (pre.length : Int)) _
    simp only [laws_heldHandS.l0, if_pos (lt_pre _ _ _), if_pos (ge0 pre.length), rd_T138_pre, wsucc (show pre.length < 9223372036854775807 by omega), w64 (x := a + 1) (by omega) (by omega), w64 (x := a + 2) (by omega) (by omega), w64 (x := a + 3) (by omega) (by omega), w64 (x := a + 4) (by omega) (by omega), w64 (x := a + 5) (by omega) (by omega), show a + 1 + 1 = a + 2 by omega, show a + 2 + 1 = a + 3 by omega, show a + 3 + 1 = a + 4 by omega, show a + 4 + 1 = a + 5 by omega, if_true]
    refine Ev.congr (fun k => ?_) (ev_map (ih (pre ++ [(⟨a, a + 1, a + 2, a + 3, a + 4⟩ : S138)]) (a + 5) (by omega) (by omega) (by rw [← app_pre, len_pre]; omega)) ?_)
    · rw [← app_pre, List.length_append, List.length_singleton]
    · rw [List.length_cons]
      omega
theorem laws_heldHandS_ev (l : List (S138)) (a : Int) (h0 : 0 ≤ a) (h1 : a ≤ 1099511627776) (h : l.length ≤ 1099511627776) : Ev (fun k => laws_heldHandS.f k (markedHand l a) a) (a + 5 * (l.length : Int)) := laws_heldHandS_loop l [] a h0 (by omega) h

/-! laws_szIntS -/
theorem laws_szIntS_ok (l : List Int) (a : Int) (h0 : (l.length : Int) ≤ a) (h1 : a ≤ 1048576) : laws_szIntS.f l a = some (a - (l.length : Int)) := by
  unfold laws_szIntS.f
  rw [w64 (by omega) (by omega), if_neg (by omega)]
theorem laws_szIntS_big (l : List Int) (a : Int) (h0 : a < (l.length : Int)) (h1 : 0 ≤ a) (h2 : l.length ≤ 9223372036854775807) : laws_szIntS.f l a = some (-1) := by
  unfold laws_szIntS.f
  rw [w64 (by omega) (by omega), if_pos (by omega)]

/-! sumT -/
def cParcel (x : S74) : S53 := ⟨x.f0, x.f1, x.f2, x.f3⟩
def sumT : List (S53) → Nat
  | [] => 0
  | x :: r => x.f2.length + sumT r
theorem sumT_mem : ∀ (l : List (S53)) (y : S53), y ∈ l → y.f2.length ≤ sumT l
  | [], _, h => by cases h
  | x :: r, y, h => by
    have h1 : sumT (x :: r) = x.f2.length + sumT r := rfl
    rcases List.mem_cons.1 h with e | h
    · rw [e]; omega
    · have := sumT_mem r y h; omega

/-! laws_szParcelS -/
theorem laws_szParcelS_ev (l : List (S74)) (s : Int) (h0 : 0 ≤ s) (h1 : s ≤ 1048576) (hl : l.length ≤ 9223372036854775807) (hy : ∀ y ∈ l, y.f2.length ≤ 9223372036854775807) :
    Ev (fun k => laws_szParcelS.f k l s) (if (l.length : Int) + (sumT (l.map cParcel) : Int) ≤ s then s - (l.length : Int) - (sumT (l.map cParcel) : Int) else -1) := by
  have e0 : wrap64 (s - (l.length : Int)) = s - (l.length : Int) := w64 (by omega) (by omega)
  unfold laws_szParcelS.f
  simp only [e0]
  by_cases hs : s - (l.length : Int) < 0
  · simp only [if_pos hs]
    exact ev_const (by rw [if_neg (by omega)])
  simp only [if_neg hs]
  refine ev_map (ev_range l (fun k (a : Int) i => laws_szParcelS.l0 k l a i) (fun a r => if (sumT (r.map cParcel) : Int) ≤ a then a - (sumT (r.map cParcel) : Int) else -1) (fun _ a => 0 ≤ a ∧ a ≤ 1048576) (by omega) ?_ ?_ (s - (l.length : Int)) (by omega)) ?_
  · intro a ha
    simp only [laws_szParcelS.l0, if_neg (Int.lt_irrefl _)]
    exact ev_const (by simp [sumT, ha.1])
  · rintro pre x rest a e hlt hget ha ih
    have hr : rd_T74 l (pre.length : Int) = x := hget _
    have h2 : sumT ((x :: rest).map cParcel) = x.f2.length + sumT (rest.map cParcel) := rfl
    have hx := hy x (by rw [e]; simp)
    simp only [laws_szParcelS.l0, if_pos hlt, if_pos (ge0 pre.length), hr]
    by_cases h3 : (x.f2.length : Int) ≤ a
    · simp only [laws_szParcel.f, laws_szIntS_ok x.f2 a h3 ha.2, Option.bind_some, if_neg (show ¬ a - (x.f2.length : Int) < 0 by omega)]
      refine ev_map (ih (a - (x.f2.length : Int)) (by omega)) ?_
      rw [h2]
      by_cases h4 : (sumT (rest.map cParcel) : Int) ≤ a - (x.f2.length : Int)
      · rw [if_pos h4, if_pos (by omega)]; omega
      · rw [if_neg h4, if_neg (by omega)]
    · simp only [laws_szParcel.f, laws_szIntS_big x.f2 a (by omega) ha.1 hx, Option.bind_some, if_pos (show (-1 : Int) < 0 by decide)]
      exact ev_const (by rw [h2, if_neg (by omega)])
  · by_cases h4 : (l.length : Int) + (sumT (l.map cParcel) : Int) ≤ s
    · rw [if_pos (by omega), if_pos h4]
    · rw [if_neg (by omega), if_neg h4]

/-! spec_l8Has -/
theorem spec_l8Has_ev (l : List Int) (n : Int) (h : l.length ≤ 1099511627776) : Ev (fun k => spec_l8Has.f k l n) (has l n) := by
  refine ev_range l (fun k (_ : Unit) i => spec_l8Has.l0 k l n i) (fun _ r => has r n) (fun _ _ => True) (by omega) ?_ ?_ () trivial
  · intro _ _
    simp only [spec_l8Has.l0, if_neg (Int.lt_irrefl _)]
    exact Ev.now _
  · intro pre x rest _ _ hlt hget _ ih
    have hr : rd l (pre.length : Int) = x := hget 0
    simp only [spec_l8Has.l0, if_pos hlt, if_pos (ge0 pre.length), hr]
    by_cases h2 : x = n
    · simp only [if_pos h2]
      exact ev_const (by simp [has, h2])
    · simp only [if_neg h2]
      exact ev_map (ih () trivial) (by simp [has, h2])

/-! spec_l1In -/
theorem spec_l1In_eq (a b c : Int) : spec_l1In.f a b c = some (inr a b c) := by
  unfold spec_l1In.f inr
  by_cases h : b ≤ a <;> simp [h]

/-! spec_l7Ids -/
theorem spec_l7Ids_ev (l : List Int) (lo hi : Int) (h : l.length ≤ 1099511627776) : Ev (fun k => spec_l7Ids.f k l lo hi) (ascOk lo hi none l) := by
  refine ev_range l (fun k (_ : Option Int) i => spec_l7Ids.l0 k l lo hi i) (fun s r => ascOk lo hi s r) (fun p s => s = p.getLast?) (by omega) ?_ ?_ none rfl
  · intro s _
    simp only [spec_l7Ids.l0, if_neg (Int.lt_irrefl _)]
    exact Ev.now _
  · rintro pre x rest s e hlt hget rfl ih
    have hr : rd l (pre.length : Int) = x := hget 0
    have ih' := ih (some x) (by simp)
    simp only [spec_l7Ids.l0, if_pos hlt, if_pos (ge0 pre.length), hr, spec_l1In_eq, Option.bind_some, ascOk]
    cases h1 : inr x lo hi with
    | false => exact Ev.now _
    | true =>
      simp only [if_true, Bool.true_and]
      rcases prev_cases e (by omega) with ⟨hp, hn⟩ | ⟨y, hy, h4, h5, h6, h7⟩
      · simp only [if_neg hn]
        exact ev_map ih' (by simp [hp])
      · have hr7 : rd l (wrap64 ((pre.length : Int) - 1)) = y := h7 0
        simp only [if_pos h4, if_pos h5, if_pos h6, hr7, hy]
        by_cases h8 : y ≥ x
        · simp only [if_pos h8]
          exact ev_const (by simp [show ¬ y < x by omega])
        · simp only [if_neg h8]
          exact ev_map ih' (by simp [show y < x by omega])

/-! spec_IsParcel -/
theorem spec_IsParcel_ev (f t : Int) (l : List Int) (h : Int) (hl : l.length ≤ 1099511627776) : Ev (fun k => spec_IsParcel.f k f t l h) (isParcel f t l h) := by
  simp only [spec_IsParcel.f, spec_l1In_eq, Option.bind_some, isParcel]
  cases h1 : inr f 1 9 with
  | false => exact Ev.now _
  | true =>
    cases h2 : inr t 1 9 with
    | false => exact Ev.now _
    | true =>
      by_cases h3 : f = t
      · simp only [if_true, if_pos h3]
        exact ev_const (by simp [h3])
      · cases h4 : inr (l.length : Int) 1 10 with
        | false =>
          simp only [if_true, if_neg h3]
          exact ev_const (by simp)
        | true =>
          simp only [if_true, if_neg h3]
          refine Ev.bind (spec_l7Ids_ev l 1 999 hl) ?_
          refine ev_const ?_
          rw [ite_and]
          simp [h3]

/-! spec_l9Put -/
theorem spec_l9Put_ev (l : List Int) (n : Int) (h : l.length ≤ 1099511627776) : Ev (fun k => spec_l9Put.f k l n) (put n l) := by
  refine ev_map (ev_range l (fun k (_ : List Int) i => spec_l9Put.l0 k l n i) (fun s r => s ++ put n r) (fun p s => s = p) (by omega) ?_ ?_ [] rfl) (by simp)
  · rintro s rfl
    simp only [spec_l9Put.l0, if_neg (Int.lt_irrefl _), Option.bind_some, if_pos (ge0 s.length), if_pos (Int.le_refl _), List.length_nil, Int.toNat_natCast, List.take_length, List.drop_length, List.nil_append, List.length_append, List.length_singleton]
    exact ev_const (by simp only [put, List.append_nil]; repeat rw [if_pos (by omega)])
  · rintro pre x rest s e hlt hget rfl ih
    have hr : rd l (s.length : Int) = x := hget 0
    have hl : l.length = s.length + (rest.length + 1) := by rw [e, len_pre]
    have ht : l.take s.length = s := by rw [e]; simp
    have hd : l.drop s.length = x :: rest := by rw [e]; simp
    simp only [spec_l9Put.l0, if_pos hlt, if_pos (ge0 s.length), hr, put]
    by_cases h1 : x < n
    · simp only [if_pos h1]
      exact ev_map (ih (s ++ [x]) rfl) (by simp)
    by_cases h2 : x = n
    · simp only [if_neg h1, if_pos h2, Option.bind_some, List.length_nil, List.nil_append]
      rw [if_pos (by omega)]
      exact ev_const (by rw [e])
    · simp only [if_neg h1, if_neg h2, Option.bind_some, if_pos (show (s.length : Int) ≤ (l.length : Int) by omega), List.length_nil, Int.toNat_natCast, ht, hd, List.nil_append, List.length_append, List.length_singleton, List.length_cons]
      exact ev_const (by rw [if_pos (by omega), if_pos (by omega), if_pos (by omega)]; simp)

/-! spec_l16Last -/
theorem spec_l16Last_ev (p q : List (S138)) (t : Int) (h : (p ++ q).length ≤ 1099511627776) : Ev (fun k => spec_l16Last.f k (p ++ q) t (p.length : Int)) (lastIx p t) := by
  have hlen : (p ++ q).length = p.length + q.length := List.length_append
  refine ev_range p (fun k (s : Int × Nat) i => spec_l16Last.l0 k (p ++ q) t (p.length : Int) s.1 i) (fun s r => lastFrom t s.2 s.1 r) (fun pre s => s.2 = pre.length) (by omega) ?_ ?_ (-1, 0) rfl
  · rintro ⟨a, n⟩ _
    simp only [spec_l16Last.l0, if_neg (Int.lt_irrefl _)]
    exact Ev.now _
  · rintro pre x rest ⟨a, n⟩ e hlt hget rfl ih
    have hr : rd_T138 (p ++ q) (pre.length : Int) = x := by
      rw [rd_T_app (by omega) hlt]
      exact hget _
    simp only [spec_l16Last.l0, if_pos hlt, if_pos (ge0 pre.length), if_pos (show (pre.length : Int) < ((p ++ q).length : Int) by omega), hr]
    by_cases hx : x.f0 = t
    · simp only [if_pos hx]
      exact ev_map (ih ((pre.length : Int), pre.length + 1) (by simp)) (by simp [lastFrom, hx])
    · simp only [if_neg hx]
      exact ev_map (ih (a, pre.length + 1) (by simp)) (by simp [lastFrom, hx])

/-! spec_Mod -/
theorem spec_Mod_eq (a : Int) : spec_Mod.f a 2147483647 = some (a % 2147483647) := by
  simp only [spec_Mod.f, spec_l1In_eq, Option.bind_some]
  rw [if_pos (by decide), if_neg (by decide), mod_up]

/-! spec_Hash -/
theorem spec_Hash_loop (rest : List Int) : ∀ (pre : List Int) (acc : Int), (pre ++ rest).length < 9223372036854775807 → Ev (fun k => spec_Hash.l0 k (pre ++ rest) acc (pre.length : Int)) (rest.foldl hstep acc) := by
  induction rest with
  | nil =>
    intro pre acc h
    refine ev_succ ?_
    simp only [spec_Hash.l0, if_neg (nlt_pre pre)]
    exact Ev.now _
  | cons x rest ih =>
    intro pre acc h
    have hl := len_pre pre x rest
    refine ev_succ ?_
    simp only [spec_Hash.l0, if_pos (lt_pre pre x rest), if_pos (ge0 pre.length), rd_pre, spec_Mod_eq, Option.bind_some, wsucc (show pre.length < 9223372036854775807 by omega)]
    rw [snoc_len pre x]
    have := ih (pre ++ [x]) (hstep acc x) (by rw [← app_pre]; exact h)
    rw [← app_pre] at this
    exact this
theorem spec_Hash_ev (l : List Int) (h : l.length < 9223372036854775807) : Ev (fun k => spec_Hash.f k l) (ghash l) := spec_Hash_loop l [] 11 h

/-! spec_HandSeal -/
theorem spec_HandSeal_ev (a b c d e f : Int) : Ev (fun k => spec_HandSeal.f k a b c d e f) (ghash [a, b, c, d, e]) := by
  simp only [spec_HandSeal.f]
  exact Ev.bind (spec_Hash_ev _ (by simp)) (Ev.now _)

/-! spec_IsChain -/
theorem spec_IsChain_j2_true (l : List (S138)) (s i a b c d e : Int) : Ev (fun k => spec_IsChain.j2 k l s i true a b c d e) false := by
  refine ev_succ ?_
  simp only [spec_IsChain.j2, if_true]
  exact Ev.now _
theorem spec_IsChain_j2_false {l pre rest : List (S138)} {x : S138} {s : Int} (e : l = pre ++ x :: rest) (hl : l.length ≤ 1099511627776) (R : Bool) (ih : Ev (fun k => spec_IsChain.l0 k l s (wrap64 ((pre.length : Int) + 1))) R) :
    Ev (fun k => spec_IsChain.j2 k l s (pre.length : Int) false x.f0 x.f1 x.f2 x.f3 x.f4) (hdStep pre x && R) := by
  have hb := lastIx_bounds pre x.f0
  have hlen : l.length = pre.length + (rest.length + 1) := by rw [e, len_pre]
  refine ev_succ ?_
  simp only [spec_IsChain.j2, Bool.false_eq_true, if_false]
  have h1 := spec_l16Last_ev pre (x :: rest) x.f0 (by rw [← e]; exact hl)
  rw [← e] at h1
  refine Ev.bind h1 ?_
  by_cases h2 : lastIx pre x.f0 < 0
  · by_cases h3 : x.f1 > 2
    · simp only [if_pos h2, if_pos h3]
      exact ev_const (by simp [hdStep, h2, show ¬ x.f1 ≤ 2 by omega])
    · simp only [if_pos h2, if_neg h3, if_neg (show ¬ lastIx pre x.f0 ≥ 0 by omega)]
      exact ev_map ih (by simp [hdStep, h2, show x.f1 ≤ 2 by omega])
  · by_cases h3 : x.f1 = 1
    · simp only [if_neg h2, if_pos (show lastIx pre x.f0 ≥ 0 by omega), if_pos h3]
      exact ev_const (by simp [hdStep, h2, h3])
    · have hr : rd_T138 l (lastIx pre x.f0) = rd_T138 pre (lastIx pre x.f0) := by rw [e, rd_T_app (by omega) hb.2]
      simp only [if_neg h2, if_pos (show lastIx pre x.f0 ≥ 0 by omega), if_neg h3, if_pos (show 0 ≤ lastIx pre x.f0 by omega), if_pos (show lastIx pre x.f0 < (l.length : Int) by omega), hr]
      by_cases h4 : (rd_T138 pre (lastIx pre x.f0)).f1 ≥ 3
      · simp only [if_pos h4]
        exact ev_const (by simp [hdStep, h2, show ¬ (rd_T138 pre (lastIx pre x.f0)).f1 ≤ 2 by omega])
      · simp only [if_neg h4]
        exact ev_map ih (by simp [hdStep, h2, h3, show (rd_T138 pre (lastIx pre x.f0)).f1 ≤ 2 by omega])
theorem spec_IsChain_ev (l : List (S138)) (hl : l.length ≤ 1099511627776) : Ev (fun k => spec_IsChain.f k l) (isChain l) := by
  by_cases hb : (l.length : Int) ≤ 100
  · refine ev_map (ev_range l (fun k (s : Int × List (S138)) i => spec_IsChain.l0 k l s.1 i) (fun s r => chainOk s.1 s.2 r) (fun p s => s.2 = p) (by omega) ?_ ?_ (0, []) rfl) (by simp [isChain, show l.length ≤ 100 by omega])
    · rintro ⟨s, p⟩ _
      simp only [spec_IsChain.l0, if_neg (Int.lt_irrefl _)]
      refine ev_succ ?_
      simp only [spec_IsChain.j1, Bool.false_eq_true, if_false]
      exact ev_const (by simp [chainOk]; omega)
    · rintro pre x rest ⟨s, p⟩ e hlt hget rfl ih
      have hr : rd_T138 l (p.length : Int) = x := hget _
      simp only [spec_IsChain.l0, if_pos hlt, decide_eq_true hb]
      refine ev_succ ?_
      simp only [spec_IsChain.j1, if_true, if_pos (ge0 p.length), if_pos hlt, hr]
      refine Ev.bind (spec_HandSeal_ev s x.f0 x.f1 x.f2 x.f3 x.f4) ?_
      have hs : ghash [s, x.f0, x.f1, x.f2, x.f3] = hseal s x := rfl
      simp only [spec_l1In_eq, Option.bind_some, chainOk, hdFits, hs]
      cases h1 : inr x.f0 1 999 with
      | false => exact spec_IsChain_j2_true _ _ _ _ _ _ _ _
      | true =>
        cases h2 : inr x.f1 1 5 with
        | false => exact spec_IsChain_j2_true _ _ _ _ _ _ _ _
        | true =>
          cases h3 : inr x.f2 0 999 with
          | false => exact spec_IsChain_j2_true _ _ _ _ _ _ _ _
          | true =>
            cases h4 : inr x.f3 0 100000 with
            | false => exact spec_IsChain_j2_true _ _ _ _ _ _ _ _
            | true =>
              by_cases h5 : x.f4 = hseal s x
              · have ih' := ih (hseal s x, p ++ [x]) rfl
                simp only [if_true, Bool.true_and, if_pos h5, decide_eq_true h5]
                rcases prev_cases e (by omega) with ⟨hp, hn⟩ | ⟨y, hy, h6, h7, h8, h9⟩
                · simp only [if_neg hn]
                  exact ev_map (spec_IsChain_j2_false e hl _ ih') (by simp [hdEarly, show p = [] from hp, h5])
                · have hr9 : rd_T138 l (wrap64 ((p.length : Int) - 1)) = y := h9 _
                  simp only [if_pos h6, if_pos h7, if_pos h8, hr9]
                  by_cases h10 : y.f3 > x.f3
                  · simp only [decide_eq_true h10]
                    exact ev_map (spec_IsChain_j2_true _ _ _ _ _ _ _ _) (by simp [hdEarly, show p.getLast? = some y from hy, show x.f3 < y.f3 from h10])
                  · simp only [decide_eq_false h10]
                    exact ev_map (spec_IsChain_j2_false e hl _ ih') (by simp [hdEarly, show p.getLast? = some y from hy, show ¬ x.f3 < y.f3 from h10, h5])
              · simp only [if_true, if_neg h5]
                exact ev_map (spec_IsChain_j2_true _ _ _ _ _ _ _ _) (by simp [h5])
  · unfold spec_IsChain.f
    refine ev_succ ?_
    simp only [spec_IsChain.l0, if_pos (show (0 : Int) < (l.length : Int) by omega), decide_eq_false hb]
    refine ev_succ ?_
    simp only [spec_IsChain.j1, Bool.false_eq_true, if_false, decide_eq_false hb]
    exact ev_const (by simp [isChain, show ¬ l.length ≤ 100 by omega])

/-! spec_InHouse -/
theorem spec_InHouse_ev (l : List (S138)) (h : Int) (hl : l.length ≤ 1099511627776) : Ev (fun k => spec_InHouse.f k l h) (inHouse l h) := by
  have jf : ∀ (s : List Int) (i : Int), Ev (fun k => spec_InHouse.j1 k l h s i false) s := by
    intro n i
    refine ev_succ ?_
    simp only [spec_InHouse.j1, Bool.false_eq_true, if_false]
    exact Ev.now _
  unfold inHouse
  cases hc : isChain l with
  | false =>
    simp only [Bool.false_eq_true, if_false]
    unfold spec_InHouse.f
    refine ev_succ ?_
    by_cases h0 : (0 : Int) < (l.length : Int)
    · simp only [spec_InHouse.l0, if_pos h0]
      refine Ev.bind (spec_IsChain_ev l hl) ?_
      rw [hc]
      exact jf _ _
    · simp only [spec_InHouse.l0, if_neg h0]
      exact jf _ _
  | true =>
    simp only [if_true]
    rw [← here_eq]
    refine ev_range l (fun k (s : List Int) i => spec_InHouse.l0 k l h s i) (fun s r => r.foldl (hereStep l h) s) (fun p s => s.length ≤ p.length) (by omega) ?_ ?_ [] (by simp)
    · rintro a _
      simp only [spec_InHouse.l0, if_neg (Int.lt_irrefl _)]
      exact jf _ _
    · rintro pre x rest a e hlt hget ha ih
      have hr : rd_T138 l (pre.length : Int) = x := hget _
      have ha' : a.length ≤ pre.length := ha
      have hls := spec_l16Last_ev l [] x.f0 (by simpa using hl)
      rw [List.append_nil] at hls
      obtain ⟨h4, h5, _⟩ := lastIx_of _ l rfl x (by rw [e]; simp)
      simp only [spec_InHouse.l0, if_pos hlt]
      refine Ev.bind (spec_IsChain_ev l hl) ?_
      rw [hc]
      refine ev_succ ?_
      simp only [spec_InHouse.j1, if_true, if_pos (ge0 pre.length), if_pos hlt, hr]
      refine Ev.bind hls ?_
      simp only [if_pos h4, if_pos h5]
      have hq := step_len l h a x
      by_cases h1 : (rd_T138 l (lastIx l x.f0)).f1 = 2
      · by_cases h2 : (rd_T138 l (lastIx l x.f0)).f2 = h
        · simp only [if_pos h1, if_pos h2]
          refine Ev.bind (spec_l9Put_ev a x.f0 (by omega)) ?_
          have e1 : hereStep l h a x = put x.f0 a := by unfold hereStep; rw [if_pos ⟨h1, h2⟩]
          have := ih (hereStep l h a x) (by simp; omega)
          rw [e1] at this
          exact ev_map this (by rw [List.foldl_cons, e1])
        · simp only [if_pos h1, if_neg h2]
          have e1 : hereStep l h a x = a := by unfold hereStep; rw [if_neg (fun q => h2 q.2)]
          exact ev_map (ih a (by simp; omega)) (by rw [List.foldl_cons, e1])
      · simp only [if_neg h1]
        have e1 : hereStep l h a x = a := by unfold hereStep; rw [if_neg (fun q => h1 q.1)]
        exact ev_map (ih a (by simp; omega)) (by rw [List.foldl_cons, e1])

/-! spec_AddHand -/
theorem spec_AddHand_j0 (l : List (S138)) (s a b c d e : Int) (hl : l.length ≤ 1099511627775) : Ev (fun k => spec_AddHand.j0 k l s a b c d e) (if isChain (withHand s l a b c d) = true then (withHand s l a b c d, true) else (l, false)) := by
  refine ev_succ ?_
  simp only [spec_AddHand.j0]
  refine Ev.bind (spec_HandSeal_ev s a b c d e) ?_
  simp only [Option.bind_some, List.length_nil, List.nil_append, Nat.zero_add, if_pos (show l.length < 3518437208883 by omega), List.length_singleton, if_pos (show l.length + 1 < 3518437208883 by omega)]
  refine Ev.bind (spec_IsChain_ev (withHand s l a b c d) (by simp [withHand]; omega)) ?_
  cases h : isChain (withHand s l a b c d) <;> exact Ev.now _
theorem spec_AddHand_ev (l : List (S138)) (a b c d e : Int) (hl : l.length ≤ 1099511627775) : Ev (fun k => spec_AddHand.f k l a b c d e) (addHand l a b c d) := by
  unfold spec_AddHand.f addHand lastSeal
  rcases last_cases l (by omega) with ⟨rfl, h⟩ | ⟨y, hy, h1, h2, h3, h4⟩
  · simp only [if_neg h]
    exact spec_AddHand_j0 [] 0 a b c d e hl
  · simp only [if_pos h1, if_pos h2, if_pos h3, h4, hy]
    exact spec_AddHand_j0 l y.f4 a b c d e hl

/-! spec_SendParcel -/
theorem spec_SendParcel_ev (l : List (S138)) (f t : Int) (ts : List Int) (h : Int) (hl : l.length ≤ 1048576) (ht : ts.length ≤ 1048576) : Ev (fun k => spec_SendParcel.f k l f t ts h) (sendParcel l f t ts h) := by
  have hin := inHouse_len l f
  unfold spec_SendParcel.f sendParcel
  simp only [Option.bind_some, List.nil_append, List.length_nil, Nat.zero_add, if_pos (show l.length < 3518437208883 by omega)]
  refine Ev.bind (spec_IsParcel_ev f t ts h (by omega)) ?_
  cases hp : isParcel f t ts h with
  | false =>
    simp only [Bool.false_eq_true, if_false]
    exact Ev.now _
  | true =>
    simp only [if_true]
    refine Ev.bind (spec_InHouse_ev l f (by omega)) ?_
    refine ev_range ts (fun k (s : List (S138)) i => spec_SendParcel.l0 k l s (inHouse l f) i f t ts h) (fun s r => sendEnd l (sendGo t h (inHouse l f) s r)) (fun p s => s.length ≤ l.length + p.length) (by omega) ?_ ?_ l (by simp)
    · intro s _
      simp only [spec_SendParcel.l0, if_neg (Int.lt_irrefl _)]
      exact Ev.now _
    · rintro pre x rest s e hlt hget hs ih
      have hr : rd ts (pre.length : Int) = x := hget _
      have hs' : s.length ≤ l.length + pre.length := hs
      have hlen := addHand_len s x 2 t h
      simp only [spec_SendParcel.l0, if_pos hlt, if_pos (ge0 pre.length), hr]
      refine Ev.bind (spec_AddHand_ev s x 2 t h 0 (by omega)) ?_
      by_cases h1 : (addHand s x 2 t h).2 = true
      · simp only [if_pos h1]
        refine Ev.bind (spec_l8Has_ev (inHouse l f) x (by omega)) ?_
        by_cases h2 : has (inHouse l f) x = true
        · simp only [if_pos h2]
          exact ev_map (ih (addHand s x 2 t h).1 (by simp only [List.length_append, List.length_singleton]; omega)) (by rw [show sendGo t h (inHouse l f) s (x :: rest) = sendGo t h (inHouse l f) (addHand s x 2 t h).1 rest from if_pos ⟨h1, h2⟩])
        · simp only [if_neg h2, Option.bind_some, List.nil_append, List.length_nil, Nat.zero_add, if_pos (show l.length < 3518437208883 by omega)]
          exact ev_const (by rw [show sendGo t h (inHouse l f) s (x :: rest) = none from if_neg (fun q => h2 q.2)]; rfl)
      · simp only [if_neg h1, Option.bind_some, List.nil_append, List.length_nil, Nat.zero_add, if_pos (show l.length < 3518437208883 by omega)]
        exact ev_const (by rw [show sendGo t h (inHouse l f) s (x :: rest) = none from if_neg (fun q => h1 q.1)]; rfl)

/-! laws_toIntS -/
theorem laws_toIntS_loop (rest : List Int) : ∀ (pre : List Int), (pre ++ rest).length ≤ 1099511627776 → Ev (fun k => laws_toIntS.l0 k (pre ++ rest) (pre ++ List.replicate rest.length (0 : Int)) (pre.length : Int)) (pre ++ rest) := by
  induction rest with
  | nil =>
    intro pre h
    refine ev_succ ?_
    simp only [laws_toIntS.l0, if_neg (nlt_pre pre)]
    exact ev_const (by simp)
  | cons x rest ih =>
    intro pre h
    have hl := len_pre pre x rest
    have hlt : (pre.length : Int) < ((pre ++ List.replicate (x :: rest).length (0 : Int)).length : Int) := by
      simp
      omega
    have hset : (pre ++ List.replicate (x :: rest).length (0 : Int)).set ((pre.length : Int)).toNat x = (pre ++ [x]) ++ List.replicate rest.length (0 : Int) := by
      simp [List.replicate_succ]
    refine ev_succ ?_
    simp only [laws_toIntS.l0, if_pos (lt_pre pre x rest), if_pos (ge0 pre.length), rd_pre, Option.bind_some, if_pos hlt, wsucc (show pre.length < 9223372036854775807 by omega)]
    refine ev_map (Ev.congr (fun k => ?_) (ih (pre ++ [x]) (by rw [← app_pre]; exact h))) (by rw [← app_pre pre x rest])
    rw [hset, snoc_len pre x, ← app_pre pre x rest]
theorem laws_toIntS_ev (l : List Int) (h : l.length ≤ 1048576) : Ev (fun k => laws_toIntS.f k l) (l) := by
  have e := laws_toIntS_loop l [] (by simp; omega)
  unfold laws_toIntS.f
  simp only [if_pos (ge0 l.length), if_pos (show ((l.length : Int)).toNat ≤ 35184372088832 by omega)]
  exact e

/-! laws_toParcelS -/
theorem laws_toParcelS_ev (l : List (S74)) (hl : l.length ≤ 1048576) (hs : sumT (l.map cParcel) ≤ 1048576) : Ev (fun k => laws_toParcelS.f k l) (l.map cParcel) := by
  unfold laws_toParcelS.f
  simp only [if_pos (ge0 l.length), if_pos (show ((l.length : Int)).toNat ≤ 5864062014805 by omega)]
  refine ev_range l (fun k (s : List (S53)) i => laws_toParcelS.l0 k l s i) (fun s r => s.take (l.length - r.length) ++ r.map cParcel) (fun p s => s.length = l.length ∧ s.take p.length = p.map cParcel) (by omega) ?_ ?_ (List.replicate ((l.length : Int)).toNat z53) (by simp) |> fun h => ev_map h (by simp)
  · intro s hs
    simp only [laws_toParcelS.l0, if_neg (Int.lt_irrefl _)]
    have h9 : s.take l.length = s := by rw [← hs.1, List.take_length]
    exact ev_const (by simp [h9])
  · rintro pre x rest s e hlt hget ⟨h1, h2⟩ ih
    have hr : rd_T74 l (pre.length : Int) = x := hget _
    have hx : x.f2.length ≤ sumT (l.map cParcel) := sumT_mem (l.map cParcel) (cParcel x) (List.mem_map_of_mem (by rw [e]; simp))
    have hn : l.length = pre.length + (rest.length + 1) := by rw [e, len_pre]
    have hto : Ev (fun k => laws_toParcel.f k x.f0 x.f1 x.f2 x.f3) (x.f0, x.f1, x.f2, x.f3) := Ev.bind (laws_toIntS_ev _ (by omega)) (Ev.now _)
    simp only [laws_toParcelS.l0, if_pos hlt, if_pos (ge0 pre.length), hr]
    refine Ev.bind hto ?_
    simp only [if_pos (show (pre.length : Int) < (s.length : Int) by omega), Int.toNat_natCast]
    have ht : (s.set pre.length (cParcel x)).take (pre.length + 1) = pre.map cParcel ++ [cParcel x] := by
      rw [List.take_add_one, List.take_set_of_le (Nat.le_refl _), h2, List.getElem?_set_self (by omega)]
      rfl
    refine ev_map (ih (s.set pre.length (cParcel x)) ⟨by rw [List.length_set, h1], by rw [List.length_append, List.map_append]; exact ht⟩) ?_
    simp only [List.length_cons]
    rw [show l.length - rest.length = pre.length + 1 by omega, show l.length - (rest.length + 1) = pre.length by omega, ht, h2]
    simp

/-! laws_eqIntS -/
theorem laws_eqIntS_loop (rest : List Int) : ∀ (pre : List Int), (pre ++ rest).length ≤ 1099511627776 → Ev (fun k => laws_eqIntS.l0 k (pre ++ rest) (pre ++ rest) (pre.length : Int)) true := by
  induction rest with
  | nil =>
    intro pre h
    refine ev_succ ?_
    simp only [laws_eqIntS.l0, if_neg (nlt_pre pre)]
    exact Ev.now _
  | cons x rest ih =>
    intro pre h
    have hl := len_pre pre x rest
    refine ev_succ ?_
    simp only [laws_eqIntS.l0, if_pos (lt_pre pre x rest), if_pos (ge0 pre.length), rd_pre, Option.bind_some, if_true, wsucc (show pre.length < 9223372036854775807 by omega)]
    refine Ev.congr (fun k => ?_) (ih (pre ++ [x]) (by rw [← app_pre]; exact h))
    rw [snoc_len pre x, ← app_pre]
theorem laws_eqIntS_refl (l : List Int) (h : l.length ≤ 1099511627776) : Ev (fun k => laws_eqIntS.f k l l) true := by
  have e := laws_eqIntS_loop l [] h
  unfold laws_eqIntS.f
  simp only [if_true]
  exact e

/-! laws_eqParcelS -/
theorem laws_eqParcelS_refl (l : List (S53)) (hl : l.length ≤ 1048576) (hs : sumT l ≤ 1048576) : Ev (fun k => laws_eqParcelS.f k l l) true := by
  unfold laws_eqParcelS.f
  simp only [if_true]
  refine ev_range l (fun k (_ : Unit) i => laws_eqParcelS.l0 k l l i) (fun _ _ => true) (fun _ _ => True) (by omega) ?_ ?_ () trivial
  · intro s _
    simp only [laws_eqParcelS.l0, if_neg (Int.lt_irrefl _)]
    exact Ev.now _
  · rintro pre x rest s e hlt hget _ ih
    have hr : rd_T53 l (pre.length : Int) = x := hget _
    have hx := sumT_mem l x (by rw [e]; simp)
    have hE : Ev (fun k => laws_eqParcel.f k x.f0 x.f1 x.f2 x.f3 x.f0 x.f1 x.f2 x.f3) true := by
      simp only [laws_eqParcel.f, if_true]
      refine Ev.bind (laws_eqIntS_refl x.f2 (by omega)) ?_
      simp only [if_true]
      exact Ev.now _
    simp only [laws_eqParcelS.l0, if_pos hlt, if_pos (ge0 pre.length), hr]
    refine Ev.bind hE ?_
    simp only [if_true]
    exact ih () trivial

/-! marked_Int -/
def markedInt : List Int → Int → List Int
  | [], _ => []
  | _ :: l, a => a :: markedInt l (a + 1)
theorem markedInt_length (l : List Int) : ∀ a, (markedInt l a).length = l.length := by
  induction l with
  | nil => intro a; rfl
  | cons x l ih => intro a; simp [markedInt, ih]
-- Int

/-! laws_markIntS -/
theorem laws_markIntS_loop (rest : List Int) : ∀ (pre : List Int) (a : Int), 0 ≤ a → a + 1 * (rest.length : Int) ≤ 9223372036854775000 → (pre ++ rest).length ≤ 1099511627776 → Ev (fun k => laws_markIntS.l0 k (pre ++ rest) a (pre.length : Int)) (a + 1 * (rest.length : Int), pre ++ markedInt rest a) := by
  induction rest with
  | nil =>
    intro pre a h0 h1 h
    refine ev_succ ?_
    simp only [laws_markIntS.l0, if_neg (nlt_pre pre)]
    exact ev_const (by simp [markedInt])
  | cons x rest ih =>
    intro pre a h0 h1 h
    have hl := len_pre pre x rest
    rw [List.length_cons] at h1
    refine ev_succ ?_
    simp only [laws_markIntS.l0, if_pos (lt_pre pre x rest), if_pos (ge0 pre.length), rd_pre, set_pre, Option.bind_some, wsucc (show pre.length < 9223372036854775807 by omega), w64 (x := a + 1) (by omega) (by omega)]
    refine Ev.congr (fun k => ?_) (ev_map (ih (pre ++ [a]) (a + 1) (by omega) (by omega) (by rw [← app_pre, len_pre]; omega)) ?_)
    · rw [← app_pre, List.length_append, List.length_singleton]
    · simp only [markedInt, List.length_cons, List.append_assoc, List.singleton_append, Prod.mk.injEq, and_true]
      omega
theorem laws_markIntS_ev (l : List Int) (a : Int) (h0 : 0 ≤ a) (h1 : a ≤ 1099511627776) (h : l.length ≤ 1099511627776) : Ev (fun k => laws_markIntS.f k l a) (a + 1 * (l.length : Int), markedInt l a) := laws_markIntS_loop l [] a h0 (by omega) h

/-! laws_markParcelS -/
theorem laws_markParcelS_ev (l : List (S53)) (a : Int) (h0 : 0 ≤ a) (h1 : a ≤ 10000000) (hl : l.length ≤ 1048576) (hs : sumT l ≤ 1048576) : Ev (fun k => laws_markParcelS.f k l a) (a + 3 * (l.length : Int) + (sumT l : Int)) := by
  unfold laws_markParcelS.f
  refine ev_range l (fun k (s : List (S53) × Int) i => laws_markParcelS.l0 k s.1 s.2 i) (fun s r => s.2 + 3 * (r.length : Int) + (sumT r : Int)) (fun p s => s.1.length = l.length ∧ s.1.drop p.length = l.drop p.length ∧ 0 ≤ s.2 ∧ s.2 + 3 * ((l.drop p.length).length : Int) + (sumT (l.drop p.length) : Int) ≤ 20000000) (by omega) ?_ ?_ (l, a) ⟨rfl, rfl, h0, by simp only [List.length_nil, List.drop_zero]; omega⟩
  · rintro ⟨s, b⟩ ⟨h2, h3, h4⟩
    simp only [laws_markParcelS.l0, h2, if_neg (Int.lt_irrefl _)]
    exact ev_const (by simp [sumT])
  · rintro pre x rest ⟨s, b⟩ e hlt hget ⟨h2, h3, h4, h5⟩ ih
    have hd : l.drop pre.length = x :: rest := by rw [e, List.drop_left]
    rw [hd] at h3 h5
    have h6 : sumT (x :: rest) = x.f2.length + sumT rest := rfl
    have hx := sumT_mem l x (by rw [e]; simp)
    have hn : l.length = pre.length + (rest.length + 1) := by rw [e, len_pre]
    have hr : laws_markParcelS.at_ s (pre.length : Int) = x := by
      show s.getD ((pre.length : Int)).toNat _ = x
      have h7 : (s.drop pre.length)[0]? = some x := by rw [h3]; rfl
      rw [List.getElem?_drop, Nat.add_zero] at h7
      rw [Int.toNat_natCast, List.getD_eq_getElem?_getD, h7]
      rfl
    simp only at h2 h3 h4 h5
    rw [List.length_cons] at h5
    have e1 : wrap64 (b + 1) = b + 1 := w64 (by omega) (by omega)
    have e2 : wrap64 (b + 1 + 1) = b + 1 + 1 := w64 (by omega) (by omega)
    simp only [laws_markParcelS.l0, h2, if_pos hlt, if_pos (ge0 pre.length), hr, e1, e2]
    refine Ev.bind (laws_markIntS_ev x.f2 (b + 1 + 1) (by omega) (by omega) (by omega)) ?_
    simp only [Int.toNat_natCast]
    have e3 : wrap64 (b + 1 + 1 + 1 * (x.f2.length : Int) + 1) = b + 1 + 1 + 1 * (x.f2.length : Int) + 1 := w64 (by omega) (by omega)
    simp only [e3]
    generalize (⟨b, b + 1, markedInt x.f2 (b + 1 + 1), b + 1 + 1 + 1 * (x.f2.length : Int)⟩ : S53) = y
    have hd2 : (s.set pre.length y).drop (pre.length + 1) = rest := by
      rw [List.drop_set_of_lt (by omega), ← List.drop_drop, h3]
      rfl
    have hd3 : l.drop (pre ++ [x]).length = rest := by rw [e, show pre ++ x :: rest = (pre ++ [x]) ++ rest by simp, List.drop_left]
    refine ev_map (ih (s.set pre.length y, b + 1 + 1 + 1 * (x.f2.length : Int) + 1) ⟨by rw [List.length_set, h2], ?_, by simp only []; omega, ?_⟩) ?_
    · rw [hd3, List.length_append]
      exact hd2
    · rw [hd3]
      simp only []
      omega
    · simp only [h6, List.length_cons]
      omega

/-! sendAllG -/
def sendStep (s : List (S138) × Int) (p : S53) : List (S138) × Int :=
  if (sendParcel s.1 p.f0 p.f1 p.f2 p.f3).2 = true then ((sendParcel s.1 p.f0 p.f1 p.f2 p.f3).1, wrap64 (s.2 + 1)) else ((sendParcel s.1 p.f0 p.f1 p.f2 p.f3).1, s.2)
theorem sendStep_len (s : List (S138) × Int) (p : S53) : (sendStep s p).1.length ≤ s.1.length + p.f2.length := by
  have := sendParcel_len s.1 p.f0 p.f1 p.f2 p.f3
  unfold sendStep
  split <;> exact this
theorem sendAll_len : ∀ (ps : List (S53)) (s : List (S138) × Int), (ps.foldl sendStep s).1.length ≤ s.1.length + sumT ps
  | [], s => Nat.le_refl _
  | p :: ps, s => by
    have h1 := sendAll_len ps (sendStep s p)
    have h2 := sendStep_len s p
    have h3 : sumT (p :: ps) = p.f2.length + sumT ps := rfl
    rw [List.foldl_cons]
    omega

/-! impl_SendAllG -/
theorem impl_SendAll_ev (l : List (S138)) (ps : List (S53)) (hl : l.length + sumT ps ≤ 1048576) (hp : ps.length ≤ 1048576) : Ev (fun k => impl_SendAll.f k l ps) (ps.foldl sendStep (l, 0)) := by
  unfold impl_SendAll.f
  simp only [clone_Hand_eq l (by omega), Option.bind_some]
  refine ev_range ps (fun k (s : List (S138) × Int) i => impl_SendAll.l0 k s.1 s.2 ps (ps.length : Int) i) (fun s r => r.foldl sendStep s) (fun p s => s.1.length + sumT (ps.drop p.length) ≤ 1048576) (by omega) ?_ ?_ (l, 0) (by simpa using hl)
  · rintro ⟨s, n⟩ _
    simp only [impl_SendAll.l0, if_neg (Int.lt_irrefl _)]
    exact Ev.now _
  · rintro pre x rest ⟨s, n⟩ e hlt hget hs ih
    have hr : rd_T53 ps (pre.length : Int) = x := hget _
    have hs' : s.length + sumT (ps.drop pre.length) ≤ 1048576 := hs
    have hd : ps.drop pre.length = x :: rest := by rw [e, List.drop_left]
    have hd3 : ps.drop (pre ++ [x]).length = rest := by rw [e, show pre ++ x :: rest = (pre ++ [x]) ++ rest by simp, List.drop_left]
    have h6 : sumT (x :: rest) = x.f2.length + sumT rest := rfl
    rw [hd, h6] at hs'
    have hstep : (sendStep (s, n) x).1.length ≤ s.length + x.f2.length := sendStep_len (s, n) x
    simp only [impl_SendAll.l0, if_pos hlt, if_pos (ge0 pre.length), hr]
    refine Ev.bind (impl_SendParcel_ev s x.f0 x.f1 x.f2 x.f3 (by omega) (by omega)) ?_
    have hI := ih (sendStep (s, n) x) (by rw [hd3]; omega)
    rw [List.foldl_cons]
    by_cases h1 : (sendParcel s x.f0 x.f1 x.f2 x.f3).2 = true
    · simp only [if_pos h1]
      rw [show sendStep (s, n) x = ((sendParcel s x.f0 x.f1 x.f2 x.f3).1, wrap64 (n + 1)) from if_pos h1] at hI ⊢
      exact hI
    · simp only [if_neg h1]
      rw [show sendStep (s, n) x = ((sendParcel s x.f0 x.f1 x.f2 x.f3).1, n) from if_neg h1] at hI ⊢
      exact hI

/-! spec_SendAllG -/
theorem spec_SendAll_ev (l : List (S138)) (ps : List (S53)) (hl : l.length + sumT ps ≤ 1048576) (hp : ps.length ≤ 1048576) : Ev (fun k => spec_SendAll.f k l ps) (ps.foldl sendStep (l, 0)) := by
  unfold spec_SendAll.f
  simp only [Option.bind_some, List.nil_append, List.length_nil, Nat.zero_add, if_pos (show l.length < 3518437208883 by omega)]
  refine ev_range ps (fun k (s : List (S138) × Int) i => spec_SendAll.l0 k ps s.1 s.2 i) (fun s r => r.foldl sendStep s) (fun p s => s.1.length + sumT (ps.drop p.length) ≤ 1048576) (by omega) ?_ ?_ (l, 0) (by simpa using hl)
  · rintro ⟨s, n⟩ _
    simp only [spec_SendAll.l0, if_neg (Int.lt_irrefl _)]
    exact Ev.now _
  · rintro pre x rest ⟨s, n⟩ e hlt hget hs ih
    have hr : rd_T53 ps (pre.length : Int) = x := hget _
    have hs' : s.length + sumT (ps.drop pre.length) ≤ 1048576 := hs
    have hd : ps.drop pre.length = x :: rest := by rw [e, List.drop_left]
    have hd3 : ps.drop (pre ++ [x]).length = rest := by rw [e, show pre ++ x :: rest = (pre ++ [x]) ++ rest by simp, List.drop_left]
    have h6 : sumT (x :: rest) = x.f2.length + sumT rest := rfl
    rw [hd, h6] at hs'
    have hstep : (sendStep (s, n) x).1.length ≤ s.length + x.f2.length := sendStep_len (s, n) x
    simp only [spec_SendAll.l0, if_pos hlt, if_pos (ge0 pre.length), hr]
    refine Ev.bind (spec_SendParcel_ev s x.f0 x.f1 x.f2 x.f3 (by omega) (by omega)) ?_
    have hI := ih (sendStep (s, n) x) (by rw [hd3]; omega)
    rw [List.foldl_cons]
    by_cases h1 : (sendParcel s x.f0 x.f1 x.f2 x.f3).2 = true
    · simp only [if_pos h1]
      rw [show sendStep (s, n) x = ((sendParcel s x.f0 x.f1 x.f2 x.f3).1, wrap64 (n + 1)) from if_pos h1] at hI ⊢
      exact hI
    · simp only [if_neg h1]
      rw [show sendStep (s, n) x = ((sendParcel s x.f0 x.f1 x.f2 x.f3).1, n) from if_neg h1] at hI ⊢
      exact hI

/-! the law -/
theorem Pf.FnExactSendAll : FnExactSendAllLaw := by
  intro l0 l1 hm0 hq0 hm1 hq1
  refine Ev.rounds ?_
  unfold laws_FnExactSendAll.f
  by_cases hl0 : (l0.length : Int) ≤ 1048576
  · have hsz0 : ¬ (1048576 - (l0.length : Int) < 0) := by omega
    simp only [laws_szHandS_ok l0 (1048576) hl0 (by omega), Option.bind_some, if_neg hsz0]
    refine Ev.bind (laws_szParcelS_ev l1 (1048576 - (l0.length : Int)) (by omega) (by omega) hm1 (fun y hy => (hq1 y hy).2.2.1.1)) ?_
    by_cases hl1 : (l1.length : Int) + (sumT (l1.map cParcel) : Int) ≤ 1048576 - (l0.length : Int)
    · have hp : l1.length ≤ 1048576 := by omega
      have hp' : (l1.map cParcel).length ≤ 1048576 := by rw [List.length_map]; exact hp
      have hs : sumT (l1.map cParcel) ≤ 1048576 := by omega
      have hc0 : (l0.map cHand).length ≤ 1048576 := by rw [List.length_map]; omega
      have hcs : (l0.map cHand).length + sumT (l1.map cParcel) ≤ 1048576 := by rw [List.length_map]; omega
      have hR0 := sendAll_len (l1.map cParcel) (l0.map cHand, 0)
      have hS := spec_SendAll_ev (l0.map cHand) (l1.map cParcel) hcs hp'
      have hI := impl_SendAll_ev (l0.map cHand) (l1.map cParcel) hcs hp'
      generalize (l1.map cParcel).foldl sendStep (l0.map cHand, 0) = z at hR0 hS hI
      have hR1 : z.1.length ≤ 1048576 := Nat.le_trans hR0 hcs
      have hr0 : ¬ ((1 : Int) + 5 * (z.1.length : Int) < 0) := by omega
      have hk1 : ¬ ((1 : Int) + 5 * ((l0.map cHand).length : Int) + 3 * ((l1.map cParcel).length : Int) + (sumT (l1.map cParcel) : Int) < 0) := by omega
      simp only [if_pos hl1, if_neg (show ¬ (1048576 - (l0.length : Int) - (l1.length : Int) - (sumT (l1.map cParcel) : Int) < 0) by omega)]
      repeat' first
        | exact Ev.now _
        | refine Ev.bind hS ?_
        | refine Ev.bind hI ?_
        | refine Ev.bind (laws_toHandS_ev _ (by omega)) ?_
        | refine Ev.bind (laws_toParcelS_ev _ hp hs) ?_
        | refine Ev.bind (laws_eqParcelS_refl _ hp' hs) ?_
        | refine Ev.bind (laws_eqHandS_refl _ (by omega)) ?_
        | refine Ev.bind (laws_markParcelS_ev _ _ (by omega) (by omega) hp' hs) ?_
        | refine Ev.bind (laws_markHandS_ev _ _ (by omega) (by omega) (by omega)) ?_
        | refine Ev.bind (laws_heldHandS_ev _ _ (by omega) (by omega) (by omega)) ?_
        | simp only [if_true, if_false, bne_self_eq_false, Bool.false_eq_true, Option.bind_some, if_neg hk1, if_neg hr0]
        | (refine ev_succ ?_; simp only [laws_FnExactSendAll.j0])
        | (refine ev_succ ?_; simp only [laws_FnExactSendAll.j1])
        | (refine ev_succ ?_; simp only [laws_FnExactSendAll.j2])
    · simp only [if_neg hl1, if_pos (show (-1 : Int) < 0 by decide)]
      exact Ev.now _
  · simp only [laws_szHandS_big l0 (1048576) (by omega) (by omega) hm0, Option.bind_some]
    exact Ev.now _

end Go.Proofs.Ytejhjenlodclpaa.PFnExactSendAll
