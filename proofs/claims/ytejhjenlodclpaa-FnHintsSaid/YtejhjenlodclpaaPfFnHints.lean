/- The plain part of FnHints: what the printed functions come to, and that the law's answer is true. No conditions beyond those of the statement. -/
import Derived.Test.YtejhjenlodclpaaPFnHintsx
import Derived.Test.YtejhjenlodclpaaBaseFnHints
import Derived.Test.YtejhjenlodclpaaDefFnHints
/- narrow -/
namespace Go.Proofs.Ytejhjenlodclpaa.PFnHints
open Go.RowKit Go.Proofs.YtejhjenlodclpaaW.PrintWords Go.Proofs.YtejhjenlodclpaaW.PrintMore Go.Proofs.Ytejhjenlodclpaa.Base
set_option linter.unusedVariables false
set_option linter.unusedSimpArgs false

/-! impl_InRange -/
theorem impl_InRange_eq (a b c : Int) : impl_InRange.f a b c = some (inr a b c) := by
 unfold impl_InRange.f inr
 by_cases h : b ≤ a <;> simp [h]

/-! impl_IsThing -/
theorem impl_IsThing_eq (a b c d e : Int) : impl_IsThing.f a b c d e = some (isThing a b c d e) := by
 simp only [impl_IsThing.f, impl_InRange_eq, Option.bind_some, ite_and, isThing]

/-! impl_IsFind -/
theorem impl_IsFind_eq (a b c d e f g h : Int) : impl_IsFind.f a b c d e f g h = some (isFind a b c d e f g h) := by
 simp only [impl_IsFind.f, impl_IsThing_eq, impl_InRange_eq, Option.bind_some, ite_and, isFind]

/-! type_113 -/
theorem rd_T113_pre (pre : List (S113)) (x : S113) (rest : List (S113)) : rd_T113 (pre ++ x :: rest) (pre.length : Int) = x := getD_pre pre x rest z113

/-! areFinds -/
def fdFits (x : S113) : Bool := isFind x.f0.f0 x.f0.f1 x.f0.f2 x.f0.f3 x.f0.f4 x.f1 x.f2 x.f3
def fdOk : Option (S113) → List (S113) → Bool
 | _, [] => true
 | p, x :: rest => fdFits x && ((match p with | none => true | some y => decide (y.f0.f0 < x.f0.f0)) && fdOk (some x) rest)
def areFinds (l : List (S113)) : Bool := decide (l.length ≤ 20) && fdOk none l
theorem fdOk_lt : ∀ (l : List (S113)) (y : S113), fdOk (some y) l = true → ∀ x ∈ l, y.f0.f0 < x.f0.f0
 | [], _, _ => by simp
 | z :: l, y, h => by
  simp only [fdOk, Bool.and_eq_true, decide_eq_true_eq] at h
  intro x hx
  rcases List.mem_cons.1 hx with rfl | hx
  ·exact h.2.1
  ·have := fdOk_lt l z h.2.2 x hx
   omega
theorem fdOk_inj : ∀ (l : List (S113)) (p : Option (S113)), fdOk p l = true → ∀ x ∈ l, ∀ y ∈ l, x.f0.f0 = y.f0.f0 → x = y
 | [], _, _ => by simp
 | z :: l, p, h => by
  simp only [fdOk, Bool.and_eq_true] at h
  have h1 := fdOk_lt l z h.2.2
  have h2 := fdOk_inj l (some z) h.2.2
  intro x hx y hy e
  rcases List.mem_cons.1 hx with ex | hx1
  ·rcases List.mem_cons.1 hy with ey | hy1
   ·rw [ex, ey]
   ·have := h1 y hy1
    rw [ex] at e
    omega
  ·rcases List.mem_cons.1 hy with ey | hy1
   ·have := h1 x hx1
    rw [ey] at e
    omega
   ·exact h2 x hx1 y hy1 e

/-! impl_AreFinds -/
theorem impl_AreFinds_ev (l : List (S113)) (hl : l.length < 9223372036854775807) : Ev (fun k => impl_AreFinds.f k l) (areFinds l) := by
 unfold impl_AreFinds.f areFinds
 by_cases hb : (l.length : Int) > 20
 ·simp only [if_pos hb]
  exact ev_const (by simp; omega)
 ·simp only [if_neg hb, show decide (l.length ≤ 20) = true from decide_eq_true (by omega), Bool.true_and]
  refine ev_range l (fun k (_ : Option (S113)) i => impl_AreFinds.l0 k l l (l.length : Int) i) (fun s r => fdOk s r) (fun p s => s = p.getLast?) hl ?_ ?_ none rfl
  ·intro s _
   simp only [impl_AreFinds.l0, if_neg (Int.lt_irrefl _)]
   exact Ev.now _
  ·rintro pre x rest s e hlt hget rfl ih
   have hr : rd_T113 l (pre.length : Int) = x := hget _
   have ih' := ih (some x) (by simp)
   have hf : isFind x.f0.f0 x.f0.f1 x.f0.f2 x.f0.f3 x.f0.f4 x.f1 x.f2 x.f3 = fdFits x := rfl
   simp only [impl_AreFinds.l0, if_pos hlt, if_pos (ge0 pre.length), hr, impl_IsFind_eq, Option.bind_some, fdOk, hf]
   cases h1 : fdFits x with
   | false => exact Ev.now _
   | true =>
    simp only [if_true, Bool.true_and]
    rcases prev_cases e hl with ⟨hp, hn⟩ | ⟨y, hy, h4, h5, h6, h7⟩
    ·simp only [if_neg hn]
     exact ev_map ih' (by simp [hp])
    ·have hr7 : rd_T113 l (wrap64 ((pre.length : Int) - 1)) = y := h7 _
     simp only [if_pos h4, if_pos h5, if_pos h6, hr7, hy]
     by_cases h8 : x.f0.f0 ≤ y.f0.f0
     ·simp only [if_pos h8]
      exact ev_const (by simp [show ¬ y.f0.f0 < x.f0.f0 by omega])
     ·simp only [if_neg h8]
      exact ev_map ih' (by simp [show y.f0.f0 < x.f0.f0 by omega])

/-! impl_Mod -/
theorem impl_Mod_eq (a : Int) : impl_Mod.f a 2147483647 = some (a % 2147483647) := by
 simp only [impl_Mod.f, impl_InRange_eq, Option.bind_some]
 rw [if_pos (by decide), if_neg (by decide)]
 by_cases h : Int.tmod a 2147483647 < 0
 ·rw [if_pos h, mod_lo a h]
 ·rw [if_neg h, mod_hi a h]

/-! impl_fold -/
theorem impl_fold_eq (a v : Int) : impl_fold.f a v = some (hstep a v) := by
 simp only [impl_fold.f, impl_Mod_eq, Option.bind_some, hstep]

/-! impl_Hash -/
theorem impl_Hash_loop (rest : List Int) : ∀ (pre : List Int) (acc : Int), (pre ++ rest).length < 9223372036854775807 → Ev (fun k => impl_Hash.l0 k acc (pre ++ rest) ((pre ++ rest).length : Int) (pre.length : Int)) (rest.foldl hstep acc) := by
 induction rest with
 | nil =>
  intro pre acc h
  refine ev_succ ?_
  simp only [impl_Hash.l0, if_neg (nlt_pre pre)]
  exact Ev.now _
 | cons x rest ih =>
  intro pre acc h
  have hl := len_pre pre x rest
  refine ev_succ ?_
  simp only [impl_Hash.l0, if_pos (lt_pre pre x rest), if_pos (ge0 pre.length), rd_pre, impl_fold_eq, Option.bind_some, wsucc (show pre.length < 9223372036854775807 by omega)]
  rw [snoc_len pre x]
  have := ih (pre ++ [x]) (hstep acc x) (by rw [← app_pre]; exact h)
  rw [← app_pre] at this
  exact this
theorem impl_Hash_ev (l : List Int) (h : l.length < 9223372036854775807) : Ev (fun k => impl_Hash.f k l) (ghash l) := impl_Hash_loop l [] 11 h

/-! impl_hint -/
theorem impl_hint_ev (s b c d : Int) : Ev (fun k => impl_hint.f k s b c d) (ghash [s, b, c, wrap64 (Int.tdiv d 10)]) := by
 simp only [impl_hint.f]
 exact Ev.bind (impl_Hash_ev _ (by simp)) (Ev.now _)

/-! impl_HintOf -/
theorem impl_HintOf_ev (a b c d e s : Int) : Ev (fun k => impl_HintOf.f k a b c d e s) (ghash [s, b, c, wrap64 (Int.tdiv d 10)]) := by
 simp only [impl_HintOf.f]
 exact Ev.bind (impl_hint_ev _ _ _ _) (Ev.now _)

/-! put -/
/-- x goes into an ascending list, once. -/
def put (n : Int) : List Int → List Int
 | [] => [n]
 | x :: l => if x < n then x :: put n l else if x = n then x :: l else n :: x :: l
def asc (l : List Int) : Prop := l.Pairwise (fun a b => a < b)
theorem put_len (n : Int) : ∀ l : List Int, (put n l).length ≤ l.length + 1
 | [] => by simp [put]
 | x :: l => by
  have := put_len n l
  unfold put
  split
  ·simp only [List.length_cons]; omega
  split
  ·simp
  ·simp
theorem mem_put (n z : Int) : ∀ l : List Int, z ∈ put n l ↔ z = n ∨ z ∈ l
 | [] => by simp [put]
 | x :: l => by
  have ih := mem_put n z l
  unfold put
  split
  ·simp only [List.mem_cons, ih]
   constructor
   ·rintro (h | h | h)
    ·exact .inr (.inl h)
    ·exact .inl h
    ·exact .inr (.inr h)
   ·rintro (h | h | h)
    ·exact .inr (.inl h)
    ·exact .inl h
    ·exact .inr (.inr h)
  split
  ·rename_i h
   subst h
   simp only [List.mem_cons]
   constructor
   ·exact .inr
   ·rintro (h | h | h)
    ·exact .inl h
    ·exact .inl h
    ·exact .inr h
  ·simp only [List.mem_cons]
theorem put_asc (n : Int) : ∀ l : List Int, asc l → asc (put n l)
 | [], _ => by simp [put, asc]
 | x :: l, h => by
  obtain ⟨h1, h2⟩ := List.pairwise_cons.1 h
  have ih := put_asc n l h2
  unfold put
  split
  ·rename_i hx
   refine List.pairwise_cons.2 ⟨fun z hz => ?_, ih⟩
   rcases (mem_put n z l).1 hz with rfl | hz
   ·exact hx
   ·exact h1 z hz
  split
  ·exact h
  ·rename_i hx hn
   refine List.pairwise_cons.2 ⟨fun z hz => ?_, h⟩
   rcases List.mem_cons.1 hz with rfl | hz
   ·omega
   ·have := h1 z hz
    omega
theorem asc_ext : ∀ (l l' : List Int), asc l → asc l' → (∀ z, z ∈ l ↔ z ∈ l') → l = l'
 | [], [], _, _, _ => rfl
 | [], y :: l', _, _, h => by
  have := (h y).2 (by simp)
  simp at this
 | x :: l, [], _, _, h => by
  have := (h x).1 (by simp)
  simp at this
 | x :: l, y :: l', h1, h2, h => by
  obtain ⟨a1, a2⟩ := List.pairwise_cons.1 h1
  obtain ⟨b1, b2⟩ := List.pairwise_cons.1 h2
  have e : x = y := by
   rcases List.mem_cons.1 ((h x).1 (by simp)) with e | e
   ·exact e
   rcases List.mem_cons.1 ((h y).2 (by simp)) with e' | e'
   ·exact e'.symm
   have := a1 y e'
   have := b1 x e
   omega
  subst e
  rw [asc_ext l l' a2 b2 (fun z => ?_)]
  constructor
  ·intro hz
   rcases List.mem_cons.1 ((h z).1 (List.mem_cons_of_mem _ hz)) with e | e
   ·have := a1 z hz
    omega
   ·exact e
  ·intro hz
   rcases List.mem_cons.1 ((h z).2 (List.mem_cons_of_mem _ hz)) with e | e
   ·have := b1 z hz
    omega
   ·exact e
def puts (s l : List Int) : List Int := l.foldl (fun s x => put x s) s
theorem puts_asc : ∀ (l s : List Int), asc s → asc (puts s l)
 | [], s, h => h
 | x :: l, s, h => puts_asc l (put x s) (put_asc x s h)
theorem mem_puts (z : Int) : ∀ (l s : List Int), z ∈ puts s l ↔ z ∈ s ∨ z ∈ l
 | [], s => by simp [puts]
 | x :: l, s => by
  have ih := mem_puts z l (put x s)
  have e : puts s (x :: l) = puts (put x s) l := rfl
  rw [e, ih, mem_put, List.mem_cons]
  constructor
  ·rintro ((h | h) | h)
   ·exact .inr (.inl h)
   ·exact .inl h
   ·exact .inr (.inr h)
  ·rintro (h | h | h)
   ·exact .inl (.inr h)
   ·exact .inl (.inl h)
   ·exact .inr h
theorem puts_len : ∀ (l s : List Int), (puts s l).length ≤ s.length + l.length
 | [], s => by simp [puts]
 | x :: l, s => by
  have := puts_len l (put x s)
  have h := put_len x s
  have e : puts s (x :: l) = puts (put x s) l := rfl
  rw [e, List.length_cons]
  omega
theorem asc_nil : asc [] := List.Pairwise.nil
def msort (l : List Int) : List Int := l.mergeSort fun x y => decide (x ≤ y)
theorem msort_len (l : List Int) : (msort l).length = l.length := List.length_mergeSort l
theorem mem_msort (z : Int) (l : List Int) : z ∈ msort l ↔ z ∈ l := List.mem_mergeSort
theorem msort_le (l : List Int) : (msort l).Pairwise (fun a b => a ≤ b) := by
 have := List.pairwise_mergeSort (le := fun x y : Int => decide (x ≤ y)) (fun a b c h1 h2 => by simp at h1 h2 ⊢; omega) (fun a b => by simp; omega) l
 exact this.imp (fun h => by simpa using h)
theorem msort_asc (l : List Int) (h : l.Nodup) : asc (msort l) := by
 have h1 := msort_le l
 have h2 : (msort l).Nodup := (List.mergeSort_perm l _).nodup_iff.2 h
 exact (h1.and h2).imp (fun ⟨a, b⟩ => by omega)

/-! united -/
def uni (l m : List Int) : List Int := Lib.compact (msort (l ++ m))
theorem get_toArray (zs : List Int) (i : Nat) (h : i < zs.length) : zs.toArray[i]! = zs[i] := by
 simp [getElem!_pos, h]
theorem mem_compact (z : Int) (zs : List Int) : z ∈ Lib.compact zs ↔ z ∈ zs := by
 unfold Lib.compact Lib.compactUpTo
 constructor
 ·intro h
  obtain ⟨i, hi, rfl⟩ := List.mem_map.1 h
  have hi' : i < zs.length := List.mem_range.1 (List.mem_filter.1 hi).1
  rw [get_toArray zs i hi']
  exact List.getElem_mem _
 ·intro h
  obtain ⟨j, hj, rfl⟩ := List.getElem_of_mem h
  have key : ∀ n i : Nat, i ≤ n → ∀ (hi : i < zs.length), zs[i] = zs[j] → ∃ k, k < zs.length ∧ Lib.keeps zs.toArray k = true ∧ zs.toArray[k]! = zs[j] := by
   intro n
   induction n with
   | zero =>
    intro i hi hil e
    refine ⟨i, hil, ?_, by rw [get_toArray zs i hil]; exact e⟩
    unfold Lib.keeps
    exact decide_eq_true (.inl (by omega))
   | succ n ih =>
    intro i hi hil e
    by_cases h0 : i = 0
    ·exact ⟨i, hil, by unfold Lib.keeps; exact decide_eq_true (.inl h0), by rw [get_toArray zs i hil]; exact e⟩
    by_cases h1 : zs.toArray[i]! = zs.toArray[i - 1]!
    ·refine ih (i - 1) (by omega) (by omega) ?_
     rw [get_toArray zs i hil, get_toArray zs (i - 1) (by omega)] at h1
     rw [← h1]
     exact e
    ·exact ⟨i, hil, by unfold Lib.keeps; exact decide_eq_true (.inr h1), by rw [get_toArray zs i hil]; exact e⟩
  obtain ⟨k, hk, h2, h3⟩ := key j j (Nat.le_refl _) hj rfl
  rw [← h3]
  exact List.mem_map.2 ⟨k, List.mem_filter.2 ⟨List.mem_range.2 hk, h2⟩, rfl⟩
theorem compact_asc (zs : List Int) (h : zs.Pairwise (fun a b => a ≤ b)) : asc (Lib.compact zs) := by
 have hle : ∀ i j : Nat, i ≤ j → j < zs.length → zs.toArray[i]! ≤ zs.toArray[j]! := by
  intro i j hij hj
  rw [get_toArray zs i (by omega), get_toArray zs j hj]
  rcases Nat.lt_or_eq_of_le hij with hlt | rfl
  ·exact List.pairwise_iff_getElem.1 h i j (by omega) hj hlt
  ·omega
 unfold Lib.compact Lib.compactUpTo asc
 rw [List.pairwise_map]
 have hr : (List.range zs.length).Pairwise (fun a b => a < b ∧ b < zs.length) := by
  rw [List.pairwise_iff_getElem]
  intro i j hi hj hij
  rw [List.getElem_range, List.getElem_range]
  exact ⟨hij, by simpa using hj⟩
 refine List.Pairwise.imp_of_mem ?_ (List.Pairwise.sublist List.filter_sublist hr)
 intro a b _ hb ⟨hab, hbl⟩
 have hk := (List.mem_filter.1 hb).2
 unfold Lib.keeps at hk
 have hk := of_decide_eq_true hk
 have h1 := hle a (b - 1) (by omega) (by omega)
 have h2 := hle (b - 1) b (by omega) hbl
 rcases hk with hk | hk
 ·omega
 ·omega
theorem uni_asc (l m : List Int) : asc (uni l m) := compact_asc _ (msort_le _)
theorem mem_uni (z : Int) (l m : List Int) : z ∈ uni l m ↔ z ∈ l ∨ z ∈ m := by
 unfold uni
 rw [mem_compact, mem_msort, List.mem_append]
theorem uni_len (l m : List Int) : (uni l m).length ≤ l.length + m.length := by
 have := Lib.compact_length_le (msort (l ++ m))
 rw [msort_len, List.length_append] at this
 exact this
theorem uni_puts (l : List Int) : uni l [] = puts [] l := by
 refine asc_ext _ _ (uni_asc _ _) (puts_asc l [] asc_nil) (fun z => ?_)
 rw [mem_uni, mem_puts]
 simp

/-! impl_united -/
theorem impl_united_eq (l m : List Int) (h : l.length + m.length < 17592186044416) : impl_united.f l m = some (uni l m) := by
 unfold impl_united.f uni msort
 rw [if_pos h]

/-! hintsOf -/
def hnt (salt kind colour size : Int) : Int := ghash [salt, kind, colour, wrap64 (Int.tdiv size 10)]
def hintAt (salt : Int) (x : S113) : Int := hnt salt x.f0.f1 x.f0.f2 x.f0.f3
def hintsOf (l : List (S113)) (salt : Int) : List Int := if areFinds l = true then uni (l.map (hintAt salt)) [] else []
theorem hintsOf_len (l : List (S113)) (salt : Int) : (hintsOf l salt).length ≤ l.length := by
 unfold hintsOf
 split
 ·have := uni_len (l.map (hintAt salt)) []
  simpa using this
 ·simp
theorem hintsOf_asc (l : List (S113)) (salt : Int) : asc (hintsOf l salt) := by
 unfold hintsOf
 split
 ·exact uni_asc _ _
 ·exact asc_nil

/-! impl_HintsOf -/
theorem impl_HintsOf_ev (l : List (S113)) (salt : Int) (h : l.length ≤ 1099511627776) : Ev (fun k => impl_HintsOf.f k l salt) (hintsOf l salt) := by
 unfold hintsOf impl_HintsOf.f
 refine Ev.bind (impl_AreFinds_ev l (by omega)) ?_
 cases hc : areFinds l with
 | false => exact Ev.now _
 | true =>
  simp only [if_true]
  refine ev_map (ev_range l (fun k (s : List Int) i => impl_HintsOf.l0 k salt s l (l.length : Int) i) (fun s r => uni (s ++ r.map (hintAt salt)) []) (fun p s => s.length ≤ p.length) (by omega) ?_ ?_ [] (Nat.le_refl _)) (by simp)
  ·intro s hs
   have hs' : s.length ≤ l.length := hs
   simp only [impl_HintsOf.l0, if_neg (Int.lt_irrefl _), impl_united_eq s [] (show s.length + ([] : List Int).length < 17592186044416 by rw [List.length_nil]; omega), Option.bind_some]
   exact ev_const (by simp)
  ·intro pre x rest s e hlt hget hs ih
   have hr : rd_T113 l (pre.length : Int) = x := hget _
   have hs' : s.length ≤ pre.length := hs
   have hd : ghash [salt, x.f0.f1, x.f0.f2, wrap64 (Int.tdiv x.f0.f3 10)] = hintAt salt x := rfl
   simp only [impl_HintsOf.l0, if_pos hlt, if_pos (ge0 pre.length), hr]
   refine Ev.bind (impl_HintOf_ev _ _ _ _ _ _) ?_
   simp only [hd, if_pos (show s.length < 17592186044416 by omega)]
   exact ev_map (ih (s ++ [hintAt salt x]) (by simp; omega)) (by simp)

/-! ascends -/
def ascOk (lo hi : Int) : Option Int → List Int → Bool
 | _, [] => true
 | p, x :: rest => inr x lo hi && ((match p with | none => true | some y => decide (y < x)) && ascOk lo hi (some x) rest)

/-! impl_isAscending -/
theorem impl_isAscending_ev (l : List Int) (lo hi : Int) (h : l.length ≤ 1099511627776) : Ev (fun k => impl_isAscending.f k l lo hi) (ascOk lo hi none l) := by
 refine ev_range l (fun k (_ : Option Int) i => impl_isAscending.l0 k l lo hi l (l.length : Int) i) (fun s r => ascOk lo hi s r) (fun p s => s = p.getLast?) (by omega) ?_ ?_ none rfl
 ·intro s _
  simp only [impl_isAscending.l0, if_neg (Int.lt_irrefl _)]
  exact Ev.now _
 ·rintro pre x rest s e hlt hget rfl ih
  have hr : rd l (pre.length : Int) = x := hget 0
  have ih' := ih (some x) (by simp)
  simp only [impl_isAscending.l0, if_pos hlt, if_pos (ge0 pre.length), hr, impl_InRange_eq, Option.bind_some, ascOk]
  cases h1 : inr x lo hi with
  | false => exact Ev.now _
  | true =>
   simp only [if_true, Bool.true_and]
   rcases prev_cases e (by omega) with ⟨hp, hn⟩ | ⟨y, hy, h4, h5, h6, h7⟩
   ·simp only [if_neg hn]
    exact ev_map ih' (by simp [hp])
   ·have hr7 : rd l (wrap64 ((pre.length : Int) - 1)) = y := h7 0
    simp only [if_pos h4, if_pos h5, if_pos h6, hr7, hy]
    by_cases h8 : x ≤ y
    ·simp only [if_pos h8]
     exact ev_const (by simp [show ¬ y < x by omega])
    ·simp only [if_neg h8]
     exact ev_map ih' (by simp [show y < x by omega])

/-! has -/
def has (l : List Int) (n : Int) : Bool := l.any (fun y => decide (y = n))
theorem has_iff (l : List Int) (n : Int) : has l n = true ↔ n ∈ l := by
 unfold has
 rw [List.any_eq_true]
 constructor
 ·rintro ⟨x, hx, h⟩
  rw [← of_decide_eq_true h]
  exact hx
 ·intro h
  exact ⟨n, h, decide_eq_true rfl⟩

/-! report -/
def isSpan (a b : Int) : Bool := inr a 0 100000 && (inr b 0 100000 && decide (a ≤ b))
def isReport (id kind : Int) (cols : List Int) (lo hi : Int) (pl : List Int) (fr un : Int) : Bool :=
 inr id 1 999 && (inr kind 1 8 && (ascOk 0 7 none cols && (decide (1 ≤ lo) && (decide (lo ≤ hi) && (decide (hi ≤ 50) && (ascOk 1 30 none pl && (decide (pl.length ≤ 10) && isSpan fr un)))))))
def allows (l : List Int) (n : Int) : Bool := decide (l.length = 0) || has l n
theorem isReport_sizes {id kind : Int} {cols : List Int} {lo hi : Int} {pl : List Int} {fr un : Int} (h : isReport id kind cols lo hi pl fr un = true) : 1 ≤ lo ∧ lo ≤ hi ∧ hi ≤ 50 := by
 simp only [isReport, Bool.and_eq_true, decide_eq_true_eq] at h
 exact ⟨h.2.2.2.1, h.2.2.2.2.1, h.2.2.2.2.2.1⟩

/-! impl_IsSpan -/
theorem impl_IsSpan_eq (a b : Int) : impl_IsSpan.f a b = some (isSpan a b) := by
 unfold impl_IsSpan.f isSpan
 simp only [impl_InRange_eq, Option.bind_some]
 cases inr a 0 100000 <;> cases inr b 0 100000 <;> simp

/-! impl_IsReport -/
theorem impl_IsReport_ev (id kind : Int) (cols : List Int) (lo hi : Int) (pl : List Int) (fr un : Int) (hc : cols.length ≤ 1099511627776) (hp : pl.length ≤ 1099511627776) :
  Ev (fun k => impl_IsReport.f k id kind cols lo hi pl fr un) (isReport id kind cols lo hi pl fr un) := by
 unfold impl_IsReport.f isReport
 simp only [impl_InRange_eq, impl_IsSpan_eq, Option.bind_some]
 cases h1 : inr id 1 999 with
 | false => exact Ev.now _
 | true =>
 cases h2 : inr kind 1 8 with
 | false => exact Ev.now _
 | true =>
 simp only [if_true, Bool.true_and]
 refine Ev.bind (impl_isAscending_ev cols 0 7 hc) ?_
 cases h3 : ascOk 0 7 none cols with
 | false => exact Ev.now _
 | true =>
 simp only [if_true, Bool.true_and]
 by_cases h4 : 1 ≤ lo
 ·by_cases h5 : lo ≤ hi
  ·by_cases h6 : hi ≤ 50
   ·simp only [if_pos (show 1 ≤ lo from h4), if_pos h5, if_pos h6, decide_eq_true h4, decide_eq_true h5, decide_eq_true h6, Bool.true_and]
    refine Ev.bind (impl_isAscending_ev pl 1 30 hp) ?_
    cases h7 : ascOk 1 30 none pl with
    | false => exact Ev.now _
    | true =>
     simp only [if_true, Bool.true_and]
     by_cases h8 : pl.length ≤ 10
     ·simp only [if_pos (show (pl.length : Int) ≤ 10 by omega), decide_eq_true h8, Bool.true_and]
      exact Ev.now _
     ·simp only [if_neg (show ¬ (pl.length : Int) ≤ 10 by omega), decide_eq_false h8, Bool.false_and]
      exact Ev.now _
   ·simp only [if_pos (show 1 ≤ lo from h4), if_pos h5, if_neg h6, decide_eq_false h6, Bool.false_and, Bool.and_false]
    exact Ev.now _
  ·simp only [if_pos (show 1 ≤ lo from h4), if_neg h5, decide_eq_false h5, Bool.false_and, Bool.and_false]
   exact Ev.now _
 ·simp only [if_neg (show ¬ 1 ≤ lo from h4), decide_eq_false h4, Bool.false_and]
  exact Ev.now _

/-! slices_Index_int_int -/
theorem slices_Index_ev (l : List Int) (n : Int) (h : l.length ≤ 1099511627776) : ∃ r, Ev (fun k => slices_Index_int_int.f k l n) r ∧ decide (r ≥ 0) = has l n := by
 have key : ∀ (rest pre : List Int), l = pre ++ rest → ∃ r, Ev (fun k => slices_Index_int_int.l0 k l n (l.length : Int) (pre.length : Int)) r ∧ decide (r ≥ 0) = has rest n := by
  intro rest
  induction rest with
  | nil =>
   intro pre e
   rw [List.append_nil] at e
   subst e
   refine ⟨-1, ev_succ ?_, by simp [has]⟩
   simp only [slices_Index_int_int.l0, if_neg (Int.lt_irrefl _)]
   exact Ev.now _
  | cons x rest ih =>
   intro pre e
   have hl : l.length = pre.length + (rest.length + 1) := by rw [e, len_pre]
   have hr : rd l (pre.length : Int) = x := by rw [e]; exact rd_pre pre x rest
   by_cases h2 : n = x
   ·refine ⟨(pre.length : Int), ev_succ ?_, ?_⟩
    ·simp only [slices_Index_int_int.l0, if_pos (show (pre.length : Int) < (l.length : Int) by omega), if_pos (ge0 pre.length), hr, if_pos h2]
     exact Ev.now _
    ·rw [decide_eq_true (show (pre.length : Int) ≥ 0 by omega)]
     simp [has, h2]
   ·obtain ⟨r, h3, h4⟩ := ih (pre ++ [x]) (by rw [← app_pre]; exact e)
    refine ⟨r, ev_succ ?_, ?_⟩
    ·simp only [slices_Index_int_int.l0, if_pos (show (pre.length : Int) < (l.length : Int) by omega), if_pos (ge0 pre.length), hr, if_neg h2, wsucc (show pre.length < 9223372036854775807 by omega)]
     rw [snoc_len pre x]
     exact h3
    ·rw [h4]
     simp [has, Ne.symm h2]
 exact key l [] rfl

/-! slices_Contains_int_int -/
theorem slices_Contains_ev (l : List Int) (n : Int) (h : l.length ≤ 1099511627776) : Ev (fun k => slices_Contains_int_int.f k l n) (has l n) := by
 obtain ⟨r, h1, h2⟩ := slices_Index_ev l n h
 unfold slices_Contains_int_int.f
 refine Ev.bind h1 ?_
 exact ev_const (by rw [← h2])

/-! impl_allows -/
theorem impl_allows_ev (l : List Int) (n : Int) (h : l.length ≤ 1099511627776) : Ev (fun k => impl_allows.f k l n) (allows l n) := by
 unfold impl_allows.f allows
 by_cases h0 : l.length = 0
 ·simp only [if_pos (show (l.length : Int) = 0 by omega), decide_eq_true h0, Bool.true_or]
  exact Ev.now _
 ·simp only [if_neg (show ¬ (l.length : Int) = 0 by omega), decide_eq_false h0, Bool.false_or]
  exact Ev.bind (slices_Contains_ev l n h) (Ev.now _)

/-! hintsFor -/
def hnt' (salt kind colour size : Int) : Int := ghash [salt, kind, colour, wrap64 (Int.tdiv size 10)]
def upto : Nat → Int → List Int
 | 0, _ => []
 | n + 1, i => i :: upto n (i + 1)
theorem upto_len : ∀ (n : Nat) (i : Int), (upto n i).length = n
 | 0, _ => rfl
 | n + 1, i => by rw [upto, List.length_cons, upto_len n]
theorem mem_upto (x : Int) : ∀ (n : Nat) (i : Int), x ∈ upto n i ↔ i ≤ x ∧ x < i + (n : Int)
 | 0, i => by
  have : ¬ (i ≤ x ∧ x < i + ((0 : Nat) : Int)) := by omega
  simp only [upto, List.not_mem_nil, this]
 | n + 1, i => by
  rw [upto, List.mem_cons, mem_upto x n]
  omega
def hintRow (kind : Int) (cols : List Int) (lo hi salt c : Int) : List Int := if allows cols c = true then (upto (hi + 1 - lo).toNat lo).map (hnt' salt kind c) else []
def hintsFor (id kind : Int) (cols : List Int) (lo hi : Int) (pl : List Int) (fr un salt : Int) : List Int :=
 if isReport id kind cols lo hi pl fr un = true then uni ((upto 8 0).flatMap (hintRow kind cols lo hi salt)) [] else []
def hintTen (kind : Int) (cols : List Int) (lo hi salt c : Int) : List Int := if allows cols c = true then (upto (hi / 10 + 1 - lo / 10).toNat (lo / 10)).map (fun d => hnt' salt kind c (10 * d)) else []
theorem ten_div (s : Int) (h0 : 0 ≤ s) (h1 : s ≤ 1000) : wrap64 (Int.tdiv s 10) = s / 10 := by
 rw [Int.tdiv_eq_ediv_of_nonneg h0, w64 (by omega) (by omega)]
theorem hnt_ten (salt kind c s : Int) (h0 : 0 ≤ s) (h1 : s ≤ 100) : hnt' salt kind c s = ghash [salt, kind, c, s / 10] := by
 unfold hnt'
 rw [ten_div s h0 (by omega)]
theorem row_mem (kind : Int) (cols : List Int) (lo hi salt c z : Int) (h1 : 1 ≤ lo) (h2 : lo ≤ hi) (h3 : hi ≤ 50) : z ∈ hintRow kind cols lo hi salt c ↔ z ∈ hintTen kind cols lo hi salt c := by
 unfold hintRow hintTen
 split
 ·simp only [List.mem_map, mem_upto]
  constructor
  ·rintro ⟨s, ⟨h4, h5⟩, rfl⟩
   refine ⟨s / 10, by omega, ?_⟩
   rw [hnt_ten _ _ _ _ (by omega) (by omega), hnt_ten _ _ _ _ (by omega) (by omega), show 10 * (s / 10) / 10 = s / 10 by omega]
  ·rintro ⟨d, ⟨h4, h5⟩, rfl⟩
   by_cases h6 : 10 * d < lo
   ·refine ⟨lo, by omega, ?_⟩
    rw [hnt_ten _ _ _ _ (by omega) (by omega), hnt_ten _ _ _ _ (by omega) (by omega), show 10 * d / 10 = lo / 10 by omega]
   ·refine ⟨10 * d, by omega, ?_⟩
    rfl
 ·exact Iff.rfl
theorem hintsFor_eq {id kind : Int} {cols : List Int} {lo hi : Int} {pl : List Int} {fr un salt : Int} (h : isReport id kind cols lo hi pl fr un = true) :
  uni ((upto 8 0).flatMap (hintRow kind cols lo hi salt)) [] = puts [] ((upto 8 0).flatMap (hintTen kind cols lo hi salt)) := by
 obtain ⟨h1, h2, h3⟩ := isReport_sizes h
 refine asc_ext _ _ (uni_asc _ _) (puts_asc _ _ asc_nil) (fun z => ?_)
 rw [mem_uni, mem_puts, List.mem_flatMap, List.mem_flatMap]
 constructor
 ·rintro (⟨c, hc, hz⟩ | hz)
  ·exact .inr ⟨c, hc, (row_mem kind cols lo hi salt c z h1 h2 h3).1 hz⟩
  ·simp at hz
 ·rintro (hz | ⟨c, hc, hz⟩)
  ·simp at hz
  ·exact .inl ⟨c, hc, (row_mem kind cols lo hi salt c z h1 h2 h3).2 hz⟩
theorem hintRow_len {kind : Int} {cols : List Int} {lo hi salt : Int} (h1 : 1 ≤ lo) (h3 : hi ≤ 50) (c : Int) : (hintRow kind cols lo hi salt c).length ≤ 50 := by
 unfold hintRow
 split
 ·rw [List.length_map, upto_len]; omega
 ·simp
theorem hintTen_len {kind : Int} {cols : List Int} {lo hi salt : Int} (h1 : 1 ≤ lo) (h3 : hi ≤ 50) (c : Int) : (hintTen kind cols lo hi salt c).length ≤ 50 := by
 unfold hintTen
 split
 ·rw [List.length_map, upto_len]; omega
 ·simp
theorem flat_len (f : Int → List Int) (h : ∀ c, (f c).length ≤ 50) : ∀ (n : Nat) (c : Int), ((upto n c).flatMap f).length ≤ 50 * n
 | 0, c => by simp [upto]
 | n + 1, c => by
  have := flat_len f h n (c + 1)
  have := h c
  rw [upto, List.flatMap_cons, List.length_append]
  omega
theorem hintsFor_len (id kind : Int) (cols : List Int) (lo hi : Int) (pl : List Int) (fr un salt : Int) : (hintsFor id kind cols lo hi pl fr un salt).length ≤ 400 := by
 unfold hintsFor
 split
 ·rename_i h
  obtain ⟨h1, h2, h3⟩ := isReport_sizes h
  have := uni_len ((upto 8 0).flatMap (hintRow kind cols lo hi salt)) []
  have h4 := flat_len (hintRow kind cols lo hi salt) (hintRow_len h1 h3) 8 0
  rw [List.length_nil] at this
  omega
 ·simp
theorem puts_app (s a b : List Int) : puts s (a ++ b) = puts (puts s a) b := by
 unfold puts
 rw [List.foldl_append]

/-! impl_HintsFor -/
theorem impl_HintsFor_ev (id kind : Int) (cols : List Int) (lo hi : Int) (pl : List Int) (fr un salt : Int) (hc : cols.length ≤ 1099511627776) (hp : pl.length ≤ 1099511627776) :
  Ev (fun k => impl_HintsFor.f k id kind cols lo hi pl fr un salt) (hintsFor id kind cols lo hi pl fr un salt) := by
 unfold hintsFor impl_HintsFor.f
 refine Ev.bind (impl_IsReport_ev id kind cols lo hi pl fr un hc hp) ?_
 cases hr : isReport id kind cols lo hi pl fr un with
 | false => exact Ev.now _
 | true =>
  simp only [if_true]
  obtain ⟨h1, h2, h3⟩ := isReport_sizes hr
  have inner : ∀ (n : Nat) (i c : Int) (out : List Int) (R : List Int), i + (n : Int) = hi + 1 → lo ≤ i → out.length + n ≤ 1000 →
    Ev (fun k => impl_HintsFor.l0 k salt (out ++ if allows cols c = true then (upto n i).map (hnt' salt kind c) else []) (wrap64 (c + 1)) id kind cols lo hi pl fr un) R →
    Ev (fun k => impl_HintsFor.l1 k salt out c i c id kind cols lo hi pl fr un) R := by
   intro n
   induction n with
   | zero =>
    intro i c out R hn hi' ho he
    refine ev_succ ?_
    simp only [impl_HintsFor.l1, if_neg (show ¬ i ≤ hi by omega)]
    simpa [upto] using he
   | succ n ih =>
    intro i c out R hn hi' ho he
    refine ev_succ ?_
    simp only [impl_HintsFor.l1, if_pos (show i ≤ hi by omega), w64 (x := i + 1) (by omega) (by omega)]
    refine Ev.bind (impl_allows_ev cols c hc) ?_
    cases ha : allows cols c with
    | false =>
     simp only [Bool.false_eq_true, if_false]
     refine ih (i + 1) c out R (by omega) (by omega) (by omega) ?_
     simpa [ha] using he
    | true =>
     simp only [if_true]
     refine Ev.bind (impl_hint_ev _ _ _ _) ?_
     simp only [if_pos (show out.length < 17592186044416 by omega)]
     refine ih (i + 1) c _ R (by omega) (by omega) (by simp; omega) ?_
     simpa [ha, upto, hnt'] using he
  have outer : ∀ (n : Nat) (c : Int) (out : List Int), c + (n : Int) = 8 → 0 ≤ c → out.length + 50 * n ≤ 400 →
    Ev (fun k => impl_HintsFor.l0 k salt out c id kind cols lo hi pl fr un) (uni (out ++ (upto n c).flatMap (hintRow kind cols lo hi salt)) []) := by
   intro n
   induction n with
   | zero =>
    intro c out hn hc0 ho
    refine ev_succ ?_
    simp only [impl_HintsFor.l0, if_neg (show ¬ c < 8 by omega), impl_united_eq out [] (show out.length + ([] : List Int).length < 17592186044416 by rw [List.length_nil]; omega), Option.bind_some]
    exact ev_const (by simp [upto])
   | succ n ih =>
    intro c out hn hc0 ho
    refine ev_succ ?_
    simp only [impl_HintsFor.l0, if_pos (show c < 8 by omega)]
    refine inner (hi + 1 - lo).toNat lo c out _ (by omega) (by omega) (by omega) ?_
    rw [w64 (x := c + 1) (by omega) (by omega)]
    have hl := hintRow_len (kind := kind) (cols := cols) (salt := salt) h1 h3 c
    have := ih (c + 1) (out ++ hintRow kind cols lo hi salt c) (by omega) (by omega) (by rw [List.length_append]; omega)
    rw [upto, List.flatMap_cons, ← List.append_assoc]
    exact this
  have := outer 8 0 [] (by omega) (by omega) (by simp)
  simpa using this

/-! sharedHints -/
def sharedHints (a b : List Int) : Int := (((uni a []).filter (has b)).length : Int)
theorem sharedHints_le (a b : List Int) : 0 ≤ sharedHints a b ∧ sharedHints a b ≤ (a.length : Int) := by
 unfold sharedHints
 have h1 := List.length_filter_le (has b) (uni a [])
 have h2 := uni_len a []
 rw [List.length_nil] at h2
 omega
def shStep (b s : List Int) (x : Int) : List Int := if has b x = true then put x s else s
theorem shStep_eq (b : List Int) : ∀ (a s : List Int), a.foldl (shStep b) s = puts s (a.filter (has b))
 | [], s => rfl
 | x :: a, s => by
  rw [List.foldl_cons, shStep_eq b a]
  unfold shStep
  cases h : has b x with
  | true => rw [List.filter_cons_of_pos h]; rfl
  | false => rw [List.filter_cons_of_neg (by simp [h])]; rfl
theorem shared_eq (a b : List Int) : a.foldl (shStep b) [] = (uni a []).filter (has b) := by
 rw [shStep_eq]
 refine asc_ext _ _ (puts_asc _ _ asc_nil) (List.Pairwise.filter _ (uni_asc a [])) (fun z => ?_)
 rw [mem_puts, List.mem_filter, List.mem_filter, mem_uni]
 simp

/-! impl_SharedHints -/
theorem impl_SharedHints_ev (a b : List Int) (ha : a.length ≤ 1099511627776) (hb : b.length ≤ 1099511627776) : Ev (fun k => impl_SharedHints.f k a b) (sharedHints a b) := by
 have hu := uni_len a []
 rw [List.length_nil] at hu
 unfold impl_SharedHints.f
 rw [impl_united_eq a [] (by rw [List.length_nil]; omega)]
 simp only [Option.bind_some]
 refine ev_map (ev_range (uni a []) (fun k (s : Nat) i => impl_SharedHints.l0 k b (s : Int) (uni a []) ((uni a []).length : Int) i) (fun s r => ((s + (r.filter (has b)).length : Nat) : Int)) (fun p s => s ≤ p.length) (by omega) ?_ ?_ 0 (Nat.zero_le _)) (by simp [sharedHints])
 ·intro s _
  simp only [impl_SharedHints.l0, if_neg (Int.lt_irrefl _)]
  exact ev_const (by simp)
 ·intro pre x rest s e hlt hget hs ih
  have hr : rd (uni a []) (pre.length : Int) = x := hget 0
  have hs' : s ≤ pre.length := hs
  simp only [impl_SharedHints.l0, if_pos hlt, if_pos (ge0 pre.length), hr]
  refine Ev.bind (slices_Contains_ev b x hb) ?_
  cases h : has b x with
  | true =>
   simp only [if_true, wsucc (show s < 9223372036854775807 by omega)]
   exact ev_map (ih (s + 1) (by simp; omega)) (by rw [List.filter_cons_of_pos h, List.length_cons]; omega)
  | false =>
   simp only [Bool.false_eq_true, if_false]
   exact ev_map (ih s (by simp; omega)) (by rw [List.filter_cons_of_neg (by simp [h])])

/-! mayHave -/
def mayHave (id kind : Int) (cols : List Int) (lo hi : Int) (pl : List Int) (fr un : Int) (h : List Int) (salt : Int) : Bool := decide (sharedHints (hintsFor id kind cols lo hi pl fr un salt) h > 0)

/-! impl_MayHave -/
theorem impl_MayHave_ev (id kind : Int) (cols : List Int) (lo hi : Int) (pl : List Int) (fr un : Int) (h : List Int) (salt : Int) (hc : cols.length ≤ 1099511627776) (hp : pl.length ≤ 1099511627776) (hh : h.length ≤ 1099511627776) :
  Ev (fun k => impl_MayHave.f k id kind cols lo hi pl fr un h salt) (mayHave id kind cols lo hi pl fr un h salt) := by
 have hl := hintsFor_len id kind cols lo hi pl fr un salt
 unfold impl_MayHave.f mayHave
 refine Ev.bind (impl_HintsFor_ev id kind cols lo hi pl fr un salt hc hp) ?_
 refine Ev.bind (impl_SharedHints_ev _ h (by omega) hh) ?_
 exact Ev.now _

/-! laws_contains -/
theorem laws_contains_ev (l : List Int) (n : Int) (h : l.length ≤ 1099511627776) : Ev (fun k => laws_contains.f k l n) (l.any (fun x => decide (x = n))) := by
 refine ev_range l (fun k (_ : Unit) i => laws_contains.l0 k l n i) (fun _ r => r.any (fun x => decide (x = n))) (fun _ _ => True) (by omega) ?_ ?_ () trivial
 ·intro _ _
  simp only [laws_contains.l0, if_neg (Int.lt_irrefl _)]
  exact Ev.now _
 ·intro pre x rest _ _ hlt hget _ ih
  have hr : rd l (pre.length : Int) = x := hget 0
  simp only [laws_contains.l0, if_pos hlt, if_pos (ge0 pre.length), hr]
  by_cases hx : x = n
  ·simp only [if_pos hx]
   exact ev_const (by simp [hx])
  ·simp only [if_neg hx]
   exact ev_map (ih () trivial) (by simp [hx])

/-! spec_l9Put -/
theorem spec_l9Put_ev (l : List Int) (n : Int) (h : l.length ≤ 1099511627776) : Ev (fun k => spec_l9Put.f k l n) (put n l) := by
 refine ev_map (ev_range l (fun k (_ : List Int) i => spec_l9Put.l0 k l n i) (fun s r => s ++ put n r) (fun p s => s = p) (by omega) ?_ ?_ [] rfl) (by simp)
 ·rintro s rfl
  simp only [spec_l9Put.l0, if_neg (Int.lt_irrefl _), Option.bind_some, if_pos (ge0 s.length), if_pos (Int.le_refl _), List.length_nil, Int.toNat_natCast, List.take_length, List.drop_length, List.nil_append, List.length_append, List.length_singleton]
  exact ev_const (by simp only [put, List.append_nil]; repeat rw [if_pos (by omega)])
 ·rintro pre x rest s e hlt hget rfl ih
  have hr : rd l (s.length : Int) = x := hget 0
  have hl : l.length = s.length + (rest.length + 1) := by rw [e, len_pre]
  have ht : l.take s.length = s := by rw [e]; simp
  have hd : l.drop s.length = x :: rest := by rw [e]; simp
  simp only [spec_l9Put.l0, if_pos hlt, if_pos (ge0 s.length), hr, put]
  by_cases h1 : x < n
  ·simp only [if_pos h1]
   exact ev_map (ih (s ++ [x]) rfl) (by simp)
  by_cases h2 : x = n
  ·simp only [if_neg h1, if_pos h2, Option.bind_some, List.length_nil, List.nil_append]
   rw [if_pos (by omega)]
   exact ev_const (by rw [e])
  ·simp only [if_neg h1, if_neg h2, Option.bind_some, if_pos (show (s.length : Int) ≤ (l.length : Int) by omega), List.length_nil, Int.toNat_natCast, ht, hd, List.nil_append, List.length_append, List.length_singleton, List.length_cons]
   exact ev_const (by rw [if_pos (by omega), if_pos (by omega), if_pos (by omega)]; simp)

/-! spec_l1In -/
theorem spec_l1In_eq (a b c : Int) : spec_l1In.f a b c = some (inr a b c) := by
 unfold spec_l1In.f inr
 by_cases h : b ≤ a <;> simp [h]

/-! spec_Mod -/
theorem spec_Mod_eq (a : Int) : spec_Mod.f a 2147483647 = some (a % 2147483647) := by
 simp only [spec_Mod.f, spec_l1In_eq, Option.bind_some]
 rw [if_pos (by decide), if_neg (by decide), mod_up]

/-! spec_Hash -/
theorem spec_Hash_loop (rest : List Int) : ∀ (pre : List Int) (acc : Int), (pre ++ rest).length < 9223372036854775807 → Ev (fun k => spec_Hash.l0 k (pre ++ rest) acc (pre.length : Int)) (rest.foldl hstep acc) := by
 induction rest with
 | nil =>
  intro pre acc h
  refine ev_succ ?_
  simp only [spec_Hash.l0, if_neg (nlt_pre pre)]
  exact Ev.now _
 | cons x rest ih =>
  intro pre acc h
  have hl := len_pre pre x rest
  refine ev_succ ?_
  simp only [spec_Hash.l0, if_pos (lt_pre pre x rest), if_pos (ge0 pre.length), rd_pre, spec_Mod_eq, Option.bind_some, wsucc (show pre.length < 9223372036854775807 by omega)]
  rw [snoc_len pre x]
  have := ih (pre ++ [x]) (hstep acc x) (by rw [← app_pre]; exact h)
  rw [← app_pre] at this
  exact this
theorem spec_Hash_ev (l : List Int) (h : l.length < 9223372036854775807) : Ev (fun k => spec_Hash.f k l) (ghash l) := spec_Hash_loop l [] 11 h

/-! spec_HintOf -/
theorem spec_HintOf_ev (a b c d e s : Int) : Ev (fun k => spec_HintOf.f k a b c d e s) (ghash [s, b, c, wrap64 (Int.tdiv d 10)]) := by
 simp only [spec_HintOf.f]
 exact Ev.bind (spec_Hash_ev _ (by simp)) (Ev.now _)

/-! spec_l7Ids -/
theorem spec_l7Ids_ev (l : List Int) (lo hi : Int) (h : l.length ≤ 1099511627776) : Ev (fun k => spec_l7Ids.f k l lo hi) (ascOk lo hi none l) := by
 refine ev_range l (fun k (_ : Option Int) i => spec_l7Ids.l0 k l lo hi i) (fun s r => ascOk lo hi s r) (fun p s => s = p.getLast?) (by omega) ?_ ?_ none rfl
 ·intro s _
  simp only [spec_l7Ids.l0, if_neg (Int.lt_irrefl _)]
  exact Ev.now _
 ·rintro pre x rest s e hlt hget rfl ih
  have hr : rd l (pre.length : Int) = x := hget 0
  have ih' := ih (some x) (by simp)
  simp only [spec_l7Ids.l0, if_pos hlt, if_pos (ge0 pre.length), hr, spec_l1In_eq, Option.bind_some, ascOk]
  cases h1 : inr x lo hi with
  | false => exact Ev.now _
  | true =>
   simp only [if_true, Bool.true_and]
   rcases prev_cases e (by omega) with ⟨hp, hn⟩ | ⟨y, hy, h4, h5, h6, h7⟩
   ·simp only [if_neg hn]
    exact ev_map ih' (by simp [hp])
   ·have hr7 : rd l (wrap64 ((pre.length : Int) - 1)) = y := h7 0
    simp only [if_pos h4, if_pos h5, if_pos h6, hr7, hy]
    by_cases h8 : y ≥ x
    ·simp only [if_pos h8]
     exact ev_const (by simp [show ¬ y < x by omega])
    ·simp only [if_neg h8]
     exact ev_map ih' (by simp [show y < x by omega])

/-! spec_IsSpan -/
theorem spec_IsSpan_eq (a b : Int) : spec_IsSpan.f a b = some (isSpan a b) := by
 unfold spec_IsSpan.f isSpan
 simp only [spec_l1In_eq, Option.bind_some]
 cases inr a 0 100000 <;> cases inr b 0 100000 <;> simp

/-! spec_IsReport -/
theorem spec_IsReport_ev (id kind : Int) (cols : List Int) (lo hi : Int) (pl : List Int) (fr un : Int) (hc : cols.length ≤ 1099511627776) (hp : pl.length ≤ 1099511627776) :
  Ev (fun k => spec_IsReport.f k id kind cols lo hi pl fr un) (isReport id kind cols lo hi pl fr un) := by
 unfold spec_IsReport.f isReport
 simp only [spec_l1In_eq, spec_IsSpan_eq, Option.bind_some]
 cases h1 : inr id 1 999 with
 | false => exact Ev.now _
 | true =>
 cases h2 : inr kind 1 8 with
 | false => exact Ev.now _
 | true =>
 simp only [if_true, Bool.true_and]
 refine Ev.bind (spec_l7Ids_ev cols 0 7 hc) ?_
 cases h3 : ascOk 0 7 none cols with
 | false => exact Ev.now _
 | true =>
 simp only [if_true, Bool.true_and]
 by_cases h4 : 1 ≤ lo
 ·by_cases h5 : lo ≤ hi
  ·by_cases h6 : hi ≤ 50
   ·simp only [if_pos (show lo ≥ 1 from h4), if_pos h5, if_pos h6, decide_eq_true h4, decide_eq_true h5, decide_eq_true h6, Bool.true_and]
    refine Ev.bind (spec_l7Ids_ev pl 1 30 hp) ?_
    cases h7 : ascOk 1 30 none pl with
    | false => exact Ev.now _
    | true =>
     simp only [if_true, Bool.true_and]
     by_cases h8 : pl.length ≤ 10
     ·simp only [if_pos (show (pl.length : Int) ≤ 10 by omega), decide_eq_true h8, Bool.true_and]
      exact Ev.now _
     ·simp only [if_neg (show ¬ (pl.length : Int) ≤ 10 by omega), decide_eq_false h8, Bool.false_and]
      exact Ev.now _
   ·simp only [if_pos (show lo ≥ 1 from h4), if_pos h5, if_neg h6, decide_eq_false h6, Bool.false_and, Bool.and_false]
    exact Ev.now _
  ·simp only [if_pos (show lo ≥ 1 from h4), if_neg h5, decide_eq_false h5, Bool.false_and, Bool.and_false]
   exact Ev.now _
 ·simp only [if_neg (show ¬ lo ≥ 1 from h4), decide_eq_false h4, Bool.false_and]
  exact Ev.now _

/-! spec_l8Has -/
theorem spec_l8Has_ev (l : List Int) (n : Int) (h : l.length ≤ 1099511627776) : Ev (fun k => spec_l8Has.f k l n) (has l n) := by
 refine ev_range l (fun k (_ : Unit) i => spec_l8Has.l0 k l n i) (fun _ r => has r n) (fun _ _ => True) (by omega) ?_ ?_ () trivial
 ·intro _ _
  simp only [spec_l8Has.l0, if_neg (Int.lt_irrefl _)]
  exact Ev.now _
 ·intro pre x rest _ _ hlt hget _ ih
  have hr : rd l (pre.length : Int) = x := hget 0
  simp only [spec_l8Has.l0, if_pos hlt, if_pos (ge0 pre.length), hr]
  by_cases h2 : x = n
  ·simp only [if_pos h2]
   exact ev_const (by simp [has, h2])
  ·simp only [if_neg h2]
   exact ev_map (ih () trivial) (by simp [has, h2])

/-! spec_HintsFor -/
theorem spec_HintsFor_ev (id kind : Int) (cols : List Int) (lo hi : Int) (pl : List Int) (fr un salt : Int) (hc : cols.length ≤ 1099511627776) (hp : pl.length ≤ 1099511627776) :
  Ev (fun k => spec_HintsFor.f k id kind cols lo hi pl fr un salt) (hintsFor id kind cols lo hi pl fr un salt) := by
 have jf : ∀ (s : List Int) (i : Int), Ev (fun k => spec_HintsFor.j1 k salt s i false id kind cols lo hi pl fr un) s := by
  intro s i
  refine ev_succ ?_
  simp only [spec_HintsFor.j1, Bool.false_eq_true, if_false]
  exact Ev.now _
 unfold hintsFor spec_HintsFor.f
 cases hr : isReport id kind cols lo hi pl fr un with
 | false =>
  simp only [Bool.false_eq_true, if_false]
  refine ev_succ ?_
  simp only [spec_HintsFor.l0, if_pos (show (0 : Int) ≤ 7 by omega)]
  refine Ev.bind (spec_IsReport_ev id kind cols lo hi pl fr un hc hp) ?_
  rw [hr]
  exact jf _ _
 | true =>
  simp only [if_true]
  rw [hintsFor_eq hr]
  obtain ⟨h1, h2, h3⟩ := isReport_sizes hr
  have hlo := ten_div lo (by omega) (by omega)
  have hhi := ten_div hi (by omega) (by omega)
  have inner : ∀ (n : Nat) (d c : Int) (out : List Int) (R : List Int), d + (n : Int) = hi / 10 + 1 → lo / 10 ≤ d → out.length + n ≤ 1000 →
    Ev (fun k => spec_HintsFor.l0 k salt (puts out ((upto n d).map (fun d => hnt' salt kind c (10 * d)))) (wrap64 (c + 1)) id kind cols lo hi pl fr un) R →
    Ev (fun k => spec_HintsFor.l1 k salt out c d id kind cols lo hi pl fr un) R := by
   intro n
   induction n with
   | zero =>
    intro d c out R hn hd ho he
    refine ev_succ ?_
    simp only [spec_HintsFor.l1, hhi, if_neg (show ¬ d ≤ hi / 10 by omega)]
    exact he
   | succ n ih =>
    intro d c out R hn hd ho he
    have hq := put_len (hnt' salt kind c (10 * d)) out
    refine ev_succ ?_
    simp only [spec_HintsFor.l1, hhi, if_pos (show d ≤ hi / 10 by omega), w64 (x := d + 1) (by omega) (by omega), w64 (x := 10 * d) (by omega) (by omega)]
    refine Ev.bind (spec_HintOf_ev _ _ _ _ _ _) ?_
    refine Ev.bind (spec_l9Put_ev out (hnt' salt kind c (10 * d)) (by omega)) ?_
    exact ih (d + 1) c (put (hnt' salt kind c (10 * d)) out) R (by omega) (by omega) (by omega) he
  have j2 : ∀ (b : Bool) (c : Int) (out R : List Int), 0 ≤ c → c < 8 → out.length ≤ 400 → b = !allows cols c →
    Ev (fun k => spec_HintsFor.l0 k salt (puts out (hintTen kind cols lo hi salt c)) (wrap64 (c + 1)) id kind cols lo hi pl fr un) R →
    Ev (fun k => spec_HintsFor.j2 k salt out c b id kind cols lo hi pl fr un) R := by
   intro b c out R hc0 hc1 ho hb he
   refine ev_succ ?_
   subst hb
   cases ha : allows cols c with
   | false =>
    simp only [spec_HintsFor.j2, Bool.not_false, if_true]
    simpa [hintTen, ha, puts] using he
   | true =>
    simp only [spec_HintsFor.j2, Bool.not_true, Bool.false_eq_true, if_false, hlo]
    refine inner (hi / 10 + 1 - lo / 10).toNat (lo / 10) c out R (by omega) (by omega) (by omega) ?_
    simpa [hintTen, ha] using he
  have outer : ∀ (n : Nat) (c : Int) (out : List Int), c + (n : Int) = 8 → 0 ≤ c → out.length + 50 * n ≤ 400 →
    Ev (fun k => spec_HintsFor.l0 k salt out c id kind cols lo hi pl fr un) (puts out ((upto n c).flatMap (hintTen kind cols lo hi salt))) := by
   intro n
   induction n with
   | zero =>
    intro c out hn hc0 ho
    refine ev_succ ?_
    simp only [spec_HintsFor.l0, if_neg (show ¬ c ≤ 7 by omega)]
    exact jf _ _
   | succ n ih =>
    intro c out hn hc0 ho
    refine ev_succ ?_
    simp only [spec_HintsFor.l0, if_pos (show c ≤ 7 by omega)]
    refine Ev.bind (spec_IsReport_ev id kind cols lo hi pl fr un hc hp) ?_
    rw [hr]
    have hl := hintTen_len (kind := kind) (cols := cols) (salt := salt) h1 h3 c
    have hq := puts_len (hintTen kind cols lo hi salt c) out
    have hi2 := ih (c + 1) (puts out (hintTen kind cols lo hi salt c)) (by omega) (by omega) (by omega)
    rw [upto, List.flatMap_cons, puts_app]
    have he : Ev (fun k => spec_HintsFor.l0 k salt (puts out (hintTen kind cols lo hi salt c)) (wrap64 (c + 1)) id kind cols lo hi pl fr un) (puts (puts out (hintTen kind cols lo hi salt c)) ((upto n (c + 1)).flatMap (hintTen kind cols lo hi salt))) := by
     rw [w64 (x := c + 1) (by omega) (by omega)]
     exact hi2
    refine ev_succ ?_
    simp only [spec_HintsFor.j1, if_true]
    by_cases h0 : (cols.length : Int) > 0
    ·simp only [if_pos h0]
     refine Ev.bind (spec_l8Has_ev cols c hc) ?_
     refine j2 _ c out _ hc0 (by omega) (by omega) ?_ he
     rw [allows, decide_eq_false (show ¬ cols.length = 0 by omega), Bool.false_or]
    ·simp only [if_neg h0]
     refine j2 _ c out _ hc0 (by omega) (by omega) ?_ he
     rw [allows, decide_eq_true (show cols.length = 0 by omega), Bool.true_or]
     rfl
  have := outer 8 0 [] (by omega) (by omega) (by simp)
  exact this

/-! spec_SharedHints -/
theorem spec_SharedHints_ev (a b : List Int) (ha : a.length ≤ 1099511627776) (hb : b.length ≤ 1099511627776) : Ev (fun k => spec_SharedHints.f k a b) (sharedHints a b) := by
 unfold sharedHints
 rw [← shared_eq]
 refine ev_range a (fun k (s : List Int) i => spec_SharedHints.l0 k a b s i) (fun s r => ((r.foldl (shStep b) s).length : Int)) (fun p s => s.length ≤ p.length) (by omega) ?_ ?_ [] (Nat.le_refl _)
 ·intro s _
  simp only [spec_SharedHints.l0, if_neg (Int.lt_irrefl _)]
  exact Ev.now _
 ·intro pre x rest s e hlt hget hs ih
  have hr : rd a (pre.length : Int) = x := hget 0
  have hs' : s.length ≤ pre.length := hs
  simp only [spec_SharedHints.l0, if_pos hlt, if_pos (ge0 pre.length), hr]
  refine Ev.bind (spec_l8Has_ev b x hb) ?_
  cases h : has b x with
  | true =>
   simp only [if_true]
   refine Ev.bind (spec_l9Put_ev s x (by omega)) ?_
   have := put_len x s
   exact ev_map (ih (put x s) (by simp; omega)) (by rw [List.foldl_cons]; unfold shStep; rw [if_pos h])
  | false =>
   simp only [Bool.false_eq_true, if_false]
   exact ev_map (ih s (by simp; omega)) (by rw [List.foldl_cons, show shStep b s x = s from by unfold shStep; rw [if_neg (by simp [h])]])

/-! spec_MayHave -/
theorem spec_MayHave_ev (id kind : Int) (cols : List Int) (lo hi : Int) (pl : List Int) (fr un : Int) (h : List Int) (salt : Int) (hc : cols.length ≤ 1099511627776) (hp : pl.length ≤ 1099511627776) (hh : h.length ≤ 1099511627776) :
  Ev (fun k => spec_MayHave.f k id kind cols lo hi pl fr un h salt) (mayHave id kind cols lo hi pl fr un h salt) := by
 have hl := hintsFor_len id kind cols lo hi pl fr un salt
 unfold spec_MayHave.f mayHave
 refine Ev.bind (spec_HintsFor_ev id kind cols lo hi pl fr un salt hc hp) ?_
 refine Ev.bind (spec_SharedHints_ev _ h (by omega) hh) ?_
 exact Ev.now _

/-! sumLen -/
def sumLen : List (List Int) → Nat
 | [] => 0
 | x :: r => x.length + sumLen r
theorem sumLen_mem : ∀ (l : List (List Int)) (y : List Int), y ∈ l → y.length ≤ sumLen l
 | [], _, h => by cases h
 | x :: r, y, h => by
  have h1 : sumLen (x :: r) = x.length + sumLen r := rfl
  rcases List.mem_cons.1 h with e | h
  ·rw [e]; omega
  ·have := sumLen_mem r y h; omega

/-! askHouses -/
def askFrom (p : List Int → Bool) : List (List Int) → Int → List Int
 | [], _ => []
 | x :: r, i => if p x then i :: askFrom p r (i + 1) else askFrom p r (i + 1)
theorem askFrom_len (p : List Int → Bool) : ∀ (l : List (List Int)) (i : Int), (askFrom p l i).length ≤ l.length
 | [], _ => Nat.le_refl _
 | x :: r, i => by
  have := askFrom_len p r (i + 1)
  simp only [askFrom]
  split <;> simp only [List.length_cons] <;> omega
def askHouses (id kind : Int) (cols : List Int) (lo hi : Int) (pl : List Int) (fr un : Int) (h : List (List Int)) (salt : Int) : List Int := askFrom (fun x => mayHave id kind cols lo hi pl fr un x salt) h 0

/-! spec_AskHouses -/
theorem spec_AskHouses_ev (id kind : Int) (cols : List Int) (lo hi : Int) (pl : List Int) (fr un : Int) (h : List (List Int)) (salt : Int) (hc : cols.length ≤ 1048576) (hp : pl.length ≤ 1048576) (hl : h.length ≤ 1048576) (hs : sumLen h ≤ 1048576) :
  Ev (fun k => spec_AskHouses.f k id kind cols lo hi pl fr un h salt) (askHouses id kind cols lo hi pl fr un h salt) := by
 unfold spec_AskHouses.f askHouses
 refine ev_map (ev_range h (fun k (o : List Int) i => spec_AskHouses.l0 k h salt o i id kind cols lo hi pl fr un) (fun o r => o ++ askFrom (fun x => mayHave id kind cols lo hi pl fr un x salt) r ((h.length : Int) - (r.length : Int))) (fun p o => o.length ≤ p.length) (by omega) ?_ ?_ [] (Nat.le_refl _)) (by simp)
 ·intro o _
  simp only [spec_AskHouses.l0, if_neg (Int.lt_irrefl _)]
  exact ev_const (by simp [askFrom])
 ·rintro pre x rest o e hlt hget ho ih
  have hr : rd_L4 h (pre.length : Int) = x := hget _
  have hx := sumLen_mem h x (by rw [e]; simp)
  have hn : h.length = pre.length + (rest.length + 1) := by rw [e, len_pre]
  have ho' : o.length ≤ pre.length := ho
  have hii : (h.length : Int) - ((x :: rest).length : Int) = (pre.length : Int) := by rw [List.length_cons]; omega
  have hj : (h.length : Int) - (rest.length : Int) = (pre.length : Int) + 1 := by omega
  simp only [spec_AskHouses.l0, if_pos hlt, if_pos (ge0 pre.length), hr]
  refine Ev.bind (spec_MayHave_ev id kind cols lo hi pl fr un x salt (by omega) (by omega) (by omega)) ?_
  rw [hii]
  rw [hj] at ih
  simp only [askFrom]
  rcases Bool.eq_false_or_eq_true (mayHave id kind cols lo hi pl fr un x salt) with hm | hm
  ·simp only [hm, if_true, if_pos (show o.length < 17592186044416 by omega)]
   exact ev_map (ih (o ++ [(pre.length : Int)]) (by rw [List.length_append, List.length_append]; simp; omega)) (by simp)
  ·simp only [hm, Bool.false_eq_true, if_false]
   exact ev_map (ih o (by rw [List.length_append]; omega)) (by simp)

/-! impl_AskHouses -/
theorem impl_AskHouses_ev (id kind : Int) (cols : List Int) (lo hi : Int) (pl : List Int) (fr un : Int) (h : List (List Int)) (salt : Int) (hc : cols.length ≤ 1048576) (hp : pl.length ≤ 1048576) (hl : h.length ≤ 1048576) (hs : sumLen h ≤ 1048576) :
  Ev (fun k => impl_AskHouses.f k id kind cols lo hi pl fr un h salt) (askHouses id kind cols lo hi pl fr un h salt) := by
 unfold impl_AskHouses.f askHouses
 refine ev_map (ev_range h (fun k (o : List Int) i => impl_AskHouses.l0 k salt o h (h.length : Int) i id kind cols lo hi pl fr un) (fun o r => o ++ askFrom (fun x => mayHave id kind cols lo hi pl fr un x salt) r ((h.length : Int) - (r.length : Int))) (fun p o => o.length ≤ p.length) (by omega) ?_ ?_ [] (Nat.le_refl _)) (by simp)
 ·intro o _
  simp only [impl_AskHouses.l0, if_neg (Int.lt_irrefl _)]
  exact ev_const (by simp [askFrom])
 ·rintro pre x rest o e hlt hget ho ih
  have hr : rd_L4 h (pre.length : Int) = x := hget _
  have hx := sumLen_mem h x (by rw [e]; simp)
  have hn : h.length = pre.length + (rest.length + 1) := by rw [e, len_pre]
  have ho' : o.length ≤ pre.length := ho
  have hii : (h.length : Int) - ((x :: rest).length : Int) = (pre.length : Int) := by rw [List.length_cons]; omega
  have hj : (h.length : Int) - (rest.length : Int) = (pre.length : Int) + 1 := by omega
  simp only [impl_AskHouses.l0, if_pos hlt, if_pos (ge0 pre.length), hr]
  refine Ev.bind (impl_MayHave_ev id kind cols lo hi pl fr un x salt (by omega) (by omega) (by omega)) ?_
  rw [hii]
  rw [hj] at ih
  simp only [askFrom]
  rcases Bool.eq_false_or_eq_true (mayHave id kind cols lo hi pl fr un x salt) with hm | hm
  ·simp only [hm, if_true, if_pos (show o.length < 17592186044416 by omega)]
   exact ev_map (ih (o ++ [(pre.length : Int)]) (by rw [List.length_append, List.length_append]; simp; omega)) (by simp)
  ·simp only [hm, Bool.false_eq_true, if_false]
   exact ev_map (ih o (by rw [List.length_append]; omega)) (by simp)

/-! cursor -/
theorem i64_and255 (n : Int) : bits .and .i64 n 255 = n % 256 := by
 have h255 : (BitVec.ofInt 64 255).toNat = 2 ^ 8 - 1 := by decide
 have key : (BitVec.ofInt 64 n &&& BitVec.ofInt 64 255).toNat = (n % ((2 ^ 64 : Nat) : Int)).toNat % 2 ^ 8 := by
  rw [BitVec.toNat_and, BitVec.toNat_ofInt, h255, Nat.and_two_pow_sub_one_eq_mod]
 show IntKind.i64.wrap ((BitVec.ofInt 64 n &&& BitVec.ofInt 64 255).toNat : Nat) = n % 256
 rw [key, IntKind.wrap_i64]
 omega
/-- A cursor over the bytes b stands at place i. -/
def Cur (b : List Int) (i : Int) : Prop := b.length ≤ 1048576 ∧ 0 ≤ i ∧ i ≤ (b.length : Int)

/-! spec_l1New -/
theorem l1New_tot (b : List Int) (hl : b.length ≤ 1048576) : ∃ h, Ev (fun k => spec_l1New.f k b) (b, 0, h) := by
 have key : ∀ (d i : Nat) (h : Int), i + d = b.length → ∃ h', Ev (fun k => spec_l1New.l0 k b h (i : Int)) (b, 0, h') := by
  intro d
  induction d with
  | zero =>
   intro i h hi
   refine ⟨h, ev_succ ?_⟩
   simp only [spec_l1New.l0, if_neg (show ¬ (i : Int) < (b.length : Int) by omega)]
   exact Ev.now _
  | succ d ih =>
   intro i h hi
   by_cases h4 : (i : Int) < 4000
   ·obtain ⟨h', e⟩ := ih (i + 1) (bits .and .i64 (wrap64 (wrap64 (wrap64 (h * 137) + wrap64 (rd b i)) + 11)) 1073741823) (by omega)
    refine ⟨h', ev_succ ?_⟩
    simp only [spec_l1New.l0, if_pos (show (i : Int) < (b.length : Int) by omega), if_pos h4, if_pos (ge0 i), wsucc (show i < 9223372036854775807 by omega)]
    exact e
   ·refine ⟨h, ev_succ ?_⟩
    simp only [spec_l1New.l0, if_pos (show (i : Int) < (b.length : Int) by omega), if_neg h4]
    exact Ev.now _
 exact key b.length 0 _ (by omega)
theorem cur0 (b : List Int) (hl : b.length ≤ 1048576) : Cur b 0 := ⟨hl, by omega, by omega⟩

/-! spec_l1Byte -/
theorem l1Byte_tot (b : List Int) (i h : Int) (hc : Cur b i) : ∃ x i' h', spec_l1Byte.f b i h = some (x, i', h') ∧ 0 ≤ x ∧ x < 256 ∧ Cur b i' := by
 obtain ⟨h1, h2, h3⟩ := hc
 unfold spec_l1Byte.f
 by_cases hi : i < (b.length : Int)
 ·rw [if_pos hi, if_pos h2]
  refine ⟨_, _, _, rfl, ?_, ?_, h1, ?_⟩
  ·rw [i64_and255 (wrap64 _)]
   omega
  ·rw [i64_and255 (wrap64 _)]
   omega
  ·rw [w64 (by omega) (by omega)]
   omega
 ·rw [if_neg hi]
  refine ⟨_, _, _, rfl, ?_, ?_, h1, h2, h3⟩
  ·rw [i64_and255]
   omega
  ·rw [i64_and255]
   omega

/-! spec_l1Below -/
theorem l1Below_tot (b : List Int) (i h n : Int) (hc : Cur b i) : ∃ x i' h', spec_l1Below.f b i h n = some (x, i', h') ∧ 0 ≤ x ∧ (0 < n → x < n) ∧ Cur b i' := by
 unfold spec_l1Below.f
 by_cases hn : n ≤ 0
 ·rw [if_pos hn]
  exact ⟨_, _, _, rfl, by omega, fun h => by omega, hc⟩
 ·rw [if_neg hn]
  by_cases h256 : n ≤ 256
  ·rw [if_pos h256]
   obtain ⟨x, i1, h1, e1, hx0, hx1, c1⟩ := l1Byte_tot b i h hc
   simp only [e1, Option.bind_some, if_neg (show ¬ n = 0 by omega)]
   exact ⟨_, _, _, rfl, Int.tmod_nonneg _ hx0, fun h => Int.tmod_lt_of_pos _ h, c1⟩
  ·rw [if_neg h256]
   obtain ⟨x, i1, h1, e1, hx0, hx1, c1⟩ := l1Byte_tot b i h hc
   obtain ⟨y, i2, h2, e2, hy0, hy1, c2⟩ := l1Byte_tot b i1 h1 c1
   obtain ⟨z, i3, h3, e3, hz0, hz1, c3⟩ := l1Byte_tot b i2 h2 c2
   simp only [e1, e2, e3, Option.bind_some, if_neg (show ¬ n = 0 by omega)]
   refine ⟨_, _, _, rfl, Int.tmod_nonneg _ ?_, fun h => Int.tmod_lt_of_pos _ h, c3⟩
   rw [w64 (x := x * 65536) (by omega) (by omega), w64 (x := y * 256) (by omega) (by omega), w64 (x := x * 65536 + y * 256) (by omega) (by omega), w64 (by omega) (by omega)]
   omega

/-! spec_l4Draw -/
theorem l4Draw_tot (b : List Int) (i h id : Int) (hc : Cur b i) : ∃ x0 x1 x2 x3 x4 i' h', spec_l4Draw.f b i h id = some (x0, x1, x2, x3, x4, i', h') ∧ Cur b i' := by
 obtain ⟨a1, i1, h1, e1, _, _, c1⟩ := l1Below_tot b i h 8 hc
 obtain ⟨a2, i2, h2, e2, _, _, c2⟩ := l1Below_tot b i1 h1 8 c1
 obtain ⟨a3, i3, h3, e3, _, _, c3⟩ := l1Below_tot b i2 h2 20 c2
 obtain ⟨a4, i4, h4, e4, _, _, c4⟩ := l1Below_tot b i3 h3 500 c3
 unfold spec_l4Draw.f
 simp only [e1, e2, e3, e4, Option.bind_some]
 exact ⟨_, _, _, _, _, _, _, rfl, c4⟩

/-! spec_l6Draw -/
theorem l6Draw_tot (b : List Int) (i h id : Int) (hc : Cur b i) : ∃ x0 x1 x2 x3 x4 x5 x6 x7 i' h', spec_l6Draw.f b i h id = some (x0, x1, x2, x3, x4, x5, x6, x7, i', h') ∧ Cur b i' := by
 obtain ⟨x0, x1, x2, x3, x4, i1, h1, e1, c1⟩ := l4Draw_tot b i h id hc
 obtain ⟨a2, i2, h2, e2, _, _, c2⟩ := l1Below_tot b i1 h1 6 c1
 obtain ⟨a3, i3, h3, e3, _, _, c3⟩ := l1Below_tot b i2 h2 80 c2
 obtain ⟨a4, i4, h4, e4, _, _, c4⟩ := l1Below_tot b i3 h3 5 c3
 unfold spec_l6Draw.f
 simp only [e1, e2, e3, e4, Option.bind_some]
 exact ⟨_, _, _, _, _, _, _, _, _, _, rfl, c4⟩

/-! spec_l6List -/
theorem l6List_tot (b : List Int) (i h : Int) (hc : Cur b i) : ∃ l i' h', Ev (fun k => spec_l6List.f k b i h) (l, i', h') ∧ l.length ≤ 8 ∧ Cur b i' := by
 have key : ∀ (m : Nat) (l : List (S113)) (x : Nat) (i h : Int), x + m = 8 → l.length + 1 ≤ x → Cur b i → ∃ l' i' h', Ev (fun k => spec_l6List.l0 k l (x : Int) b i h) (l', i', h') ∧ l'.length ≤ 8 ∧ Cur b i' := by
  intro m
  induction m with
  | zero =>
   intro l x i h hx hl hc
   obtain ⟨y, i1, h1, e1, _, hy, c1⟩ := l1Below_tot b i h 8 hc
   have := hy (by omega)
   refine ⟨l, i1, h1, ev_succ ?_, by omega, c1⟩
   simp only [spec_l6List.l0, e1, Option.bind_some, if_neg (show ¬ (x : Int) ≤ y by omega)]
   exact Ev.now _
  | succ m ih =>
   intro l x i h hx hl hc
   obtain ⟨y, i1, h1, e1, _, hy, c1⟩ := l1Below_tot b i h 8 hc
   by_cases hxy : (x : Int) ≤ y
   ·obtain ⟨x0, x1, x2, x3, x4, x5, x6, x7, i2, h2, e2, c2⟩ := l6Draw_tot b i1 h1 (wrap64 (2 * (x : Int))) c1
    obtain ⟨l', i', h', e, hl', c'⟩ := ih (l ++ [⟨⟨x0, x1, x2, x3, x4⟩, x5, x6, x7⟩]) (x + 1) i2 h2 (by omega) (by simp; omega) c2
    refine ⟨l', i', h', ev_succ ?_, hl', c'⟩
    simp only [spec_l6List.l0, e1, e2, Option.bind_some, if_pos hxy, if_pos (show l.length < 2199023255552 by omega), wsucc (show x < 9223372036854775807 by omega)]
    exact e
   ·refine ⟨l, i1, h1, ev_succ ?_, by omega, c1⟩
    simp only [spec_l6List.l0, e1, Option.bind_some, if_neg hxy]
    exact Ev.now _
 exact key 7 [] 1 i h (by omega) (by simp) hc

/-! spec_l1Int -/
theorem l1Int_tot (b : List Int) (i h : Int) (l : List Int) (hl : 0 < l.length) (hc : Cur b i) : ∃ x i' h', spec_l1Int.f b i h l = some (x, i', h') ∧ x ∈ l ∧ Cur b i' := by
 obtain ⟨x, i1, h1, e1, hx0, hx1, c1⟩ := l1Below_tot b i h (l.length : Int) hc
 have hx := hx1 (by omega)
 unfold spec_l1Int.f
 simp only [e1, Option.bind_some, if_pos hx0, if_pos hx]
 refine ⟨_, _, _, rfl, ?_, c1⟩
 unfold rd
 rw [List.getD_eq_getElem?_getD, List.getElem?_eq_getElem (by omega)]
 exact List.getElem_mem _

/-! spec_l4Raw -/
theorem l4Raw_tot (b : List Int) (i h : Int) (hc : Cur b i) : ∃ x i' h', spec_l4Raw.f b i h = some (x, i', h') ∧ Cur b i' := by
 obtain ⟨x, i1, h1, e1, _, c1⟩ := l1Int_tot b i h [(-1), 0, 8, 50, 51, 1000, 9223372036854775807, (-9223372036854775808)] (by decide) hc
 unfold spec_l4Raw.f
 simp only [e1, Option.bind_some]
 exact ⟨_, _, _, rfl, c1⟩

/-! spec_l4Any -/
theorem l4Any_tot (b : List Int) (i h : Int) (hc : Cur b i) : ∃ x0 x1 x2 x3 x4 i' h', spec_l4Any.f b i h = some (x0, x1, x2, x3, x4, i', h') ∧ Cur b i' := by
 obtain ⟨a1, i1, h1, e1, _, _, c1⟩ := l1Below_tot b i h 40 hc
 obtain ⟨x0, x1, x2, x3, x4, i2, h2, e2, c2⟩ := l4Draw_tot b i1 h1 (wrap64 (1 + a1)) c1
 obtain ⟨a3, i3, h3, e3, _, _, c3⟩ := l1Below_tot b i2 h2 14 c2
 unfold spec_l4Any.f
 simp only [e1, e2, e3, Option.bind_some]
 split
 ·obtain ⟨y, i4, h4, e4, _, c4⟩ := l1Int_tot b i3 h3 [0, 999, 1000] (by decide) c3
  simp only [e4, Option.bind_some]
  exact ⟨_, _, _, _, _, _, _, rfl, c4⟩
 split
 ·obtain ⟨y, i4, h4, e4, _, c4⟩ := l1Int_tot b i3 h3 [0, 8, 9] (by decide) c3
  simp only [e4, Option.bind_some]
  exact ⟨_, _, _, _, _, _, _, rfl, c4⟩
 split
 ·obtain ⟨y, i4, h4, e4, _, c4⟩ := l1Int_tot b i3 h3 [(-1), 7, 8] (by decide) c3
  simp only [e4, Option.bind_some]
  exact ⟨_, _, _, _, _, _, _, rfl, c4⟩
 split
 ·obtain ⟨y, i4, h4, e4, c4⟩ := l4Raw_tot b i3 h3 c3
  simp only [e4, Option.bind_some]
  exact ⟨_, _, _, _, _, _, _, rfl, c4⟩
 split
 ·obtain ⟨y, i4, h4, e4, _, c4⟩ := l1Int_tot b i3 h3 [(-1), 10000000, 10000001] (by decide) c3
  simp only [e4, Option.bind_some]
  exact ⟨_, _, _, _, _, _, _, rfl, c4⟩
 ·exact ⟨_, _, _, _, _, _, _, rfl, c3⟩

/-! spec_l6Any -/
theorem l6Any_tot (b : List Int) (i h : Int) (hc : Cur b i) : ∃ l i' h', Ev (fun k => spec_l6Any.f k b i h) (l, i', h') ∧ l.length ≤ 8 ∧ Cur b i' := by
 obtain ⟨l, i1, h1, e1, hl, c1⟩ := l6List_tot b i h hc
 unfold spec_l6Any.f
 by_cases h0 : (l.length : Int) = 0
 ·refine ⟨l, i1, h1, Ev.bind e1 ?_, hl, c1⟩
  simp only [if_pos h0]
  exact Ev.now _
 ·obtain ⟨p, i2, h2, e2, hp0, hp1, c2⟩ := l1Below_tot b i1 h1 (l.length : Int) c1
  have hp := hp1 (by omega)
  obtain ⟨a, i3, h3, e3, _, _, c3⟩ := l1Below_tot b i2 h2 12 c2
  by_cases q0 : a = 0
  ·obtain ⟨x0, x1, x2, x3, x4, i4, h4, e4, c4⟩ := l4Any_tot b i3 h3 c3
   refine ⟨l.set p.toNat ⟨⟨x0, x1, x2, x3, x4⟩, (rd_T113 l p).f1, (rd_T113 l p).f2, (rd_T113 l p).f3⟩, i4, h4, Ev.bind e1 ?_, by rw [List.length_set]; exact hl, c4⟩
   simp only [if_neg h0, e2, e3, e4, Option.bind_some, if_pos q0, if_pos hp0, if_pos hp]
   exact Ev.now _
  by_cases q1 : a = 1
  ·obtain ⟨y, i4, h4, e4, _, c4⟩ := l1Int_tot b i3 h3 [0, 30, 31] (by decide) c3
   refine ⟨l.set p.toNat ⟨⟨(rd_T113 l p).f0.f0, (rd_T113 l p).f0.f1, (rd_T113 l p).f0.f2, (rd_T113 l p).f0.f3, (rd_T113 l p).f0.f4⟩, y, (rd_T113 l p).f2, (rd_T113 l p).f3⟩, i4, h4, Ev.bind e1 ?_, by rw [List.length_set]; exact hl, c4⟩
   simp only [if_neg h0, e2, e3, e4, Option.bind_some, if_neg q0, if_pos q1, if_pos hp0, if_pos hp]
   exact Ev.now _
  by_cases q2 : a = 2
  ·obtain ⟨y, i4, h4, e4, c4⟩ := l4Raw_tot b i3 h3 c3
   refine ⟨l.set p.toNat ⟨⟨(rd_T113 l p).f0.f0, (rd_T113 l p).f0.f1, (rd_T113 l p).f0.f2, (rd_T113 l p).f0.f3, (rd_T113 l p).f0.f4⟩, (rd_T113 l p).f1, y, (rd_T113 l p).f3⟩, i4, h4, Ev.bind e1 ?_, by rw [List.length_set]; exact hl, c4⟩
   simp only [if_neg h0, e2, e3, e4, Option.bind_some, if_neg q0, if_neg q1, if_pos q2, if_pos hp0, if_pos hp]
   exact Ev.now _
  by_cases q3 : a = 3
  ·obtain ⟨y, i4, h4, e4, _, c4⟩ := l1Int_tot b i3 h3 [(-1), 999, 1000] (by decide) c3
   refine ⟨l.set p.toNat ⟨⟨(rd_T113 l p).f0.f0, (rd_T113 l p).f0.f1, (rd_T113 l p).f0.f2, (rd_T113 l p).f0.f3, (rd_T113 l p).f0.f4⟩, (rd_T113 l p).f1, (rd_T113 l p).f2, y⟩, i4, h4, Ev.bind e1 ?_, by rw [List.length_set]; exact hl, c4⟩
   simp only [if_neg h0, e2, e3, e4, Option.bind_some, if_neg q0, if_neg q1, if_neg q2, if_pos q3, if_pos hp0, if_pos hp]
   exact Ev.now _
  ·refine ⟨l, i3, h3, Ev.bind e1 ?_, hl, c3⟩
   simp only [if_neg h0, e2, e3, Option.bind_some, if_neg q0, if_neg q1, if_neg q2, if_neg q3]
   exact Ev.now _

/-! spec_l1Once -/
theorem l1Once_tot (b : List Int) (i h n : Int) (hc : Cur b i) : ∃ x i' h', spec_l1Once.f b i h n = some (x, i', h') ∧ Cur b i' := by
 obtain ⟨x, i1, h1, e1, _, _, c1⟩ := l1Below_tot b i h n hc
 unfold spec_l1Once.f
 simp only [e1, Option.bind_some]
 exact ⟨_, _, _, rfl, c1⟩

/-! spec_l7Some -/
theorem l7Some_run (b : List Int) (hi n : Int) : ∀ (m : Nat) (l : List Int) (x i h : Int), x + m = hi + 1 → l.length + m ≤ 100 → -1000 ≤ x → x + m ≤ 1000 → Cur b i → ∃ l' i' h', Ev (fun k => spec_l7Some.l0 k hi n l x b i h) (l', i', h') ∧ l'.length ≤ l.length + m ∧ Cur b i'
 | 0, l, x, i, h, hx, hl, h0, h1, hc => ⟨l, i, h, by
  refine ev_succ ?_
  simp only [spec_l7Some.l0, if_neg (show ¬ x ≤ hi by omega)]
  exact Ev.now _, by omega, hc⟩
 | m + 1, l, x, i, h, hx, hl, h0, h1, hc => by
  obtain ⟨q, i1, h1', e1, c1⟩ := l1Once_tot b i h n hc
  have ew : wrap64 (x + 1) = x + 1 := w64 (by omega) (by omega)
  cases q with
  | true =>
   obtain ⟨l', i', h', e, hl', c'⟩ := l7Some_run b hi n m (l ++ [x]) (x + 1) i1 h1' (by omega) (by simp; omega) (by omega) (by omega) c1
   refine ⟨l', i', h', ev_succ ?_, by simp at hl'; omega, c'⟩
   simp only [spec_l7Some.l0, if_pos (show x ≤ hi by omega), e1, Option.bind_some, if_true, if_pos (show l.length < 17592186044416 by omega), ew]
   exact e
  | false =>
   obtain ⟨l', i', h', e, hl', c'⟩ := l7Some_run b hi n m l (x + 1) i1 h1' (by omega) (by omega) (by omega) (by omega) c1
   refine ⟨l', i', h', ev_succ ?_, by omega, c'⟩
   simp only [spec_l7Some.l0, if_pos (show x ≤ hi by omega), e1, Option.bind_some, Bool.false_eq_true, if_false, ew]
   exact e
theorem l7Some_tot (b : List Int) (i h lo hi n : Int) (m : Nat) (hm : lo + m = hi + 1) (h8 : m ≤ 8) (h0 : 0 ≤ lo) (hc : Cur b i) (h1 : lo ≤ 10) : ∃ l i' h', Ev (fun k => spec_l7Some.f k b i h lo hi n) (l, i', h') ∧ l.length ≤ 8 ∧ Cur b i' := by
 obtain ⟨l, i', h', e, hl, c⟩ := l7Some_run b hi n m [] lo i h hm (by simp; omega) (by omega) (by omega) hc
 exact ⟨l, i', h', e, by simp at hl; omega, c⟩

/-! spec_l5Draw -/
theorem l5Draw_tot (b : List Int) (i h : Int) (hc : Cur b i) : ∃ x y i' h', spec_l5Draw.f b i h = some (x, y, i', h') ∧ Cur b i' := by
 obtain ⟨x, i1, h1, e1, _, _, c1⟩ := l1Below_tot b i h 60 hc
 obtain ⟨y, i2, h2, e2, _, _, c2⟩ := l1Below_tot b i1 h1 30 c1
 unfold spec_l5Draw.f
 simp only [e1, e2, Option.bind_some]
 exact ⟨_, _, _, _, rfl, c2⟩

/-! rtot -/
def RTot (b : List Int) (g : Nat → Option (Int × Int × List Int × Int × Int × List Int × Int × Int × Int × Int)) : Prop := ∃ x0 x1 x2 x3 x4 x5 x6 x7 i h, Ev g (x0, x1, x2, x3, x4, x5, x6, x7, i, h) ∧ List.length x2 ≤ 8 ∧ List.length x5 ≤ 8 ∧ Cur b i
theorem RTot.bind {α : Type} {b : List Int} {g : Nat → Option α} {f : Nat → α → Option (Int × Int × List Int × Int × Int × List Int × Int × Int × Int × Int)} {a : α} (h : Ev g a) (k : RTot b (fun n => f n a)) : RTot b (fun n => (g n).bind fun x => f n x) := by
 obtain ⟨x0, x1, x2, x3, x4, x5, x6, x7, i, h', e, q⟩ := k
 exact ⟨x0, x1, x2, x3, x4, x5, x6, x7, i, h', Ev.bind h e, q⟩
theorem RTot.succ {b : List Int} {g : Nat → Option (Int × Int × List Int × Int × Int × List Int × Int × Int × Int × Int)} (k : RTot b (fun n => g (n + 1))) : RTot b g := by
 obtain ⟨x0, x1, x2, x3, x4, x5, x6, x7, i, h', e, q⟩ := k
 exact ⟨x0, x1, x2, x3, x4, x5, x6, x7, i, h', ev_succ e, q⟩
theorem RTot.now {b : List Int} {x0 x1 x3 x4 x6 x7 i h : Int} {x2 x5 : List Int} (h2 : x2.length ≤ 8) (h5 : x5.length ≤ 8) (hc : Cur b i) : RTot b (fun _ => some (x0, x1, x2, x3, x4, x5, x6, x7, i, h)) := ⟨x0, x1, x2, x3, x4, x5, x6, x7, i, h, Ev.now _, h2, h5, hc⟩

/-! spec_l7Draw -/
theorem l7Draw_tot (b : List Int) (i h id : Int) (hc : Cur b i) : RTot b (fun k => spec_l7Draw.f k b i h id) := by
 obtain ⟨s, i1, h1, e1, _, _, c1⟩ := l1Below_tot b i h 12 hc
 obtain ⟨x, i2, h2, e2, _, _, c2⟩ := l1Below_tot b i1 h1 8 c1
 obtain ⟨l, i3, h3, e3, hl, c3⟩ := l7Some_tot b i2 h2 0 7 3 8 (by decide) (by decide) (by decide) c2 (by decide)
 obtain ⟨y, i4, h4, e4, _, _, c4⟩ := l1Below_tot b i3 h3 15 c3
 obtain ⟨m, i5, h5, e5, hm, c5⟩ := l7Some_tot b i4 h4 1 6 2 6 (by decide) (by decide) (by decide) c4 (by decide)
 obtain ⟨u, v, i6, h6, e6, c6⟩ := l5Draw_tot b i5 h5 c5
 unfold spec_l7Draw.f
 simp only [e1, e2, Option.bind_some]
 refine RTot.bind e3 ?_
 simp only [e4, Option.bind_some]
 refine RTot.bind e5 ?_
 simp only [e6, Option.bind_some]
 exact RTot.now hl hm c6

/-! spec_l5Any -/
theorem l5Any_tot (b : List Int) (i h : Int) (hc : Cur b i) : ∃ x y i' h', spec_l5Any.f b i h = some (x, y, i', h') ∧ Cur b i' := by
 obtain ⟨x, y, i1, h1, e1, c1⟩ := l5Draw_tot b i h hc
 obtain ⟨q, i2, h2, e2, _, _, c2⟩ := l1Below_tot b i1 h1 10 c1
 unfold spec_l5Any.f
 simp only [e1, e2, Option.bind_some]
 by_cases q0 : q = 0
 ·obtain ⟨z, i3, h3, e3, c3⟩ := l4Raw_tot b i2 h2 c2
  simp only [if_pos q0, e3, Option.bind_some]
  exact ⟨_, _, _, _, rfl, c3⟩
 by_cases q1 : q = 1
 ·obtain ⟨z, i3, h3, e3, _, c3⟩ := l1Int_tot b i2 h2 [(-1), 0, 100000, 100001] (by decide) c2
  simp only [if_neg q0, if_pos q1, e3, Option.bind_some]
  exact ⟨_, _, _, _, rfl, c3⟩
 simp only [if_neg q0, if_neg q1]
 exact ⟨_, _, _, _, rfl, c2⟩

/-! spec_l7Any -/
theorem l7Any_tot (b : List Int) (i h : Int) (hc : Cur b i) : RTot b (fun k => spec_l7Any.f k b i h) := by
 obtain ⟨s, i1, h1, e1, _, _, c1⟩ := l1Below_tot b i h 9 hc
 obtain ⟨x0, x1, x2, x3, x4, x5, x6, x7, i2, h2, e2, hl, hm, c2⟩ := l7Draw_tot b i1 h1 (wrap64 (1 + s)) c1
 obtain ⟨q, i3, h3, e3, _, _, c3⟩ := l1Below_tot b i2 h2 14 c2
 obtain ⟨z, i4, h4, e4, c4⟩ := l4Raw_tot b i3 h3 c3
 obtain ⟨u, v, i5, h5, e5, c5⟩ := l5Any_tot b i3 h3 c3
 have I := fun (l : List Int) (hl : 0 < l.length) => l1Int_tot b i3 h3 l hl c3
 unfold spec_l7Any.f
 simp only [e1, Option.bind_some]
 refine RTot.bind e2 ?_
 simp only [e3, Option.bind_some]
 by_cases q0 : q = 0
 ·obtain ⟨y, i6, h6, e6, _, c6⟩ := I [0, 999, 1000] (by decide)
  simp only [if_pos q0, e6, Option.bind_some]
  exact RTot.now hl hm c6
 by_cases q1 : q = 1
 ·obtain ⟨y, i6, h6, e6, _, c6⟩ := I [0, 8, 9] (by decide)
  simp only [if_neg q0, if_pos q1, e6, Option.bind_some]
  exact RTot.now hl hm c6
 by_cases q2 : q = 2
 ·obtain ⟨y, i6, h6, e6, _, c6⟩ := I [(-1), 3, 8] (by decide)
  simp only [if_neg q0, if_neg q1, if_pos q2, e6, Option.bind_some]
  exact RTot.now (by simp) hm c6
 by_cases q3 : q = 3
 ·simp only [if_neg q0, if_neg q1, if_neg q2, if_pos q3, e4, Option.bind_some]
  exact RTot.now hl hm c4
 by_cases q4 : q = 4
 ·simp only [if_neg q0, if_neg q1, if_neg q2, if_neg q3, if_pos q4, e4, Option.bind_some]
  exact RTot.now hl hm c4
 by_cases q5 : q = 5
 ·obtain ⟨y, i6, h6, e6, _, c6⟩ := I [0, 30, 31] (by decide)
  simp only [if_neg q0, if_neg q1, if_neg q2, if_neg q3, if_neg q4, if_pos q5, e6, Option.bind_some]
  exact RTot.now hl (by simp) c6
 by_cases q6 : q = 6
 ·simp only [if_neg q0, if_neg q1, if_neg q2, if_neg q3, if_neg q4, if_neg q5, if_pos q6, e5, Option.bind_some]
  exact RTot.now hl hm c5
 simp only [if_neg q0, if_neg q1, if_neg q2, if_neg q3, if_neg q4, if_neg q5, if_neg q6]
 by_cases q7 : q = 7
 ·simp only [if_pos q7]
  exact RTot.now (by simp) (by simp) c3
 ·simp only [if_neg q7]
  exact RTot.now hl hm c3

/-! spec_Max -/
theorem spec_Max_eq (a b : Int) : spec_Max.f a b = some (if b > a then b else a) := by
 simp only [spec_Max.f, ite_some]

/-! spec_Min -/
theorem spec_Min_eq (a b : Int) : spec_Min.f a b = some (if b < a then b else a) := by
 simp only [spec_Min.f, ite_some]

/-! spec_l8For -/
theorem l8For_j2 (b : List Int) (i h y0 y1 y2 y3 y4 y5 y6 y7 x0 x1 : Int) (x2 : List Int) (x3 x4 : Int) (x5 : List Int) (x6 x7 : Int) (hl : x2.length ≤ 8) (hm : x5.length ≤ 8) (hc : Cur b i) : RTot b (fun k => spec_l8For.j2 k b i h y0 y1 y2 y3 y4 y5 y6 y7 x0 x1 x2 x3 x4 x5 x6 x7) := by
 obtain ⟨q, i1, h1, e1, c1⟩ := l1Once_tot b i h 6 hc
 refine RTot.succ ?_
 simp only [spec_l8For.j2, e1, Option.bind_some]
 cases q with
 | true => exact RTot.now hl hm c1
 | false =>
  obtain ⟨s, i2, h2, e2, _, _, c2⟩ := l1Below_tot b i1 h1 40 c1
  simp only [Bool.false_eq_true, if_false, e2, spec_Max_eq, Option.bind_some]
  exact RTot.now hl hm c2
theorem l8For_j1 (b : List Int) (i h y0 y1 y2 y3 y4 y5 y6 y7 x0 x1 : Int) (x2 : List Int) (x3 x4 : Int) (x5 : List Int) (x6 x7 : Int) (hl : x2.length ≤ 8) (hm : x5.length ≤ 8) (hc : Cur b i) : RTot b (fun k => spec_l8For.j1 k b i h y0 y1 y2 y3 y4 y5 y6 y7 x0 x1 x2 x3 x4 x5 x6 x7) := by
 obtain ⟨q, i1, h1, e1, c1⟩ := l1Once_tot b i h 6 hc
 refine RTot.succ ?_
 simp only [spec_l8For.j1, e1, Option.bind_some]
 cases q with
 | true => exact l8For_j2 b i1 h1 _ _ _ _ _ _ _ _ _ _ _ _ _ _ _ _ hl hm c1
 | false => exact l8For_j2 b i1 h1 _ _ _ _ _ _ _ _ _ _ _ _ _ _ _ _ hl (by simp) c1
theorem l8For_j0 (b : List Int) (i h y0 y1 y2 y3 y4 y5 y6 y7 x0 x1 : Int) (x2 : List Int) (x3 x4 : Int) (x5 : List Int) (x6 x7 : Int) (hl : x2.length ≤ 8) (hm : x5.length ≤ 8) (hc : Cur b i) : RTot b (fun k => spec_l8For.j0 k b i h y0 y1 y2 y3 y4 y5 y6 y7 x0 x1 x2 x3 x4 x5 x6 x7) := by
 obtain ⟨q, i1, h1, e1, c1⟩ := l1Once_tot b i h 6 hc
 refine RTot.succ ?_
 simp only [spec_l8For.j0, e1, Option.bind_some]
 cases q with
 | true => exact l8For_j1 b i1 h1 _ _ _ _ _ _ _ _ _ _ _ _ _ _ _ _ hl hm c1
 | false =>
  obtain ⟨s, i2, h2, e2, _, _, c2⟩ := l1Below_tot b i1 h1 4 c1
  obtain ⟨t, i3, h3, e3, _, _, c3⟩ := l1Below_tot b i2 h2 4 c2
  simp only [Bool.false_eq_true, if_false, e2, e3, spec_Max_eq, spec_Min_eq, Option.bind_some]
  exact l8For_j1 b i3 h3 _ _ _ _ _ _ _ _ _ _ _ _ _ _ _ _ hl hm c3
theorem l8For_tot (b : List Int) (i h y0 y1 y2 y3 y4 y5 y6 y7 id : Int) (hc : Cur b i) : RTot b (fun k => spec_l8For.f k b i h y0 y1 y2 y3 y4 y5 y6 y7 id) := by
 obtain ⟨x0, x1, x2, x3, x4, x5, x6, x7, i2, h2, e2, hl, hm, c2⟩ := l7Draw_tot b i h id hc
 obtain ⟨q, i1, h1, e1, c1⟩ := l1Once_tot b i2 h2 6 c2
 unfold spec_l8For.f
 refine RTot.bind e2 ?_
 simp only [e1, Option.bind_some]
 cases q with
 | true => exact l8For_j0 b i1 h1 _ _ _ _ _ _ _ _ _ _ _ _ _ _ _ _ hl hm c1
 | false => exact l8For_j0 b i1 h1 _ _ _ _ _ _ _ _ _ _ _ _ _ _ _ _ (by simp) hm c1

/-! whyNot -/
def whyRest (kind : Int) (cols : List Int) (lo hi : Int) (pl : List Int) (fr b1 b2 b3 b5 b6 : Int) : ByteArray :=
 if kind = b1 then (if allows cols b2 = true then (if inr b3 lo hi = true then (if allows pl b5 = true then (if b6 < fr then ⟨#[116, 105, 109, 101]⟩ else ⟨#[]⟩) else ⟨#[112, 108, 97, 99, 101]⟩) else ⟨#[115, 105, 122, 101]⟩) else ⟨#[99, 111, 108, 111, 117, 114]⟩) else ⟨#[107, 105, 110, 100]⟩
def whyNot (id kind : Int) (cols : List Int) (lo hi : Int) (pl : List Int) (fr un b0 b1 b2 b3 b4 b5 b6 b7 : Int) : ByteArray :=
 if (isReport id kind cols lo hi pl fr un && isFind b0 b1 b2 b3 b4 b5 b6 b7) = true then whyRest kind cols lo hi pl fr b1 b2 b3 b5 b6 else ⟨#[105, 110, 118, 97, 108, 105, 100]⟩
def canBe (id kind : Int) (cols : List Int) (lo hi : Int) (pl : List Int) (fr un b0 b1 b2 b3 b4 b5 b6 b7 : Int) : Bool := (whyNot id kind cols lo hi pl fr un b0 b1 b2 b3 b4 b5 b6 b7).toList == ([] : List UInt8)
theorem canBe_ok {id kind : Int} {cols : List Int} {lo hi : Int} {pl : List Int} {fr un b0 b1 b2 b3 b4 b5 b6 b7 : Int} (h : canBe id kind cols lo hi pl fr un b0 b1 b2 b3 b4 b5 b6 b7 = true) : isReport id kind cols lo hi pl fr un = true ∧ isFind b0 b1 b2 b3 b4 b5 b6 b7 = true := by
 unfold canBe whyNot at h
 cases h1 : (isReport id kind cols lo hi pl fr un && isFind b0 b1 b2 b3 b4 b5 b6 b7) with
 | true => simpa only [Bool.and_eq_true] using h1
 | false =>
  rw [h1, if_neg (by decide), ByteArray.toList_eq] at h
  exact absurd h (by decide)

/-! impl_WhyNot -/
theorem impl_WhyNot_j0 (c : Bool) (id kind : Int) (cols : List Int) (lo hi : Int) (pl : List Int) (fr un b0 b1 b2 b3 b4 b5 b6 b7 : Int) (hc : cols.length ≤ 1099511627776) (hp : pl.length ≤ 1099511627776) :
  Ev (fun k => impl_WhyNot.j0 k c id kind cols lo hi pl fr un b0 b1 b2 b3 b4 b5 b6 b7) (if c = true then ⟨#[105, 110, 118, 97, 108, 105, 100]⟩ else whyRest kind cols lo hi pl fr b1 b2 b3 b5 b6) := by
 refine ev_succ ?_
 simp only [impl_WhyNot.j0]
 cases c with
 | true => exact Ev.now _
 | false =>
  simp only [Bool.false_eq_true, if_false, whyRest]
  by_cases h1 : kind = b1
  ·simp only [if_pos h1]
   refine Ev.bind (impl_allows_ev cols b2 hc) ?_
   by_cases h2 : allows cols b2 = true
   ·simp only [if_pos h2, impl_InRange_eq, Option.bind_some]
    by_cases h3 : inr b3 lo hi = true
    ·simp only [if_pos h3]
     refine Ev.bind (impl_allows_ev pl b5 hp) ?_
     by_cases h4 : allows pl b5 = true
     ·simp only [if_pos h4]
      exact ev_const (by split <;> rfl)
     ·simp only [if_neg h4]
      exact Ev.now _
    ·simp only [if_neg h3]
     exact Ev.now _
   ·simp only [if_neg h2]
    exact Ev.now _
  ·simp only [if_neg h1]
   exact Ev.now _
theorem impl_WhyNot_ev (id kind : Int) (cols : List Int) (lo hi : Int) (pl : List Int) (fr un b0 b1 b2 b3 b4 b5 b6 b7 : Int) (hc : cols.length ≤ 1099511627776) (hp : pl.length ≤ 1099511627776) :
  Ev (fun k => impl_WhyNot.f k id kind cols lo hi pl fr un b0 b1 b2 b3 b4 b5 b6 b7) (whyNot id kind cols lo hi pl fr un b0 b1 b2 b3 b4 b5 b6 b7) := by
 unfold impl_WhyNot.f whyNot
 refine Ev.bind (impl_IsReport_ev _ _ _ _ _ _ _ _ hc hp) ?_
 have J := fun c => impl_WhyNot_j0 c id kind cols lo hi pl fr un b0 b1 b2 b3 b4 b5 b6 b7 hc hp
 cases h1 : isReport id kind cols lo hi pl fr un with
 | false =>
  simp only [Bool.false_eq_true, if_false, Bool.false_and]
  exact ev_map (J true) rfl
 | true =>
  simp only [if_true, impl_IsFind_eq, Option.bind_some, Bool.true_and]
  cases h2 : isFind b0 b1 b2 b3 b4 b5 b6 b7 with
  | false => exact ev_map (J true) rfl
  | true => exact ev_map (J false) rfl

/-! impl_CanBe -/
theorem impl_CanBe_ev (id kind : Int) (cols : List Int) (lo hi : Int) (pl : List Int) (fr un b0 b1 b2 b3 b4 b5 b6 b7 : Int) (hc : cols.length ≤ 1099511627776) (hp : pl.length ≤ 1099511627776) :
  Ev (fun k => impl_CanBe.f k id kind cols lo hi pl fr un b0 b1 b2 b3 b4 b5 b6 b7) (canBe id kind cols lo hi pl fr un b0 b1 b2 b3 b4 b5 b6 b7) := by
 unfold impl_CanBe.f canBe
 exact Ev.bind (impl_WhyNot_ev _ _ _ _ _ _ _ _ _ _ _ _ _ _ _ _ hc hp) (Ev.now _)

/-! ownReport -/
structure SRp6 where
 f0 : Int
 f1 : Int
structure S41 where
 f0 : Int
 f1 : Int
 f2 : List Int
 f3 : Int
 f4 : Int
 f5 : List Int
 f6 : SRp6

/-! impl_Candidates -/
def canFor (r : S41) (x : S113) : Bool := canBe r.f0 r.f1 r.f2 r.f3 r.f4 r.f5 r.f6.f0 r.f6.f1 x.f0.f0 x.f0.f1 x.f0.f2 x.f0.f3 x.f0.f4 x.f1 x.f2 x.f3
def cands (r : S41) (f : List (S113)) : List Int := if areFinds f = true then (f.filter (canFor r)).map (fun x => x.f0.f0) else []
theorem impl_Candidates_ev (r : S41) (f : List (S113)) (hf : f.length ≤ 1048576) (hc : r.f2.length ≤ 1099511627776) (hp : r.f5.length ≤ 1099511627776) :
  Ev (fun k => impl_Candidates.f k r.f0 r.f1 r.f2 r.f3 r.f4 r.f5 r.f6.f0 r.f6.f1 f) (cands r f) := by
 unfold impl_Candidates.f cands
 simp only [Option.bind_some]
 refine Ev.bind (impl_AreFinds_ev f (by omega)) ?_
 cases h : areFinds f with
 | false => exact Ev.now _
 | true =>
  simp only [if_true]
  refine ev_map (ev_range f (fun k (o : List Int) i => impl_Candidates.l0 k o f (f.length : Int) i r.f0 r.f1 r.f2 r.f3 r.f4 r.f5 r.f6.f0 r.f6.f1) (fun o q => o ++ (q.filter (canFor r)).map (fun x => x.f0.f0)) (fun p o => o.length ≤ p.length) (by omega) ?_ ?_ [] (Nat.le_refl _)) (by simp)
  ·intro o _
   simp only [impl_Candidates.l0, if_neg (Int.lt_irrefl _)]
   exact ev_const (by simp)
  ·rintro pre x rest o e hlt hget ho ih
   have hr : rd_T113 f (pre.length : Int) = x := hget _
   have ho' : o.length ≤ pre.length := ho
   have hs : canBe r.f0 r.f1 r.f2 r.f3 r.f4 r.f5 r.f6.f0 r.f6.f1 x.f0.f0 x.f0.f1 x.f0.f2 x.f0.f3 x.f0.f4 x.f1 x.f2 x.f3 = canFor r x := rfl
   have hn : f.length = pre.length + (rest.length + 1) := by rw [e, len_pre]
   simp only [impl_Candidates.l0, if_pos hlt, if_pos (ge0 pre.length), hr]
   refine Ev.bind (impl_CanBe_ev _ _ _ _ _ _ _ _ _ _ _ _ _ _ _ _ hc hp) ?_
   simp only [hs]
   rcases Bool.eq_false_or_eq_true (canFor r x) with hm | hm
   ·simp only [hm, if_true, if_pos (show o.length < 17592186044416 by omega)]
    exact ev_map (ih _ (by simp; omega)) (by simp [List.filter_cons, hm])
   ·simp only [hm, Bool.false_eq_true, if_false]
    exact ev_map (ih o (by rw [List.length_append]; omega)) (by simp [List.filter_cons, hm])

/-! spec_IsThing -/
theorem spec_IsThing_eq (a b c d e : Int) : spec_IsThing.f a b c d e = some (isThing a b c d e) := by
 simp only [spec_IsThing.f, spec_l1In_eq, Option.bind_some, ite_and, isThing]

/-! spec_IsFind -/
theorem spec_IsFind_eq (a b c d e f g h : Int) : spec_IsFind.f a b c d e f g h = some (isFind a b c d e f g h) := by
 simp only [spec_IsFind.f, spec_IsThing_eq, spec_l1In_eq, Option.bind_some, ite_and, isFind]

/-! spec_AreFinds -/
theorem spec_AreFinds_ev (l : List (S113)) (h : l.length ≤ 1099511627776) : Ev (fun k => spec_AreFinds.f k l) (areFinds l) := by
 unfold areFinds
 refine ev_map (ev_range l (fun k (_ : Option (S113)) i => spec_AreFinds.l0 k l i) (fun s r => fdOk s r && decide (l.length ≤ 20)) (fun p s => s = p.getLast?) (by omega) ?_ ?_ none rfl) (Bool.and_comm _ _)
 ·intro s _
  simp only [spec_AreFinds.l0, if_neg (Int.lt_irrefl _), fdOk, Bool.true_and]
  refine ev_const ?_
  rw [show decide ((l.length : Int) ≤ 20) = decide (l.length ≤ 20) from decide_eq_decide.2 (by omega)]
 ·rintro pre x rest s e hlt hget rfl ih
  have hr : rd_T113 l (pre.length : Int) = x := hget _
  have ih' := ih (some x) (by simp)
  have hf : isFind x.f0.f0 x.f0.f1 x.f0.f2 x.f0.f3 x.f0.f4 x.f1 x.f2 x.f3 = fdFits x := rfl
  simp only [spec_AreFinds.l0, if_pos hlt, if_pos (ge0 pre.length), hr, spec_IsFind_eq, Option.bind_some, fdOk, hf]
  cases h1 : fdFits x with
  | false => exact Ev.now _
  | true =>
   simp only [if_true, Bool.true_and]
   rcases prev_cases e (by omega) with ⟨hp, hn⟩ | ⟨y, hy, h4, h5, h6, h7⟩
   ·simp only [if_neg hn]
    exact ev_map ih' (by simp [hp])
   ·have hr7 : rd_T113 l (wrap64 ((pre.length : Int) - 1)) = y := h7 _
    simp only [if_pos h4, if_pos h5, if_pos h6, hr7, hy]
    by_cases h8 : y.f0.f0 ≥ x.f0.f0
    ·simp only [if_pos h8]
     exact ev_const (by simp [show ¬ y.f0.f0 < x.f0.f0 by omega])
    ·simp only [if_neg h8]
     exact ev_map ih' (by simp [show y.f0.f0 < x.f0.f0 by omega])

/-! spec_HintsOf -/
theorem spec_HintsOf_ev (l : List (S113)) (salt : Int) (h : l.length ≤ 1099511627776) : Ev (fun k => spec_HintsOf.f k l salt) (hintsOf l salt) := by
 have jf : ∀ (s : List Int) (i : Int), Ev (fun k => spec_HintsOf.j1 k l salt s i false) s := by
  intro n i
  refine ev_succ ?_
  simp only [spec_HintsOf.j1, Bool.false_eq_true, if_false]
  exact Ev.now _
 unfold hintsOf
 cases hc : areFinds l with
 | false =>
  simp only [Bool.false_eq_true, if_false]
  unfold spec_HintsOf.f
  refine ev_succ ?_
  by_cases h0 : (0 : Int) < (l.length : Int)
  ·simp only [spec_HintsOf.l0, if_pos h0]
   refine Ev.bind (spec_AreFinds_ev l h) ?_
   rw [hc]
   exact jf _ _
  ·simp only [spec_HintsOf.l0, if_neg h0]
   exact jf _ _
 | true =>
  simp only [if_true]
  rw [uni_puts]
  refine ev_range l (fun k (s : List Int) i => spec_HintsOf.l0 k l salt s i) (fun s r => puts s (r.map (hintAt salt))) (fun p s => s.length ≤ p.length) (by omega) ?_ ?_ [] (Nat.le_refl _)
  ·intro s _
   simp only [spec_HintsOf.l0, if_neg (Int.lt_irrefl _)]
   exact jf _ _
  ·intro pre x rest s e hlt hget hs ih
   have hr : rd_T113 l (pre.length : Int) = x := hget _
   have hs' : s.length ≤ pre.length := hs
   have hd : ghash [salt, x.f0.f1, x.f0.f2, wrap64 (Int.tdiv x.f0.f3 10)] = hintAt salt x := rfl
   have hp := put_len (hintAt salt x) s
   simp only [spec_HintsOf.l0, if_pos hlt]
   refine Ev.bind (spec_AreFinds_ev l h) ?_
   rw [hc]
   refine ev_succ ?_
   simp only [spec_HintsOf.j1, if_true, if_pos (ge0 pre.length), if_pos hlt, hr]
   refine Ev.bind (spec_HintOf_ev _ _ _ _ _ _) ?_
   simp only [hd]
   refine Ev.bind (spec_l9Put_ev s (hintAt salt x) (by omega)) ?_
   exact ih (put (hintAt salt x) s) (by simp; omega)

/-! ascTrue -/
theorem asc_at : ∀ (l : List Int) (i : Nat) (h : i + 1 < l.length), asc l → l[i] < l[i + 1]
 | [], i, h, _ => by simp at h
 | [x], i, h, _ => by simp at h
 | x :: y :: l, 0, _, ha => (List.pairwise_cons.1 ha).1 y (by simp)
 | x :: y :: l, i + 1, h, ha => asc_at (y :: l) i (by simpa using h) (List.pairwise_cons.1 ha).2
theorem laws_ascends_true (l : List Int) (hl : l.length ≤ 1099511627776) (ha : asc l) : Ev (fun k => laws_ascends.f k l) true := by
 have rdi : ∀ i : Nat, (h : i < l.length) → rd l (i : Int) = l[i] := fun i h => by
  unfold rd
  rw [List.getD_eq_getElem?_getD, Int.toNat_natCast, List.getElem?_eq_getElem h]; rfl
 have key : ∀ (m i : Nat), l.length ≤ i + 1 + m → Ev (fun k => laws_ascends.l0 k l ((i + 1 : Nat) : Int)) true := by
  intro m
  induction m with
  | zero =>
   intro i h
   refine ev_succ ?_
   simp only [laws_ascends.l0, if_neg (show ¬ ((i + 1 : Nat) : Int) < (l.length : Int) by omega)]
   exact Ev.now _
  | succ m ih =>
   intro i h
   refine ev_succ ?_
   by_cases h1 : ((i + 1 : Nat) : Int) < (l.length : Int)
   ·have h2 := asc_at l i (by omega) ha
    simp only [laws_ascends.l0, if_pos h1, w64 (x := ((i + 1 : Nat) : Int) - 1) (by omega) (by omega), show ((i + 1 : Nat) : Int) - 1 = (i : Int) by omega, w64 (x := (i : Int)) (by omega) (by omega), show ((i + 1 : Nat) : Int) + 1 = ((i + 1 + 1 : Nat) : Int) by omega, if_pos (show (0 : Int) ≤ (i : Int) by omega), if_pos (show (i : Int) < (l.length : Int) by omega), if_pos (show (0 : Int) ≤ ((i + 1 : Nat) : Int) by omega), rdi i (by omega), rdi (i + 1) (by omega), if_neg (show ¬ l[i] ≥ l[i + 1] by omega), w64 (x := ((i + 1 + 1 : Nat) : Int)) (by omega) (by omega)]
    exact ih (i + 1) (by omega)
   ·simp only [laws_ascends.l0, if_neg h1]
    exact Ev.now _
 exact key l.length 0 (by omega)

/-! the law -/
def RSm1 (r : S41) : Prop := r.f2.length ≤ 8 ∧ r.f5.length ≤ 8
theorem DrawCandidates_tot (b : List Int) (hl : b.length ≤ 1048576) : ∃ (r : S41) (l : List (S113)), Ev (fun k => spec_DrawCandidates.f k b) (r.f0, r.f1, r.f2, r.f3, r.f4, r.f5, r.f6.f0, r.f6.f1, l) ∧ l.length ≤ 8 ∧ RSm1 r := by
 obtain ⟨h0, e0⟩ := l1New_tot b hl
 obtain ⟨l, i1, h1, e1, hl1, c1⟩ := l6Any_tot b 0 h0 (cur0 b hl)
 by_cases hz : (l.length : Int) = 0
 ·obtain ⟨x0, x1, x2, x3, x4, x5, x6, x7, i2, h2, e2, h3, h4, _⟩ := l7Any_tot b i1 h1 c1
  refine ⟨⟨x0, x1, x2, x3, x4, x5, ⟨x6, x7⟩⟩, l, ?_, hl1, h3, h4⟩
  unfold spec_DrawCandidates.f
  refine Ev.bind e0 ?_
  refine Ev.bind e1 ?_
  simp only [if_pos hz]
  exact Ev.bind e2 (Ev.now _)
 ·obtain ⟨n, i2, h2, e2, n0, n1, c2⟩ := l1Below_tot b i1 h1 (l.length : Int) c1
  have n1 := n1 (by omega)
  obtain ⟨x0, x1, x2, x3, x4, x5, x6, x7, i3, h3, e3, h4, h5, _⟩ := l8For_tot b i2 h2 (rd_T113 l n).f0.f0 (rd_T113 l n).f0.f1 (rd_T113 l n).f0.f2 (rd_T113 l n).f0.f3 (rd_T113 l n).f0.f4 (rd_T113 l n).f1 (rd_T113 l n).f2 (rd_T113 l n).f3 5 c2
  refine ⟨⟨x0, x1, x2, x3, x4, x5, ⟨x6, x7⟩⟩, l, ?_, hl1, h4, h5⟩
  unfold spec_DrawCandidates.f
  refine Ev.bind e0 ?_
  refine Ev.bind e1 ?_
  simp only [if_neg hz, e2, Option.bind_some, if_pos n0, if_pos n1]
  exact Ev.bind e3 (Ev.now _)
theorem DrawMayHave_tot (b : List Int) (hl : b.length ≤ 1048576) : ∃ (r : S41) (l : List Int) (s : Int), Ev (fun k => spec_DrawMayHave.f k b) (r.f0, r.f1, r.f2, r.f3, r.f4, r.f5, r.f6.f0, r.f6.f1, l, s) ∧ l.length ≤ 8 ∧ RSm1 r := by
 obtain ⟨h0, e0⟩ := l1New_tot b hl
 obtain ⟨l, i1, h1, e1, hl1, c1⟩ := l6List_tot b 0 h0 (cur0 b hl)
 obtain ⟨s, i2, h2, e2, _, _, c2⟩ := l1Below_tot b i1 h1 3 c1
 by_cases hz : (l.length : Int) = 0
 ·obtain ⟨x0, x1, x2, x3, x4, x5, x6, x7, i3, h3, e3, h4, h5, _⟩ := l7Any_tot b i2 h2 c2
  refine ⟨⟨x0, x1, x2, x3, x4, x5, ⟨x6, x7⟩⟩, [], s, ?_, by simp, h4, h5⟩
  unfold spec_DrawMayHave.f
  refine Ev.bind e0 ?_
  refine Ev.bind e1 ?_
  simp only [e2, Option.bind_some, if_pos hz]
  exact Ev.bind e3 (Ev.now _)
 ·obtain ⟨n, i3, h3, e3, n0, n1, c3⟩ := l1Below_tot b i2 h2 (l.length : Int) c2
  have n1 := n1 (by omega)
  obtain ⟨x0, x1, x2, x3, x4, x5, x6, x7, i4, h4, e4, h5, h6, c4⟩ := l8For_tot b i3 h3 (rd_T113 l n).f0.f0 (rd_T113 l n).f0.f1 (rd_T113 l n).f0.f2 (rd_T113 l n).f0.f3 (rd_T113 l n).f0.f4 (rd_T113 l n).f1 (rd_T113 l n).f2 (rd_T113 l n).f3 5 c3
  obtain ⟨z, i5, h7, e5, _, _⟩ := l1Int_tot b i4 h4 [s, s, 5] (by simp) c4
  have hh := hintsOf_len l z
  refine ⟨⟨x0, x1, x2, x3, x4, x5, ⟨x6, x7⟩⟩, hintsOf l z, s, ?_, by omega, h5, h6⟩
  unfold spec_DrawMayHave.f
  refine Ev.bind e0 ?_
  refine Ev.bind e1 ?_
  simp only [e2, e3, Option.bind_some, if_neg hz, if_pos n0, if_pos n1]
  refine Ev.bind e4 ?_
  simp only [e5, Option.bind_some]
  exact Ev.bind (spec_HintsOf_ev l z (by omega)) (Ev.now _)
theorem DrawAskHouses_tot (b : List Int) (hl : b.length ≤ 1048576) : ∃ (r : S41) (l : List (List Int)) (s : Int), Ev (fun k => spec_DrawAskHouses.f k b) (r.f0, r.f1, r.f2, r.f3, r.f4, r.f5, r.f6.f0, r.f6.f1, l, s) ∧ l.length ≤ 8 ∧ sumLen l ≤ 100 ∧ RSm1 r := by
 obtain ⟨r, l, s, e, hl0, hr⟩ := DrawMayHave_tot b hl
 obtain ⟨h0, e0⟩ := l1New_tot b hl
 obtain ⟨x, i1, h1, e1, hl1, c1⟩ := l6List_tot b 0 h0 (cur0 b hl)
 obtain ⟨y, i2, h2, e2, hl2, c2⟩ := l6List_tot b i1 h1 c1
 have hx := hintsOf_len x s
 have hy := hintsOf_len y s
 refine ⟨r, [hintsOf x s, l, [], hintsOf y s], s, ?_, by simp, by simp [sumLen]; omega, hr⟩
 unfold spec_DrawAskHouses.f
 refine Ev.bind e ?_
 refine Ev.bind e0 ?_
 refine Ev.bind e1 ?_
 refine Ev.bind (spec_HintsOf_ev x s (by omega)) ?_
 refine Ev.bind e2 ?_
 exact Ev.bind (spec_HintsOf_ev y s (by omega)) (Ev.now _)
theorem DrawSharedHints_tot (b : List Int) (hl : b.length ≤ 1048576) : ∃ x y, Ev (fun k => spec_DrawSharedHints.f k b) (x, y) ∧ x.length ≤ 8 ∧ y.length ≤ 400 := by
 obtain ⟨h0, e0⟩ := l1New_tot b hl
 obtain ⟨l, i1, h1, e1, hl1, c1⟩ := l6List_tot b 0 h0 (cur0 b hl)
 have hh := hintsOf_len l 3
 by_cases hz : (l.length : Int) = 0
 ·refine ⟨hintsOf l 3, hintsOf l 3, ?_, by omega, by omega⟩
  unfold spec_DrawSharedHints.f
  refine Ev.bind e0 ?_
  refine Ev.bind e1 ?_
  refine Ev.bind (spec_HintsOf_ev l 3 (by omega)) ?_
  simp only [if_pos hz]
  exact Ev.now _
 ·obtain ⟨x0, x1, x2, x3, x4, x5, x6, x7, i4, h4, e4, h5, h6, c4⟩ := l8For_tot b i1 h1 (rd_T113 l 0).f0.f0 (rd_T113 l 0).f0.f1 (rd_T113 l 0).f0.f2 (rd_T113 l 0).f0.f3 (rd_T113 l 0).f0.f4 (rd_T113 l 0).f1 (rd_T113 l 0).f2 (rd_T113 l 0).f3 5 c1
  refine ⟨hintsOf l 3, hintsFor x0 x1 x2 x3 x4 x5 x6 x7 3, ?_, by omega, hintsFor_len _ _ _ _ _ _ _ _ _⟩
  unfold spec_DrawSharedHints.f
  refine Ev.bind e0 ?_
  refine Ev.bind e1 ?_
  refine Ev.bind (spec_HintsOf_ev l 3 (by omega)) ?_
  simp only [if_neg hz, if_pos (show (0 : Int) < (l.length : Int) by omega)]
  refine Ev.bind e4 ?_
  exact Ev.bind (spec_HintsFor_ev x0 x1 x2 x3 x4 x5 x6 x7 3 (by omega) (by omega)) (Ev.now _)
theorem any_mem {l : List Int} {n : Int} (h : n ∈ l) : l.any (fun x => decide (x = n)) = true := List.any_eq_true.2 ⟨n, h, decide_eq_true rfl⟩
theorem hintAt_of {l : List (S113)} {s : Int} (hf : areFinds l = true) {x : S113} (hx : x ∈ l) : hintAt s x ∈ hintsOf l s := by
 unfold hintsOf
 rw [if_pos hf, mem_uni]
 exact .inl (List.mem_map.2 ⟨x, hx, rfl⟩)
def hFor (r : S41) (s : Int) : List Int := hintsFor r.f0 r.f1 r.f2 r.f3 r.f4 r.f5 r.f6.f0 r.f6.f1 s
def mHave (r : S41) (h : List Int) (s : Int) : Bool := mayHave r.f0 r.f1 r.f2 r.f3 r.f4 r.f5 r.f6.f0 r.f6.f1 h s
theorem rest_nil {kind : Int} {cols : List Int} {lo hi : Int} {pl : List Int} {fr b1 b2 b3 b5 b6 : Int} (h : ((whyRest kind cols lo hi pl fr b1 b2 b3 b5 b6).toList == ([] : List UInt8)) = true) : kind = b1 ∧ allows cols b2 = true ∧ inr b3 lo hi = true := by
 unfold whyRest at h
 by_cases h1 : kind = b1
 ·by_cases h2 : allows cols b2 = true
  ·by_cases h3 : inr b3 lo hi = true
   ·exact ⟨h1, h2, h3⟩
   ·rw [if_pos h1, if_pos h2, if_neg h3, ByteArray.toList_eq] at h
    exact absurd h (by decide)
  ·rw [if_pos h1, if_neg h2, ByteArray.toList_eq] at h
   exact absurd h (by decide)
 ·rw [if_neg h1, ByteArray.toList_eq] at h
  exact absurd h (by decide)
theorem hintAt_for {r : S41} {x : S113} {s : Int} (h : canFor r x = true) : hintAt s x ∈ hFor r s := by
 have hok := canBe_ok h
 have hr : ((whyRest r.f1 r.f2 r.f3 r.f4 r.f5 r.f6.f0 x.f0.f1 x.f0.f2 x.f0.f3 x.f1 x.f2).toList == ([] : List UInt8)) = true := by
  have h' := h
  unfold canFor canBe whyNot at h'
  rw [if_pos (by rw [hok.1, hok.2]; rfl)] at h'
  exact h'
 obtain ⟨h1, h2, h3⟩ := rest_nil hr
 have hf := hok.2
 simp only [isFind, isThing, Bool.and_eq_true, inr_iff] at hf
 obtain ⟨⟨_, _, hc, _, _⟩, _⟩ := hf
 have h3 := (inr_iff _ _ _).1 h3
 unfold hFor hintsFor
 rw [if_pos hok.1, mem_uni]
 refine .inl (List.mem_flatMap.2 ⟨x.f0.f2, (mem_upto _ _ _).2 (by omega), ?_⟩)
 unfold hintRow
 rw [if_pos h2]
 refine List.mem_map.2 ⟨x.f0.f3, (mem_upto _ _ _).2 (by omega), ?_⟩
 unfold hintAt hnt hnt'
 rw [h1]
theorem mHave_of {r : S41} {l : List (S113)} {s : Int} (h : (cands r l).length > 0) : mHave r (hintsOf l s) s = true := by
 unfold cands at h
 split at h
 ·rename_i hf
  rw [List.length_map] at h
  obtain ⟨x, hx⟩ := List.exists_mem_of_length_pos h
  obtain ⟨hx, hc⟩ := List.mem_filter.1 hx
  have h1 := hintAt_of (s := s) hf hx
  have h2 := hintAt_for (s := s) hc
  unfold mHave mayHave sharedHints
  refine decide_eq_true ?_
  have : hintAt s x ∈ (uni (hFor r s) []).filter (has (hintsOf l s)) := List.mem_filter.2 ⟨(mem_uni _ _ _).2 (.inl h2), (has_iff _ _).2 h1⟩
  have := List.length_pos_of_mem this
  show ((((uni (hFor r s) []).filter (has (hintsOf l s))).length : Nat) : Int) > 0
  omega
 ·simp at h
theorem shared_comm (a b : List Int) : sharedHints a b = sharedHints b a := by
 unfold sharedHints
 rw [asc_ext _ _ (List.Pairwise.filter _ (uni_asc a [])) (List.Pairwise.filter (has a) (uni_asc b [])) (fun z => ?_)]
 rw [List.mem_filter, List.mem_filter, mem_uni, mem_uni, has_iff, has_iff]
 simp only [List.not_mem_nil, or_false]
 exact And.comm
theorem askFrom_ge (p : List Int → Bool) : ∀ (l : List (List Int)) (i : Int), ∀ j ∈ askFrom p l i, i ≤ j
 | [], _, _, h => by simp [askFrom] at h
 | x :: r, i, j, h => by
  have ih := askFrom_ge p r (i + 1) j
  simp only [askFrom] at h
  split at h
  ·rcases List.mem_cons.1 h with e | h
   ·omega
   ·have := ih h; omega
  ·have := ih h; omega
theorem askFrom_asc (p : List Int → Bool) : ∀ (l : List (List Int)) (i : Int), asc (askFrom p l i)
 | [], _ => asc_nil
 | x :: r, i => by
  simp only [askFrom]
  split
  ·exact List.Pairwise.cons (fun j hj => by have := askFrom_ge p r (i + 1) j hj; omega) (askFrom_asc p r (i + 1))
  ·exact askFrom_asc p r (i + 1)
theorem askFrom_any (p : List Int → Bool) : ∀ (l : List (List Int)) (i : Int) (n : Nat) (x : List Int), l[n]? = some x → (askFrom p l i).any (fun z => decide (z = i + (n : Int))) = p x
 | [], _, _, _, h => by simp at h
 | y :: r, i, 0, x, h => by
  have hy : y = x := by simpa using h
  subst hy
  have no : (askFrom p r (i + 1)).any (fun z => decide (z = i)) = false := by
   refine List.any_eq_false.2 (fun z hz => ?_)
   have := askFrom_ge p r (i + 1) z hz
   simp only [decide_eq_true_eq]
   omega
  simp only [askFrom, Int.natCast_zero, Int.add_zero]
  cases hp : p y with
  | true => simp
  | false => simpa using no
 | y :: r, i, n + 1, x, h => by
  have ih := askFrom_any p r (i + 1) n x (by simpa using h)
  have hn : i + ((n + 1 : Nat) : Int) = i + 1 + (n : Int) := by omega
  rw [hn]
  simp only [askFrom]
  cases hp : p y with
  | true =>
   simp only [if_true, List.any_cons, ih]
   rw [decide_eq_false (show ¬ i = i + 1 + (n : Int) by omega), Bool.false_or]
  | false => simpa using ih
theorem hin_end (code : List Int) (hl : code.length ≤ 1048576) (s : Int) (a : List Int) (ha : asc a) (hal : a.length ≤ 8) (l : List (List Int)) (hll : l.length ≤ 8) (r : S41) : Ev (fun k => laws_FnHints.l2 (k + 1) code l s a (l.length : Int) r.f0 r.f1 r.f2 r.f3 r.f4 r.f5 r.f6.f0 r.f6.f1) true := by
 obtain ⟨x, y, e, hx, hy⟩ := DrawSharedHints_tot code hl
 simp only [laws_FnHints.l2, if_neg (Int.lt_irrefl _)]
 refine Ev.bind e ?_
 refine Ev.bind (laws_ascends_true a (by omega) ha) ?_
 simp only [if_true]
 refine Ev.bind (impl_SharedHints_ev x y (by omega) (by omega)) ?_
 simp only [if_pos (sharedHints_le x y).2]
 refine Ev.bind (impl_SharedHints_ev x y (by omega) (by omega)) ?_
 refine Ev.bind (impl_SharedHints_ev y x (by omega) (by omega)) ?_
 rw [shared_comm x y, beq_self_eq_true]
 exact Ev.now _
theorem hin_l2 (code : List Int) (hl : code.length ≤ 1048576) (s : Int) (l : List (List Int)) (hll : l.length ≤ 8) (hs : sumLen l ≤ 100) (r : S41) (hr : RSm1 r) : Ev (fun k => laws_FnHints.l2 k code l s (askHouses r.f0 r.f1 r.f2 r.f3 r.f4 r.f5 r.f6.f0 r.f6.f1 l s) 0 r.f0 r.f1 r.f2 r.f3 r.f4 r.f5 r.f6.f0 r.f6.f1) true := by
 have hal := askFrom_len (fun x => mayHave r.f0 r.f1 r.f2 r.f3 r.f4 r.f5 r.f6.f0 r.f6.f1 x s) l 0
 refine ev_range l (fun k (_ : Unit) i => laws_FnHints.l2 k code l s (askHouses r.f0 r.f1 r.f2 r.f3 r.f4 r.f5 r.f6.f0 r.f6.f1 l s) i r.f0 r.f1 r.f2 r.f3 r.f4 r.f5 r.f6.f0 r.f6.f1) (fun _ _ => true) (fun _ _ => True) (by omega) ?_ ?_ () trivial
 ·intro _ _
  exact hin_end code hl s _ (askFrom_asc _ _ _) (Nat.le_trans hal hll) l hll r
 ·rintro pre x rest _ e hlt hget _ ih
  have hx : rd_L4 l (pre.length : Int) = x := hget _
  have hxl := sumLen_mem l x (by rw [e]; simp)
  have hat : l[pre.length]? = some x := by rw [e]; simp
  have hany := askFrom_any (fun x => mayHave r.f0 r.f1 r.f2 r.f3 r.f4 r.f5 r.f6.f0 r.f6.f1 x s) l 0 pre.length x hat
  rw [Int.zero_add] at hany
  simp only [laws_FnHints.l2, if_pos hlt]
  refine Ev.bind (laws_contains_ev _ _ (Nat.le_trans (Nat.le_trans hal hll) (by decide))) ?_
  simp only [if_pos (ge0 pre.length), hx]
  refine Ev.bind (impl_MayHave_ev r.f0 r.f1 r.f2 r.f3 r.f4 r.f5 r.f6.f0 r.f6.f1 x s (by have := hr.1; omega) (by have := hr.2; omega) (by omega)) ?_
  have hb : (askHouses r.f0 r.f1 r.f2 r.f3 r.f4 r.f5 r.f6.f0 r.f6.f1 l s).any (fun z => decide (z = (pre.length : Int))) = mayHave r.f0 r.f1 r.f2 r.f3 r.f4 r.f5 r.f6.f0 r.f6.f1 x s := hany
  simp only [hb, bne_self_eq_false, Bool.false_eq_true, if_false]
  exact ih () trivial
theorem hin_two (code : List Int) (hl : code.length ≤ 1048576) (l : List (S113)) (r : S41) : Ev (fun k => laws_FnHints.l0 k code l 2 r.f0 r.f1 r.f2 r.f3 r.f4 r.f5 r.f6.f0 r.f6.f1) true := by
 obtain ⟨q, hs, s, e, h1, h2, hq⟩ := DrawAskHouses_tot code hl
 refine ev_succ ?_
 simp only [laws_FnHints.l0, if_neg (show ¬ (2 : Int) < 2 by decide)]
 refine Ev.bind e ?_
 refine Ev.bind (impl_AskHouses_ev q.f0 q.f1 q.f2 q.f3 q.f4 q.f5 q.f6.f0 q.f6.f1 hs s (by have := hq.1; omega) (by have := hq.2; omega) (by omega) (by omega)) ?_
 refine Ev.bind (spec_AskHouses_ev q.f0 q.f1 q.f2 q.f3 q.f4 q.f5 q.f6.f0 q.f6.f1 hs s (by have := hq.1; omega) (by have := hq.2; omega) (by omega) (by omega)) ?_
 simp only [if_true]
 exact hin_l2 code hl s hs h1 h2 q hq
theorem hin_one (code : List Int) (l : List (S113)) (hl : l.length ≤ 8) (r : S41) (hr : RSm1 r) (s : Int) (h0 : 0 ≤ s) (h1 : s < 2) (next : Ev (fun k => laws_FnHints.l0 k code l (s + 1) r.f0 r.f1 r.f2 r.f3 r.f4 r.f5 r.f6.f0 r.f6.f1) true) : Ev (fun k => laws_FnHints.l0 k code l s r.f0 r.f1 r.f2 r.f3 r.f4 r.f5 r.f6.f0 r.f6.f1) true := by
 have hcl : (cands r l).length ≤ l.length := by
  unfold cands
  split
  ·rw [List.length_map]; exact List.length_filter_le _ _
  ·simp
 have hhl := hintsOf_len l s
 have jf : ∀ i, Ev (fun k => laws_FnHints.j3 k code l s (hintsOf l s) i false r.f0 r.f1 r.f2 r.f3 r.f4 r.f5 r.f6.f0 r.f6.f1) true := fun i => by
  refine ev_succ ?_
  simp only [laws_FnHints.j3, Bool.false_eq_true, if_false, w64 (x := s + 1) (by omega) (by omega)]
  exact next
 have hl1 : Ev (fun k => laws_FnHints.l1 k code l s (hintsOf l s) 0 r.f0 r.f1 r.f2 r.f3 r.f4 r.f5 r.f6.f0 r.f6.f1) true := by
  cases hf : areFinds l with
  | false =>
   refine ev_succ ?_
   by_cases h : (0 : Int) < (l.length : Int)
   ·simp only [laws_FnHints.l1, if_pos h]
    refine Ev.bind (impl_AreFinds_ev l (by omega)) ?_
    rw [hf]
    exact jf 0
   ·simp only [laws_FnHints.l1, if_neg h]
    exact jf 0
  | true =>
   refine ev_range l (fun k (_ : Unit) i => laws_FnHints.l1 k code l s (hintsOf l s) i r.f0 r.f1 r.f2 r.f3 r.f4 r.f5 r.f6.f0 r.f6.f1) (fun _ _ => true) (fun _ _ => True) (by omega) ?_ ?_ () trivial
   ·intro _ _
    simp only [laws_FnHints.l1, if_neg (Int.lt_irrefl _)]
    exact jf _
   ·rintro pre x rest _ e hlt hget _ ih
    have hx : rd_T113 l (pre.length : Int) = x := hget _
    have hm : x ∈ l := by rw [e]; simp
    simp only [laws_FnHints.l1, if_pos hlt]
    refine Ev.bind (impl_AreFinds_ev l (by omega)) ?_
    rw [hf]
    refine ev_succ ?_
    simp only [laws_FnHints.j3, if_true, if_pos (ge0 pre.length), if_pos hlt, hx]
    refine Ev.bind (impl_HintOf_ev _ _ _ _ _ _) ?_
    refine Ev.bind (laws_contains_ev (hintsOf l s) _ (by omega)) ?_
    have hc1 : (hintsOf l s).any (fun z => decide (z = ghash [s, x.f0.f1, x.f0.f2, wrap64 (Int.tdiv x.f0.f3 10)])) = true := any_mem (show hintAt s x ∈ hintsOf l s from hintAt_of hf hm)
    simp only [hc1, if_true]
    refine Ev.bind (impl_CanBe_ev r.f0 r.f1 r.f2 r.f3 r.f4 r.f5 r.f6.f0 r.f6.f1 x.f0.f0 x.f0.f1 x.f0.f2 x.f0.f3 x.f0.f4 x.f1 x.f2 x.f3 (by have := hr.1; omega) (by have := hr.2; omega)) ?_
    cases hc : canBe r.f0 r.f1 r.f2 r.f3 r.f4 r.f5 r.f6.f0 r.f6.f1 x.f0.f0 x.f0.f1 x.f0.f2 x.f0.f3 x.f0.f4 x.f1 x.f2 x.f3 with
    | false =>
     simp only [Bool.false_eq_true, if_false]
     exact ih () trivial
    | true =>
     simp only [if_true]
     have hfl := hintsFor_len r.f0 r.f1 r.f2 r.f3 r.f4 r.f5 r.f6.f0 r.f6.f1 s
     refine Ev.bind (impl_HintsFor_ev r.f0 r.f1 r.f2 r.f3 r.f4 r.f5 r.f6.f0 r.f6.f1 s (by have := hr.1; omega) (by have := hr.2; omega)) ?_
     refine Ev.bind (impl_HintOf_ev _ _ _ _ _ _) ?_
     refine Ev.bind (laws_contains_ev _ _ (by omega)) ?_
     have hc2 : (hintsFor r.f0 r.f1 r.f2 r.f3 r.f4 r.f5 r.f6.f0 r.f6.f1 s).any (fun z => decide (z = ghash [s, x.f0.f1, x.f0.f2, wrap64 (Int.tdiv x.f0.f3 10)])) = true := any_mem (hintAt_for (r := r) (x := x) hc)
     simp only [hc2, if_true]
     exact ih () trivial
 have hj : Ev (fun k => laws_FnHints.j1 k code l s (hintsOf l s) false r.f0 r.f1 r.f2 r.f3 r.f4 r.f5 r.f6.f0 r.f6.f1) true := by
  refine ev_succ ?_
  simp only [laws_FnHints.j1, Bool.false_eq_true, if_false]
  exact hl1
 refine ev_succ ?_
 simp only [laws_FnHints.l0, if_pos h1]
 refine Ev.bind (impl_HintsOf_ev l s (by omega)) ?_
 refine Ev.bind (laws_ascends_true _ (by omega) (hintsOf_asc l s)) ?_
 simp only [if_true]
 refine Ev.bind (impl_Candidates_ev r l (by omega) (by have := hr.1; omega) (by have := hr.2; omega)) ?_
 by_cases hz : ((cands r l).length : Int) > 0
 ·simp only [if_pos hz]
  refine Ev.bind (impl_MayHave_ev r.f0 r.f1 r.f2 r.f3 r.f4 r.f5 r.f6.f0 r.f6.f1 (hintsOf l s) s (by have := hr.1; omega) (by have := hr.2; omega) (by omega)) ?_
  have hm : mayHave r.f0 r.f1 r.f2 r.f3 r.f4 r.f5 r.f6.f0 r.f6.f1 (hintsOf l s) s = true := mHave_of (r := r) (l := l) (s := s) (by omega)
  rw [hm]
  exact hj
 ·simp only [if_neg hz]
  exact hj
theorem Pf.FnHints : FnHintsLaw := by
 intro code hm hq
 refine Ev.rounds ?_
 unfold laws_FnHints.f
 simp only [laws_big.f, Option.bind_some]
 by_cases hb : (code.length : Int) > 1048576
 ·simp only [decide_eq_true hb, if_true]
  exact Ev.now _
 ·have hl : code.length ≤ 1048576 := by omega
  simp only [decide_eq_false hb, Bool.false_eq_true, if_false]
  obtain ⟨r, l, e, h1, hr⟩ := DrawCandidates_tot code hl
  refine Ev.bind e ?_
  exact hin_one code l h1 r hr 0 (by decide) (by decide) (hin_one code l h1 r hr 1 (by decide) (by decide) (hin_two code hl l r))

end Go.Proofs.Ytejhjenlodclpaa.PFnHints
