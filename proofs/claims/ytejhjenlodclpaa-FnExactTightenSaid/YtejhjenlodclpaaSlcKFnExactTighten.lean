/- A row of structs without slices in them: its cells in line; the same row with other elements laid into it. Conditions stand in each statement. -/
import Derived.Test.YtejhjenlodclpaaVFnExactTighten
import Derived.Shelf.SlSortCmp.InsertionK
import Derived.Lib.OwnBridge
import Derived.Sort.Grow
namespace Go.Proofs.Ytejhjenlodclpaa.SlcK
set_option linter.unusedSimpArgs false
set_option linter.unusedSectionVars false
open Go.RowKit Go.Shelf Go.Sort Go.Proofs.YtejhjenlodclpaaW.PrintWords Go.Proofs.YtejhjenlodclpaaW.PrintMore

/-- A kind whose cells are told by the value alone. -/
structure Flat {α : Type} (d : Kd α) (enc : α → List Value) : Prop where
  len : ∀ x, (enc x).length = d.sz
  one : ∀ x, ∀ v ∈ enc x, v.oneCell' = true
  toM : ∀ {w base ok x cs}, d.M w base ok x cs → cs = enc x
  ofM : ∀ w base ok x, d.M w base ok x (enc x)

theorem reps_to {α : Type} {d : Kd α} {enc : α → List Value} (hf : Flat d enc) {w : World} {base : Nat} {ok : Nat → Prop} : ∀ (xs : List α) (inner : List Value), Reps (d.M w base ok) d.sz xs inner → inner = xs.flatMap enc
  | [], inner, h => by
    have := h.1
    simp at this
    simp [this]
  | x :: xs, inner, h => by
    have hl := h.1
    rw [List.length_cons, Nat.add_mul, Nat.one_mul] at hl
    have h0 := h.2 0 x rfl
    rw [Nat.zero_mul, List.drop_zero] at h0
    have ih := reps_to hf xs (inner.drop d.sz) ⟨by rw [List.length_drop]; omega, fun j p hj => by
      have := h.2 (j + 1) p (by simpa using hj)
      rw [Nat.add_mul, Nat.one_mul, Nat.add_comm, ← List.drop_drop] at this
      exact this⟩
    rw [List.flatMap_cons, ← ih, ← hf.toM h0, List.take_append_drop]
theorem len_flat {α : Type} {k : Nat} {enc : α → List Value} (hk : ∀ x, (enc x).length = k) : ∀ xs : List α, (xs.flatMap enc).length = xs.length * k
  | [] => by simp
  | x :: xs => by rw [List.flatMap_cons, List.length_append, hk, len_flat hk xs, List.length_cons, Nat.add_mul, Nat.one_mul, Nat.add_comm]
theorem drop_flat {α : Type} {k : Nat} {enc : α → List Value} (hk : ∀ x, (enc x).length = k) : ∀ (xs : List α) (j : Nat) (p : α), xs[j]? = some p → ((xs.flatMap enc).drop (j * k)).take k = enc p
  | [], j, p, h => by simp at h
  | x :: xs, 0, p, h => by
    have : x = p := by simpa using h
    subst this
    rw [List.flatMap_cons, Nat.zero_mul, List.drop_zero, List.take_append_of_le_length (by rw [hk]; omega), List.take_of_length_le (by rw [hk]; omega)]
  | x :: xs, j + 1, p, h => by
    have ih := drop_flat hk xs j p (by simpa using h)
    have e : (enc x ++ xs.flatMap enc).drop k = xs.flatMap enc := by
      have := List.drop_left (l₁ := enc x) (l₂ := xs.flatMap enc)
      rwa [hk] at this
    rw [List.flatMap_cons, Nat.add_mul, Nat.one_mul, Nat.add_comm, ← List.drop_drop, e]
    exact ih
theorem reps_of {α : Type} {d : Kd α} {enc : α → List Value} (hf : Flat d enc) {w : World} {base : Nat} {ok : Nat → Prop} (xs : List α) : Reps (d.M w base ok) d.sz xs (xs.flatMap enc) :=
  ⟨len_flat hf.len xs, fun j p hj => by rw [drop_flat hf.len xs j p hj]; exact hf.ofM w base ok p⟩

theorem get_flat {α : Type} [Inhabited α] {k : Nat} {enc : α → List Value} (hk : ∀ x, (enc x).length = k) : ∀ (xs : List α) (t : Nat), t < xs.length * k → (xs.flatMap enc)[t]! = (enc xs.toArray[t / k]!)[t % k]!
  | [], t, h => by simp at h
  | x :: xs, t, h => by
    have k0 : 0 < k := by
      rcases Nat.eq_zero_or_pos k with h0 | h0
      · subst h0
        simp at h
      · exact h0
    rw [List.length_cons, Nat.add_mul, Nat.one_mul] at h
    rw [List.flatMap_cons]
    by_cases ht : t < k
    · rw [Nat.div_eq_of_lt ht, Nat.mod_eq_of_lt ht]
      have hl : t < (enc x).length := by rw [hk]; exact ht
      simp [List.getElem!_eq_getElem?_getD, List.getElem?_append_left hl]
    · obtain ⟨s, rfl⟩ : ∃ s, t = s + k := ⟨t - k, by omega⟩
      rw [Nat.add_div_right _ k0, Nat.add_mod_right]
      have ih := get_flat hk xs s (by omega)
      have e : (enc x ++ xs.flatMap enc)[s + k]! = (xs.flatMap enc)[s]! := by
        simp only [List.getElem!_eq_getElem?_getD]
        rw [List.getElem?_append_right (by rw [hk]; omega), hk, Nat.add_sub_cancel]
      rw [e, ih]
      simp
theorem flatK_list {α : Type} [Inhabited α] {k : Nat} {enc : α → List Value} (hk : ∀ x, (enc x).length = k) (xs : List α) : flatK enc k xs.toArray = (xs.flatMap enc).toArray := by
  refine ext_get! (by rw [size_flatK]; simp [len_flat hk]) fun t ht => ?_
  have ht' : t < xs.length * k := by simpa using ht
  rw [get_flatK enc k xs.toArray t (by simpa using ht'), ← get_flat hk xs t ht']
  simp

theorem holds_own {e sz : Nat} {w : World} {base g n cap : Nat} {inner : List Value} (h : w.ownsRow base e sz (.slice (some ⟨g, 0, none⟩) n cap) n inner) : Holds id w g 0 inner.toArray := by
  have hl : inner.length = n * sz := h.1
  rcases h.2 with ⟨e0, _⟩ | ⟨g', cap', cur, e0, hb, hg, hn, hm, hs, ht⟩
  · cases e0
  · injection e0 with e1 _ e3
    injection e1 with e1
    injection e1 with e1
    subst e1
    intro j hj
    have hj' : j < n * sz := by simpa [hl] using hj
    refine ⟨?_, by simp [World.frozen?, hg]⟩
    have e1 : (cur.toList.take (n * sz))[j]? = inner[j]? := by rw [ht]
    rw [List.getElem?_take, if_pos (by omega), Array.getElem?_toList, List.getElem?_eq_getElem (by omega)] at e1
    simp only [World.cell?, hg, Nat.zero_add]
    simp only [Option.isSome_none, Bool.false_eq_true, if_false]
    rw [e1]
    simp [getElem!_pos, show j < inner.length by omega]
theorem own_put {e sz : Nat} {w : World} {base g n cap q : Nat} {inner ys : List Value} (h : w.ownsRow base e sz (.slice (some ⟨g, 0, none⟩) n cap) n inner) (hy : ys.length = inner.length) :
    (putRow id (Sort.ahead w q) g 0 ys.toArray).ownsRow base e sz (.slice (some ⟨g, 0, none⟩) n cap) n ys := by
  have hl : inner.length = n * sz := h.1
  rcases h.2 with ⟨e0, _⟩ | ⟨g', cap', cur, e0, hb, hg, hn, hm, hs, ht⟩
  · cases e0
  · injection e0 with e1 _ e3
    injection e1 with e1
    injection e1 with e1
    subst e1; subst e3
    have hsz : n * sz ≤ cap * sz := Nat.mul_le_mul_right _ hn
    refine ⟨by omega, .inr ⟨g, cap, putCells id 0 ys.toArray cur, rfl, hb, ?_, by omega, hm, by simpa [putCells] using hs, ?_⟩⟩
    · simp [putRow, mapBlock, Sort.ahead, Array.getElem?_modify, hg, onCells]
    · apply List.ext_getElem?
      intro j
      rw [List.getElem?_take, Array.getElem?_toList]
      by_cases hj : j < n * sz
      · have hjc : j < cur.size := by omega
        simp only [if_pos hj, putCells, Array.getElem?_mapIdx, Array.getElem?_eq_getElem hjc, Option.map_some]
        rw [if_pos (by simp; omega), List.getElem?_eq_getElem (by omega)]
        simp [getElem!_pos, show j < ys.length by omega]
      · rw [if_neg hj, List.getElem?_eq_none (by omega)]

theorem below_grow {b : Nat} {w W : World} (h : Below b w W) (hb : b ≤ W.heap.size) (os : Array Obj) : Below b w (grow W os) :=
  ⟨h.os, h.tape, h.output, by rw [size_grow]; have := h.size; omega, fun k hk => by rw [heap_grow_old _ _ (by omega)]; exact h.block k hk⟩
theorem heap_put_other {α : Type} [Inhabited α] (enc : α → Value) (w : World) (q g off : Nat) (d : Array α) {k : Nat} (hk : k ≠ g) : (putRow enc (Sort.ahead w q) g off d).heap[k]? = w.heap[k]? := by
  simp [putRow, mapBlock, Sort.ahead, Array.getElem?_modify, show g ≠ k by omega]
theorem size_put {α : Type} [Inhabited α] (enc : α → Value) (w : World) (q g off : Nat) (d : Array α) : (putRow enc (Sort.ahead w q) g off d).heap.size = w.heap.size := by
  simp [putRow, mapBlock, Sort.ahead]

section
variable {α : Type} [Inhabited α] {d : Kd α} {enc : α → List Value} {e : Nat} {w : World} {base : Nat} {ok : Nat → Prop} {g n cap : Nat} {xs ys : List α}
theorem own_of_R (hf : Flat d enc) {v : Value} (h : d.R e w base ok v xs) : w.ownsRow base e d.sz v xs.length (xs.flatMap enc) := by
  obtain ⟨_, inner, ho, hr⟩ := h
  rw [← reps_to hf xs inner hr]
  exact ho
theorem holdsK_of_R (hf : Flat d enc) (h : d.R e w base ok (.slice (some ⟨g, 0, none⟩) n cap) xs) : HoldsK enc d.sz w g 0 xs.toArray := by
  have hn : n = xs.length := (Kd.R_reads' h).1
  subst hn
  unfold HoldsK
  rw [flatK_list hf.len]
  exact holds_own (own_of_R hf h)
/-- The same row with other elements; blocks behind. -/
theorem R_sortWorldK (hf : Flat d enc) (h : d.R e w base ok (.slice (some ⟨g, 0, none⟩) n cap) xs) (hy : ys.length = xs.length) (m : Nat) (os : Array Obj) : d.R e (sortWorldK enc d.sz w g 0 m ys.toArray os) base ok (.slice (some ⟨g, 0, none⟩) n cap) ys := by
  have hn : n = xs.length := (Kd.R_reads' h).1
  subst hn
  have h1 := own_put (q := m) (ys := ys.flatMap enc) (own_of_R hf h) (by rw [len_flat hf.len, len_flat hf.len, hy])
  unfold sortWorldK putRowK
  rw [flatK_list hf.len]
  refine Kd.R_below ?_ (below_grow (Below.refl _ _) (Nat.le_refl _) os)
  refine ⟨fun k hk => h.1 k (by simpa [Value.ownBlock] using hk), ys.flatMap enc, ?_, reps_of hf ys⟩
  rw [hy]
  exact h1
theorem below_sortWorldK {w0 : World} {b : Nat} (h : Below b w0 w) (hg : b ≤ g) (hb : b ≤ w.heap.size) (m : Nat) (a : Array α) (os : Array Obj) : Below b w0 (sortWorldK enc d.sz w g 0 m a os) := by
  unfold sortWorldK putRowK
  exact below_grow (Lib.below_putRow h hg) (by rw [size_put]; exact hb) os
theorem kept_sortWorldK {S : Nat → Prop} (hg : S g) (m k : Nat) (a : Array α) (os : Array Obj) : Kept w (sortWorldK enc k w g 0 m a os) S := by
  unfold sortWorldK putRowK
  refine ⟨by rw [size_grow, size_put]; omega, fun i hi hn => ?_⟩
  rw [heap_grow_old _ _ (by rw [size_put]; exact hi)]
  exact heap_put_other _ _ _ _ _ _ (fun e => hn (e ▸ hg))
end

/-! ### the insertion sort, as a list -/
section
variable {α : Type} [Inhabited α] (lt : α → α → Bool)
/-- x goes in from the end (of the list told from its end), past what it is less than. -/
def insRev (x : α) : List α → List α
  | [] => [x]
  | y :: r => if lt x y = true then y :: insRev x r else x :: y :: r
def insEnd (l : List α) (x : α) : List α := (insRev lt x l.reverse).reverse
def inSort (l : List α) : List α := l.foldl (insEnd lt) []
theorem insRev_length (x : α) : ∀ r : List α, (insRev lt x r).length = r.length + 1
  | [] => rfl
  | y :: r => by
    unfold insRev
    split
    · rw [List.length_cons, insRev_length x r, List.length_cons]
    · rfl
theorem insEnd_length (l : List α) (x : α) : (insEnd lt l x).length = l.length + 1 := by unfold insEnd; rw [List.length_reverse, insRev_length, List.length_reverse]
theorem fold_length : ∀ (l a : List α), (l.foldl (insEnd lt) a).length = a.length + l.length
  | [], a => by simp
  | x :: l, a => by rw [List.foldl_cons, fold_length l, insEnd_length, List.length_cons]; omega
theorem inSort_length (l : List α) : (inSort lt l).length = l.length := by unfold inSort; rw [fold_length]; simp
theorem swap_list (p : List α) (x y : α) (r : List α) : swp (p ++ y :: x :: r).toArray (p.length + 1) p.length = (p ++ x :: y :: r).toArray := by
  have h1 : (p ++ y :: x :: r).toArray[p.length]! = y := by simp [List.getElem!_eq_getElem?_getD]
  have h2 : (p ++ y :: x :: r).toArray[p.length + 1]! = x := by simp [List.getElem!_eq_getElem?_getD, List.getElem?_append_right]
  unfold swp
  rw [h1, h2]
  simp [List.set_append]
theorem insInner_list (x : α) : ∀ (q r : List α), insInner lt 0 q.length (q.reverse ++ x :: r).toArray = ((insRev lt x q).reverse ++ r).toArray
  | [], r => by simp [insInner, insRev]
  | y :: q, r => by
    have e : (y :: q).reverse ++ x :: r = q.reverse ++ y :: x :: r := by simp
    have h1 : (q.reverse ++ y :: x :: r).toArray[q.length]! = y := by simp [List.getElem!_eq_getElem?_getD]
    have h2 : (q.reverse ++ y :: x :: r).toArray[q.length + 1]! = x := by simp [List.getElem!_eq_getElem?_getD, List.getElem?_append_right]
    rw [e, List.length_cons, insInner, h1, h2]
    by_cases hl : lt x y = true
    · have hs := swap_list q.reverse x y r
      rw [List.length_reverse] at hs
      rw [if_pos (by simp [hl]), hs, insInner_list x q (y :: r), insRev, if_pos hl]
      simp
    · rw [if_neg (by simp [hl]), insRev, if_neg hl]
      simp
theorem insOuter_list : ∀ (b a : List α), insOuter lt 0 (a ++ b).length a.length (a ++ b).toArray = (b.foldl (insEnd lt) a).toArray
  | [], a => by rw [insOuter_stop _ _ _ _ _ (by simp)]; simp
  | x :: b, a => by
    rw [insOuter_go _ _ _ _ _ (by simp)]
    have h := insInner_list lt x a.reverse b
    rw [List.length_reverse, List.reverse_reverse] at h
    rw [h, List.foldl_cons]
    have h2 := insOuter_list b (insEnd lt a x)
    have e1 : (insEnd lt a x ++ b).length = (a ++ x :: b).length := by rw [List.length_append, insEnd_length]; simp; omega
    rw [e1, insEnd_length] at h2
    exact h2
theorem insertionSort_list (l : List α) : insertionSort lt l.toArray 0 l.length = (inSort lt l).toArray := by
  unfold insertionSort
  cases l with
  | nil => rw [insOuter_stop _ _ _ _ _ (by simp)]; rfl
  | cons x l => exact insOuter_list lt l [x]
theorem insInner_size (a : Nat) : ∀ (j : Nat) (d : Array α), (insInner lt a j d).size = d.size
  | 0, d => rfl
  | j + 1, d => by
    unfold insInner
    split
    · rw [insInner_size a j, swp_size]
    · rfl
theorem insOuter_size (a b : Nat) : ∀ (m i : Nat) (d : Array α), b - i ≤ m → (insOuter lt a b i d).size = d.size
  | 0, i, d, h => by rw [insOuter_stop _ _ _ _ _ (by omega)]
  | m + 1, i, d, h => by
    by_cases hi : i < b
    · rw [insOuter_go _ _ _ _ _ hi, insOuter_size a b m (i + 1) _ (by omega), insInner_size]
    · rw [insOuter_stop _ _ _ _ _ hi]
theorem insertionSort_size (d : Array α) (a b : Nat) : (insertionSort lt d a b).size = d.size := insOuter_size lt a b (b - (a + 1)) (a + 1) d (Nat.le_refl _)
theorem insertionSort_none (d : Array α) (a : Nat) : insertionSort lt d a a = d := by
  unfold insertionSort
  exact insOuter_stop _ _ _ _ _ (by omega)
end
end Go.Proofs.Ytejhjenlodclpaa.SlcK
