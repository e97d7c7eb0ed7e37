/- slices.Sort of whole numbers, told of a row of the call's own; a row of flat structs that has been sorted; lists put in order. Conditions stand in each statement. -/
import Derived.Test.YtejhjenlodclpaaVFnHints
import Derived.Shelf.SortM.Plain
import Derived.Shelf.SortM.SortNone
import Derived.Lib.OwnBridge
import Derived.Sort.Grow
namespace Go.Proofs.Ytejhjenlodclpaa.Slc
open Go.RowKit Go.Shelf Go.Sort Go.Proofs.YtejhjenlodclpaaW.PrintWords Go.Proofs.YtejhjenlodclpaaW.PrintMore

theorem below_grow {b : Nat} {w W : World} (h : Below b w W) (hb : b ≤ W.heap.size) (os : Array Obj) : Below b w (grow W os) :=
  ⟨h.os, h.tape, h.output, by rw [size_grow]; have := h.size; omega, fun k hk => by rw [heap_grow_old _ _ (by omega)]; exact h.block k hk⟩

theorem heap_put_other {α : Type} [Inhabited α] (enc : α → Value) (w : World) (q g off : Nat) (d : Array α) {k : Nat} (hk : k ≠ g) : (putRow enc (Sort.ahead w q) g off d).heap[k]? = w.heap[k]? := by
  simp [putRow, mapBlock, Sort.ahead, Array.getElem?_modify, show g ≠ k by omega]
theorem size_put {α : Type} [Inhabited α] (enc : α → Value) (w : World) (q g off : Nat) (d : Array α) : (putRow enc (Sort.ahead w q) g off d).heap.size = w.heap.size := by
  simp [putRow, mapBlock, Sort.ahead]

/-- A row of the call's own, laid anew with as many elements; blocks behind. -/
theorem R_putRow {e : Nat} {w : World} {base : Nat} {ok : Nat → Prop} {g n cap q : Nat} {os : Array Obj} {xs ys : List Int} (h : Kd.R (Kd.int .i64) e w base ok (.slice (some ⟨g, 0, none⟩) n cap) xs) (hy : ys.length = xs.length) :
    Kd.R (Kd.int .i64) e (grow (putRow (Value.int .i64) (Sort.ahead w q) g 0 ys.toArray) os) base ok (.slice (some ⟨g, 0, none⟩) n cap) ys := by
  have ho := Kd.own_of_R h
  have hn : n = xs.length := (Kd.R_reads' h).1
  subst hn
  have h1 := Lib.ownsRow_putRow (q := q) (k := xs.length) (ys := ys) ho hy (Nat.le_refl _)
  rw [← hy, List.take_length] at h1
  have h2 : Kd.R (Kd.int .i64) e (putRow (Value.int .i64) (Sort.ahead w q) g 0 ys.toArray) base ok (.slice (some ⟨g, 0, none⟩) ys.length cap) ys := Kd.R_of_own h1 (fun k hk => h.1 k (by simpa [Value.ownBlock] using hk))
  rw [hy] at h2
  refine Kd.R_below h2 (below_grow (Below.refl _ _) (Nat.le_refl _) os)

/-- slices.Sort of whole numbers: a row of the call's own. -/
theorem sort_row {P : Program} {ρ : Ren} (Ly : SlLaysM.n5 P ρ) {e : Nat} {P0 : Nat → Prop} {u : Value} {l : List Int} {w0 w : World} (hB : Below w0.heap.size w0 w) (ho : Kd.R (Kd.int .i64) e w w0.heap.size P0 u l) (hl : l.length < 4611686018427387904) :
    Calls P (ρ.f 5) #[u] w fun e' w' => e' = .returned (.tuple #[]) ∧ Kd.R (Kd.int .i64) e w' w0.heap.size (fun k_ => (P0 k_ ∨ w.heap.size ≤ k_)) u (l.mergeSort fun x y => decide (x ≤ y)) ∧ Below w0.heap.size w0 w' ∧ Kept w w' (fun k_ => P0 k_) := by
  rcases Nat.eq_zero_or_pos l.length with h0 | hp
  · obtain rfl := List.length_eq_zero_iff.1 h0
    obtain ⟨A, c, rfl, _, _⟩ := Kd.R_reads ho
    refine (AnyM.slices_Sort_int_none Ly A c w).mono ?_
    rintro e' w' ⟨rfl, rfl⟩
    exact ⟨rfl, Kd.R_mono (by simpa using ho) (fun k hk => .inl hk), hB, Kept.refl _ _⟩
  · obtain ⟨g, cap, rfl, hbg, hgl, cells, hc⟩ := Kd.R_form ho hp
    obtain ⟨g', cap', hv, _, _, _, _, _, hH⟩ := Lib.holds_of_ownsRow (Kd.own_of_R ho) (by simp)
    cases hv
    have hgP : P0 g := ho.1 g (by simp [Value.ownBlock])
    refine (AnyM.slices_Sort_int Ly g 0 cap l w hH hgl hl).mono ?_
    rintro e' w' ⟨rfl, n, os, rfl⟩
    refine ⟨rfl, Kd.R_mono (R_putRow ho (by rw [List.length_mergeSort])) (fun k hk => .inl hk), ?_, ?_⟩
    · exact below_grow (Lib.below_putRow hB hbg) (by rw [size_put]; exact hB.size) os
    · refine ⟨by rw [size_grow, size_put]; omega, fun i hi hn => ?_⟩
      rw [heap_grow_old _ _ (by rw [size_put]; exact hi)]
      exact heap_put_other _ _ _ _ _ _ (fun e => hn (e ▸ hgP))

end Go.Proofs.Ytejhjenlodclpaa.Slc
