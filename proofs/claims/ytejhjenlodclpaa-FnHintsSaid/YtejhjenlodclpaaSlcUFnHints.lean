/- slices.Compact of whole numbers, told of a row of the call's own. Conditions stand in the statement. -/
import Derived.Test.YtejhjenlodclpaaVFnHints
import Derived.Test.YtejhjenlodclpaaSlcFnHints
import Derived.Shelf.SlicesG.CompactI
import Derived.Shelf.Spec.SlicesGrow
namespace Go.Proofs.Ytejhjenlodclpaa.Slc
open Go.RowKit Go.Shelf Go.Sort Go.Proofs.YtejhjenlodclpaaW.PrintWords Go.Proofs.YtejhjenlodclpaaW.PrintMore
theorem compact_row {P : Program} {ρ : Ren} (L : SlLaysN.n43 P ρ) {e : Nat} {ok : Nat → Prop} {u : Value} {l : List Int} {w0 w : World} (hB : Below w0.heap.size w0 w) (ho : Kd.R (Kd.int .i64) e w w0.heap.size ok u l) :
    Calls P (ρ.f 43) #[u] w fun e' w' => ∃ v : Value, e' = .returned v ∧ Kd.R (Kd.int .i64) e w' w0.heap.size ok v (Lib.compact l) ∧ Below w0.heap.size w0 w' := by
  rcases Nat.eq_zero_or_pos l.length with h0 | hp
  · obtain rfl := List.length_eq_zero_iff.1 h0
    obtain ⟨A, c, rfl, _, _⟩ := Kd.R_reads ho
    refine (AnyG.slices_Compact_int_empty L A c w).mono ?_
    rintro e' w' ⟨rfl, rfl⟩
    exact ⟨_, rfl, ho, hB⟩
  · obtain ⟨g, cap, rfl, hbg, hgl, cells, hc⟩ := Kd.R_form ho hp
    obtain ⟨g', cap', hv, _, _, hcap, hmax, _, hH⟩ := Lib.holds_of_ownsRow (Kd.own_of_R ho) (by simp)
    cases hv
    refine (AnyG.slices_Compact_int L g 0 cap l w hH (by unfold maxLen at hmax; omega) hcap).mono ?_
    rintro e' w' ⟨rfl, q, rfl⟩
    have hle := Lib.compact_length_le l
    have h1 := R_putRow (q := q) (os := #[]) (ys := Lib.compact l ++ List.replicate (l.length - (Lib.compact l).length) 0) ho (by simp; omega)
    rw [grow_empty] at h1
    have h2 := Kd.R_take (m := (Lib.compact l).length) h1 (by simp)
    rw [List.take_left] at h2
    exact ⟨_, rfl, h2, Lib.below_putRow hB hbg⟩
end Go.Proofs.Ytejhjenlodclpaa.Slc
