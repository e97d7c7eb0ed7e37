/- Readings of a call's arguments: cells that the form reads as data of a type are the cells of a Lean value of that type's kind. -/
import Derived.Test.YtejhjenlodclpaaVFnHints
import Derived.Deep.Slices
import Derived.Deep.Fields
import Derived.ChangeSame
import Derived.WideShapes
namespace Go.Proofs.Ytejhjenlodclpaa.Opening
open Go.RowKit Go.ChangeShapes Go.WideShapes Go.Deep Go.Proofs.YtejhjenlodclpaaW.PrintWords
set_option linter.unusedVariables false

/-- Cells that can be read as type t are those of a value y of kind d, and Q holds of y. -/
structure Opens (P : Program) (t : TypeId) {α : Type} (d : Kd α) (Q : α → Prop) : Prop where
  size : P.cellsOf t = d.sz
  read : ∀ {H : Type} (enc : TypeId × Value → H) (w : World) (base : Nat) (spare : Nat → Bool) (held : Bool) (fuel : Nat) (cs : List Value) (x : DataW H × List MemPlace),
    DataW.trod enc P w base spare held fuel t cs = some x → ∃ y, d.K w y cs ∧ Q y

theorem opens_int {P : Program} {t : TypeId} {k : IntKind} (ht : P.underlying t = some (.int k)) (hs : P.cellsOf t = 1) : Opens P t (Kd.int k) (fun y => (Lit.int k y).wf = true) :=
  ⟨hs, fun enc w base spare held fuel cs x h => by
    obtain ⟨n, rfl, _, hw⟩ := DataW.trod_int ht h
    exact ⟨n, rfl, hw⟩⟩

theorem list_of {α : Type} (Pr : Nat → α → Prop) : ∀ n, (∀ i, i < n → ∃ y, Pr i y) → ∃ l : List α, l.length = n ∧ ∀ j p, l[j]? = some p → Pr j p
  | 0, _ => ⟨[], rfl, fun j p h => by simp at h⟩
  | n + 1, h => by
    obtain ⟨l, hl, hp⟩ := list_of Pr n (fun i hi => h i (by omega))
    obtain ⟨y, hy⟩ := h n (by omega)
    refine ⟨l ++ [y], by simp [hl], fun j p hj => ?_⟩
    by_cases hjl : j < l.length
    · rw [List.getElem?_append_left hjl] at hj
      exact hp j p hj
    · rw [List.getElem?_append_right (by omega)] at hj
      have : j - l.length = 0 := by
        by_cases e : j - l.length = 0
        · exact e
        · obtain ⟨m, hm⟩ := Nat.exists_eq_succ_of_ne_zero e
          rw [hm] at hj
          simp at hj
      rw [this] at hj
      have e : j = n := by omega
      subst e
      simp at hj
      subst hj
      exact hy

theorem opens_slice {P : Program} {t e : TypeId} {α : Type} {d : Kd α} {Q : α → Prop} (ht : P.underlying t = some (.slice e)) (hs : P.cellsOf t = 1) (he : Opens P e d Q) :
    Opens P t (Kd.slice e d) (fun l => l.length ≤ 9223372036854775807 ∧ ∀ y ∈ l, Q y) :=
  ⟨hs, fun enc w base spare held fuel cs x h => by
    rcases open_slice ht h with ⟨rfl, _⟩ | ⟨a, len, cap, m, n, D, Pl, rfl, _, hl, hm, hmm, _, hi⟩
    · exact ⟨[], ⟨none, 0, rfl, Nat.le_refl _, Kd.C_nil d w⟩, by simp, by simp⟩
    · obtain ⟨l, hll, hp⟩ := list_of (fun i y => Q y ∧ ∃ c, c.length = d.sz ∧ d.K w y c ∧ ∀ j u, c[j]? = some u → w.cell? (a.add (i * d.sz + j)) = some u) len (fun i hil => by
        have him : i < m := by
          rw [hmm]
          split <;> omega
        obtain ⟨cs', hc, ht'⟩ := hi i him
        obtain ⟨y, hK, hQ⟩ := he.read enc w base spare held n cs' _ ht'
        obtain ⟨_, hcl, hat⟩ := World.cells?_some hc
        rw [he.size] at hcl hat
        refine ⟨y, hQ, cs', hcl, hK, fun j u hj => ?_⟩
        have hjl : j < d.sz := by
          have := (List.getElem?_eq_some_iff.1 hj).1
          omega
        rw [← Go.Proofs.YtejhjenlodclpaaW.PrintWords.add_add]
        exact (hat j hjl).trans hj)
      subst hll
      unfold maxLen at hm
      refine ⟨l, ⟨some a, cap, rfl, hl, rfl, by omega, fun _ => ⟨a, rfl, fun j p hj => ?_⟩⟩, by omega, fun y hy => ?_⟩
      · obtain ⟨_, c, h1, h2, h3⟩ := hp j p hj
        exact ⟨c, h1, h2, h3⟩
      · obtain ⟨j, hj⟩ := List.getElem?_of_mem hy
        exact (hp j y hj).1⟩

/-- The fields fs stand in line from cell off on. -/
structure OpensF (P : Program) (fs : List Field) (off : Nat) {β : Type} (d : Kd β) (Q : β → Prop) : Prop where
  read : ∀ {H : Type} (enc : TypeId × Value → H) (w : World) (base : Nat) (spare : Nat → Bool) (held : Bool) (n : Nat) (cs : List Value), cs.length = off + d.sz →
    (∀ f ∈ fs, ∃ x, DataW.trod enc P w base spare held n f.type ((cs.drop f.offset).take (P.cellsOf f.type)) = some x) → ∃ y, d.K w y (cs.drop off) ∧ Q y

theorem opensF_one {P : Program} {f : Field} {off : Nat} {β : Type} {d : Kd β} {Q : β → Prop} (ho : f.offset = off) (h : Opens P f.type d Q) : OpensF P [f] off d Q :=
  ⟨fun enc w base spare held n cs hl hf => by
    obtain ⟨x, hx⟩ := hf f (by simp)
    rw [ho, h.size, List.take_of_length_le (by rw [List.length_drop]; omega)] at hx
    exact h.read enc w base spare held n _ x hx⟩

theorem opensF_cons {P : Program} {f : Field} {fs : List Field} {off : Nat} {β γ : Type} {d : Kd β} {d' : Kd γ} {Q : β → Prop} {Q' : γ → Prop} (ho : f.offset = off) (h : Opens P f.type d Q) (hs : OpensF P fs (off + d.sz) d' Q') :
    OpensF P (f :: fs) off (Kd.pair d d') (fun y => Q y.1 ∧ Q' y.2) :=
  ⟨fun enc w base spare held n cs hl hf => by
    have hl' : cs.length = off + (d.sz + d'.sz) := hl
    obtain ⟨x, hx⟩ := hf f (by simp)
    rw [ho, h.size] at hx
    obtain ⟨y, hy, hq⟩ := h.read enc w base spare held n _ x hx
    obtain ⟨z, hz, hr⟩ := hs.read enc w base spare held n cs (by omega) (fun g hg => hf g (by simp [hg]))
    refine ⟨(y, z), ⟨(cs.drop off).take d.sz, cs.drop (off + d.sz), ?_, hy, hz⟩, hq, hr⟩
    rw [← List.drop_drop]
    exact (List.take_append_drop _ _).symm⟩

theorem opens_struct {P : Program} {t : TypeId} {fs : Array Field} {β : Type} {d : Kd β} {Q : β → Prop} (ht : P.underlying t = some (.struct fs)) (hs : P.cellsOf t = d.sz) (h : OpensF P fs.toList 0 d Q) : Opens P t d Q :=
  ⟨hs, fun enc w base spare held fuel cs x hx => by
    obtain ⟨xs, n, _, _, hl, hlen, hf⟩ := DataW.trod_struct ht hx
    have := h.read enc w base spare held n cs (by omega) (fun f hfm => by
      obtain ⟨i, hi⟩ := List.getElem?_of_mem hfm
      have hia : fs[i]? = some f := by simpa using hi
      have hil : i < xs.length := by
        have := (Array.getElem?_eq_some_iff.1 hia).1
        omega
      exact ⟨xs[i]'hil, (hf i f hia).trans (List.getElem?_eq_getElem hil)⟩)
    simpa using this⟩

theorem opens_iso {P : Program} {t : TypeId} {α β : Type} {d : Kd α} {Q : α → Prop} (f : β → α) (g : α → β) (hfg : ∀ a, f (g a) = a) (h : Opens P t d Q) : Opens P t (Kd.iso d f) (fun b => Q (f b)) :=
  ⟨h.size, fun enc w base spare held fuel cs x hx => by
    obtain ⟨y, hK, hQ⟩ := h.read enc w base spare held fuel cs x hx
    refine ⟨g y, ?_, by rw [hfg]; exact hQ⟩
    show d.K w (f (g y)) cs
    rw [hfg]
    exact hK⟩

theorem opens_imp {P : Program} {t : TypeId} {α : Type} {d : Kd α} {Q Q' : α → Prop} (h : Opens P t d Q) (hi : ∀ y, Q y → Q' y) : Opens P t d Q' :=
  ⟨h.size, fun enc w base spare held fuel cs x hx => by
    obtain ⟨y, hK, hQ⟩ := h.read enc w base spare held fuel cs x hx
    exact ⟨y, hK, hi y hQ⟩⟩

/-- A slice that came in. -/
theorem in_slice {H : Type} {enc : TypeId × Value → H} {P : Program} {w : World} {base : Nat} {spare : Nat → Bool} {held : Bool} {r : Reach} {b0 : Nat} {t e : TypeId} {α : Type} {d : Kd α} {Q : α → Prop} {v : Value} {x : DataW H} {p : List MemPlace}
    (ht : P.underlying t = some (.slice e)) (ho : Opens P t (Kd.slice e d) (fun l => l.length ≤ 9223372036854775807 ∧ ∀ y ∈ l, Q y)) (hv : Value.okWide P w r b0 t v) (h : DataW.Trod enc P w base spare held t v x p) :
    ∃ (A : Option Addr) (c : Nat) (l : List α), v = .slice A l.length c ∧ l.length ≤ c ∧ Kd.C d w A l.length l ∧ l.length ≤ 9223372036854775807 ∧ ∀ y ∈ l, Q y := by
  obtain ⟨a, len, cap, rfl⟩ := okWide_slice ht hv
  obtain ⟨fuel, hf⟩ := h
  obtain ⟨l, ⟨A, c, hcs, hl, hC⟩, hlm, hq⟩ := ho.read enc w base spare held fuel _ _ hf
  simp [Value.cells] at hcs
  obtain ⟨rfl, rfl, rfl⟩ := hcs
  exact ⟨_, _, l, rfl, hl, hC, hlm, hq⟩

/-- A struct that came in. -/
theorem in_struct {H : Type} {enc : TypeId × Value → H} {P : Program} {w : World} {base : Nat} {spare : Nat → Bool} {held : Bool} {r : Reach} {b0 : Nat} {t : TypeId} {fs : Array Field} {α : Type} {d : Kd α} {Q : α → Prop} {v : Value} {x : DataW H} {p : List MemPlace}
    (ht : P.underlying t = some (.struct fs)) (ho : Opens P t d Q) (hv : Value.okWide P w r b0 t v) (h : DataW.Trod enc P w base spare held t v x p) :
    ∃ (cs : Array Value) (y : α), v = .agg cs ∧ d.K w y cs.toList ∧ Q y := by
  obtain ⟨cs, rfl, _⟩ := okWide_struct ht hv
  obtain ⟨fuel, hf⟩ := h
  obtain ⟨y, hK, hq⟩ := ho.read enc w base spare held fuel _ _ hf
  exact ⟨cs, y, rfl, hK, hq⟩

end Go.Proofs.Ytejhjenlodclpaa.Opening
