/- Walks of functions that FnExactLettersFor reaches: written by a tool of the kit for this claim, then shortened by a program of ours. -/
import Derived.Test.YtpkdbkheggfkkaaPFnExactLettersForx0
/- narrow -/
namespace Go.Proofs.Ytpkdbkheggfkkaa.PFnExactLettersFor
open Go.RowKit Go.Proofs.YtpkdbkheggfkkaaW.PrintWords Go.Proofs.YtpkdbkheggfkkaaW.PrintLast Go.Proofs.YtpkdbkheggfkkaaW.PrintMore
attribute [local go_sem] max2_int min2_int max_two min_two max_three min_three max_four min_four   -- for this text's walks alone
set_option linter.unusedVariables false
set_option linter.unusedSimpArgs false

/-! ### laws_markIntS: function 21 -/
def laws_markIntS.l0 : Nat → List Int → Int → Int → Option (Int × List Int)
 | 0, _, _, _ => none
 | k + 1, x0, x1, x5 => if x5 < (x0.length : Int) then (if 0 ≤ x5 then (laws_markIntS.l0 k (x0.set (x5 : Int).toNat x1) (wrap64 (x1 + 1)) (wrap64 (x5 + 1))) else (none)) else (some (x1, x0))
def laws_markIntS.f (k : Nat) (l0 : List Int) (a1 : Int) : Option (Int × List Int) := laws_markIntS.l0 k l0 a1 0
set_option maxHeartbeats 8000000 in
set_option maxRecDepth 100000 in
theorem laws_markIntS.calls (k : Nat) (P0_ : Nat → Prop) (u9000_ : Value) (l0 : List Int) (a1 : Int) (r1 : Int) (r2 : List Int) (w0 w : World) (hB : Below w0.heap.size w0 w) (ho0 : Kd.R (Kd.int .i64) 3 w w0.heap.size P0_ u9000_ l0) (h : laws_markIntS.f k l0 a1 = some (r1, r2)) :
  Calls Try.prog 21 #[u9000_, .int .i64 a1] w fun e w' => e = .returned (.int .i64 r1) ∧ Kd.R (Kd.int .i64) 3 w' w0.heap.size (fun k_ => (P0_ k_ ∨ w.heap.size ≤ k_)) u9000_ r2 ∧ Below w0.heap.size w0 w' ∧ Kept w w' (fun k_ => P0_ k_) := by
 have HO0 := zK (show Kd.R (Kd.int .i64) 3 w w0.heap.size (fun k_ => (P0_ k_ ∨ w.heap.size ≤ k_)) u9000_ l0 from Kd.R_mono ho0 (fun k_ hk => (.inl hk)))
 have HK := zK (Kept.refl w (fun k_ => P0_ k_))
 have HW0 := zK hB.size
 have HB := zK hB
 clear hB
 have H : (laws_markIntS.l0 k l0 a1 0) = some (r1, r2) := h
 clear h
 have H' := zK H
 clear H
 go_enter Try.func21, Try.ntmps21
 go_wp2
 go_loopg [1, 5] k (fun kq v1 v5 w' => ∃ (x0_1 : List Int) (x1_1 : Int) (x5_1 : Int), v1 = .int .i64 x1_1 ∧ v5 = .int .i64 x5_1 ∧ Aside0 (laws_markIntS.l0 kq x0_1 x1_1 x5_1 = some (r1, r2)) ∧ Aside0 (kq ≤ k) ∧ Aside0 (Kd.R (Kd.int .i64) 3 w' w0.heap.size (fun k_ => (P0_ k_ ∨ w.heap.size ≤ k_)) u9000_ x0_1) ∧ Aside0 (Kept w w' (fun k_ => P0_ k_)) ∧ Aside0 (Below w0.heap.size w0 w'))
 case atStart => exact ⟨(l0), (a1), (0), M3, M3, H', ⟨Nat.le_refl _⟩, ⟨by exact Kd.qR HO0.o⟩, ⟨by repeat (first | (with_reducible first | exact HK.o | apply Kept.alloc | apply Kept.drewN | apply Kept.drew) | exact HK.o)⟩, ⟨by exact qB HB.o⟩⟩
 case round =>
  clear H'
  try clear c2
  try clear p2
  obtain ⟨x0_1, x1_1, x5_1, rfl, rfl, HA, HK1, HO_0, HK, HB⟩ := hrel
  cases gk with
  | zero => exact absurd HA.o (by simp [laws_markIntS.l0])
  | succ k1 =>
   have H := HA.o
   clear HA
   simp only [laws_markIntS.l0] at H
   by_cases c3 : x5_1 < (x0_1.length : Int)
   rotate_left
   ·rw [if_neg c3] at H
    have c3b0 : decide (x5_1 < (x0_1.length : Int)) = false := decide_eq_false c3
    clear c3
    simp only [Option.some.injEq, Prod.mk.injEq] at H
    obtain ⟨rfl, rfl⟩ := H
    obtain ⟨Ao9, co9, eo9⟩ := Kd.R_slice HO_0.o
    subst eo9
    go_wp2
    go_ret
    exact ⟨by first | rfl | (simp [errW_none, errW_some] <;> rfl) | (simp [*, errW_none, errW_some] <;> rfl), by exact Kd.qR HO_0.o, by exact qB HB.o, by repeat (first | (with_reducible first | exact HK.o | apply Kept.alloc | apply Kept.drewN | apply Kept.drew) | exact HK.o)⟩
   rw [if_pos c3] at H
   have c3b0 : decide (x5_1 < (x0_1.length : Int)) = true := decide_eq_true c3
   clear c3
   by_cases c4 : 0 ≤ x5_1
   rotate_left
   ·rw [if_neg c4] at H
    exact absurd H (by simp)
   rw [if_pos c4] at H
   have c4b0 : decide (0 ≤ x5_1) = true := decide_eq_true c4
   clear c4
   obtain ⟨y423, hy423⟩ : ∃ y_ : List Int, y_ = (x0_1.set (x5_1 : Int).toNat x1_1) := ⟨_, rfl⟩
   replace H : (laws_markIntS.l0 k1 y423 (wrap64 (x1_1 + 1)) (wrap64 (x5_1 + 1))) = some (r1, r2) := by first | (rw [hy423]; with_reducible exact H) | (have H2_ := (Option.bind_some _ _).symm.trans H; rw [hy423]; with_reducible exact H2_) | (have H2_ := (Option.bind_some _ _).symm.trans H; with_reducible exact H2_) | with_reducible exact H | (rw [hy423]; exact H) | exact H
   have Ny423 := zK hy423
   clear hy423
   have H' := zK H
   clear H
   obtain ⟨Ao6, co6, eo6⟩ := Kd.R_slice HO_0.o
   subst eo6
   have p5 : 0 ≤ (x5_1 : Int) := oD M1
   have q5 : (x5_1 : Int) < ((x0_1.length : Int) : Int) := oD M1
   obtain ⟨go5, co5, eo5, gb5, gl5, cl5, HG5⟩ := Kd.R_form HO_0.o (by omega)
   (first | cases eo5 | (injection eo5 with ea_ en_ ec_; (first | subst ea_ | (injection ea_ with ea_; subst ea_)); subst ec_; clear en_))
   have GB5 := zK gb5
   have GG5 := zK HG5
   clear gb5 gl5 HG5
   have HMgo5 := zK (show (P0_ go5 ∨ w.heap.size ≤ go5) from (HO_0.o.1 _ rfl))
   obtain ⟨hx5_0, hf5_0⟩ := Kd.R_celln 0 HO_0.o (x5_1 : Int) p5 q5
   replace p5 := eq_true p5
   replace q5 := eq_true q5
   have HP7 := Kd.R_putg HO_0.o (x5_1 : Int) x1_1
   go_wp2_with (first | ((with_reducible refine gate_store (t := 3) (p := 15) rfl ?_); refine store_event (t := 3) (p := 15) (v := ?vo_w8) (w1 := (wr.setCell ⟨go5, (x5_1 : Int).toNat, none⟩ (.int .i64 x1_1))) ?hg ?ho ?hn ?hr ?_; (case ho => rfl); (case hg => rfl); (case hn => rfl); (case hr => first | (go_simp; done) | (go_simp; rfl)); intro w8 hw; have hg : wr.grownBy w8 (some go5) := (by rw [hw]; exact HP7.2); have hp_ : Kd.R (Kd.int .i64) 3 w8 w0.heap.size (fun k_ => (P0_ k_ ∨ w.heap.size ≤ k_)) (.slice (some ⟨go5, 0, none⟩) x0_1.length co6) y423 := (by rw [hw, Ny423.o]; exact HP7.1); clear HP7; have _ := zK (hp_); have _ := zK ((by rw [hw]; exact bS (HB.o) GB5.o : Below w0.heap.size w0 w8)); have _ := zK (Kept.of_grown (S := (fun k_ => P0_ k_)) hg (by repeat (first | (with_reducible first | exact HK.o | apply Kept.alloc | apply Kept.drewN | apply Kept.drew) | exact HK.o)) (fun k_ e_ => (HO_0.o.1 k_ e_))); clear HO_0 HB HK; rename_i HO_0 HB HK; clear hg hw hp_))
   go_roundg k1
   case measure => have := HK1.o; omega
   case rel => exact ⟨(y423), (wrap64 (x1_1 + 1)), (wrap64 (x5_1 + 1)), M3, M3, H', ⟨by have := HK1.o; omega⟩, ⟨by exact Kd.qR HO_0.o⟩, ⟨by repeat (first | (with_reducible first | exact HK.o | apply Kept.alloc | apply Kept.drewN | apply Kept.drew) | exact HK.o)⟩, ⟨by exact qB HB.o⟩⟩
/-! ### laws_markReportS: function 79 (rows in rows are written; their lengths alone are told) -/
def laws_markReportS.at_ (l : List (S87)) (i : Int) : S87 := l.getD i.toNat z87
def laws_markReportS.l0 : Nat → List (S87) → Int → Int → Option Int
 | 0, _, _, _ => none
 | k + 1, x0, x1, x5 => if x5 < (x0.length : Int) then (if 0 ≤ x5 then ((laws_markIntS.f k (laws_markReportS.at_ x0 x5).f2 (wrap64 (wrap64 (x1 + 1) + 1))).bind fun b => ((laws_markIntS.f k (laws_markReportS.at_ x0 x5).f5 (wrap64 (wrap64 (b.1 + 1) + 1))).bind fun c => (laws_markReportS.l0 k x0 (wrap64 (wrap64 (c.1 + 1) + 1)) (wrap64 (x5 + 1))))) else none) else (some x1)
def laws_markReportS.f (k : Nat) (l0 : List (S87)) (a1 : Int) : Option Int := laws_markReportS.l0 k l0 a1 0
structure Mv (w W : World) (P : Nat → Prop) : Prop where
 k : Kept w W P
 s : ∀ (g : Nat) (cur : Array Value) (t : TypeId), w.heap[g]? = some (.cells cur t (0, 0)) → ∃ cur' : Array Value, W.heap[g]? = some (.cells cur' t (0, 0)) ∧ cur'.size = cur.size
theorem Mv.refl (w : World) (P : Nat → Prop) : Mv w w P := ⟨Kept.refl w P, fun _ cur _ h => ⟨cur, h, rfl⟩⟩
theorem Mv.set {w W : World} {P : Nat → Prop} {g t j : Nat} {c : Array Value} (h : Mv w W P) (hp : P g) (hb : W.heap[g]? = some (.cells c t (0, 0))) (u : Value) : Mv w (W.setCell ⟨g, j, none⟩ u) P := by
 have hk : KeepBut W (W.setCell ⟨g, j, none⟩ u) g none := (KeepBut.refl W g none).set_ j u
 refine ⟨⟨Nat.le_trans h.k.1 hk.1, fun i hi hn => ?_⟩, fun g' cur t' hg' => ?_⟩
 ·have hne : i ≠ g := fun e => hn (e ▸ hp)
  exact (Below.heap_setCell W ⟨g, j, none⟩ u i hne).trans (h.k.2 i hi hn)
 ·obtain ⟨cur', h1, h2⟩ := h.s g' cur t' hg'
  by_cases e : g' = g
  ·subst e
   rw [hb] at h1
   injection h1 with h1
   injection h1 with h1 h3
   subst h1 h3
   exact ⟨_, blk_set hb j u, by rw [Array.size_setIfInBounds]; exact h2⟩
  ·exact ⟨cur', (Below.heap_setCell W ⟨g, j, none⟩ u g' e).trans h1, h2⟩
theorem Mv.trans {w W W2 : World} {P : Nat → Prop} (h : Mv w W P) (h2 : Mv W W2 P) : Mv w W2 P :=
 ⟨h.k.then_ h2.k (fun _ hk => .inl hk), fun g cur t hg => by
  obtain ⟨c1, h3, h4⟩ := h.s g cur t hg
  obtain ⟨c2, h5, h6⟩ := h2.s g c1 t h3
  exact ⟨c2, h5, h6.trans h4⟩⟩
def RowOk (W : World) (P : Nat → Prop) (B : Nat) (A : Option Addr) (n : Nat) : Prop := n = 0 ∨ ∃ g cur, A = some ⟨g, 0, none⟩ ∧ W.heap[g]? = some (.cells cur 3 (0, 0)) ∧ n ≤ cur.size ∧ P g ∧ B ≤ g
theorem mvRow {w W : World} {P Q : Nat → Prop} {B n : Nat} {A : Option Addr} (h : Mv w W Q) (hr : RowOk w P B A n) : RowOk W P B A n := by
 rcases hr with hr | ⟨g, cur, h1, h2, h3, h4⟩
 ·exact .inl hr
 ·obtain ⟨c, h5, h6⟩ := h.s g cur 3 h2
  exact .inr ⟨g, c, h1, h5, by rw [h6]; exact h3, h4⟩
theorem blkAt {W : World} {g t i : Nat} {c : Array Value} (hb : W.heap[g]? = some (.cells c t (0, 0))) (hi : i < c.size) : (∃ u, W.cell? ⟨g, i, none⟩ = some u) ∧ W.frozen? ⟨g, i, none⟩ = false :=
 ⟨⟨c[i], (bc hb i).trans (Array.getElem?_eq_getElem hi)⟩, bf hb i⟩
theorem rowOf {w : World} {base n c : Nat} {ok : Nat → Prop} {A : Option Addr} {xs : List Int} (h : (Kd.int .i64).R 3 w base ok (.slice A n c) xs) : RowOk w ok base A xs.length := by
 rcases Nat.eq_zero_or_pos xs.length with h0 | h0
 ·exact .inl h0
 ·obtain ⟨g, cap, e, hb, hl, cells, hc⟩ := Kd.R_form h h0
  injection e with e1 e2 e3
  subst e1
  refine .inr ⟨g, cells, rfl, hc, ?_, h.1 g rfl, hb⟩
  obtain ⟨ad, e4, hx⟩ := Kd.at_int (Kd.R_reads' h).2.2 ((xs.length : Int) - 1) (by omega) (by omega)
  injection e4 with e4
  subst e4
  rw [add_plain, bc hc] at hx
  have := (Array.getElem?_eq_some_iff.1 hx).1
  omega
set_option maxHeartbeats 8000000 in
set_option maxRecDepth 100000 in
theorem mkI.calls (k : Nat) (l : List Int) (a1 : Int) (r1 : Int) (r2 : List Int) (A : Option Addr) (c : Nat) (P : Nat → Prop) (w0 w : World) (hB : Below w0.heap.size w0 w) (hr : RowOk w P w0.heap.size A l.length) (h : laws_markIntS.f k l a1 = some (r1, r2)) :
  Calls Try.prog 21 #[.slice A l.length c, .int .i64 a1] w fun e w' => e = .returned (.int .i64 r1) ∧ Mv w w' P ∧ (∀ (g : Nat) (cur : Array Value) (t : TypeId), t ≠ 3 → w.heap[g]? = some (.cells cur t (0, 0)) → w'.heap[g]? = some (.cells cur t (0, 0))) ∧ Below w0.heap.size w0 w' := by
 have HM := zK (Mv.refl w P)
 have HT := zK (show ∀ (g : Nat) (cur : Array Value) (t : TypeId), t ≠ 3 → w.heap[g]? = some (.cells cur t (0, 0)) → w.heap[g]? = some (.cells cur t (0, 0)) from fun _ _ _ _ h => h)
 have HB := zK hB
 have HR := zK hr
 clear hB hr
 have H' := zK (show laws_markIntS.l0 k l a1 0 = some (r1, r2) from h)
 clear h
 go_enter Try.func21, Try.ntmps21
 go_wp2
 go_loopg [1, 5] k (fun kq v1 v5 w' => ∃ (x0_1 : List Int) (x1_1 : Int) (x5_1 : Int), v1 = .int .i64 x1_1 ∧ v5 = .int .i64 x5_1 ∧ Aside0 (laws_markIntS.l0 kq x0_1 x1_1 x5_1 = some (r1, r2)) ∧ Aside0 (kq ≤ k) ∧ Aside0 (x0_1.length = l.length) ∧ Aside0 (Mv w w' P) ∧ Aside0 (∀ (g : Nat) (cur : Array Value) (t : TypeId), t ≠ 3 → w.heap[g]? = some (.cells cur t (0, 0)) → w'.heap[g]? = some (.cells cur t (0, 0))) ∧ Aside0 (Below w0.heap.size w0 w'))
 case atStart => exact ⟨l, a1, 0, rfl, rfl, H', ⟨Nat.le_refl _⟩, ⟨rfl⟩, HM, HT, HB⟩
 case round =>
  clear H' HM HT HB
  obtain ⟨x0_1, x1_1, x5_1, rfl, rfl, HA, HK1, HL, HM, HT, HB⟩ := hrel
  cases gk with
  | zero => exact absurd HA.o (by simp [laws_markIntS.l0])
  | succ k1 =>
   have H := HA.o
   have hL := HL.o
   clear HA
   simp only [laws_markIntS.l0] at H
   by_cases c3 : x5_1 < (x0_1.length : Int)
   rotate_left
   ·rw [if_neg c3] at H
    have c3b0 : decide (x5_1 < (l.length : Int)) = false := decide_eq_false (by rw [← hL]; exact c3)
    simp only [Option.some.injEq, Prod.mk.injEq] at H
    obtain ⟨rfl, rfl⟩ := H
    go_wp2
    go_ret
    exact ⟨rfl, HM.o, HT.o, HB.o⟩
   rw [if_pos c3] at H
   have c3b0 : decide (x5_1 < (l.length : Int)) = true := decide_eq_true (by rw [← hL]; exact c3)
   by_cases c4 : 0 ≤ x5_1
   rotate_left
   ·rw [if_neg c4] at H
    exact absurd H (by simp)
   rw [if_pos c4] at H
   have c4b0 : decide (0 ≤ x5_1) = true := decide_eq_true c4
   have H' := zK H
   clear H
   rcases HR.o with h0 | ⟨g, cur, rfl, h2, h3, h4, h5⟩
   ·omega
   obtain ⟨cur', h6, h7⟩ := HM.o.s g cur 3 h2
   obtain ⟨⟨u, hx⟩, hf⟩ := blkAt (i := x5_1.toNat) h6 (by omega)
   have n0_ := zK (HM.o.set (j := x5_1.toNat) h4 h6 (.int .i64 x1_1))
   have n1_ := zK (show ∀ (g2 : Nat) (cur : Array Value) (t : TypeId), t ≠ 3 → w.heap[g2]? = some (.cells cur t (0, 0)) → (wr.setCell ⟨g, x5_1.toNat, none⟩ (.int .i64 x1_1)).heap[g2]? = some (.cells cur t (0, 0)) from fun g2 c2 t ht hg => (Below.heap_setCell wr ⟨g, x5_1.toNat, none⟩ _ g2 (fun e => by
    have h8 := HT.o g2 c2 t ht hg
    change g2 = g at e
    rw [e, h6] at h8
    injection h8 with h8
    injection h8 with _ h8
    exact ht h8.symm)).trans (HT.o g2 c2 t ht hg))
   have n2_ := zK (bS (j := x5_1.toNat) (v := .int .i64 x1_1) HB.o h5)
   clear h2 h3 h6 h7 HM HT HB
   have p5 := eq_true c4
   have q5 := eq_true (show x5_1 < (l.length : Int) by rw [← hL]; exact c3)
   go_wp2
   go_roundg k1
   case measure => have := HK1.o; omega
   case rel => exact ⟨_, (wrap64 (x1_1 + 1)), (wrap64 (x5_1 + 1)), rfl, rfl, H', ⟨by have := HK1.o; omega⟩, ⟨by rw [List.length_set]; exact HL.o⟩, n0_, n1_, n2_⟩
def StOk (w : World) (P : Nat → Prop) (B G : Nat) (l : List (S87)) : Prop := P G ∧ B ≤ G ∧ (∃ cur : Array Value, w.heap[G]? = some (.cells cur 87 (0, 0)) ∧ 8 * l.length ≤ cur.size) ∧ ∀ i : Int, 0 ≤ i → i < l.length → ∃ A2 c2 A5 c5, w.cell? ⟨G, i.toNat * 8 + 2, none⟩ = some (.slice A2 (laws_markReportS.at_ l i).f2.length c2) ∧ w.cell? ⟨G, i.toNat * 8 + 5, none⟩ = some (.slice A5 (laws_markReportS.at_ l i).f5.length c5) ∧ RowOk w P B A2 (laws_markReportS.at_ l i).f2.length ∧ RowOk w P B A5 (laws_markReportS.at_ l i).f5.length
theorem stOk {w : World} {P : Nat → Prop} {B G cap : Nat} {l : List (S87)} (h : Kd.R k87 87 w B P (.slice (some ⟨G, 0, none⟩) l.length cap) l) (hn : 0 < l.length) : StOk w P B G l := by
 obtain ⟨g, cap', e, hb, hl, cells, hc⟩ := Kd.R_form h hn
 injection e with e1 _ _
 injection e1 with e1
 injection e1 with e1 _ _
 subst e1
 have hel : ∀ i : Int, 0 ≤ i → i < l.length → ∃ A2 c2 A5 c5, w.cell? ⟨G, i.toNat * 8 + 2, none⟩ = some (.slice A2 (laws_markReportS.at_ l i).f2.length c2) ∧ w.cell? ⟨G, i.toNat * 8 + 5, none⟩ = some (.slice A5 (laws_markReportS.at_ l i).f5.length c5) ∧ RowOk w P B A2 (laws_markReportS.at_ l i).f2.length ∧ RowOk w P B A5 (laws_markReportS.at_ l i).f5.length ∧ ∃ u, w.cell? ⟨G, i.toNat * 8 + 7, none⟩ = some u := by
  intro i h0 h1
  obtain ⟨c, hcl, hM, hcc, hfr⟩ := Kd.R_elem h z87 i h0 h1
  change k87.M w B (fun k => P k ∧ k ≠ G) (laws_markReportS.at_ l i) c at hM
  obtain ⟨v2, v5, rfl, g2, g5⟩ := k87_openM hM
  obtain ⟨A2, c2, rfl⟩ := Kd.R_slice g2
  obtain ⟨A5, c5, rfl⟩ := Kd.R_slice g5
  have weak : ∀ {A : Option Addr} {n : Nat}, RowOk w (fun k => P k ∧ k ≠ G) B A n → RowOk w P B A n := fun h => h.elim .inl (fun ⟨g, cur, h1, h2, h3, h4, h5⟩ => .inr ⟨g, cur, h1, h2, h3, h4.1, h5⟩)
  exact ⟨A2, c2, A5, c5, hcc 2 _ rfl, hcc 5 _ rfl, weak (rowOf g2), weak (rowOf g5), _, hcc 7 _ rfl⟩
 refine ⟨h.1 G rfl, hb, ⟨cells, hc, ?_⟩, fun i h0 h1 => ?_⟩
 ·obtain ⟨_, _, _, _, _, _, _, _, u, hu⟩ := hel ((l.length : Int) - 1) (by omega) (by omega)
  rw [bc hc] at hu
  have := (Array.getElem?_eq_some_iff.1 hu).1
  omega
 ·obtain ⟨A2, c2, A5, c5, h2, h5, h6, h7, _⟩ := hel i h0 h1
  exact ⟨A2, c2, A5, c5, h2, h5, h6, h7⟩
/-- The outer row's block at W: as long as at w, its slices the same. -/
def Out (w W : World) (G n : Nat) : Prop := ∃ c : Array Value, W.heap[G]? = some (.cells c 87 (0, 0)) ∧ 8 * n ≤ c.size ∧ ∀ i, i < n → W.cell? ⟨G, i * 8 + 2, none⟩ = w.cell? ⟨G, i * 8 + 2, none⟩ ∧ W.cell? ⟨G, i * 8 + 5, none⟩ = w.cell? ⟨G, i * 8 + 5, none⟩
theorem Out.set {w W : World} {G n o : Nat} (h : Out w W G n) (ho : ∀ i, i * 8 + 2 ≠ o ∧ i * 8 + 5 ≠ o) (u : Value) : Out w (W.setCell ⟨G, o, none⟩ u) G n := by
 obtain ⟨c, h1, h2, h3⟩ := h
 have hb := blk_set h1 o u
 have far : ∀ q, q ≠ o → (W.setCell ⟨G, o, none⟩ u).cell? ⟨G, q, none⟩ = W.cell? ⟨G, q, none⟩ := fun q hq => by
  rw [bc hb, bc h1, Array.getElem?_setIfInBounds_ne (Ne.symm hq)]
 exact ⟨_, hb, by rw [Array.size_setIfInBounds]; exact h2, fun i hi => ⟨(far _ (ho i).1).trans (h3 i hi).1, (far _ (ho i).2).trans (h3 i hi).2⟩⟩
theorem Out.call {w W W2 : World} {G n : Nat} (h : Out w W G n) (ht : ∀ (g : Nat) (cur : Array Value) (t : TypeId), t ≠ 3 → W.heap[g]? = some (.cells cur t (0, 0)) → W2.heap[g]? = some (.cells cur t (0, 0))) : Out w W2 G n := by
 obtain ⟨c, h1, h2, h3⟩ := h
 have hb := ht G c 87 (by decide) h1
 have same : ∀ q, W2.cell? ⟨G, q, none⟩ = W.cell? ⟨G, q, none⟩ := fun q => by rw [bc hb, bc h1]
 exact ⟨c, hb, h2, fun i hi => ⟨(same _).trans (h3 i hi).1, (same _).trans (h3 i hi).2⟩⟩
theorem Out.cell {w W : World} {G n o : Nat} (h : Out w W G n) (ho : o < 8 * n) : (∃ u, W.cell? ⟨G, o, none⟩ = some u) ∧ W.frozen? ⟨G, o, none⟩ = false := by
 obtain ⟨c, h1, h2, _⟩ := h
 exact blkAt h1 (by omega)
set_option maxHeartbeats 8000000 in
set_option maxRecDepth 100000 in
theorem laws_markReportS.calls (k : Nat) (P0_ : Nat → Prop) (u9000_ : Value) (l0 : List (S87)) (a1 : Int) (r1 : Int) (w0 w : World) (hB : Below w0.heap.size w0 w) (ho0 : Kd.S k87 87 w w0.heap.size P0_ u9000_ l0) (h : laws_markReportS.f k l0 a1 = some r1) :
  Calls Try.prog 79 #[u9000_, .int .i64 a1] w fun e w' => e = .returned (.int .i64 r1) ∧ Below w0.heap.size w0 w' ∧ Kept w w' (fun k_ => P0_ k_) := by
 obtain ⟨Ao, co, eo⟩ := Kd.S_slice ho0
 subst eo
 have hst : 0 < l0.length → ∃ G, Ao = some ⟨G, 0, none⟩ ∧ StOk w P0_ w0.heap.size G l0 := fun hn => by
  obtain ⟨g, cap, e, _⟩ := Kd.S_form ho0 hn
  injection e with e1 e2 e3
  subst e1
  exact ⟨g, rfl, stOk (Kd.S_R ho0) hn⟩
 obtain ⟨G, hG⟩ : ∃ G, 0 < l0.length → Ao = some ⟨G, 0, none⟩ ∧ StOk w P0_ w0.heap.size G l0 := by
  rcases Nat.eq_zero_or_pos l0.length with h0 | h0
  ·exact ⟨0, fun h => absurd h (by omega)⟩
  obtain ⟨G, h1⟩ := hst h0
  exact ⟨G, fun _ => h1⟩
 have hO : 0 < l0.length → Out w w G l0.length := fun hn => by
  obtain ⟨_, _, _, ⟨cur, h1, h2⟩, _⟩ := hG hn
  exact ⟨cur, h1, h2, fun _ _ => ⟨rfl, rfl⟩⟩
 have HG := zK hG
 have HM := zK (Mv.refl w P0_)
 have HO := zK hO
 have HB := zK hB
 clear hB ho0 hst hG hO
 have H' := zK (show laws_markReportS.l0 k l0 a1 0 = some r1 from h)
 clear h
 go_enter Try.func79, Try.ntmps79
 go_wp2
 go_loopg [1, 5] k (fun kq v1 v5 w' => ∃ (x1_1 : Int) (x5_1 : Int), v1 = .int .i64 x1_1 ∧ v5 = .int .i64 x5_1 ∧ Aside0 (laws_markReportS.l0 kq l0 x1_1 x5_1 = some r1) ∧ Aside0 (kq ≤ k) ∧ Aside0 (Mv w w' P0_) ∧ Aside0 (0 < l0.length → Out w w' G l0.length) ∧ Aside0 (Below w0.heap.size w0 w'))
 case atStart => exact ⟨a1, 0, rfl, rfl, H', ⟨Nat.le_refl _⟩, HM, HO, HB⟩
 case round =>
  clear H' HM HO HB
  obtain ⟨x1_1, x5_1, rfl, rfl, HA, HK1, HM, HO, HB⟩ := hrel
  cases gk with
  | zero => exact absurd HA.o (by simp [laws_markReportS.l0])
  | succ k1 =>
   have H := HA.o
   clear HA
   simp only [laws_markReportS.l0] at H
   by_cases c3 : x5_1 < (l0.length : Int)
   rotate_left
   ·rw [if_neg c3] at H
    have c3b0 : decide (x5_1 < (l0.length : Int)) = false := decide_eq_false c3
    obtain rfl := Option.some.inj H
    go_wp2
    go_ret
    exact ⟨rfl, HB.o, HM.o.k⟩
   rw [if_pos c3] at H
   have c3b0 : decide (x5_1 < (l0.length : Int)) = true := decide_eq_true c3
   by_cases c4 : 0 ≤ x5_1
   rotate_left
   ·rw [if_neg c4] at H
    exact absurd H (by simp)
   rw [if_pos c4] at H
   have c4b0 : decide (0 ≤ x5_1) = true := decide_eq_true c4
   obtain ⟨⟨t1, t2⟩, A0, H⟩ := Option.bind_eq_some_iff.mp H
   obtain ⟨⟨t3, t4⟩, A1, H⟩ := Option.bind_eq_some_iff.mp H
   have A6 := zK A0
   have A7 := zK A1
   have H' := zK H
   clear A0 A1 H
   have hn : 0 < l0.length := by omega
   obtain ⟨rfl, hP, hGB, _, hel⟩ := HG.o hn
   obtain ⟨A2, c2, A5, c5, h2, h5, hr2, hr5⟩ := hel x5_1 c4 c3
   have HOn := zK (HO.o hn)
   have HPG := zK hP
   have HGB := zK hGB
   have H2 := zK h2
   have H5 := zK h5
   have HR2 := zK hr2
   have HR5 := zK hr5
   have HI := zK (show x5_1.toNat < l0.length by omega)
   obtain ⟨⟨u0, hx0⟩, hf0⟩ := HOn.o.cell (o := x5_1.toNat * 8) (by have := HI.o; omega)
   clear hP hGB hel h2 h5 hr2 hr5 HO
   have p5 := eq_true c4
   have q5 := eq_true c3
   clear c3 c4 hn
   go_wp2_with (first | ((with_reducible refine gate_store (t := 3) (p := 16) rfl ?_); refine store_event (t := 3) (p := 16) (v := ?vo_w1) (w1 := (wr.setCell ⟨G, x5_1.toNat * 8, none⟩ (.int .i64 x1_1))) ?hg ?ho ?hn ?hr ?_; (case ho => rfl); (case hg => rfl); (case hn => rfl); (case hr => first | (go_simp; done) | (go_simp; rfl)); intro w1 hw; have n1_ := zK (show Out w w1 G l0.length from (by rw [hw]; exact HOn.o.set (fun i_ => by omega) _)); have n0_ := zK (show Mv w w1 P0_ from (by rw [hw]; obtain ⟨c_, hb_, _⟩ := HOn.o; exact HM.o.set HPG.o hb_ _)); have n2_ := zK (show Below w0.heap.size w0 w1 from (by rw [hw]; exact bS (HB.o) HGB.o)); clear HM HOn HB hw; have HM := n0_; have HOn := n1_; have HB := n2_; clear n0_ n1_ n2_; obtain ⟨⟨u1, hx1⟩, hf1⟩ := HOn.o.cell (o := x5_1.toNat * 8 + 1) (by have := HI.o; omega)) | ((with_reducible refine gate_store (t := 3) (p := 23) rfl ?_); refine store_event (t := 3) (p := 23) (v := ?vo_w2) (w1 := (w1.setCell ⟨G, x5_1.toNat * 8 + 1, none⟩ (.int .i64 (wrap64 (x1_1 + 1))))) ?hg ?ho ?hn ?hr ?_; (case ho => rfl); (case hg => rfl); (case hn => rfl); (case hr => first | (go_simp; done) | (go_simp; rfl)); intro w2 hw; have n1_ := zK (show Out w w2 G l0.length from (by rw [hw]; exact HOn.o.set (fun i_ => by omega) _)); have n0_ := zK (show Mv w w2 P0_ from (by rw [hw]; obtain ⟨c_, hb_, _⟩ := HOn.o; exact HM.o.set HPG.o hb_ _)); have n2_ := zK (show Below w0.heap.size w0 w2 from (by rw [hw]; exact bS (HB.o) HGB.o)); clear HM HOn HB hw; have HM := n0_; have HOn := n1_; have HB := n2_; clear n0_ n1_ n2_; obtain ⟨c_, hb_, hs_, hcc_⟩ := HOn.o; have hx2 : w2.cell? ⟨G, x5_1.toNat * 8 + 2, none⟩ = some (.slice A2 (laws_markReportS.at_ l0 x5_1).f2.length c2) := ((hcc_ x5_1.toNat HI.o).1).trans H2.o; clear hb_ hs_ hcc_) | ((with_reducible refine gate_callee (f := 21) rfl ?_); refine goesL_ (some 32) rfl rfl Try.func21 (by kernel_rfl) rfl #[.slice A2 (laws_markReportS.at_ l0 x5_1).f2.length c2, .int .i64 (wrap64 (wrap64 (x1_1 + 1) + 1))] rfl M0 ?_; (with_reducible refine (mkI.calls _ (laws_markReportS.at_ l0 x5_1).f2 (wrap64 (wrap64 (x1_1 + 1) + 1)) t1 t2 A2 c2 P0_ w0 _ ?side1 ?side2 A6.o).mono ?_); (case side1 => exact HB.o); (case side2 => exact mvRow HM.o HR2.o); rintro e w3 ⟨rfl, hm, ht, hb⟩; refine ⟨_, rfl, ?_⟩; have _ := zK (HM.o.trans hm); have _ := zK (HOn.o.call ht); have _ := zK hb; clear HM HOn HB hm ht hb; rename_i HM HOn HB; obtain ⟨⟨u3, hx3⟩, hf3⟩ := HOn.o.cell (o := x5_1.toNat * 8 + 3) (by have := HI.o; omega)) | ((with_reducible refine gate_store (t := 3) (p := 37) rfl ?_); refine store_event (t := 3) (p := 37) (v := ?vo_w4) (w1 := (w3.setCell ⟨G, x5_1.toNat * 8 + 3, none⟩ (.int .i64 t1))) ?hg ?ho ?hn ?hr ?_; (case ho => rfl); (case hg => rfl); (case hn => rfl); (case hr => first | (go_simp; done) | (go_simp; rfl)); intro w4 hw; have n1_ := zK (show Out w w4 G l0.length from (by rw [hw]; exact HOn.o.set (fun i_ => by omega) _)); have n0_ := zK (show Mv w w4 P0_ from (by rw [hw]; obtain ⟨c_, hb_, _⟩ := HOn.o; exact HM.o.set HPG.o hb_ _)); have n2_ := zK (show Below w0.heap.size w0 w4 from (by rw [hw]; exact bS (HB.o) HGB.o)); clear HM HOn HB hw; have HM := n0_; have HOn := n1_; have HB := n2_; clear n0_ n1_ n2_; obtain ⟨⟨u4, hx4⟩, hf4⟩ := HOn.o.cell (o := x5_1.toNat * 8 + 4) (by have := HI.o; omega)) | ((with_reducible refine gate_store (t := 3) (p := 44) rfl ?_); refine store_event (t := 3) (p := 44) (v := ?vo_w5) (w1 := (w4.setCell ⟨G, x5_1.toNat * 8 + 4, none⟩ (.int .i64 (wrap64 (t1 + 1))))) ?hg ?ho ?hn ?hr ?_; (case ho => rfl); (case hg => rfl); (case hn => rfl); (case hr => first | (go_simp; done) | (go_simp; rfl)); intro w5 hw; have n1_ := zK (show Out w w5 G l0.length from (by rw [hw]; exact HOn.o.set (fun i_ => by omega) _)); have n0_ := zK (show Mv w w5 P0_ from (by rw [hw]; obtain ⟨c_, hb_, _⟩ := HOn.o; exact HM.o.set HPG.o hb_ _)); have n2_ := zK (show Below w0.heap.size w0 w5 from (by rw [hw]; exact bS (HB.o) HGB.o)); clear HM HOn HB hw; have HM := n0_; have HOn := n1_; have HB := n2_; clear n0_ n1_ n2_; obtain ⟨c_, hb_, hs_, hcc_⟩ := HOn.o; have hx5 : w5.cell? ⟨G, x5_1.toNat * 8 + 5, none⟩ = some (.slice A5 (laws_markReportS.at_ l0 x5_1).f5.length c5) := ((hcc_ x5_1.toNat HI.o).2).trans H5.o; clear hb_ hs_ hcc_) | ((with_reducible refine gate_callee (f := 21) rfl ?_); refine goesL_ (some 53) rfl rfl Try.func21 (by kernel_rfl) rfl #[.slice A5 (laws_markReportS.at_ l0 x5_1).f5.length c5, .int .i64 (wrap64 (wrap64 (t1 + 1) + 1))] rfl M0 ?_; (with_reducible refine (mkI.calls _ (laws_markReportS.at_ l0 x5_1).f5 (wrap64 (wrap64 (t1 + 1) + 1)) t3 t4 A5 c5 P0_ w0 _ ?side1 ?side2 A7.o).mono ?_); (case side1 => exact HB.o); (case side2 => exact mvRow HM.o HR5.o); rintro e w6 ⟨rfl, hm, ht, hb⟩; refine ⟨_, rfl, ?_⟩; have _ := zK (HM.o.trans hm); have _ := zK (HOn.o.call ht); have _ := zK hb; clear HM HOn HB hm ht hb; rename_i HM HOn HB; obtain ⟨⟨u6, hx6⟩, hf6⟩ := HOn.o.cell (o := x5_1.toNat * 8 + 6) (by have := HI.o; omega)) | ((with_reducible refine gate_store (t := 3) (p := 59) rfl ?_); refine store_event (t := 3) (p := 59) (v := ?vo_w7) (w1 := (w6.setCell ⟨G, x5_1.toNat * 8 + 6, none⟩ (.int .i64 t3))) ?hg ?ho ?hn ?hr ?_; (case ho => rfl); (case hg => rfl); (case hn => rfl); (case hr => first | (go_simp; done) | (go_simp; rfl)); intro w7 hw; have n1_ := zK (show Out w w7 G l0.length from (by rw [hw]; exact HOn.o.set (fun i_ => by omega) _)); have n0_ := zK (show Mv w w7 P0_ from (by rw [hw]; obtain ⟨c_, hb_, _⟩ := HOn.o; exact HM.o.set HPG.o hb_ _)); have n2_ := zK (show Below w0.heap.size w0 w7 from (by rw [hw]; exact bS (HB.o) HGB.o)); clear HM HOn HB hw; have HM := n0_; have HOn := n1_; have HB := n2_; clear n0_ n1_ n2_; obtain ⟨⟨u7, hx7⟩, hf7⟩ := HOn.o.cell (o := x5_1.toNat * 8 + 7) (by have := HI.o; omega)) | ((with_reducible refine gate_store (t := 3) (p := 67) rfl ?_); refine store_event (t := 3) (p := 67) (v := ?vo_w8) (w1 := (w7.setCell ⟨G, x5_1.toNat * 8 + 7, none⟩ (.int .i64 (wrap64 (t3 + 1))))) ?hg ?ho ?hn ?hr ?_; (case ho => rfl); (case hg => rfl); (case hn => rfl); (case hr => first | (go_simp; done) | (go_simp; rfl)); intro w8 hw; have n1_ := zK (show Out w w8 G l0.length from (by rw [hw]; exact HOn.o.set (fun i_ => by omega) _)); have n0_ := zK (show Mv w w8 P0_ from (by rw [hw]; obtain ⟨c_, hb_, _⟩ := HOn.o; exact HM.o.set HPG.o hb_ _)); have n2_ := zK (show Below w0.heap.size w0 w8 from (by rw [hw]; exact bS (HB.o) HGB.o)); clear HM HOn HB hw; have HM := n0_; have HOn := n1_; have HB := n2_; clear n0_ n1_ n2_))
   go_roundg k1
   case measure => have := HK1.o; omega
   case rel => exact ⟨_, (wrap64 (x5_1 + 1)), rfl, rfl, H', ⟨by have := HK1.o; omega⟩, HM, ⟨fun _ => HOn.o⟩, HB⟩
theorem rApQ {α : Type} {d : Kd α} {e base : Nat} {W W2 : World} {ok P : Nat → Prop} {v : Value} {xs : List α} (_hk : Kept W W2 P) (hE : d.E = []) (h : d.Q e W base ok v xs) (hv : ∀ k, P k → some k ≠ v.ownBlock) : d.Q e W base (fun k => ok k ∧ ¬ P k) v xs := Kd.Q_mono (Kd.Q_tight hE h) (fun k hk => ⟨Kd.Q_ok h k hk.symm, fun hp => hv k hp hk⟩)
theorem rApP {α : Type} {d : Kd α} {e base : Nat} {W W2 : World} {ok P : Nat → Prop} {v : Value} {xs : List α} (_hk : Kept W W2 P) (hE : d.E = []) (h : d.R e W base ok v xs) (hv : ∀ k, P k → some k ≠ v.ownBlock) : d.R e W base (fun k => ok k ∧ ¬ P k) v xs := Kd.R_mono (Kd.R_tight2 hE h) (fun k hk => ⟨hk.2, fun hp => hv k hp hk.1⟩)

/-! ### laws_heldLetterS: function 80 -/
def laws_heldLetterS.l0 : Nat → List (S81) → Int → Int → Option (Int)
 | 0, _, _, _ => none
 | k + 1, x0, x1, x5 => if x5 < (x0.length : Int) then (if 0 ≤ x5 then (if ((rd_T81 x0 x5).f0) = x1 then (if ((rd_T81 x0 x5).f1) = (wrap64 (x1 + 1)) then (if ((rd_T81 x0 x5).f2) = (wrap64 ((wrap64 (x1 + 1)) + 1)) then (laws_heldLetterS.l0 k x0 (wrap64 ((wrap64 ((wrap64 (x1 + 1)) + 1)) + 1)) (wrap64 (x5 + 1))) else (some (-1))) else (some (-1))) else (some (-1))) else (none)) else (some x1)
def laws_heldLetterS.f (k : Nat) (l0 : List (S81)) (a1 : Int) : Option (Int) := laws_heldLetterS.l0 k l0 a1 0
set_option maxHeartbeats 8000000 in
set_option maxRecDepth 100000 in
theorem laws_heldLetterS.calls (k : Nat) (A0 : Option Addr) (c0 : Nat) (l0 : List (S81)) (a1 : Int) (r : Int) (w : World) (hr0 : Kd.C k81 w A0 l0.length l0) (hc0 : l0.length ≤ c0) (h : laws_heldLetterS.f k l0 a1 = some r) :
  Calls Try.prog 80 #[.slice A0 l0.length c0, .int .i64 a1] w fun e w' => e = .returned (.int .i64 r) ∧ Drawn0 w w' := by
 have HR0 := zK hr0
 have HC0 := zK hc0
 clear hr0 hc0
 have H : (laws_heldLetterS.l0 k l0 a1 0) = some r := h
 clear h
 have H' := zK H
 clear H
 go_enter Try.func80, Try.ntmps80
 go_wp2
 go_loopg [1, 5] k (fun kq v1 v5 w' => ∃ (x1_1 : Int) (x5_1 : Int), v1 = .int .i64 x1_1 ∧ v5 = .int .i64 x5_1 ∧ Aside0 (laws_heldLetterS.l0 kq l0 x1_1 x5_1 = some r) ∧ Aside0 (kq ≤ k) ∧ Drawn0 w w')
 case atStart => exact ⟨(a1), (0), M3, M3, H', ⟨Nat.le_refl _⟩, by repeat (first | exact Drawn0.refl _ | apply Drawn0.step)⟩
 case round =>
  clear H'
  try clear p2
  obtain ⟨x1_1, x5_1, rfl, rfl, HA, HK1, ⟨m1, rfl⟩⟩ := hrel
  cases gk with
  | zero => exact absurd HA.o (by simp [laws_heldLetterS.l0])
  | succ k1 =>
   have H := HA.o
   clear HA
   simp only [laws_heldLetterS.l0] at H
   by_cases c3 : x5_1 < (l0.length : Int)
   rotate_left
   ·rw [if_neg c3] at H
    have c3b0 : decide (x5_1 < (l0.length : Int)) = false := decide_eq_false c3
    clear c3
    obtain rfl := Option.some.inj H
    go_wp2
    go_ret
    exact ⟨by first | rfl | (simp; done) | (simp [*]; done), by repeat (first | exact Drawn0.refl _ | apply Drawn0.step)⟩

   rw [if_pos c3] at H
   have c3b0 : decide (x5_1 < (l0.length : Int)) = true := decide_eq_true c3
   clear c3
   by_cases c4 : 0 ≤ x5_1
   rotate_left
   ·rw [if_neg c4] at H
    exact absurd H (by simp)
   rw [if_pos c4] at H
   have c4b0 : decide (0 ≤ x5_1) = true := decide_eq_true c4
   clear c4
   by_cases c5 : ((rd_T81 l0 x5_1).f0) = x1_1
   rotate_left
   ·rw [if_neg c5] at H
    have c5b0 : (((rd_T81 l0 x5_1).f0) == x1_1) = false := beq_eq_false_iff_ne.mpr c5
    have c5b1 : (((rd_T81 l0 x5_1).f0) != x1_1) = true := bne_iff_ne.mpr c5
    obtain rfl := Option.some.inj H
    have p424 : 0 ≤ (x5_1 : Int) := oD M1
    have q424 : x5_1 < (l0.length : Int) := oD M1
    obtain ⟨ad424, e424, hx424_0, hx424_1, hx424_2⟩ := at_T81 HR0.o x5_1 p424 q424
    cases e424
    replace p424 := eq_true p424
    replace q424 := eq_true q424
    go_wp2
    go_ret
    exact ⟨by first | rfl | (simp; done) | (simp [*]; done), by repeat (first | exact Drawn0.refl _ | apply Drawn0.step)⟩
   rw [if_pos c5] at H
   have c5b0 : (((rd_T81 l0 x5_1).f0) == x1_1) = true := beq_iff_eq.mpr c5
   have c5b1 : (((rd_T81 l0 x5_1).f0) != x1_1) = false := bne_eq_false_iff_eq.mpr c5
   clear c5
   by_cases c6 : ((rd_T81 l0 x5_1).f1) = (wrap64 (x1_1 + 1))
   rotate_left
   ·rw [if_neg c6] at H
    have c6b0 : (((rd_T81 l0 x5_1).f1) == (wrap64 (x1_1 + 1))) = false := beq_eq_false_iff_ne.mpr c6
    have c6b1 : (((rd_T81 l0 x5_1).f1) != (wrap64 (x1_1 + 1))) = true := bne_iff_ne.mpr c6
    obtain rfl := Option.some.inj H
    have p424 : 0 ≤ (x5_1 : Int) := oD M1
    have q424 : x5_1 < (l0.length : Int) := oD M1
    obtain ⟨ad424, e424, hx424_0, hx424_1, hx424_2⟩ := at_T81 HR0.o x5_1 p424 q424
    cases e424
    replace p424 := eq_true p424
    replace q424 := eq_true q424
    have p425 : 0 ≤ (x5_1 : Int) := oD M1
    have q425 : x5_1 < (l0.length : Int) := oD M1
    obtain ⟨ad425, e425, hx425_0, hx425_1, hx425_2⟩ := at_T81 HR0.o x5_1 p425 q425
    obtain rfl : ad424 = ad425 := (by injection e425)
    replace p425 := eq_true p425
    replace q425 := eq_true q425
    go_wp2
    go_ret
    exact ⟨by first | rfl | (simp; done) | (simp [*]; done), by repeat (first | exact Drawn0.refl _ | apply Drawn0.step)⟩
   rw [if_pos c6] at H
   have c6b0 : (((rd_T81 l0 x5_1).f1) == (wrap64 (x1_1 + 1))) = true := beq_iff_eq.mpr c6
   have c6b1 : (((rd_T81 l0 x5_1).f1) != (wrap64 (x1_1 + 1))) = false := bne_eq_false_iff_eq.mpr c6
   clear c6
   by_cases c7 : ((rd_T81 l0 x5_1).f2) = (wrap64 ((wrap64 (x1_1 + 1)) + 1))
   rotate_left
   ·rw [if_neg c7] at H
    have c7b0 : (((rd_T81 l0 x5_1).f2) == (wrap64 ((wrap64 (x1_1 + 1)) + 1))) = false := beq_eq_false_iff_ne.mpr c7
    have c7b1 : (((rd_T81 l0 x5_1).f2) != (wrap64 ((wrap64 (x1_1 + 1)) + 1))) = true := bne_iff_ne.mpr c7
    obtain rfl := Option.some.inj H
    have p424 : 0 ≤ (x5_1 : Int) := oD M1
    have q424 : x5_1 < (l0.length : Int) := oD M1
    obtain ⟨ad424, e424, hx424_0, hx424_1, hx424_2⟩ := at_T81 HR0.o x5_1 p424 q424
    cases e424
    replace p424 := eq_true p424
    replace q424 := eq_true q424
    have p425 : 0 ≤ (x5_1 : Int) := oD M1
    have q425 : x5_1 < (l0.length : Int) := oD M1
    obtain ⟨ad425, e425, hx425_0, hx425_1, hx425_2⟩ := at_T81 HR0.o x5_1 p425 q425
    obtain rfl : ad424 = ad425 := (by injection e425)
    replace p425 := eq_true p425
    replace q425 := eq_true q425
    have p426 : 0 ≤ (x5_1 : Int) := oD M1
    have q426 : x5_1 < (l0.length : Int) := oD M1
    obtain ⟨ad426, e426, hx426_0, hx426_1, hx426_2⟩ := at_T81 HR0.o x5_1 p426 q426
    obtain rfl : ad424 = ad426 := (by injection e426)
    replace p426 := eq_true p426
    replace q426 := eq_true q426
    go_wp2
    go_ret
    exact ⟨by first | rfl | (simp; done) | (simp [*]; done), by repeat (first | exact Drawn0.refl _ | apply Drawn0.step)⟩
   rw [if_pos c7] at H
   have c7b0 : (((rd_T81 l0 x5_1).f2) == (wrap64 ((wrap64 (x1_1 + 1)) + 1))) = true := beq_iff_eq.mpr c7
   have c7b1 : (((rd_T81 l0 x5_1).f2) != (wrap64 ((wrap64 (x1_1 + 1)) + 1))) = false := bne_eq_false_iff_eq.mpr c7
   clear c7
   have H' := zK H
   clear H
   have p424 : 0 ≤ (x5_1 : Int) := oD M1
   have q424 : x5_1 < (l0.length : Int) := oD M1
   obtain ⟨ad424, e424, hx424_0, hx424_1, hx424_2⟩ := at_T81 HR0.o x5_1 p424 q424
   cases e424
   replace p424 := eq_true p424
   replace q424 := eq_true q424
   have p425 : 0 ≤ (x5_1 : Int) := oD M1
   have q425 : x5_1 < (l0.length : Int) := oD M1
   obtain ⟨ad425, e425, hx425_0, hx425_1, hx425_2⟩ := at_T81 HR0.o x5_1 p425 q425
   obtain rfl : ad424 = ad425 := (by injection e425)
   replace p425 := eq_true p425
   replace q425 := eq_true q425
   have p426 : 0 ≤ (x5_1 : Int) := oD M1
   have q426 : x5_1 < (l0.length : Int) := oD M1
   obtain ⟨ad426, e426, hx426_0, hx426_1, hx426_2⟩ := at_T81 HR0.o x5_1 p426 q426
   obtain rfl : ad424 = ad426 := (by injection e426)
   replace p426 := eq_true p426
   replace q426 := eq_true q426
   go_wp2
   go_roundg k1
   case measure => have := HK1.o; omega
   case rel => exact ⟨(wrap64 ((wrap64 ((wrap64 (x1_1 + 1)) + 1)) + 1)), (wrap64 (x5_1 + 1)), M3, M3, H', ⟨by have := HK1.o; omega⟩, by repeat (first | exact Drawn0.refl _ | apply Drawn0.step)⟩
end Go.Proofs.Ytpkdbkheggfkkaa.PFnExactLettersFor
