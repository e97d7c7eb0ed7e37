/- Walks of functions that FnFates reaches: written by a tool of the kit for this claim, then shortened by a program of ours. -/
import Derived.Test.YtfoallhhdilgjaaPFnFatesx0
import Derived.Test.YtfoallhhdilgjaaPFnFatesx8
/- narrow -/
namespace Go.Proofs.Ytfoallhhdilgjaa.PFnFates
open Go.RowKit Go.Proofs.YtfoallhhdilgjaaW.PrintWords Go.Proofs.YtfoallhhdilgjaaW.PrintLast Go.Proofs.YtfoallhhdilgjaaW.PrintMore
attribute [local go_sem] max2_int min2_int max_two min_two max_three min_three max_four min_four   -- for this text's walks alone
set_option linter.unusedVariables false
set_option linter.unusedSimpArgs false

/-! ### impl_FateOf_1: slices.ContainsFunc with function 24 -/
theorem impl_FateOf_1.run_mf (fn : Fn) (first cap : Array Value) (w : World) : (Instr.makeFunc fn first cap).run Try.prog w = .ok (.func fn first cap) w := rfl
theorem impl_FateOf_1.events_mf (fn : Fn) (first cap : Array Value) (w : World) (es : Array Event) : (Instr.makeFunc fn first cap).events Try.prog w es = es := rfl
attribute [local go_sem] impl_FateOf_1.run_mf impl_FateOf_1.events_mf
def impl_FateOf_1.p (a0 a1 a2 a3 a4 : Int) (y : S38) : Bool := (y.f2 == a0) && (y.f4 == 0)
def impl_FateOf_1.idx (q : S38 → Bool) : Nat → List (S38) → Int
 | _, [] => -1
 | i, x :: l => if q x then (i : Int) else impl_FateOf_1.idx q (i + 1) l
theorem impl_FateOf_1.idx_any (q : S38 → Bool) : ∀ (l : List (S38)) (i : Nat), decide (0 ≤ impl_FateOf_1.idx q i l) = l.any q
 | [], i => by simp [impl_FateOf_1.idx]
 | x :: l, i => by
  have ih := impl_FateOf_1.idx_any q l (i + 1)
  by_cases hq : q x = true
  ·rw [show impl_FateOf_1.idx q i (x :: l) = (i : Int) by simp [impl_FateOf_1.idx, hq], List.any_cons, hq, Bool.true_or]
   exact decide_eq_true (by omega)
  ·rw [show impl_FateOf_1.idx q i (x :: l) = impl_FateOf_1.idx q (i + 1) l by simp [impl_FateOf_1.idx, hq], List.any_cons, Bool.eq_false_iff.mpr hq, Bool.false_or]
   exact ih
def impl_FateOf_1.f (l0 : List (S38)) (a0 a1 a2 a3 a4 : Int) : Option Bool := some (l0.any (impl_FateOf_1.p a0 a1 a2 a3 a4))
set_option maxHeartbeats 8000000 in
set_option maxRecDepth 100000 in
theorem impl_FateOf_1.one (y : S38) (B : Nat) (a0 a1 a2 a3 a4 : Int) (w : World) (hB : w.heap[B]? = some (.cells #[.int .i64 a0, .int .i64 a1, .int .i64 a2, .int .i64 a3, .int .i64 a4] 27 (0, 0))) :
  Calls Try.prog 24 #[.agg #[.int .i64 y.f0, .int .i64 y.f1, .int .i64 y.f2, .int .i64 y.f3, .int .i64 y.f4], .pointer (some ⟨B, 0, none⟩)] w fun e w' => e = .returned (.bool (impl_FateOf_1.p a0 a1 a2 a3 a4 y)) ∧ Below w.heap.size w w' := by
 have hc0 : ∀ o, (w.alloc o).cell? ⟨B, 0, none⟩ = some (.int .i64 a0) := fun o => (bc (kA hB o) 0).trans rfl
 have hc1 : ∀ o, (w.alloc o).cell? ⟨B, 1, none⟩ = some (.int .i64 a1) := fun o => (bc (kA hB o) 1).trans rfl
 have hc2 : ∀ o, (w.alloc o).cell? ⟨B, 2, none⟩ = some (.int .i64 a2) := fun o => (bc (kA hB o) 2).trans rfl
 have hc3 : ∀ o, (w.alloc o).cell? ⟨B, 3, none⟩ = some (.int .i64 a3) := fun o => (bc (kA hB o) 3).trans rfl
 have hc4 : ∀ o, (w.alloc o).cell? ⟨B, 4, none⟩ = some (.int .i64 a4) := fun o => (bc (kA hB o) 4).trans rfl
 rcases Bool.eq_false_or_eq_true (y.f2 == a0) with b0 | b0 <;>
 rcases Bool.eq_false_or_eq_true (y.f4 == 0) with b1 | b1 <;>
 (go_enter Try.func24, Try.ntmps24
  go_wp2
  go_ret
  exact ⟨by first | rfl | (simp [impl_FateOf_1.p]; done) | (simp [impl_FateOf_1.p] <;> rfl) | (simp [impl_FateOf_1.p, b0, b1]; done), by repeat (first | exact Below.refl _ _ | apply bA | apply bN | apply below_drew1)⟩)
set_option maxHeartbeats 8000000 in
set_option maxRecDepth 100000 in
theorem impl_FateOf_1.at (B : Nat) (A0 : Option Addr) (c0 : Nat) (l0 : List (S38)) (a0 a1 a2 a3 a4 : Int) (w : World) (hr0 : Kd.C k38 w A0 l0.length l0) (hc0 : l0.length ≤ c0) (hB : w.heap[B]? = some (.cells #[.int .i64 a0, .int .i64 a1, .int .i64 a2, .int .i64 a3, .int .i64 a4] 27 (0, 0))) :
  Calls Try.prog 31 #[.slice A0 l0.length c0, .func (.func 24) #[] #[.pointer (some ⟨B, 0, none⟩)]] w fun e w' => e = .returned (.int .i64 (impl_FateOf_1.idx (impl_FateOf_1.p a0 a1 a2 a3 a4) 0 l0)) ∧ Below w.heap.size w w' := by
 have hlen : l0.length ≤ 9223372036854775807 := hr0.2.1
 have HR0 := zK hr0
 have HB0 := zK hB
 clear hr0 hB
 generalize hq : impl_FateOf_1.p a0 a1 a2 a3 a4 = q
 obtain ⟨r, hr⟩ : ∃ r, r = impl_FateOf_1.idx q 0 l0 := ⟨_, rfl⟩
 rw [← hr]
 have R0 := zK hr
 have HQ := zK hq
 clear hr hq
 go_enter Try.func31, Try.ntmps31
 go_wp2
 go_loopg [5, 8] l0.length (fun kq v5 v8 w' => ∃ (x8 : Int), v8 = .int .i64 x8 ∧ 0 ≤ x8 ∧ x8 ≤ (l0.length : Int) ∧ (l0.length : Int) - x8 ≤ kq ∧ Aside0 (impl_FateOf_1.idx q x8.toNat (l0.drop x8.toNat) = r) ∧ Aside0 (Below w.heap.size w w'))
 case atStart => exact ⟨0, rfl, by omega, by omega, by omega, ⟨R0.out.symm⟩, ⟨Below.refl _ _⟩⟩
 case round =>
  obtain ⟨x8, rfl, h0, h1, h2, HA, HB⟩ := hrel
  by_cases c3 : x8 < (l0.length : Int)
  ·have c3b0 : decide (x8 < (l0.length : Int)) = true := decide_eq_true c3
   obtain ⟨ad1, e1, hx_0, hx_1, hx_2, hx_3, hx_4⟩ := at_T38 HR0.out x8 h0 c3
   cases e1
   replace hx_0 := (HB.out.cell (bL w hx_0)).trans hx_0
   replace hx_1 := (HB.out.cell (bL w hx_1)).trans hx_1
   replace hx_2 := (HB.out.cell (bL w hx_2)).trans hx_2
   replace hx_3 := (HB.out.cell (bL w hx_3)).trans hx_3
   replace hx_4 := (HB.out.cell (bL w hx_4)).trans hx_4
   have hrd : l0.drop x8.toNat = rd_T38 l0 x8 :: l0.drop (x8.toNat + 1) := by
    rw [List.drop_eq_getElem_cons (by omega)]
    congr 1
    rw [rd_T38, List.getD_eq_getElem?_getD, List.getElem?_eq_getElem (by omega)]
    rfl
   have hn : (x8 + 1).toNat = x8.toNat + 1 := by omega
   have hw : wrap64 (x8 + 1) = x8 + 1 := by
    unfold wrap64
    omega
   have hD := HA.out
   rw [hrd] at hD
   have hone := fun (W : World) (hb : W.heap[B]? = some (.cells #[.int .i64 a0, .int .i64 a1, .int .i64 a2, .int .i64 a3, .int .i64 a4] 27 (0, 0))) => impl_FateOf_1.one (rd_T38 l0 x8) B a0 a1 a2 a3 a4 W hb
   rw [HQ.out] at hone
   have hBr := zK (bB HB0.out HB.out)
   have p8 := eq_true h0
   have q8 := eq_true c3
   by_cases hcase : q (rd_T38 l0 x8) = true
   ·rw [hcase] at hone
    have hr : (x8.toNat : Int) = r := by
     rw [← hD]
     simp [impl_FateOf_1.idx, hcase]
    have hr' : x8 = r := by omega
    subst hr'
    go_wp2_with (go_at_call 24; (with_reducible refine (hone _ (qK hBr.out)).mono ?_); rintro e w14 ⟨rfl, hb⟩; have HB := zK (bT (qB HB.out) hb); clear hb)
    go_ret
    exact ⟨rfl, by exact qB HB.out⟩
   ·rw [Bool.eq_false_iff.mpr hcase] at hone
    have hr : impl_FateOf_1.idx q (x8 + 1).toNat (l0.drop (x8 + 1).toNat) = r := by
     rw [← hD, hn]
     simp [impl_FateOf_1.idx, hcase]
    have HA' := zK hr
    clear hD HA
    go_wp2_with (go_at_call 24; (with_reducible refine (hone _ (qK hBr.out)).mono ?_); rintro e w14 ⟨rfl, hb⟩; have HB := zK (bT (qB HB.out) hb); clear hb)
    go_roundg (gk - 1)
    case measure => omega
    case rel => exact ⟨x8 + 1, (by first | rfl | rw [hw] | (simp [hw]; done)), by omega, by omega, by omega, HA', ⟨by exact qB HB.out⟩⟩
  ·have c3b0 : decide (x8 < (l0.length : Int)) = false := decide_eq_false c3
   have hr : r = -1 := by
    have := HA.out
    rw [List.drop_of_length_le (by omega)] at this
    exact this.symm
   subst hr
   go_wp2
   go_ret
   exact ⟨rfl, HB.out⟩
set_option maxHeartbeats 8000000 in
set_option maxRecDepth 100000 in
theorem impl_FateOf_1.calls (B : Nat) (A0 : Option Addr) (c0 : Nat) (l0 : List (S38)) (a0 a1 a2 a3 a4 : Int) (r : Bool) (w : World) (hr0 : Kd.C k38 w A0 l0.length l0) (hc0 : l0.length ≤ c0) (hB : w.heap[B]? = some (.cells #[.int .i64 a0, .int .i64 a1, .int .i64 a2, .int .i64 a3, .int .i64 a4] 27 (0, 0))) (h : impl_FateOf_1.f l0 a0 a1 a2 a3 a4 = some r) :
  Calls Try.prog 23 #[.slice A0 l0.length c0, .func (.func 24) #[] #[.pointer (some ⟨B, 0, none⟩)]] w fun e w' => e = .returned (.bool r) ∧ Below w.heap.size w w' := by
 obtain rfl : l0.any (impl_FateOf_1.p a0 a1 a2 a3 a4) = r := Option.some.inj h
 have HR0 := zK hr0
 have HB0 := zK hB
 have HC0 := zK hc0
 have hi := (impl_FateOf_1.idx_any (impl_FateOf_1.p a0 a1 a2 a3 a4) l0 0).symm
 clear hr0 hB hc0 h
 obtain ⟨r, hr⟩ : ∃ r, r = impl_FateOf_1.idx (impl_FateOf_1.p a0 a1 a2 a3 a4) 0 l0 := ⟨_, rfl⟩
 rw [← hr] at hi
 rw [hi]
 have R0 := zK hr.symm
 clear hr hi
 go_enter Try.func23, Try.ntmps23
 go_wp2_with (go_at_call 31; (with_reducible refine (impl_FateOf_1.at B _ _ l0 a0 a1 a2 a3 a4 _ ?side1 ?side2 ?side3).mono ?_); (case side1 => exact Kd.qC HR0.out); (case side2 => exact HC0.out); (case side3 => exact qK HB0.out); rintro e w14 ⟨rfl, hb⟩; rw [R0.out])
 go_ret
 exact ⟨by first | rfl | (simp; done), by first | exact hb | (repeat (first | exact hb | apply bA | apply bN | apply below_drew1))⟩
/-! ### impl_FateOf: function 9 -/
mutual
def impl_FateOf.j0 : Nat → Bool → Int → Int → Int → Int → Int → Int → Int → Int → Int → Int → Int → Int → Int → Option (Int)
 | 0, _, _, _, _, _, _, _, _, _, _, _, _, _, _ => none
 | k + 1, x16, x516000, x516001, x516002, x516003, x516004, x516005, x516006, x516007, x517000, x517001, x517002, x517003, x517004 => if x16 = true then (some 0) else (if x517001 = 7 then (impl_FateOf.j1 k true x516000 x516001 x516002 x516003 x516004 x516005 x516006 x516007 x517000 x517001 x517002 x517003 x517004) else (impl_FateOf.j1 k (x517004 == 0) x516000 x516001 x516002 x516003 x516004 x516005 x516006 x516007 x517000 x517001 x517002 x517003 x517004))
def impl_FateOf.j1 : Nat → Bool → Int → Int → Int → Int → Int → Int → Int → Int → Int → Int → Int → Int → Int → Option (Int)
 | 0, _, _, _, _, _, _, _, _, _, _, _, _, _, _ => none
 | k + 1, x26, x516000, x516001, x516002, x516003, x516004, x516005, x516006, x516007, x517000, x517001, x517002, x517003, x517004 => if x26 = true then (some 5) else (if x516007 = 0 then (impl_FateOf.j2 k false x517000 x517001 x517002 x517003 x517004) else (impl_FateOf.j2 k (decide (x517004 ≤ 5000)) x517000 x517001 x517002 x517003 x517004))
def impl_FateOf.j2 : Nat → Bool → Int → Int → Int → Int → Int → Option (Int)
 | 0, _, _, _, _, _, _ => none
 | k + 1, x35, x517000, x517001, x517002, x517003, x517004 => if x35 = true then (some 2) else (if x517004 > 5000 then (some 3) else (some 4))
end
def impl_FateOf.f (k : Nat) (a0_0 : Int) (a0_1 : Int) (a0_2 : Int) (a0_3 : Int) (a0_4 : Int) (a0_5 : Int) (a0_6 : Int) (a0_7 : Int) (l1 : List (S38)) (a2 : Int) : Option (Int) := (impl_FirstProved.f k l1 a0_0).bind fun t517 => (if t517 = 0 then ((impl_IsDue.f k a0_0 a0_1 a0_2 a0_3 a0_4 a0_5 a0_6 a0_7 a2).bind fun t518 => (if t518 = true then ((impl_FateOf_1.f l1 a0_0 a0_1 a0_2 a0_3 a0_4).bind fun t519 => (impl_FateOf.j0 k t519 a0_0 a0_1 a0_2 a0_3 a0_4 a0_5 a0_6 a0_7 a0_0 a0_1 a0_2 a0_3 a0_4)) else (impl_FateOf.j0 k true a0_0 a0_1 a0_2 a0_3 a0_4 a0_5 a0_6 a0_7 a0_0 a0_1 a0_2 a0_3 a0_4))) else (some 1))
set_option maxHeartbeats 8000000 in
set_option maxRecDepth 100000 in
theorem impl_FateOf.calls (k : Nat) (a0_0 : Int) (a0_1 : Int) (a0_2 : Int) (a0_3 : Int) (a0_4 : Int) (a0_5 : Int) (a0_6 : Int) (a0_7 : Int) (A1 : Option Addr) (c1 : Nat) (l1 : List (S38)) (a2 : Int) (r : Int) (w : World) (hr1 : Kd.C k38 w A1 l1.length l1) (hc1 : l1.length ≤ c1) (h : impl_FateOf.f k a0_0 a0_1 a0_2 a0_3 a0_4 a0_5 a0_6 a0_7 l1 a2 = some r) :
  Calls Try.prog 9 #[.agg #[.int .i64 a0_0, .int .i64 a0_1, .int .i64 a0_2, .int .i64 a0_3, .int .i64 a0_4, .int .i64 a0_5, .int .i64 a0_6, .int .i64 a0_7], .slice A1 l1.length c1, .int .i64 a2] w fun e w' => e = .returned (.int .i64 r) ∧ Below w.heap.size w w' := by
 have hu29 := Try.underlying29
 have hu27 := Try.underlying27
 have HR1 := zK hr1
 have HC1 := zK hc1
 clear hr1 hc1
 have HB := zK (Below.refl w.heap.size w)
 have H : ((impl_FirstProved.f k l1 a0_0).bind fun t517 => (if t517 = 0 then ((impl_IsDue.f k a0_0 a0_1 a0_2 a0_3 a0_4 a0_5 a0_6 a0_7 a2).bind fun t518 => (if t518 = true then ((impl_FateOf_1.f l1 a0_0 a0_1 a0_2 a0_3 a0_4).bind fun t519 => (impl_FateOf.j0 k t519 a0_0 a0_1 a0_2 a0_3 a0_4 a0_5 a0_6 a0_7 a0_0 a0_1 a0_2 a0_3 a0_4)) else (impl_FateOf.j0 k true a0_0 a0_1 a0_2 a0_3 a0_4 a0_5 a0_6 a0_7 a0_0 a0_1 a0_2 a0_3 a0_4))) else (some 1))) = some r := h
 clear h
 replace H := Option.bind_eq_some_iff.mp H
 obtain ⟨t517, A40, H⟩ := H
 replace H : (if t517 = 0 then ((impl_IsDue.f k a0_0 a0_1 a0_2 a0_3 a0_4 a0_5 a0_6 a0_7 a2).bind fun t518 => (if t518 = true then ((impl_FateOf_1.f l1 a0_0 a0_1 a0_2 a0_3 a0_4).bind fun t519 => (impl_FateOf.j0 k t519 a0_0 a0_1 a0_2 a0_3 a0_4 a0_5 a0_6 a0_7 a0_0 a0_1 a0_2 a0_3 a0_4)) else (impl_FateOf.j0 k true a0_0 a0_1 a0_2 a0_3 a0_4 a0_5 a0_6 a0_7 a0_0 a0_1 a0_2 a0_3 a0_4))) else (some 1)) = some r := H
 have A4 := zK A40
 clear A40
 by_cases c5 : t517 = 0
 rotate_left
 ·rw [if_neg c5] at H
  have c5b0 : (t517 == 0) = false := beq_eq_false_iff_ne.mpr c5
  have c5b1 : (t517 != 0) = true := bne_iff_ne.mpr c5
  obtain rfl := Option.some.inj H
  go_enter Try.func9, Try.ntmps9
  go_wp2_with (first | ((with_reducible refine gate_dst (N := 3) rfl ?_); refine box_event ?hg (N := 3) ?hd (cs := #[.int .i64 a0_0, .int .i64 a0_1, .int .i64 a0_2, .int .i64 a0_3, .int .i64 a0_4, .int .i64 a0_5, .int .i64 a0_6, .int .i64 a0_7]) (t := 29) ?hr ?_; (case hd => rfl); (case hg => rfl); (case hr => first | (go_simp; done) | (go_simp; rfl)); intro gb515 hg w45 hbox hb; have n0_ := zK (bT (qB HB.out) hb); have n1_ := zK (hbox); have n2_ := zK ((by rw [hg]; exact (bZ (qB HB.out)) : w.heap.size ≤ gb515)); have n3_ := zK ((by rw [hg]; exact (bZ (qB HB.out)) : w.heap.size ≤ gb515)); clear HB; have HB := n0_; have BK515 := n1_; have GW515 := n2_; have GE515 := n3_; clear n0_ n1_ n2_ n3_; clear hb hbox hg; have hcz46_0 : w45.cell? ⟨gb515, 0, none⟩ = some (.int .i64 a0_0) := (bc BK515.out 0).trans rfl; have hcz46_1 : w45.cell? ⟨gb515, 1, none⟩ = some (.int .i64 a0_1) := (bc BK515.out 1).trans rfl; have hcz46_2 : w45.cell? ⟨gb515, 2, none⟩ = some (.int .i64 a0_2) := (bc BK515.out 2).trans rfl; have hcz46_3 : w45.cell? ⟨gb515, 3, none⟩ = some (.int .i64 a0_3) := (bc BK515.out 3).trans rfl; have hcz46_4 : w45.cell? ⟨gb515, 4, none⟩ = some (.int .i64 a0_4) := (bc BK515.out 4).trans rfl; have hcz46_5 : w45.cell? ⟨gb515, 5, none⟩ = some (.int .i64 a0_5) := (bc BK515.out 5).trans rfl; have hcz46_6 : w45.cell? ⟨gb515, 6, none⟩ = some (.int .i64 a0_6) := (bc BK515.out 6).trans rfl; have hcz46_7 : w45.cell? ⟨gb515, 7, none⟩ = some (.int .i64 a0_7) := (bc BK515.out 7).trans rfl; have hfz46_0 := bf BK515.out 0; have hfz46_1 := bf BK515.out 1; have hfz46_2 := bf BK515.out 2; have hfz46_3 := bf BK515.out 3; have hfz46_4 := bf BK515.out 4; have hfz46_5 := bf BK515.out 5; have hfz46_6 := bf BK515.out 6; have hfz46_7 := bf BK515.out 7) | ((with_reducible refine gate_dst (N := 7) rfl ?_); refine box_event ?hg (N := 7) ?hd (cs := #[.int .i64 0, .int .i64 0, .int .i64 0, .int .i64 0, .int .i64 0]) (t := 27) ?hr ?_; (case hd => rfl); (case hg => rfl); (case hr => first | (go_simp; done) | (go_simp; rfl)); intro gb516 hg w47 hbox hb; have n0_ := zK (bB (g := gb515) (o := .cells #[.int .i64 a0_0, .int .i64 a0_1, .int .i64 a0_2, .int .i64 a0_3, .int .i64 a0_4, .int .i64 a0_5, .int .i64 a0_6, .int .i64 a0_7] 29 (0, 0)) (qK BK515.out) hb); have n1_ := zK (bT m25 hb); have n2_ := zK (hbox); have n3_ := zK ((by rw [hg]; exact (bZ m25) : w.heap.size ≤ gb516)); have n4_ := zK ((by rw [hg]; exact (bZ m25) : w.heap.size ≤ gb516)); have n5_ := zK ((by rw [hg]; exact Nat.ne_of_lt (blk_lt (g := gb515) (o := .cells #[.int .i64 a0_0, .int .i64 a0_1, .int .i64 a0_2, .int .i64 a0_3, .int .i64 a0_4, .int .i64 a0_5, .int .i64 a0_6, .int .i64 a0_7] 29 (0, 0)) (qK BK515.out)) : gb515 ≠ gb516)); have n6_ := zK ((by rw [hg]; exact Nat.ne_of_gt (blk_lt (g := gb515) (o := .cells #[.int .i64 a0_0, .int .i64 a0_1, .int .i64 a0_2, .int .i64 a0_3, .int .i64 a0_4, .int .i64 a0_5, .int .i64 a0_6, .int .i64 a0_7] 29 (0, 0)) (qK BK515.out)) : gb516 ≠ gb515)); clear BK515; clear HB; have BK515 := n0_; have HB := n1_; have BK516 := n2_; have GW516 := n3_; have GE516 := n4_; have NB515_516 := n5_; have NB516_515 := n6_; clear n0_ n1_ n2_ n3_ n4_ n5_ n6_; clear hb hbox hg; have hnb48 := NB516_515.out; have hnc48 := NB515_516.out; have hcz49_0 : w47.cell? ⟨gb516, 0, none⟩ = some (.int .i64 0) := (bc BK516.out 0).trans rfl; have hcz49_1 : w47.cell? ⟨gb516, 1, none⟩ = some (.int .i64 0) := (bc BK516.out 1).trans rfl; have hcz49_2 : w47.cell? ⟨gb516, 2, none⟩ = some (.int .i64 0) := (bc BK516.out 2).trans rfl; have hcz49_3 : w47.cell? ⟨gb516, 3, none⟩ = some (.int .i64 0) := (bc BK516.out 3).trans rfl; have hcz49_4 : w47.cell? ⟨gb516, 4, none⟩ = some (.int .i64 0) := (bc BK516.out 4).trans rfl; have hfz49_0 := bf BK516.out 0; have hfz49_1 := bf BK516.out 1; have hfz49_2 := bf BK516.out 2; have hfz49_3 := bf BK516.out 3; have hfz49_4 := bf BK516.out 4) | ((with_reducible refine gate_callee (f := 10) rfl ?_); refine goesL_ (some 14) rfl rfl Try.func10 (by kernel_rfl) rfl #[.slice A1 l1.length c1, .int .i64 a0_0] rfl m0 ?_; (with_reducible refine (impl_FirstProved.calls k _ _ l1 a0_0 t517 _ ?side1 ?side2 A4.out).mono ?_); (case side1 => exact Kd.C_below HR1.out m20); (case side2 => exact HC1.out); rintro e w50 ⟨rfl, hb⟩; refine ⟨_, rfl, ?_⟩; have n0_ := zK (bB (g := gb515) (o := .cells #[.int .i64 a0_0, .int .i64 a0_1, .int .i64 a0_2, .int .i64 a0_3, .int .i64 a0_4, .int .i64 a0_5, .int .i64 a0_6, .int .i64 a0_7] 29 (0, 0)) m18 hb); have n1_ := zK (bB (g := gb516) (o := .cells #[.int .i64 a0_0, .int .i64 a0_1, .int .i64 a0_2, .int .i64 a0_3, .int .i64 a0_4] 27 (0, 0)) m16 hb); have n2_ := zK (bT m20 hb); clear BK515; clear BK516; clear HB; have BK515 := n0_; have BK516 := n1_; have HB := n2_; clear n0_ n1_ n2_; (try clear hb); (try clear hb2); (try clear hk); (try clear hi)))
  go_ret
  exact ⟨by first | rfl | (simp [errW_none, errW_some] <;> rfl) | (simp [*, errW_none, errW_some] <;> rfl), by repeat (first | (with_reducible first | exact HB.out | apply bA | apply bN | apply below_drew1 | refine bS ?_ GE515.out | refine bS ?_ GE516.out) | exact HB.out)⟩

 rw [if_pos c5] at H
 have c5b0 : (t517 == 0) = true := beq_iff_eq.mpr c5
 have c5b1 : (t517 != 0) = false := bne_eq_false_iff_eq.mpr c5
 clear c5
 have HC6 := zK H
 clear H
 go_enter Try.func9, Try.ntmps9
 go_upto_region 4 with (first | ((with_reducible refine gate_dst (N := 3) rfl ?_); refine box_event ?hg (N := 3) ?hd (cs := #[.int .i64 a0_0, .int .i64 a0_1, .int .i64 a0_2, .int .i64 a0_3, .int .i64 a0_4, .int .i64 a0_5, .int .i64 a0_6, .int .i64 a0_7]) (t := 29) ?hr ?_; (case hd => rfl); (case hg => rfl); (case hr => first | (go_simp; done) | (go_simp; rfl)); intro gb515 hg w7 hbox hb; have n0_ := zK (bT (qB HB.out) hb); have n1_ := zK (hbox); have n2_ := zK ((by rw [hg]; exact (bZ (qB HB.out)) : w.heap.size ≤ gb515)); have n3_ := zK ((by rw [hg]; exact (bZ (qB HB.out)) : w.heap.size ≤ gb515)); clear HB; have HB := n0_; have BK515 := n1_; have GW515 := n2_; have GE515 := n3_; clear n0_ n1_ n2_ n3_; clear hb hbox hg; have hcz8_0 : w7.cell? ⟨gb515, 0, none⟩ = some (.int .i64 a0_0) := (bc BK515.out 0).trans rfl; have hcz8_1 : w7.cell? ⟨gb515, 1, none⟩ = some (.int .i64 a0_1) := (bc BK515.out 1).trans rfl; have hcz8_2 : w7.cell? ⟨gb515, 2, none⟩ = some (.int .i64 a0_2) := (bc BK515.out 2).trans rfl; have hcz8_3 : w7.cell? ⟨gb515, 3, none⟩ = some (.int .i64 a0_3) := (bc BK515.out 3).trans rfl; have hcz8_4 : w7.cell? ⟨gb515, 4, none⟩ = some (.int .i64 a0_4) := (bc BK515.out 4).trans rfl; have hcz8_5 : w7.cell? ⟨gb515, 5, none⟩ = some (.int .i64 a0_5) := (bc BK515.out 5).trans rfl; have hcz8_6 : w7.cell? ⟨gb515, 6, none⟩ = some (.int .i64 a0_6) := (bc BK515.out 6).trans rfl; have hcz8_7 : w7.cell? ⟨gb515, 7, none⟩ = some (.int .i64 a0_7) := (bc BK515.out 7).trans rfl; have hfz8_0 := bf BK515.out 0; have hfz8_1 := bf BK515.out 1; have hfz8_2 := bf BK515.out 2; have hfz8_3 := bf BK515.out 3; have hfz8_4 := bf BK515.out 4; have hfz8_5 := bf BK515.out 5; have hfz8_6 := bf BK515.out 6; have hfz8_7 := bf BK515.out 7) | ((with_reducible refine gate_dst (N := 7) rfl ?_); refine box_event ?hg (N := 7) ?hd (cs := #[.int .i64 0, .int .i64 0, .int .i64 0, .int .i64 0, .int .i64 0]) (t := 27) ?hr ?_; (case hd => rfl); (case hg => rfl); (case hr => first | (go_simp; done) | (go_simp; rfl)); intro gb516 hg w9 hbox hb; have n0_ := zK (bB (g := gb515) (o := .cells #[.int .i64 a0_0, .int .i64 a0_1, .int .i64 a0_2, .int .i64 a0_3, .int .i64 a0_4, .int .i64 a0_5, .int .i64 a0_6, .int .i64 a0_7] 29 (0, 0)) (qK BK515.out) hb); have n1_ := zK (bT m25 hb); have n2_ := zK (hbox); have n3_ := zK ((by rw [hg]; exact (bZ m25) : w.heap.size ≤ gb516)); have n4_ := zK ((by rw [hg]; exact (bZ m25) : w.heap.size ≤ gb516)); have n5_ := zK ((by rw [hg]; exact Nat.ne_of_lt (blk_lt (g := gb515) (o := .cells #[.int .i64 a0_0, .int .i64 a0_1, .int .i64 a0_2, .int .i64 a0_3, .int .i64 a0_4, .int .i64 a0_5, .int .i64 a0_6, .int .i64 a0_7] 29 (0, 0)) (qK BK515.out)) : gb515 ≠ gb516)); have n6_ := zK ((by rw [hg]; exact Nat.ne_of_gt (blk_lt (g := gb515) (o := .cells #[.int .i64 a0_0, .int .i64 a0_1, .int .i64 a0_2, .int .i64 a0_3, .int .i64 a0_4, .int .i64 a0_5, .int .i64 a0_6, .int .i64 a0_7] 29 (0, 0)) (qK BK515.out)) : gb516 ≠ gb515)); clear BK515; clear HB; have BK515 := n0_; have HB := n1_; have BK516 := n2_; have GW516 := n3_; have GE516 := n4_; have NB515_516 := n5_; have NB516_515 := n6_; clear n0_ n1_ n2_ n3_ n4_ n5_ n6_; clear hb hbox hg; have hnb10 := NB516_515.out; have hnc10 := NB515_516.out; have hcz11_0 : w9.cell? ⟨gb516, 0, none⟩ = some (.int .i64 0) := (bc BK516.out 0).trans rfl; have hcz11_1 : w9.cell? ⟨gb516, 1, none⟩ = some (.int .i64 0) := (bc BK516.out 1).trans rfl; have hcz11_2 : w9.cell? ⟨gb516, 2, none⟩ = some (.int .i64 0) := (bc BK516.out 2).trans rfl; have hcz11_3 : w9.cell? ⟨gb516, 3, none⟩ = some (.int .i64 0) := (bc BK516.out 3).trans rfl; have hcz11_4 : w9.cell? ⟨gb516, 4, none⟩ = some (.int .i64 0) := (bc BK516.out 4).trans rfl; have hfz11_0 := bf BK516.out 0; have hfz11_1 := bf BK516.out 1; have hfz11_2 := bf BK516.out 2; have hfz11_3 := bf BK516.out 3; have hfz11_4 := bf BK516.out 4) | ((with_reducible refine gate_callee (f := 10) rfl ?_); refine goesL_ (some 14) rfl rfl Try.func10 (by kernel_rfl) rfl #[.slice A1 l1.length c1, .int .i64 a0_0] rfl m0 ?_; (with_reducible refine (impl_FirstProved.calls k _ _ l1 a0_0 t517 _ ?side1 ?side2 A4.out).mono ?_); (case side1 => exact Kd.C_below HR1.out m20); (case side2 => exact HC1.out); rintro e w12 ⟨rfl, hb⟩; refine ⟨_, rfl, ?_⟩; have n0_ := zK (bB (g := gb515) (o := .cells #[.int .i64 a0_0, .int .i64 a0_1, .int .i64 a0_2, .int .i64 a0_3, .int .i64 a0_4, .int .i64 a0_5, .int .i64 a0_6, .int .i64 a0_7] 29 (0, 0)) m18 hb); have n1_ := zK (bB (g := gb516) (o := .cells #[.int .i64 a0_0, .int .i64 a0_1, .int .i64 a0_2, .int .i64 a0_3, .int .i64 a0_4] 27 (0, 0)) m16 hb); have n2_ := zK (bT m20 hb); clear BK515; clear BK516; clear HB; have BK515 := n0_; have BK516 := n1_; have HB := n2_; clear n0_ n1_ n2_; (try clear hb); (try clear hb2); (try clear hk); (try clear hi)))
 (try simp only [Act.put, sA, sZ, sS])
 go_cut [16] (fun v16 wc => ∃ (kq : Nat) (x16_5 : Bool), v16 = .bool x16_5 ∧ Aside0 (impl_FateOf.j0 kq x16_5 a0_0 a0_1 a0_2 a0_3 a0_4 a0_5 a0_6 a0_7 a0_0 a0_1 a0_2 a0_3 a0_4 = some r) ∧ Aside0 (kq ≤ k) ∧ Aside0 (wc.heap[gb515]? = some (.cells #[.int .i64 a0_0, .int .i64 a0_1, .int .i64 a0_2, .int .i64 a0_3, .int .i64 a0_4, .int .i64 a0_5, .int .i64 a0_6, .int .i64 a0_7] 29 (0, 0))) ∧ Aside0 (wc.heap[gb516]? = some (.cells #[.int .i64 a0_0, .int .i64 a0_1, .int .i64 a0_2, .int .i64 a0_3, .int .i64 a0_4] 27 (0, 0))) ∧ Aside0 (Below w.heap.size w wc))
 case first =>
  have H := HC6.out
  clear HC6
  replace H := Option.bind_eq_some_iff.mp H
  obtain ⟨t518, A130, H⟩ := H
  replace H : (if t518 = true then ((impl_FateOf_1.f l1 a0_0 a0_1 a0_2 a0_3 a0_4).bind fun t519 => (impl_FateOf.j0 k t519 a0_0 a0_1 a0_2 a0_3 a0_4 a0_5 a0_6 a0_7 a0_0 a0_1 a0_2 a0_3 a0_4)) else (impl_FateOf.j0 k true a0_0 a0_1 a0_2 a0_3 a0_4 a0_5 a0_6 a0_7 a0_0 a0_1 a0_2 a0_3 a0_4)) = some r := H
  have A13 := zK A130
  clear A130
  by_cases c14 : t518 = true
  rotate_left
  ·replace c14 := Bool.eq_false_iff.mpr c14
   subst c14
   have H1 : (impl_FateOf.j0 k true a0_0 a0_1 a0_2 a0_3 a0_4 a0_5 a0_6 a0_7 a0_0 a0_1 a0_2 a0_3 a0_4) = some r := by rw [if_neg (show ¬ (false = true) by decide)] at H; exact H
   clear H
   have H := H1
   clear H1
   have H' := zK H
   clear H
   have hnb21 := NB515_516.out
   have hnc21 := NB516_515.out
   have hcz22_0 : w12.cell? ⟨gb515, 0, none⟩ = some (.int .i64 a0_0) := (bc BK515.out 0).trans rfl
   have hcz22_1 : w12.cell? ⟨gb515, 1, none⟩ = some (.int .i64 a0_1) := (bc BK515.out 1).trans rfl
   have hcz22_2 : w12.cell? ⟨gb515, 2, none⟩ = some (.int .i64 a0_2) := (bc BK515.out 2).trans rfl
   have hcz22_3 : w12.cell? ⟨gb515, 3, none⟩ = some (.int .i64 a0_3) := (bc BK515.out 3).trans rfl
   have hcz22_4 : w12.cell? ⟨gb515, 4, none⟩ = some (.int .i64 a0_4) := (bc BK515.out 4).trans rfl
   have hcz22_5 : w12.cell? ⟨gb515, 5, none⟩ = some (.int .i64 a0_5) := (bc BK515.out 5).trans rfl
   have hcz22_6 : w12.cell? ⟨gb515, 6, none⟩ = some (.int .i64 a0_6) := (bc BK515.out 6).trans rfl
   have hcz22_7 : w12.cell? ⟨gb515, 7, none⟩ = some (.int .i64 a0_7) := (bc BK515.out 7).trans rfl
   have hfz22_0 := bf BK515.out 0
   have hfz22_1 := bf BK515.out 1
   have hfz22_2 := bf BK515.out 2
   have hfz22_3 := bf BK515.out 3
   have hfz22_4 := bf BK515.out 4
   have hfz22_5 := bf BK515.out 5
   have hfz22_6 := bf BK515.out 6
   have hfz22_7 := bf BK515.out 7
   go_wp2_with (first | ((with_reducible refine gate_callee (f := 12) rfl ?_); refine goesL_ (some 19) rfl rfl Try.func12 (by kernel_rfl) rfl #[.agg #[.int .i64 a0_0, .int .i64 a0_1, .int .i64 a0_2, .int .i64 a0_3, .int .i64 a0_4, .int .i64 a0_5, .int .i64 a0_6, .int .i64 a0_7], .int .i64 a2] rfl m0 ?_; (with_reducible refine (impl_IsDue.calls k a0_0 a0_1 a0_2 a0_3 a0_4 a0_5 a0_6 a0_7 a2 false _ A13.out).mono ?_); rintro e w23 ⟨rfl, hb⟩; refine ⟨_, rfl, ?_⟩; have n0_ := zK (bB (g := gb515) (o := .cells #[.int .i64 a0_0, .int .i64 a0_1, .int .i64 a0_2, .int .i64 a0_3, .int .i64 a0_4, .int .i64 a0_5, .int .i64 a0_6, .int .i64 a0_7] 29 (0, 0)) (qK BK515.out) hb); have n1_ := zK (bB (g := gb516) (o := .cells #[.int .i64 a0_0, .int .i64 a0_1, .int .i64 a0_2, .int .i64 a0_3, .int .i64 a0_4] 27 (0, 0)) (qK BK516.out) hb); have n2_ := zK (bT m20 hb); clear BK515; clear BK516; clear HB; have BK515 := n0_; have BK516 := n1_; have HB := n2_; clear n0_ n1_ n2_; (try clear hb); (try clear hb2); (try clear hk); (try clear hi)))
   go_meet
   case rel => exact ⟨_, (true), m9, H', ⟨by first | omega | exact Nat.le_refl _⟩, ⟨by exact qK BK515.out⟩, ⟨by exact qK BK516.out⟩, ⟨by repeat (first | (with_reducible first | exact HB.out | apply bA | apply bN | apply below_drew1 | refine bS ?_ GE515.out | refine bS ?_ GE516.out) | exact HB.out)⟩⟩
  subst c14
  have H1 : ((impl_FateOf_1.f l1 a0_0 a0_1 a0_2 a0_3 a0_4).bind fun t519 => (impl_FateOf.j0 k t519 a0_0 a0_1 a0_2 a0_3 a0_4 a0_5 a0_6 a0_7 a0_0 a0_1 a0_2 a0_3 a0_4)) = some r := by rw [if_pos rfl] at H; exact H
  clear H
  have H := H1
  clear H1
  replace H := Option.bind_eq_some_iff.mp H
  obtain ⟨t519, A150, H⟩ := H
  replace H : (impl_FateOf.j0 k t519 a0_0 a0_1 a0_2 a0_3 a0_4 a0_5 a0_6 a0_7 a0_0 a0_1 a0_2 a0_3 a0_4) = some r := H
  have A15 := zK A150
  clear A150
  have H' := zK H
  clear H
  have hnb16 := NB515_516.out
  have hnc16 := NB516_515.out
  have hcz17_0 : w12.cell? ⟨gb515, 0, none⟩ = some (.int .i64 a0_0) := (bc BK515.out 0).trans rfl
  have hcz17_1 : w12.cell? ⟨gb515, 1, none⟩ = some (.int .i64 a0_1) := (bc BK515.out 1).trans rfl
  have hcz17_2 : w12.cell? ⟨gb515, 2, none⟩ = some (.int .i64 a0_2) := (bc BK515.out 2).trans rfl
  have hcz17_3 : w12.cell? ⟨gb515, 3, none⟩ = some (.int .i64 a0_3) := (bc BK515.out 3).trans rfl
  have hcz17_4 : w12.cell? ⟨gb515, 4, none⟩ = some (.int .i64 a0_4) := (bc BK515.out 4).trans rfl
  have hcz17_5 : w12.cell? ⟨gb515, 5, none⟩ = some (.int .i64 a0_5) := (bc BK515.out 5).trans rfl
  have hcz17_6 : w12.cell? ⟨gb515, 6, none⟩ = some (.int .i64 a0_6) := (bc BK515.out 6).trans rfl
  have hcz17_7 : w12.cell? ⟨gb515, 7, none⟩ = some (.int .i64 a0_7) := (bc BK515.out 7).trans rfl
  have hfz17_0 := bf BK515.out 0
  have hfz17_1 := bf BK515.out 1
  have hfz17_2 := bf BK515.out 2
  have hfz17_3 := bf BK515.out 3
  have hfz17_4 := bf BK515.out 4
  have hfz17_5 := bf BK515.out 5
  have hfz17_6 := bf BK515.out 6
  have hfz17_7 := bf BK515.out 7
  go_wp2_with (first | ((with_reducible refine gate_callee (f := 12) rfl ?_); refine goesL_ (some 19) rfl rfl Try.func12 (by kernel_rfl) rfl #[.agg #[.int .i64 a0_0, .int .i64 a0_1, .int .i64 a0_2, .int .i64 a0_3, .int .i64 a0_4, .int .i64 a0_5, .int .i64 a0_6, .int .i64 a0_7], .int .i64 a2] rfl m0 ?_; (with_reducible refine (impl_IsDue.calls k a0_0 a0_1 a0_2 a0_3 a0_4 a0_5 a0_6 a0_7 a2 true _ A13.out).mono ?_); rintro e w18 ⟨rfl, hb⟩; refine ⟨_, rfl, ?_⟩; have n0_ := zK (bB (g := gb515) (o := .cells #[.int .i64 a0_0, .int .i64 a0_1, .int .i64 a0_2, .int .i64 a0_3, .int .i64 a0_4, .int .i64 a0_5, .int .i64 a0_6, .int .i64 a0_7] 29 (0, 0)) (qK BK515.out) hb); have n1_ := zK (bB (g := gb516) (o := .cells #[.int .i64 a0_0, .int .i64 a0_1, .int .i64 a0_2, .int .i64 a0_3, .int .i64 a0_4] 27 (0, 0)) (qK BK516.out) hb); have n2_ := zK (bT m20 hb); clear BK515; clear BK516; clear HB; have BK515 := n0_; have BK516 := n1_; have HB := n2_; clear n0_ n1_ n2_; (try clear hb); (try clear hb2); (try clear hk); (try clear hi); have hcz19_0 : w18.cell? ⟨gb516, 0, none⟩ = some (.int .i64 a0_0) := (bc BK516.out 0).trans rfl; have hcz19_1 : w18.cell? ⟨gb516, 1, none⟩ = some (.int .i64 a0_1) := (bc BK516.out 1).trans rfl; have hcz19_2 : w18.cell? ⟨gb516, 2, none⟩ = some (.int .i64 a0_2) := (bc BK516.out 2).trans rfl; have hcz19_3 : w18.cell? ⟨gb516, 3, none⟩ = some (.int .i64 a0_3) := (bc BK516.out 3).trans rfl; have hcz19_4 : w18.cell? ⟨gb516, 4, none⟩ = some (.int .i64 a0_4) := (bc BK516.out 4).trans rfl; have hfz19_0 := bf BK516.out 0; have hfz19_1 := bf BK516.out 1; have hfz19_2 := bf BK516.out 2; have hfz19_3 := bf BK516.out 3; have hfz19_4 := bf BK516.out 4) | (go_at_call 23; (with_reducible refine (impl_FateOf_1.calls _ _ _ l1 a0_0 a0_1 a0_2 a0_3 a0_4 t519 _ ?side1 ?side2 ?side3 A15.out).mono ?_); (case side1 => exact Kd.qC (Kd.C_below HR1.out HB.out)); (case side2 => exact HC1.out); (case side3 => (with_reducible repeat (first | refine kN ?_ _ | refine kD ?_ | refine kA ?_ _)); first | exact BK515.out | exact BK516.out); rintro e w20 ⟨rfl, hb⟩; have n0_ := zK (bB (g := gb515) (o := .cells #[.int .i64 a0_0, .int .i64 a0_1, .int .i64 a0_2, .int .i64 a0_3, .int .i64 a0_4, .int .i64 a0_5, .int .i64 a0_6, .int .i64 a0_7] 29 (0, 0)) (qK BK515.out) hb); have n1_ := zK (bB (g := gb516) (o := .cells #[.int .i64 a0_0, .int .i64 a0_1, .int .i64 a0_2, .int .i64 a0_3, .int .i64 a0_4] 27 (0, 0)) (qK BK516.out) hb); have n2_ := zK (bT m20 hb); clear BK515; clear BK516; clear HB; have BK515 := n0_; have BK516 := n1_; have HB := n2_; clear n0_ n1_ n2_; (try clear hb); (try clear hb2); (try clear hk); (try clear hi)))
  go_meet
  case rel => exact ⟨_, (t519), m9, H', ⟨by first | omega | exact Nat.le_refl _⟩, ⟨by exact qK BK515.out⟩, ⟨by exact qK BK516.out⟩, ⟨by repeat (first | (with_reducible first | exact HB.out | apply bA | apply bN | apply below_drew1 | refine bS ?_ GE515.out | refine bS ?_ GE516.out) | exact HB.out)⟩⟩
 case rest =>
  clear HC6
  try clear c1
  try clear c2
  try clear p2
  try clear c5
  try clear c5b0
  try clear c5b1
  try clear c9
  try clear c10
  try clear c12
  try clear c14
  try clear c16
  try clear c21
  try clear hcz11_0
  try clear hcz11_1
  try clear hcz11_2
  try clear hcz11_3
  try clear hcz11_4
  try clear hcz17_0
  try clear hcz17_1
  try clear hcz17_2
  try clear hcz17_3
  try clear hcz17_4
  try clear hcz17_5
  try clear hcz17_6
  try clear hcz17_7
  try clear hcz19_0
  try clear hcz19_1
  try clear hcz19_2
  try clear hcz19_3
  try clear hcz19_4
  try clear hcz22_0
  try clear hcz22_1
  try clear hcz22_2
  try clear hcz22_3
  try clear hcz22_4
  try clear hcz22_5
  try clear hcz22_6
  try clear hcz22_7
  try clear hcz8_0
  try clear hcz8_1
  try clear hcz8_2
  try clear hcz8_3
  try clear hcz8_4
  try clear hcz8_5
  try clear hcz8_6
  try clear hcz8_7
  try clear hfz11_0
  try clear hfz11_1
  try clear hfz11_2
  try clear hfz11_3
  try clear hfz11_4
  try clear hfz17_0
  try clear hfz17_1
  try clear hfz17_2
  try clear hfz17_3
  try clear hfz17_4
  try clear hfz17_5
  try clear hfz17_6
  try clear hfz17_7
  try clear hfz19_0
  try clear hfz19_1
  try clear hfz19_2
  try clear hfz19_3
  try clear hfz19_4
  try clear hfz22_0
  try clear hfz22_1
  try clear hfz22_2
  try clear hfz22_3
  try clear hfz22_4
  try clear hfz22_5
  try clear hfz22_6
  try clear hfz22_7
  try clear hfz8_0
  try clear hfz8_1
  try clear hfz8_2
  try clear hfz8_3
  try clear hfz8_4
  try clear hfz8_5
  try clear hfz8_6
  try clear hfz8_7
  obtain ⟨kq, x16_5, rfl, HA, HJ5, BK515, BK516, HB⟩ := hcut
  cases kq with
  | zero => exact absurd HA.out (by simp [impl_FateOf.j0])
  | succ kj5 =>
   have H := HA.out
   clear HA
   simp only [impl_FateOf.j0] at H
   by_cases c24 : x16_5 = true
   ·subst c24
    have H1 : (some 0) = some r := by rw [if_pos rfl] at H; exact H
    clear H
    have H := H1
    clear H1
    obtain rfl := Option.some.inj H
    go_wp2
    go_ret
    exact ⟨by first | rfl | (simp [errW_none, errW_some] <;> rfl) | (simp [*, errW_none, errW_some] <;> rfl), by repeat (first | (with_reducible first | exact HB.out | apply bA | apply bN | apply below_drew1 | refine bS ?_ GE515.out | refine bS ?_ GE516.out) | exact HB.out)⟩
   replace c24 := Bool.eq_false_iff.mpr c24
   subst c24
   have H1 : (if a0_1 = 7 then (impl_FateOf.j1 kj5 true a0_0 a0_1 a0_2 a0_3 a0_4 a0_5 a0_6 a0_7 a0_0 a0_1 a0_2 a0_3 a0_4) else (impl_FateOf.j1 kj5 (a0_4 == 0) a0_0 a0_1 a0_2 a0_3 a0_4 a0_5 a0_6 a0_7 a0_0 a0_1 a0_2 a0_3 a0_4)) = some r := by rw [if_neg (show ¬ (false = true) by decide)] at H; exact H
   clear H
   have H := H1
   clear H1
   have HC25 := zK H
   clear H
   go_upto_region 6 with (fail)
   go_cut [26] (fun v26 wc => ∃ (kq : Nat) (x26_24 : Bool), v26 = .bool x26_24 ∧ Aside0 (impl_FateOf.j1 kq x26_24 a0_0 a0_1 a0_2 a0_3 a0_4 a0_5 a0_6 a0_7 a0_0 a0_1 a0_2 a0_3 a0_4 = some r) ∧ Aside0 (kq ≤ kj5) ∧ Aside0 (wc.heap[gb515]? = some (.cells #[.int .i64 a0_0, .int .i64 a0_1, .int .i64 a0_2, .int .i64 a0_3, .int .i64 a0_4, .int .i64 a0_5, .int .i64 a0_6, .int .i64 a0_7] 29 (0, 0))) ∧ Aside0 (wc.heap[gb516]? = some (.cells #[.int .i64 a0_0, .int .i64 a0_1, .int .i64 a0_2, .int .i64 a0_3, .int .i64 a0_4] 27 (0, 0))) ∧ Aside0 (Below w.heap.size w wc))
   case first =>
    have H := HC25.out
    clear HC25
    by_cases c26 : a0_1 = 7
    rotate_left
    ·rw [if_neg c26] at H
     have c26b0 : (a0_1 == 7) = false := beq_eq_false_iff_ne.mpr c26
     have c26b1 : (a0_1 != 7) = true := bne_iff_ne.mpr c26
     (first | rw [c26b0] | rw [c26b1] | (simp only [i64_w, i32_w]; rw [c26b0]) | skip)
     have H' := zK H
     clear H
     have hnb29 := NB516_515.out
     have hnc29 := NB515_516.out
     have hcz30_0 : wc.cell? ⟨gb516, 0, none⟩ = some (.int .i64 a0_0) := (bc BK516.out 0).trans rfl
     have hcz30_1 : wc.cell? ⟨gb516, 1, none⟩ = some (.int .i64 a0_1) := (bc BK516.out 1).trans rfl
     have hcz30_2 : wc.cell? ⟨gb516, 2, none⟩ = some (.int .i64 a0_2) := (bc BK516.out 2).trans rfl
     have hcz30_3 : wc.cell? ⟨gb516, 3, none⟩ = some (.int .i64 a0_3) := (bc BK516.out 3).trans rfl
     have hcz30_4 : wc.cell? ⟨gb516, 4, none⟩ = some (.int .i64 a0_4) := (bc BK516.out 4).trans rfl
     have hfz30_0 := bf BK516.out 0
     have hfz30_1 := bf BK516.out 1
     have hfz30_2 := bf BK516.out 2
     have hfz30_3 := bf BK516.out 3
     have hfz30_4 := bf BK516.out 4
     go_wp2
     go_meet
     case rel => exact ⟨_, ((a0_4 == 0)), m9, H', ⟨by have := HJ5.out; first | omega | exact Nat.le_refl _⟩, ⟨by exact qK BK515.out⟩, ⟨by exact qK BK516.out⟩, ⟨by repeat (first | (with_reducible first | exact HB.out | apply bA | apply bN | apply below_drew1 | refine bS ?_ GE515.out | refine bS ?_ GE516.out) | exact HB.out)⟩⟩
    rw [if_pos c26] at H
    have c26b0 : (a0_1 == 7) = true := beq_iff_eq.mpr c26
    have c26b1 : (a0_1 != 7) = false := bne_eq_false_iff_eq.mpr c26
    clear c26
    (first | rw [c26b0] | rw [c26b1] | (simp only [i64_w, i32_w]; rw [c26b0]) | skip)
    have H' := zK H
    clear H
    have hnb27 := NB516_515.out
    have hnc27 := NB515_516.out
    have hcz28_0 : wc.cell? ⟨gb516, 0, none⟩ = some (.int .i64 a0_0) := (bc BK516.out 0).trans rfl
    have hcz28_1 : wc.cell? ⟨gb516, 1, none⟩ = some (.int .i64 a0_1) := (bc BK516.out 1).trans rfl
    have hcz28_2 : wc.cell? ⟨gb516, 2, none⟩ = some (.int .i64 a0_2) := (bc BK516.out 2).trans rfl
    have hcz28_3 : wc.cell? ⟨gb516, 3, none⟩ = some (.int .i64 a0_3) := (bc BK516.out 3).trans rfl
    have hcz28_4 : wc.cell? ⟨gb516, 4, none⟩ = some (.int .i64 a0_4) := (bc BK516.out 4).trans rfl
    have hfz28_0 := bf BK516.out 0
    have hfz28_1 := bf BK516.out 1
    have hfz28_2 := bf BK516.out 2
    have hfz28_3 := bf BK516.out 3
    have hfz28_4 := bf BK516.out 4
    go_wp2
    go_meet
    case rel => exact ⟨_, (true), m9, H', ⟨by have := HJ5.out; first | omega | exact Nat.le_refl _⟩, ⟨by exact qK BK515.out⟩, ⟨by exact qK BK516.out⟩, ⟨by repeat (first | (with_reducible first | exact HB.out | apply bA | apply bN | apply below_drew1 | refine bS ?_ GE515.out | refine bS ?_ GE516.out) | exact HB.out)⟩⟩
   case rest =>
    clear HC25
    try clear c1
    try clear c2
    try clear p2
    try clear c5
    try clear c5b0
    try clear c5b1
    try clear c9
    try clear c10
    try clear c12
    try clear c14
    try clear c16
    try clear c21
    try clear c24
    try clear c26
    try clear c26b0
    try clear c26b1
    try clear c27
    try clear c29
    try clear hcz11_0
    try clear hcz11_1
    try clear hcz11_2
    try clear hcz11_3
    try clear hcz11_4
    try clear hcz17_0
    try clear hcz17_1
    try clear hcz17_2
    try clear hcz17_3
    try clear hcz17_4
    try clear hcz17_5
    try clear hcz17_6
    try clear hcz17_7
    try clear hcz19_0
    try clear hcz19_1
    try clear hcz19_2
    try clear hcz19_3
    try clear hcz19_4
    try clear hcz22_0
    try clear hcz22_1
    try clear hcz22_2
    try clear hcz22_3
    try clear hcz22_4
    try clear hcz22_5
    try clear hcz22_6
    try clear hcz22_7
    try clear hcz28_0
    try clear hcz28_1
    try clear hcz28_2
    try clear hcz28_3
    try clear hcz28_4
    try clear hcz30_0
    try clear hcz30_1
    try clear hcz30_2
    try clear hcz30_3
    try clear hcz30_4
    try clear hcz8_0
    try clear hcz8_1
    try clear hcz8_2
    try clear hcz8_3
    try clear hcz8_4
    try clear hcz8_5
    try clear hcz8_6
    try clear hcz8_7
    try clear hfz11_0
    try clear hfz11_1
    try clear hfz11_2
    try clear hfz11_3
    try clear hfz11_4
    try clear hfz17_0
    try clear hfz17_1
    try clear hfz17_2
    try clear hfz17_3
    try clear hfz17_4
    try clear hfz17_5
    try clear hfz17_6
    try clear hfz17_7
    try clear hfz19_0
    try clear hfz19_1
    try clear hfz19_2
    try clear hfz19_3
    try clear hfz19_4
    try clear hfz22_0
    try clear hfz22_1
    try clear hfz22_2
    try clear hfz22_3
    try clear hfz22_4
    try clear hfz22_5
    try clear hfz22_6
    try clear hfz22_7
    try clear hfz28_0
    try clear hfz28_1
    try clear hfz28_2
    try clear hfz28_3
    try clear hfz28_4
    try clear hfz30_0
    try clear hfz30_1
    try clear hfz30_2
    try clear hfz30_3
    try clear hfz30_4
    try clear hfz8_0
    try clear hfz8_1
    try clear hfz8_2
    try clear hfz8_3
    try clear hfz8_4
    try clear hfz8_5
    try clear hfz8_6
    try clear hfz8_7
    try clear p2
    obtain ⟨kq, x26_24, rfl, HA, HJ24, BK515, BK516, HB⟩ := hcut
    cases kq with
    | zero => exact absurd HA.out (by simp [impl_FateOf.j1])
    | succ kj24 =>
     have H := HA.out
     clear HA
     simp only [impl_FateOf.j1] at H
     by_cases c31 : x26_24 = true
     ·subst c31
      have H1 : (some 5) = some r := by rw [if_pos rfl] at H; exact H
      clear H
      have H := H1
      clear H1
      obtain rfl := Option.some.inj H
      go_wp2
      go_ret
      exact ⟨by first | rfl | (simp [errW_none, errW_some] <;> rfl) | (simp [*, errW_none, errW_some] <;> rfl), by repeat (first | (with_reducible first | exact HB.out | apply bA | apply bN | apply below_drew1 | refine bS ?_ GE515.out | refine bS ?_ GE516.out) | exact HB.out)⟩
     replace c31 := Bool.eq_false_iff.mpr c31
     subst c31
     have H1 : (if a0_7 = 0 then (impl_FateOf.j2 kj24 false a0_0 a0_1 a0_2 a0_3 a0_4) else (impl_FateOf.j2 kj24 (decide (a0_4 ≤ 5000)) a0_0 a0_1 a0_2 a0_3 a0_4)) = some r := by rw [if_neg (show ¬ (false = true) by decide)] at H; exact H
     clear H
     have H := H1
     clear H1
     have HC32 := zK H
     clear H
     go_upto_region 8 with (fail)
     go_cut [35] (fun v35 wc => ∃ (kq : Nat) (x35_31 : Bool), v35 = .bool x35_31 ∧ Aside0 (impl_FateOf.j2 kq x35_31 a0_0 a0_1 a0_2 a0_3 a0_4 = some r) ∧ Aside0 (kq ≤ kj24) ∧ Aside0 (wc.heap[gb515]? = some (.cells #[.int .i64 a0_0, .int .i64 a0_1, .int .i64 a0_2, .int .i64 a0_3, .int .i64 a0_4, .int .i64 a0_5, .int .i64 a0_6, .int .i64 a0_7] 29 (0, 0))) ∧ Aside0 (wc.heap[gb516]? = some (.cells #[.int .i64 a0_0, .int .i64 a0_1, .int .i64 a0_2, .int .i64 a0_3, .int .i64 a0_4] 27 (0, 0))) ∧ Aside0 (Below w.heap.size w wc))
     case first =>
      have H := HC32.out
      clear HC32
      by_cases c33 : a0_7 = 0
      ·rw [if_pos c33] at H
       have c33b0 : (a0_7 == 0) = true := beq_iff_eq.mpr c33
       have c33b1 : (a0_7 != 0) = false := bne_eq_false_iff_eq.mpr c33
       clear c33
       (first | rw [c33b0] | rw [c33b1] | (simp only [i64_w, i32_w]; rw [c33b0]) | skip)
       have H' := zK H
       clear H
       have hnb34 := NB515_516.out
       have hnc34 := NB516_515.out
       have hcz35_0 : wc.cell? ⟨gb515, 0, none⟩ = some (.int .i64 a0_0) := (bc BK515.out 0).trans rfl
       have hcz35_1 : wc.cell? ⟨gb515, 1, none⟩ = some (.int .i64 a0_1) := (bc BK515.out 1).trans rfl
       have hcz35_2 : wc.cell? ⟨gb515, 2, none⟩ = some (.int .i64 a0_2) := (bc BK515.out 2).trans rfl
       have hcz35_3 : wc.cell? ⟨gb515, 3, none⟩ = some (.int .i64 a0_3) := (bc BK515.out 3).trans rfl
       have hcz35_4 : wc.cell? ⟨gb515, 4, none⟩ = some (.int .i64 a0_4) := (bc BK515.out 4).trans rfl
       have hcz35_5 : wc.cell? ⟨gb515, 5, none⟩ = some (.int .i64 a0_5) := (bc BK515.out 5).trans rfl
       have hcz35_6 : wc.cell? ⟨gb515, 6, none⟩ = some (.int .i64 a0_6) := (bc BK515.out 6).trans rfl
       have hcz35_7 : wc.cell? ⟨gb515, 7, none⟩ = some (.int .i64 a0_7) := (bc BK515.out 7).trans rfl
       have hfz35_0 := bf BK515.out 0
       have hfz35_1 := bf BK515.out 1
       have hfz35_2 := bf BK515.out 2
       have hfz35_3 := bf BK515.out 3
       have hfz35_4 := bf BK515.out 4
       have hfz35_5 := bf BK515.out 5
       have hfz35_6 := bf BK515.out 6
       have hfz35_7 := bf BK515.out 7
       go_wp2
       go_meet
       case rel => exact ⟨_, (false), m9, H', ⟨by have := HJ5.out; have := HJ24.out; first | omega | exact Nat.le_refl _⟩, ⟨by exact qK BK515.out⟩, ⟨by exact qK BK516.out⟩, ⟨by repeat (first | (with_reducible first | exact HB.out | apply bA | apply bN | apply below_drew1 | refine bS ?_ GE515.out | refine bS ?_ GE516.out) | exact HB.out)⟩⟩
      rw [if_neg c33] at H
      have c33b0 : (a0_7 == 0) = false := beq_eq_false_iff_ne.mpr c33
      have c33b1 : (a0_7 != 0) = true := bne_iff_ne.mpr c33
      (first | rw [c33b0] | rw [c33b1] | (simp only [i64_w, i32_w]; rw [c33b0]) | skip)
      have H' := zK H
      clear H
      have hnb36 := NB515_516.out
      have hnc36 := NB516_515.out
      have hcz37_0 : wc.cell? ⟨gb515, 0, none⟩ = some (.int .i64 a0_0) := (bc BK515.out 0).trans rfl
      have hcz37_1 : wc.cell? ⟨gb515, 1, none⟩ = some (.int .i64 a0_1) := (bc BK515.out 1).trans rfl
      have hcz37_2 : wc.cell? ⟨gb515, 2, none⟩ = some (.int .i64 a0_2) := (bc BK515.out 2).trans rfl
      have hcz37_3 : wc.cell? ⟨gb515, 3, none⟩ = some (.int .i64 a0_3) := (bc BK515.out 3).trans rfl
      have hcz37_4 : wc.cell? ⟨gb515, 4, none⟩ = some (.int .i64 a0_4) := (bc BK515.out 4).trans rfl
      have hcz37_5 : wc.cell? ⟨gb515, 5, none⟩ = some (.int .i64 a0_5) := (bc BK515.out 5).trans rfl
      have hcz37_6 : wc.cell? ⟨gb515, 6, none⟩ = some (.int .i64 a0_6) := (bc BK515.out 6).trans rfl
      have hcz37_7 : wc.cell? ⟨gb515, 7, none⟩ = some (.int .i64 a0_7) := (bc BK515.out 7).trans rfl
      have hfz37_0 := bf BK515.out 0
      have hfz37_1 := bf BK515.out 1
      have hfz37_2 := bf BK515.out 2
      have hfz37_3 := bf BK515.out 3
      have hfz37_4 := bf BK515.out 4
      have hfz37_5 := bf BK515.out 5
      have hfz37_6 := bf BK515.out 6
      have hfz37_7 := bf BK515.out 7
      have hcz38_0 : wc.cell? ⟨gb516, 0, none⟩ = some (.int .i64 a0_0) := (bc BK516.out 0).trans rfl
      have hcz38_1 : wc.cell? ⟨gb516, 1, none⟩ = some (.int .i64 a0_1) := (bc BK516.out 1).trans rfl
      have hcz38_2 : wc.cell? ⟨gb516, 2, none⟩ = some (.int .i64 a0_2) := (bc BK516.out 2).trans rfl
      have hcz38_3 : wc.cell? ⟨gb516, 3, none⟩ = some (.int .i64 a0_3) := (bc BK516.out 3).trans rfl
      have hcz38_4 : wc.cell? ⟨gb516, 4, none⟩ = some (.int .i64 a0_4) := (bc BK516.out 4).trans rfl
      have hfz38_0 := bf BK516.out 0
      have hfz38_1 := bf BK516.out 1
      have hfz38_2 := bf BK516.out 2
      have hfz38_3 := bf BK516.out 3
      have hfz38_4 := bf BK516.out 4
      go_wp2
      go_meet
      case rel => exact ⟨_, (decide (a0_4 ≤ 5000)), m9, H', ⟨by have := HJ5.out; have := HJ24.out; first | omega | exact Nat.le_refl _⟩, ⟨by exact qK BK515.out⟩, ⟨by exact qK BK516.out⟩, ⟨by repeat (first | (with_reducible first | exact HB.out | apply bA | apply bN | apply below_drew1 | refine bS ?_ GE515.out | refine bS ?_ GE516.out) | exact HB.out)⟩⟩
     case rest =>
      clear HC32
      try clear c1
      try clear c2
      try clear p2
      try clear c3
      try clear c5
      try clear c5b0
      try clear c5b1
      try clear c9
      try clear c10
      try clear c12
      try clear c14
      try clear c16
      try clear c21
      try clear c24
      try clear c26
      try clear c26b0
      try clear c26b1
      try clear c27
      try clear c29
      try clear c31
      try clear c33
      try clear c33b0
      try clear c33b1
      try clear c34
      try clear c36
      try clear hcz11_0
      try clear hcz11_1
      try clear hcz11_2
      try clear hcz11_3
      try clear hcz11_4
      try clear hcz17_0
      try clear hcz17_1
      try clear hcz17_2
      try clear hcz17_3
      try clear hcz17_4
      try clear hcz17_5
      try clear hcz17_6
      try clear hcz17_7
      try clear hcz19_0
      try clear hcz19_1
      try clear hcz19_2
      try clear hcz19_3
      try clear hcz19_4
      try clear hcz22_0
      try clear hcz22_1
      try clear hcz22_2
      try clear hcz22_3
      try clear hcz22_4
      try clear hcz22_5
      try clear hcz22_6
      try clear hcz22_7
      try clear hcz28_0
      try clear hcz28_1
      try clear hcz28_2
      try clear hcz28_3
      try clear hcz28_4
      try clear hcz30_0
      try clear hcz30_1
      try clear hcz30_2
      try clear hcz30_3
      try clear hcz30_4
      try clear hcz35_0
      try clear hcz35_1
      try clear hcz35_2
      try clear hcz35_3
      try clear hcz35_4
      try clear hcz35_5
      try clear hcz35_6
      try clear hcz35_7
      try clear hcz37_0
      try clear hcz37_1
      try clear hcz37_2
      try clear hcz37_3
      try clear hcz37_4
      try clear hcz37_5
      try clear hcz37_6
      try clear hcz37_7
      try clear hcz38_0
      try clear hcz38_1
      try clear hcz38_2
      try clear hcz38_3
      try clear hcz38_4
      try clear hcz8_0
      try clear hcz8_1
      try clear hcz8_2
      try clear hcz8_3
      try clear hcz8_4
      try clear hcz8_5
      try clear hcz8_6
      try clear hcz8_7
      try clear hfz11_0
      try clear hfz11_1
      try clear hfz11_2
      try clear hfz11_3
      try clear hfz11_4
      try clear hfz17_0
      try clear hfz17_1
      try clear hfz17_2
      try clear hfz17_3
      try clear hfz17_4
      try clear hfz17_5
      try clear hfz17_6
      try clear hfz17_7
      try clear hfz19_0
      try clear hfz19_1
      try clear hfz19_2
      try clear hfz19_3
      try clear hfz19_4
      try clear hfz22_0
      try clear hfz22_1
      try clear hfz22_2
      try clear hfz22_3
      try clear hfz22_4
      try clear hfz22_5
      try clear hfz22_6
      try clear hfz22_7
      try clear hfz28_0
      try clear hfz28_1
      try clear hfz28_2
      try clear hfz28_3
      try clear hfz28_4
      try clear hfz30_0
      try clear hfz30_1
      try clear hfz30_2
      try clear hfz30_3
      try clear hfz30_4
      try clear hfz35_0
      try clear hfz35_1
      try clear hfz35_2
      try clear hfz35_3
      try clear hfz35_4
      try clear hfz35_5
      try clear hfz35_6
      try clear hfz35_7
      try clear hfz37_0
      try clear hfz37_1
      try clear hfz37_2
      try clear hfz37_3
      try clear hfz37_4
      try clear hfz37_5
      try clear hfz37_6
      try clear hfz37_7
      try clear hfz38_0
      try clear hfz38_1
      try clear hfz38_2
      try clear hfz38_3
      try clear hfz38_4
      try clear hfz8_0
      try clear hfz8_1
      try clear hfz8_2
      try clear hfz8_3
      try clear hfz8_4
      try clear hfz8_5
      try clear hfz8_6
      try clear hfz8_7
      try clear p2
      obtain ⟨kq, x35_31, rfl, HA, HJ31, BK515, BK516, HB⟩ := hcut
      cases kq with
      | zero => exact absurd HA.out (by simp [impl_FateOf.j2])
      | succ kj31 =>
       have H := HA.out
       clear HA
       simp only [impl_FateOf.j2] at H
       by_cases c39 : x35_31 = true
       ·subst c39
        have H1 : (some 2) = some r := by rw [if_pos rfl] at H; exact H
        clear H
        have H := H1
        clear H1
        obtain rfl := Option.some.inj H
        go_wp2
        go_ret
        exact ⟨by first | rfl | (simp [errW_none, errW_some] <;> rfl) | (simp [*, errW_none, errW_some] <;> rfl), by repeat (first | (with_reducible first | exact HB.out | apply bA | apply bN | apply below_drew1 | refine bS ?_ GE515.out | refine bS ?_ GE516.out) | exact HB.out)⟩
       replace c39 := Bool.eq_false_iff.mpr c39
       subst c39
       have H1 : (if a0_4 > 5000 then (some 3) else (some 4)) = some r := by rw [if_neg (show ¬ (false = true) by decide)] at H; exact H
       clear H
       have H := H1
       clear H1
       by_cases c40 : a0_4 > 5000
       ·rw [if_pos c40] at H
        have c40b0 : decide (5000 < a0_4) = true := decide_eq_true c40
        clear c40
        obtain rfl := Option.some.inj H
        have hnb41 := NB516_515.out
        have hnc41 := NB515_516.out
        have hcz42_0 : wc.cell? ⟨gb516, 0, none⟩ = some (.int .i64 a0_0) := (bc BK516.out 0).trans rfl
        have hcz42_1 : wc.cell? ⟨gb516, 1, none⟩ = some (.int .i64 a0_1) := (bc BK516.out 1).trans rfl
        have hcz42_2 : wc.cell? ⟨gb516, 2, none⟩ = some (.int .i64 a0_2) := (bc BK516.out 2).trans rfl
        have hcz42_3 : wc.cell? ⟨gb516, 3, none⟩ = some (.int .i64 a0_3) := (bc BK516.out 3).trans rfl
        have hcz42_4 : wc.cell? ⟨gb516, 4, none⟩ = some (.int .i64 a0_4) := (bc BK516.out 4).trans rfl
        have hfz42_0 := bf BK516.out 0
        have hfz42_1 := bf BK516.out 1
        have hfz42_2 := bf BK516.out 2
        have hfz42_3 := bf BK516.out 3
        have hfz42_4 := bf BK516.out 4
        go_wp2
        go_ret
        exact ⟨by first | rfl | (simp [errW_none, errW_some] <;> rfl) | (simp [*, errW_none, errW_some] <;> rfl), by repeat (first | (with_reducible first | exact HB.out | apply bA | apply bN | apply below_drew1 | refine bS ?_ GE515.out | refine bS ?_ GE516.out) | exact HB.out)⟩
       rw [if_neg c40] at H
       have c40b0 : decide (5000 < a0_4) = false := decide_eq_false c40
       clear c40
       obtain rfl := Option.some.inj H
       have hnb43 := NB516_515.out
       have hnc43 := NB515_516.out
       have hcz44_0 : wc.cell? ⟨gb516, 0, none⟩ = some (.int .i64 a0_0) := (bc BK516.out 0).trans rfl
       have hcz44_1 : wc.cell? ⟨gb516, 1, none⟩ = some (.int .i64 a0_1) := (bc BK516.out 1).trans rfl
       have hcz44_2 : wc.cell? ⟨gb516, 2, none⟩ = some (.int .i64 a0_2) := (bc BK516.out 2).trans rfl
       have hcz44_3 : wc.cell? ⟨gb516, 3, none⟩ = some (.int .i64 a0_3) := (bc BK516.out 3).trans rfl
       have hcz44_4 : wc.cell? ⟨gb516, 4, none⟩ = some (.int .i64 a0_4) := (bc BK516.out 4).trans rfl
       have hfz44_0 := bf BK516.out 0
       have hfz44_1 := bf BK516.out 1
       have hfz44_2 := bf BK516.out 2
       have hfz44_3 := bf BK516.out 3
       have hfz44_4 := bf BK516.out 4
       go_wp2
       go_ret
       exact ⟨by first | rfl | (simp [errW_none, errW_some] <;> rfl) | (simp [*, errW_none, errW_some] <;> rfl), by repeat (first | (with_reducible first | exact HB.out | apply bA | apply bN | apply below_drew1 | refine bS ?_ GE515.out | refine bS ?_ GE516.out) | exact HB.out)⟩
end Go.Proofs.Ytfoallhhdilgjaa.PFnFates
