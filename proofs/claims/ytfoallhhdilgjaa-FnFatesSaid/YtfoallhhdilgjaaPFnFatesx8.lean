/- Walks of functions that FnFates reaches: written by a tool of the kit for this claim, then shortened by a program of ours. -/
import Derived.Test.YtfoallhhdilgjaaPFnFatesx0
/- narrow -/
namespace Go.Proofs.Ytfoallhhdilgjaa.PFnFates
open Go.RowKit Go.Proofs.YtfoallhhdilgjaaW.PrintWords Go.Proofs.YtfoallhhdilgjaaW.PrintLast Go.Proofs.YtfoallhhdilgjaaW.PrintMore
attribute [local go_sem] max2_int min2_int max_two min_two max_three min_three max_four min_four   -- for this text's walks alone
set_option linter.unusedVariables false
set_option linter.unusedSimpArgs false

/-! ### impl_FirstProved: function 10 -/
def impl_FirstProved.l0 : Nat → Int → Bool → List (S38) → Int → Int → Int → Int → Int → Int → Int → Option (Int)
 | 0, _, _, _, _, _, _, _, _, _, _ => none
 | k + 1, x1, x6, x10, x11, x12, x496000, x496001, x496002, x496003, x496004 => if x12 < x11 then (if 0 ≤ x12 then (if x12 < (x10.length : Int) then (if ((rd_T38 x10 x12).f2) = x1 then (if ((rd_T38 x10 x12).f4) = 1 then (if x6 = true then (if ((rd_T38 x10 x12).f3) < x496003 then (impl_FirstProved.l0 k x1 true x10 x11 (wrap64 (x12 + 1)) ((rd_T38 x10 x12).f0) ((rd_T38 x10 x12).f1) ((rd_T38 x10 x12).f2) ((rd_T38 x10 x12).f3) ((rd_T38 x10 x12).f4)) else (impl_FirstProved.l0 k x1 x6 x10 x11 (wrap64 (x12 + 1)) x496000 x496001 x496002 x496003 x496004)) else (impl_FirstProved.l0 k x1 true x10 x11 (wrap64 (x12 + 1)) ((rd_T38 x10 x12).f0) ((rd_T38 x10 x12).f1) ((rd_T38 x10 x12).f2) ((rd_T38 x10 x12).f3) ((rd_T38 x10 x12).f4))) else (impl_FirstProved.l0 k x1 x6 x10 x11 (wrap64 (x12 + 1)) x496000 x496001 x496002 x496003 x496004)) else (impl_FirstProved.l0 k x1 x6 x10 x11 (wrap64 (x12 + 1)) x496000 x496001 x496002 x496003 x496004)) else (none)) else (none)) else (some x496000)
def impl_FirstProved.f (k : Nat) (l0 : List (S38)) (a1 : Int) : Option (Int) := impl_FirstProved.l0 k a1 false l0 (l0.length : Int) 0 0 0 0 0 0
set_option maxHeartbeats 8000000 in
set_option maxRecDepth 100000 in
theorem impl_FirstProved.calls (k : Nat) (A0 : Option Addr) (c0 : Nat) (l0 : List (S38)) (a1 : Int) (r : Int) (w : World) (hr0 : Kd.C k38 w A0 l0.length l0) (hc0 : l0.length ≤ c0) (h : impl_FirstProved.f k l0 a1 = some r) :
  Calls Try.prog 10 #[.slice A0 l0.length c0, .int .i64 a1] w fun e w' => e = .returned (.int .i64 r) ∧ Below w.heap.size w w' := by
 have hu38 := Try.underlying38
 have HR0 := zK hr0
 have HC0 := zK hc0
 clear hr0 hc0
 have HB := zK (Below.refl w.heap.size w)
 have H : (impl_FirstProved.l0 k a1 false l0 (l0.length : Int) 0 0 0 0 0 0) = some r := h
 clear h
 have H' := zK H
 clear H
 go_enter Try.func10, Try.ntmps10
 go_wp2_with (first | ((with_reducible refine gate_dst (N := 5) rfl ?_); refine box_event ?hg (N := 5) ?hd (cs := #[.int .i64 0, .int .i64 0, .int .i64 0, .int .i64 0, .int .i64 0]) (t := 38) ?hr ?_; (case hd => rfl); (case hg => rfl); (case hr => first | (go_simp; done) | (go_simp; rfl)); intro gb495 hg w3 hbox hb; have n0_ := zK (bT (qB HB.out) hb); have n1_ := zK (hbox); have n2_ := zK ((by rw [hg]; exact (bZ (qB HB.out)) : w.heap.size ≤ gb495)); have n3_ := zK ((by rw [hg]; exact (bZ (qB HB.out)) : w.heap.size ≤ gb495)); clear HB; have HB := n0_; have BK495 := n1_; have GW495 := n2_; have GE495 := n3_; clear n0_ n1_ n2_ n3_; clear hb hbox hg; have hcz4_0 : w3.cell? ⟨gb495, 0, none⟩ = some (.int .i64 0) := (bc BK495.out 0).trans rfl; have hcz4_1 : w3.cell? ⟨gb495, 1, none⟩ = some (.int .i64 0) := (bc BK495.out 1).trans rfl; have hcz4_2 : w3.cell? ⟨gb495, 2, none⟩ = some (.int .i64 0) := (bc BK495.out 2).trans rfl; have hcz4_3 : w3.cell? ⟨gb495, 3, none⟩ = some (.int .i64 0) := (bc BK495.out 3).trans rfl; have hcz4_4 : w3.cell? ⟨gb495, 4, none⟩ = some (.int .i64 0) := (bc BK495.out 4).trans rfl; have hfz4_0 := bf BK495.out 0; have hfz4_1 := bf BK495.out 1; have hfz4_2 := bf BK495.out 2; have hfz4_3 := bf BK495.out 3; have hfz4_4 := bf BK495.out 4))
 go_loopg [6, 12] k (fun kq v6 v12 w' => ∃ (x6_1 : Bool) (x12_1 : Int) (x496000_1 : Int) (x496001_1 : Int) (x496002_1 : Int) (x496003_1 : Int) (x496004_1 : Int), v6 = .bool x6_1 ∧ v12 = .int .i64 x12_1 ∧ Aside0 (impl_FirstProved.l0 kq a1 x6_1 l0 (l0.length : Int) x12_1 x496000_1 x496001_1 x496002_1 x496003_1 x496004_1 = some r) ∧ Aside0 (kq ≤ k) ∧ Aside0 (w'.heap[gb495]? = some (.cells #[.int .i64 x496000_1, .int .i64 x496001_1, .int .i64 x496002_1, .int .i64 x496003_1, .int .i64 x496004_1] 38 (0, 0))) ∧ Aside0 (Below w.heap.size w w'))
 case atStart => exact ⟨(false), (0), (0), (0), (0), (0), (0), m9, m9, H', ⟨Nat.le_refl _⟩, ⟨by (with_reducible repeat (first | refine kN ?_ _ | refine kD ?_ | refine kA ?_ _)); refine blk_put (cs := #[.int .i64 0, .int .i64 0, .int .i64 0, .int .i64 0, .int .i64 0]) ?_ 4 _ rfl; (with_reducible repeat (first | refine kN ?_ _ | refine kD ?_ | refine kA ?_ _)); refine blk_put (cs := #[.int .i64 0, .int .i64 0, .int .i64 0, .int .i64 0, .int .i64 0]) ?_ 3 _ rfl; (with_reducible repeat (first | refine kN ?_ _ | refine kD ?_ | refine kA ?_ _)); refine blk_put (cs := #[.int .i64 0, .int .i64 0, .int .i64 0, .int .i64 0, .int .i64 0]) ?_ 2 _ rfl; (with_reducible repeat (first | refine kN ?_ _ | refine kD ?_ | refine kA ?_ _)); refine blk_put (cs := #[.int .i64 0, .int .i64 0, .int .i64 0, .int .i64 0, .int .i64 0]) ?_ 1 _ rfl; (with_reducible repeat (first | refine kN ?_ _ | refine kD ?_ | refine kA ?_ _)); refine blk_put (cs := #[.int .i64 0, .int .i64 0, .int .i64 0, .int .i64 0, .int .i64 0]) ?_ 0 _ rfl; exact qK BK495.out⟩, ⟨by repeat (first | (with_reducible first | exact HB.out | apply bA | apply bN | apply below_drew1 | refine bS ?_ GE495.out) | exact HB.out)⟩⟩
 case round =>
  clear H'
  try clear c1
  try clear p2
  try clear hcz4_0
  try clear hcz4_1
  try clear hcz4_2
  try clear hcz4_3
  try clear hcz4_4
  try clear hfz4_0
  try clear hfz4_1
  try clear hfz4_2
  try clear hfz4_3
  try clear hfz4_4
  obtain ⟨x6_1, x12_1, x496000_1, x496001_1, x496002_1, x496003_1, x496004_1, rfl, rfl, HA, HK1, BK495, HB⟩ := hrel
  cases gk with
  | zero => exact absurd HA.out (by simp [impl_FirstProved.l0])
  | succ k1 =>
   have H := HA.out
   clear HA
   simp only [impl_FirstProved.l0] at H
   by_cases c5 : x12_1 < (l0.length : Int)
   rotate_left
   ·rw [if_neg c5] at H
    have c5b0 : decide (x12_1 < (l0.length : Int)) = false := decide_eq_false c5
    clear c5
    obtain rfl := Option.some.inj H
    have hcz30_0 : wr.cell? ⟨gb495, 0, none⟩ = some (.int .i64 x496000_1) := (bc BK495.out 0).trans rfl
    have hcz30_1 : wr.cell? ⟨gb495, 1, none⟩ = some (.int .i64 x496001_1) := (bc BK495.out 1).trans rfl
    have hcz30_2 : wr.cell? ⟨gb495, 2, none⟩ = some (.int .i64 x496002_1) := (bc BK495.out 2).trans rfl
    have hcz30_3 : wr.cell? ⟨gb495, 3, none⟩ = some (.int .i64 x496003_1) := (bc BK495.out 3).trans rfl
    have hcz30_4 : wr.cell? ⟨gb495, 4, none⟩ = some (.int .i64 x496004_1) := (bc BK495.out 4).trans rfl
    have hfz30_0 := bf BK495.out 0
    have hfz30_1 := bf BK495.out 1
    have hfz30_2 := bf BK495.out 2
    have hfz30_3 := bf BK495.out 3
    have hfz30_4 := bf BK495.out 4
    go_wp2
    go_ret
    exact ⟨by first | rfl | (simp [errW_none, errW_some] <;> rfl) | (simp [*, errW_none, errW_some] <;> rfl), by repeat (first | (with_reducible first | exact HB.out | apply bA | apply bN | apply below_drew1 | refine bS ?_ GE495.out) | exact HB.out)⟩
   rw [if_pos c5] at H
   have c5b0 : decide (x12_1 < (l0.length : Int)) = true := decide_eq_true c5
   clear c5
   by_cases c6 : 0 ≤ x12_1
   rotate_left
   ·rw [if_neg c6] at H
    exact absurd H (by simp)
   rw [if_pos c6] at H
   have c6b0 : decide (0 ≤ x12_1) = true := decide_eq_true c6
   clear c6
   by_cases c7 : x12_1 < (l0.length : Int)
   rotate_left
   ·rw [if_neg c7] at H
    exact absurd H (by simp)
   rw [if_pos c7] at H
   have c7b0 : decide (x12_1 < (l0.length : Int)) = true := decide_eq_true c7
   clear c7
   by_cases c8 : ((rd_T38 l0 x12_1).f2) = a1
   rotate_left
   ·rw [if_neg c8] at H
    have c8b0 : (((rd_T38 l0 x12_1).f2) == a1) = false := beq_eq_false_iff_ne.mpr c8
    have c8b1 : (((rd_T38 l0 x12_1).f2) != a1) = true := bne_iff_ne.mpr c8
    have H' := zK H
    clear H
    have p496 : 0 ≤ (x12_1 : Int) := oD m2
    have q496 : x12_1 < (l0.length : Int) := oD m2
    obtain ⟨ad496, e496, hx496_0, hx496_1, hx496_2, hx496_3, hx496_4⟩ := at_T38 HR0.out x12_1 p496 q496
    cases e496
    replace hx496_0 := (HB.out.cell (bL w hx496_0)).trans hx496_0
    replace hx496_1 := (HB.out.cell (bL w hx496_1)).trans hx496_1
    replace hx496_2 := (HB.out.cell (bL w hx496_2)).trans hx496_2
    replace hx496_3 := (HB.out.cell (bL w hx496_3)).trans hx496_3
    replace hx496_4 := (HB.out.cell (bL w hx496_4)).trans hx496_4
    replace p496 := eq_true p496
    replace q496 := eq_true q496
    go_wp2_with (first | ((with_reducible refine gate_dst (N := 8) rfl ?_); refine box_event ?hg (N := 8) ?hd (cs := #[.int .i64 0, .int .i64 0, .int .i64 0, .int .i64 0, .int .i64 0]) (t := 38) ?hr ?_; (case hd => rfl); (case hg => rfl); (case hr => first | (go_simp; done) | (go_simp; rfl)); intro gb497 hg w27 hbox hb; have n0_ := zK (bB (g := gb495) (o := .cells #[.int .i64 x496000_1, .int .i64 x496001_1, .int .i64 x496002_1, .int .i64 x496003_1, .int .i64 x496004_1] 38 (0, 0)) (qK BK495.out) hb); have n1_ := zK (bT m15 hb); have n2_ := zK (hbox); have n3_ := zK ((by rw [hg]; exact (bZ m15) : w.heap.size ≤ gb497)); have n4_ := zK ((by rw [hg]; exact (bZ m15) : w.heap.size ≤ gb497)); have n5_ := zK ((by rw [hg]; exact Nat.ne_of_lt (blk_lt (g := gb495) (o := .cells #[.int .i64 x496000_1, .int .i64 x496001_1, .int .i64 x496002_1, .int .i64 x496003_1, .int .i64 x496004_1] 38 (0, 0)) (qK BK495.out)) : gb495 ≠ gb497)); have n6_ := zK ((by rw [hg]; exact Nat.ne_of_gt (blk_lt (g := gb495) (o := .cells #[.int .i64 x496000_1, .int .i64 x496001_1, .int .i64 x496002_1, .int .i64 x496003_1, .int .i64 x496004_1] 38 (0, 0)) (qK BK495.out)) : gb497 ≠ gb495)); clear BK495; clear HB; have BK495 := n0_; have HB := n1_; have BK497 := n2_; have GW497 := n3_; have GE497 := n4_; have NB495_497 := n5_; have NB497_495 := n6_; clear n0_ n1_ n2_ n3_ n4_ n5_ n6_; clear hb hbox hg; have hnb28 := NB497_495.out; have hnc28 := NB495_497.out; have hcz29_0 : w27.cell? ⟨gb497, 0, none⟩ = some (.int .i64 0) := (bc BK497.out 0).trans rfl; have hcz29_1 : w27.cell? ⟨gb497, 1, none⟩ = some (.int .i64 0) := (bc BK497.out 1).trans rfl; have hcz29_2 : w27.cell? ⟨gb497, 2, none⟩ = some (.int .i64 0) := (bc BK497.out 2).trans rfl; have hcz29_3 : w27.cell? ⟨gb497, 3, none⟩ = some (.int .i64 0) := (bc BK497.out 3).trans rfl; have hcz29_4 : w27.cell? ⟨gb497, 4, none⟩ = some (.int .i64 0) := (bc BK497.out 4).trans rfl; have hfz29_0 := bf BK497.out 0; have hfz29_1 := bf BK497.out 1; have hfz29_2 := bf BK497.out 2; have hfz29_3 := bf BK497.out 3; have hfz29_4 := bf BK497.out 4))
    go_roundg k1
    case measure => have := HK1.out; omega
    case rel => exact ⟨(x6_1), (wrap64 (x12_1 + 1)), (x496000_1), (x496001_1), (x496002_1), (x496003_1), (x496004_1), m9, m9, H', ⟨by have := HK1.out; omega⟩, ⟨by (with_reducible repeat (first | refine kN ?_ _ | refine kD ?_ | refine kA ?_ _)); refine blk_far ?_ NB495_497.out _; (with_reducible repeat (first | refine kN ?_ _ | refine kD ?_ | refine kA ?_ _)); refine blk_far ?_ NB495_497.out _; (with_reducible repeat (first | refine kN ?_ _ | refine kD ?_ | refine kA ?_ _)); refine blk_far ?_ NB495_497.out _; (with_reducible repeat (first | refine kN ?_ _ | refine kD ?_ | refine kA ?_ _)); refine blk_far ?_ NB495_497.out _; (with_reducible repeat (first | refine kN ?_ _ | refine kD ?_ | refine kA ?_ _)); refine blk_far ?_ NB495_497.out _; exact qK BK495.out⟩, ⟨by repeat (first | (with_reducible first | exact HB.out | apply bA | apply bN | apply below_drew1 | refine bS ?_ GE495.out | refine bS ?_ GE497.out) | exact HB.out)⟩⟩
   rw [if_pos c8] at H
   have c8b0 : (((rd_T38 l0 x12_1).f2) == a1) = true := beq_iff_eq.mpr c8
   have c8b1 : (((rd_T38 l0 x12_1).f2) != a1) = false := bne_eq_false_iff_eq.mpr c8
   clear c8
   by_cases c9 : ((rd_T38 l0 x12_1).f4) = 1
   rotate_left
   ·rw [if_neg c9] at H
    have c9b0 : (((rd_T38 l0 x12_1).f4) == 1) = false := beq_eq_false_iff_ne.mpr c9
    have c9b1 : (((rd_T38 l0 x12_1).f4) != 1) = true := bne_iff_ne.mpr c9
    have H' := zK H
    clear H
    have p496 : 0 ≤ (x12_1 : Int) := oD m2
    have q496 : x12_1 < (l0.length : Int) := oD m2
    obtain ⟨ad496, e496, hx496_0, hx496_1, hx496_2, hx496_3, hx496_4⟩ := at_T38 HR0.out x12_1 p496 q496
    cases e496
    replace hx496_0 := (HB.out.cell (bL w hx496_0)).trans hx496_0
    replace hx496_1 := (HB.out.cell (bL w hx496_1)).trans hx496_1
    replace hx496_2 := (HB.out.cell (bL w hx496_2)).trans hx496_2
    replace hx496_3 := (HB.out.cell (bL w hx496_3)).trans hx496_3
    replace hx496_4 := (HB.out.cell (bL w hx496_4)).trans hx496_4
    replace p496 := eq_true p496
    replace q496 := eq_true q496
    go_wp2_with (first | ((with_reducible refine gate_dst (N := 8) rfl ?_); refine box_event ?hg (N := 8) ?hd (cs := #[.int .i64 0, .int .i64 0, .int .i64 0, .int .i64 0, .int .i64 0]) (t := 38) ?hr ?_; (case hd => rfl); (case hg => rfl); (case hr => first | (go_simp; done) | (go_simp; rfl)); intro gb497 hg w24 hbox hb; have n0_ := zK (bB (g := gb495) (o := .cells #[.int .i64 x496000_1, .int .i64 x496001_1, .int .i64 x496002_1, .int .i64 x496003_1, .int .i64 x496004_1] 38 (0, 0)) (qK BK495.out) hb); have n1_ := zK (bT m15 hb); have n2_ := zK (hbox); have n3_ := zK ((by rw [hg]; exact (bZ m15) : w.heap.size ≤ gb497)); have n4_ := zK ((by rw [hg]; exact (bZ m15) : w.heap.size ≤ gb497)); have n5_ := zK ((by rw [hg]; exact Nat.ne_of_lt (blk_lt (g := gb495) (o := .cells #[.int .i64 x496000_1, .int .i64 x496001_1, .int .i64 x496002_1, .int .i64 x496003_1, .int .i64 x496004_1] 38 (0, 0)) (qK BK495.out)) : gb495 ≠ gb497)); have n6_ := zK ((by rw [hg]; exact Nat.ne_of_gt (blk_lt (g := gb495) (o := .cells #[.int .i64 x496000_1, .int .i64 x496001_1, .int .i64 x496002_1, .int .i64 x496003_1, .int .i64 x496004_1] 38 (0, 0)) (qK BK495.out)) : gb497 ≠ gb495)); clear BK495; clear HB; have BK495 := n0_; have HB := n1_; have BK497 := n2_; have GW497 := n3_; have GE497 := n4_; have NB495_497 := n5_; have NB497_495 := n6_; clear n0_ n1_ n2_ n3_ n4_ n5_ n6_; clear hb hbox hg; have hnb25 := NB497_495.out; have hnc25 := NB495_497.out; have hcz26_0 : w24.cell? ⟨gb497, 0, none⟩ = some (.int .i64 0) := (bc BK497.out 0).trans rfl; have hcz26_1 : w24.cell? ⟨gb497, 1, none⟩ = some (.int .i64 0) := (bc BK497.out 1).trans rfl; have hcz26_2 : w24.cell? ⟨gb497, 2, none⟩ = some (.int .i64 0) := (bc BK497.out 2).trans rfl; have hcz26_3 : w24.cell? ⟨gb497, 3, none⟩ = some (.int .i64 0) := (bc BK497.out 3).trans rfl; have hcz26_4 : w24.cell? ⟨gb497, 4, none⟩ = some (.int .i64 0) := (bc BK497.out 4).trans rfl; have hfz26_0 := bf BK497.out 0; have hfz26_1 := bf BK497.out 1; have hfz26_2 := bf BK497.out 2; have hfz26_3 := bf BK497.out 3; have hfz26_4 := bf BK497.out 4))
    go_roundg k1
    case measure => have := HK1.out; omega
    case rel => exact ⟨(x6_1), (wrap64 (x12_1 + 1)), (x496000_1), (x496001_1), (x496002_1), (x496003_1), (x496004_1), m9, m9, H', ⟨by have := HK1.out; omega⟩, ⟨by (with_reducible repeat (first | refine kN ?_ _ | refine kD ?_ | refine kA ?_ _)); refine blk_far ?_ NB495_497.out _; (with_reducible repeat (first | refine kN ?_ _ | refine kD ?_ | refine kA ?_ _)); refine blk_far ?_ NB495_497.out _; (with_reducible repeat (first | refine kN ?_ _ | refine kD ?_ | refine kA ?_ _)); refine blk_far ?_ NB495_497.out _; (with_reducible repeat (first | refine kN ?_ _ | refine kD ?_ | refine kA ?_ _)); refine blk_far ?_ NB495_497.out _; (with_reducible repeat (first | refine kN ?_ _ | refine kD ?_ | refine kA ?_ _)); refine blk_far ?_ NB495_497.out _; exact qK BK495.out⟩, ⟨by repeat (first | (with_reducible first | exact HB.out | apply bA | apply bN | apply below_drew1 | refine bS ?_ GE495.out | refine bS ?_ GE497.out) | exact HB.out)⟩⟩
   rw [if_pos c9] at H
   have c9b0 : (((rd_T38 l0 x12_1).f4) == 1) = true := beq_iff_eq.mpr c9
   have c9b1 : (((rd_T38 l0 x12_1).f4) != 1) = false := bne_eq_false_iff_eq.mpr c9
   clear c9
   by_cases c10 : x6_1 = true
   rotate_left
   ·replace c10 := Bool.eq_false_iff.mpr c10
    subst c10
    have H1 : (impl_FirstProved.l0 k1 a1 true l0 (l0.length : Int) (wrap64 (x12_1 + 1)) ((rd_T38 l0 x12_1).f0) ((rd_T38 l0 x12_1).f1) ((rd_T38 l0 x12_1).f2) ((rd_T38 l0 x12_1).f3) ((rd_T38 l0 x12_1).f4)) = some r := by rw [if_neg (show ¬ (false = true) by decide)] at H; exact H
    clear H
    have H := H1
    clear H1
    have H' := zK H
    clear H
    have p496 : 0 ≤ (x12_1 : Int) := oD m2
    have q496 : x12_1 < (l0.length : Int) := oD m2
    obtain ⟨ad496, e496, hx496_0, hx496_1, hx496_2, hx496_3, hx496_4⟩ := at_T38 HR0.out x12_1 p496 q496
    cases e496
    replace hx496_0 := (HB.out.cell (bL w hx496_0)).trans hx496_0
    replace hx496_1 := (HB.out.cell (bL w hx496_1)).trans hx496_1
    replace hx496_2 := (HB.out.cell (bL w hx496_2)).trans hx496_2
    replace hx496_3 := (HB.out.cell (bL w hx496_3)).trans hx496_3
    replace hx496_4 := (HB.out.cell (bL w hx496_4)).trans hx496_4
    replace p496 := eq_true p496
    replace q496 := eq_true q496
    go_wp2_with (first | ((with_reducible refine gate_dst (N := 8) rfl ?_); refine box_event ?hg (N := 8) ?hd (cs := #[.int .i64 0, .int .i64 0, .int .i64 0, .int .i64 0, .int .i64 0]) (t := 38) ?hr ?_; (case hd => rfl); (case hg => rfl); (case hr => first | (go_simp; done) | (go_simp; rfl)); intro gb497 hg w20 hbox hb; have n0_ := zK (bB (g := gb495) (o := .cells #[.int .i64 x496000_1, .int .i64 x496001_1, .int .i64 x496002_1, .int .i64 x496003_1, .int .i64 x496004_1] 38 (0, 0)) (qK BK495.out) hb); have n1_ := zK (bT m15 hb); have n2_ := zK (hbox); have n3_ := zK ((by rw [hg]; exact (bZ m15) : w.heap.size ≤ gb497)); have n4_ := zK ((by rw [hg]; exact (bZ m15) : w.heap.size ≤ gb497)); have n5_ := zK ((by rw [hg]; exact Nat.ne_of_lt (blk_lt (g := gb495) (o := .cells #[.int .i64 x496000_1, .int .i64 x496001_1, .int .i64 x496002_1, .int .i64 x496003_1, .int .i64 x496004_1] 38 (0, 0)) (qK BK495.out)) : gb495 ≠ gb497)); have n6_ := zK ((by rw [hg]; exact Nat.ne_of_gt (blk_lt (g := gb495) (o := .cells #[.int .i64 x496000_1, .int .i64 x496001_1, .int .i64 x496002_1, .int .i64 x496003_1, .int .i64 x496004_1] 38 (0, 0)) (qK BK495.out)) : gb497 ≠ gb495)); clear BK495; clear HB; have BK495 := n0_; have HB := n1_; have BK497 := n2_; have GW497 := n3_; have GE497 := n4_; have NB495_497 := n5_; have NB497_495 := n6_; clear n0_ n1_ n2_ n3_ n4_ n5_ n6_; clear hb hbox hg; have hnb21 := NB497_495.out; have hnc21 := NB495_497.out; have hcz22_0 : w20.cell? ⟨gb497, 0, none⟩ = some (.int .i64 0) := (bc BK497.out 0).trans rfl; have hcz22_1 : w20.cell? ⟨gb497, 1, none⟩ = some (.int .i64 0) := (bc BK497.out 1).trans rfl; have hcz22_2 : w20.cell? ⟨gb497, 2, none⟩ = some (.int .i64 0) := (bc BK497.out 2).trans rfl; have hcz22_3 : w20.cell? ⟨gb497, 3, none⟩ = some (.int .i64 0) := (bc BK497.out 3).trans rfl; have hcz22_4 : w20.cell? ⟨gb497, 4, none⟩ = some (.int .i64 0) := (bc BK497.out 4).trans rfl; have hfz22_0 := bf BK497.out 0; have hfz22_1 := bf BK497.out 1; have hfz22_2 := bf BK497.out 2; have hfz22_3 := bf BK497.out 3; have hfz22_4 := bf BK497.out 4; have hcz23_0 : w20.cell? ⟨gb495, 0, none⟩ = some (.int .i64 x496000_1) := (bc BK495.out 0).trans rfl; have hcz23_1 : w20.cell? ⟨gb495, 1, none⟩ = some (.int .i64 x496001_1) := (bc BK495.out 1).trans rfl; have hcz23_2 : w20.cell? ⟨gb495, 2, none⟩ = some (.int .i64 x496002_1) := (bc BK495.out 2).trans rfl; have hcz23_3 : w20.cell? ⟨gb495, 3, none⟩ = some (.int .i64 x496003_1) := (bc BK495.out 3).trans rfl; have hcz23_4 : w20.cell? ⟨gb495, 4, none⟩ = some (.int .i64 x496004_1) := (bc BK495.out 4).trans rfl; have hfz23_0 := bf BK495.out 0; have hfz23_1 := bf BK495.out 1; have hfz23_2 := bf BK495.out 2; have hfz23_3 := bf BK495.out 3; have hfz23_4 := bf BK495.out 4))
    go_roundg k1
    case measure => have := HK1.out; omega
    case rel => exact ⟨(true), (wrap64 (x12_1 + 1)), ((rd_T38 l0 x12_1).f0), ((rd_T38 l0 x12_1).f1), ((rd_T38 l0 x12_1).f2), ((rd_T38 l0 x12_1).f3), ((rd_T38 l0 x12_1).f4), m9, m9, H', ⟨by have := HK1.out; omega⟩, ⟨by (with_reducible repeat (first | refine kN ?_ _ | refine kD ?_ | refine kA ?_ _)); refine blk_put (cs := #[.int .i64 ((rd_T38 l0 x12_1).f0), .int .i64 ((rd_T38 l0 x12_1).f1), .int .i64 ((rd_T38 l0 x12_1).f2), .int .i64 ((rd_T38 l0 x12_1).f3), .int .i64 x496004_1]) ?_ 4 _ rfl; (with_reducible repeat (first | refine kN ?_ _ | refine kD ?_ | refine kA ?_ _)); refine blk_put (cs := #[.int .i64 ((rd_T38 l0 x12_1).f0), .int .i64 ((rd_T38 l0 x12_1).f1), .int .i64 ((rd_T38 l0 x12_1).f2), .int .i64 x496003_1, .int .i64 x496004_1]) ?_ 3 _ rfl; (with_reducible repeat (first | refine kN ?_ _ | refine kD ?_ | refine kA ?_ _)); refine blk_put (cs := #[.int .i64 ((rd_T38 l0 x12_1).f0), .int .i64 ((rd_T38 l0 x12_1).f1), .int .i64 x496002_1, .int .i64 x496003_1, .int .i64 x496004_1]) ?_ 2 _ rfl; (with_reducible repeat (first | refine kN ?_ _ | refine kD ?_ | refine kA ?_ _)); refine blk_put (cs := #[.int .i64 ((rd_T38 l0 x12_1).f0), .int .i64 x496001_1, .int .i64 x496002_1, .int .i64 x496003_1, .int .i64 x496004_1]) ?_ 1 _ rfl; (with_reducible repeat (first | refine kN ?_ _ | refine kD ?_ | refine kA ?_ _)); refine blk_put (cs := #[.int .i64 x496000_1, .int .i64 x496001_1, .int .i64 x496002_1, .int .i64 x496003_1, .int .i64 x496004_1]) ?_ 0 _ rfl; (with_reducible repeat (first | refine kN ?_ _ | refine kD ?_ | refine kA ?_ _)); refine blk_far ?_ NB495_497.out _; (with_reducible repeat (first | refine kN ?_ _ | refine kD ?_ | refine kA ?_ _)); refine blk_far ?_ NB495_497.out _; (with_reducible repeat (first | refine kN ?_ _ | refine kD ?_ | refine kA ?_ _)); refine blk_far ?_ NB495_497.out _; (with_reducible repeat (first | refine kN ?_ _ | refine kD ?_ | refine kA ?_ _)); refine blk_far ?_ NB495_497.out _; (with_reducible repeat (first | refine kN ?_ _ | refine kD ?_ | refine kA ?_ _)); refine blk_far ?_ NB495_497.out _; exact qK BK495.out⟩, ⟨by repeat (first | (with_reducible first | exact HB.out | apply bA | apply bN | apply below_drew1 | refine bS ?_ GE495.out | refine bS ?_ GE497.out) | exact HB.out)⟩⟩
   subst c10
   have H1 : (if ((rd_T38 l0 x12_1).f3) < x496003_1 then (impl_FirstProved.l0 k1 a1 true l0 (l0.length : Int) (wrap64 (x12_1 + 1)) ((rd_T38 l0 x12_1).f0) ((rd_T38 l0 x12_1).f1) ((rd_T38 l0 x12_1).f2) ((rd_T38 l0 x12_1).f3) ((rd_T38 l0 x12_1).f4)) else (impl_FirstProved.l0 k1 a1 true l0 (l0.length : Int) (wrap64 (x12_1 + 1)) x496000_1 x496001_1 x496002_1 x496003_1 x496004_1)) = some r := by rw [if_pos rfl] at H; exact H
   clear H
   have H := H1
   clear H1
   by_cases c11 : ((rd_T38 l0 x12_1).f3) < x496003_1
   rotate_left
   ·rw [if_neg c11] at H
    have c11b0 : decide (((rd_T38 l0 x12_1).f3) < x496003_1) = false := decide_eq_false c11
    clear c11
    have H' := zK H
    clear H
    have p496 : 0 ≤ (x12_1 : Int) := oD m2
    have q496 : x12_1 < (l0.length : Int) := oD m2
    obtain ⟨ad496, e496, hx496_0, hx496_1, hx496_2, hx496_3, hx496_4⟩ := at_T38 HR0.out x12_1 p496 q496
    cases e496
    replace hx496_0 := (HB.out.cell (bL w hx496_0)).trans hx496_0
    replace hx496_1 := (HB.out.cell (bL w hx496_1)).trans hx496_1
    replace hx496_2 := (HB.out.cell (bL w hx496_2)).trans hx496_2
    replace hx496_3 := (HB.out.cell (bL w hx496_3)).trans hx496_3
    replace hx496_4 := (HB.out.cell (bL w hx496_4)).trans hx496_4
    replace p496 := eq_true p496
    replace q496 := eq_true q496
    go_wp2_with (first | ((with_reducible refine gate_dst (N := 8) rfl ?_); refine box_event ?hg (N := 8) ?hd (cs := #[.int .i64 0, .int .i64 0, .int .i64 0, .int .i64 0, .int .i64 0]) (t := 38) ?hr ?_; (case hd => rfl); (case hg => rfl); (case hr => first | (go_simp; done) | (go_simp; rfl)); intro gb497 hg w16 hbox hb; have n0_ := zK (bB (g := gb495) (o := .cells #[.int .i64 x496000_1, .int .i64 x496001_1, .int .i64 x496002_1, .int .i64 x496003_1, .int .i64 x496004_1] 38 (0, 0)) (qK BK495.out) hb); have n1_ := zK (bT m15 hb); have n2_ := zK (hbox); have n3_ := zK ((by rw [hg]; exact (bZ m15) : w.heap.size ≤ gb497)); have n4_ := zK ((by rw [hg]; exact (bZ m15) : w.heap.size ≤ gb497)); have n5_ := zK ((by rw [hg]; exact Nat.ne_of_lt (blk_lt (g := gb495) (o := .cells #[.int .i64 x496000_1, .int .i64 x496001_1, .int .i64 x496002_1, .int .i64 x496003_1, .int .i64 x496004_1] 38 (0, 0)) (qK BK495.out)) : gb495 ≠ gb497)); have n6_ := zK ((by rw [hg]; exact Nat.ne_of_gt (blk_lt (g := gb495) (o := .cells #[.int .i64 x496000_1, .int .i64 x496001_1, .int .i64 x496002_1, .int .i64 x496003_1, .int .i64 x496004_1] 38 (0, 0)) (qK BK495.out)) : gb497 ≠ gb495)); clear BK495; clear HB; have BK495 := n0_; have HB := n1_; have BK497 := n2_; have GW497 := n3_; have GE497 := n4_; have NB495_497 := n5_; have NB497_495 := n6_; clear n0_ n1_ n2_ n3_ n4_ n5_ n6_; clear hb hbox hg; have hnb17 := NB497_495.out; have hnc17 := NB495_497.out; have hcz18_0 : w16.cell? ⟨gb497, 0, none⟩ = some (.int .i64 0) := (bc BK497.out 0).trans rfl; have hcz18_1 : w16.cell? ⟨gb497, 1, none⟩ = some (.int .i64 0) := (bc BK497.out 1).trans rfl; have hcz18_2 : w16.cell? ⟨gb497, 2, none⟩ = some (.int .i64 0) := (bc BK497.out 2).trans rfl; have hcz18_3 : w16.cell? ⟨gb497, 3, none⟩ = some (.int .i64 0) := (bc BK497.out 3).trans rfl; have hcz18_4 : w16.cell? ⟨gb497, 4, none⟩ = some (.int .i64 0) := (bc BK497.out 4).trans rfl; have hfz18_0 := bf BK497.out 0; have hfz18_1 := bf BK497.out 1; have hfz18_2 := bf BK497.out 2; have hfz18_3 := bf BK497.out 3; have hfz18_4 := bf BK497.out 4; have hcz19_0 : w16.cell? ⟨gb495, 0, none⟩ = some (.int .i64 x496000_1) := (bc BK495.out 0).trans rfl; have hcz19_1 : w16.cell? ⟨gb495, 1, none⟩ = some (.int .i64 x496001_1) := (bc BK495.out 1).trans rfl; have hcz19_2 : w16.cell? ⟨gb495, 2, none⟩ = some (.int .i64 x496002_1) := (bc BK495.out 2).trans rfl; have hcz19_3 : w16.cell? ⟨gb495, 3, none⟩ = some (.int .i64 x496003_1) := (bc BK495.out 3).trans rfl; have hcz19_4 : w16.cell? ⟨gb495, 4, none⟩ = some (.int .i64 x496004_1) := (bc BK495.out 4).trans rfl; have hfz19_0 := bf BK495.out 0; have hfz19_1 := bf BK495.out 1; have hfz19_2 := bf BK495.out 2; have hfz19_3 := bf BK495.out 3; have hfz19_4 := bf BK495.out 4))
    go_roundg k1
    case measure => have := HK1.out; omega
    case rel => exact ⟨(true), (wrap64 (x12_1 + 1)), (x496000_1), (x496001_1), (x496002_1), (x496003_1), (x496004_1), m9, m9, H', ⟨by have := HK1.out; omega⟩, ⟨by (with_reducible repeat (first | refine kN ?_ _ | refine kD ?_ | refine kA ?_ _)); refine blk_far ?_ NB495_497.out _; (with_reducible repeat (first | refine kN ?_ _ | refine kD ?_ | refine kA ?_ _)); refine blk_far ?_ NB495_497.out _; (with_reducible repeat (first | refine kN ?_ _ | refine kD ?_ | refine kA ?_ _)); refine blk_far ?_ NB495_497.out _; (with_reducible repeat (first | refine kN ?_ _ | refine kD ?_ | refine kA ?_ _)); refine blk_far ?_ NB495_497.out _; (with_reducible repeat (first | refine kN ?_ _ | refine kD ?_ | refine kA ?_ _)); refine blk_far ?_ NB495_497.out _; exact qK BK495.out⟩, ⟨by repeat (first | (with_reducible first | exact HB.out | apply bA | apply bN | apply below_drew1 | refine bS ?_ GE495.out | refine bS ?_ GE497.out) | exact HB.out)⟩⟩
   rw [if_pos c11] at H
   have c11b0 : decide (((rd_T38 l0 x12_1).f3) < x496003_1) = true := decide_eq_true c11
   clear c11
   have H' := zK H
   clear H
   have p496 : 0 ≤ (x12_1 : Int) := oD m2
   have q496 : x12_1 < (l0.length : Int) := oD m2
   obtain ⟨ad496, e496, hx496_0, hx496_1, hx496_2, hx496_3, hx496_4⟩ := at_T38 HR0.out x12_1 p496 q496
   cases e496
   replace hx496_0 := (HB.out.cell (bL w hx496_0)).trans hx496_0
   replace hx496_1 := (HB.out.cell (bL w hx496_1)).trans hx496_1
   replace hx496_2 := (HB.out.cell (bL w hx496_2)).trans hx496_2
   replace hx496_3 := (HB.out.cell (bL w hx496_3)).trans hx496_3
   replace hx496_4 := (HB.out.cell (bL w hx496_4)).trans hx496_4
   replace p496 := eq_true p496
   replace q496 := eq_true q496
   go_wp2_with (first | ((with_reducible refine gate_dst (N := 8) rfl ?_); refine box_event ?hg (N := 8) ?hd (cs := #[.int .i64 0, .int .i64 0, .int .i64 0, .int .i64 0, .int .i64 0]) (t := 38) ?hr ?_; (case hd => rfl); (case hg => rfl); (case hr => first | (go_simp; done) | (go_simp; rfl)); intro gb497 hg w12 hbox hb; have n0_ := zK (bB (g := gb495) (o := .cells #[.int .i64 x496000_1, .int .i64 x496001_1, .int .i64 x496002_1, .int .i64 x496003_1, .int .i64 x496004_1] 38 (0, 0)) (qK BK495.out) hb); have n1_ := zK (bT m15 hb); have n2_ := zK (hbox); have n3_ := zK ((by rw [hg]; exact (bZ m15) : w.heap.size ≤ gb497)); have n4_ := zK ((by rw [hg]; exact (bZ m15) : w.heap.size ≤ gb497)); have n5_ := zK ((by rw [hg]; exact Nat.ne_of_lt (blk_lt (g := gb495) (o := .cells #[.int .i64 x496000_1, .int .i64 x496001_1, .int .i64 x496002_1, .int .i64 x496003_1, .int .i64 x496004_1] 38 (0, 0)) (qK BK495.out)) : gb495 ≠ gb497)); have n6_ := zK ((by rw [hg]; exact Nat.ne_of_gt (blk_lt (g := gb495) (o := .cells #[.int .i64 x496000_1, .int .i64 x496001_1, .int .i64 x496002_1, .int .i64 x496003_1, .int .i64 x496004_1] 38 (0, 0)) (qK BK495.out)) : gb497 ≠ gb495)); clear BK495; clear HB; have BK495 := n0_; have HB := n1_; have BK497 := n2_; have GW497 := n3_; have GE497 := n4_; have NB495_497 := n5_; have NB497_495 := n6_; clear n0_ n1_ n2_ n3_ n4_ n5_ n6_; clear hb hbox hg; have hnb13 := NB497_495.out; have hnc13 := NB495_497.out; have hcz14_0 : w12.cell? ⟨gb497, 0, none⟩ = some (.int .i64 0) := (bc BK497.out 0).trans rfl; have hcz14_1 : w12.cell? ⟨gb497, 1, none⟩ = some (.int .i64 0) := (bc BK497.out 1).trans rfl; have hcz14_2 : w12.cell? ⟨gb497, 2, none⟩ = some (.int .i64 0) := (bc BK497.out 2).trans rfl; have hcz14_3 : w12.cell? ⟨gb497, 3, none⟩ = some (.int .i64 0) := (bc BK497.out 3).trans rfl; have hcz14_4 : w12.cell? ⟨gb497, 4, none⟩ = some (.int .i64 0) := (bc BK497.out 4).trans rfl; have hfz14_0 := bf BK497.out 0; have hfz14_1 := bf BK497.out 1; have hfz14_2 := bf BK497.out 2; have hfz14_3 := bf BK497.out 3; have hfz14_4 := bf BK497.out 4; have hcz15_0 : w12.cell? ⟨gb495, 0, none⟩ = some (.int .i64 x496000_1) := (bc BK495.out 0).trans rfl; have hcz15_1 : w12.cell? ⟨gb495, 1, none⟩ = some (.int .i64 x496001_1) := (bc BK495.out 1).trans rfl; have hcz15_2 : w12.cell? ⟨gb495, 2, none⟩ = some (.int .i64 x496002_1) := (bc BK495.out 2).trans rfl; have hcz15_3 : w12.cell? ⟨gb495, 3, none⟩ = some (.int .i64 x496003_1) := (bc BK495.out 3).trans rfl; have hcz15_4 : w12.cell? ⟨gb495, 4, none⟩ = some (.int .i64 x496004_1) := (bc BK495.out 4).trans rfl; have hfz15_0 := bf BK495.out 0; have hfz15_1 := bf BK495.out 1; have hfz15_2 := bf BK495.out 2; have hfz15_3 := bf BK495.out 3; have hfz15_4 := bf BK495.out 4))
   go_roundg k1
   case measure => have := HK1.out; omega
   case rel => exact ⟨(true), (wrap64 (x12_1 + 1)), ((rd_T38 l0 x12_1).f0), ((rd_T38 l0 x12_1).f1), ((rd_T38 l0 x12_1).f2), ((rd_T38 l0 x12_1).f3), ((rd_T38 l0 x12_1).f4), m9, m9, H', ⟨by have := HK1.out; omega⟩, ⟨by (with_reducible repeat (first | refine kN ?_ _ | refine kD ?_ | refine kA ?_ _)); refine blk_put (cs := #[.int .i64 ((rd_T38 l0 x12_1).f0), .int .i64 ((rd_T38 l0 x12_1).f1), .int .i64 ((rd_T38 l0 x12_1).f2), .int .i64 ((rd_T38 l0 x12_1).f3), .int .i64 x496004_1]) ?_ 4 _ rfl; (with_reducible repeat (first | refine kN ?_ _ | refine kD ?_ | refine kA ?_ _)); refine blk_put (cs := #[.int .i64 ((rd_T38 l0 x12_1).f0), .int .i64 ((rd_T38 l0 x12_1).f1), .int .i64 ((rd_T38 l0 x12_1).f2), .int .i64 x496003_1, .int .i64 x496004_1]) ?_ 3 _ rfl; (with_reducible repeat (first | refine kN ?_ _ | refine kD ?_ | refine kA ?_ _)); refine blk_put (cs := #[.int .i64 ((rd_T38 l0 x12_1).f0), .int .i64 ((rd_T38 l0 x12_1).f1), .int .i64 x496002_1, .int .i64 x496003_1, .int .i64 x496004_1]) ?_ 2 _ rfl; (with_reducible repeat (first | refine kN ?_ _ | refine kD ?_ | refine kA ?_ _)); refine blk_put (cs := #[.int .i64 ((rd_T38 l0 x12_1).f0), .int .i64 x496001_1, .int .i64 x496002_1, .int .i64 x496003_1, .int .i64 x496004_1]) ?_ 1 _ rfl; (with_reducible repeat (first | refine kN ?_ _ | refine kD ?_ | refine kA ?_ _)); refine blk_put (cs := #[.int .i64 x496000_1, .int .i64 x496001_1, .int .i64 x496002_1, .int .i64 x496003_1, .int .i64 x496004_1]) ?_ 0 _ rfl; (with_reducible repeat (first | refine kN ?_ _ | refine kD ?_ | refine kA ?_ _)); refine blk_far ?_ NB495_497.out _; (with_reducible repeat (first | refine kN ?_ _ | refine kD ?_ | refine kA ?_ _)); refine blk_far ?_ NB495_497.out _; (with_reducible repeat (first | refine kN ?_ _ | refine kD ?_ | refine kA ?_ _)); refine blk_far ?_ NB495_497.out _; (with_reducible repeat (first | refine kN ?_ _ | refine kD ?_ | refine kA ?_ _)); refine blk_far ?_ NB495_497.out _; (with_reducible repeat (first | refine kN ?_ _ | refine kD ?_ | refine kA ?_ _)); refine blk_far ?_ NB495_497.out _; exact qK BK495.out⟩, ⟨by repeat (first | (with_reducible first | exact HB.out | apply bA | apply bN | apply below_drew1 | refine bS ?_ GE495.out | refine bS ?_ GE497.out) | exact HB.out)⟩⟩
/-! ### impl_InRange: function 33 -/
def impl_InRange.f (a0 : Int) (a1 : Int) (a2 : Int) : Option (Bool) := if a1 ≤ a0 then (some (decide (a0 ≤ a2))) else (some false)
set_option maxHeartbeats 8000000 in
set_option maxRecDepth 100000 in
theorem impl_InRange.calls (a0 : Int) (a1 : Int) (a2 : Int) (r : Bool) (w : World) (h : impl_InRange.f a0 a1 a2 = some r) :
  Calls Try.prog 33 #[.int .i64 a0, .int .i64 a1, .int .i64 a2] w fun e w' => e = .returned (.bool r) ∧ Drawn0 w w' := by
 have H : (if a1 ≤ a0 then (some (decide (a0 ≤ a2))) else (some false)) = some r := h
 clear h
 by_cases c4 : a1 ≤ a0
 ·rw [if_pos c4] at H
  have c4b0 : decide (a1 ≤ a0) = true := decide_eq_true c4
  clear c4
  obtain rfl := Option.some.inj H
  go_enter Try.func33, Try.ntmps33
  go_wp2
  go_ret
  exact ⟨by first | rfl | (simp; done) | (simp [*]; done), by repeat (first | exact Drawn0.refl _ | apply Drawn0.step)⟩
 rw [if_neg c4] at H
 have c4b0 : decide (a1 ≤ a0) = false := decide_eq_false c4
 clear c4
 obtain rfl := Option.some.inj H
 go_enter Try.func33, Try.ntmps33
 go_wp2
 go_ret
 exact ⟨by first | rfl | (simp; done) | (simp [*]; done), by repeat (first | exact Drawn0.refl _ | apply Drawn0.step)⟩
/-! ### impl_IsThing: function 32 -/
def impl_IsThing.f (a0_0 : Int) (a0_1 : Int) (a0_2 : Int) (a0_3 : Int) (a0_4 : Int) : Option (Bool) := (impl_InRange.f a0_0 1 999).bind fun t499 => (if t499 = true then ((impl_InRange.f a0_1 1 8).bind fun t500 => (if t500 = true then ((impl_InRange.f a0_2 0 7).bind fun t501 => (if t501 = true then ((impl_InRange.f a0_3 1 50).bind fun t502 => (if t502 = true then ((impl_InRange.f a0_4 0 10000000).bind fun t503 => (some t503)) else (some false))) else (some false))) else (some false))) else (some false))
set_option maxHeartbeats 8000000 in
set_option maxRecDepth 100000 in
theorem impl_IsThing.calls (a0_0 : Int) (a0_1 : Int) (a0_2 : Int) (a0_3 : Int) (a0_4 : Int) (r : Bool) (w : World) (h : impl_IsThing.f a0_0 a0_1 a0_2 a0_3 a0_4 = some r) :
  Calls Try.prog 32 #[.agg #[.int .i64 a0_0, .int .i64 a0_1, .int .i64 a0_2, .int .i64 a0_3, .int .i64 a0_4]] w fun e w' => e = .returned (.bool r) ∧ Below w.heap.size w w' := by
 have hu27 := Try.underlying27
 have HB := zK (Below.refl w.heap.size w)
 have H : ((impl_InRange.f a0_0 1 999).bind fun t499 => (if t499 = true then ((impl_InRange.f a0_1 1 8).bind fun t500 => (if t500 = true then ((impl_InRange.f a0_2 0 7).bind fun t501 => (if t501 = true then ((impl_InRange.f a0_3 1 50).bind fun t502 => (if t502 = true then ((impl_InRange.f a0_4 0 10000000).bind fun t503 => (some t503)) else (some false))) else (some false))) else (some false))) else (some false))) = some r := h
 clear h
 replace H := Option.bind_eq_some_iff.mp H
 obtain ⟨t499, A20, H⟩ := H
 replace H : (if t499 = true then ((impl_InRange.f a0_1 1 8).bind fun t500 => (if t500 = true then ((impl_InRange.f a0_2 0 7).bind fun t501 => (if t501 = true then ((impl_InRange.f a0_3 1 50).bind fun t502 => (if t502 = true then ((impl_InRange.f a0_4 0 10000000).bind fun t503 => (some t503)) else (some false))) else (some false))) else (some false))) else (some false)) = some r := H
 have A2 := zK A20
 clear A20
 by_cases c3 : t499 = true
 rotate_left
 ·replace c3 := Bool.eq_false_iff.mpr c3
  subst c3
  have H1 : (some false) = some r := by rw [if_neg (show ¬ (false = true) by decide)] at H; exact H
  clear H
  have H := H1
  clear H1
  obtain rfl := Option.some.inj H
  go_enter Try.func32, Try.ntmps32
  go_wp2_with (first | ((with_reducible refine gate_dst (N := 1) rfl ?_); refine box_event ?hg (N := 1) ?hd (cs := #[.int .i64 a0_0, .int .i64 a0_1, .int .i64 a0_2, .int .i64 a0_3, .int .i64 a0_4]) (t := 27) ?hr ?_; (case hd => rfl); (case hg => rfl); (case hr => first | (go_simp; done) | (go_simp; rfl)); intro gb498 hg w19 hbox hb; have n0_ := zK (bT (qB HB.out) hb); have n1_ := zK (hbox); have n2_ := zK ((by rw [hg]; exact (bZ (qB HB.out)) : w.heap.size ≤ gb498)); have n3_ := zK ((by rw [hg]; exact (bZ (qB HB.out)) : w.heap.size ≤ gb498)); clear HB; have HB := n0_; have BK498 := n1_; have GW498 := n2_; have GE498 := n3_; clear n0_ n1_ n2_ n3_; clear hb hbox hg; have hcz20_0 : w19.cell? ⟨gb498, 0, none⟩ = some (.int .i64 a0_0) := (bc BK498.out 0).trans rfl; have hcz20_1 : w19.cell? ⟨gb498, 1, none⟩ = some (.int .i64 a0_1) := (bc BK498.out 1).trans rfl; have hcz20_2 : w19.cell? ⟨gb498, 2, none⟩ = some (.int .i64 a0_2) := (bc BK498.out 2).trans rfl; have hcz20_3 : w19.cell? ⟨gb498, 3, none⟩ = some (.int .i64 a0_3) := (bc BK498.out 3).trans rfl; have hcz20_4 : w19.cell? ⟨gb498, 4, none⟩ = some (.int .i64 a0_4) := (bc BK498.out 4).trans rfl; have hfz20_0 := bf BK498.out 0; have hfz20_1 := bf BK498.out 1; have hfz20_2 := bf BK498.out 2; have hfz20_3 := bf BK498.out 3; have hfz20_4 := bf BK498.out 4) | ((with_reducible refine gate_callee (f := 33) rfl ?_); refine goesL_ (some 5) rfl rfl Try.func33 (by kernel_rfl) rfl #[.int .i64 a0_0, .int .i64 1, .int .i64 999] rfl m0 ?_; (with_reducible refine (impl_InRange.calls a0_0 1 999 false _ A2.out).mono ?_); rintro e w' ⟨rfl, ⟨nd, rfl⟩⟩; refine ⟨_, rfl, ?_⟩))
  go_ret
  exact ⟨by first | rfl | (simp [errW_none, errW_some] <;> rfl) | (simp [*, errW_none, errW_some] <;> rfl), by repeat (first | (with_reducible first | exact HB.out | apply bA | apply bN | apply below_drew1 | refine bS ?_ GE498.out) | exact HB.out)⟩
 subst c3
 have H1 : ((impl_InRange.f a0_1 1 8).bind fun t500 => (if t500 = true then ((impl_InRange.f a0_2 0 7).bind fun t501 => (if t501 = true then ((impl_InRange.f a0_3 1 50).bind fun t502 => (if t502 = true then ((impl_InRange.f a0_4 0 10000000).bind fun t503 => (some t503)) else (some false))) else (some false))) else (some false))) = some r := by rw [if_pos rfl] at H; exact H
 clear H
 have H := H1
 clear H1
 replace H := Option.bind_eq_some_iff.mp H
 obtain ⟨t500, A40, H⟩ := H
 replace H : (if t500 = true then ((impl_InRange.f a0_2 0 7).bind fun t501 => (if t501 = true then ((impl_InRange.f a0_3 1 50).bind fun t502 => (if t502 = true then ((impl_InRange.f a0_4 0 10000000).bind fun t503 => (some t503)) else (some false))) else (some false))) else (some false)) = some r := H
 have A4 := zK A40
 clear A40
 by_cases c5 : t500 = true
 rotate_left
 ·replace c5 := Bool.eq_false_iff.mpr c5
  subst c5
  have H1 : (some false) = some r := by rw [if_neg (show ¬ (false = true) by decide)] at H; exact H
  clear H
  have H := H1
  clear H1
  obtain rfl := Option.some.inj H
  go_enter Try.func32, Try.ntmps32
  go_wp2_with (first | ((with_reducible refine gate_dst (N := 1) rfl ?_); refine box_event ?hg (N := 1) ?hd (cs := #[.int .i64 a0_0, .int .i64 a0_1, .int .i64 a0_2, .int .i64 a0_3, .int .i64 a0_4]) (t := 27) ?hr ?_; (case hd => rfl); (case hg => rfl); (case hr => first | (go_simp; done) | (go_simp; rfl)); intro gb498 hg w17 hbox hb; have n0_ := zK (bT (qB HB.out) hb); have n1_ := zK (hbox); have n2_ := zK ((by rw [hg]; exact (bZ (qB HB.out)) : w.heap.size ≤ gb498)); have n3_ := zK ((by rw [hg]; exact (bZ (qB HB.out)) : w.heap.size ≤ gb498)); clear HB; have HB := n0_; have BK498 := n1_; have GW498 := n2_; have GE498 := n3_; clear n0_ n1_ n2_ n3_; clear hb hbox hg; have hcz18_0 : w17.cell? ⟨gb498, 0, none⟩ = some (.int .i64 a0_0) := (bc BK498.out 0).trans rfl; have hcz18_1 : w17.cell? ⟨gb498, 1, none⟩ = some (.int .i64 a0_1) := (bc BK498.out 1).trans rfl; have hcz18_2 : w17.cell? ⟨gb498, 2, none⟩ = some (.int .i64 a0_2) := (bc BK498.out 2).trans rfl; have hcz18_3 : w17.cell? ⟨gb498, 3, none⟩ = some (.int .i64 a0_3) := (bc BK498.out 3).trans rfl; have hcz18_4 : w17.cell? ⟨gb498, 4, none⟩ = some (.int .i64 a0_4) := (bc BK498.out 4).trans rfl; have hfz18_0 := bf BK498.out 0; have hfz18_1 := bf BK498.out 1; have hfz18_2 := bf BK498.out 2; have hfz18_3 := bf BK498.out 3; have hfz18_4 := bf BK498.out 4) | ((with_reducible refine gate_callee (f := 33) rfl ?_); refine goesL_ (some 5) rfl rfl Try.func33 (by kernel_rfl) rfl #[.int .i64 a0_0, .int .i64 1, .int .i64 999] rfl m0 ?_; (with_reducible refine (impl_InRange.calls a0_0 1 999 true _ A2.out).mono ?_); rintro e w' ⟨rfl, ⟨nd, rfl⟩⟩; refine ⟨_, rfl, ?_⟩) | (go_at_call 33; (with_reducible refine (impl_InRange.calls a0_1 1 8 false _ A4.out).mono ?_); rintro e w' ⟨rfl, ⟨nd, rfl⟩⟩))
  go_ret
  exact ⟨by first | rfl | (simp [errW_none, errW_some] <;> rfl) | (simp [*, errW_none, errW_some] <;> rfl), by repeat (first | (with_reducible first | exact HB.out | apply bA | apply bN | apply below_drew1 | refine bS ?_ GE498.out) | exact HB.out)⟩
 subst c5
 have H1 : ((impl_InRange.f a0_2 0 7).bind fun t501 => (if t501 = true then ((impl_InRange.f a0_3 1 50).bind fun t502 => (if t502 = true then ((impl_InRange.f a0_4 0 10000000).bind fun t503 => (some t503)) else (some false))) else (some false))) = some r := by rw [if_pos rfl] at H; exact H
 clear H
 have H := H1
 clear H1
 replace H := Option.bind_eq_some_iff.mp H
 obtain ⟨t501, A60, H⟩ := H
 replace H : (if t501 = true then ((impl_InRange.f a0_3 1 50).bind fun t502 => (if t502 = true then ((impl_InRange.f a0_4 0 10000000).bind fun t503 => (some t503)) else (some false))) else (some false)) = some r := H
 have A6 := zK A60
 clear A60
 by_cases c7 : t501 = true
 rotate_left
 ·replace c7 := Bool.eq_false_iff.mpr c7
  subst c7
  have H1 : (some false) = some r := by rw [if_neg (show ¬ (false = true) by decide)] at H; exact H
  clear H
  have H := H1
  clear H1
  obtain rfl := Option.some.inj H
  go_enter Try.func32, Try.ntmps32
  go_wp2_with (first | ((with_reducible refine gate_dst (N := 1) rfl ?_); refine box_event ?hg (N := 1) ?hd (cs := #[.int .i64 a0_0, .int .i64 a0_1, .int .i64 a0_2, .int .i64 a0_3, .int .i64 a0_4]) (t := 27) ?hr ?_; (case hd => rfl); (case hg => rfl); (case hr => first | (go_simp; done) | (go_simp; rfl)); intro gb498 hg w15 hbox hb; have n0_ := zK (bT (qB HB.out) hb); have n1_ := zK (hbox); have n2_ := zK ((by rw [hg]; exact (bZ (qB HB.out)) : w.heap.size ≤ gb498)); have n3_ := zK ((by rw [hg]; exact (bZ (qB HB.out)) : w.heap.size ≤ gb498)); clear HB; have HB := n0_; have BK498 := n1_; have GW498 := n2_; have GE498 := n3_; clear n0_ n1_ n2_ n3_; clear hb hbox hg; have hcz16_0 : w15.cell? ⟨gb498, 0, none⟩ = some (.int .i64 a0_0) := (bc BK498.out 0).trans rfl; have hcz16_1 : w15.cell? ⟨gb498, 1, none⟩ = some (.int .i64 a0_1) := (bc BK498.out 1).trans rfl; have hcz16_2 : w15.cell? ⟨gb498, 2, none⟩ = some (.int .i64 a0_2) := (bc BK498.out 2).trans rfl; have hcz16_3 : w15.cell? ⟨gb498, 3, none⟩ = some (.int .i64 a0_3) := (bc BK498.out 3).trans rfl; have hcz16_4 : w15.cell? ⟨gb498, 4, none⟩ = some (.int .i64 a0_4) := (bc BK498.out 4).trans rfl; have hfz16_0 := bf BK498.out 0; have hfz16_1 := bf BK498.out 1; have hfz16_2 := bf BK498.out 2; have hfz16_3 := bf BK498.out 3; have hfz16_4 := bf BK498.out 4) | ((with_reducible refine gate_callee (f := 33) rfl ?_); refine goesL_ (some 5) rfl rfl Try.func33 (by kernel_rfl) rfl #[.int .i64 a0_0, .int .i64 1, .int .i64 999] rfl m0 ?_; (with_reducible refine (impl_InRange.calls a0_0 1 999 true _ A2.out).mono ?_); rintro e w' ⟨rfl, ⟨nd, rfl⟩⟩; refine ⟨_, rfl, ?_⟩) | (go_at_call 33; (with_reducible refine (impl_InRange.calls a0_1 1 8 true _ A4.out).mono ?_); rintro e w' ⟨rfl, ⟨nd, rfl⟩⟩) | (go_at_call 33; (with_reducible refine (impl_InRange.calls a0_2 0 7 false _ A6.out).mono ?_); rintro e w' ⟨rfl, ⟨nd, rfl⟩⟩))
  go_ret
  exact ⟨by first | rfl | (simp [errW_none, errW_some] <;> rfl) | (simp [*, errW_none, errW_some] <;> rfl), by repeat (first | (with_reducible first | exact HB.out | apply bA | apply bN | apply below_drew1 | refine bS ?_ GE498.out) | exact HB.out)⟩
 subst c7
 have H1 : ((impl_InRange.f a0_3 1 50).bind fun t502 => (if t502 = true then ((impl_InRange.f a0_4 0 10000000).bind fun t503 => (some t503)) else (some false))) = some r := by rw [if_pos rfl] at H; exact H
 clear H
 have H := H1
 clear H1
 replace H := Option.bind_eq_some_iff.mp H
 obtain ⟨t502, A80, H⟩ := H
 replace H : (if t502 = true then ((impl_InRange.f a0_4 0 10000000).bind fun t503 => (some t503)) else (some false)) = some r := H
 have A8 := zK A80
 clear A80
 by_cases c9 : t502 = true
 rotate_left
 ·replace c9 := Bool.eq_false_iff.mpr c9
  subst c9
  have H1 : (some false) = some r := by rw [if_neg (show ¬ (false = true) by decide)] at H; exact H
  clear H
  have H := H1
  clear H1
  obtain rfl := Option.some.inj H
  go_enter Try.func32, Try.ntmps32
  go_wp2_with (first | ((with_reducible refine gate_dst (N := 1) rfl ?_); refine box_event ?hg (N := 1) ?hd (cs := #[.int .i64 a0_0, .int .i64 a0_1, .int .i64 a0_2, .int .i64 a0_3, .int .i64 a0_4]) (t := 27) ?hr ?_; (case hd => rfl); (case hg => rfl); (case hr => first | (go_simp; done) | (go_simp; rfl)); intro gb498 hg w13 hbox hb; have n0_ := zK (bT (qB HB.out) hb); have n1_ := zK (hbox); have n2_ := zK ((by rw [hg]; exact (bZ (qB HB.out)) : w.heap.size ≤ gb498)); have n3_ := zK ((by rw [hg]; exact (bZ (qB HB.out)) : w.heap.size ≤ gb498)); clear HB; have HB := n0_; have BK498 := n1_; have GW498 := n2_; have GE498 := n3_; clear n0_ n1_ n2_ n3_; clear hb hbox hg; have hcz14_0 : w13.cell? ⟨gb498, 0, none⟩ = some (.int .i64 a0_0) := (bc BK498.out 0).trans rfl; have hcz14_1 : w13.cell? ⟨gb498, 1, none⟩ = some (.int .i64 a0_1) := (bc BK498.out 1).trans rfl; have hcz14_2 : w13.cell? ⟨gb498, 2, none⟩ = some (.int .i64 a0_2) := (bc BK498.out 2).trans rfl; have hcz14_3 : w13.cell? ⟨gb498, 3, none⟩ = some (.int .i64 a0_3) := (bc BK498.out 3).trans rfl; have hcz14_4 : w13.cell? ⟨gb498, 4, none⟩ = some (.int .i64 a0_4) := (bc BK498.out 4).trans rfl; have hfz14_0 := bf BK498.out 0; have hfz14_1 := bf BK498.out 1; have hfz14_2 := bf BK498.out 2; have hfz14_3 := bf BK498.out 3; have hfz14_4 := bf BK498.out 4) | ((with_reducible refine gate_callee (f := 33) rfl ?_); refine goesL_ (some 5) rfl rfl Try.func33 (by kernel_rfl) rfl #[.int .i64 a0_0, .int .i64 1, .int .i64 999] rfl m0 ?_; (with_reducible refine (impl_InRange.calls a0_0 1 999 true _ A2.out).mono ?_); rintro e w' ⟨rfl, ⟨nd, rfl⟩⟩; refine ⟨_, rfl, ?_⟩) | (go_at_call 33; (with_reducible refine (impl_InRange.calls a0_1 1 8 true _ A4.out).mono ?_); rintro e w' ⟨rfl, ⟨nd, rfl⟩⟩) | (go_at_call 33; (with_reducible refine (impl_InRange.calls a0_2 0 7 true _ A6.out).mono ?_); rintro e w' ⟨rfl, ⟨nd, rfl⟩⟩) | (go_at_call 33; (with_reducible refine (impl_InRange.calls a0_3 1 50 false _ A8.out).mono ?_); rintro e w' ⟨rfl, ⟨nd, rfl⟩⟩))
  go_ret
  exact ⟨by first | rfl | (simp [errW_none, errW_some] <;> rfl) | (simp [*, errW_none, errW_some] <;> rfl), by repeat (first | (with_reducible first | exact HB.out | apply bA | apply bN | apply below_drew1 | refine bS ?_ GE498.out) | exact HB.out)⟩
 subst c9
 have H1 : ((impl_InRange.f a0_4 0 10000000).bind fun t503 => (some t503)) = some r := by rw [if_pos rfl] at H; exact H
 clear H
 have H := H1
 clear H1
 replace H := Option.bind_eq_some_iff.mp H
 obtain ⟨t503, A100, H⟩ := H
 replace H : (some t503) = some r := H
 have A10 := zK A100
 clear A100
 obtain rfl := Option.some.inj H
 go_enter Try.func32, Try.ntmps32
 go_wp2_with (first | ((with_reducible refine gate_dst (N := 1) rfl ?_); refine box_event ?hg (N := 1) ?hd (cs := #[.int .i64 a0_0, .int .i64 a0_1, .int .i64 a0_2, .int .i64 a0_3, .int .i64 a0_4]) (t := 27) ?hr ?_; (case hd => rfl); (case hg => rfl); (case hr => first | (go_simp; done) | (go_simp; rfl)); intro gb498 hg w11 hbox hb; have n0_ := zK (bT (qB HB.out) hb); have n1_ := zK (hbox); have n2_ := zK ((by rw [hg]; exact (bZ (qB HB.out)) : w.heap.size ≤ gb498)); have n3_ := zK ((by rw [hg]; exact (bZ (qB HB.out)) : w.heap.size ≤ gb498)); clear HB; have HB := n0_; have BK498 := n1_; have GW498 := n2_; have GE498 := n3_; clear n0_ n1_ n2_ n3_; clear hb hbox hg; have hcz12_0 : w11.cell? ⟨gb498, 0, none⟩ = some (.int .i64 a0_0) := (bc BK498.out 0).trans rfl; have hcz12_1 : w11.cell? ⟨gb498, 1, none⟩ = some (.int .i64 a0_1) := (bc BK498.out 1).trans rfl; have hcz12_2 : w11.cell? ⟨gb498, 2, none⟩ = some (.int .i64 a0_2) := (bc BK498.out 2).trans rfl; have hcz12_3 : w11.cell? ⟨gb498, 3, none⟩ = some (.int .i64 a0_3) := (bc BK498.out 3).trans rfl; have hcz12_4 : w11.cell? ⟨gb498, 4, none⟩ = some (.int .i64 a0_4) := (bc BK498.out 4).trans rfl; have hfz12_0 := bf BK498.out 0; have hfz12_1 := bf BK498.out 1; have hfz12_2 := bf BK498.out 2; have hfz12_3 := bf BK498.out 3; have hfz12_4 := bf BK498.out 4) | ((with_reducible refine gate_callee (f := 33) rfl ?_); refine goesL_ (some 5) rfl rfl Try.func33 (by kernel_rfl) rfl #[.int .i64 a0_0, .int .i64 1, .int .i64 999] rfl m0 ?_; (with_reducible refine (impl_InRange.calls a0_0 1 999 true _ A2.out).mono ?_); rintro e w' ⟨rfl, ⟨nd, rfl⟩⟩; refine ⟨_, rfl, ?_⟩) | (go_at_call 33; (with_reducible refine (impl_InRange.calls a0_1 1 8 true _ A4.out).mono ?_); rintro e w' ⟨rfl, ⟨nd, rfl⟩⟩) | (go_at_call 33; (with_reducible refine (impl_InRange.calls a0_2 0 7 true _ A6.out).mono ?_); rintro e w' ⟨rfl, ⟨nd, rfl⟩⟩) | (go_at_call 33; (with_reducible refine (impl_InRange.calls a0_3 1 50 true _ A8.out).mono ?_); rintro e w' ⟨rfl, ⟨nd, rfl⟩⟩) | (go_at_call 33; (with_reducible refine (impl_InRange.calls a0_4 0 10000000 t503 _ A10.out).mono ?_); rintro e w' ⟨rfl, ⟨nd, rfl⟩⟩))
 go_ret
 exact ⟨by first | rfl | (simp [errW_none, errW_some] <;> rfl) | (simp [*, errW_none, errW_some] <;> rfl), by repeat (first | (with_reducible first | exact HB.out | apply bA | apply bN | apply below_drew1 | refine bS ?_ GE498.out) | exact HB.out)⟩
/-! ### impl_IsFind: function 25 -/
def impl_IsFind.f (a0_0 : Int) (a0_1 : Int) (a0_2 : Int) (a0_3 : Int) (a0_4 : Int) (a0_5 : Int) (a0_6 : Int) (a0_7 : Int) : Option (Bool) := (impl_IsThing.f a0_0 a0_1 a0_2 a0_3 a0_4).bind fun t505 => (if t505 = true then ((impl_InRange.f a0_5 1 30).bind fun t506 => (if t506 = true then ((impl_InRange.f a0_6 0 100000).bind fun t507 => (if t507 = true then ((impl_InRange.f a0_7 0 999).bind fun t508 => (some t508)) else (some false))) else (some false))) else (some false))
set_option maxHeartbeats 8000000 in
set_option maxRecDepth 100000 in
theorem impl_IsFind.calls (a0_0 : Int) (a0_1 : Int) (a0_2 : Int) (a0_3 : Int) (a0_4 : Int) (a0_5 : Int) (a0_6 : Int) (a0_7 : Int) (r : Bool) (w : World) (h : impl_IsFind.f a0_0 a0_1 a0_2 a0_3 a0_4 a0_5 a0_6 a0_7 = some r) :
  Calls Try.prog 25 #[.agg #[.int .i64 a0_0, .int .i64 a0_1, .int .i64 a0_2, .int .i64 a0_3, .int .i64 a0_4, .int .i64 a0_5, .int .i64 a0_6, .int .i64 a0_7]] w fun e w' => e = .returned (.bool r) ∧ Below w.heap.size w w' := by
 have hu29 := Try.underlying29
 have hu27 := Try.underlying27
 have HB := zK (Below.refl w.heap.size w)
 have H : ((impl_IsThing.f a0_0 a0_1 a0_2 a0_3 a0_4).bind fun t505 => (if t505 = true then ((impl_InRange.f a0_5 1 30).bind fun t506 => (if t506 = true then ((impl_InRange.f a0_6 0 100000).bind fun t507 => (if t507 = true then ((impl_InRange.f a0_7 0 999).bind fun t508 => (some t508)) else (some false))) else (some false))) else (some false))) = some r := h
 clear h
 replace H := Option.bind_eq_some_iff.mp H
 obtain ⟨t505, A20, H⟩ := H
 replace H : (if t505 = true then ((impl_InRange.f a0_5 1 30).bind fun t506 => (if t506 = true then ((impl_InRange.f a0_6 0 100000).bind fun t507 => (if t507 = true then ((impl_InRange.f a0_7 0 999).bind fun t508 => (some t508)) else (some false))) else (some false))) else (some false)) = some r := H
 have A2 := zK A20
 clear A20
 by_cases c3 : t505 = true
 rotate_left
 ·replace c3 := Bool.eq_false_iff.mpr c3
  subst c3
  have H1 : (some false) = some r := by rw [if_neg (show ¬ (false = true) by decide)] at H; exact H
  clear H
  have H := H1
  clear H1
  obtain rfl := Option.some.inj H
  go_enter Try.func25, Try.ntmps25
  go_wp2_with (first | ((with_reducible refine gate_dst (N := 1) rfl ?_); refine box_event ?hg (N := 1) ?hd (cs := #[.int .i64 a0_0, .int .i64 a0_1, .int .i64 a0_2, .int .i64 a0_3, .int .i64 a0_4, .int .i64 a0_5, .int .i64 a0_6, .int .i64 a0_7]) (t := 29) ?hr ?_; (case hd => rfl); (case hg => rfl); (case hr => first | (go_simp; done) | (go_simp; rfl)); intro gb504 hg w21 hbox hb; have n0_ := zK (bT (qB HB.out) hb); have n1_ := zK (hbox); have n2_ := zK ((by rw [hg]; exact (bZ (qB HB.out)) : w.heap.size ≤ gb504)); have n3_ := zK ((by rw [hg]; exact (bZ (qB HB.out)) : w.heap.size ≤ gb504)); clear HB; have HB := n0_; have BK504 := n1_; have GW504 := n2_; have GE504 := n3_; clear n0_ n1_ n2_ n3_; clear hb hbox hg; have hcz22_0 : w21.cell? ⟨gb504, 0, none⟩ = some (.int .i64 a0_0) := (bc BK504.out 0).trans rfl; have hcz22_1 : w21.cell? ⟨gb504, 1, none⟩ = some (.int .i64 a0_1) := (bc BK504.out 1).trans rfl; have hcz22_2 : w21.cell? ⟨gb504, 2, none⟩ = some (.int .i64 a0_2) := (bc BK504.out 2).trans rfl; have hcz22_3 : w21.cell? ⟨gb504, 3, none⟩ = some (.int .i64 a0_3) := (bc BK504.out 3).trans rfl; have hcz22_4 : w21.cell? ⟨gb504, 4, none⟩ = some (.int .i64 a0_4) := (bc BK504.out 4).trans rfl; have hcz22_5 : w21.cell? ⟨gb504, 5, none⟩ = some (.int .i64 a0_5) := (bc BK504.out 5).trans rfl; have hcz22_6 : w21.cell? ⟨gb504, 6, none⟩ = some (.int .i64 a0_6) := (bc BK504.out 6).trans rfl; have hcz22_7 : w21.cell? ⟨gb504, 7, none⟩ = some (.int .i64 a0_7) := (bc BK504.out 7).trans rfl; have hfz22_0 := bf BK504.out 0; have hfz22_1 := bf BK504.out 1; have hfz22_2 := bf BK504.out 2; have hfz22_3 := bf BK504.out 3; have hfz22_4 := bf BK504.out 4; have hfz22_5 := bf BK504.out 5; have hfz22_6 := bf BK504.out 6; have hfz22_7 := bf BK504.out 7) | ((with_reducible refine gate_callee (f := 32) rfl ?_); refine goesL_ (some 5) rfl rfl Try.func32 (by kernel_rfl) rfl #[.agg #[.int .i64 a0_0, .int .i64 a0_1, .int .i64 a0_2, .int .i64 a0_3, .int .i64 a0_4]] rfl m0 ?_; (with_reducible refine (impl_IsThing.calls a0_0 a0_1 a0_2 a0_3 a0_4 false _ A2.out).mono ?_); rintro e w23 ⟨rfl, hb⟩; refine ⟨_, rfl, ?_⟩; have n0_ := zK (bB (g := gb504) (o := .cells #[.int .i64 a0_0, .int .i64 a0_1, .int .i64 a0_2, .int .i64 a0_3, .int .i64 a0_4, .int .i64 a0_5, .int .i64 a0_6, .int .i64 a0_7] 29 (0, 0)) (qK BK504.out) hb); have n1_ := zK (bT (by repeat (first | (with_reducible first | exact HB.out | apply bA | apply bN | apply below_drew1 | refine bS ?_ GE504.out) | exact HB.out)) hb); clear BK504; clear HB; have BK504 := n0_; have HB := n1_; clear n0_ n1_; (try clear hb); (try clear hb2); (try clear hk); (try clear hi)))
  go_ret
  exact ⟨by first | rfl | (simp [errW_none, errW_some] <;> rfl) | (simp [*, errW_none, errW_some] <;> rfl), by repeat (first | (with_reducible first | exact HB.out | apply bA | apply bN | apply below_drew1 | refine bS ?_ GE504.out) | exact HB.out)⟩
 subst c3
 have H1 : ((impl_InRange.f a0_5 1 30).bind fun t506 => (if t506 = true then ((impl_InRange.f a0_6 0 100000).bind fun t507 => (if t507 = true then ((impl_InRange.f a0_7 0 999).bind fun t508 => (some t508)) else (some false))) else (some false))) = some r := by rw [if_pos rfl] at H; exact H
 clear H
 have H := H1
 clear H1
 replace H := Option.bind_eq_some_iff.mp H
 obtain ⟨t506, A40, H⟩ := H
 replace H : (if t506 = true then ((impl_InRange.f a0_6 0 100000).bind fun t507 => (if t507 = true then ((impl_InRange.f a0_7 0 999).bind fun t508 => (some t508)) else (some false))) else (some false)) = some r := H
 have A4 := zK A40
 clear A40
 by_cases c5 : t506 = true
 rotate_left
 ·replace c5 := Bool.eq_false_iff.mpr c5
  subst c5
  have H1 : (some false) = some r := by rw [if_neg (show ¬ (false = true) by decide)] at H; exact H
  clear H
  have H := H1
  clear H1
  obtain rfl := Option.some.inj H
  go_enter Try.func25, Try.ntmps25
  go_wp2_with (first | ((with_reducible refine gate_dst (N := 1) rfl ?_); refine box_event ?hg (N := 1) ?hd (cs := #[.int .i64 a0_0, .int .i64 a0_1, .int .i64 a0_2, .int .i64 a0_3, .int .i64 a0_4, .int .i64 a0_5, .int .i64 a0_6, .int .i64 a0_7]) (t := 29) ?hr ?_; (case hd => rfl); (case hg => rfl); (case hr => first | (go_simp; done) | (go_simp; rfl)); intro gb504 hg w17 hbox hb; have n0_ := zK (bT (qB HB.out) hb); have n1_ := zK (hbox); have n2_ := zK ((by rw [hg]; exact (bZ (qB HB.out)) : w.heap.size ≤ gb504)); have n3_ := zK ((by rw [hg]; exact (bZ (qB HB.out)) : w.heap.size ≤ gb504)); clear HB; have HB := n0_; have BK504 := n1_; have GW504 := n2_; have GE504 := n3_; clear n0_ n1_ n2_ n3_; clear hb hbox hg; have hcz18_0 : w17.cell? ⟨gb504, 0, none⟩ = some (.int .i64 a0_0) := (bc BK504.out 0).trans rfl; have hcz18_1 : w17.cell? ⟨gb504, 1, none⟩ = some (.int .i64 a0_1) := (bc BK504.out 1).trans rfl; have hcz18_2 : w17.cell? ⟨gb504, 2, none⟩ = some (.int .i64 a0_2) := (bc BK504.out 2).trans rfl; have hcz18_3 : w17.cell? ⟨gb504, 3, none⟩ = some (.int .i64 a0_3) := (bc BK504.out 3).trans rfl; have hcz18_4 : w17.cell? ⟨gb504, 4, none⟩ = some (.int .i64 a0_4) := (bc BK504.out 4).trans rfl; have hcz18_5 : w17.cell? ⟨gb504, 5, none⟩ = some (.int .i64 a0_5) := (bc BK504.out 5).trans rfl; have hcz18_6 : w17.cell? ⟨gb504, 6, none⟩ = some (.int .i64 a0_6) := (bc BK504.out 6).trans rfl; have hcz18_7 : w17.cell? ⟨gb504, 7, none⟩ = some (.int .i64 a0_7) := (bc BK504.out 7).trans rfl; have hfz18_0 := bf BK504.out 0; have hfz18_1 := bf BK504.out 1; have hfz18_2 := bf BK504.out 2; have hfz18_3 := bf BK504.out 3; have hfz18_4 := bf BK504.out 4; have hfz18_5 := bf BK504.out 5; have hfz18_6 := bf BK504.out 6; have hfz18_7 := bf BK504.out 7) | ((with_reducible refine gate_callee (f := 32) rfl ?_); refine goesL_ (some 5) rfl rfl Try.func32 (by kernel_rfl) rfl #[.agg #[.int .i64 a0_0, .int .i64 a0_1, .int .i64 a0_2, .int .i64 a0_3, .int .i64 a0_4]] rfl m0 ?_; (with_reducible refine (impl_IsThing.calls a0_0 a0_1 a0_2 a0_3 a0_4 true _ A2.out).mono ?_); rintro e w19 ⟨rfl, hb⟩; refine ⟨_, rfl, ?_⟩; have n0_ := zK (bB (g := gb504) (o := .cells #[.int .i64 a0_0, .int .i64 a0_1, .int .i64 a0_2, .int .i64 a0_3, .int .i64 a0_4, .int .i64 a0_5, .int .i64 a0_6, .int .i64 a0_7] 29 (0, 0)) (qK BK504.out) hb); have n1_ := zK (bT (by repeat (first | (with_reducible first | exact HB.out | apply bA | apply bN | apply below_drew1 | refine bS ?_ GE504.out) | exact HB.out)) hb); clear BK504; clear HB; have BK504 := n0_; have HB := n1_; clear n0_ n1_; (try clear hb); (try clear hb2); (try clear hk); (try clear hi); have hcz20_0 : w19.cell? ⟨gb504, 0, none⟩ = some (.int .i64 a0_0) := (bc BK504.out 0).trans rfl; have hcz20_1 : w19.cell? ⟨gb504, 1, none⟩ = some (.int .i64 a0_1) := (bc BK504.out 1).trans rfl; have hcz20_2 : w19.cell? ⟨gb504, 2, none⟩ = some (.int .i64 a0_2) := (bc BK504.out 2).trans rfl; have hcz20_3 : w19.cell? ⟨gb504, 3, none⟩ = some (.int .i64 a0_3) := (bc BK504.out 3).trans rfl; have hcz20_4 : w19.cell? ⟨gb504, 4, none⟩ = some (.int .i64 a0_4) := (bc BK504.out 4).trans rfl; have hcz20_5 : w19.cell? ⟨gb504, 5, none⟩ = some (.int .i64 a0_5) := (bc BK504.out 5).trans rfl; have hcz20_6 : w19.cell? ⟨gb504, 6, none⟩ = some (.int .i64 a0_6) := (bc BK504.out 6).trans rfl; have hcz20_7 : w19.cell? ⟨gb504, 7, none⟩ = some (.int .i64 a0_7) := (bc BK504.out 7).trans rfl; have hfz20_0 := bf BK504.out 0; have hfz20_1 := bf BK504.out 1; have hfz20_2 := bf BK504.out 2; have hfz20_3 := bf BK504.out 3; have hfz20_4 := bf BK504.out 4; have hfz20_5 := bf BK504.out 5; have hfz20_6 := bf BK504.out 6; have hfz20_7 := bf BK504.out 7) | (go_at_call 33; (with_reducible refine (impl_InRange.calls a0_5 1 30 false _ A4.out).mono ?_); rintro e w' ⟨rfl, ⟨nd, rfl⟩⟩))
  go_ret
  exact ⟨by first | rfl | (simp [errW_none, errW_some] <;> rfl) | (simp [*, errW_none, errW_some] <;> rfl), by repeat (first | (with_reducible first | exact HB.out | apply bA | apply bN | apply below_drew1 | refine bS ?_ GE504.out) | exact HB.out)⟩
 subst c5
 have H1 : ((impl_InRange.f a0_6 0 100000).bind fun t507 => (if t507 = true then ((impl_InRange.f a0_7 0 999).bind fun t508 => (some t508)) else (some false))) = some r := by rw [if_pos rfl] at H; exact H
 clear H
 have H := H1
 clear H1
 replace H := Option.bind_eq_some_iff.mp H
 obtain ⟨t507, A60, H⟩ := H
 replace H : (if t507 = true then ((impl_InRange.f a0_7 0 999).bind fun t508 => (some t508)) else (some false)) = some r := H
 have A6 := zK A60
 clear A60
 by_cases c7 : t507 = true
 rotate_left
 ·replace c7 := Bool.eq_false_iff.mpr c7
  subst c7
  have H1 : (some false) = some r := by rw [if_neg (show ¬ (false = true) by decide)] at H; exact H
  clear H
  have H := H1
  clear H1
  obtain rfl := Option.some.inj H
  go_enter Try.func25, Try.ntmps25
  go_wp2_with (first | ((with_reducible refine gate_dst (N := 1) rfl ?_); refine box_event ?hg (N := 1) ?hd (cs := #[.int .i64 a0_0, .int .i64 a0_1, .int .i64 a0_2, .int .i64 a0_3, .int .i64 a0_4, .int .i64 a0_5, .int .i64 a0_6, .int .i64 a0_7]) (t := 29) ?hr ?_; (case hd => rfl); (case hg => rfl); (case hr => first | (go_simp; done) | (go_simp; rfl)); intro gb504 hg w13 hbox hb; have n0_ := zK (bT (qB HB.out) hb); have n1_ := zK (hbox); have n2_ := zK ((by rw [hg]; exact (bZ (qB HB.out)) : w.heap.size ≤ gb504)); have n3_ := zK ((by rw [hg]; exact (bZ (qB HB.out)) : w.heap.size ≤ gb504)); clear HB; have HB := n0_; have BK504 := n1_; have GW504 := n2_; have GE504 := n3_; clear n0_ n1_ n2_ n3_; clear hb hbox hg; have hcz14_0 : w13.cell? ⟨gb504, 0, none⟩ = some (.int .i64 a0_0) := (bc BK504.out 0).trans rfl; have hcz14_1 : w13.cell? ⟨gb504, 1, none⟩ = some (.int .i64 a0_1) := (bc BK504.out 1).trans rfl; have hcz14_2 : w13.cell? ⟨gb504, 2, none⟩ = some (.int .i64 a0_2) := (bc BK504.out 2).trans rfl; have hcz14_3 : w13.cell? ⟨gb504, 3, none⟩ = some (.int .i64 a0_3) := (bc BK504.out 3).trans rfl; have hcz14_4 : w13.cell? ⟨gb504, 4, none⟩ = some (.int .i64 a0_4) := (bc BK504.out 4).trans rfl; have hcz14_5 : w13.cell? ⟨gb504, 5, none⟩ = some (.int .i64 a0_5) := (bc BK504.out 5).trans rfl; have hcz14_6 : w13.cell? ⟨gb504, 6, none⟩ = some (.int .i64 a0_6) := (bc BK504.out 6).trans rfl; have hcz14_7 : w13.cell? ⟨gb504, 7, none⟩ = some (.int .i64 a0_7) := (bc BK504.out 7).trans rfl; have hfz14_0 := bf BK504.out 0; have hfz14_1 := bf BK504.out 1; have hfz14_2 := bf BK504.out 2; have hfz14_3 := bf BK504.out 3; have hfz14_4 := bf BK504.out 4; have hfz14_5 := bf BK504.out 5; have hfz14_6 := bf BK504.out 6; have hfz14_7 := bf BK504.out 7) | ((with_reducible refine gate_callee (f := 32) rfl ?_); refine goesL_ (some 5) rfl rfl Try.func32 (by kernel_rfl) rfl #[.agg #[.int .i64 a0_0, .int .i64 a0_1, .int .i64 a0_2, .int .i64 a0_3, .int .i64 a0_4]] rfl m0 ?_; (with_reducible refine (impl_IsThing.calls a0_0 a0_1 a0_2 a0_3 a0_4 true _ A2.out).mono ?_); rintro e w15 ⟨rfl, hb⟩; refine ⟨_, rfl, ?_⟩; have n0_ := zK (bB (g := gb504) (o := .cells #[.int .i64 a0_0, .int .i64 a0_1, .int .i64 a0_2, .int .i64 a0_3, .int .i64 a0_4, .int .i64 a0_5, .int .i64 a0_6, .int .i64 a0_7] 29 (0, 0)) (qK BK504.out) hb); have n1_ := zK (bT (by repeat (first | (with_reducible first | exact HB.out | apply bA | apply bN | apply below_drew1 | refine bS ?_ GE504.out) | exact HB.out)) hb); clear BK504; clear HB; have BK504 := n0_; have HB := n1_; clear n0_ n1_; (try clear hb); (try clear hb2); (try clear hk); (try clear hi); have hcz16_0 : w15.cell? ⟨gb504, 0, none⟩ = some (.int .i64 a0_0) := (bc BK504.out 0).trans rfl; have hcz16_1 : w15.cell? ⟨gb504, 1, none⟩ = some (.int .i64 a0_1) := (bc BK504.out 1).trans rfl; have hcz16_2 : w15.cell? ⟨gb504, 2, none⟩ = some (.int .i64 a0_2) := (bc BK504.out 2).trans rfl; have hcz16_3 : w15.cell? ⟨gb504, 3, none⟩ = some (.int .i64 a0_3) := (bc BK504.out 3).trans rfl; have hcz16_4 : w15.cell? ⟨gb504, 4, none⟩ = some (.int .i64 a0_4) := (bc BK504.out 4).trans rfl; have hcz16_5 : w15.cell? ⟨gb504, 5, none⟩ = some (.int .i64 a0_5) := (bc BK504.out 5).trans rfl; have hcz16_6 : w15.cell? ⟨gb504, 6, none⟩ = some (.int .i64 a0_6) := (bc BK504.out 6).trans rfl; have hcz16_7 : w15.cell? ⟨gb504, 7, none⟩ = some (.int .i64 a0_7) := (bc BK504.out 7).trans rfl; have hfz16_0 := bf BK504.out 0; have hfz16_1 := bf BK504.out 1; have hfz16_2 := bf BK504.out 2; have hfz16_3 := bf BK504.out 3; have hfz16_4 := bf BK504.out 4; have hfz16_5 := bf BK504.out 5; have hfz16_6 := bf BK504.out 6; have hfz16_7 := bf BK504.out 7) | (go_at_call 33; (with_reducible refine (impl_InRange.calls a0_5 1 30 true _ A4.out).mono ?_); rintro e w' ⟨rfl, ⟨nd, rfl⟩⟩) | (go_at_call 33; (with_reducible refine (impl_InRange.calls a0_6 0 100000 false _ A6.out).mono ?_); rintro e w' ⟨rfl, ⟨nd, rfl⟩⟩))
  go_ret
  exact ⟨by first | rfl | (simp [errW_none, errW_some] <;> rfl) | (simp [*, errW_none, errW_some] <;> rfl), by repeat (first | (with_reducible first | exact HB.out | apply bA | apply bN | apply below_drew1 | refine bS ?_ GE504.out) | exact HB.out)⟩
 subst c7
 have H1 : ((impl_InRange.f a0_7 0 999).bind fun t508 => (some t508)) = some r := by rw [if_pos rfl] at H; exact H
 clear H
 have H := H1
 clear H1
 replace H := Option.bind_eq_some_iff.mp H
 obtain ⟨t508, A80, H⟩ := H
 replace H : (some t508) = some r := H
 have A8 := zK A80
 clear A80
 obtain rfl := Option.some.inj H
 go_enter Try.func25, Try.ntmps25
 go_wp2_with (first | ((with_reducible refine gate_dst (N := 1) rfl ?_); refine box_event ?hg (N := 1) ?hd (cs := #[.int .i64 a0_0, .int .i64 a0_1, .int .i64 a0_2, .int .i64 a0_3, .int .i64 a0_4, .int .i64 a0_5, .int .i64 a0_6, .int .i64 a0_7]) (t := 29) ?hr ?_; (case hd => rfl); (case hg => rfl); (case hr => first | (go_simp; done) | (go_simp; rfl)); intro gb504 hg w9 hbox hb; have n0_ := zK (bT (qB HB.out) hb); have n1_ := zK (hbox); have n2_ := zK ((by rw [hg]; exact (bZ (qB HB.out)) : w.heap.size ≤ gb504)); have n3_ := zK ((by rw [hg]; exact (bZ (qB HB.out)) : w.heap.size ≤ gb504)); clear HB; have HB := n0_; have BK504 := n1_; have GW504 := n2_; have GE504 := n3_; clear n0_ n1_ n2_ n3_; clear hb hbox hg; have hcz10_0 : w9.cell? ⟨gb504, 0, none⟩ = some (.int .i64 a0_0) := (bc BK504.out 0).trans rfl; have hcz10_1 : w9.cell? ⟨gb504, 1, none⟩ = some (.int .i64 a0_1) := (bc BK504.out 1).trans rfl; have hcz10_2 : w9.cell? ⟨gb504, 2, none⟩ = some (.int .i64 a0_2) := (bc BK504.out 2).trans rfl; have hcz10_3 : w9.cell? ⟨gb504, 3, none⟩ = some (.int .i64 a0_3) := (bc BK504.out 3).trans rfl; have hcz10_4 : w9.cell? ⟨gb504, 4, none⟩ = some (.int .i64 a0_4) := (bc BK504.out 4).trans rfl; have hcz10_5 : w9.cell? ⟨gb504, 5, none⟩ = some (.int .i64 a0_5) := (bc BK504.out 5).trans rfl; have hcz10_6 : w9.cell? ⟨gb504, 6, none⟩ = some (.int .i64 a0_6) := (bc BK504.out 6).trans rfl; have hcz10_7 : w9.cell? ⟨gb504, 7, none⟩ = some (.int .i64 a0_7) := (bc BK504.out 7).trans rfl; have hfz10_0 := bf BK504.out 0; have hfz10_1 := bf BK504.out 1; have hfz10_2 := bf BK504.out 2; have hfz10_3 := bf BK504.out 3; have hfz10_4 := bf BK504.out 4; have hfz10_5 := bf BK504.out 5; have hfz10_6 := bf BK504.out 6; have hfz10_7 := bf BK504.out 7) | ((with_reducible refine gate_callee (f := 32) rfl ?_); refine goesL_ (some 5) rfl rfl Try.func32 (by kernel_rfl) rfl #[.agg #[.int .i64 a0_0, .int .i64 a0_1, .int .i64 a0_2, .int .i64 a0_3, .int .i64 a0_4]] rfl m0 ?_; (with_reducible refine (impl_IsThing.calls a0_0 a0_1 a0_2 a0_3 a0_4 true _ A2.out).mono ?_); rintro e w11 ⟨rfl, hb⟩; refine ⟨_, rfl, ?_⟩; have n0_ := zK (bB (g := gb504) (o := .cells #[.int .i64 a0_0, .int .i64 a0_1, .int .i64 a0_2, .int .i64 a0_3, .int .i64 a0_4, .int .i64 a0_5, .int .i64 a0_6, .int .i64 a0_7] 29 (0, 0)) (qK BK504.out) hb); have n1_ := zK (bT (by repeat (first | (with_reducible first | exact HB.out | apply bA | apply bN | apply below_drew1 | refine bS ?_ GE504.out) | exact HB.out)) hb); clear BK504; clear HB; have BK504 := n0_; have HB := n1_; clear n0_ n1_; (try clear hb); (try clear hb2); (try clear hk); (try clear hi); have hcz12_0 : w11.cell? ⟨gb504, 0, none⟩ = some (.int .i64 a0_0) := (bc BK504.out 0).trans rfl; have hcz12_1 : w11.cell? ⟨gb504, 1, none⟩ = some (.int .i64 a0_1) := (bc BK504.out 1).trans rfl; have hcz12_2 : w11.cell? ⟨gb504, 2, none⟩ = some (.int .i64 a0_2) := (bc BK504.out 2).trans rfl; have hcz12_3 : w11.cell? ⟨gb504, 3, none⟩ = some (.int .i64 a0_3) := (bc BK504.out 3).trans rfl; have hcz12_4 : w11.cell? ⟨gb504, 4, none⟩ = some (.int .i64 a0_4) := (bc BK504.out 4).trans rfl; have hcz12_5 : w11.cell? ⟨gb504, 5, none⟩ = some (.int .i64 a0_5) := (bc BK504.out 5).trans rfl; have hcz12_6 : w11.cell? ⟨gb504, 6, none⟩ = some (.int .i64 a0_6) := (bc BK504.out 6).trans rfl; have hcz12_7 : w11.cell? ⟨gb504, 7, none⟩ = some (.int .i64 a0_7) := (bc BK504.out 7).trans rfl; have hfz12_0 := bf BK504.out 0; have hfz12_1 := bf BK504.out 1; have hfz12_2 := bf BK504.out 2; have hfz12_3 := bf BK504.out 3; have hfz12_4 := bf BK504.out 4; have hfz12_5 := bf BK504.out 5; have hfz12_6 := bf BK504.out 6; have hfz12_7 := bf BK504.out 7) | (go_at_call 33; (with_reducible refine (impl_InRange.calls a0_5 1 30 true _ A4.out).mono ?_); rintro e w' ⟨rfl, ⟨nd, rfl⟩⟩) | (go_at_call 33; (with_reducible refine (impl_InRange.calls a0_6 0 100000 true _ A6.out).mono ?_); rintro e w' ⟨rfl, ⟨nd, rfl⟩⟩) | (go_at_call 33; (with_reducible refine (impl_InRange.calls a0_7 0 999 t508 _ A8.out).mono ?_); rintro e w' ⟨rfl, ⟨nd, rfl⟩⟩))
 go_ret
 exact ⟨by first | rfl | (simp [errW_none, errW_some] <;> rfl) | (simp [*, errW_none, errW_some] <;> rfl), by repeat (first | (with_reducible first | exact HB.out | apply bA | apply bN | apply below_drew1 | refine bS ?_ GE504.out) | exact HB.out)⟩
/-! ### impl_KeepDays: function 34 -/
def impl_KeepDays.j0 : Nat → Int → Bool → Option (Int)
 | 0, _, _ => none
 | k + 1, x3, x6 => if x6 = true then (some 180) else (if x3 = 1 then (some 90) else (if x3 = 2 then (some 90) else (if x3 = 3 then (some 90) else (if x3 = 6 then (some 90) else (if x3 = 8 then (some 90) else (some 0))))))
def impl_KeepDays.f (k : Nat) (a0 : Int) : Option (Int) := if a0 = 7 then (some 1) else (if a0 = 4 then (impl_KeepDays.j0 k a0 (a0 == 4)) else (impl_KeepDays.j0 k a0 (a0 == 5)))
set_option maxHeartbeats 8000000 in
set_option maxRecDepth 100000 in
theorem impl_KeepDays.calls (k : Nat) (a0 : Int) (r : Int) (w : World) (h : impl_KeepDays.f k a0 = some r) :
  Calls Try.prog 34 #[.int .i64 a0] w fun e w' => e = .returned (.int .i64 r) ∧ Drawn0 w w' := by
 have H : (if a0 = 7 then (some 1) else (if a0 = 4 then (impl_KeepDays.j0 k a0 (a0 == 4)) else (impl_KeepDays.j0 k a0 (a0 == 5)))) = some r := h
 clear h
 by_cases c2 : a0 = 7
 ·rw [if_pos c2] at H
  have c2b0 : (a0 == 7) = true := beq_iff_eq.mpr c2
  have c2b1 : (a0 != 7) = false := bne_eq_false_iff_eq.mpr c2
  clear c2
  obtain rfl := Option.some.inj H
  go_enter Try.func34, Try.ntmps34
  go_wp2
  go_ret
  exact ⟨by first | rfl | (simp; done) | (simp [*]; done), by repeat (first | exact Drawn0.refl _ | apply Drawn0.step)⟩
 rw [if_neg c2] at H
 have c2b0 : (a0 == 7) = false := beq_eq_false_iff_ne.mpr c2
 have c2b1 : (a0 != 7) = true := bne_iff_ne.mpr c2
 have HC3 := zK H
 clear H
 go_enter Try.func34, Try.ntmps34
 go_upto_if 6 with (fail)
 go_cut [6] (fun v6 wc => ∃ (kq : Nat) (x6_2 : Bool), v6 = .bool x6_2 ∧ Aside0 (impl_KeepDays.j0 kq a0 x6_2 = some r) ∧ Aside0 (kq ≤ k) ∧ Drawn0 w wc)
 case first =>
  have H := HC3.out
  clear HC3
  by_cases c4 : a0 = 4
  rotate_left
  ·rw [if_neg c4] at H
   have c4b0 : (a0 == 4) = false := beq_eq_false_iff_ne.mpr c4
   have c4b1 : (a0 != 4) = true := bne_iff_ne.mpr c4
   (first | rw [c4b0] | rw [c4b1] | (simp only [i64_w, i32_w]; rw [c4b0]) | skip)
   have H' := zK H
   clear H
   go_wp2
   go_meet
   case rel => exact ⟨_, ((a0 == 5)), m9, H', ⟨by first | omega | exact Nat.le_refl _⟩, by repeat (first | exact Drawn0.refl _ | apply Drawn0.step)⟩
  rw [if_pos c4] at H
  have c4b0 : (a0 == 4) = true := beq_iff_eq.mpr c4
  have c4b1 : (a0 != 4) = false := bne_eq_false_iff_eq.mpr c4
  clear c4
  (first | rw [c4b0] | rw [c4b1] | (simp only [i64_w, i32_w]; rw [c4b0]) | skip)
  have H' := zK H
  clear H
  go_wp2
  go_meet
  case rel => exact ⟨_, ((a0 == 4)), m9, H', ⟨by first | omega | exact Nat.le_refl _⟩, by repeat (first | exact Drawn0.refl _ | apply Drawn0.step)⟩
 case rest =>
  clear HC3
  try clear c2
  try clear c2b0
  try clear c2b1
  try clear p2
  try clear c3
  try clear c4
  try clear c4b0
  try clear c4b1
  obtain ⟨kq, x6_2, rfl, HA, HJ2, ⟨mc2, rfl⟩⟩ := hcut
  cases kq with
  | zero => exact absurd HA.out (by simp [impl_KeepDays.j0])
  | succ kj2 =>
   have H := HA.out
   clear HA
   simp only [impl_KeepDays.j0] at H
   by_cases c5 : x6_2 = true
   ·subst c5
    have H1 : (some 180) = some r := by rw [if_pos rfl] at H; exact H
    clear H
    have H := H1
    clear H1
    obtain rfl := Option.some.inj H
    go_wp2
    go_ret
    exact ⟨by first | rfl | (simp; done) | (simp [*]; done), by repeat (first | exact Drawn0.refl _ | apply Drawn0.step)⟩
   replace c5 := Bool.eq_false_iff.mpr c5
   subst c5
   have H1 : (if a0 = 1 then (some 90) else (if a0 = 2 then (some 90) else (if a0 = 3 then (some 90) else (if a0 = 6 then (some 90) else (if a0 = 8 then (some 90) else (some 0)))))) = some r := by rw [if_neg (show ¬ (false = true) by decide)] at H; exact H
   clear H
   have H := H1
   clear H1
   by_cases c6 : a0 = 1
   ·rw [if_pos c6] at H
    have c6b0 : (a0 == 1) = true := beq_iff_eq.mpr c6
    have c6b1 : (a0 != 1) = false := bne_eq_false_iff_eq.mpr c6
    clear c6
    obtain rfl := Option.some.inj H
    go_wp2
    go_ret
    exact ⟨by first | rfl | (simp; done) | (simp [*]; done), by repeat (first | exact Drawn0.refl _ | apply Drawn0.step)⟩
   rw [if_neg c6] at H
   have c6b0 : (a0 == 1) = false := beq_eq_false_iff_ne.mpr c6
   have c6b1 : (a0 != 1) = true := bne_iff_ne.mpr c6
   by_cases c7 : a0 = 2
   ·rw [if_pos c7] at H
    have c7b0 : (a0 == 2) = true := beq_iff_eq.mpr c7
    have c7b1 : (a0 != 2) = false := bne_eq_false_iff_eq.mpr c7
    clear c7
    obtain rfl := Option.some.inj H
    go_wp2
    go_ret
    exact ⟨by first | rfl | (simp; done) | (simp [*]; done), by repeat (first | exact Drawn0.refl _ | apply Drawn0.step)⟩
   rw [if_neg c7] at H
   have c7b0 : (a0 == 2) = false := beq_eq_false_iff_ne.mpr c7
   have c7b1 : (a0 != 2) = true := bne_iff_ne.mpr c7
   by_cases c8 : a0 = 3
   ·rw [if_pos c8] at H
    have c8b0 : (a0 == 3) = true := beq_iff_eq.mpr c8
    have c8b1 : (a0 != 3) = false := bne_eq_false_iff_eq.mpr c8
    clear c8
    obtain rfl := Option.some.inj H
    go_wp2
    go_ret
    exact ⟨by first | rfl | (simp; done) | (simp [*]; done), by repeat (first | exact Drawn0.refl _ | apply Drawn0.step)⟩
   rw [if_neg c8] at H
   have c8b0 : (a0 == 3) = false := beq_eq_false_iff_ne.mpr c8
   have c8b1 : (a0 != 3) = true := bne_iff_ne.mpr c8
   by_cases c9 : a0 = 6
   ·rw [if_pos c9] at H
    have c9b0 : (a0 == 6) = true := beq_iff_eq.mpr c9
    have c9b1 : (a0 != 6) = false := bne_eq_false_iff_eq.mpr c9
    clear c9
    obtain rfl := Option.some.inj H
    go_wp2
    go_ret
    exact ⟨by first | rfl | (simp; done) | (simp [*]; done), by repeat (first | exact Drawn0.refl _ | apply Drawn0.step)⟩
   rw [if_neg c9] at H
   have c9b0 : (a0 == 6) = false := beq_eq_false_iff_ne.mpr c9
   have c9b1 : (a0 != 6) = true := bne_iff_ne.mpr c9
   by_cases c10 : a0 = 8
   rotate_left
   ·rw [if_neg c10] at H
    have c10b0 : (a0 == 8) = false := beq_eq_false_iff_ne.mpr c10
    have c10b1 : (a0 != 8) = true := bne_iff_ne.mpr c10
    obtain rfl := Option.some.inj H
    go_wp2
    go_ret
    exact ⟨by first | rfl | (simp; done) | (simp [*]; done), by repeat (first | exact Drawn0.refl _ | apply Drawn0.step)⟩
   rw [if_pos c10] at H
   have c10b0 : (a0 == 8) = true := beq_iff_eq.mpr c10
   have c10b1 : (a0 != 8) = false := bne_eq_false_iff_eq.mpr c10
   clear c10
   obtain rfl := Option.some.inj H
   go_wp2
   go_ret
   exact ⟨by first | rfl | (simp; done) | (simp [*]; done), by repeat (first | exact Drawn0.refl _ | apply Drawn0.step)⟩
/-! ### impl_DueHour: function 26 -/
def impl_DueHour.f (k : Nat) (a0_0 : Int) (a0_1 : Int) (a0_2 : Int) (a0_3 : Int) (a0_4 : Int) (a0_5 : Int) (a0_6 : Int) (a0_7 : Int) : Option (Int) := (impl_IsFind.f a0_0 a0_1 a0_2 a0_3 a0_4 a0_5 a0_6 a0_7).bind fun t510 => (if t510 = true then ((impl_KeepDays.f k a0_1).bind fun t511 => (some (wrap64 (a0_6 + (wrap64 (24 * t511)))))) else (some (-1)))
set_option maxHeartbeats 8000000 in
set_option maxRecDepth 100000 in
theorem impl_DueHour.calls (k : Nat) (a0_0 : Int) (a0_1 : Int) (a0_2 : Int) (a0_3 : Int) (a0_4 : Int) (a0_5 : Int) (a0_6 : Int) (a0_7 : Int) (r : Int) (w : World) (h : impl_DueHour.f k a0_0 a0_1 a0_2 a0_3 a0_4 a0_5 a0_6 a0_7 = some r) :
  Calls Try.prog 26 #[.agg #[.int .i64 a0_0, .int .i64 a0_1, .int .i64 a0_2, .int .i64 a0_3, .int .i64 a0_4, .int .i64 a0_5, .int .i64 a0_6, .int .i64 a0_7]] w fun e w' => e = .returned (.int .i64 r) ∧ Below w.heap.size w w' := by
 have hu29 := Try.underlying29
 have HB := zK (Below.refl w.heap.size w)
 have H : ((impl_IsFind.f a0_0 a0_1 a0_2 a0_3 a0_4 a0_5 a0_6 a0_7).bind fun t510 => (if t510 = true then ((impl_KeepDays.f k a0_1).bind fun t511 => (some (wrap64 (a0_6 + (wrap64 (24 * t511)))))) else (some (-1)))) = some r := h
 clear h
 replace H := Option.bind_eq_some_iff.mp H
 obtain ⟨t510, A20, H⟩ := H
 replace H : (if t510 = true then ((impl_KeepDays.f k a0_1).bind fun t511 => (some (wrap64 (a0_6 + (wrap64 (24 * t511)))))) else (some (-1))) = some r := H
 have A2 := zK A20
 clear A20
 by_cases c3 : t510 = true
 rotate_left
 ·replace c3 := Bool.eq_false_iff.mpr c3
  subst c3
  have H1 : (some (-1)) = some r := by rw [if_neg (show ¬ (false = true) by decide)] at H; exact H
  clear H
  have H := H1
  clear H1
  obtain rfl := Option.some.inj H
  go_enter Try.func26, Try.ntmps26
  go_wp2_with (first | ((with_reducible refine gate_dst (N := 1) rfl ?_); refine box_event ?hg (N := 1) ?hd (cs := #[.int .i64 a0_0, .int .i64 a0_1, .int .i64 a0_2, .int .i64 a0_3, .int .i64 a0_4, .int .i64 a0_5, .int .i64 a0_6, .int .i64 a0_7]) (t := 29) ?hr ?_; (case hd => rfl); (case hg => rfl); (case hr => first | (go_simp; done) | (go_simp; rfl)); intro gb509 hg w9 hbox hb; have n0_ := zK (bT (qB HB.out) hb); have n1_ := zK (hbox); have n2_ := zK ((by rw [hg]; exact (bZ (qB HB.out)) : w.heap.size ≤ gb509)); have n3_ := zK ((by rw [hg]; exact (bZ (qB HB.out)) : w.heap.size ≤ gb509)); clear HB; have HB := n0_; have BK509 := n1_; have GW509 := n2_; have GE509 := n3_; clear n0_ n1_ n2_ n3_; clear hb hbox hg; have hcz10_0 : w9.cell? ⟨gb509, 0, none⟩ = some (.int .i64 a0_0) := (bc BK509.out 0).trans rfl; have hcz10_1 : w9.cell? ⟨gb509, 1, none⟩ = some (.int .i64 a0_1) := (bc BK509.out 1).trans rfl; have hcz10_2 : w9.cell? ⟨gb509, 2, none⟩ = some (.int .i64 a0_2) := (bc BK509.out 2).trans rfl; have hcz10_3 : w9.cell? ⟨gb509, 3, none⟩ = some (.int .i64 a0_3) := (bc BK509.out 3).trans rfl; have hcz10_4 : w9.cell? ⟨gb509, 4, none⟩ = some (.int .i64 a0_4) := (bc BK509.out 4).trans rfl; have hcz10_5 : w9.cell? ⟨gb509, 5, none⟩ = some (.int .i64 a0_5) := (bc BK509.out 5).trans rfl; have hcz10_6 : w9.cell? ⟨gb509, 6, none⟩ = some (.int .i64 a0_6) := (bc BK509.out 6).trans rfl; have hcz10_7 : w9.cell? ⟨gb509, 7, none⟩ = some (.int .i64 a0_7) := (bc BK509.out 7).trans rfl; have hfz10_0 := bf BK509.out 0; have hfz10_1 := bf BK509.out 1; have hfz10_2 := bf BK509.out 2; have hfz10_3 := bf BK509.out 3; have hfz10_4 := bf BK509.out 4; have hfz10_5 := bf BK509.out 5; have hfz10_6 := bf BK509.out 6; have hfz10_7 := bf BK509.out 7) | (go_at_call 25; (with_reducible refine (impl_IsFind.calls a0_0 a0_1 a0_2 a0_3 a0_4 a0_5 a0_6 a0_7 false _ A2.out).mono ?_); rintro e w11 ⟨rfl, hb⟩; have n0_ := zK (bB (g := gb509) (o := .cells #[.int .i64 a0_0, .int .i64 a0_1, .int .i64 a0_2, .int .i64 a0_3, .int .i64 a0_4, .int .i64 a0_5, .int .i64 a0_6, .int .i64 a0_7] 29 (0, 0)) (qK BK509.out) hb); have n1_ := zK (bT m24 hb); clear BK509; clear HB; have BK509 := n0_; have HB := n1_; clear n0_ n1_; (try clear hb); (try clear hb2); (try clear hk); (try clear hi)))
  repeat (go_quiet (first | ((with_reducible refine gate_dst (N := 1) rfl ?_); refine box_event ?hg (N := 1) ?hd (cs := #[.int .i64 a0_0, .int .i64 a0_1, .int .i64 a0_2, .int .i64 a0_3, .int .i64 a0_4, .int .i64 a0_5, .int .i64 a0_6, .int .i64 a0_7]) (t := 29) ?hr ?_; (case hd => rfl); (case hg => rfl); (case hr => first | (go_simp; done) | (go_simp; rfl)); intro gb509 hg w9 hbox hb; have n0_ := zK (bT (qB HB.out) hb); have n1_ := zK (hbox); have n2_ := zK ((by rw [hg]; exact (bZ (qB HB.out)) : w.heap.size ≤ gb509)); have n3_ := zK ((by rw [hg]; exact (bZ (qB HB.out)) : w.heap.size ≤ gb509)); clear HB; have HB := n0_; have BK509 := n1_; have GW509 := n2_; have GE509 := n3_; clear n0_ n1_ n2_ n3_; clear hb hbox hg; have hcz10_0 : w9.cell? ⟨gb509, 0, none⟩ = some (.int .i64 a0_0) := (bc BK509.out 0).trans rfl; have hcz10_1 : w9.cell? ⟨gb509, 1, none⟩ = some (.int .i64 a0_1) := (bc BK509.out 1).trans rfl; have hcz10_2 : w9.cell? ⟨gb509, 2, none⟩ = some (.int .i64 a0_2) := (bc BK509.out 2).trans rfl; have hcz10_3 : w9.cell? ⟨gb509, 3, none⟩ = some (.int .i64 a0_3) := (bc BK509.out 3).trans rfl; have hcz10_4 : w9.cell? ⟨gb509, 4, none⟩ = some (.int .i64 a0_4) := (bc BK509.out 4).trans rfl; have hcz10_5 : w9.cell? ⟨gb509, 5, none⟩ = some (.int .i64 a0_5) := (bc BK509.out 5).trans rfl; have hcz10_6 : w9.cell? ⟨gb509, 6, none⟩ = some (.int .i64 a0_6) := (bc BK509.out 6).trans rfl; have hcz10_7 : w9.cell? ⟨gb509, 7, none⟩ = some (.int .i64 a0_7) := (bc BK509.out 7).trans rfl; have hfz10_0 := bf BK509.out 0; have hfz10_1 := bf BK509.out 1; have hfz10_2 := bf BK509.out 2; have hfz10_3 := bf BK509.out 3; have hfz10_4 := bf BK509.out 4; have hfz10_5 := bf BK509.out 5; have hfz10_6 := bf BK509.out 6; have hfz10_7 := bf BK509.out 7) | (go_at_call 25; (with_reducible refine (impl_IsFind.calls a0_0 a0_1 a0_2 a0_3 a0_4 a0_5 a0_6 a0_7 false _ A2.out).mono ?_); rintro e w11 ⟨rfl, hb⟩; have n0_ := zK (bB (g := gb509) (o := .cells #[.int .i64 a0_0, .int .i64 a0_1, .int .i64 a0_2, .int .i64 a0_3, .int .i64 a0_4, .int .i64 a0_5, .int .i64 a0_6, .int .i64 a0_7] 29 (0, 0)) (qK BK509.out) hb); have n1_ := zK (bT m24 hb); clear BK509; clear HB; have BK509 := n0_; have HB := n1_; clear n0_ n1_; (try clear hb); (try clear hb2); (try clear hk); (try clear hi))); try go_wp2_with (first | ((with_reducible refine gate_dst (N := 1) rfl ?_); refine box_event ?hg (N := 1) ?hd (cs := #[.int .i64 a0_0, .int .i64 a0_1, .int .i64 a0_2, .int .i64 a0_3, .int .i64 a0_4, .int .i64 a0_5, .int .i64 a0_6, .int .i64 a0_7]) (t := 29) ?hr ?_; (case hd => rfl); (case hg => rfl); (case hr => first | (go_simp; done) | (go_simp; rfl)); intro gb509 hg w9 hbox hb; have n0_ := zK (bT (qB HB.out) hb); have n1_ := zK (hbox); have n2_ := zK ((by rw [hg]; exact (bZ (qB HB.out)) : w.heap.size ≤ gb509)); have n3_ := zK ((by rw [hg]; exact (bZ (qB HB.out)) : w.heap.size ≤ gb509)); clear HB; have HB := n0_; have BK509 := n1_; have GW509 := n2_; have GE509 := n3_; clear n0_ n1_ n2_ n3_; clear hb hbox hg; have hcz10_0 : w9.cell? ⟨gb509, 0, none⟩ = some (.int .i64 a0_0) := (bc BK509.out 0).trans rfl; have hcz10_1 : w9.cell? ⟨gb509, 1, none⟩ = some (.int .i64 a0_1) := (bc BK509.out 1).trans rfl; have hcz10_2 : w9.cell? ⟨gb509, 2, none⟩ = some (.int .i64 a0_2) := (bc BK509.out 2).trans rfl; have hcz10_3 : w9.cell? ⟨gb509, 3, none⟩ = some (.int .i64 a0_3) := (bc BK509.out 3).trans rfl; have hcz10_4 : w9.cell? ⟨gb509, 4, none⟩ = some (.int .i64 a0_4) := (bc BK509.out 4).trans rfl; have hcz10_5 : w9.cell? ⟨gb509, 5, none⟩ = some (.int .i64 a0_5) := (bc BK509.out 5).trans rfl; have hcz10_6 : w9.cell? ⟨gb509, 6, none⟩ = some (.int .i64 a0_6) := (bc BK509.out 6).trans rfl; have hcz10_7 : w9.cell? ⟨gb509, 7, none⟩ = some (.int .i64 a0_7) := (bc BK509.out 7).trans rfl; have hfz10_0 := bf BK509.out 0; have hfz10_1 := bf BK509.out 1; have hfz10_2 := bf BK509.out 2; have hfz10_3 := bf BK509.out 3; have hfz10_4 := bf BK509.out 4; have hfz10_5 := bf BK509.out 5; have hfz10_6 := bf BK509.out 6; have hfz10_7 := bf BK509.out 7) | (go_at_call 25; (with_reducible refine (impl_IsFind.calls a0_0 a0_1 a0_2 a0_3 a0_4 a0_5 a0_6 a0_7 false _ A2.out).mono ?_); rintro e w11 ⟨rfl, hb⟩; have n0_ := zK (bB (g := gb509) (o := .cells #[.int .i64 a0_0, .int .i64 a0_1, .int .i64 a0_2, .int .i64 a0_3, .int .i64 a0_4, .int .i64 a0_5, .int .i64 a0_6, .int .i64 a0_7] 29 (0, 0)) (qK BK509.out) hb); have n1_ := zK (bT m24 hb); clear BK509; clear HB; have BK509 := n0_; have HB := n1_; clear n0_ n1_; (try clear hb); (try clear hb2); (try clear hk); (try clear hi))))
  go_ret
  exact ⟨by first | rfl | (simp [errW_none, errW_some] <;> rfl) | (simp [*, errW_none, errW_some] <;> rfl), by repeat (first | (with_reducible first | exact HB.out | apply bA | apply bN | apply below_drew1 | refine bS ?_ GE509.out) | exact HB.out)⟩
 subst c3
 have H1 : ((impl_KeepDays.f k a0_1).bind fun t511 => (some (wrap64 (a0_6 + (wrap64 (24 * t511)))))) = some r := by rw [if_pos rfl] at H; exact H
 clear H
 have H := H1
 clear H1
 replace H := Option.bind_eq_some_iff.mp H
 obtain ⟨t511, A40, H⟩ := H
 replace H : (some (wrap64 (a0_6 + (wrap64 (24 * t511))))) = some r := H
 have A4 := zK A40
 clear A40
 obtain rfl := Option.some.inj H
 go_enter Try.func26, Try.ntmps26
 go_wp2_with (first | ((with_reducible refine gate_dst (N := 1) rfl ?_); refine box_event ?hg (N := 1) ?hd (cs := #[.int .i64 a0_0, .int .i64 a0_1, .int .i64 a0_2, .int .i64 a0_3, .int .i64 a0_4, .int .i64 a0_5, .int .i64 a0_6, .int .i64 a0_7]) (t := 29) ?hr ?_; (case hd => rfl); (case hg => rfl); (case hr => first | (go_simp; done) | (go_simp; rfl)); intro gb509 hg w5 hbox hb; have n0_ := zK (bT (qB HB.out) hb); have n1_ := zK (hbox); have n2_ := zK ((by rw [hg]; exact (bZ (qB HB.out)) : w.heap.size ≤ gb509)); have n3_ := zK ((by rw [hg]; exact (bZ (qB HB.out)) : w.heap.size ≤ gb509)); clear HB; have HB := n0_; have BK509 := n1_; have GW509 := n2_; have GE509 := n3_; clear n0_ n1_ n2_ n3_; clear hb hbox hg; have hcz6_0 : w5.cell? ⟨gb509, 0, none⟩ = some (.int .i64 a0_0) := (bc BK509.out 0).trans rfl; have hcz6_1 : w5.cell? ⟨gb509, 1, none⟩ = some (.int .i64 a0_1) := (bc BK509.out 1).trans rfl; have hcz6_2 : w5.cell? ⟨gb509, 2, none⟩ = some (.int .i64 a0_2) := (bc BK509.out 2).trans rfl; have hcz6_3 : w5.cell? ⟨gb509, 3, none⟩ = some (.int .i64 a0_3) := (bc BK509.out 3).trans rfl; have hcz6_4 : w5.cell? ⟨gb509, 4, none⟩ = some (.int .i64 a0_4) := (bc BK509.out 4).trans rfl; have hcz6_5 : w5.cell? ⟨gb509, 5, none⟩ = some (.int .i64 a0_5) := (bc BK509.out 5).trans rfl; have hcz6_6 : w5.cell? ⟨gb509, 6, none⟩ = some (.int .i64 a0_6) := (bc BK509.out 6).trans rfl; have hcz6_7 : w5.cell? ⟨gb509, 7, none⟩ = some (.int .i64 a0_7) := (bc BK509.out 7).trans rfl; have hfz6_0 := bf BK509.out 0; have hfz6_1 := bf BK509.out 1; have hfz6_2 := bf BK509.out 2; have hfz6_3 := bf BK509.out 3; have hfz6_4 := bf BK509.out 4; have hfz6_5 := bf BK509.out 5; have hfz6_6 := bf BK509.out 6; have hfz6_7 := bf BK509.out 7) | (go_at_call 25; (with_reducible refine (impl_IsFind.calls a0_0 a0_1 a0_2 a0_3 a0_4 a0_5 a0_6 a0_7 true _ A2.out).mono ?_); rintro e w7 ⟨rfl, hb⟩; have n0_ := zK (bB (g := gb509) (o := .cells #[.int .i64 a0_0, .int .i64 a0_1, .int .i64 a0_2, .int .i64 a0_3, .int .i64 a0_4, .int .i64 a0_5, .int .i64 a0_6, .int .i64 a0_7] 29 (0, 0)) (qK BK509.out) hb); have n1_ := zK (bT m24 hb); clear BK509; clear HB; have BK509 := n0_; have HB := n1_; clear n0_ n1_; (try clear hb); (try clear hb2); (try clear hk); (try clear hi); have hcz8_0 : w7.cell? ⟨gb509, 0, none⟩ = some (.int .i64 a0_0) := (bc BK509.out 0).trans rfl; have hcz8_1 : w7.cell? ⟨gb509, 1, none⟩ = some (.int .i64 a0_1) := (bc BK509.out 1).trans rfl; have hcz8_2 : w7.cell? ⟨gb509, 2, none⟩ = some (.int .i64 a0_2) := (bc BK509.out 2).trans rfl; have hcz8_3 : w7.cell? ⟨gb509, 3, none⟩ = some (.int .i64 a0_3) := (bc BK509.out 3).trans rfl; have hcz8_4 : w7.cell? ⟨gb509, 4, none⟩ = some (.int .i64 a0_4) := (bc BK509.out 4).trans rfl; have hcz8_5 : w7.cell? ⟨gb509, 5, none⟩ = some (.int .i64 a0_5) := (bc BK509.out 5).trans rfl; have hcz8_6 : w7.cell? ⟨gb509, 6, none⟩ = some (.int .i64 a0_6) := (bc BK509.out 6).trans rfl; have hcz8_7 : w7.cell? ⟨gb509, 7, none⟩ = some (.int .i64 a0_7) := (bc BK509.out 7).trans rfl; have hfz8_0 := bf BK509.out 0; have hfz8_1 := bf BK509.out 1; have hfz8_2 := bf BK509.out 2; have hfz8_3 := bf BK509.out 3; have hfz8_4 := bf BK509.out 4; have hfz8_5 := bf BK509.out 5; have hfz8_6 := bf BK509.out 6; have hfz8_7 := bf BK509.out 7) | (go_at_call 34; (with_reducible refine (impl_KeepDays.calls k a0_1 t511 _ A4.out).mono ?_); rintro e w' ⟨rfl, ⟨nd, rfl⟩⟩; (try first | exact ⟨rfl, _, World.drewN_drewN _ _ _⟩ | exact ⟨rfl, _, Eq.trans (World.drewN_drewN _ _ _) (congrArg (World.drewN _) (Nat.add_assoc _ _ _))⟩)))
 repeat (go_quiet (first | ((with_reducible refine gate_dst (N := 1) rfl ?_); refine box_event ?hg (N := 1) ?hd (cs := #[.int .i64 a0_0, .int .i64 a0_1, .int .i64 a0_2, .int .i64 a0_3, .int .i64 a0_4, .int .i64 a0_5, .int .i64 a0_6, .int .i64 a0_7]) (t := 29) ?hr ?_; (case hd => rfl); (case hg => rfl); (case hr => first | (go_simp; done) | (go_simp; rfl)); intro gb509 hg w5 hbox hb; have n0_ := zK (bT (qB HB.out) hb); have n1_ := zK (hbox); have n2_ := zK ((by rw [hg]; exact (bZ (qB HB.out)) : w.heap.size ≤ gb509)); have n3_ := zK ((by rw [hg]; exact (bZ (qB HB.out)) : w.heap.size ≤ gb509)); clear HB; have HB := n0_; have BK509 := n1_; have GW509 := n2_; have GE509 := n3_; clear n0_ n1_ n2_ n3_; clear hb hbox hg; have hcz6_0 : w5.cell? ⟨gb509, 0, none⟩ = some (.int .i64 a0_0) := (bc BK509.out 0).trans rfl; have hcz6_1 : w5.cell? ⟨gb509, 1, none⟩ = some (.int .i64 a0_1) := (bc BK509.out 1).trans rfl; have hcz6_2 : w5.cell? ⟨gb509, 2, none⟩ = some (.int .i64 a0_2) := (bc BK509.out 2).trans rfl; have hcz6_3 : w5.cell? ⟨gb509, 3, none⟩ = some (.int .i64 a0_3) := (bc BK509.out 3).trans rfl; have hcz6_4 : w5.cell? ⟨gb509, 4, none⟩ = some (.int .i64 a0_4) := (bc BK509.out 4).trans rfl; have hcz6_5 : w5.cell? ⟨gb509, 5, none⟩ = some (.int .i64 a0_5) := (bc BK509.out 5).trans rfl; have hcz6_6 : w5.cell? ⟨gb509, 6, none⟩ = some (.int .i64 a0_6) := (bc BK509.out 6).trans rfl; have hcz6_7 : w5.cell? ⟨gb509, 7, none⟩ = some (.int .i64 a0_7) := (bc BK509.out 7).trans rfl; have hfz6_0 := bf BK509.out 0; have hfz6_1 := bf BK509.out 1; have hfz6_2 := bf BK509.out 2; have hfz6_3 := bf BK509.out 3; have hfz6_4 := bf BK509.out 4; have hfz6_5 := bf BK509.out 5; have hfz6_6 := bf BK509.out 6; have hfz6_7 := bf BK509.out 7) | (go_at_call 25; (with_reducible refine (impl_IsFind.calls a0_0 a0_1 a0_2 a0_3 a0_4 a0_5 a0_6 a0_7 true _ A2.out).mono ?_); rintro e w7 ⟨rfl, hb⟩; have n0_ := zK (bB (g := gb509) (o := .cells #[.int .i64 a0_0, .int .i64 a0_1, .int .i64 a0_2, .int .i64 a0_3, .int .i64 a0_4, .int .i64 a0_5, .int .i64 a0_6, .int .i64 a0_7] 29 (0, 0)) (qK BK509.out) hb); have n1_ := zK (bT m24 hb); clear BK509; clear HB; have BK509 := n0_; have HB := n1_; clear n0_ n1_; (try clear hb); (try clear hb2); (try clear hk); (try clear hi); have hcz8_0 : w7.cell? ⟨gb509, 0, none⟩ = some (.int .i64 a0_0) := (bc BK509.out 0).trans rfl; have hcz8_1 : w7.cell? ⟨gb509, 1, none⟩ = some (.int .i64 a0_1) := (bc BK509.out 1).trans rfl; have hcz8_2 : w7.cell? ⟨gb509, 2, none⟩ = some (.int .i64 a0_2) := (bc BK509.out 2).trans rfl; have hcz8_3 : w7.cell? ⟨gb509, 3, none⟩ = some (.int .i64 a0_3) := (bc BK509.out 3).trans rfl; have hcz8_4 : w7.cell? ⟨gb509, 4, none⟩ = some (.int .i64 a0_4) := (bc BK509.out 4).trans rfl; have hcz8_5 : w7.cell? ⟨gb509, 5, none⟩ = some (.int .i64 a0_5) := (bc BK509.out 5).trans rfl; have hcz8_6 : w7.cell? ⟨gb509, 6, none⟩ = some (.int .i64 a0_6) := (bc BK509.out 6).trans rfl; have hcz8_7 : w7.cell? ⟨gb509, 7, none⟩ = some (.int .i64 a0_7) := (bc BK509.out 7).trans rfl; have hfz8_0 := bf BK509.out 0; have hfz8_1 := bf BK509.out 1; have hfz8_2 := bf BK509.out 2; have hfz8_3 := bf BK509.out 3; have hfz8_4 := bf BK509.out 4; have hfz8_5 := bf BK509.out 5; have hfz8_6 := bf BK509.out 6; have hfz8_7 := bf BK509.out 7) | (go_at_call 34; (with_reducible refine (impl_KeepDays.calls k a0_1 t511 _ A4.out).mono ?_); rintro e w' ⟨rfl, ⟨nd, rfl⟩⟩; (try first | exact ⟨rfl, _, World.drewN_drewN _ _ _⟩ | exact ⟨rfl, _, Eq.trans (World.drewN_drewN _ _ _) (congrArg (World.drewN _) (Nat.add_assoc _ _ _))⟩))); try go_wp2_with (first | ((with_reducible refine gate_dst (N := 1) rfl ?_); refine box_event ?hg (N := 1) ?hd (cs := #[.int .i64 a0_0, .int .i64 a0_1, .int .i64 a0_2, .int .i64 a0_3, .int .i64 a0_4, .int .i64 a0_5, .int .i64 a0_6, .int .i64 a0_7]) (t := 29) ?hr ?_; (case hd => rfl); (case hg => rfl); (case hr => first | (go_simp; done) | (go_simp; rfl)); intro gb509 hg w5 hbox hb; have n0_ := zK (bT (qB HB.out) hb); have n1_ := zK (hbox); have n2_ := zK ((by rw [hg]; exact (bZ (qB HB.out)) : w.heap.size ≤ gb509)); have n3_ := zK ((by rw [hg]; exact (bZ (qB HB.out)) : w.heap.size ≤ gb509)); clear HB; have HB := n0_; have BK509 := n1_; have GW509 := n2_; have GE509 := n3_; clear n0_ n1_ n2_ n3_; clear hb hbox hg; have hcz6_0 : w5.cell? ⟨gb509, 0, none⟩ = some (.int .i64 a0_0) := (bc BK509.out 0).trans rfl; have hcz6_1 : w5.cell? ⟨gb509, 1, none⟩ = some (.int .i64 a0_1) := (bc BK509.out 1).trans rfl; have hcz6_2 : w5.cell? ⟨gb509, 2, none⟩ = some (.int .i64 a0_2) := (bc BK509.out 2).trans rfl; have hcz6_3 : w5.cell? ⟨gb509, 3, none⟩ = some (.int .i64 a0_3) := (bc BK509.out 3).trans rfl; have hcz6_4 : w5.cell? ⟨gb509, 4, none⟩ = some (.int .i64 a0_4) := (bc BK509.out 4).trans rfl; have hcz6_5 : w5.cell? ⟨gb509, 5, none⟩ = some (.int .i64 a0_5) := (bc BK509.out 5).trans rfl; have hcz6_6 : w5.cell? ⟨gb509, 6, none⟩ = some (.int .i64 a0_6) := (bc BK509.out 6).trans rfl; have hcz6_7 : w5.cell? ⟨gb509, 7, none⟩ = some (.int .i64 a0_7) := (bc BK509.out 7).trans rfl; have hfz6_0 := bf BK509.out 0; have hfz6_1 := bf BK509.out 1; have hfz6_2 := bf BK509.out 2; have hfz6_3 := bf BK509.out 3; have hfz6_4 := bf BK509.out 4; have hfz6_5 := bf BK509.out 5; have hfz6_6 := bf BK509.out 6; have hfz6_7 := bf BK509.out 7) | (go_at_call 25; (with_reducible refine (impl_IsFind.calls a0_0 a0_1 a0_2 a0_3 a0_4 a0_5 a0_6 a0_7 true _ A2.out).mono ?_); rintro e w7 ⟨rfl, hb⟩; have n0_ := zK (bB (g := gb509) (o := .cells #[.int .i64 a0_0, .int .i64 a0_1, .int .i64 a0_2, .int .i64 a0_3, .int .i64 a0_4, .int .i64 a0_5, .int .i64 a0_6, .int .i64 a0_7] 29 (0, 0)) (qK BK509.out) hb); have n1_ := zK (bT m24 hb); clear BK509; clear HB; have BK509 := n0_; have HB := n1_; clear n0_ n1_; (try clear hb); (try clear hb2); (try clear hk); (try clear hi); have hcz8_0 : w7.cell? ⟨gb509, 0, none⟩ = some (.int .i64 a0_0) := (bc BK509.out 0).trans rfl; have hcz8_1 : w7.cell? ⟨gb509, 1, none⟩ = some (.int .i64 a0_1) := (bc BK509.out 1).trans rfl; have hcz8_2 : w7.cell? ⟨gb509, 2, none⟩ = some (.int .i64 a0_2) := (bc BK509.out 2).trans rfl; have hcz8_3 : w7.cell? ⟨gb509, 3, none⟩ = some (.int .i64 a0_3) := (bc BK509.out 3).trans rfl; have hcz8_4 : w7.cell? ⟨gb509, 4, none⟩ = some (.int .i64 a0_4) := (bc BK509.out 4).trans rfl; have hcz8_5 : w7.cell? ⟨gb509, 5, none⟩ = some (.int .i64 a0_5) := (bc BK509.out 5).trans rfl; have hcz8_6 : w7.cell? ⟨gb509, 6, none⟩ = some (.int .i64 a0_6) := (bc BK509.out 6).trans rfl; have hcz8_7 : w7.cell? ⟨gb509, 7, none⟩ = some (.int .i64 a0_7) := (bc BK509.out 7).trans rfl; have hfz8_0 := bf BK509.out 0; have hfz8_1 := bf BK509.out 1; have hfz8_2 := bf BK509.out 2; have hfz8_3 := bf BK509.out 3; have hfz8_4 := bf BK509.out 4; have hfz8_5 := bf BK509.out 5; have hfz8_6 := bf BK509.out 6; have hfz8_7 := bf BK509.out 7) | (go_at_call 34; (with_reducible refine (impl_KeepDays.calls k a0_1 t511 _ A4.out).mono ?_); rintro e w' ⟨rfl, ⟨nd, rfl⟩⟩; (try first | exact ⟨rfl, _, World.drewN_drewN _ _ _⟩ | exact ⟨rfl, _, Eq.trans (World.drewN_drewN _ _ _) (congrArg (World.drewN _) (Nat.add_assoc _ _ _))⟩))))
 go_ret
 exact ⟨by first | rfl | (simp [errW_none, errW_some] <;> rfl) | (simp [*, errW_none, errW_some] <;> rfl), by repeat (first | (with_reducible first | exact HB.out | apply bA | apply bN | apply below_drew1 | refine bS ?_ GE509.out) | exact HB.out)⟩
/-! ### impl_IsDue: function 12 -/
def impl_IsDue.f (k : Nat) (a0_0 : Int) (a0_1 : Int) (a0_2 : Int) (a0_3 : Int) (a0_4 : Int) (a0_5 : Int) (a0_6 : Int) (a0_7 : Int) (a1 : Int) : Option (Bool) := (impl_IsFind.f a0_0 a0_1 a0_2 a0_3 a0_4 a0_5 a0_6 a0_7).bind fun t513 => (if t513 = true then ((impl_DueHour.f k a0_0 a0_1 a0_2 a0_3 a0_4 a0_5 a0_6 a0_7).bind fun t514 => (some (decide (a1 ≥ t514)))) else (some false))
set_option maxHeartbeats 8000000 in
set_option maxRecDepth 100000 in
theorem impl_IsDue.calls (k : Nat) (a0_0 : Int) (a0_1 : Int) (a0_2 : Int) (a0_3 : Int) (a0_4 : Int) (a0_5 : Int) (a0_6 : Int) (a0_7 : Int) (a1 : Int) (r : Bool) (w : World) (h : impl_IsDue.f k a0_0 a0_1 a0_2 a0_3 a0_4 a0_5 a0_6 a0_7 a1 = some r) :
  Calls Try.prog 12 #[.agg #[.int .i64 a0_0, .int .i64 a0_1, .int .i64 a0_2, .int .i64 a0_3, .int .i64 a0_4, .int .i64 a0_5, .int .i64 a0_6, .int .i64 a0_7], .int .i64 a1] w fun e w' => e = .returned (.bool r) ∧ Below w.heap.size w w' := by
 have hu29 := Try.underlying29
 have HB := zK (Below.refl w.heap.size w)
 have H : ((impl_IsFind.f a0_0 a0_1 a0_2 a0_3 a0_4 a0_5 a0_6 a0_7).bind fun t513 => (if t513 = true then ((impl_DueHour.f k a0_0 a0_1 a0_2 a0_3 a0_4 a0_5 a0_6 a0_7).bind fun t514 => (some (decide (a1 ≥ t514)))) else (some false))) = some r := h
 clear h
 replace H := Option.bind_eq_some_iff.mp H
 obtain ⟨t513, A30, H⟩ := H
 replace H : (if t513 = true then ((impl_DueHour.f k a0_0 a0_1 a0_2 a0_3 a0_4 a0_5 a0_6 a0_7).bind fun t514 => (some (decide (a1 ≥ t514)))) else (some false)) = some r := H
 have A3 := zK A30
 clear A30
 by_cases c4 : t513 = true
 rotate_left
 ·replace c4 := Bool.eq_false_iff.mpr c4
  subst c4
  have H1 : (some false) = some r := by rw [if_neg (show ¬ (false = true) by decide)] at H; exact H
  clear H
  have H := H1
  clear H1
  obtain rfl := Option.some.inj H
  go_enter Try.func12, Try.ntmps12
  go_wp2_with (first | ((with_reducible refine gate_dst (N := 2) rfl ?_); refine box_event ?hg (N := 2) ?hd (cs := #[.int .i64 a0_0, .int .i64 a0_1, .int .i64 a0_2, .int .i64 a0_3, .int .i64 a0_4, .int .i64 a0_5, .int .i64 a0_6, .int .i64 a0_7]) (t := 29) ?hr ?_; (case hd => rfl); (case hg => rfl); (case hr => first | (go_simp; done) | (go_simp; rfl)); intro gb512 hg w11 hbox hb; have n0_ := zK (bT (qB HB.out) hb); have n1_ := zK (hbox); have n2_ := zK ((by rw [hg]; exact (bZ (qB HB.out)) : w.heap.size ≤ gb512)); have n3_ := zK ((by rw [hg]; exact (bZ (qB HB.out)) : w.heap.size ≤ gb512)); clear HB; have HB := n0_; have BK512 := n1_; have GW512 := n2_; have GE512 := n3_; clear n0_ n1_ n2_ n3_; clear hb hbox hg; have hcz12_0 : w11.cell? ⟨gb512, 0, none⟩ = some (.int .i64 a0_0) := (bc BK512.out 0).trans rfl; have hcz12_1 : w11.cell? ⟨gb512, 1, none⟩ = some (.int .i64 a0_1) := (bc BK512.out 1).trans rfl; have hcz12_2 : w11.cell? ⟨gb512, 2, none⟩ = some (.int .i64 a0_2) := (bc BK512.out 2).trans rfl; have hcz12_3 : w11.cell? ⟨gb512, 3, none⟩ = some (.int .i64 a0_3) := (bc BK512.out 3).trans rfl; have hcz12_4 : w11.cell? ⟨gb512, 4, none⟩ = some (.int .i64 a0_4) := (bc BK512.out 4).trans rfl; have hcz12_5 : w11.cell? ⟨gb512, 5, none⟩ = some (.int .i64 a0_5) := (bc BK512.out 5).trans rfl; have hcz12_6 : w11.cell? ⟨gb512, 6, none⟩ = some (.int .i64 a0_6) := (bc BK512.out 6).trans rfl; have hcz12_7 : w11.cell? ⟨gb512, 7, none⟩ = some (.int .i64 a0_7) := (bc BK512.out 7).trans rfl; have hfz12_0 := bf BK512.out 0; have hfz12_1 := bf BK512.out 1; have hfz12_2 := bf BK512.out 2; have hfz12_3 := bf BK512.out 3; have hfz12_4 := bf BK512.out 4; have hfz12_5 := bf BK512.out 5; have hfz12_6 := bf BK512.out 6; have hfz12_7 := bf BK512.out 7) | ((with_reducible refine gate_callee (f := 25) rfl ?_); refine goesL_ (some 6) rfl rfl Try.func25 (by kernel_rfl) rfl #[.agg #[.int .i64 a0_0, .int .i64 a0_1, .int .i64 a0_2, .int .i64 a0_3, .int .i64 a0_4, .int .i64 a0_5, .int .i64 a0_6, .int .i64 a0_7]] rfl m0 ?_; (with_reducible refine (impl_IsFind.calls a0_0 a0_1 a0_2 a0_3 a0_4 a0_5 a0_6 a0_7 false _ A3.out).mono ?_); rintro e w13 ⟨rfl, hb⟩; refine ⟨_, rfl, ?_⟩; have n0_ := zK (bB (g := gb512) (o := .cells #[.int .i64 a0_0, .int .i64 a0_1, .int .i64 a0_2, .int .i64 a0_3, .int .i64 a0_4, .int .i64 a0_5, .int .i64 a0_6, .int .i64 a0_7] 29 (0, 0)) (qK BK512.out) hb); have n1_ := zK (bT (by repeat (first | (with_reducible first | exact HB.out | apply bA | apply bN | apply below_drew1 | refine bS ?_ GE512.out) | exact HB.out)) hb); clear BK512; clear HB; have BK512 := n0_; have HB := n1_; clear n0_ n1_; (try clear hb); (try clear hb2); (try clear hk); (try clear hi)))
  go_ret
  exact ⟨by first | rfl | (simp [errW_none, errW_some] <;> rfl) | (simp [*, errW_none, errW_some] <;> rfl), by repeat (first | (with_reducible first | exact HB.out | apply bA | apply bN | apply below_drew1 | refine bS ?_ GE512.out) | exact HB.out)⟩

 subst c4
 have H1 : ((impl_DueHour.f k a0_0 a0_1 a0_2 a0_3 a0_4 a0_5 a0_6 a0_7).bind fun t514 => (some (decide (a1 ≥ t514)))) = some r := by rw [if_pos rfl] at H; exact H
 clear H
 have H := H1
 clear H1
 replace H := Option.bind_eq_some_iff.mp H
 obtain ⟨t514, A50, H⟩ := H
 replace H : (some (decide (a1 ≥ t514))) = some r := H
 have A5 := zK A50
 clear A50
 obtain rfl := Option.some.inj H
 go_enter Try.func12, Try.ntmps12
 go_wp2_with (first | ((with_reducible refine gate_dst (N := 2) rfl ?_); refine box_event ?hg (N := 2) ?hd (cs := #[.int .i64 a0_0, .int .i64 a0_1, .int .i64 a0_2, .int .i64 a0_3, .int .i64 a0_4, .int .i64 a0_5, .int .i64 a0_6, .int .i64 a0_7]) (t := 29) ?hr ?_; (case hd => rfl); (case hg => rfl); (case hr => first | (go_simp; done) | (go_simp; rfl)); intro gb512 hg w6 hbox hb; have n0_ := zK (bT (qB HB.out) hb); have n1_ := zK (hbox); have n2_ := zK ((by rw [hg]; exact (bZ (qB HB.out)) : w.heap.size ≤ gb512)); have n3_ := zK ((by rw [hg]; exact (bZ (qB HB.out)) : w.heap.size ≤ gb512)); clear HB; have HB := n0_; have BK512 := n1_; have GW512 := n2_; have GE512 := n3_; clear n0_ n1_ n2_ n3_; clear hb hbox hg; have hcz7_0 : w6.cell? ⟨gb512, 0, none⟩ = some (.int .i64 a0_0) := (bc BK512.out 0).trans rfl; have hcz7_1 : w6.cell? ⟨gb512, 1, none⟩ = some (.int .i64 a0_1) := (bc BK512.out 1).trans rfl; have hcz7_2 : w6.cell? ⟨gb512, 2, none⟩ = some (.int .i64 a0_2) := (bc BK512.out 2).trans rfl; have hcz7_3 : w6.cell? ⟨gb512, 3, none⟩ = some (.int .i64 a0_3) := (bc BK512.out 3).trans rfl; have hcz7_4 : w6.cell? ⟨gb512, 4, none⟩ = some (.int .i64 a0_4) := (bc BK512.out 4).trans rfl; have hcz7_5 : w6.cell? ⟨gb512, 5, none⟩ = some (.int .i64 a0_5) := (bc BK512.out 5).trans rfl; have hcz7_6 : w6.cell? ⟨gb512, 6, none⟩ = some (.int .i64 a0_6) := (bc BK512.out 6).trans rfl; have hcz7_7 : w6.cell? ⟨gb512, 7, none⟩ = some (.int .i64 a0_7) := (bc BK512.out 7).trans rfl; have hfz7_0 := bf BK512.out 0; have hfz7_1 := bf BK512.out 1; have hfz7_2 := bf BK512.out 2; have hfz7_3 := bf BK512.out 3; have hfz7_4 := bf BK512.out 4; have hfz7_5 := bf BK512.out 5; have hfz7_6 := bf BK512.out 6; have hfz7_7 := bf BK512.out 7) | ((with_reducible refine gate_callee (f := 25) rfl ?_); refine goesL_ (some 6) rfl rfl Try.func25 (by kernel_rfl) rfl #[.agg #[.int .i64 a0_0, .int .i64 a0_1, .int .i64 a0_2, .int .i64 a0_3, .int .i64 a0_4, .int .i64 a0_5, .int .i64 a0_6, .int .i64 a0_7]] rfl m0 ?_; (with_reducible refine (impl_IsFind.calls a0_0 a0_1 a0_2 a0_3 a0_4 a0_5 a0_6 a0_7 true _ A3.out).mono ?_); rintro e w8 ⟨rfl, hb⟩; refine ⟨_, rfl, ?_⟩; have n0_ := zK (bB (g := gb512) (o := .cells #[.int .i64 a0_0, .int .i64 a0_1, .int .i64 a0_2, .int .i64 a0_3, .int .i64 a0_4, .int .i64 a0_5, .int .i64 a0_6, .int .i64 a0_7] 29 (0, 0)) (qK BK512.out) hb); have n1_ := zK (bT (by repeat (first | (with_reducible first | exact HB.out | apply bA | apply bN | apply below_drew1 | refine bS ?_ GE512.out) | exact HB.out)) hb); clear BK512; clear HB; have BK512 := n0_; have HB := n1_; clear n0_ n1_; (try clear hb); (try clear hb2); (try clear hk); (try clear hi); have hcz9_0 : w8.cell? ⟨gb512, 0, none⟩ = some (.int .i64 a0_0) := (bc BK512.out 0).trans rfl; have hcz9_1 : w8.cell? ⟨gb512, 1, none⟩ = some (.int .i64 a0_1) := (bc BK512.out 1).trans rfl; have hcz9_2 : w8.cell? ⟨gb512, 2, none⟩ = some (.int .i64 a0_2) := (bc BK512.out 2).trans rfl; have hcz9_3 : w8.cell? ⟨gb512, 3, none⟩ = some (.int .i64 a0_3) := (bc BK512.out 3).trans rfl; have hcz9_4 : w8.cell? ⟨gb512, 4, none⟩ = some (.int .i64 a0_4) := (bc BK512.out 4).trans rfl; have hcz9_5 : w8.cell? ⟨gb512, 5, none⟩ = some (.int .i64 a0_5) := (bc BK512.out 5).trans rfl; have hcz9_6 : w8.cell? ⟨gb512, 6, none⟩ = some (.int .i64 a0_6) := (bc BK512.out 6).trans rfl; have hcz9_7 : w8.cell? ⟨gb512, 7, none⟩ = some (.int .i64 a0_7) := (bc BK512.out 7).trans rfl; have hfz9_0 := bf BK512.out 0; have hfz9_1 := bf BK512.out 1; have hfz9_2 := bf BK512.out 2; have hfz9_3 := bf BK512.out 3; have hfz9_4 := bf BK512.out 4; have hfz9_5 := bf BK512.out 5; have hfz9_6 := bf BK512.out 6; have hfz9_7 := bf BK512.out 7) | (go_at_call 26; (with_reducible refine (impl_DueHour.calls k a0_0 a0_1 a0_2 a0_3 a0_4 a0_5 a0_6 a0_7 t514 _ A5.out).mono ?_); rintro e w10 ⟨rfl, hb⟩; have n0_ := zK (bB (g := gb512) (o := .cells #[.int .i64 a0_0, .int .i64 a0_1, .int .i64 a0_2, .int .i64 a0_3, .int .i64 a0_4, .int .i64 a0_5, .int .i64 a0_6, .int .i64 a0_7] 29 (0, 0)) (qK BK512.out) hb); have n1_ := zK (bT (by repeat (first | (with_reducible first | exact HB.out | apply bA | apply bN | apply below_drew1 | refine bS ?_ GE512.out) | exact HB.out)) hb); clear BK512; clear HB; have BK512 := n0_; have HB := n1_; clear n0_ n1_; (try clear hb); (try clear hb2); (try clear hk); (try clear hi)))
 go_ret
 exact ⟨by first | rfl | (simp [errW_none, errW_some] <;> rfl) | (simp [*, errW_none, errW_some] <;> rfl), by repeat (first | (with_reducible first | exact HB.out | apply bA | apply bN | apply below_drew1 | refine bS ?_ GE512.out) | exact HB.out)⟩
-- NOT PRINTED: function 31 (impl_Claim_31)

-- NOT PRINTED: function 23 (impl_Claim_23)

end Go.Proofs.Ytfoallhhdilgjaa.PFnFates
