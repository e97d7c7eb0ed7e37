/- Walks of functions that FnLetters reaches, shortened. -/
import Derived.Test.YtpkdbkheggfkkaaPFnLettersx0
import Derived.Test.YtpkdbkheggfkkaaPFnLettersx8
namespace Go.Proofs.Ytpkdbkheggfkkaa.PFnLetters
open Go.RowKit Go.Proofs.YtpkdbkheggfkkaaW.PrintWords Go.Proofs.YtpkdbkheggfkkaaW.PrintLast Go.Proofs.YtpkdbkheggfkkaaW.PrintMore
attribute [local go_sem] max2_int min2_int max_two min_two max_three min_three max_four min_four
set_option linter.unusedVariables false
set_option linter.unusedSimpArgs false

abbrev b9A0 : Array Bool := #[O, O, O, O, O, O, O, O, O, O, O, O, O, O, O, O, O, O]
abbrev b9A1 : Array Bool := #[I, O, O, O, O, O, O, O, O, O, O, O, O, O, O, O, O, O]
abbrev b9A2 : Array Bool := #[I, I, O, O, O, O, O, O, O, O, O, O, O, O, O, O, O, O]
abbrev b9A3 : Array Bool := #[I, I, I, O, O, O, O, O, O, O, O, O, O, O, O, O, O, O]
abbrev b9A4 : Array Bool := #[I, I, I, I, O, O, O, O, O, O, O, O, O, O, O, O, O, O]
abbrev b9A5 : Array Bool := #[I, I, I, I, I, O, O, O, O, O, O, O, O, O, O, O, O, O]
abbrev b9A6 : Array Bool := #[I, I, I, I, I, I, O, O, O, O, O, O, O, O, O, O, O, O]
abbrev b9A7 : Array Bool := #[I, I, I, I, I, I, I, O, O, O, O, O, O, O, O, O, O, O]
abbrev b9A8 : Array Bool := #[I, I, I, I, I, I, I, I, O, O, O, O, O, O, O, O, O, O]
abbrev b9A9 : Array Bool := #[I, I, I, I, I, I, I, I, O, I, O, O, O, O, O, O, O, O]
abbrev b9A10 : Array Bool := #[I, I, I, I, I, I, I, I, O, I, I, O, O, O, O, O, O, O]
abbrev b9A11 : Array Bool := #[I, I, I, I, I, I, I, I, O, I, I, I, O, O, O, O, O, O]
abbrev b9A12 : Array Bool := #[I, I, I, I, I, I, I, I, O, I, I, I, I, O, O, O, O, O]
abbrev b9A13 : Array Bool := #[I, I, I, I, I, I, I, I, O, I, I, I, I, I, O, O, O, O]
abbrev b9A14 : Array Bool := #[I, I, I, I, I, I, I, I, I, I, I, I, I, I, O, O, O, O]
abbrev b9A15 : Array Bool := #[I, I, I, I, I, I, I, I, I, I, I, I, I, I, I, O, O, O]
abbrev b9A16 : Array Bool := #[I, I, I, I, I, I, I, I, I, I, I, I, I, I, I, I, O, O]
abbrev b9A17 : Array Bool := #[I, I, I, I, I, I, I, I, I, I, I, I, I, I, I, I, I, O]
abbrev b9A18 : Array Bool := #[I, I, I, I, I, I, I, I, I, I, I, I, I, I, I, I, I, I]
abbrev b9A19 : Array Bool := #[I, I, I, I, I, I, I, I, I, O, O, O, O, O, O, O, O, O]
abbrev b9A20 : Array Bool := #[I, I, I, I, I, I, I, I, I, I, O, O, O, O, O, O, O, O]
abbrev b9A21 : Array Bool := #[I, I, I, I, I, I, I, I, I, I, I, O, O, O, O, O, O, O]
abbrev b9A22 : Array Bool := #[I, I, I, I, I, I, I, I, I, I, I, I, O, O, O, O, O, O]
abbrev b9A23 : Array Bool := #[I, I, I, I, I, I, I, I, I, I, I, I, I, O, O, O, O, O]
/-! ### impl_AreReports: function 116 -/
def impl_AreReports.l0 : Nat → List (S87) → List (S87) → Int → Int → Option (Bool)
 | 0, _, _, _, _ => none
 | k + 1, x0, x8, x9, x10 => if x10 < x9 then (if 0 ≤ x10 then (if x10 < (x8.length : Int) then ((impl_IsReport.f k ((rd_T87 x8 x10).f0) ((rd_T87 x8 x10).f1) ((rd_T87 x8 x10).f2) ((rd_T87 x8 x10).f3) ((rd_T87 x8 x10).f4) ((rd_T87 x8 x10).f5) ((rd_T87 x8 x10).f6.f0) ((rd_T87 x8 x10).f6.f1)).bind fun t564 => (if t564 = true then (if x10 > 0 then (if 0 ≤ (wrap64 (x10 - 1)) then (if (wrap64 (x10 - 1)) < (x0.length : Int) then (if ((rd_T87 x8 x10).f0) ≤ ((rd_T87 x0 (wrap64 (x10 - 1))).f0) then (some false) else (impl_AreReports.l0 k x0 x8 x9 (wrap64 (x10 + 1)))) else (none)) else (none)) else (impl_AreReports.l0 k x0 x8 x9 (wrap64 (x10 + 1)))) else (some false))) else (none)) else (none)) else (some true)
def impl_AreReports.f (k : Nat) (l0 : List (S87)) : Option (Bool) := if (l0.length : Int) > 20 then (some false) else (impl_AreReports.l0 k l0 l0 (l0.length : Int) 0)
def impl_AreReports.T6 : Bool × List (List Nat × List Nat) := (true, [([], []), ([0], [0]), ([1], [1]), ([2, 1], [2]), ([3], [3]), ([4, 3], [3, 4]), ([5, 3, 3], [3, 5]), ([6], [6]), ([7, 6], [6, 7]), ([6], [6]), ([6], [6]), ([10, 6], [6, 10]), ([9, 11, 6], [6, 9, 11]), ([12, 6], [6, 12]), ([13, 6], [6, 13]), ([8, 14, 6], [6, 8, 14]), ([6, 15, 3], [3, 6, 15]), ([3, 16], [3, 16])])
def impl_AreReports.B6 : List Nat := [0, 1, 3, 7, 15, 31, 63, 127, 255, 127, 127, 1151, 3711, 7807, 15999, 32767, 65535, 131071]
theorem impl_AreReports.tab6 : rtab .any (opsOf Try.f116 6) = impl_AreReports.T6 := by kernel_rfl
theorem impl_AreReports.bits6 : waitsOk impl_AreReports.T6.2 impl_AreReports.B6 = true := by kernel_rfl
set_option maxHeartbeats 8000000 in
set_option maxRecDepth 100000 in
theorem impl_AreReports.calls (k : Nat) (A0 : Option Addr) (c0 : Nat) (l0 : List (S87)) (r : Bool) (w : World) (hr0 : Kd.C k87 w A0 l0.length l0) (hc0 : l0.length ≤ c0) (h : impl_AreReports.f k l0 = some r) :
  Calls Try.prog 116 #[.slice A0 l0.length c0] w fun e w' => e = .returned (.bool r) ∧ Below w.heap.size w w' := by
 have hu87 := Try.underlying87
 have HR0 := zK hr0
 have HC0 := zK hc0
 clear hr0 hc0
 have HB := zK (Below.refl w.heap.size w)
 have H : (if (l0.length : Int) > 20 then (some false) else (impl_AreReports.l0 k l0 l0 (l0.length : Int) 0)) = some r := h
 clear h
 by_cases c2 : (l0.length : Int) > 20
 ·rw [if_pos c2] at H
  have c2b0 : decide (20 < (l0.length : Int)) = true := decide_eq_true c2
  have c2b1 : decide (20 < l0.length) = true := decide_eq_true (by omega)
  clear c2
  obtain rfl := Option.some.inj H
  go_enter Try.func116, Try.ntmps116
  go_wp2
  go_ret
  exact ⟨by first | rfl | (simp [errW_none, errW_some] <;> rfl) | (simp [*, errW_none, errW_some] <;> rfl), by exact qB HB.o⟩
 rw [if_neg c2] at H
 have c2b0 : decide (20 < (l0.length : Int)) = false := decide_eq_false c2
 have c2b1 : decide (20 < l0.length) = false := decide_eq_false (by omega)
 clear c2
 have H' := zK H
 clear H
 go_enter Try.func116, Try.ntmps116
 go_wp2
 go_loopg [10] k (fun kq v10 w' => ∃ (x10_1 : Int), v10 = .int .i64 x10_1 ∧ Aside0 (impl_AreReports.l0 kq l0 l0 (l0.length : Int) x10_1 = some r) ∧ Aside0 (kq ≤ k) ∧ Aside0 (Below w.heap.size w w'))
 case atStart => exact ⟨(0), M7, H', ⟨Nat.le_refl _⟩, ⟨by exact qB HB.o⟩⟩
 case round =>
  clear H'
  try clear c1
  try clear c2
  try clear c2b0
  try clear c2b1
  try clear p2
  obtain ⟨x10_1, rfl, HA, HK1, HB⟩ := hrel
  cases gk with
  | zero => exact absurd HA.o (by simp [impl_AreReports.l0])
  | succ k1 =>
   have H := HA.o
   clear HA
   simp only [impl_AreReports.l0] at H
   by_cases c3 : x10_1 < (l0.length : Int)
   rotate_left
   ·rw [if_neg c3] at H
    have c3b0 : decide (x10_1 < (l0.length : Int)) = false := decide_eq_false c3
    clear c3
    obtain rfl := Option.some.inj H
    go_wp2
    go_ret
    exact ⟨by first | rfl | (simp [errW_none, errW_some] <;> rfl) | (simp [*, errW_none, errW_some] <;> rfl), by exact qB HB.o⟩

   rw [if_pos c3] at H
   have c3b0 : decide (x10_1 < (l0.length : Int)) = true := decide_eq_true c3
   clear c3
   by_cases c4 : 0 ≤ x10_1
   rotate_left
   ·rw [if_neg c4] at H
    exact absurd H (by simp)
   rw [if_pos c4] at H
   have c4b0 : decide (0 ≤ x10_1) = true := decide_eq_true c4
   clear c4
   by_cases c5 : x10_1 < (l0.length : Int)
   rotate_left
   ·rw [if_neg c5] at H
    exact absurd H (by simp)
   rw [if_pos c5] at H
   have c5b0 : decide (x10_1 < (l0.length : Int)) = true := decide_eq_true c5
   clear c5
   replace H := Option.bind_eq_some_iff.mp H
   obtain ⟨t564, A60, H⟩ := H
   try dsimp only at H
   have A6 := zK A60
   clear A60
   by_cases c7 : t564 = true
   rotate_left
   ·replace c7 := Bool.eq_false_iff.mpr c7
    subst c7
    have H1 : (some false) = some r := by rw [if_neg (show ¬ (false = true) by decide)] at H; exact H
    clear H
    have H := H1
    clear H1
    obtain rfl := Option.some.inj H
    have p562 : 0 ≤ (x10_1 : Int) := oD M3
    have q562 : x10_1 < (l0.length : Int) := oD M3
    obtain ⟨ad562, A562_2, c562_2, A562_5, c562_5, e562, hx562_0, hx562_1, hx562_2, hx562_3, hx562_4, hx562_5, hx562_6, hx562_7, hl562_2, hi562_2, hl562_5, hi562_5⟩ := at_T87 HR0.o x10_1 p562 q562
    cases e562
    replace hx562_0 := cB HB.o hx562_0
    replace hx562_1 := cB HB.o hx562_1
    replace hx562_2 := cB HB.o hx562_2
    replace hx562_3 := cB HB.o hx562_3
    replace hx562_4 := cB HB.o hx562_4
    replace hx562_5 := cB HB.o hx562_5
    replace hx562_6 := cB HB.o hx562_6
    replace hx562_7 := cB HB.o hx562_7
    have HR562_2 := zK hi562_2
    have HC562_2 := zK hl562_2
    clear hi562_2 hl562_2
    have HR562_5 := zK hi562_5
    have HC562_5 := zK hl562_5
    clear hi562_5 hl562_5
    replace p562 := eq_true p562
    replace q562 := eq_true q562
    try go_wp2_with (first | ((with_reducible refine gate_dst (N := 4) rfl ?_); refine box_event ?hg (N := 4) ?hd (cs := #[.int .i64 0, .int .i64 0, .slice none 0 0, .int .i64 0, .int .i64 0, .slice none 0 0, .int .i64 0, .int .i64 0]) (t := 87) ?hr ?_; (case hd => rfl); (case hg => rfl); (case hr => first | (go_simp; done) | (go_simp; rfl)); intro gb563 hg w28 hbox hb; have _ := zK (bT (qB HB.o) hb); have _ := zK (hbox); have _ := zK ((by rw [hg]; exact (bZ (qB HB.o)) : w.heap.size ≤ gb563)); have _ := zK ((by rw [hg]; exact (bZ (qB HB.o)) : w.heap.size ≤ gb563)); clear HB; rename_i HB BK563 GW563 GE563; clear hb hbox hg; obtain ⟨hcz29_0, hcz29_1, hcz29_2, hcz29_3, hcz29_4, hcz29_5, hcz29_6, hcz29_7, hfz29_0, hfz29_1, hfz29_2, hfz29_3, hfz29_4, hfz29_5, hfz29_6, hfz29_7⟩ := bx8 BK563.o))
    have n0_ : Aside0 (((((((((w28.setCell ⟨gb563, 0, none⟩ (.int .i64 ((rd_T87 l0 x10_1).f0))).setCell ⟨gb563, 1, none⟩ (.int .i64 ((rd_T87 l0 x10_1).f1))).setCell ⟨gb563, 2, none⟩ (.slice A562_2 ((rd_T87 l0 x10_1).f2).length c562_2)).setCell ⟨gb563, 3, none⟩ (.int .i64 ((rd_T87 l0 x10_1).f3))).setCell ⟨gb563, 4, none⟩ (.int .i64 ((rd_T87 l0 x10_1).f4))).setCell ⟨gb563, 5, none⟩ (.slice A562_5 ((rd_T87 l0 x10_1).f5).length c562_5)).setCell ⟨gb563, 6, none⟩ (.int .i64 ((rd_T87 l0 x10_1).f6.f0))).setCell ⟨gb563, 7, none⟩ (.int .i64 ((rd_T87 l0 x10_1).f6.f1))).heap[gb563]? = some (.cells #[.int .i64 ((rd_T87 l0 x10_1).f0), .int .i64 ((rd_T87 l0 x10_1).f1), .slice A562_2 ((rd_T87 l0 x10_1).f2).length c562_2, .int .i64 ((rd_T87 l0 x10_1).f3), .int .i64 ((rd_T87 l0 x10_1).f4), .slice A562_5 ((rd_T87 l0 x10_1).f5).length c562_5, .int .i64 ((rd_T87 l0 x10_1).f6.f0), .int .i64 ((rd_T87 l0 x10_1).f6.f1)] 87 (0, 0))) := ⟨by (with_reducible repeat (first | refine kN ?_ _ | refine kD ?_ | refine kA ?_ _)); refine blk_put (cs := #[.int .i64 ((rd_T87 l0 x10_1).f0), .int .i64 ((rd_T87 l0 x10_1).f1), .slice A562_2 ((rd_T87 l0 x10_1).f2).length c562_2, .int .i64 ((rd_T87 l0 x10_1).f3), .int .i64 ((rd_T87 l0 x10_1).f4), .slice A562_5 ((rd_T87 l0 x10_1).f5).length c562_5, .int .i64 ((rd_T87 l0 x10_1).f6.f0), .int .i64 0]) ?_ 7 _ rfl; (with_reducible repeat (first | refine kN ?_ _ | refine kD ?_ | refine kA ?_ _)); refine blk_put (cs := #[.int .i64 ((rd_T87 l0 x10_1).f0), .int .i64 ((rd_T87 l0 x10_1).f1), .slice A562_2 ((rd_T87 l0 x10_1).f2).length c562_2, .int .i64 ((rd_T87 l0 x10_1).f3), .int .i64 ((rd_T87 l0 x10_1).f4), .slice A562_5 ((rd_T87 l0 x10_1).f5).length c562_5, .int .i64 0, .int .i64 0]) ?_ 6 _ rfl; (with_reducible repeat (first | refine kN ?_ _ | refine kD ?_ | refine kA ?_ _)); refine blk_put (cs := #[.int .i64 ((rd_T87 l0 x10_1).f0), .int .i64 ((rd_T87 l0 x10_1).f1), .slice A562_2 ((rd_T87 l0 x10_1).f2).length c562_2, .int .i64 ((rd_T87 l0 x10_1).f3), .int .i64 ((rd_T87 l0 x10_1).f4), .slice none 0 0, .int .i64 0, .int .i64 0]) ?_ 5 _ rfl; (with_reducible repeat (first | refine kN ?_ _ | refine kD ?_ | refine kA ?_ _)); refine blk_put (cs := #[.int .i64 ((rd_T87 l0 x10_1).f0), .int .i64 ((rd_T87 l0 x10_1).f1), .slice A562_2 ((rd_T87 l0 x10_1).f2).length c562_2, .int .i64 ((rd_T87 l0 x10_1).f3), .int .i64 0, .slice none 0 0, .int .i64 0, .int .i64 0]) ?_ 4 _ rfl; (with_reducible repeat (first | refine kN ?_ _ | refine kD ?_ | refine kA ?_ _)); refine blk_put (cs := #[.int .i64 ((rd_T87 l0 x10_1).f0), .int .i64 ((rd_T87 l0 x10_1).f1), .slice A562_2 ((rd_T87 l0 x10_1).f2).length c562_2, .int .i64 0, .int .i64 0, .slice none 0 0, .int .i64 0, .int .i64 0]) ?_ 3 _ rfl; (with_reducible repeat (first | refine kN ?_ _ | refine kD ?_ | refine kA ?_ _)); refine blk_put (cs := #[.int .i64 ((rd_T87 l0 x10_1).f0), .int .i64 ((rd_T87 l0 x10_1).f1), .slice none 0 0, .int .i64 0, .int .i64 0, .slice none 0 0, .int .i64 0, .int .i64 0]) ?_ 2 _ rfl; (with_reducible repeat (first | refine kN ?_ _ | refine kD ?_ | refine kA ?_ _)); refine blk_put (cs := #[.int .i64 ((rd_T87 l0 x10_1).f0), .int .i64 0, .slice none 0 0, .int .i64 0, .int .i64 0, .slice none 0 0, .int .i64 0, .int .i64 0]) ?_ 1 _ rfl; (with_reducible repeat (first | refine kN ?_ _ | refine kD ?_ | refine kA ?_ _)); refine blk_put (cs := #[.int .i64 0, .int .i64 0, .slice none 0 0, .int .i64 0, .int .i64 0, .slice none 0 0, .int .i64 0, .int .i64 0]) ?_ 0 _ rfl; exact qK BK563.o⟩
    have n1_ : Aside0 (Below w.heap.size w ((((((((w28.setCell ⟨gb563, 0, none⟩ (.int .i64 ((rd_T87 l0 x10_1).f0))).setCell ⟨gb563, 1, none⟩ (.int .i64 ((rd_T87 l0 x10_1).f1))).setCell ⟨gb563, 2, none⟩ (.slice A562_2 ((rd_T87 l0 x10_1).f2).length c562_2)).setCell ⟨gb563, 3, none⟩ (.int .i64 ((rd_T87 l0 x10_1).f3))).setCell ⟨gb563, 4, none⟩ (.int .i64 ((rd_T87 l0 x10_1).f4))).setCell ⟨gb563, 5, none⟩ (.slice A562_5 ((rd_T87 l0 x10_1).f5).length c562_5)).setCell ⟨gb563, 6, none⟩ (.int .i64 ((rd_T87 l0 x10_1).f6.f0))).setCell ⟨gb563, 7, none⟩ (.int .i64 ((rd_T87 l0 x10_1).f6.f1)))) := ⟨by exact qX HB.o⟩
    (try clear BK563)
    (try clear HB)
    generalize ((((((((w28.setCell ⟨gb563, 0, none⟩ (.int .i64 ((rd_T87 l0 x10_1).f0))).setCell ⟨gb563, 1, none⟩ (.int .i64 ((rd_T87 l0 x10_1).f1))).setCell ⟨gb563, 2, none⟩ (.slice A562_2 ((rd_T87 l0 x10_1).f2).length c562_2)).setCell ⟨gb563, 3, none⟩ (.int .i64 ((rd_T87 l0 x10_1).f3))).setCell ⟨gb563, 4, none⟩ (.int .i64 ((rd_T87 l0 x10_1).f4))).setCell ⟨gb563, 5, none⟩ (.slice A562_5 ((rd_T87 l0 x10_1).f5).length c562_5)).setCell ⟨gb563, 6, none⟩ (.int .i64 ((rd_T87 l0 x10_1).f6.f0))).setCell ⟨gb563, 7, none⟩ (.int .i64 ((rd_T87 l0 x10_1).f6.f1))) = w30 at n0_ n1_ ⊢
    have BK563 := n0_
    have HB := n1_
    clear n0_ n1_
    have n0_ := zK (kD BK563.o)
    have n1_ := zK (below_drew1 HB.o)
    clear BK563
    clear HB
    have BK563 := n0_
    have HB := n1_
    clear n0_ n1_
    refine start_ (n := 18) (S := fun w' => w'.cell? ⟨gb563, 0, none⟩ = some (.int .i64 ((rd_T87 l0 x10_1).f0)) ∧ w'.cell? ⟨gb563, 1, none⟩ = some (.int .i64 ((rd_T87 l0 x10_1).f1)) ∧ w'.cell? ⟨gb563, 2, none⟩ = some (.slice A562_2 ((rd_T87 l0 x10_1).f2).length c562_2) ∧ w'.cell? ⟨gb563, 3, none⟩ = some (.int .i64 ((rd_T87 l0 x10_1).f3)) ∧ w'.cell? ⟨gb563, 4, none⟩ = some (.int .i64 ((rd_T87 l0 x10_1).f4)) ∧ w'.cell? ⟨gb563, 5, none⟩ = some (.slice A562_5 ((rd_T87 l0 x10_1).f5).length c562_5) ∧ w'.cell? ⟨gb563, 6, none⟩ = some (.int .i64 ((rd_T87 l0 x10_1).f6.f0)) ∧ w'.cell? ⟨gb563, 7, none⟩ = some (.int .i64 ((rd_T87 l0 x10_1).f6.f1))) (ds := []) b9A0 (by kernel_rfl) rfl rfl ⟨(bc BK563.o 0).trans rfl, (bc BK563.o 1).trans rfl, (bc BK563.o 2).trans rfl, (bc BK563.o 3).trans rfl, (bc BK563.o 4).trans rfl, (bc BK563.o 5).trans rfl, (bc BK563.o 6).trans rfl, (bc BK563.o 7).trans rfl⟩ (fun hHeld => ?_); refine with_tabW impl_AreReports.tab6 impl_AreReports.bits6 (fun HT_ HW_ => ?_)
    generalize w30.drew = w31 at BK563 HB hHeld ⊢
    refine tI 0 (some 15) b9A1 HT_ HW_ hHeld rfl rfl (Or.inl ⟨by rfl, by rintro w' ⟨s0, s1, s2, s3, s4, s5, s6, s7⟩; go_simp; with_reducible rfl⟩) ?_
    refine one_ (i := 1) (N := some 16) b9A2 rfl rfl (one_of HT_.o (by kernel_rfl)) (by decide) (fun K hK => ?_)
    refine goes_ Try.func167 (by kernel_rfl) rfl #[.agg #[.int .i64 ((rd_T87 l0 x10_1).f0), .int .i64 ((rd_T87 l0 x10_1).f1), .slice A562_2 ((rd_T87 l0 x10_1).f2).length c562_2, .int .i64 ((rd_T87 l0 x10_1).f3), .int .i64 ((rd_T87 l0 x10_1).f4), .slice A562_5 ((rd_T87 l0 x10_1).f5).length c562_5, .int .i64 ((rd_T87 l0 x10_1).f6.f0), .int .i64 ((rd_T87 l0 x10_1).f6.f1)]] (by rfl) rfl rfl M0 ?_
    with_reducible refine (impl_IsReport.calls k1 ((rd_T87 l0 x10_1).f0) ((rd_T87 l0 x10_1).f1) _ _ ((rd_T87 l0 x10_1).f2) ((rd_T87 l0 x10_1).f3) ((rd_T87 l0 x10_1).f4) _ _ ((rd_T87 l0 x10_1).f5) ((rd_T87 l0 x10_1).f6.f0) ((rd_T87 l0 x10_1).f6.f1) false _ ?side1 ?side2 ?side3 ?side4 A6.o).mono ?_
    (case side1 => exact Kd.qC (Kd.C_below HR562_2.o HB.o))
    (case side2 => exact HC562_2.o)
    (case side3 => exact Kd.qC (Kd.C_below HR562_5.o HB.o))
    (case side4 => exact HC562_5.o)
    rintro e w32 ⟨rfl, hb⟩
    refine ⟨_, rfl, ?_⟩
    have n0_ := zK (bB (qK BK563.o) hb)
    have n1_ := zK (bT (qX HB.o) hb)
    clear BK563
    clear HB
    have BK563 := n0_
    have HB := n1_
    clear n0_ n1_
    (try clear hb)
    (try clear hb2)
    (try clear hk)
    (try clear hi)
    refine hK.out _ _ ⟨(bc BK563.o 0).trans rfl, (bc BK563.o 1).trans rfl, (bc BK563.o 2).trans rfl, (bc BK563.o 3).trans rfl, (bc BK563.o 4).trans rfl, (bc BK563.o 5).trans rfl, (bc BK563.o 6).trans rfl, (bc BK563.o 7).trans rfl⟩ (fun hHeld => ?_)
    clear hK K
    refine norm_ (a' := ?_) ?_ ?_
    rotate_left
    ·show Act.put _ (some 16) _ = _
     simp only [Act.put, sA, sZ, sS, i64_w, i32_w]
     rfl
    refine pI 2 (some 17) b9A3 HT_ ?_
    refine pI 3 (some 18) b9A4 HT_ ?_
    refine pU 4 (some 19) b9A5 HT_ ?_
    refine pU 5 (some 20) b9A6 HT_ ?_
    refine pU 6 (some 21) b9A7 HT_ ?_
    refine pU 7 (some 22) b9A8 HT_ ?_
    refine pU 8 (some 23) b9A19 HT_ ?_
    refine pU 9 (some 24) b9A20 HT_ ?_
    refine pU 10 (some 25) b9A21 HT_ ?_
    refine pU 11 (some 26) b9A22 HT_ ?_
    refine pU 12 (some 27) b9A23 HT_ ?_
    refine pU 13 (some 28) b9A14 HT_ ?_
    refine pU 14 (some 29) b9A15 HT_ ?_
    refine pU 15 (some 30) b9A16 HT_ ?_
    refine pU 16 (some 31) b9A17 HT_ ?_
    refine pI 17 (some 32) b9A18 HT_ ?_
    refine done_ (done_of HT_.o (by kernel_rfl)) ?_
    try go_wp2
    go_ret
    exact ⟨by first | rfl | (simp [errW_none, errW_some] <;> rfl) | (simp [*, errW_none, errW_some] <;> rfl), by exact qX HB.o⟩
   subst c7
   have H1 : (if x10_1 > 0 then (if 0 ≤ (wrap64 (x10_1 - 1)) then (if (wrap64 (x10_1 - 1)) < (l0.length : Int) then (if ((rd_T87 l0 x10_1).f0) ≤ ((rd_T87 l0 (wrap64 (x10_1 - 1))).f0) then (some false) else (impl_AreReports.l0 k1 l0 l0 (l0.length : Int) (wrap64 (x10_1 + 1)))) else (none)) else (none)) else (impl_AreReports.l0 k1 l0 l0 (l0.length : Int) (wrap64 (x10_1 + 1)))) = some r := by rw [if_pos rfl] at H; exact H
   clear H
   have H := H1
   clear H1
   by_cases c8 : x10_1 > 0
   rotate_left
   ·rw [if_neg c8] at H
    have c8b0 : decide (0 < x10_1) = false := decide_eq_false c8
    clear c8
    have H' := zK H
    clear H
    have p562 : 0 ≤ (x10_1 : Int) := oD M3
    have q562 : x10_1 < (l0.length : Int) := oD M3
    obtain ⟨ad562, A562_2, c562_2, A562_5, c562_5, e562, hx562_0, hx562_1, hx562_2, hx562_3, hx562_4, hx562_5, hx562_6, hx562_7, hl562_2, hi562_2, hl562_5, hi562_5⟩ := at_T87 HR0.o x10_1 p562 q562
    cases e562
    replace hx562_0 := cB HB.o hx562_0
    replace hx562_1 := cB HB.o hx562_1
    replace hx562_2 := cB HB.o hx562_2
    replace hx562_3 := cB HB.o hx562_3
    replace hx562_4 := cB HB.o hx562_4
    replace hx562_5 := cB HB.o hx562_5
    replace hx562_6 := cB HB.o hx562_6
    replace hx562_7 := cB HB.o hx562_7
    have HR562_2 := zK hi562_2
    have HC562_2 := zK hl562_2
    clear hi562_2 hl562_2
    have HR562_5 := zK hi562_5
    have HC562_5 := zK hl562_5
    clear hi562_5 hl562_5
    replace p562 := eq_true p562
    replace q562 := eq_true q562
    try go_wp2_with (first | ((with_reducible refine gate_dst (N := 4) rfl ?_); refine box_event ?hg (N := 4) ?hd (cs := #[.int .i64 0, .int .i64 0, .slice none 0 0, .int .i64 0, .int .i64 0, .slice none 0 0, .int .i64 0, .int .i64 0]) (t := 87) ?hr ?_; (case hd => rfl); (case hg => rfl); (case hr => first | (go_simp; done) | (go_simp; rfl)); intro gb563 hg w23 hbox hb; have _ := zK (bT (qB HB.o) hb); have _ := zK (hbox); have _ := zK ((by rw [hg]; exact (bZ (qB HB.o)) : w.heap.size ≤ gb563)); have _ := zK ((by rw [hg]; exact (bZ (qB HB.o)) : w.heap.size ≤ gb563)); clear HB; rename_i HB BK563 GW563 GE563; clear hb hbox hg; obtain ⟨hcz24_0, hcz24_1, hcz24_2, hcz24_3, hcz24_4, hcz24_5, hcz24_6, hcz24_7, hfz24_0, hfz24_1, hfz24_2, hfz24_3, hfz24_4, hfz24_5, hfz24_6, hfz24_7⟩ := bx8 BK563.o))
    have n0_ : Aside0 (((((((((w23.setCell ⟨gb563, 0, none⟩ (.int .i64 ((rd_T87 l0 x10_1).f0))).setCell ⟨gb563, 1, none⟩ (.int .i64 ((rd_T87 l0 x10_1).f1))).setCell ⟨gb563, 2, none⟩ (.slice A562_2 ((rd_T87 l0 x10_1).f2).length c562_2)).setCell ⟨gb563, 3, none⟩ (.int .i64 ((rd_T87 l0 x10_1).f3))).setCell ⟨gb563, 4, none⟩ (.int .i64 ((rd_T87 l0 x10_1).f4))).setCell ⟨gb563, 5, none⟩ (.slice A562_5 ((rd_T87 l0 x10_1).f5).length c562_5)).setCell ⟨gb563, 6, none⟩ (.int .i64 ((rd_T87 l0 x10_1).f6.f0))).setCell ⟨gb563, 7, none⟩ (.int .i64 ((rd_T87 l0 x10_1).f6.f1))).heap[gb563]? = some (.cells #[.int .i64 ((rd_T87 l0 x10_1).f0), .int .i64 ((rd_T87 l0 x10_1).f1), .slice A562_2 ((rd_T87 l0 x10_1).f2).length c562_2, .int .i64 ((rd_T87 l0 x10_1).f3), .int .i64 ((rd_T87 l0 x10_1).f4), .slice A562_5 ((rd_T87 l0 x10_1).f5).length c562_5, .int .i64 ((rd_T87 l0 x10_1).f6.f0), .int .i64 ((rd_T87 l0 x10_1).f6.f1)] 87 (0, 0))) := ⟨by (with_reducible repeat (first | refine kN ?_ _ | refine kD ?_ | refine kA ?_ _)); refine blk_put (cs := #[.int .i64 ((rd_T87 l0 x10_1).f0), .int .i64 ((rd_T87 l0 x10_1).f1), .slice A562_2 ((rd_T87 l0 x10_1).f2).length c562_2, .int .i64 ((rd_T87 l0 x10_1).f3), .int .i64 ((rd_T87 l0 x10_1).f4), .slice A562_5 ((rd_T87 l0 x10_1).f5).length c562_5, .int .i64 ((rd_T87 l0 x10_1).f6.f0), .int .i64 0]) ?_ 7 _ rfl; (with_reducible repeat (first | refine kN ?_ _ | refine kD ?_ | refine kA ?_ _)); refine blk_put (cs := #[.int .i64 ((rd_T87 l0 x10_1).f0), .int .i64 ((rd_T87 l0 x10_1).f1), .slice A562_2 ((rd_T87 l0 x10_1).f2).length c562_2, .int .i64 ((rd_T87 l0 x10_1).f3), .int .i64 ((rd_T87 l0 x10_1).f4), .slice A562_5 ((rd_T87 l0 x10_1).f5).length c562_5, .int .i64 0, .int .i64 0]) ?_ 6 _ rfl; (with_reducible repeat (first | refine kN ?_ _ | refine kD ?_ | refine kA ?_ _)); refine blk_put (cs := #[.int .i64 ((rd_T87 l0 x10_1).f0), .int .i64 ((rd_T87 l0 x10_1).f1), .slice A562_2 ((rd_T87 l0 x10_1).f2).length c562_2, .int .i64 ((rd_T87 l0 x10_1).f3), .int .i64 ((rd_T87 l0 x10_1).f4), .slice none 0 0, .int .i64 0, .int .i64 0]) ?_ 5 _ rfl; (with_reducible repeat (first | refine kN ?_ _ | refine kD ?_ | refine kA ?_ _)); refine blk_put (cs := #[.int .i64 ((rd_T87 l0 x10_1).f0), .int .i64 ((rd_T87 l0 x10_1).f1), .slice A562_2 ((rd_T87 l0 x10_1).f2).length c562_2, .int .i64 ((rd_T87 l0 x10_1).f3), .int .i64 0, .slice none 0 0, .int .i64 0, .int .i64 0]) ?_ 4 _ rfl; (with_reducible repeat (first | refine kN ?_ _ | refine kD ?_ | refine kA ?_ _)); refine blk_put (cs := #[.int .i64 ((rd_T87 l0 x10_1).f0), .int .i64 ((rd_T87 l0 x10_1).f1), .slice A562_2 ((rd_T87 l0 x10_1).f2).length c562_2, .int .i64 0, .int .i64 0, .slice none 0 0, .int .i64 0, .int .i64 0]) ?_ 3 _ rfl; (with_reducible repeat (first | refine kN ?_ _ | refine kD ?_ | refine kA ?_ _)); refine blk_put (cs := #[.int .i64 ((rd_T87 l0 x10_1).f0), .int .i64 ((rd_T87 l0 x10_1).f1), .slice none 0 0, .int .i64 0, .int .i64 0, .slice none 0 0, .int .i64 0, .int .i64 0]) ?_ 2 _ rfl; (with_reducible repeat (first | refine kN ?_ _ | refine kD ?_ | refine kA ?_ _)); refine blk_put (cs := #[.int .i64 ((rd_T87 l0 x10_1).f0), .int .i64 0, .slice none 0 0, .int .i64 0, .int .i64 0, .slice none 0 0, .int .i64 0, .int .i64 0]) ?_ 1 _ rfl; (with_reducible repeat (first | refine kN ?_ _ | refine kD ?_ | refine kA ?_ _)); refine blk_put (cs := #[.int .i64 0, .int .i64 0, .slice none 0 0, .int .i64 0, .int .i64 0, .slice none 0 0, .int .i64 0, .int .i64 0]) ?_ 0 _ rfl; exact qK BK563.o⟩
    have n1_ : Aside0 (Below w.heap.size w ((((((((w23.setCell ⟨gb563, 0, none⟩ (.int .i64 ((rd_T87 l0 x10_1).f0))).setCell ⟨gb563, 1, none⟩ (.int .i64 ((rd_T87 l0 x10_1).f1))).setCell ⟨gb563, 2, none⟩ (.slice A562_2 ((rd_T87 l0 x10_1).f2).length c562_2)).setCell ⟨gb563, 3, none⟩ (.int .i64 ((rd_T87 l0 x10_1).f3))).setCell ⟨gb563, 4, none⟩ (.int .i64 ((rd_T87 l0 x10_1).f4))).setCell ⟨gb563, 5, none⟩ (.slice A562_5 ((rd_T87 l0 x10_1).f5).length c562_5)).setCell ⟨gb563, 6, none⟩ (.int .i64 ((rd_T87 l0 x10_1).f6.f0))).setCell ⟨gb563, 7, none⟩ (.int .i64 ((rd_T87 l0 x10_1).f6.f1)))) := ⟨by exact qX HB.o⟩
    (try clear BK563)
    (try clear HB)
    generalize ((((((((w23.setCell ⟨gb563, 0, none⟩ (.int .i64 ((rd_T87 l0 x10_1).f0))).setCell ⟨gb563, 1, none⟩ (.int .i64 ((rd_T87 l0 x10_1).f1))).setCell ⟨gb563, 2, none⟩ (.slice A562_2 ((rd_T87 l0 x10_1).f2).length c562_2)).setCell ⟨gb563, 3, none⟩ (.int .i64 ((rd_T87 l0 x10_1).f3))).setCell ⟨gb563, 4, none⟩ (.int .i64 ((rd_T87 l0 x10_1).f4))).setCell ⟨gb563, 5, none⟩ (.slice A562_5 ((rd_T87 l0 x10_1).f5).length c562_5)).setCell ⟨gb563, 6, none⟩ (.int .i64 ((rd_T87 l0 x10_1).f6.f0))).setCell ⟨gb563, 7, none⟩ (.int .i64 ((rd_T87 l0 x10_1).f6.f1))) = w25 at n0_ n1_ ⊢
    have BK563 := n0_
    have HB := n1_
    clear n0_ n1_
    have n0_ := zK (kD BK563.o)
    have n1_ := zK (below_drew1 HB.o)
    clear BK563
    clear HB
    have BK563 := n0_
    have HB := n1_
    clear n0_ n1_
    refine start_ (n := 18) (S := fun w' => w'.cell? ⟨gb563, 0, none⟩ = some (.int .i64 ((rd_T87 l0 x10_1).f0)) ∧ w'.cell? ⟨gb563, 1, none⟩ = some (.int .i64 ((rd_T87 l0 x10_1).f1)) ∧ w'.cell? ⟨gb563, 2, none⟩ = some (.slice A562_2 ((rd_T87 l0 x10_1).f2).length c562_2) ∧ w'.cell? ⟨gb563, 3, none⟩ = some (.int .i64 ((rd_T87 l0 x10_1).f3)) ∧ w'.cell? ⟨gb563, 4, none⟩ = some (.int .i64 ((rd_T87 l0 x10_1).f4)) ∧ w'.cell? ⟨gb563, 5, none⟩ = some (.slice A562_5 ((rd_T87 l0 x10_1).f5).length c562_5) ∧ w'.cell? ⟨gb563, 6, none⟩ = some (.int .i64 ((rd_T87 l0 x10_1).f6.f0)) ∧ w'.cell? ⟨gb563, 7, none⟩ = some (.int .i64 ((rd_T87 l0 x10_1).f6.f1))) (ds := []) b9A0 (by kernel_rfl) rfl rfl ⟨(bc BK563.o 0).trans rfl, (bc BK563.o 1).trans rfl, (bc BK563.o 2).trans rfl, (bc BK563.o 3).trans rfl, (bc BK563.o 4).trans rfl, (bc BK563.o 5).trans rfl, (bc BK563.o 6).trans rfl, (bc BK563.o 7).trans rfl⟩ (fun hHeld => ?_); refine with_tabW impl_AreReports.tab6 impl_AreReports.bits6 (fun HT_ HW_ => ?_)
    generalize w25.drew = w26 at BK563 HB hHeld ⊢
    refine tI 0 (some 15) b9A1 HT_ HW_ hHeld rfl rfl (Or.inl ⟨by rfl, by rintro w' ⟨s0, s1, s2, s3, s4, s5, s6, s7⟩; go_simp; with_reducible rfl⟩) ?_
    refine one_ (i := 1) (N := some 16) b9A2 rfl rfl (one_of HT_.o (by kernel_rfl)) (by decide) (fun K hK => ?_)
    refine goes_ Try.func167 (by kernel_rfl) rfl #[.agg #[.int .i64 ((rd_T87 l0 x10_1).f0), .int .i64 ((rd_T87 l0 x10_1).f1), .slice A562_2 ((rd_T87 l0 x10_1).f2).length c562_2, .int .i64 ((rd_T87 l0 x10_1).f3), .int .i64 ((rd_T87 l0 x10_1).f4), .slice A562_5 ((rd_T87 l0 x10_1).f5).length c562_5, .int .i64 ((rd_T87 l0 x10_1).f6.f0), .int .i64 ((rd_T87 l0 x10_1).f6.f1)]] (by rfl) rfl rfl M0 ?_
    with_reducible refine (impl_IsReport.calls k1 ((rd_T87 l0 x10_1).f0) ((rd_T87 l0 x10_1).f1) _ _ ((rd_T87 l0 x10_1).f2) ((rd_T87 l0 x10_1).f3) ((rd_T87 l0 x10_1).f4) _ _ ((rd_T87 l0 x10_1).f5) ((rd_T87 l0 x10_1).f6.f0) ((rd_T87 l0 x10_1).f6.f1) true _ ?side1 ?side2 ?side3 ?side4 A6.o).mono ?_
    (case side1 => exact Kd.qC (Kd.C_below HR562_2.o HB.o))
    (case side2 => exact HC562_2.o)
    (case side3 => exact Kd.qC (Kd.C_below HR562_5.o HB.o))
    (case side4 => exact HC562_5.o)
    rintro e w27 ⟨rfl, hb⟩
    refine ⟨_, rfl, ?_⟩
    have n0_ := zK (bB (qK BK563.o) hb)
    have n1_ := zK (bT (qX HB.o) hb)
    clear BK563
    clear HB
    have BK563 := n0_
    have HB := n1_
    clear n0_ n1_
    (try clear hb)
    (try clear hb2)
    (try clear hk)
    (try clear hi)
    refine hK.out _ _ ⟨(bc BK563.o 0).trans rfl, (bc BK563.o 1).trans rfl, (bc BK563.o 2).trans rfl, (bc BK563.o 3).trans rfl, (bc BK563.o 4).trans rfl, (bc BK563.o 5).trans rfl, (bc BK563.o 6).trans rfl, (bc BK563.o 7).trans rfl⟩ (fun hHeld => ?_)
    clear hK K
    refine norm_ (a' := ?_) ?_ ?_
    rotate_left
    ·show Act.put _ (some 16) _ = _
     simp only [Act.put, sA, sZ, sS, i64_w, i32_w]
     rfl
    refine pI 2 (some 17) b9A3 HT_ ?_
    refine pI 3 (some 18) b9A4 HT_ ?_
    refine pI 4 (some 19) b9A5 HT_ ?_
    refine pI 5 (some 20) b9A6 HT_ ?_
    refine pI 6 (some 21) b9A7 HT_ ?_
    refine pU 7 (some 22) b9A8 HT_ ?_
    refine pU 8 (some 23) b9A19 HT_ ?_
    refine pU 9 (some 24) b9A20 HT_ ?_
    refine pU 10 (some 25) b9A21 HT_ ?_
    refine pU 11 (some 26) b9A22 HT_ ?_
    refine pU 12 (some 27) b9A23 HT_ ?_
    refine pU 13 (some 28) b9A14 HT_ ?_
    refine pU 14 (some 29) b9A15 HT_ ?_
    refine pU 15 (some 30) b9A16 HT_ ?_
    refine pI 16 (some 31) b9A17 HT_ ?_
    refine pI 17 (some 32) b9A18 HT_ ?_
    refine done_ (done_of HT_.o (by kernel_rfl)) ?_
    try go_wp2
    go_roundg k1
    case measure => have := HK1.o; omega
    case rel => exact ⟨(wrap64 (x10_1 + 1)), M7, H', ⟨by have := HK1.o; omega⟩, ⟨by exact qX HB.o⟩⟩
   rw [if_pos c8] at H
   have c8b0 : decide (0 < x10_1) = true := decide_eq_true c8
   clear c8
   obtain ⟨ji9, hji9⟩ : ∃ j_ : Int, (wrap64 (x10_1 - 1)) = j_ := ⟨_, rfl⟩
   replace H : (if 0 ≤ (ji9) then (if (ji9) < (l0.length : Int) then (if ((rd_T87 l0 x10_1).f0) ≤ ((rd_T87 l0 (ji9)).f0) then (some false) else (impl_AreReports.l0 k1 l0 l0 (l0.length : Int) (wrap64 (x10_1 + 1)))) else (none)) else (none)) = some r := by first | (rw [hji9] at H; exact H) | (simp only [hji9] at H ⊢; exact H)
   (try rw [hji9] at A6)
   have hji9w : (IntKind.i64.wrap (x10_1 - 1)) = ji9 := (i64_w _).trans hji9
   by_cases c10 : 0 ≤ (ji9)
   rotate_left
   ·rw [if_neg c10] at H
    exact absurd H (by simp)
   rw [if_pos c10] at H
   have c10b0 : decide (0 ≤ (ji9)) = true := decide_eq_true c10
   clear c10
   by_cases c11 : (ji9) < (l0.length : Int)
   rotate_left
   ·rw [if_neg c11] at H
    exact absurd H (by simp)
   rw [if_pos c11] at H
   have c11b0 : decide ((ji9) < (l0.length : Int)) = true := decide_eq_true c11
   clear c11
   by_cases c12 : ((rd_T87 l0 x10_1).f0) ≤ ((rd_T87 l0 (ji9)).f0)
   ·rw [if_pos c12] at H
    have c12b0 : decide (((rd_T87 l0 x10_1).f0) ≤ ((rd_T87 l0 (ji9)).f0)) = true := decide_eq_true c12
    clear c12
    obtain rfl := Option.some.inj H
    have p562 : 0 ≤ (x10_1 : Int) := oD M3
    have q562 : x10_1 < (l0.length : Int) := oD M3
    obtain ⟨ad562, A562_2, c562_2, A562_5, c562_5, e562, hx562_0, hx562_1, hx562_2, hx562_3, hx562_4, hx562_5, hx562_6, hx562_7, hl562_2, hi562_2, hl562_5, hi562_5⟩ := at_T87 HR0.o x10_1 p562 q562
    cases e562
    replace hx562_0 := cB HB.o hx562_0
    replace hx562_1 := cB HB.o hx562_1
    replace hx562_2 := cB HB.o hx562_2
    replace hx562_3 := cB HB.o hx562_3
    replace hx562_4 := cB HB.o hx562_4
    replace hx562_5 := cB HB.o hx562_5
    replace hx562_6 := cB HB.o hx562_6
    replace hx562_7 := cB HB.o hx562_7
    have HR562_2 := zK hi562_2
    have HC562_2 := zK hl562_2
    clear hi562_2 hl562_2
    have HR562_5 := zK hi562_5
    have HC562_5 := zK hl562_5
    clear hi562_5 hl562_5
    replace p562 := eq_true p562
    replace q562 := eq_true q562
    try go_wp2_with (first | ((with_reducible refine gate_dst (N := 4) rfl ?_); refine box_event ?hg (N := 4) ?hd (cs := #[.int .i64 0, .int .i64 0, .slice none 0 0, .int .i64 0, .int .i64 0, .slice none 0 0, .int .i64 0, .int .i64 0]) (t := 87) ?hr ?_; (case hd => rfl); (case hg => rfl); (case hr => first | (go_simp; done) | (go_simp; rfl)); intro gb563 hg w13 hbox hb; have _ := zK (bT (qB HB.o) hb); have _ := zK (hbox); have _ := zK ((by rw [hg]; exact (bZ (qB HB.o)) : w.heap.size ≤ gb563)); have _ := zK ((by rw [hg]; exact (bZ (qB HB.o)) : w.heap.size ≤ gb563)); clear HB; rename_i HB BK563 GW563 GE563; clear hb hbox hg; obtain ⟨hcz14_0, hcz14_1, hcz14_2, hcz14_3, hcz14_4, hcz14_5, hcz14_6, hcz14_7, hfz14_0, hfz14_1, hfz14_2, hfz14_3, hfz14_4, hfz14_5, hfz14_6, hfz14_7⟩ := bx8 BK563.o))
    have n0_ : Aside0 (((((((((w13.setCell ⟨gb563, 0, none⟩ (.int .i64 ((rd_T87 l0 x10_1).f0))).setCell ⟨gb563, 1, none⟩ (.int .i64 ((rd_T87 l0 x10_1).f1))).setCell ⟨gb563, 2, none⟩ (.slice A562_2 ((rd_T87 l0 x10_1).f2).length c562_2)).setCell ⟨gb563, 3, none⟩ (.int .i64 ((rd_T87 l0 x10_1).f3))).setCell ⟨gb563, 4, none⟩ (.int .i64 ((rd_T87 l0 x10_1).f4))).setCell ⟨gb563, 5, none⟩ (.slice A562_5 ((rd_T87 l0 x10_1).f5).length c562_5)).setCell ⟨gb563, 6, none⟩ (.int .i64 ((rd_T87 l0 x10_1).f6.f0))).setCell ⟨gb563, 7, none⟩ (.int .i64 ((rd_T87 l0 x10_1).f6.f1))).heap[gb563]? = some (.cells #[.int .i64 ((rd_T87 l0 x10_1).f0), .int .i64 ((rd_T87 l0 x10_1).f1), .slice A562_2 ((rd_T87 l0 x10_1).f2).length c562_2, .int .i64 ((rd_T87 l0 x10_1).f3), .int .i64 ((rd_T87 l0 x10_1).f4), .slice A562_5 ((rd_T87 l0 x10_1).f5).length c562_5, .int .i64 ((rd_T87 l0 x10_1).f6.f0), .int .i64 ((rd_T87 l0 x10_1).f6.f1)] 87 (0, 0))) := ⟨by (with_reducible repeat (first | refine kN ?_ _ | refine kD ?_ | refine kA ?_ _)); refine blk_put (cs := #[.int .i64 ((rd_T87 l0 x10_1).f0), .int .i64 ((rd_T87 l0 x10_1).f1), .slice A562_2 ((rd_T87 l0 x10_1).f2).length c562_2, .int .i64 ((rd_T87 l0 x10_1).f3), .int .i64 ((rd_T87 l0 x10_1).f4), .slice A562_5 ((rd_T87 l0 x10_1).f5).length c562_5, .int .i64 ((rd_T87 l0 x10_1).f6.f0), .int .i64 0]) ?_ 7 _ rfl; (with_reducible repeat (first | refine kN ?_ _ | refine kD ?_ | refine kA ?_ _)); refine blk_put (cs := #[.int .i64 ((rd_T87 l0 x10_1).f0), .int .i64 ((rd_T87 l0 x10_1).f1), .slice A562_2 ((rd_T87 l0 x10_1).f2).length c562_2, .int .i64 ((rd_T87 l0 x10_1).f3), .int .i64 ((rd_T87 l0 x10_1).f4), .slice A562_5 ((rd_T87 l0 x10_1).f5).length c562_5, .int .i64 0, .int .i64 0]) ?_ 6 _ rfl; (with_reducible repeat (first | refine kN ?_ _ | refine kD ?_ | refine kA ?_ _)); refine blk_put (cs := #[.int .i64 ((rd_T87 l0 x10_1).f0), .int .i64 ((rd_T87 l0 x10_1).f1), .slice A562_2 ((rd_T87 l0 x10_1).f2).length c562_2, .int .i64 ((rd_T87 l0 x10_1).f3), .int .i64 ((rd_T87 l0 x10_1).f4), .slice none 0 0, .int .i64 0, .int .i64 0]) ?_ 5 _ rfl; (with_reducible repeat (first | refine kN ?_ _ | refine kD ?_ | refine kA ?_ _)); refine blk_put (cs := #[.int .i64 ((rd_T87 l0 x10_1).f0), .int .i64 ((rd_T87 l0 x10_1).f1), .slice A562_2 ((rd_T87 l0 x10_1).f2).length c562_2, .int .i64 ((rd_T87 l0 x10_1).f3), .int .i64 0, .slice none 0 0, .int .i64 0, .int .i64 0]) ?_ 4 _ rfl; (with_reducible repeat (first | refine kN ?_ _ | refine kD ?_ | refine kA ?_ _)); refine blk_put (cs := #[.int .i64 ((rd_T87 l0 x10_1).f0), .int .i64 ((rd_T87 l0 x10_1).f1), .slice A562_2 ((rd_T87 l0 x10_1).f2).length c562_2, .int .i64 0, .int .i64 0, .slice none 0 0, .int .i64 0, .int .i64 0]) ?_ 3 _ rfl; (with_reducible repeat (first | refine kN ?_ _ | refine kD ?_ | refine kA ?_ _)); refine blk_put (cs := #[.int .i64 ((rd_T87 l0 x10_1).f0), .int .i64 ((rd_T87 l0 x10_1).f1), .slice none 0 0, .int .i64 0, .int .i64 0, .slice none 0 0, .int .i64 0, .int .i64 0]) ?_ 2 _ rfl; (with_reducible repeat (first | refine kN ?_ _ | refine kD ?_ | refine kA ?_ _)); refine blk_put (cs := #[.int .i64 ((rd_T87 l0 x10_1).f0), .int .i64 0, .slice none 0 0, .int .i64 0, .int .i64 0, .slice none 0 0, .int .i64 0, .int .i64 0]) ?_ 1 _ rfl; (with_reducible repeat (first | refine kN ?_ _ | refine kD ?_ | refine kA ?_ _)); refine blk_put (cs := #[.int .i64 0, .int .i64 0, .slice none 0 0, .int .i64 0, .int .i64 0, .slice none 0 0, .int .i64 0, .int .i64 0]) ?_ 0 _ rfl; exact qK BK563.o⟩
    have n1_ : Aside0 (Below w.heap.size w ((((((((w13.setCell ⟨gb563, 0, none⟩ (.int .i64 ((rd_T87 l0 x10_1).f0))).setCell ⟨gb563, 1, none⟩ (.int .i64 ((rd_T87 l0 x10_1).f1))).setCell ⟨gb563, 2, none⟩ (.slice A562_2 ((rd_T87 l0 x10_1).f2).length c562_2)).setCell ⟨gb563, 3, none⟩ (.int .i64 ((rd_T87 l0 x10_1).f3))).setCell ⟨gb563, 4, none⟩ (.int .i64 ((rd_T87 l0 x10_1).f4))).setCell ⟨gb563, 5, none⟩ (.slice A562_5 ((rd_T87 l0 x10_1).f5).length c562_5)).setCell ⟨gb563, 6, none⟩ (.int .i64 ((rd_T87 l0 x10_1).f6.f0))).setCell ⟨gb563, 7, none⟩ (.int .i64 ((rd_T87 l0 x10_1).f6.f1)))) := ⟨by exact qX HB.o⟩
    (try clear BK563)
    (try clear HB)
    generalize ((((((((w13.setCell ⟨gb563, 0, none⟩ (.int .i64 ((rd_T87 l0 x10_1).f0))).setCell ⟨gb563, 1, none⟩ (.int .i64 ((rd_T87 l0 x10_1).f1))).setCell ⟨gb563, 2, none⟩ (.slice A562_2 ((rd_T87 l0 x10_1).f2).length c562_2)).setCell ⟨gb563, 3, none⟩ (.int .i64 ((rd_T87 l0 x10_1).f3))).setCell ⟨gb563, 4, none⟩ (.int .i64 ((rd_T87 l0 x10_1).f4))).setCell ⟨gb563, 5, none⟩ (.slice A562_5 ((rd_T87 l0 x10_1).f5).length c562_5)).setCell ⟨gb563, 6, none⟩ (.int .i64 ((rd_T87 l0 x10_1).f6.f0))).setCell ⟨gb563, 7, none⟩ (.int .i64 ((rd_T87 l0 x10_1).f6.f1))) = w15 at n0_ n1_ ⊢
    have BK563 := n0_
    have HB := n1_
    clear n0_ n1_
    have n0_ := zK (kD BK563.o)
    have n1_ := zK (below_drew1 HB.o)
    clear BK563
    clear HB
    have BK563 := n0_
    have HB := n1_
    clear n0_ n1_
    have p565 : 0 ≤ ((ji9) : Int) := oD M3
    have q565 : (ji9) < (l0.length : Int) := oD M3
    obtain ⟨ad565, A565_2, c565_2, A565_5, c565_5, e565, hx565_0, hx565_1, hx565_2, hx565_3, hx565_4, hx565_5, hx565_6, hx565_7, hl565_2, hi565_2, hl565_5, hi565_5⟩ := at_T87 HR0.o (ji9) p565 q565
    have hw565_7 := hx565_7
    have hw565_6 := hx565_6
    have hw565_5 := hx565_5
    have hw565_4 := hx565_4
    have hw565_3 := hx565_3
    have hw565_2 := hx565_2
    have hw565_1 := hx565_1
    have hw565_0 := hx565_0
    obtain rfl : ad562 = ad565 := (by injection e565)
    replace hx565_0 := cB HB.o hx565_0
    replace hx565_1 := cB HB.o hx565_1
    replace hx565_2 := cB HB.o hx565_2
    replace hx565_3 := cB HB.o hx565_3
    replace hx565_4 := cB HB.o hx565_4
    replace hx565_5 := cB HB.o hx565_5
    replace hx565_6 := cB HB.o hx565_6
    replace hx565_7 := cB HB.o hx565_7
    have HR565_2 := zK hi565_2
    have HC565_2 := zK hl565_2
    clear hi565_2 hl565_2
    have HR565_5 := zK hi565_5
    have HC565_5 := zK hl565_5
    clear hi565_5 hl565_5
    replace p565 := eq_true p565
    replace q565 := eq_true q565
    refine start_ (n := 18) (S := fun w' => w'.cell? ⟨gb563, 0, none⟩ = some (.int .i64 ((rd_T87 l0 x10_1).f0)) ∧ w'.cell? ⟨gb563, 1, none⟩ = some (.int .i64 ((rd_T87 l0 x10_1).f1)) ∧ w'.cell? ⟨gb563, 2, none⟩ = some (.slice A562_2 ((rd_T87 l0 x10_1).f2).length c562_2) ∧ w'.cell? ⟨gb563, 3, none⟩ = some (.int .i64 ((rd_T87 l0 x10_1).f3)) ∧ w'.cell? ⟨gb563, 4, none⟩ = some (.int .i64 ((rd_T87 l0 x10_1).f4)) ∧ w'.cell? ⟨gb563, 5, none⟩ = some (.slice A562_5 ((rd_T87 l0 x10_1).f5).length c562_5) ∧ w'.cell? ⟨gb563, 6, none⟩ = some (.int .i64 ((rd_T87 l0 x10_1).f6.f0)) ∧ w'.cell? ⟨gb563, 7, none⟩ = some (.int .i64 ((rd_T87 l0 x10_1).f6.f1)) ∧ w'.cell? (ad562.add (((ji9)).toNat * 8)) = some (.int .i64 ((rd_T87 l0 (ji9)).f0)) ∧ w'.cell? ⟨(ad562.add (((ji9)).toNat * 8)).block, (ad562.add (((ji9)).toNat * 8)).off + 1, none⟩ = some (.int .i64 ((rd_T87 l0 (ji9)).f1)) ∧ w'.cell? ⟨(ad562.add (((ji9)).toNat * 8)).block, (ad562.add (((ji9)).toNat * 8)).off + 2, none⟩ = some (.slice A565_2 ((rd_T87 l0 (ji9)).f2).length c565_2) ∧ w'.cell? ⟨(ad562.add (((ji9)).toNat * 8)).block, (ad562.add (((ji9)).toNat * 8)).off + 3, none⟩ = some (.int .i64 ((rd_T87 l0 (ji9)).f3)) ∧ w'.cell? ⟨(ad562.add (((ji9)).toNat * 8)).block, (ad562.add (((ji9)).toNat * 8)).off + 4, none⟩ = some (.int .i64 ((rd_T87 l0 (ji9)).f4)) ∧ w'.cell? ⟨(ad562.add (((ji9)).toNat * 8)).block, (ad562.add (((ji9)).toNat * 8)).off + 5, none⟩ = some (.slice A565_5 ((rd_T87 l0 (ji9)).f5).length c565_5) ∧ w'.cell? ⟨(ad562.add (((ji9)).toNat * 8)).block, (ad562.add (((ji9)).toNat * 8)).off + 6, none⟩ = some (.int .i64 ((rd_T87 l0 (ji9)).f6.f0)) ∧ w'.cell? ⟨(ad562.add (((ji9)).toNat * 8)).block, (ad562.add (((ji9)).toNat * 8)).off + 7, none⟩ = some (.int .i64 ((rd_T87 l0 (ji9)).f6.f1))) (ds := []) b9A0 (by kernel_rfl) rfl rfl ⟨(bc BK563.o 0).trans rfl, (bc BK563.o 1).trans rfl, (bc BK563.o 2).trans rfl, (bc BK563.o 3).trans rfl, (bc BK563.o 4).trans rfl, (bc BK563.o 5).trans rfl, (bc BK563.o 6).trans rfl, (bc BK563.o 7).trans rfl, (cB HB.o hw565_0 :), (cB HB.o hw565_1 :), (cB HB.o hw565_2 :), (cB HB.o hw565_3 :), (cB HB.o hw565_4 :), (cB HB.o hw565_5 :), (cB HB.o hw565_6 :), (cB HB.o hw565_7 :)⟩ (fun hHeld => ?_); refine with_tabW impl_AreReports.tab6 impl_AreReports.bits6 (fun HT_ HW_ => ?_)
    generalize w15.drew = w16 at BK563 HB HR565_2 HR565_5 hx565_0 hx565_1 hx565_2 hx565_3 hx565_4 hx565_5 hx565_6 hx565_7 hHeld ⊢
    refine tI 0 (some 15) b9A1 HT_ HW_ hHeld rfl rfl (Or.inl ⟨by rfl, by rintro w' ⟨s0, s1, s2, s3, s4, s5, s6, s7, s8, s9, s10, s11, s12, s13, s14, s15⟩; go_simp; with_reducible rfl⟩) ?_
    refine one_ (i := 1) (N := some 16) b9A2 rfl rfl (one_of HT_.o (by kernel_rfl)) (by decide) (fun K hK => ?_)
    refine goes_ Try.func167 (by kernel_rfl) rfl #[.agg #[.int .i64 ((rd_T87 l0 x10_1).f0), .int .i64 ((rd_T87 l0 x10_1).f1), .slice A562_2 ((rd_T87 l0 x10_1).f2).length c562_2, .int .i64 ((rd_T87 l0 x10_1).f3), .int .i64 ((rd_T87 l0 x10_1).f4), .slice A562_5 ((rd_T87 l0 x10_1).f5).length c562_5, .int .i64 ((rd_T87 l0 x10_1).f6.f0), .int .i64 ((rd_T87 l0 x10_1).f6.f1)]] (by rfl) rfl rfl M0 ?_
    with_reducible refine (impl_IsReport.calls k1 ((rd_T87 l0 x10_1).f0) ((rd_T87 l0 x10_1).f1) _ _ ((rd_T87 l0 x10_1).f2) ((rd_T87 l0 x10_1).f3) ((rd_T87 l0 x10_1).f4) _ _ ((rd_T87 l0 x10_1).f5) ((rd_T87 l0 x10_1).f6.f0) ((rd_T87 l0 x10_1).f6.f1) true _ ?side1 ?side2 ?side3 ?side4 A6.o).mono ?_
    (case side1 => exact Kd.qC (Kd.C_below HR562_2.o HB.o))
    (case side2 => exact HC562_2.o)
    (case side3 => exact Kd.qC (Kd.C_below HR562_5.o HB.o))
    (case side4 => exact HC562_5.o)
    rintro e w17 ⟨rfl, hb⟩
    refine ⟨_, rfl, ?_⟩
    have n0_ := zK (bB (qK BK563.o) hb)
    have n1_ := zK (bT (qX HB.o) hb)
    clear BK563
    clear HB
    have BK563 := n0_
    have HB := n1_
    clear n0_ n1_
    (try clear hb)
    (try clear hb2)
    (try clear hk)
    (try clear hi)
    refine hK.out _ _ ⟨(bc BK563.o 0).trans rfl, (bc BK563.o 1).trans rfl, (bc BK563.o 2).trans rfl, (bc BK563.o 3).trans rfl, (bc BK563.o 4).trans rfl, (bc BK563.o 5).trans rfl, (bc BK563.o 6).trans rfl, (bc BK563.o 7).trans rfl, (cB HB.o hw565_0 :), (cB HB.o hw565_1 :), (cB HB.o hw565_2 :), (cB HB.o hw565_3 :), (cB HB.o hw565_4 :), (cB HB.o hw565_5 :), (cB HB.o hw565_6 :), (cB HB.o hw565_7 :)⟩ (fun hHeld => ?_)
    clear hK K
    refine norm_ (a' := ?_) ?_ ?_
    rotate_left
    ·show Act.put _ (some 16) _ = _
     simp only [Act.put, sA, sZ, sS, i64_w, i32_w]
     rfl
    refine pI 2 (some 17) b9A3 HT_ ?_
    refine pI 3 (some 18) b9A4 HT_ ?_
    refine pI 4 (some 19) b9A5 HT_ ?_
    refine pI 5 (some 20) b9A6 HT_ ?_
    refine pI 6 (some 21) b9A7 HT_ ?_
    refine pI 7 (some 22) b9A8 HT_ ?_
    refine pI 9 (some 24) b9A9 HT_ ?_
    refine pI 10 (some 25) b9A10 HT_ ?_
    refine pI 11 (some 26) b9A11 HT_ ?_
    refine pI 12 (some 27) b9A12 HT_ ?_
    refine pI 13 (some 28) b9A13 HT_ ?_
    refine tI 8 (some 23) b9A14 HT_ HW_ hHeld rfl rfl (Or.inl ⟨by rfl, by rintro w' ⟨s0, s1, s2, s3, s4, s5, s6, s7, s8, s9, s10, s11, s12, s13, s14, s15⟩; go_simp; with_reducible rfl⟩) ?_
    refine tI 14 (some 29) b9A15 HT_ HW_ hHeld rfl rfl (Or.inl ⟨by rfl, by rintro w' ⟨s0, s1, s2, s3, s4, s5, s6, s7, s8, s9, s10, s11, s12, s13, s14, s15⟩; go_simp; with_reducible rfl⟩) ?_
    refine pI 15 (some 30) b9A16 HT_ ?_
    refine pI 16 (some 31) b9A17 HT_ ?_
    refine pI 17 (some 32) b9A18 HT_ ?_
    refine done_ (done_of HT_.o (by kernel_rfl)) ?_
    try go_wp2
    go_ret
    exact ⟨by first | rfl | (simp [errW_none, errW_some] <;> rfl) | (simp only [← hji9]; first | rfl | (simp [errW_none, errW_some] <;> rfl)) | (simp [*, errW_none, errW_some] <;> rfl), by exact qX HB.o⟩
   rw [if_neg c12] at H
   have c12b0 : decide (((rd_T87 l0 x10_1).f0) ≤ ((rd_T87 l0 (ji9)).f0)) = false := decide_eq_false c12
   clear c12
   have H' := zK H
   clear H
   have p562 : 0 ≤ (x10_1 : Int) := oD M3
   have q562 : x10_1 < (l0.length : Int) := oD M3
   obtain ⟨ad562, A562_2, c562_2, A562_5, c562_5, e562, hx562_0, hx562_1, hx562_2, hx562_3, hx562_4, hx562_5, hx562_6, hx562_7, hl562_2, hi562_2, hl562_5, hi562_5⟩ := at_T87 HR0.o x10_1 p562 q562
   cases e562
   replace hx562_0 := cB HB.o hx562_0
   replace hx562_1 := cB HB.o hx562_1
   replace hx562_2 := cB HB.o hx562_2
   replace hx562_3 := cB HB.o hx562_3
   replace hx562_4 := cB HB.o hx562_4
   replace hx562_5 := cB HB.o hx562_5
   replace hx562_6 := cB HB.o hx562_6
   replace hx562_7 := cB HB.o hx562_7
   have HR562_2 := zK hi562_2
   have HC562_2 := zK hl562_2
   clear hi562_2 hl562_2
   have HR562_5 := zK hi562_5
   have HC562_5 := zK hl562_5
   clear hi562_5 hl562_5
   replace p562 := eq_true p562
   replace q562 := eq_true q562
   try go_wp2_with (first | ((with_reducible refine gate_dst (N := 4) rfl ?_); refine box_event ?hg (N := 4) ?hd (cs := #[.int .i64 0, .int .i64 0, .slice none 0 0, .int .i64 0, .int .i64 0, .slice none 0 0, .int .i64 0, .int .i64 0]) (t := 87) ?hr ?_; (case hd => rfl); (case hg => rfl); (case hr => first | (go_simp; done) | (go_simp; rfl)); intro gb563 hg w18 hbox hb; have _ := zK (bT (qB HB.o) hb); have _ := zK (hbox); have _ := zK ((by rw [hg]; exact (bZ (qB HB.o)) : w.heap.size ≤ gb563)); have _ := zK ((by rw [hg]; exact (bZ (qB HB.o)) : w.heap.size ≤ gb563)); clear HB; rename_i HB BK563 GW563 GE563; clear hb hbox hg; obtain ⟨hcz19_0, hcz19_1, hcz19_2, hcz19_3, hcz19_4, hcz19_5, hcz19_6, hcz19_7, hfz19_0, hfz19_1, hfz19_2, hfz19_3, hfz19_4, hfz19_5, hfz19_6, hfz19_7⟩ := bx8 BK563.o))
   have n0_ : Aside0 (((((((((w18.setCell ⟨gb563, 0, none⟩ (.int .i64 ((rd_T87 l0 x10_1).f0))).setCell ⟨gb563, 1, none⟩ (.int .i64 ((rd_T87 l0 x10_1).f1))).setCell ⟨gb563, 2, none⟩ (.slice A562_2 ((rd_T87 l0 x10_1).f2).length c562_2)).setCell ⟨gb563, 3, none⟩ (.int .i64 ((rd_T87 l0 x10_1).f3))).setCell ⟨gb563, 4, none⟩ (.int .i64 ((rd_T87 l0 x10_1).f4))).setCell ⟨gb563, 5, none⟩ (.slice A562_5 ((rd_T87 l0 x10_1).f5).length c562_5)).setCell ⟨gb563, 6, none⟩ (.int .i64 ((rd_T87 l0 x10_1).f6.f0))).setCell ⟨gb563, 7, none⟩ (.int .i64 ((rd_T87 l0 x10_1).f6.f1))).heap[gb563]? = some (.cells #[.int .i64 ((rd_T87 l0 x10_1).f0), .int .i64 ((rd_T87 l0 x10_1).f1), .slice A562_2 ((rd_T87 l0 x10_1).f2).length c562_2, .int .i64 ((rd_T87 l0 x10_1).f3), .int .i64 ((rd_T87 l0 x10_1).f4), .slice A562_5 ((rd_T87 l0 x10_1).f5).length c562_5, .int .i64 ((rd_T87 l0 x10_1).f6.f0), .int .i64 ((rd_T87 l0 x10_1).f6.f1)] 87 (0, 0))) := ⟨by (with_reducible repeat (first | refine kN ?_ _ | refine kD ?_ | refine kA ?_ _)); refine blk_put (cs := #[.int .i64 ((rd_T87 l0 x10_1).f0), .int .i64 ((rd_T87 l0 x10_1).f1), .slice A562_2 ((rd_T87 l0 x10_1).f2).length c562_2, .int .i64 ((rd_T87 l0 x10_1).f3), .int .i64 ((rd_T87 l0 x10_1).f4), .slice A562_5 ((rd_T87 l0 x10_1).f5).length c562_5, .int .i64 ((rd_T87 l0 x10_1).f6.f0), .int .i64 0]) ?_ 7 _ rfl; (with_reducible repeat (first | refine kN ?_ _ | refine kD ?_ | refine kA ?_ _)); refine blk_put (cs := #[.int .i64 ((rd_T87 l0 x10_1).f0), .int .i64 ((rd_T87 l0 x10_1).f1), .slice A562_2 ((rd_T87 l0 x10_1).f2).length c562_2, .int .i64 ((rd_T87 l0 x10_1).f3), .int .i64 ((rd_T87 l0 x10_1).f4), .slice A562_5 ((rd_T87 l0 x10_1).f5).length c562_5, .int .i64 0, .int .i64 0]) ?_ 6 _ rfl; (with_reducible repeat (first | refine kN ?_ _ | refine kD ?_ | refine kA ?_ _)); refine blk_put (cs := #[.int .i64 ((rd_T87 l0 x10_1).f0), .int .i64 ((rd_T87 l0 x10_1).f1), .slice A562_2 ((rd_T87 l0 x10_1).f2).length c562_2, .int .i64 ((rd_T87 l0 x10_1).f3), .int .i64 ((rd_T87 l0 x10_1).f4), .slice none 0 0, .int .i64 0, .int .i64 0]) ?_ 5 _ rfl; (with_reducible repeat (first | refine kN ?_ _ | refine kD ?_ | refine kA ?_ _)); refine blk_put (cs := #[.int .i64 ((rd_T87 l0 x10_1).f0), .int .i64 ((rd_T87 l0 x10_1).f1), .slice A562_2 ((rd_T87 l0 x10_1).f2).length c562_2, .int .i64 ((rd_T87 l0 x10_1).f3), .int .i64 0, .slice none 0 0, .int .i64 0, .int .i64 0]) ?_ 4 _ rfl; (with_reducible repeat (first | refine kN ?_ _ | refine kD ?_ | refine kA ?_ _)); refine blk_put (cs := #[.int .i64 ((rd_T87 l0 x10_1).f0), .int .i64 ((rd_T87 l0 x10_1).f1), .slice A562_2 ((rd_T87 l0 x10_1).f2).length c562_2, .int .i64 0, .int .i64 0, .slice none 0 0, .int .i64 0, .int .i64 0]) ?_ 3 _ rfl; (with_reducible repeat (first | refine kN ?_ _ | refine kD ?_ | refine kA ?_ _)); refine blk_put (cs := #[.int .i64 ((rd_T87 l0 x10_1).f0), .int .i64 ((rd_T87 l0 x10_1).f1), .slice none 0 0, .int .i64 0, .int .i64 0, .slice none 0 0, .int .i64 0, .int .i64 0]) ?_ 2 _ rfl; (with_reducible repeat (first | refine kN ?_ _ | refine kD ?_ | refine kA ?_ _)); refine blk_put (cs := #[.int .i64 ((rd_T87 l0 x10_1).f0), .int .i64 0, .slice none 0 0, .int .i64 0, .int .i64 0, .slice none 0 0, .int .i64 0, .int .i64 0]) ?_ 1 _ rfl; (with_reducible repeat (first | refine kN ?_ _ | refine kD ?_ | refine kA ?_ _)); refine blk_put (cs := #[.int .i64 0, .int .i64 0, .slice none 0 0, .int .i64 0, .int .i64 0, .slice none 0 0, .int .i64 0, .int .i64 0]) ?_ 0 _ rfl; exact qK BK563.o⟩
   have n1_ : Aside0 (Below w.heap.size w ((((((((w18.setCell ⟨gb563, 0, none⟩ (.int .i64 ((rd_T87 l0 x10_1).f0))).setCell ⟨gb563, 1, none⟩ (.int .i64 ((rd_T87 l0 x10_1).f1))).setCell ⟨gb563, 2, none⟩ (.slice A562_2 ((rd_T87 l0 x10_1).f2).length c562_2)).setCell ⟨gb563, 3, none⟩ (.int .i64 ((rd_T87 l0 x10_1).f3))).setCell ⟨gb563, 4, none⟩ (.int .i64 ((rd_T87 l0 x10_1).f4))).setCell ⟨gb563, 5, none⟩ (.slice A562_5 ((rd_T87 l0 x10_1).f5).length c562_5)).setCell ⟨gb563, 6, none⟩ (.int .i64 ((rd_T87 l0 x10_1).f6.f0))).setCell ⟨gb563, 7, none⟩ (.int .i64 ((rd_T87 l0 x10_1).f6.f1)))) := ⟨by exact qX HB.o⟩
   (try clear BK563)
   (try clear HB)
   generalize ((((((((w18.setCell ⟨gb563, 0, none⟩ (.int .i64 ((rd_T87 l0 x10_1).f0))).setCell ⟨gb563, 1, none⟩ (.int .i64 ((rd_T87 l0 x10_1).f1))).setCell ⟨gb563, 2, none⟩ (.slice A562_2 ((rd_T87 l0 x10_1).f2).length c562_2)).setCell ⟨gb563, 3, none⟩ (.int .i64 ((rd_T87 l0 x10_1).f3))).setCell ⟨gb563, 4, none⟩ (.int .i64 ((rd_T87 l0 x10_1).f4))).setCell ⟨gb563, 5, none⟩ (.slice A562_5 ((rd_T87 l0 x10_1).f5).length c562_5)).setCell ⟨gb563, 6, none⟩ (.int .i64 ((rd_T87 l0 x10_1).f6.f0))).setCell ⟨gb563, 7, none⟩ (.int .i64 ((rd_T87 l0 x10_1).f6.f1))) = w20 at n0_ n1_ ⊢
   have BK563 := n0_
   have HB := n1_
   clear n0_ n1_
   have n0_ := zK (kD BK563.o)
   have n1_ := zK (below_drew1 HB.o)
   clear BK563
   clear HB
   have BK563 := n0_
   have HB := n1_
   clear n0_ n1_
   have p565 : 0 ≤ ((ji9) : Int) := oD M3
   have q565 : (ji9) < (l0.length : Int) := oD M3
   obtain ⟨ad565, A565_2, c565_2, A565_5, c565_5, e565, hx565_0, hx565_1, hx565_2, hx565_3, hx565_4, hx565_5, hx565_6, hx565_7, hl565_2, hi565_2, hl565_5, hi565_5⟩ := at_T87 HR0.o (ji9) p565 q565
   have hw565_7 := hx565_7
   have hw565_6 := hx565_6
   have hw565_5 := hx565_5
   have hw565_4 := hx565_4
   have hw565_3 := hx565_3
   have hw565_2 := hx565_2
   have hw565_1 := hx565_1
   have hw565_0 := hx565_0
   obtain rfl : ad562 = ad565 := (by injection e565)
   replace hx565_0 := cB HB.o hx565_0
   replace hx565_1 := cB HB.o hx565_1
   replace hx565_2 := cB HB.o hx565_2
   replace hx565_3 := cB HB.o hx565_3
   replace hx565_4 := cB HB.o hx565_4
   replace hx565_5 := cB HB.o hx565_5
   replace hx565_6 := cB HB.o hx565_6
   replace hx565_7 := cB HB.o hx565_7
   have HR565_2 := zK hi565_2
   have HC565_2 := zK hl565_2
   clear hi565_2 hl565_2
   have HR565_5 := zK hi565_5
   have HC565_5 := zK hl565_5
   clear hi565_5 hl565_5
   replace p565 := eq_true p565
   replace q565 := eq_true q565
   refine start_ (n := 18) (S := fun w' => w'.cell? ⟨gb563, 0, none⟩ = some (.int .i64 ((rd_T87 l0 x10_1).f0)) ∧ w'.cell? ⟨gb563, 1, none⟩ = some (.int .i64 ((rd_T87 l0 x10_1).f1)) ∧ w'.cell? ⟨gb563, 2, none⟩ = some (.slice A562_2 ((rd_T87 l0 x10_1).f2).length c562_2) ∧ w'.cell? ⟨gb563, 3, none⟩ = some (.int .i64 ((rd_T87 l0 x10_1).f3)) ∧ w'.cell? ⟨gb563, 4, none⟩ = some (.int .i64 ((rd_T87 l0 x10_1).f4)) ∧ w'.cell? ⟨gb563, 5, none⟩ = some (.slice A562_5 ((rd_T87 l0 x10_1).f5).length c562_5) ∧ w'.cell? ⟨gb563, 6, none⟩ = some (.int .i64 ((rd_T87 l0 x10_1).f6.f0)) ∧ w'.cell? ⟨gb563, 7, none⟩ = some (.int .i64 ((rd_T87 l0 x10_1).f6.f1)) ∧ w'.cell? (ad562.add (((ji9)).toNat * 8)) = some (.int .i64 ((rd_T87 l0 (ji9)).f0)) ∧ w'.cell? ⟨(ad562.add (((ji9)).toNat * 8)).block, (ad562.add (((ji9)).toNat * 8)).off + 1, none⟩ = some (.int .i64 ((rd_T87 l0 (ji9)).f1)) ∧ w'.cell? ⟨(ad562.add (((ji9)).toNat * 8)).block, (ad562.add (((ji9)).toNat * 8)).off + 2, none⟩ = some (.slice A565_2 ((rd_T87 l0 (ji9)).f2).length c565_2) ∧ w'.cell? ⟨(ad562.add (((ji9)).toNat * 8)).block, (ad562.add (((ji9)).toNat * 8)).off + 3, none⟩ = some (.int .i64 ((rd_T87 l0 (ji9)).f3)) ∧ w'.cell? ⟨(ad562.add (((ji9)).toNat * 8)).block, (ad562.add (((ji9)).toNat * 8)).off + 4, none⟩ = some (.int .i64 ((rd_T87 l0 (ji9)).f4)) ∧ w'.cell? ⟨(ad562.add (((ji9)).toNat * 8)).block, (ad562.add (((ji9)).toNat * 8)).off + 5, none⟩ = some (.slice A565_5 ((rd_T87 l0 (ji9)).f5).length c565_5) ∧ w'.cell? ⟨(ad562.add (((ji9)).toNat * 8)).block, (ad562.add (((ji9)).toNat * 8)).off + 6, none⟩ = some (.int .i64 ((rd_T87 l0 (ji9)).f6.f0)) ∧ w'.cell? ⟨(ad562.add (((ji9)).toNat * 8)).block, (ad562.add (((ji9)).toNat * 8)).off + 7, none⟩ = some (.int .i64 ((rd_T87 l0 (ji9)).f6.f1))) (ds := []) b9A0 (by kernel_rfl) rfl rfl ⟨(bc BK563.o 0).trans rfl, (bc BK563.o 1).trans rfl, (bc BK563.o 2).trans rfl, (bc BK563.o 3).trans rfl, (bc BK563.o 4).trans rfl, (bc BK563.o 5).trans rfl, (bc BK563.o 6).trans rfl, (bc BK563.o 7).trans rfl, (cB HB.o hw565_0 :), (cB HB.o hw565_1 :), (cB HB.o hw565_2 :), (cB HB.o hw565_3 :), (cB HB.o hw565_4 :), (cB HB.o hw565_5 :), (cB HB.o hw565_6 :), (cB HB.o hw565_7 :)⟩ (fun hHeld => ?_); refine with_tabW impl_AreReports.tab6 impl_AreReports.bits6 (fun HT_ HW_ => ?_)
   generalize w20.drew = w21 at BK563 HB HR565_2 HR565_5 hx565_0 hx565_1 hx565_2 hx565_3 hx565_4 hx565_5 hx565_6 hx565_7 hHeld ⊢
   refine tI 0 (some 15) b9A1 HT_ HW_ hHeld rfl rfl (Or.inl ⟨by rfl, by rintro w' ⟨s0, s1, s2, s3, s4, s5, s6, s7, s8, s9, s10, s11, s12, s13, s14, s15⟩; go_simp; with_reducible rfl⟩) ?_
   refine one_ (i := 1) (N := some 16) b9A2 rfl rfl (one_of HT_.o (by kernel_rfl)) (by decide) (fun K hK => ?_)
   refine goes_ Try.func167 (by kernel_rfl) rfl #[.agg #[.int .i64 ((rd_T87 l0 x10_1).f0), .int .i64 ((rd_T87 l0 x10_1).f1), .slice A562_2 ((rd_T87 l0 x10_1).f2).length c562_2, .int .i64 ((rd_T87 l0 x10_1).f3), .int .i64 ((rd_T87 l0 x10_1).f4), .slice A562_5 ((rd_T87 l0 x10_1).f5).length c562_5, .int .i64 ((rd_T87 l0 x10_1).f6.f0), .int .i64 ((rd_T87 l0 x10_1).f6.f1)]] (by rfl) rfl rfl M0 ?_
   with_reducible refine (impl_IsReport.calls k1 ((rd_T87 l0 x10_1).f0) ((rd_T87 l0 x10_1).f1) _ _ ((rd_T87 l0 x10_1).f2) ((rd_T87 l0 x10_1).f3) ((rd_T87 l0 x10_1).f4) _ _ ((rd_T87 l0 x10_1).f5) ((rd_T87 l0 x10_1).f6.f0) ((rd_T87 l0 x10_1).f6.f1) true _ ?side1 ?side2 ?side3 ?side4 A6.o).mono ?_
   (case side1 => exact Kd.qC (Kd.C_below HR562_2.o HB.o))
   (case side2 => exact HC562_2.o)
   (case side3 => exact Kd.qC (Kd.C_below HR562_5.o HB.o))
   (case side4 => exact HC562_5.o)
   rintro e w22 ⟨rfl, hb⟩
   refine ⟨_, rfl, ?_⟩
   have n0_ := zK (bB (qK BK563.o) hb)
   have n1_ := zK (bT (qX HB.o) hb)
   clear BK563
   clear HB
   have BK563 := n0_
   have HB := n1_
   clear n0_ n1_
   (try clear hb)
   (try clear hb2)
   (try clear hk)
   (try clear hi)
   refine hK.out _ _ ⟨(bc BK563.o 0).trans rfl, (bc BK563.o 1).trans rfl, (bc BK563.o 2).trans rfl, (bc BK563.o 3).trans rfl, (bc BK563.o 4).trans rfl, (bc BK563.o 5).trans rfl, (bc BK563.o 6).trans rfl, (bc BK563.o 7).trans rfl, (cB HB.o hw565_0 :), (cB HB.o hw565_1 :), (cB HB.o hw565_2 :), (cB HB.o hw565_3 :), (cB HB.o hw565_4 :), (cB HB.o hw565_5 :), (cB HB.o hw565_6 :), (cB HB.o hw565_7 :)⟩ (fun hHeld => ?_)
   clear hK K
   refine norm_ (a' := ?_) ?_ ?_
   rotate_left
   ·show Act.put _ (some 16) _ = _
    simp only [Act.put, sA, sZ, sS, i64_w, i32_w]
    rfl
   refine pI 2 (some 17) b9A3 HT_ ?_
   refine pI 3 (some 18) b9A4 HT_ ?_
   refine pI 4 (some 19) b9A5 HT_ ?_
   refine pI 5 (some 20) b9A6 HT_ ?_
   refine pI 6 (some 21) b9A7 HT_ ?_
   refine pI 7 (some 22) b9A8 HT_ ?_
   refine pI 9 (some 24) b9A9 HT_ ?_
   refine pI 10 (some 25) b9A10 HT_ ?_
   refine pI 11 (some 26) b9A11 HT_ ?_
   refine pI 12 (some 27) b9A12 HT_ ?_
   refine pI 13 (some 28) b9A13 HT_ ?_
   refine tI 8 (some 23) b9A14 HT_ HW_ hHeld rfl rfl (Or.inl ⟨by rfl, by rintro w' ⟨s0, s1, s2, s3, s4, s5, s6, s7, s8, s9, s10, s11, s12, s13, s14, s15⟩; go_simp; with_reducible rfl⟩) ?_
   refine tI 14 (some 29) b9A15 HT_ HW_ hHeld rfl rfl (Or.inl ⟨by rfl, by rintro w' ⟨s0, s1, s2, s3, s4, s5, s6, s7, s8, s9, s10, s11, s12, s13, s14, s15⟩; go_simp; with_reducible rfl⟩) ?_
   refine pI 15 (some 30) b9A16 HT_ ?_
   refine pI 16 (some 31) b9A17 HT_ ?_
   refine pI 17 (some 32) b9A18 HT_ ?_
   refine done_ (done_of HT_.o (by kernel_rfl)) ?_
   try go_wp2
   go_roundg k1
   case measure => have := HK1.o; omega
   case rel => exact ⟨(wrap64 (x10_1 + 1)), M7, H', ⟨by have := HK1.o; omega⟩, ⟨by exact qX HB.o⟩⟩
end Go.Proofs.Ytpkdbkheggfkkaa.PFnLetters
