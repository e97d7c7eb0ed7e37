/- Walks of functions that FnExactLettersFor reaches: written by a tool of the kit for this claim, then shortened by a program of ours. -/
import Derived.Test.YtpkdbkheggfkkaaPFnExactLettersForx0
import Derived.Test.YtpkdbkheggfkkaaPFnExactLettersForx18
/- narrow -/
namespace Go.Proofs.Ytpkdbkheggfkkaa.PFnExactLettersFor
open Go.RowKit Go.Proofs.YtpkdbkheggfkkaaW.PrintWords Go.Proofs.YtpkdbkheggfkkaaW.PrintLast Go.Proofs.YtpkdbkheggfkkaaW.PrintMore
attribute [local go_sem] max2_int min2_int max_two min_two max_three min_three max_four min_four   -- for this text's walks alone
set_option linter.unusedVariables false
set_option linter.unusedSimpArgs false

abbrev b19A0 : Array Bool := #[bo, bo, bo, bo, bo, bo, bo, bo, bo, bo, bo, bo, bo, bo, bo, bo, bo, bo, bo, bo, bo, bo, bo, bo, bo, bo]
abbrev b19A1 : Array Bool := #[bi, bo, bo, bo, bo, bo, bo, bo, bo, bo, bo, bo, bo, bo, bo, bo, bo, bo, bo, bo, bo, bo, bo, bo, bo, bo]
abbrev b19A2 : Array Bool := #[bi, bi, bo, bo, bo, bo, bo, bo, bo, bo, bo, bo, bo, bo, bo, bo, bo, bo, bo, bo, bo, bo, bo, bo, bo, bo]
abbrev b19A3 : Array Bool := #[bi, bi, bi, bo, bo, bo, bo, bo, bo, bo, bo, bo, bo, bo, bo, bo, bo, bo, bo, bo, bo, bo, bo, bo, bo, bo]
abbrev b19A4 : Array Bool := #[bi, bi, bi, bi, bo, bo, bo, bo, bo, bo, bo, bo, bo, bo, bo, bo, bo, bo, bo, bo, bo, bo, bo, bo, bo, bo]
abbrev b19A5 : Array Bool := #[bi, bi, bi, bi, bi, bo, bo, bo, bo, bo, bo, bo, bo, bo, bo, bo, bo, bo, bo, bo, bo, bo, bo, bo, bo, bo]
abbrev b19A6 : Array Bool := #[bi, bi, bi, bi, bi, bi, bo, bo, bo, bo, bo, bo, bo, bo, bo, bo, bo, bo, bo, bo, bo, bo, bo, bo, bo, bo]
abbrev b19A7 : Array Bool := #[bi, bi, bi, bi, bi, bi, bi, bo, bo, bo, bo, bo, bo, bo, bo, bo, bo, bo, bo, bo, bo, bo, bo, bo, bo, bo]
abbrev b19A8 : Array Bool := #[bi, bi, bi, bi, bi, bi, bi, bi, bo, bo, bo, bo, bo, bo, bo, bo, bo, bo, bo, bo, bo, bo, bo, bo, bo, bo]
abbrev b19A9 : Array Bool := #[bi, bi, bi, bi, bi, bi, bi, bi, bi, bo, bo, bo, bo, bo, bo, bo, bo, bo, bo, bo, bo, bo, bo, bo, bo, bo]
abbrev b19A10 : Array Bool := #[bi, bi, bi, bi, bi, bi, bi, bi, bi, bi, bo, bo, bo, bo, bo, bo, bo, bo, bo, bo, bo, bo, bo, bo, bo, bo]
abbrev b19A11 : Array Bool := #[bi, bi, bi, bi, bi, bi, bi, bi, bi, bi, bi, bo, bo, bo, bo, bo, bo, bo, bo, bo, bo, bo, bo, bo, bo, bo]
abbrev b19A12 : Array Bool := #[bi, bi, bi, bi, bi, bi, bi, bi, bi, bi, bi, bi, bo, bo, bo, bo, bo, bo, bo, bo, bo, bo, bo, bo, bo, bo]
abbrev b19A13 : Array Bool := #[bi, bi, bi, bi, bi, bi, bi, bi, bi, bi, bi, bi, bi, bo, bo, bo, bo, bo, bo, bo, bo, bo, bo, bo, bo, bo]
abbrev b19A14 : Array Bool := #[bi, bi, bi, bi, bi, bi, bi, bi, bi, bi, bi, bi, bi, bi, bo, bo, bo, bo, bo, bo, bo, bo, bo, bo, bo, bo]
abbrev b19A15 : Array Bool := #[bi, bi, bi, bi, bi, bi, bi, bi, bi, bi, bi, bi, bi, bi, bi, bo, bo, bo, bo, bo, bo, bo, bo, bo, bo, bo]
abbrev b19A16 : Array Bool := #[bi, bi, bi, bi, bi, bi, bi, bi, bi, bi, bi, bi, bi, bi, bi, bi, bo, bo, bo, bo, bo, bo, bo, bo, bo, bo]
abbrev b19A17 : Array Bool := #[bi, bi, bi, bi, bi, bi, bi, bi, bi, bi, bi, bi, bi, bi, bi, bi, bi, bo, bo, bo, bo, bo, bo, bo, bo, bo]
abbrev b19A18 : Array Bool := #[bi, bi, bi, bi, bi, bi, bi, bi, bi, bi, bi, bi, bi, bi, bi, bi, bi, bi, bo, bo, bo, bo, bo, bo, bo, bo]
abbrev b19A19 : Array Bool := #[bi, bi, bi, bi, bi, bi, bi, bi, bi, bi, bi, bi, bi, bi, bi, bi, bi, bi, bi, bo, bo, bo, bo, bo, bo, bo]
abbrev b19A20 : Array Bool := #[bi, bi, bi, bi, bi, bi, bi, bi, bi, bi, bi, bi, bi, bi, bi, bi, bi, bi, bi, bi, bo, bo, bo, bo, bo, bo]
abbrev b19A21 : Array Bool := #[bi, bi, bi, bi, bi, bi, bi, bi, bi, bi, bi, bi, bi, bi, bi, bi, bi, bi, bi, bi, bi, bo, bo, bo, bo, bo]
abbrev b19A22 : Array Bool := #[bi, bi, bi, bi, bi, bi, bi, bi, bi, bi, bi, bi, bi, bi, bi, bi, bi, bi, bi, bi, bi, bi, bo, bo, bo, bo]
abbrev b19A23 : Array Bool := #[bi, bi, bi, bi, bi, bi, bi, bi, bi, bi, bi, bi, bi, bi, bi, bi, bi, bi, bi, bi, bi, bi, bi, bo, bo, bo]
abbrev b19A24 : Array Bool := #[bi, bi, bi, bi, bi, bi, bi, bi, bi, bi, bi, bi, bi, bi, bi, bi, bi, bi, bi, bi, bi, bi, bi, bi, bo, bo]
abbrev b19A25 : Array Bool := #[bi, bi, bi, bi, bi, bi, bi, bi, bi, bi, bi, bi, bi, bi, bi, bi, bi, bi, bi, bi, bi, bi, bi, bi, bi, bo]
abbrev b19A26 : Array Bool := #[bi, bi, bi, bi, bi, bi, bi, bi, bi, bi, bi, bi, bi, bi, bi, bi, bi, bi, bi, bi, bi, bi, bi, bi, bi, bi]
abbrev b19A27 : Array Bool := #[bi, bi, bi, bi, bi, bi, bo, bi, bo, bo, bo, bo, bo, bo, bo, bo, bo, bo, bo, bo, bo, bo, bo, bo, bo, bo]
abbrev b19A28 : Array Bool := #[bi, bi, bi, bi, bi, bi, bi, bi, bi, bi, bi, bi, bi, bi, bi, bo, bi, bo, bo, bo, bo, bo, bo, bo, bo, bo]
abbrev b19A29 : Array Bool := #[bi, bi, bi, bi, bi, bi, bi, bi, bi, bi, bi, bi, bi, bi, bi, bo, bi, bi, bo, bo, bo, bo, bo, bo, bo, bo]
abbrev b19A30 : Array Bool := #[bi, bi, bi, bi, bi, bi, bi, bi, bi, bi, bi, bi, bi, bi, bi, bo, bi, bi, bi, bo, bo, bo, bo, bo, bo, bo]
abbrev b19A31 : Array Bool := #[bi, bi, bi, bi, bi, bi, bi, bi, bi, bi, bi, bi, bi, bi, bi, bo, bi, bi, bi, bi, bo, bo, bo, bo, bo, bo]
abbrev b19A32 : Array Bool := #[bi, bi, bi, bi, bi, bi, bi, bi, bi, bi, bi, bi, bi, bi, bi, bo, bi, bi, bi, bi, bi, bo, bo, bo, bo, bo]
abbrev b19A33 : Array Bool := #[bo, bo, bo, bo, bo, bo, bo]
abbrev b19A34 : Array Bool := #[bo, bi, bo, bo, bo, bo, bo]
abbrev b19A35 : Array Bool := #[bo, bi, bi, bo, bo, bo, bo]
abbrev b19A36 : Array Bool := #[bo, bi, bi, bi, bo, bo, bo]
abbrev b19A37 : Array Bool := #[bi, bi, bi, bi, bo, bo, bo]
abbrev b19A38 : Array Bool := #[bi, bi, bi, bi, bi, bo, bo]
abbrev b19A39 : Array Bool := #[bi, bi, bi, bi, bi, bi, bo]
abbrev b19A40 : Array Bool := #[bi, bi, bi, bi, bi, bi, bi]
/-! ### spec_l23Next: function 132 -/
mutual
def spec_l23Next.l0 : Nat → List (S81) → List (S126) → Int → Int → Int → Int → Int → List Int → Int → Int → List Int → Int → Int → Option (Int)
 | 0, _, _, _, _, _, _, _, _, _, _, _, _, _ => none
 | k + 1, x0, x2, x7, x8, x9, x306000, x306001, x306002, x306003, x306004, x306005, x306006, x306007 => if x9 < (x2.length : Int) then (spec_l23Next.l1 k x0 x2 x7 x8 x9 false 0 x306000 x306001 x306002 x306003 x306004 x306005 x306006 x306007) else (some x7)
def spec_l23Next.l1 : Nat → List (S81) → List (S126) → Int → Int → Int → Bool → Int → Int → Int → List Int → Int → Int → List Int → Int → Int → Option (Int)
 | 0, _, _, _, _, _, _, _, _, _, _, _, _, _, _, _ => none
 | k + 1, x0, x2, x7, x8, x9, x10, x11, x306000, x306001, x306002, x306003, x306004, x306005, x306006, x306007 => if x11 < (x0.length : Int) then (if x10 = true then (spec_l23Next.l1 k x0 x2 x7 x8 x9 true (wrap64 (x11 + 1)) x306000 x306001 x306002 x306003 x306004 x306005 x306006 x306007) else (if 0 ≤ x11 then (if ((rd_T81 x0 x11).f0) = x306000 then (if 0 ≤ x9 then (if x9 < (x2.length : Int) then (spec_l23Next.l1 k x0 x2 x7 x8 x9 (((rd_T81 x0 x11).f1) == ((rd_T126 x2 x9).f0.f0)) (wrap64 (x11 + 1)) x306000 x306001 x306002 x306003 x306004 x306005 x306006 x306007) else (none)) else (none)) else (spec_l23Next.l1 k x0 x2 x7 x8 x9 false (wrap64 (x11 + 1)) x306000 x306001 x306002 x306003 x306004 x306005 x306006 x306007)) else (none))) else (if 0 ≤ x9 then (if x9 < (x2.length : Int) then ((spec_Score.f k x306000 x306001 x306002 x306003 x306004 x306005 x306006 x306007 ((rd_T126 x2 x9).f0.f0) ((rd_T126 x2 x9).f0.f1) ((rd_T126 x2 x9).f0.f2) ((rd_T126 x2 x9).f0.f3) ((rd_T126 x2 x9).f0.f4) ((rd_T126 x2 x9).f1) ((rd_T126 x2 x9).f2) ((rd_T126 x2 x9).f3)).bind fun t310 => (if t310 > x8 then (if x10 = true then (spec_l23Next.l0 k x0 x2 x7 x8 (wrap64 (x9 + 1)) x306000 x306001 x306002 x306003 x306004 x306005 x306006 x306007) else (spec_l23Next.l0 k x0 x2 ((rd_T126 x2 x9).f0.f0) t310 (wrap64 (x9 + 1)) x306000 x306001 x306002 x306003 x306004 x306005 x306006 x306007)) else (spec_l23Next.l0 k x0 x2 x7 x8 (wrap64 (x9 + 1)) x306000 x306001 x306002 x306003 x306004 x306005 x306006 x306007))) else (none)) else (none))
end
def spec_l23Next.f (k : Nat) (l0 : List (S81)) (a1_0 : Int) (a1_1 : Int) (l1_2 : List Int) (a1_3 : Int) (a1_4 : Int) (l1_5 : List Int) (a1_6 : Int) (a1_7 : Int) (l2 : List (S126)) : Option (Int) := spec_l23Next.l0 k l0 l2 0 0 0 a1_0 a1_1 l1_2 a1_3 a1_4 l1_5 a1_6 a1_7
def spec_l23Next.T10 : Bool × List (List Nat × List Nat) := (true, [([], []), ([0], [0]), ([1], [1]), ([1], [1]), ([2, 3, 1], [1, 2, 3]), ([4, 1], [1, 4]), ([5, 1], [1, 5]), ([1], [1]), ([7, 1], [1, 7]), ([6, 8, 1], [1, 6, 8]), ([9, 1, 1], [1, 9]), ([10], [10]), ([10], [10]), ([11, 12, 10], [10, 11, 12]), ([13, 10], [10, 13]), ([14, 10], [10, 14]), ([10], [10]), ([10], [10]), ([16, 17, 10], [10, 16, 17]), ([18, 10], [10, 18]), ([19, 10], [10, 19]), ([20, 10], [10, 20]), ([15, 21, 10], [10, 15, 21]), ([10, 22, 1], [1, 10, 22]), ([1, 23], [1, 23]), ([24, 10, 0, 1, 2, 3, 4, 5, 6, 7, 8, 9, 10, 11, 12, 13, 14, 15, 16, 17, 18, 19, 20, 21, 22, 23, 24], [0, 24])])
def spec_l23Next.B10 : List Nat := [0, 1, 3, 3, 15, 31, 63, 3, 131, 511, 1023, 2047, 2047, 8191, 16383, 32767, 2047, 2047, 198655, 460799, 985087, 2033663, 4194303, 8388607, 16777215, 33554431]
theorem spec_l23Next.tab10 : rtab .any (opsOf Try.f132 10) = spec_l23Next.T10 := by kernel_rfl
theorem spec_l23Next.bits10 : waitsOk spec_l23Next.T10.2 spec_l23Next.B10 = true := by kernel_rfl
set_option maxHeartbeats 8000000 in
set_option maxRecDepth 100000 in
theorem spec_l23Next.calls (k : Nat) (A0 : Option Addr) (c0 : Nat) (l0 : List (S81)) (a1_0 : Int) (a1_1 : Int) (A1_2 : Option Addr) (c1_2 : Nat) (l1_2 : List Int) (a1_3 : Int) (a1_4 : Int) (A1_5 : Option Addr) (c1_5 : Nat) (l1_5 : List Int) (a1_6 : Int) (a1_7 : Int) (A2 : Option Addr) (c2 : Nat) (l2 : List (S126)) (r : Int) (w : World) (hr0 : Kd.C k81 w A0 l0.length l0) (hc0 : l0.length ≤ c0) (hr1_2 : Kd.C (Kd.int .i64) w A1_2 l1_2.length l1_2) (hc1_2 : l1_2.length ≤ c1_2) (hr1_5 : Kd.C (Kd.int .i64) w A1_5 l1_5.length l1_5) (hc1_5 : l1_5.length ≤ c1_5) (hr2 : Kd.C k126 w A2 l2.length l2) (hc2 : l2.length ≤ c2) (h : spec_l23Next.f k l0 a1_0 a1_1 l1_2 a1_3 a1_4 l1_5 a1_6 a1_7 l2 = some r) :
  Calls Try.prog 132 #[.slice A0 l0.length c0, .agg #[.int .i64 a1_0, .int .i64 a1_1, .slice A1_2 l1_2.length c1_2, .int .i64 a1_3, .int .i64 a1_4, .slice A1_5 l1_5.length c1_5, .int .i64 a1_6, .int .i64 a1_7], .slice A2 l2.length c2] w fun e w' => e = .returned (.int .i64 r) ∧ Below w.heap.size w w' := by
 have hu87 := Try.underlying87
 have hu126 := Try.underlying126
 have HR0 := zK hr0
 have HC0 := zK hc0
 clear hr0 hc0
 have HR1_2 := zK hr1_2
 have HC1_2 := zK hc1_2
 clear hr1_2 hc1_2
 have HR1_5 := zK hr1_5
 have HC1_5 := zK hc1_5
 clear hr1_5 hc1_5
 have HR2 := zK hr2
 have HC2 := zK hc2
 clear hr2 hc2
 have HB := zK (Below.refl w.heap.size w)
 have H : (spec_l23Next.l0 k l0 l2 0 0 0 a1_0 a1_1 l1_2 a1_3 a1_4 l1_5 a1_6 a1_7) = some r := h
 clear h
 have H' := zK H
 clear H
 go_enter Try.func132, Try.ntmps132
 go_wp2_with (first | ((with_reducible refine gate_dst (N := 4) rfl ?_); refine box_event ?hg (N := 4) ?hd (cs := #[.int .i64 a1_0, .int .i64 a1_1, .slice A1_2 l1_2.length c1_2, .int .i64 a1_3, .int .i64 a1_4, .slice A1_5 l1_5.length c1_5, .int .i64 a1_6, .int .i64 a1_7]) (t := 87) ?hr ?_; (case hd => rfl); (case hg => rfl); (case hr => first | (go_simp; done) | (go_simp; rfl)); intro gb305 hg w4 hbox hb; have _ := zK (bT (qB HB.o) hb); have _ := zK (hbox); have _ := zK ((by rw [hg]; exact (bZ (qB HB.o)) : w.heap.size ≤ gb305)); have _ := zK ((by rw [hg]; exact (bZ (qB HB.o)) : w.heap.size ≤ gb305)); clear HB; rename_i HB BK305 GW305 GE305; clear hb hbox hg))
 go_loopg [7, 8, 9] k (fun kq v7 v8 v9 w' => ∃ (x7_1 : Int) (x8_1 : Int) (x9_1 : Int), v7 = .int .i64 x7_1 ∧ v8 = .int .i64 x8_1 ∧ v9 = .int .i64 x9_1 ∧ Aside0 (spec_l23Next.l0 kq l0 l2 x7_1 x8_1 x9_1 a1_0 a1_1 l1_2 a1_3 a1_4 l1_5 a1_6 a1_7 = some r) ∧ Aside0 (kq ≤ k) ∧ Aside0 (w'.heap[gb305]? = some (.cells #[.int .i64 a1_0, .int .i64 a1_1, (.slice A1_2 l1_2.length c1_2), .int .i64 a1_3, .int .i64 a1_4, (.slice A1_5 l1_5.length c1_5), .int .i64 a1_6, .int .i64 a1_7] 87 (0, 0))) ∧ Aside0 (Below w.heap.size w w'))
 case atStart => exact ⟨(0), (0), (0), M3, M3, M3, H', ⟨Nat.le_refl _⟩, ⟨by exact qK BK305.o⟩, ⟨by exact qX HB.o⟩⟩
 case round =>
  clear H'
  try clear c1
  try clear c2
  try clear p2
  obtain ⟨x7_1, x8_1, x9_1, rfl, rfl, rfl, HA, HK1, BK305, HB⟩ := hrel
  cases gk with
  | zero => exact absurd HA.o (by simp [spec_l23Next.l0])
  | succ k1 =>
   have H := HA.o
   clear HA
   simp only [spec_l23Next.l0] at H
   by_cases c5 : x9_1 < (l2.length : Int)
   rotate_left
   ·rw [if_neg c5] at H
    have c5b0 : decide (x9_1 < (l2.length : Int)) = false := decide_eq_false c5
    clear c5
    obtain rfl := Option.some.inj H
    go_wp2
    go_ret
    exact ⟨by first | rfl | (simp [errW_none, errW_some] <;> rfl) | (simp [*, errW_none, errW_some] <;> rfl), by exact qX HB.o⟩

   rw [if_pos c5] at H
   have c5b0 : decide (x9_1 < (l2.length : Int)) = true := decide_eq_true c5
   clear c5
   have H' := zK H
   clear H
   go_wp2
   go_loopg [10, 11] k1 (fun kq v10 v11 w' => ∃ (x10_2 : Bool) (x11_2 : Int), v10 = .bool x10_2 ∧ v11 = .int .i64 x11_2 ∧ Aside0 (spec_l23Next.l1 kq l0 l2 x7_1 x8_1 x9_1 x10_2 x11_2 a1_0 a1_1 l1_2 a1_3 a1_4 l1_5 a1_6 a1_7 = some r) ∧ Aside0 (kq ≤ k1) ∧ Aside0 (w'.heap[gb305]? = some (.cells #[.int .i64 a1_0, .int .i64 a1_1, (.slice A1_2 l1_2.length c1_2), .int .i64 a1_3, .int .i64 a1_4, (.slice A1_5 l1_5.length c1_5), .int .i64 a1_6, .int .i64 a1_7] 87 (0, 0))) ∧ Aside0 (Below w.heap.size w w'))
   case atStart => exact ⟨(false), (0), M3, M3, H', ⟨Nat.le_refl _⟩, ⟨by exact qK BK305.o⟩, ⟨by exact qX HB.o⟩⟩
   case round =>
    clear H'
    try clear c1
    try clear c2
    try clear p2
    try clear c5
    try clear c5b0
    try clear p2
    obtain ⟨x10_2, x11_2, rfl, rfl, HA, HK2, BK305, HB⟩ := hrel
    cases gk with
    | zero => exact absurd HA.o (by simp [spec_l23Next.l1])
    | succ k2 =>
     have H := HA.o
     clear HA
     simp only [spec_l23Next.l1] at H
     by_cases c6 : x11_2 < (l0.length : Int)
     rotate_left
     ·rw [if_neg c6] at H
      have c6b0 : decide (x11_2 < (l0.length : Int)) = false := decide_eq_false c6
      clear c6
      by_cases c15 : 0 ≤ x9_1
      rotate_left
      ·rw [if_neg c15] at H
       exact absurd H (by simp)
      rw [if_pos c15] at H
      have c15b0 : decide (0 ≤ x9_1) = true := decide_eq_true c15
      clear c15
      by_cases c16 : x9_1 < (l2.length : Int)
      rotate_left
      ·rw [if_neg c16] at H
       exact absurd H (by simp)
      rw [if_pos c16] at H
      have c16b0 : decide (x9_1 < (l2.length : Int)) = true := decide_eq_true c16
      clear c16
      replace H := Option.bind_eq_some_iff.mp H
      obtain ⟨t310, A170, H⟩ := H
      try dsimp only at H
      have A17 := zK A170
      clear A170
      by_cases c18 : t310 > x8_1
      rotate_left
      ·rw [if_neg c18] at H
       have c18b0 : decide (x8_1 < t310) = false := decide_eq_false c18
       clear c18
       have H' := zK H
       clear H
       try go_wp2
       have n0_ := zK (kD BK305.o)
       have n1_ := zK (below_drew1 HB.o)
       clear BK305
       clear HB
       have BK305 := n0_
       have HB := n1_
       clear n0_ n1_
       have p309 : 0 ≤ (x9_1 : Int) := oD M1
       have q309 : x9_1 < (l2.length : Int) := oD M1
       obtain ⟨ad309, e309, hx309_0, hx309_1, hx309_2, hx309_3, hx309_4, hx309_5, hx309_6, hx309_7⟩ := at_T126 HR2.o x9_1 p309 q309
       have hw309_7 := hx309_7
       have hw309_6 := hx309_6
       have hw309_5 := hx309_5
       have hw309_4 := hx309_4
       have hw309_3 := hx309_3
       have hw309_2 := hx309_2
       have hw309_1 := hx309_1
       have hw309_0 := hx309_0
       cases e309
       replace hx309_0 := cB HB.o hx309_0
       replace hx309_1 := cB HB.o hx309_1
       replace hx309_2 := cB HB.o hx309_2
       replace hx309_3 := cB HB.o hx309_3
       replace hx309_4 := cB HB.o hx309_4
       replace hx309_5 := cB HB.o hx309_5
       replace hx309_6 := cB HB.o hx309_6
       replace hx309_7 := cB HB.o hx309_7
       replace p309 := eq_true p309
       replace q309 := eq_true q309
       refine start_ (n := 7) (S := fun w' => w'.cell? ⟨gb305, 0, none⟩ = some (.int .i64 a1_0) ∧ w'.cell? ⟨gb305, 1, none⟩ = some (.int .i64 a1_1) ∧ w'.cell? ⟨gb305, 2, none⟩ = some (.slice A1_2 l1_2.length c1_2) ∧ w'.cell? ⟨gb305, 3, none⟩ = some (.int .i64 a1_3) ∧ w'.cell? ⟨gb305, 4, none⟩ = some (.int .i64 a1_4) ∧ w'.cell? ⟨gb305, 5, none⟩ = some (.slice A1_5 l1_5.length c1_5) ∧ w'.cell? ⟨gb305, 6, none⟩ = some (.int .i64 a1_6) ∧ w'.cell? ⟨gb305, 7, none⟩ = some (.int .i64 a1_7) ∧ w'.cell? (ad309.add ((x9_1).toNat * 8)) = some (.int .i64 ((rd_T126 l2 x9_1).f0.f0)) ∧ w'.cell? ⟨(ad309.add ((x9_1).toNat * 8)).block, (ad309.add ((x9_1).toNat * 8)).off + 1, none⟩ = some (.int .i64 ((rd_T126 l2 x9_1).f0.f1)) ∧ w'.cell? ⟨(ad309.add ((x9_1).toNat * 8)).block, (ad309.add ((x9_1).toNat * 8)).off + 2, none⟩ = some (.int .i64 ((rd_T126 l2 x9_1).f0.f2)) ∧ w'.cell? ⟨(ad309.add ((x9_1).toNat * 8)).block, (ad309.add ((x9_1).toNat * 8)).off + 3, none⟩ = some (.int .i64 ((rd_T126 l2 x9_1).f0.f3)) ∧ w'.cell? ⟨(ad309.add ((x9_1).toNat * 8)).block, (ad309.add ((x9_1).toNat * 8)).off + 4, none⟩ = some (.int .i64 ((rd_T126 l2 x9_1).f0.f4)) ∧ w'.cell? ⟨(ad309.add ((x9_1).toNat * 8)).block, (ad309.add ((x9_1).toNat * 8)).off + 5, none⟩ = some (.int .i64 ((rd_T126 l2 x9_1).f1)) ∧ w'.cell? ⟨(ad309.add ((x9_1).toNat * 8)).block, (ad309.add ((x9_1).toNat * 8)).off + 6, none⟩ = some (.int .i64 ((rd_T126 l2 x9_1).f2)) ∧ w'.cell? ⟨(ad309.add ((x9_1).toNat * 8)).block, (ad309.add ((x9_1).toNat * 8)).off + 7, none⟩ = some (.int .i64 ((rd_T126 l2 x9_1).f3))) (ds := []) b19A33 (by kernel_rfl) rfl rfl ⟨(bc BK305.o 0).trans rfl, (bc BK305.o 1).trans rfl, (bc BK305.o 2).trans rfl, (bc BK305.o 3).trans rfl, (bc BK305.o 4).trans rfl, (bc BK305.o 5).trans rfl, (bc BK305.o 6).trans rfl, (bc BK305.o 7).trans rfl, (cB HB.o hw309_0 :), (cB HB.o hw309_1 :), (cB HB.o hw309_2 :), (cB HB.o hw309_3 :), (cB HB.o hw309_4 :), (cB HB.o hw309_5 :), (cB HB.o hw309_6 :), (cB HB.o hw309_7 :)⟩ (fun hHeld => ?_)
       generalize wr.drew = w24 at BK305 HB hx309_0 hx309_1 hx309_2 hx309_3 hx309_4 hx309_5 hx309_6 hx309_7 hHeld ⊢
       refine pure_ (i := 1) (N := some 51) (v := ?_) (a' := ?_) b19A34 rfl rfl (by kernel_rfl) (fun _ _ _ h => h) (Or.inl ⟨by rfl, ?_⟩) ?_ ?_
       rotate_left
       ·intro w'
        go_simp
        with_reducible rfl
       rotate_left
       ·simp only [Act.put, sA, sZ, sS, i64_w, i32_w]
        rfl
       refine pure_ (i := 2) (N := some 52) (v := ?_) (a' := ?_) b19A35 rfl rfl (by kernel_rfl) (fun _ _ _ h => h) (Or.inl ⟨by rfl, ?_⟩) ?_ ?_
       rotate_left
       ·intro w'
        go_simp
        with_reducible rfl
       rotate_left
       ·simp only [Act.put, sA, sZ, sS, i64_w, i32_w]
        rfl
       refine pure_ (i := 3) (N := some 53) (v := ?_) (a' := ?_) b19A36 rfl rfl (by kernel_rfl) (fun _ _ _ h => h) (Or.inl ⟨by rfl, ?_⟩) ?_ ?_
       rotate_left
       ·intro w'
        go_simp
        with_reducible rfl
       rotate_left
       ·simp only [Act.put, sA, sZ, sS, i64_w, i32_w]
        rfl
       refine take_ (i := 0) (N := some 50) (v := ?_) (a' := ?_) b19A37 rfl rfl (by kernel_rfl) (fun _ _ _ h => h) (Or.inl ⟨by rfl, ?_⟩) hHeld ?_ ?_
       rotate_left
       ·rintro w' ⟨s0, s1, s2, s3, s4, s5, s6, s7, s8, s9, s10, s11, s12, s13, s14, s15⟩
        go_simp
        with_reducible rfl
       rotate_left
       ·simp only [Act.put, sA, sZ, sS, i64_w, i32_w]
        rfl
       refine take_ (i := 4) (N := some 54) (v := ?_) (a' := ?_) b19A38 rfl rfl (by kernel_rfl) (fun _ _ _ h => h) (Or.inl ⟨by rfl, ?_⟩) hHeld ?_ ?_
       rotate_left
       ·rintro w' ⟨s0, s1, s2, s3, s4, s5, s6, s7, s8, s9, s10, s11, s12, s13, s14, s15⟩
        go_simp
        with_reducible rfl
       rotate_left
       ·simp only [Act.put, sA, sZ, sS, i64_w, i32_w]
        rfl
       refine one_ (i := 5) (N := some 55) b19A39 rfl rfl (by kernel_rfl) (by decide) (fun K hK => ?_)
       refine goes_ Try.func177 (by kernel_rfl) rfl #[.agg #[.int .i64 a1_0, .int .i64 a1_1, .slice A1_2 l1_2.length c1_2, .int .i64 a1_3, .int .i64 a1_4, .slice A1_5 l1_5.length c1_5, .int .i64 a1_6, .int .i64 a1_7], .agg #[.int .i64 ((rd_T126 l2 x9_1).f0.f0), .int .i64 ((rd_T126 l2 x9_1).f0.f1), .int .i64 ((rd_T126 l2 x9_1).f0.f2), .int .i64 ((rd_T126 l2 x9_1).f0.f3), .int .i64 ((rd_T126 l2 x9_1).f0.f4), .int .i64 ((rd_T126 l2 x9_1).f1), .int .i64 ((rd_T126 l2 x9_1).f2), .int .i64 ((rd_T126 l2 x9_1).f3)]] (by rfl) rfl rfl M0 ?_
       with_reducible refine (spec_Score.calls k2 a1_0 a1_1 _ _ l1_2 a1_3 a1_4 _ _ l1_5 a1_6 a1_7 ((rd_T126 l2 x9_1).f0.f0) ((rd_T126 l2 x9_1).f0.f1) ((rd_T126 l2 x9_1).f0.f2) ((rd_T126 l2 x9_1).f0.f3) ((rd_T126 l2 x9_1).f0.f4) ((rd_T126 l2 x9_1).f1) ((rd_T126 l2 x9_1).f2) ((rd_T126 l2 x9_1).f3) t310 _ ?side1 ?side2 ?side3 ?side4 A17.o).mono ?_
       (case side1 => exact Kd.qC (Kd.C_below HR1_2.o HB.o))
       (case side2 => exact HC1_2.o)
       (case side3 => exact Kd.qC (Kd.C_below HR1_5.o HB.o))
       (case side4 => exact HC1_5.o)
       rintro e w25 ⟨rfl, hb⟩
       refine ⟨_, rfl, ?_⟩
       have n0_ := zK (bB (qK BK305.o) hb)
       have n1_ := zK (bT (qX HB.o) hb)
       clear BK305
       clear HB
       have BK305 := n0_
       have HB := n1_
       clear n0_ n1_
       (try clear hb)
       (try clear hb2)
       (try clear hk)
       (try clear hi)
       refine hK.out _ _ ⟨(bc BK305.o 0).trans rfl, (bc BK305.o 1).trans rfl, (bc BK305.o 2).trans rfl, (bc BK305.o 3).trans rfl, (bc BK305.o 4).trans rfl, (bc BK305.o 5).trans rfl, (bc BK305.o 6).trans rfl, (bc BK305.o 7).trans rfl, (cB HB.o hw309_0 :), (cB HB.o hw309_1 :), (cB HB.o hw309_2 :), (cB HB.o hw309_3 :), (cB HB.o hw309_4 :), (cB HB.o hw309_5 :), (cB HB.o hw309_6 :), (cB HB.o hw309_7 :)⟩ (fun hHeld => ?_)
       clear hK K
       refine norm_ (a' := ?_) ?_ ?_
       rotate_left
       ·show Act.put _ (some 55) _ = _
        simp only [Act.put, sA, sZ, sS, i64_w, i32_w]
        rfl
       refine pure_ (i := 6) (N := some 12) (v := ?_) (a' := ?_) b19A40 rfl rfl (by kernel_rfl) (fun _ _ _ h => h) (Or.inl ⟨by rfl, ?_⟩) ?_ ?_
       rotate_left
       ·intro w'
        go_simp
        with_reducible rfl
       rotate_left
       ·simp only [Act.put, sA, sZ, sS, i64_w, i32_w]
        rfl
       refine done_ (by kernel_rfl) ?_
       try go_wp2
       go_roundg k2
       case measure => have := HK1.o; have := HK2.o; omega
       case rel => exact ⟨(x7_1), (x8_1), (wrap64 (x9_1 + 1)), M3, M3, M3, H', ⟨by have := HK1.o; have := HK2.o; omega⟩, ⟨by exact qK BK305.o⟩, ⟨by exact qX HB.o⟩⟩
      rw [if_pos c18] at H
      have c18b0 : decide (x8_1 < t310) = true := decide_eq_true c18
      clear c18
      by_cases c19 : x10_2 = true
      ·subst c19
       have H1 : (spec_l23Next.l0 k2 l0 l2 x7_1 x8_1 (wrap64 (x9_1 + 1)) a1_0 a1_1 l1_2 a1_3 a1_4 l1_5 a1_6 a1_7) = some r := by rw [if_pos rfl] at H; exact H
       clear H
       have H := H1
       clear H1
       have H' := zK H
       clear H
       try go_wp2
       have n0_ := zK (kD BK305.o)
       have n1_ := zK (below_drew1 HB.o)
       clear BK305
       clear HB
       have BK305 := n0_
       have HB := n1_
       clear n0_ n1_
       have p309 : 0 ≤ (x9_1 : Int) := oD M1
       have q309 : x9_1 < (l2.length : Int) := oD M1
       obtain ⟨ad309, e309, hx309_0, hx309_1, hx309_2, hx309_3, hx309_4, hx309_5, hx309_6, hx309_7⟩ := at_T126 HR2.o x9_1 p309 q309
       have hw309_7 := hx309_7
       have hw309_6 := hx309_6
       have hw309_5 := hx309_5
       have hw309_4 := hx309_4
       have hw309_3 := hx309_3
       have hw309_2 := hx309_2
       have hw309_1 := hx309_1
       have hw309_0 := hx309_0
       cases e309
       replace hx309_0 := cB HB.o hx309_0
       replace hx309_1 := cB HB.o hx309_1
       replace hx309_2 := cB HB.o hx309_2
       replace hx309_3 := cB HB.o hx309_3
       replace hx309_4 := cB HB.o hx309_4
       replace hx309_5 := cB HB.o hx309_5
       replace hx309_6 := cB HB.o hx309_6
       replace hx309_7 := cB HB.o hx309_7
       replace p309 := eq_true p309
       replace q309 := eq_true q309
       refine start_ (n := 7) (S := fun w' => w'.cell? ⟨gb305, 0, none⟩ = some (.int .i64 a1_0) ∧ w'.cell? ⟨gb305, 1, none⟩ = some (.int .i64 a1_1) ∧ w'.cell? ⟨gb305, 2, none⟩ = some (.slice A1_2 l1_2.length c1_2) ∧ w'.cell? ⟨gb305, 3, none⟩ = some (.int .i64 a1_3) ∧ w'.cell? ⟨gb305, 4, none⟩ = some (.int .i64 a1_4) ∧ w'.cell? ⟨gb305, 5, none⟩ = some (.slice A1_5 l1_5.length c1_5) ∧ w'.cell? ⟨gb305, 6, none⟩ = some (.int .i64 a1_6) ∧ w'.cell? ⟨gb305, 7, none⟩ = some (.int .i64 a1_7) ∧ w'.cell? (ad309.add ((x9_1).toNat * 8)) = some (.int .i64 ((rd_T126 l2 x9_1).f0.f0)) ∧ w'.cell? ⟨(ad309.add ((x9_1).toNat * 8)).block, (ad309.add ((x9_1).toNat * 8)).off + 1, none⟩ = some (.int .i64 ((rd_T126 l2 x9_1).f0.f1)) ∧ w'.cell? ⟨(ad309.add ((x9_1).toNat * 8)).block, (ad309.add ((x9_1).toNat * 8)).off + 2, none⟩ = some (.int .i64 ((rd_T126 l2 x9_1).f0.f2)) ∧ w'.cell? ⟨(ad309.add ((x9_1).toNat * 8)).block, (ad309.add ((x9_1).toNat * 8)).off + 3, none⟩ = some (.int .i64 ((rd_T126 l2 x9_1).f0.f3)) ∧ w'.cell? ⟨(ad309.add ((x9_1).toNat * 8)).block, (ad309.add ((x9_1).toNat * 8)).off + 4, none⟩ = some (.int .i64 ((rd_T126 l2 x9_1).f0.f4)) ∧ w'.cell? ⟨(ad309.add ((x9_1).toNat * 8)).block, (ad309.add ((x9_1).toNat * 8)).off + 5, none⟩ = some (.int .i64 ((rd_T126 l2 x9_1).f1)) ∧ w'.cell? ⟨(ad309.add ((x9_1).toNat * 8)).block, (ad309.add ((x9_1).toNat * 8)).off + 6, none⟩ = some (.int .i64 ((rd_T126 l2 x9_1).f2)) ∧ w'.cell? ⟨(ad309.add ((x9_1).toNat * 8)).block, (ad309.add ((x9_1).toNat * 8)).off + 7, none⟩ = some (.int .i64 ((rd_T126 l2 x9_1).f3))) (ds := []) b19A33 (by kernel_rfl) rfl rfl ⟨(bc BK305.o 0).trans rfl, (bc BK305.o 1).trans rfl, (bc BK305.o 2).trans rfl, (bc BK305.o 3).trans rfl, (bc BK305.o 4).trans rfl, (bc BK305.o 5).trans rfl, (bc BK305.o 6).trans rfl, (bc BK305.o 7).trans rfl, (cB HB.o hw309_0 :), (cB HB.o hw309_1 :), (cB HB.o hw309_2 :), (cB HB.o hw309_3 :), (cB HB.o hw309_4 :), (cB HB.o hw309_5 :), (cB HB.o hw309_6 :), (cB HB.o hw309_7 :)⟩ (fun hHeld => ?_)
       generalize wr.drew = w20 at BK305 HB hx309_0 hx309_1 hx309_2 hx309_3 hx309_4 hx309_5 hx309_6 hx309_7 hHeld ⊢
       refine pure_ (i := 1) (N := some 51) (v := ?_) (a' := ?_) b19A34 rfl rfl (by kernel_rfl) (fun _ _ _ h => h) (Or.inl ⟨by rfl, ?_⟩) ?_ ?_
       rotate_left
       ·intro w'
        go_simp
        with_reducible rfl
       rotate_left
       ·simp only [Act.put, sA, sZ, sS, i64_w, i32_w]
        rfl
       refine pure_ (i := 2) (N := some 52) (v := ?_) (a' := ?_) b19A35 rfl rfl (by kernel_rfl) (fun _ _ _ h => h) (Or.inl ⟨by rfl, ?_⟩) ?_ ?_
       rotate_left
       ·intro w'
        go_simp
        with_reducible rfl
       rotate_left
       ·simp only [Act.put, sA, sZ, sS, i64_w, i32_w]
        rfl
       refine pure_ (i := 3) (N := some 53) (v := ?_) (a' := ?_) b19A36 rfl rfl (by kernel_rfl) (fun _ _ _ h => h) (Or.inl ⟨by rfl, ?_⟩) ?_ ?_
       rotate_left
       ·intro w'
        go_simp
        with_reducible rfl
       rotate_left
       ·simp only [Act.put, sA, sZ, sS, i64_w, i32_w]
        rfl
       refine take_ (i := 0) (N := some 50) (v := ?_) (a' := ?_) b19A37 rfl rfl (by kernel_rfl) (fun _ _ _ h => h) (Or.inl ⟨by rfl, ?_⟩) hHeld ?_ ?_
       rotate_left
       ·rintro w' ⟨s0, s1, s2, s3, s4, s5, s6, s7, s8, s9, s10, s11, s12, s13, s14, s15⟩
        go_simp
        with_reducible rfl
       rotate_left
       ·simp only [Act.put, sA, sZ, sS, i64_w, i32_w]
        rfl
       refine take_ (i := 4) (N := some 54) (v := ?_) (a' := ?_) b19A38 rfl rfl (by kernel_rfl) (fun _ _ _ h => h) (Or.inl ⟨by rfl, ?_⟩) hHeld ?_ ?_
       rotate_left
       ·rintro w' ⟨s0, s1, s2, s3, s4, s5, s6, s7, s8, s9, s10, s11, s12, s13, s14, s15⟩
        go_simp
        with_reducible rfl
       rotate_left
       ·simp only [Act.put, sA, sZ, sS, i64_w, i32_w]
        rfl
       refine one_ (i := 5) (N := some 55) b19A39 rfl rfl (by kernel_rfl) (by decide) (fun K hK => ?_)
       refine goes_ Try.func177 (by kernel_rfl) rfl #[.agg #[.int .i64 a1_0, .int .i64 a1_1, .slice A1_2 l1_2.length c1_2, .int .i64 a1_3, .int .i64 a1_4, .slice A1_5 l1_5.length c1_5, .int .i64 a1_6, .int .i64 a1_7], .agg #[.int .i64 ((rd_T126 l2 x9_1).f0.f0), .int .i64 ((rd_T126 l2 x9_1).f0.f1), .int .i64 ((rd_T126 l2 x9_1).f0.f2), .int .i64 ((rd_T126 l2 x9_1).f0.f3), .int .i64 ((rd_T126 l2 x9_1).f0.f4), .int .i64 ((rd_T126 l2 x9_1).f1), .int .i64 ((rd_T126 l2 x9_1).f2), .int .i64 ((rd_T126 l2 x9_1).f3)]] (by rfl) rfl rfl M0 ?_
       with_reducible refine (spec_Score.calls k2 a1_0 a1_1 _ _ l1_2 a1_3 a1_4 _ _ l1_5 a1_6 a1_7 ((rd_T126 l2 x9_1).f0.f0) ((rd_T126 l2 x9_1).f0.f1) ((rd_T126 l2 x9_1).f0.f2) ((rd_T126 l2 x9_1).f0.f3) ((rd_T126 l2 x9_1).f0.f4) ((rd_T126 l2 x9_1).f1) ((rd_T126 l2 x9_1).f2) ((rd_T126 l2 x9_1).f3) t310 _ ?side1 ?side2 ?side3 ?side4 A17.o).mono ?_
       (case side1 => exact Kd.qC (Kd.C_below HR1_2.o HB.o))
       (case side2 => exact HC1_2.o)
       (case side3 => exact Kd.qC (Kd.C_below HR1_5.o HB.o))
       (case side4 => exact HC1_5.o)
       rintro e w21 ⟨rfl, hb⟩
       refine ⟨_, rfl, ?_⟩
       have n0_ := zK (bB (qK BK305.o) hb)
       have n1_ := zK (bT (qX HB.o) hb)
       clear BK305
       clear HB
       have BK305 := n0_
       have HB := n1_
       clear n0_ n1_
       (try clear hb)
       (try clear hb2)
       (try clear hk)
       (try clear hi)
       refine hK.out _ _ ⟨(bc BK305.o 0).trans rfl, (bc BK305.o 1).trans rfl, (bc BK305.o 2).trans rfl, (bc BK305.o 3).trans rfl, (bc BK305.o 4).trans rfl, (bc BK305.o 5).trans rfl, (bc BK305.o 6).trans rfl, (bc BK305.o 7).trans rfl, (cB HB.o hw309_0 :), (cB HB.o hw309_1 :), (cB HB.o hw309_2 :), (cB HB.o hw309_3 :), (cB HB.o hw309_4 :), (cB HB.o hw309_5 :), (cB HB.o hw309_6 :), (cB HB.o hw309_7 :)⟩ (fun hHeld => ?_)
       clear hK K
       refine norm_ (a' := ?_) ?_ ?_
       rotate_left
       ·show Act.put _ (some 55) _ = _
        simp only [Act.put, sA, sZ, sS, i64_w, i32_w]
        rfl
       refine pure_ (i := 6) (N := some 12) (v := ?_) (a' := ?_) b19A40 rfl rfl (by kernel_rfl) (fun _ _ _ h => h) (Or.inl ⟨by rfl, ?_⟩) ?_ ?_
       rotate_left
       ·intro w'
        go_simp
        with_reducible rfl
       rotate_left
       ·simp only [Act.put, sA, sZ, sS, i64_w, i32_w]
        rfl
       refine done_ (by kernel_rfl) ?_
       try go_wp2
       go_roundg k2
       case measure => have := HK1.o; have := HK2.o; omega
       case rel => exact ⟨(x7_1), (x8_1), (wrap64 (x9_1 + 1)), M3, M3, M3, H', ⟨by have := HK1.o; have := HK2.o; omega⟩, ⟨by exact qK BK305.o⟩, ⟨by exact qX HB.o⟩⟩
      replace c19 := Bool.eq_false_iff.mpr c19
      subst c19
      have H1 : (spec_l23Next.l0 k2 l0 l2 ((rd_T126 l2 x9_1).f0.f0) t310 (wrap64 (x9_1 + 1)) a1_0 a1_1 l1_2 a1_3 a1_4 l1_5 a1_6 a1_7) = some r := by rw [if_neg (show ¬ (false = true) by decide)] at H; exact H
      clear H
      have H := H1
      clear H1
      have H' := zK H
      clear H
      try go_wp2
      have n0_ := zK (kD BK305.o)
      have n1_ := zK (below_drew1 HB.o)
      clear BK305
      clear HB
      have BK305 := n0_
      have HB := n1_
      clear n0_ n1_
      have p309 : 0 ≤ (x9_1 : Int) := oD M1
      have q309 : x9_1 < (l2.length : Int) := oD M1
      obtain ⟨ad309, e309, hx309_0, hx309_1, hx309_2, hx309_3, hx309_4, hx309_5, hx309_6, hx309_7⟩ := at_T126 HR2.o x9_1 p309 q309
      have hw309_7 := hx309_7
      have hw309_6 := hx309_6
      have hw309_5 := hx309_5
      have hw309_4 := hx309_4
      have hw309_3 := hx309_3
      have hw309_2 := hx309_2
      have hw309_1 := hx309_1
      have hw309_0 := hx309_0
      cases e309
      replace hx309_0 := cB HB.o hx309_0
      replace hx309_1 := cB HB.o hx309_1
      replace hx309_2 := cB HB.o hx309_2
      replace hx309_3 := cB HB.o hx309_3
      replace hx309_4 := cB HB.o hx309_4
      replace hx309_5 := cB HB.o hx309_5
      replace hx309_6 := cB HB.o hx309_6
      replace hx309_7 := cB HB.o hx309_7
      replace p309 := eq_true p309
      replace q309 := eq_true q309
      refine start_ (n := 7) (S := fun w' => w'.cell? ⟨gb305, 0, none⟩ = some (.int .i64 a1_0) ∧ w'.cell? ⟨gb305, 1, none⟩ = some (.int .i64 a1_1) ∧ w'.cell? ⟨gb305, 2, none⟩ = some (.slice A1_2 l1_2.length c1_2) ∧ w'.cell? ⟨gb305, 3, none⟩ = some (.int .i64 a1_3) ∧ w'.cell? ⟨gb305, 4, none⟩ = some (.int .i64 a1_4) ∧ w'.cell? ⟨gb305, 5, none⟩ = some (.slice A1_5 l1_5.length c1_5) ∧ w'.cell? ⟨gb305, 6, none⟩ = some (.int .i64 a1_6) ∧ w'.cell? ⟨gb305, 7, none⟩ = some (.int .i64 a1_7) ∧ w'.cell? (ad309.add ((x9_1).toNat * 8)) = some (.int .i64 ((rd_T126 l2 x9_1).f0.f0)) ∧ w'.cell? ⟨(ad309.add ((x9_1).toNat * 8)).block, (ad309.add ((x9_1).toNat * 8)).off + 1, none⟩ = some (.int .i64 ((rd_T126 l2 x9_1).f0.f1)) ∧ w'.cell? ⟨(ad309.add ((x9_1).toNat * 8)).block, (ad309.add ((x9_1).toNat * 8)).off + 2, none⟩ = some (.int .i64 ((rd_T126 l2 x9_1).f0.f2)) ∧ w'.cell? ⟨(ad309.add ((x9_1).toNat * 8)).block, (ad309.add ((x9_1).toNat * 8)).off + 3, none⟩ = some (.int .i64 ((rd_T126 l2 x9_1).f0.f3)) ∧ w'.cell? ⟨(ad309.add ((x9_1).toNat * 8)).block, (ad309.add ((x9_1).toNat * 8)).off + 4, none⟩ = some (.int .i64 ((rd_T126 l2 x9_1).f0.f4)) ∧ w'.cell? ⟨(ad309.add ((x9_1).toNat * 8)).block, (ad309.add ((x9_1).toNat * 8)).off + 5, none⟩ = some (.int .i64 ((rd_T126 l2 x9_1).f1)) ∧ w'.cell? ⟨(ad309.add ((x9_1).toNat * 8)).block, (ad309.add ((x9_1).toNat * 8)).off + 6, none⟩ = some (.int .i64 ((rd_T126 l2 x9_1).f2)) ∧ w'.cell? ⟨(ad309.add ((x9_1).toNat * 8)).block, (ad309.add ((x9_1).toNat * 8)).off + 7, none⟩ = some (.int .i64 ((rd_T126 l2 x9_1).f3))) (ds := []) b19A33 (by kernel_rfl) rfl rfl ⟨(bc BK305.o 0).trans rfl, (bc BK305.o 1).trans rfl, (bc BK305.o 2).trans rfl, (bc BK305.o 3).trans rfl, (bc BK305.o 4).trans rfl, (bc BK305.o 5).trans rfl, (bc BK305.o 6).trans rfl, (bc BK305.o 7).trans rfl, (cB HB.o hw309_0 :), (cB HB.o hw309_1 :), (cB HB.o hw309_2 :), (cB HB.o hw309_3 :), (cB HB.o hw309_4 :), (cB HB.o hw309_5 :), (cB HB.o hw309_6 :), (cB HB.o hw309_7 :)⟩ (fun hHeld => ?_)
      generalize wr.drew = w22 at BK305 HB hx309_0 hx309_1 hx309_2 hx309_3 hx309_4 hx309_5 hx309_6 hx309_7 hHeld ⊢
      refine pure_ (i := 1) (N := some 51) (v := ?_) (a' := ?_) b19A34 rfl rfl (by kernel_rfl) (fun _ _ _ h => h) (Or.inl ⟨by rfl, ?_⟩) ?_ ?_
      rotate_left
      ·intro w'
       go_simp
       with_reducible rfl
      rotate_left
      ·simp only [Act.put, sA, sZ, sS, i64_w, i32_w]
       rfl
      refine pure_ (i := 2) (N := some 52) (v := ?_) (a' := ?_) b19A35 rfl rfl (by kernel_rfl) (fun _ _ _ h => h) (Or.inl ⟨by rfl, ?_⟩) ?_ ?_
      rotate_left
      ·intro w'
       go_simp
       with_reducible rfl
      rotate_left
      ·simp only [Act.put, sA, sZ, sS, i64_w, i32_w]
       rfl
      refine pure_ (i := 3) (N := some 53) (v := ?_) (a' := ?_) b19A36 rfl rfl (by kernel_rfl) (fun _ _ _ h => h) (Or.inl ⟨by rfl, ?_⟩) ?_ ?_
      rotate_left
      ·intro w'
       go_simp
       with_reducible rfl
      rotate_left
      ·simp only [Act.put, sA, sZ, sS, i64_w, i32_w]
       rfl
      refine take_ (i := 0) (N := some 50) (v := ?_) (a' := ?_) b19A37 rfl rfl (by kernel_rfl) (fun _ _ _ h => h) (Or.inl ⟨by rfl, ?_⟩) hHeld ?_ ?_
      rotate_left
      ·rintro w' ⟨s0, s1, s2, s3, s4, s5, s6, s7, s8, s9, s10, s11, s12, s13, s14, s15⟩
       go_simp
       with_reducible rfl
      rotate_left
      ·simp only [Act.put, sA, sZ, sS, i64_w, i32_w]
       rfl
      refine take_ (i := 4) (N := some 54) (v := ?_) (a' := ?_) b19A38 rfl rfl (by kernel_rfl) (fun _ _ _ h => h) (Or.inl ⟨by rfl, ?_⟩) hHeld ?_ ?_
      rotate_left
      ·rintro w' ⟨s0, s1, s2, s3, s4, s5, s6, s7, s8, s9, s10, s11, s12, s13, s14, s15⟩
       go_simp
       with_reducible rfl
      rotate_left
      ·simp only [Act.put, sA, sZ, sS, i64_w, i32_w]
       rfl
      refine one_ (i := 5) (N := some 55) b19A39 rfl rfl (by kernel_rfl) (by decide) (fun K hK => ?_)
      refine goes_ Try.func177 (by kernel_rfl) rfl #[.agg #[.int .i64 a1_0, .int .i64 a1_1, .slice A1_2 l1_2.length c1_2, .int .i64 a1_3, .int .i64 a1_4, .slice A1_5 l1_5.length c1_5, .int .i64 a1_6, .int .i64 a1_7], .agg #[.int .i64 ((rd_T126 l2 x9_1).f0.f0), .int .i64 ((rd_T126 l2 x9_1).f0.f1), .int .i64 ((rd_T126 l2 x9_1).f0.f2), .int .i64 ((rd_T126 l2 x9_1).f0.f3), .int .i64 ((rd_T126 l2 x9_1).f0.f4), .int .i64 ((rd_T126 l2 x9_1).f1), .int .i64 ((rd_T126 l2 x9_1).f2), .int .i64 ((rd_T126 l2 x9_1).f3)]] (by rfl) rfl rfl M0 ?_
      with_reducible refine (spec_Score.calls k2 a1_0 a1_1 _ _ l1_2 a1_3 a1_4 _ _ l1_5 a1_6 a1_7 ((rd_T126 l2 x9_1).f0.f0) ((rd_T126 l2 x9_1).f0.f1) ((rd_T126 l2 x9_1).f0.f2) ((rd_T126 l2 x9_1).f0.f3) ((rd_T126 l2 x9_1).f0.f4) ((rd_T126 l2 x9_1).f1) ((rd_T126 l2 x9_1).f2) ((rd_T126 l2 x9_1).f3) t310 _ ?side1 ?side2 ?side3 ?side4 A17.o).mono ?_
      (case side1 => exact Kd.qC (Kd.C_below HR1_2.o HB.o))
      (case side2 => exact HC1_2.o)
      (case side3 => exact Kd.qC (Kd.C_below HR1_5.o HB.o))
      (case side4 => exact HC1_5.o)
      rintro e w23 ⟨rfl, hb⟩
      refine ⟨_, rfl, ?_⟩
      have n0_ := zK (bB (qK BK305.o) hb)
      have n1_ := zK (bT (qX HB.o) hb)
      clear BK305
      clear HB
      have BK305 := n0_
      have HB := n1_
      clear n0_ n1_
      (try clear hb)
      (try clear hb2)
      (try clear hk)
      (try clear hi)
      refine hK.out _ _ ⟨(bc BK305.o 0).trans rfl, (bc BK305.o 1).trans rfl, (bc BK305.o 2).trans rfl, (bc BK305.o 3).trans rfl, (bc BK305.o 4).trans rfl, (bc BK305.o 5).trans rfl, (bc BK305.o 6).trans rfl, (bc BK305.o 7).trans rfl, (cB HB.o hw309_0 :), (cB HB.o hw309_1 :), (cB HB.o hw309_2 :), (cB HB.o hw309_3 :), (cB HB.o hw309_4 :), (cB HB.o hw309_5 :), (cB HB.o hw309_6 :), (cB HB.o hw309_7 :)⟩ (fun hHeld => ?_)
      clear hK K
      refine norm_ (a' := ?_) ?_ ?_
      rotate_left
      ·show Act.put _ (some 55) _ = _
       simp only [Act.put, sA, sZ, sS, i64_w, i32_w]
       rfl
      refine pure_ (i := 6) (N := some 12) (v := ?_) (a' := ?_) b19A40 rfl rfl (by kernel_rfl) (fun _ _ _ h => h) (Or.inl ⟨by rfl, ?_⟩) ?_ ?_
      rotate_left
      ·intro w'
       go_simp
       with_reducible rfl
      rotate_left
      ·simp only [Act.put, sA, sZ, sS, i64_w, i32_w]
       rfl
      refine done_ (by kernel_rfl) ?_
      have p311 : 0 ≤ (x9_1 : Int) := oD M1
      have q311 : x9_1 < (l2.length : Int) := oD M1
      obtain ⟨ad311, e311, hx311_0, hx311_1, hx311_2, hx311_3, hx311_4, hx311_5, hx311_6, hx311_7⟩ := at_T126 HR2.o x9_1 p311 q311
      obtain rfl : ad309 = ad311 := (by injection e311)
      replace hx311_0 := cB HB.o hx311_0
      replace hx311_1 := cB HB.o hx311_1
      replace hx311_2 := cB HB.o hx311_2
      replace hx311_3 := cB HB.o hx311_3
      replace hx311_4 := cB HB.o hx311_4
      replace hx311_5 := cB HB.o hx311_5
      replace hx311_6 := cB HB.o hx311_6
      replace hx311_7 := cB HB.o hx311_7
      replace p311 := eq_true p311
      replace q311 := eq_true q311
      try go_wp2
      go_roundg k2
      case measure => have := HK1.o; have := HK2.o; omega
      case rel => exact ⟨((rd_T126 l2 x9_1).f0.f0), (t310), (wrap64 (x9_1 + 1)), M3, M3, M3, H', ⟨by have := HK1.o; have := HK2.o; omega⟩, ⟨by exact qK BK305.o⟩, ⟨by exact qX HB.o⟩⟩
     rw [if_pos c6] at H
     have c6b0 : decide (x11_2 < (l0.length : Int)) = true := decide_eq_true c6
     clear c6
     by_cases c7 : x10_2 = true
     ·subst c7
      have H1 : (spec_l23Next.l1 k2 l0 l2 x7_1 x8_1 x9_1 true (wrap64 (x11_2 + 1)) a1_0 a1_1 l1_2 a1_3 a1_4 l1_5 a1_6 a1_7) = some r := by rw [if_pos rfl] at H; exact H
      clear H
      have H := H1
      clear H1
      have H' := zK H
      clear H
      try go_wp2
      have n0_ := zK (kD BK305.o)
      have n1_ := zK (below_drew1 HB.o)
      clear BK305
      clear HB
      have BK305 := n0_
      have HB := n1_
      clear n0_ n1_
      refine start_ (n := 26) (S := fun w' => True) (ds := []) b19A0 (by kernel_rfl) rfl rfl trivial (fun hHeld => ?_); refine with_tabW spec_l23Next.tab10 spec_l23Next.bits10 (fun HT_ HW_ => ?_)
      generalize wr.drew = w8 at BK305 HB hHeld ⊢
      refine pI 0 (some 25) b19A1 HT_ ?_
      refine pI 1 (some 26) b19A2 HT_ ?_
      refine pU 2 (some 27) b19A3 HT_ ?_
      refine pU 3 (some 28) b19A4 HT_ ?_
      refine pU 4 (some 29) b19A5 HT_ ?_
      refine pU 5 (some 30) b19A6 HT_ ?_
      refine pU 6 (some 31) b19A7 HT_ ?_
      refine pU 7 (some 32) b19A8 HT_ ?_
      refine pU 8 (some 33) b19A9 HT_ ?_
      refine pU 9 (some 34) b19A10 HT_ ?_
      refine pU 10 (some 35) b19A11 HT_ ?_
      refine pU 11 (some 36) b19A12 HT_ ?_
      refine pU 12 (some 37) b19A13 HT_ ?_
      refine pU 13 (some 38) b19A14 HT_ ?_
      refine pU 14 (some 39) b19A15 HT_ ?_
      refine pU 15 (some 40) b19A16 HT_ ?_
      refine pU 16 (some 41) b19A17 HT_ ?_
      refine pU 17 (some 42) b19A18 HT_ ?_
      refine pU 18 (some 43) b19A19 HT_ ?_
      refine pU 19 (some 44) b19A20 HT_ ?_
      refine pU 20 (some 45) b19A21 HT_ ?_
      refine pU 21 (some 46) b19A22 HT_ ?_
      refine pU 22 (some 47) b19A23 HT_ ?_
      refine pU 23 (some 48) b19A24 HT_ ?_
      refine pI 24 (some 49) b19A25 HT_ ?_
      refine pI 25 (some 10) b19A26 HT_ ?_
      refine done_ (done_of HT_.o (by kernel_rfl)) ?_
      try go_wp2
      go_roundg k2
      case measure => have := HK1.o; have := HK2.o; omega
      case rel => exact ⟨(true), (wrap64 (x11_2 + 1)), M3, M3, H', ⟨by have := HK1.o; have := HK2.o; omega⟩, ⟨by exact qK BK305.o⟩, ⟨by exact qX HB.o⟩⟩
     replace c7 := Bool.eq_false_iff.mpr c7
     subst c7
     have H1 : (if 0 ≤ x11_2 then (if ((rd_T81 l0 x11_2).f0) = a1_0 then (if 0 ≤ x9_1 then (if x9_1 < (l2.length : Int) then (spec_l23Next.l1 k2 l0 l2 x7_1 x8_1 x9_1 (((rd_T81 l0 x11_2).f1) == ((rd_T126 l2 x9_1).f0.f0)) (wrap64 (x11_2 + 1)) a1_0 a1_1 l1_2 a1_3 a1_4 l1_5 a1_6 a1_7) else (none)) else (none)) else (spec_l23Next.l1 k2 l0 l2 x7_1 x8_1 x9_1 false (wrap64 (x11_2 + 1)) a1_0 a1_1 l1_2 a1_3 a1_4 l1_5 a1_6 a1_7)) else (none)) = some r := by rw [if_neg (show ¬ (false = true) by decide)] at H; exact H
     clear H
     have H := H1
     clear H1
     by_cases c9 : 0 ≤ x11_2
     rotate_left
     ·rw [if_neg c9] at H
      exact absurd H (by simp)
     rw [if_pos c9] at H
     have c9b0 : decide (0 ≤ x11_2) = true := decide_eq_true c9
     clear c9
     by_cases c10 : ((rd_T81 l0 x11_2).f0) = a1_0
     rotate_left
     ·rw [if_neg c10] at H
      have c10b0 : (((rd_T81 l0 x11_2).f0) == a1_0) = false := beq_eq_false_iff_ne.mpr c10
      have c10b1 : (((rd_T81 l0 x11_2).f0) != a1_0) = true := bne_iff_ne.mpr c10
      have H' := zK H
      clear H
      try go_wp2
      have n0_ := zK (kD BK305.o)
      have n1_ := zK (below_drew1 HB.o)
      clear BK305
      clear HB
      have BK305 := n0_
      have HB := n1_
      clear n0_ n1_
      have p306 : 0 ≤ (x11_2 : Int) := oD M1
      have q306 : x11_2 < (l0.length : Int) := oD M1
      obtain ⟨ad306, e306, hx306_0, hx306_1, hx306_2⟩ := at_T81 HR0.o x11_2 p306 q306
      have hw306_2 := hx306_2
      have hw306_1 := hx306_1
      have hw306_0 := hx306_0
      cases e306
      replace hx306_0 := cB HB.o hx306_0
      replace hx306_1 := cB HB.o hx306_1
      replace hx306_2 := cB HB.o hx306_2
      replace p306 := eq_true p306
      replace q306 := eq_true q306
      refine start_ (n := 26) (S := fun w' => w'.cell? ⟨gb305, 0, none⟩ = some (.int .i64 a1_0) ∧ w'.cell? ⟨gb305, 1, none⟩ = some (.int .i64 a1_1) ∧ w'.cell? ⟨gb305, 2, none⟩ = some (.slice A1_2 l1_2.length c1_2) ∧ w'.cell? ⟨gb305, 3, none⟩ = some (.int .i64 a1_3) ∧ w'.cell? ⟨gb305, 4, none⟩ = some (.int .i64 a1_4) ∧ w'.cell? ⟨gb305, 5, none⟩ = some (.slice A1_5 l1_5.length c1_5) ∧ w'.cell? ⟨gb305, 6, none⟩ = some (.int .i64 a1_6) ∧ w'.cell? ⟨gb305, 7, none⟩ = some (.int .i64 a1_7) ∧ w'.cell? (ad306.add ((x11_2).toNat * 3)) = some (.int .i64 ((rd_T81 l0 x11_2).f0)) ∧ w'.cell? ⟨(ad306.add ((x11_2).toNat * 3)).block, (ad306.add ((x11_2).toNat * 3)).off + 1, none⟩ = some (.int .i64 ((rd_T81 l0 x11_2).f1)) ∧ w'.cell? ⟨(ad306.add ((x11_2).toNat * 3)).block, (ad306.add ((x11_2).toNat * 3)).off + 2, none⟩ = some (.int .i64 ((rd_T81 l0 x11_2).f2))) (ds := []) b19A0 (by kernel_rfl) rfl rfl ⟨(bc BK305.o 0).trans rfl, (bc BK305.o 1).trans rfl, (bc BK305.o 2).trans rfl, (bc BK305.o 3).trans rfl, (bc BK305.o 4).trans rfl, (bc BK305.o 5).trans rfl, (bc BK305.o 6).trans rfl, (bc BK305.o 7).trans rfl, (cB HB.o hw306_0 :), (cB HB.o hw306_1 :), (cB HB.o hw306_2 :)⟩ (fun hHeld => ?_); refine with_tabW spec_l23Next.tab10 spec_l23Next.bits10 (fun HT_ HW_ => ?_)
      generalize wr.drew = w14 at BK305 HB hx306_0 hx306_1 hx306_2 hHeld ⊢
      refine pI 0 (some 25) b19A1 HT_ ?_
      refine pI 1 (some 26) b19A2 HT_ ?_
      refine pI 2 (some 27) b19A3 HT_ ?_
      refine pI 3 (some 28) b19A4 HT_ ?_
      refine pI 4 (some 29) b19A5 HT_ ?_
      refine pI 5 (some 30) b19A6 HT_ ?_
      refine pI 7 (some 32) b19A27 HT_ ?_
      refine tI 6 (some 31) b19A8 HT_ HW_ hHeld rfl rfl (Or.inl ⟨by rfl, by rintro w' ⟨s0, s1, s2, s3, s4, s5, s6, s7, s8, s9, s10⟩; go_simp; with_reducible rfl⟩) ?_
      refine tI 8 (some 33) b19A9 HT_ HW_ hHeld rfl rfl (Or.inl ⟨by rfl, by rintro w' ⟨s0, s1, s2, s3, s4, s5, s6, s7, s8, s9, s10⟩; go_simp; with_reducible rfl⟩) ?_
      refine pI 9 (some 34) b19A10 HT_ ?_
      refine pI 10 (some 35) b19A11 HT_ ?_
      refine pU 11 (some 36) b19A12 HT_ ?_
      refine pU 12 (some 37) b19A13 HT_ ?_
      refine pU 13 (some 38) b19A14 HT_ ?_
      refine pU 14 (some 39) b19A15 HT_ ?_
      refine pU 15 (some 40) b19A16 HT_ ?_
      refine pU 16 (some 41) b19A17 HT_ ?_
      refine pU 17 (some 42) b19A18 HT_ ?_
      refine pU 18 (some 43) b19A19 HT_ ?_
      refine pU 19 (some 44) b19A20 HT_ ?_
      refine pU 20 (some 45) b19A21 HT_ ?_
      refine pU 21 (some 46) b19A22 HT_ ?_
      refine pU 22 (some 47) b19A23 HT_ ?_
      refine pI 23 (some 48) b19A24 HT_ ?_
      refine pI 24 (some 49) b19A25 HT_ ?_
      refine pI 25 (some 10) b19A26 HT_ ?_
      refine done_ (done_of HT_.o (by kernel_rfl)) ?_
      try go_wp2
      go_roundg k2
      case measure => have := HK1.o; have := HK2.o; omega
      case rel => exact ⟨(false), (wrap64 (x11_2 + 1)), M3, M3, H', ⟨by have := HK1.o; have := HK2.o; omega⟩, ⟨by exact qK BK305.o⟩, ⟨by exact qX HB.o⟩⟩
     rw [if_pos c10] at H
     have c10b0 : (((rd_T81 l0 x11_2).f0) == a1_0) = true := beq_iff_eq.mpr c10
     have c10b1 : (((rd_T81 l0 x11_2).f0) != a1_0) = false := bne_eq_false_iff_eq.mpr c10
     clear c10
     by_cases c11 : 0 ≤ x9_1
     rotate_left
     ·rw [if_neg c11] at H
      exact absurd H (by simp)
     rw [if_pos c11] at H
     have c11b0 : decide (0 ≤ x9_1) = true := decide_eq_true c11
     clear c11
     by_cases c12 : x9_1 < (l2.length : Int)
     rotate_left
     ·rw [if_neg c12] at H
      exact absurd H (by simp)
     rw [if_pos c12] at H
     have c12b0 : decide (x9_1 < (l2.length : Int)) = true := decide_eq_true c12
     clear c12
     have H' := zK H
     clear H
     try go_wp2
     have n0_ := zK (kD BK305.o)
     have n1_ := zK (below_drew1 HB.o)
     clear BK305
     clear HB
     have BK305 := n0_
     have HB := n1_
     clear n0_ n1_
     have p306 : 0 ≤ (x11_2 : Int) := oD M1
     have q306 : x11_2 < (l0.length : Int) := oD M1
     obtain ⟨ad306, e306, hx306_0, hx306_1, hx306_2⟩ := at_T81 HR0.o x11_2 p306 q306
     have hw306_2 := hx306_2
     have hw306_1 := hx306_1
     have hw306_0 := hx306_0
     cases e306
     replace hx306_0 := cB HB.o hx306_0
     replace hx306_1 := cB HB.o hx306_1
     replace hx306_2 := cB HB.o hx306_2
     replace p306 := eq_true p306
     replace q306 := eq_true q306
     have p307 : 0 ≤ (x11_2 : Int) := oD M1
     have q307 : x11_2 < (l0.length : Int) := oD M1
     obtain ⟨ad307, e307, hx307_0, hx307_1, hx307_2⟩ := at_T81 HR0.o x11_2 p307 q307
     have hw307_2 := hx307_2
     have hw307_1 := hx307_1
     have hw307_0 := hx307_0
     obtain rfl : ad306 = ad307 := (by injection e307)
     replace hx307_0 := cB HB.o hx307_0
     replace hx307_1 := cB HB.o hx307_1
     replace hx307_2 := cB HB.o hx307_2
     replace p307 := eq_true p307
     replace q307 := eq_true q307
     have p308 : 0 ≤ (x9_1 : Int) := oD M1
     have q308 : x9_1 < (l2.length : Int) := oD M1
     obtain ⟨ad308, e308, hx308_0, hx308_1, hx308_2, hx308_3, hx308_4, hx308_5, hx308_6, hx308_7⟩ := at_T126 HR2.o x9_1 p308 q308
     have hw308_7 := hx308_7
     have hw308_6 := hx308_6
     have hw308_5 := hx308_5
     have hw308_4 := hx308_4
     have hw308_3 := hx308_3
     have hw308_2 := hx308_2
     have hw308_1 := hx308_1
     have hw308_0 := hx308_0
     cases e308
     replace hx308_0 := cB HB.o hx308_0
     replace hx308_1 := cB HB.o hx308_1
     replace hx308_2 := cB HB.o hx308_2
     replace hx308_3 := cB HB.o hx308_3
     replace hx308_4 := cB HB.o hx308_4
     replace hx308_5 := cB HB.o hx308_5
     replace hx308_6 := cB HB.o hx308_6
     replace hx308_7 := cB HB.o hx308_7
     replace p308 := eq_true p308
     replace q308 := eq_true q308
     refine start_ (n := 26) (S := fun w' => w'.cell? ⟨gb305, 0, none⟩ = some (.int .i64 a1_0) ∧ w'.cell? ⟨gb305, 1, none⟩ = some (.int .i64 a1_1) ∧ w'.cell? ⟨gb305, 2, none⟩ = some (.slice A1_2 l1_2.length c1_2) ∧ w'.cell? ⟨gb305, 3, none⟩ = some (.int .i64 a1_3) ∧ w'.cell? ⟨gb305, 4, none⟩ = some (.int .i64 a1_4) ∧ w'.cell? ⟨gb305, 5, none⟩ = some (.slice A1_5 l1_5.length c1_5) ∧ w'.cell? ⟨gb305, 6, none⟩ = some (.int .i64 a1_6) ∧ w'.cell? ⟨gb305, 7, none⟩ = some (.int .i64 a1_7) ∧ w'.cell? (ad306.add ((x11_2).toNat * 3)) = some (.int .i64 ((rd_T81 l0 x11_2).f0)) ∧ w'.cell? ⟨(ad306.add ((x11_2).toNat * 3)).block, (ad306.add ((x11_2).toNat * 3)).off + 1, none⟩ = some (.int .i64 ((rd_T81 l0 x11_2).f1)) ∧ w'.cell? ⟨(ad306.add ((x11_2).toNat * 3)).block, (ad306.add ((x11_2).toNat * 3)).off + 2, none⟩ = some (.int .i64 ((rd_T81 l0 x11_2).f2)) ∧ w'.cell? (ad306.add ((x11_2).toNat * 3)) = some (.int .i64 ((rd_T81 l0 x11_2).f0)) ∧ w'.cell? ⟨(ad306.add ((x11_2).toNat * 3)).block, (ad306.add ((x11_2).toNat * 3)).off + 1, none⟩ = some (.int .i64 ((rd_T81 l0 x11_2).f1)) ∧ w'.cell? ⟨(ad306.add ((x11_2).toNat * 3)).block, (ad306.add ((x11_2).toNat * 3)).off + 2, none⟩ = some (.int .i64 ((rd_T81 l0 x11_2).f2)) ∧ w'.cell? (ad308.add ((x9_1).toNat * 8)) = some (.int .i64 ((rd_T126 l2 x9_1).f0.f0)) ∧ w'.cell? ⟨(ad308.add ((x9_1).toNat * 8)).block, (ad308.add ((x9_1).toNat * 8)).off + 1, none⟩ = some (.int .i64 ((rd_T126 l2 x9_1).f0.f1)) ∧ w'.cell? ⟨(ad308.add ((x9_1).toNat * 8)).block, (ad308.add ((x9_1).toNat * 8)).off + 2, none⟩ = some (.int .i64 ((rd_T126 l2 x9_1).f0.f2)) ∧ w'.cell? ⟨(ad308.add ((x9_1).toNat * 8)).block, (ad308.add ((x9_1).toNat * 8)).off + 3, none⟩ = some (.int .i64 ((rd_T126 l2 x9_1).f0.f3)) ∧ w'.cell? ⟨(ad308.add ((x9_1).toNat * 8)).block, (ad308.add ((x9_1).toNat * 8)).off + 4, none⟩ = some (.int .i64 ((rd_T126 l2 x9_1).f0.f4)) ∧ w'.cell? ⟨(ad308.add ((x9_1).toNat * 8)).block, (ad308.add ((x9_1).toNat * 8)).off + 5, none⟩ = some (.int .i64 ((rd_T126 l2 x9_1).f1)) ∧ w'.cell? ⟨(ad308.add ((x9_1).toNat * 8)).block, (ad308.add ((x9_1).toNat * 8)).off + 6, none⟩ = some (.int .i64 ((rd_T126 l2 x9_1).f2)) ∧ w'.cell? ⟨(ad308.add ((x9_1).toNat * 8)).block, (ad308.add ((x9_1).toNat * 8)).off + 7, none⟩ = some (.int .i64 ((rd_T126 l2 x9_1).f3))) (ds := []) b19A0 (by kernel_rfl) rfl rfl ⟨(bc BK305.o 0).trans rfl, (bc BK305.o 1).trans rfl, (bc BK305.o 2).trans rfl, (bc BK305.o 3).trans rfl, (bc BK305.o 4).trans rfl, (bc BK305.o 5).trans rfl, (bc BK305.o 6).trans rfl, (bc BK305.o 7).trans rfl, (cB HB.o hw306_0 :), (cB HB.o hw306_1 :), (cB HB.o hw306_2 :), (cB HB.o hw307_0 :), (cB HB.o hw307_1 :), (cB HB.o hw307_2 :), (cB HB.o hw308_0 :), (cB HB.o hw308_1 :), (cB HB.o hw308_2 :), (cB HB.o hw308_3 :), (cB HB.o hw308_4 :), (cB HB.o hw308_5 :), (cB HB.o hw308_6 :), (cB HB.o hw308_7 :)⟩ (fun hHeld => ?_); refine with_tabW spec_l23Next.tab10 spec_l23Next.bits10 (fun HT_ HW_ => ?_)
     generalize wr.drew = w13 at BK305 HB hx306_0 hx306_1 hx306_2 hx307_0 hx307_1 hx307_2 hx308_0 hx308_1 hx308_2 hx308_3 hx308_4 hx308_5 hx308_6 hx308_7 hHeld ⊢
     refine pI 0 (some 25) b19A1 HT_ ?_
     refine pI 1 (some 26) b19A2 HT_ ?_
     refine pI 2 (some 27) b19A3 HT_ ?_
     refine pI 3 (some 28) b19A4 HT_ ?_
     refine pI 4 (some 29) b19A5 HT_ ?_
     refine pI 5 (some 30) b19A6 HT_ ?_
     refine pI 7 (some 32) b19A27 HT_ ?_
     refine tI 6 (some 31) b19A8 HT_ HW_ hHeld rfl rfl (Or.inl ⟨by rfl, by rintro w' ⟨s0, s1, s2, s3, s4, s5, s6, s7, s8, s9, s10, s11, s12, s13, s14, s15, s16, s17, s18, s19, s20, s21⟩; go_simp; with_reducible rfl⟩) ?_
     refine tI 8 (some 33) b19A9 HT_ HW_ hHeld rfl rfl (Or.inl ⟨by rfl, by rintro w' ⟨s0, s1, s2, s3, s4, s5, s6, s7, s8, s9, s10, s11, s12, s13, s14, s15, s16, s17, s18, s19, s20, s21⟩; go_simp; with_reducible rfl⟩) ?_
     refine pI 9 (some 34) b19A10 HT_ ?_
     refine pI 10 (some 35) b19A11 HT_ ?_
     refine pI 11 (some 36) b19A12 HT_ ?_
     refine pI 12 (some 37) b19A13 HT_ ?_
     refine pI 13 (some 38) b19A14 HT_ ?_
     refine pI 14 (some 39) b19A15 HT_ ?_
     refine pI 16 (some 41) b19A28 HT_ ?_
     refine pI 17 (some 42) b19A29 HT_ ?_
     refine pI 18 (some 43) b19A30 HT_ ?_
     refine pI 19 (some 44) b19A31 HT_ ?_
     refine pI 20 (some 45) b19A32 HT_ ?_
     refine tI 15 (some 40) b19A21 HT_ HW_ hHeld rfl rfl (Or.inl ⟨by rfl, by rintro w' ⟨s0, s1, s2, s3, s4, s5, s6, s7, s8, s9, s10, s11, s12, s13, s14, s15, s16, s17, s18, s19, s20, s21⟩; go_simp; with_reducible rfl⟩) ?_
     refine tI 21 (some 46) b19A22 HT_ HW_ hHeld rfl rfl (Or.inl ⟨by rfl, by rintro w' ⟨s0, s1, s2, s3, s4, s5, s6, s7, s8, s9, s10, s11, s12, s13, s14, s15, s16, s17, s18, s19, s20, s21⟩; go_simp; with_reducible rfl⟩) ?_
     refine pI 22 (some 47) b19A23 HT_ ?_
     refine pI 23 (some 48) b19A24 HT_ ?_
     refine pI 24 (some 49) b19A25 HT_ ?_
     refine pI 25 (some 10) b19A26 HT_ ?_
     refine done_ (done_of HT_.o (by kernel_rfl)) ?_
     try go_wp2
     go_roundg k2
     case measure => have := HK1.o; have := HK2.o; omega
     case rel => exact ⟨((((rd_T81 l0 x11_2).f1) == ((rd_T126 l2 x9_1).f0.f0))), (wrap64 (x11_2 + 1)), M3, M3, H', ⟨by have := HK1.o; have := HK2.o; omega⟩, ⟨by exact qK BK305.o⟩, ⟨by exact qX HB.o⟩⟩
end Go.Proofs.Ytpkdbkheggfkkaa.PFnExactLettersFor
