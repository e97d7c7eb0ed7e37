/- Walks of functions that FnFates reaches: written by a tool of the kit for this claim, then shortened by a program of ours. -/
import Derived.Test.YtfoallhhdilgjaaPFnFatesx0
import Derived.Test.YtfoallhhdilgjaaPFnFatesx3
/- narrow -/
namespace Go.Proofs.Ytfoallhhdilgjaa.PFnFates
open Go.RowKit Go.Proofs.YtfoallhhdilgjaaW.PrintWords Go.Proofs.YtfoallhhdilgjaaW.PrintLast Go.Proofs.YtfoallhhdilgjaaW.PrintMore
attribute [local go_sem] max2_int min2_int max_two min_two max_three min_three max_four min_four   -- for this text's walks alone
set_option linter.unusedVariables false
set_option linter.unusedSimpArgs false

abbrev b4A0 : Array Bool := #[bo, bo, bo, bo, bo, bo, bo, bo, bo, bo, bo, bo, bo, bo, bo, bo, bo, bo, bo, bo, bo, bo]
abbrev b4A1 : Array Bool := #[bi, bo, bo, bo, bo, bo, bo, bo, bo, bo, bo, bo, bo, bo, bo, bo, bo, bo, bo, bo, bo, bo]
abbrev b4A2 : Array Bool := #[bi, bi, bo, bo, bo, bo, bo, bo, bo, bo, bo, bo, bo, bo, bo, bo, bo, bo, bo, bo, bo, bo]
abbrev b4A3 : Array Bool := #[bi, bi, bi, bo, bo, bo, bo, bo, bo, bo, bo, bo, bo, bo, bo, bo, bo, bo, bo, bo, bo, bo]
abbrev b4A4 : Array Bool := #[bi, bi, bi, bi, bo, bo, bo, bo, bo, bo, bo, bo, bo, bo, bo, bo, bo, bo, bo, bo, bo, bo]
abbrev b4A5 : Array Bool := #[bi, bi, bi, bi, bi, bo, bo, bo, bo, bo, bo, bo, bo, bo, bo, bo, bo, bo, bo, bo, bo, bo]
abbrev b4A6 : Array Bool := #[bi, bi, bi, bi, bi, bi, bo, bo, bo, bo, bo, bo, bo, bo, bo, bo, bo, bo, bo, bo, bo, bo]
abbrev b4A7 : Array Bool := #[bi, bi, bi, bi, bi, bi, bi, bo, bo, bo, bo, bo, bo, bo, bo, bo, bo, bo, bo, bo, bo, bo]
abbrev b4A8 : Array Bool := #[bi, bi, bi, bi, bi, bi, bi, bi, bo, bo, bo, bo, bo, bo, bo, bo, bo, bo, bo, bo, bo, bo]
abbrev b4A9 : Array Bool := #[bi, bi, bi, bi, bi, bi, bi, bi, bi, bo, bo, bo, bo, bo, bo, bo, bo, bo, bo, bo, bo, bo]
abbrev b4A10 : Array Bool := #[bi, bi, bi, bi, bi, bi, bi, bi, bi, bi, bo, bo, bo, bo, bo, bo, bo, bo, bo, bo, bo, bo]
abbrev b4A11 : Array Bool := #[bi, bi, bi, bi, bi, bi, bi, bi, bi, bi, bi, bo, bo, bo, bo, bo, bo, bo, bo, bo, bo, bo]
abbrev b4A12 : Array Bool := #[bi, bi, bi, bi, bi, bi, bi, bi, bi, bi, bi, bi, bo, bo, bo, bo, bo, bo, bo, bo, bo, bo]
abbrev b4A13 : Array Bool := #[bi, bi, bi, bi, bi, bi, bi, bi, bi, bi, bi, bi, bi, bo, bo, bo, bo, bo, bo, bo, bo, bo]
abbrev b4A14 : Array Bool := #[bi, bi, bi, bi, bi, bi, bi, bi, bi, bi, bi, bi, bi, bi, bo, bo, bo, bo, bo, bo, bo, bo]
abbrev b4A15 : Array Bool := #[bi, bi, bi, bi, bi, bi, bi, bi, bi, bi, bi, bi, bi, bi, bi, bo, bo, bo, bo, bo, bo, bo]
abbrev b4A16 : Array Bool := #[bi, bi, bi, bi, bi, bi, bi, bi, bi, bi, bi, bi, bi, bi, bi, bi, bo, bo, bo, bo, bo, bo]
abbrev b4A17 : Array Bool := #[bi, bi, bi, bi, bi, bi, bi, bi, bi, bi, bi, bi, bi, bi, bi, bi, bi, bo, bo, bo, bo, bo]
abbrev b4A18 : Array Bool := #[bi, bi, bi, bi, bi, bi, bi, bi, bi, bi, bi, bi, bi, bi, bi, bi, bi, bi, bo, bo, bo, bo]
abbrev b4A19 : Array Bool := #[bi, bi, bi, bi, bi, bi, bi, bi, bi, bi, bi, bi, bi, bi, bi, bi, bi, bi, bi, bo, bo, bo]
abbrev b4A20 : Array Bool := #[bi, bi, bi, bi, bi, bi, bi, bi, bi, bi, bi, bi, bi, bi, bi, bi, bi, bi, bi, bi, bo, bo]
abbrev b4A21 : Array Bool := #[bi, bi, bi, bi, bi, bi, bi, bi, bi, bi, bi, bi, bi, bi, bi, bi, bi, bi, bi, bi, bi, bo]
abbrev b4A22 : Array Bool := #[bi, bi, bi, bi, bi, bi, bi, bi, bi, bi, bi, bi, bi, bi, bi, bi, bi, bi, bi, bi, bi, bi]
abbrev b4A23 : Array Bool := #[bo, bo, bo, bo, bo, bo, bo, bo]
abbrev b4A24 : Array Bool := #[bi, bo, bo, bo, bo, bo, bo, bo]
abbrev b4A25 : Array Bool := #[bi, bi, bo, bo, bo, bo, bo, bo]
abbrev b4A26 : Array Bool := #[bi, bi, bi, bo, bo, bo, bo, bo]
abbrev b4A27 : Array Bool := #[bi, bi, bi, bi, bo, bo, bo, bo]
abbrev b4A28 : Array Bool := #[bi, bi, bi, bi, bo, bi, bo, bo]
abbrev b4A29 : Array Bool := #[bi, bi, bi, bi, bi, bi, bo, bo]
abbrev b4A30 : Array Bool := #[bi, bi, bi, bi, bi, bi, bi, bo]
abbrev b4A31 : Array Bool := #[bi, bi, bi, bi, bi, bi, bi, bi]
abbrev b4A32 : Array Bool := #[bi, bi, bi, bi, bi, bi, bo, bi, bo, bo, bo, bo, bo, bo, bo, bo, bo, bo, bo, bo, bo, bo]
abbrev b4A33 : Array Bool := #[bi, bi, bi, bi, bi, bi, bi, bi, bi, bi, bi, bi, bi, bi, bi, bo, bi, bo, bo, bo, bo, bo]
abbrev b4A34 : Array Bool := #[bo, bo, bo, bo, bo, bo, bo, bo, bo, bo, bo, bo, bo]
abbrev b4A35 : Array Bool := #[bo, bi, bo, bo, bo, bo, bo, bo, bo, bo, bo, bo, bo]
abbrev b4A36 : Array Bool := #[bo, bi, bi, bo, bo, bo, bo, bo, bo, bo, bo, bo, bo]
abbrev b4A37 : Array Bool := #[bo, bi, bi, bi, bo, bo, bo, bo, bo, bo, bo, bo, bo]
abbrev b4A38 : Array Bool := #[bo, bi, bi, bi, bo, bo, bo, bo, bi, bo, bo, bo, bo]
abbrev b4A39 : Array Bool := #[bo, bi, bi, bi, bo, bo, bo, bo, bi, bi, bo, bo, bo]
abbrev b4A40 : Array Bool := #[bo, bi, bi, bi, bo, bo, bo, bo, bi, bi, bi, bo, bo]
abbrev b4A41 : Array Bool := #[bo, bi, bi, bi, bo, bi, bo, bo, bi, bi, bi, bo, bo]
abbrev b4A42 : Array Bool := #[bi, bi, bi, bi, bi, bi, bi, bo, bi, bi, bi, bo, bo]
abbrev b4A43 : Array Bool := #[bi, bi, bi, bi, bo, bi, bo, bo, bi, bi, bi, bo, bo]
abbrev b4A44 : Array Bool := #[bo, bi, bi, bi, bo, bi, bi, bo, bi, bi, bi, bo, bo]
abbrev b4A45 : Array Bool := #[bi, bi, bi, bi, bi, bi, bo, bo, bi, bi, bi, bo, bo]
abbrev b4A46 : Array Bool := #[bi, bi, bi, bi, bo, bi, bi, bo, bi, bi, bi, bo, bo]
abbrev b4A47 : Array Bool := #[bi, bi, bi, bi, bi, bi, bi, bi, bi, bi, bi, bo, bo]
abbrev b4A48 : Array Bool := #[bi, bi, bi, bi, bi, bi, bi, bi, bi, bi, bi, bi, bo]
abbrev b4A49 : Array Bool := #[bi, bi, bi, bi, bi, bi, bi, bi, bi, bi, bi, bi, bi]
/-! ### spec_AddClaim: function 37 -/
def spec_AddClaim.l0 : Nat → List (S38) → Int → Bool → Int → Int → Int → Int → Int → Int → Option ((List (S38)) × Bool)
 | 0, _, _, _, _, _, _, _, _, _ => none
 | k + 1, x0, x6, x7, x8, x273000, x273001, x273002, x273003, x273004 => if x8 < (x0.length : Int) then (if x7 = true then (if 0 ≤ x8 then (if ((rd_T38 x0 x8).f0) < x273000 then (spec_AddClaim.l0 k x0 (wrap64 (x8 + 1)) true (wrap64 (x8 + 1)) x273000 x273001 x273002 x273003 x273004) else (spec_AddClaim.l0 k x0 x6 true (wrap64 (x8 + 1)) x273000 x273001 x273002 x273003 x273004)) else (none)) else (if 0 ≤ x8 then (if ((rd_T38 x0 x8).f1) = x273001 then (if ((rd_T38 x0 x8).f0) < x273000 then (spec_AddClaim.l0 k x0 (wrap64 (x8 + 1)) (((rd_T38 x0 x8).f2) == x273002) (wrap64 (x8 + 1)) x273000 x273001 x273002 x273003 x273004) else (spec_AddClaim.l0 k x0 x6 (((rd_T38 x0 x8).f2) == x273002) (wrap64 (x8 + 1)) x273000 x273001 x273002 x273003 x273004)) else (if ((rd_T38 x0 x8).f0) < x273000 then (spec_AddClaim.l0 k x0 (wrap64 (x8 + 1)) false (wrap64 (x8 + 1)) x273000 x273001 x273002 x273003 x273004) else (spec_AddClaim.l0 k x0 x6 false (wrap64 (x8 + 1)) x273000 x273001 x273002 x273003 x273004))) else (none))) else ((some (([] : List (S38)) : List (S38))).bind fun y278 => (if 0 ≤ x6 then (if x6 ≤ (x0.length : Int) then ((some (x0.take (x6 : Int).toNat : List (S38))).bind fun y281 => (if y278.length + y281.length < 3518437208883 then ((some (y278 ++ y281 : List (S38))).bind fun y285 => ((some (([(⟨x273000, x273001, x273002, x273003, x273004⟩ : S38)] : List (S38)) : List (S38))).bind fun y288 => (if y285.length + y288.length < 3518437208883 then ((some (y285 ++ y288 : List (S38))).bind fun y291 => ((some (x0.drop (x6 : Int).toNat : List (S38))).bind fun y294 => (if y291.length + y294.length < 3518437208883 then ((some (y291 ++ y294 : List (S38))).bind fun y298 => (if x7 = true then ((some (([] : List (S38)) : List (S38))).bind fun y301 => (if y301.length + x0.length < 3518437208883 then (some ((y301 ++ x0), false)) else (none))) else ((spec_AreClaims.f k y298).bind fun t307 => (if t307 = true then (some (y298, true)) else ((some (([] : List (S38)) : List (S38))).bind fun y308 => (if y308.length + x0.length < 3518437208883 then (some ((y308 ++ x0), false)) else (none))))))) else (none)))) else (none)))) else (none))) else (none)) else (none)))
def spec_AddClaim.f (k : Nat) (l0 : List (S38)) (a1_0 : Int) (a1_1 : Int) (a1_2 : Int) (a1_3 : Int) (a1_4 : Int) : Option ((List (S38)) × Bool) := spec_AddClaim.l0 k l0 0 (a1_4 != 0) 0 a1_0 a1_1 a1_2 a1_3 a1_4
def spec_AddClaim.T6 : Bool × List (List Nat × List Nat) := (true, [([], []), ([0], [0]), ([1], [1]), ([1], [1]), ([2, 3, 1], [1, 2, 3]), ([4, 1], [1, 4]), ([5, 1], [1, 5]), ([1], [1]), ([7, 1], [1, 7]), ([6, 8, 1], [1, 6, 8]), ([9, 1, 1], [1, 9]), ([10], [10]), ([10], [10]), ([11, 12, 10], [10, 11, 12]), ([13, 10], [10, 13]), ([14, 10], [10, 14]), ([10], [10]), ([16, 10], [10, 16]), ([15, 17, 10], [10, 15, 17]), ([10, 18, 1], [1, 10, 18]), ([1, 19], [1, 19]), ([20, 10, 0, 1, 2, 3, 4, 5, 6, 7, 8, 9, 10, 11, 12, 13, 14, 15, 16, 17, 18, 19, 20], [0, 20])])
def spec_AddClaim.B6 : List Nat := [0, 1, 3, 3, 15, 31, 63, 3, 131, 511, 1023, 2047, 2047, 8191, 16383, 32767, 2047, 67583, 262143, 524287, 1048575, 2097151]
theorem spec_AddClaim.tab6 : rtab .any (opsOf Try.f37 6) = spec_AddClaim.T6 := by kernel_rfl
theorem spec_AddClaim.bits6 : waitsOk spec_AddClaim.T6.2 spec_AddClaim.B6 = true := by kernel_rfl
def spec_AddClaim.T7 : Bool × List (List Nat × List Nat) := (true, [([], []), ([], []), ([0, 1], [0, 1]), ([2], [2]), ([3], [3]), ([], []), ([5], [5]), ([4, 6], [4, 6])])
def spec_AddClaim.B7 : List Nat := [0, 0, 3, 7, 15, 0, 32, 127]
theorem spec_AddClaim.tab7 : rtab .any (opsOf Try.f37 7) = spec_AddClaim.T7 := by kernel_rfl
theorem spec_AddClaim.bits7 : waitsOk spec_AddClaim.T7.2 spec_AddClaim.B7 = true := by kernel_rfl
def spec_AddClaim.T9 : Bool × List (List Nat × List Nat) := (true, [([], []), ([], []), ([], []), ([1, 2], [1, 2]), ([0, 3], [0, 3]), ([], []), ([5], [5]), ([4, 6, 4], [4, 6]), ([], []), ([], []), ([8, 9], [8, 9]), ([7, 10, 7], [7, 10]), ([11, 11, 0, 1, 2, 3, 4, 5, 6, 7, 8, 9, 10, 11], [11])])
def spec_AddClaim.B9 : List Nat := [0, 0, 0, 6, 15, 0, 32, 127, 0, 0, 768, 2047, 4095]
theorem spec_AddClaim.tab9 : rtab .any (opsOf Try.f37 9) = spec_AddClaim.T9 := by kernel_rfl
theorem spec_AddClaim.bits9 : waitsOk spec_AddClaim.T9.2 spec_AddClaim.B9 = true := by kernel_rfl
set_option maxHeartbeats 8000000 in
set_option maxRecDepth 100000 in
theorem spec_AddClaim.calls (k : Nat) (A0 : Option Addr) (c0 : Nat) (l0 : List (S38)) (a1_0 : Int) (a1_1 : Int) (a1_2 : Int) (a1_3 : Int) (a1_4 : Int) (r1 : List (S38)) (r2 : Bool) (w : World) (hr0 : Kd.C k38 w A0 l0.length l0) (hc0 : l0.length ≤ c0) (h : spec_AddClaim.f k l0 a1_0 a1_1 a1_2 a1_3 a1_4 = some (r1, r2)) :
  Calls Try.prog 37 #[.slice A0 l0.length c0, .agg #[.int .i64 a1_0, .int .i64 a1_1, .int .i64 a1_2, .int .i64 a1_3, .int .i64 a1_4]] w fun e w' => ∃ v0_ : Value, e = .returned (.tuple #[v0_, .bool r2]) ∧ Kd.R k38 38 w' w.heap.size (fun _ => True) v0_ r1 ∧ Below w.heap.size w w' := by
 have hu38 := Try.underlying38
 have HR0 := zK hr0
 have HC0 := zK hc0
 clear hr0 hc0
 have HB := zK (Below.refl w.heap.size w)
 have H : (spec_AddClaim.l0 k l0 0 (a1_4 != 0) 0 a1_0 a1_1 a1_2 a1_3 a1_4) = some (r1, r2) := h
 clear h
 have H' := zK H
 clear H
 go_enter Try.func37, Try.ntmps37
 go_wp2_with (first | ((with_reducible refine gate_dst (N := 3) rfl ?_); refine box_event ?hg (N := 3) ?hd (cs := #[.int .i64 a1_0, .int .i64 a1_1, .int .i64 a1_2, .int .i64 a1_3, .int .i64 a1_4]) (t := 38) ?hr ?_; (case hd => rfl); (case hg => rfl); (case hr => first | (go_simp; done) | (go_simp; rfl)); intro gb272 hg w3 hbox hb; have n0_ := zK (bT (qB HB.out) hb); have n1_ := zK (hbox); have n2_ := zK ((by rw [hg]; exact (bZ (qB HB.out)) : w.heap.size ≤ gb272)); have n3_ := zK ((by rw [hg]; exact (bZ (qB HB.out)) : w.heap.size ≤ gb272)); clear HB; have HB := n0_; have BK272 := n1_; have GW272 := n2_; have GE272 := n3_; clear n0_ n1_ n2_ n3_; clear hb hbox hg; have hcz4_0 : w3.cell? ⟨gb272, 0, none⟩ = some (.int .i64 a1_0) := (bc BK272.out 0).trans rfl; have hcz4_1 : w3.cell? ⟨gb272, 1, none⟩ = some (.int .i64 a1_1) := (bc BK272.out 1).trans rfl; have hcz4_2 : w3.cell? ⟨gb272, 2, none⟩ = some (.int .i64 a1_2) := (bc BK272.out 2).trans rfl; have hcz4_3 : w3.cell? ⟨gb272, 3, none⟩ = some (.int .i64 a1_3) := (bc BK272.out 3).trans rfl; have hcz4_4 : w3.cell? ⟨gb272, 4, none⟩ = some (.int .i64 a1_4) := (bc BK272.out 4).trans rfl; have hfz4_0 := bf BK272.out 0; have hfz4_1 := bf BK272.out 1; have hfz4_2 := bf BK272.out 2; have hfz4_3 := bf BK272.out 3; have hfz4_4 := bf BK272.out 4))
 go_loopg [6, 7, 8] k (fun kq v6 v7 v8 w' => ∃ (x6_1 : Int) (x7_1 : Bool) (x8_1 : Int), v6 = .int .i64 x6_1 ∧ v7 = .bool x7_1 ∧ v8 = .int .i64 x8_1 ∧ Aside0 (spec_AddClaim.l0 kq l0 x6_1 x7_1 x8_1 a1_0 a1_1 a1_2 a1_3 a1_4 = some (r1, r2)) ∧ Aside0 (kq ≤ k) ∧ Aside0 (w'.heap[gb272]? = some (.cells #[.int .i64 a1_0, .int .i64 a1_1, .int .i64 a1_2, .int .i64 a1_3, .int .i64 a1_4] 38 (0, 0))) ∧ Aside0 (Below w.heap.size w w'))
 case atStart => exact ⟨(0), ((a1_4 != 0)), (0), m9, m9, m9, H', ⟨Nat.le_refl _⟩, ⟨by exact qK BK272.out⟩, ⟨by repeat (first | (with_reducible first | exact HB.out | apply bA | apply bN | apply below_drew1 | refine bS ?_ GE272.out) | exact HB.out)⟩⟩
 case round =>
  clear H'
  try clear p2
  try clear c3
  try clear hcz4_0
  try clear hcz4_1
  try clear hcz4_2
  try clear hcz4_3
  try clear hcz4_4
  try clear hfz4_0
  try clear hfz4_1
  try clear hfz4_2
  try clear hfz4_3
  try clear hfz4_4
  obtain ⟨x6_1, x7_1, x8_1, rfl, rfl, rfl, HA, HK1, BK272, HB⟩ := hrel
  cases gk with
  | zero => exact absurd HA.out (by simp [spec_AddClaim.l0])
  | succ k1 =>
   have H := HA.out
   clear HA
   simp only [spec_AddClaim.l0] at H
   by_cases c5 : x8_1 < (l0.length : Int)
   ·rw [if_pos c5] at H
    have c5b0 : decide (x8_1 < (l0.length : Int)) = true := decide_eq_true c5
    clear c5
    by_cases c6 : x7_1 = true
    ·subst c6
     have H1 : (if 0 ≤ x8_1 then (if ((rd_T38 l0 x8_1).f0) < a1_0 then (spec_AddClaim.l0 k1 l0 (wrap64 (x8_1 + 1)) true (wrap64 (x8_1 + 1)) a1_0 a1_1 a1_2 a1_3 a1_4) else (spec_AddClaim.l0 k1 l0 x6_1 true (wrap64 (x8_1 + 1)) a1_0 a1_1 a1_2 a1_3 a1_4)) else (none)) = some (r1, r2) := by rw [if_pos rfl] at H; exact H
     clear H
     have H := H1
     clear H1
     by_cases c7 : 0 ≤ x8_1
     rotate_left
     ·rw [if_neg c7] at H
      exact absurd H (by simp)
     rw [if_pos c7] at H
     have c7b0 : decide (0 ≤ x8_1) = true := decide_eq_true c7
     clear c7
     by_cases c8 : ((rd_T38 l0 x8_1).f0) < a1_0
     rotate_left
     ·rw [if_neg c8] at H
      have c8b0 : decide (((rd_T38 l0 x8_1).f0) < a1_0) = false := decide_eq_false c8
      clear c8
      have H' := zK H
      clear H
      try go_wp2
      have n0_ := zK (kD BK272.out)
      have n1_ := zK (below_drew1 HB.out)
      clear BK272
      clear HB
      have BK272 := n0_
      have HB := n1_
      clear n0_ n1_
      refine start_ (n := 22) (S := fun w' => True) (ds := []) b4A0 (by kernel_rfl) rfl rfl trivial (fun hHeld => ?_); refine with_tabW spec_AddClaim.tab6 spec_AddClaim.bits6 (fun HT_ HW_ => ?_)
      generalize wr.drew = w11 at BK272 HB hHeld ⊢
      refine pI 0 (some 19) b4A1 HT_ ?_
      refine pI 1 (some 20) b4A2 HT_ ?_
      refine pU 2 (some 21) b4A3 HT_ ?_
      refine pU 3 (some 22) b4A4 HT_ ?_
      refine pU 4 (some 23) b4A5 HT_ ?_
      refine pU 5 (some 24) b4A6 HT_ ?_
      refine pU 6 (some 25) b4A7 HT_ ?_
      refine pU 7 (some 26) b4A8 HT_ ?_
      refine pU 8 (some 27) b4A9 HT_ ?_
      refine pU 9 (some 28) b4A10 HT_ ?_
      refine pU 10 (some 29) b4A11 HT_ ?_
      refine pU 11 (some 30) b4A12 HT_ ?_
      refine pU 12 (some 31) b4A13 HT_ ?_
      refine pU 13 (some 32) b4A14 HT_ ?_
      refine pU 14 (some 33) b4A15 HT_ ?_
      refine pU 15 (some 34) b4A16 HT_ ?_
      refine pU 16 (some 35) b4A17 HT_ ?_
      refine pU 17 (some 36) b4A18 HT_ ?_
      refine pU 18 (some 37) b4A19 HT_ ?_
      refine pU 19 (some 38) b4A20 HT_ ?_
      refine pI 20 (some 39) b4A21 HT_ ?_
      refine pI 21 (some 7) b4A22 HT_ ?_
      refine done_ (done_of HT_.out (by kernel_rfl)) ?_
      try go_wp2
      have n0_ := zK (kD BK272.out)
      have n1_ := zK (below_drew1 HB.out)
      clear BK272
      clear HB
      have BK272 := n0_
      have HB := n1_
      clear n0_ n1_
      have p273 : 0 ≤ (x8_1 : Int) := oD m2
      have q273 : x8_1 < (l0.length : Int) := oD m2
      obtain ⟨ad273, e273, hx273_0, hx273_1, hx273_2, hx273_3, hx273_4⟩ := at_T38 HR0.out x8_1 p273 q273
      have hw273_4 := hx273_4
      have hw273_3 := hx273_3
      have hw273_2 := hx273_2
      have hw273_1 := hx273_1
      have hw273_0 := hx273_0
      cases e273
      replace hx273_0 := (HB.out.cell (bL w hx273_0)).trans hx273_0
      replace hx273_1 := (HB.out.cell (bL w hx273_1)).trans hx273_1
      replace hx273_2 := (HB.out.cell (bL w hx273_2)).trans hx273_2
      replace hx273_3 := (HB.out.cell (bL w hx273_3)).trans hx273_3
      replace hx273_4 := (HB.out.cell (bL w hx273_4)).trans hx273_4
      replace p273 := eq_true p273
      replace q273 := eq_true q273
      refine start_ (n := 8) (S := fun w' => w'.cell? ⟨gb272, 0, none⟩ = some (.int .i64 a1_0) ∧ w'.cell? ⟨gb272, 1, none⟩ = some (.int .i64 a1_1) ∧ w'.cell? ⟨gb272, 2, none⟩ = some (.int .i64 a1_2) ∧ w'.cell? ⟨gb272, 3, none⟩ = some (.int .i64 a1_3) ∧ w'.cell? ⟨gb272, 4, none⟩ = some (.int .i64 a1_4) ∧ w'.cell? (ad273.add ((x8_1).toNat * 5)) = some (.int .i64 ((rd_T38 l0 x8_1).f0)) ∧ w'.cell? ⟨(ad273.add ((x8_1).toNat * 5)).block, (ad273.add ((x8_1).toNat * 5)).off + 1, none⟩ = some (.int .i64 ((rd_T38 l0 x8_1).f1)) ∧ w'.cell? ⟨(ad273.add ((x8_1).toNat * 5)).block, (ad273.add ((x8_1).toNat * 5)).off + 2, none⟩ = some (.int .i64 ((rd_T38 l0 x8_1).f2)) ∧ w'.cell? ⟨(ad273.add ((x8_1).toNat * 5)).block, (ad273.add ((x8_1).toNat * 5)).off + 3, none⟩ = some (.int .i64 ((rd_T38 l0 x8_1).f3)) ∧ w'.cell? ⟨(ad273.add ((x8_1).toNat * 5)).block, (ad273.add ((x8_1).toNat * 5)).off + 4, none⟩ = some (.int .i64 ((rd_T38 l0 x8_1).f4))) (ds := []) b4A23 (by kernel_rfl) rfl rfl ⟨(bc BK272.out 0).trans rfl, (bc BK272.out 1).trans rfl, (bc BK272.out 2).trans rfl, (bc BK272.out 3).trans rfl, (bc BK272.out 4).trans rfl, ((HB.out.cell (bL w hw273_0)).trans hw273_0), ((HB.out.cell (bL w hw273_1)).trans hw273_1), ((HB.out.cell (bL w hw273_2)).trans hw273_2), ((HB.out.cell (bL w hw273_3)).trans hw273_3), ((HB.out.cell (bL w hw273_4)).trans hw273_4)⟩ (fun hHeld => ?_); refine with_tabW spec_AddClaim.tab7 spec_AddClaim.bits7 (fun HT_ HW_ => ?_)
      generalize w11.drew = w12 at BK272 HB hx273_0 hx273_1 hx273_2 hx273_3 hx273_4 hHeld ⊢
      refine pI 0 (some 40) b4A24 HT_ ?_
      refine pI 1 (some 41) b4A25 HT_ ?_
      refine pI 2 (some 42) b4A26 HT_ ?_
      refine pI 3 (some 43) b4A27 HT_ ?_
      refine pI 5 (some 45) b4A28 HT_ ?_
      refine tI 4 (some 44) b4A29 HT_ HW_ hHeld rfl rfl (Or.inl ⟨by rfl, by rintro w' ⟨s0, s1, s2, s3, s4, s5, s6, s7, s8, s9⟩; go_simp; with_reducible rfl⟩) ?_
      refine tI 6 (some 46) b4A30 HT_ HW_ hHeld rfl rfl (Or.inl ⟨by rfl, by rintro w' ⟨s0, s1, s2, s3, s4, s5, s6, s7, s8, s9⟩; go_simp; with_reducible rfl⟩) ?_
      refine pI 7 (some 47) b4A31 HT_ ?_
      refine done_ (done_of HT_.out (by kernel_rfl)) ?_
      try go_wp2
      go_roundg k1
      case measure => have := HK1.out; omega
      case rel => exact ⟨(x6_1), (true), (wrap64 (x8_1 + 1)), m9, m9, m9, H', ⟨by have := HK1.out; omega⟩, ⟨by exact qK BK272.out⟩, ⟨by repeat (first | (with_reducible first | exact HB.out | apply bA | apply bN | apply below_drew1 | refine bS ?_ GE272.out) | exact HB.out)⟩⟩
     rw [if_pos c8] at H
     have c8b0 : decide (((rd_T38 l0 x8_1).f0) < a1_0) = true := decide_eq_true c8
     clear c8
     have H' := zK H
     clear H
     try go_wp2
     have n0_ := zK (kD BK272.out)
     have n1_ := zK (below_drew1 HB.out)
     clear BK272
     clear HB
     have BK272 := n0_
     have HB := n1_
     clear n0_ n1_
     refine start_ (n := 22) (S := fun w' => True) (ds := []) b4A0 (by kernel_rfl) rfl rfl trivial (fun hHeld => ?_); refine with_tabW spec_AddClaim.tab6 spec_AddClaim.bits6 (fun HT_ HW_ => ?_)
     generalize wr.drew = w9 at BK272 HB hHeld ⊢
     refine pI 0 (some 19) b4A1 HT_ ?_
     refine pI 1 (some 20) b4A2 HT_ ?_
     refine pU 2 (some 21) b4A3 HT_ ?_
     refine pU 3 (some 22) b4A4 HT_ ?_
     refine pU 4 (some 23) b4A5 HT_ ?_
     refine pU 5 (some 24) b4A6 HT_ ?_
     refine pU 6 (some 25) b4A7 HT_ ?_
     refine pU 7 (some 26) b4A8 HT_ ?_
     refine pU 8 (some 27) b4A9 HT_ ?_
     refine pU 9 (some 28) b4A10 HT_ ?_
     refine pU 10 (some 29) b4A11 HT_ ?_
     refine pU 11 (some 30) b4A12 HT_ ?_
     refine pU 12 (some 31) b4A13 HT_ ?_
     refine pU 13 (some 32) b4A14 HT_ ?_
     refine pU 14 (some 33) b4A15 HT_ ?_
     refine pU 15 (some 34) b4A16 HT_ ?_
     refine pU 16 (some 35) b4A17 HT_ ?_
     refine pU 17 (some 36) b4A18 HT_ ?_
     refine pU 18 (some 37) b4A19 HT_ ?_
     refine pU 19 (some 38) b4A20 HT_ ?_
     refine pI 20 (some 39) b4A21 HT_ ?_
     refine pI 21 (some 7) b4A22 HT_ ?_
     refine done_ (done_of HT_.out (by kernel_rfl)) ?_
     try go_wp2
     have n0_ := zK (kD BK272.out)
     have n1_ := zK (below_drew1 HB.out)
     clear BK272
     clear HB
     have BK272 := n0_
     have HB := n1_
     clear n0_ n1_
     have p273 : 0 ≤ (x8_1 : Int) := oD m2
     have q273 : x8_1 < (l0.length : Int) := oD m2
     obtain ⟨ad273, e273, hx273_0, hx273_1, hx273_2, hx273_3, hx273_4⟩ := at_T38 HR0.out x8_1 p273 q273
     have hw273_4 := hx273_4
     have hw273_3 := hx273_3
     have hw273_2 := hx273_2
     have hw273_1 := hx273_1
     have hw273_0 := hx273_0
     cases e273
     replace hx273_0 := (HB.out.cell (bL w hx273_0)).trans hx273_0
     replace hx273_1 := (HB.out.cell (bL w hx273_1)).trans hx273_1
     replace hx273_2 := (HB.out.cell (bL w hx273_2)).trans hx273_2
     replace hx273_3 := (HB.out.cell (bL w hx273_3)).trans hx273_3
     replace hx273_4 := (HB.out.cell (bL w hx273_4)).trans hx273_4
     replace p273 := eq_true p273
     replace q273 := eq_true q273
     refine start_ (n := 8) (S := fun w' => w'.cell? ⟨gb272, 0, none⟩ = some (.int .i64 a1_0) ∧ w'.cell? ⟨gb272, 1, none⟩ = some (.int .i64 a1_1) ∧ w'.cell? ⟨gb272, 2, none⟩ = some (.int .i64 a1_2) ∧ w'.cell? ⟨gb272, 3, none⟩ = some (.int .i64 a1_3) ∧ w'.cell? ⟨gb272, 4, none⟩ = some (.int .i64 a1_4) ∧ w'.cell? (ad273.add ((x8_1).toNat * 5)) = some (.int .i64 ((rd_T38 l0 x8_1).f0)) ∧ w'.cell? ⟨(ad273.add ((x8_1).toNat * 5)).block, (ad273.add ((x8_1).toNat * 5)).off + 1, none⟩ = some (.int .i64 ((rd_T38 l0 x8_1).f1)) ∧ w'.cell? ⟨(ad273.add ((x8_1).toNat * 5)).block, (ad273.add ((x8_1).toNat * 5)).off + 2, none⟩ = some (.int .i64 ((rd_T38 l0 x8_1).f2)) ∧ w'.cell? ⟨(ad273.add ((x8_1).toNat * 5)).block, (ad273.add ((x8_1).toNat * 5)).off + 3, none⟩ = some (.int .i64 ((rd_T38 l0 x8_1).f3)) ∧ w'.cell? ⟨(ad273.add ((x8_1).toNat * 5)).block, (ad273.add ((x8_1).toNat * 5)).off + 4, none⟩ = some (.int .i64 ((rd_T38 l0 x8_1).f4))) (ds := []) b4A23 (by kernel_rfl) rfl rfl ⟨(bc BK272.out 0).trans rfl, (bc BK272.out 1).trans rfl, (bc BK272.out 2).trans rfl, (bc BK272.out 3).trans rfl, (bc BK272.out 4).trans rfl, ((HB.out.cell (bL w hw273_0)).trans hw273_0), ((HB.out.cell (bL w hw273_1)).trans hw273_1), ((HB.out.cell (bL w hw273_2)).trans hw273_2), ((HB.out.cell (bL w hw273_3)).trans hw273_3), ((HB.out.cell (bL w hw273_4)).trans hw273_4)⟩ (fun hHeld => ?_); refine with_tabW spec_AddClaim.tab7 spec_AddClaim.bits7 (fun HT_ HW_ => ?_)
     generalize w9.drew = w10 at BK272 HB hx273_0 hx273_1 hx273_2 hx273_3 hx273_4 hHeld ⊢
     refine pI 0 (some 40) b4A24 HT_ ?_
     refine pI 1 (some 41) b4A25 HT_ ?_
     refine pI 2 (some 42) b4A26 HT_ ?_
     refine pI 3 (some 43) b4A27 HT_ ?_
     refine pI 5 (some 45) b4A28 HT_ ?_
     refine tI 4 (some 44) b4A29 HT_ HW_ hHeld rfl rfl (Or.inl ⟨by rfl, by rintro w' ⟨s0, s1, s2, s3, s4, s5, s6, s7, s8, s9⟩; go_simp; with_reducible rfl⟩) ?_
     refine tI 6 (some 46) b4A30 HT_ HW_ hHeld rfl rfl (Or.inl ⟨by rfl, by rintro w' ⟨s0, s1, s2, s3, s4, s5, s6, s7, s8, s9⟩; go_simp; with_reducible rfl⟩) ?_
     refine pI 7 (some 47) b4A31 HT_ ?_
     refine done_ (done_of HT_.out (by kernel_rfl)) ?_
     try go_wp2
     go_roundg k1
     case measure => have := HK1.out; omega
     case rel => exact ⟨(wrap64 (x8_1 + 1)), (true), (wrap64 (x8_1 + 1)), m9, m9, m9, H', ⟨by have := HK1.out; omega⟩, ⟨by exact qK BK272.out⟩, ⟨by repeat (first | (with_reducible first | exact HB.out | apply bA | apply bN | apply below_drew1 | refine bS ?_ GE272.out) | exact HB.out)⟩⟩
    replace c6 := Bool.eq_false_iff.mpr c6
    subst c6
    have H1 : (if 0 ≤ x8_1 then (if ((rd_T38 l0 x8_1).f1) = a1_1 then (if ((rd_T38 l0 x8_1).f0) < a1_0 then (spec_AddClaim.l0 k1 l0 (wrap64 (x8_1 + 1)) (((rd_T38 l0 x8_1).f2) == a1_2) (wrap64 (x8_1 + 1)) a1_0 a1_1 a1_2 a1_3 a1_4) else (spec_AddClaim.l0 k1 l0 x6_1 (((rd_T38 l0 x8_1).f2) == a1_2) (wrap64 (x8_1 + 1)) a1_0 a1_1 a1_2 a1_3 a1_4)) else (if ((rd_T38 l0 x8_1).f0) < a1_0 then (spec_AddClaim.l0 k1 l0 (wrap64 (x8_1 + 1)) false (wrap64 (x8_1 + 1)) a1_0 a1_1 a1_2 a1_3 a1_4) else (spec_AddClaim.l0 k1 l0 x6_1 false (wrap64 (x8_1 + 1)) a1_0 a1_1 a1_2 a1_3 a1_4))) else (none)) = some (r1, r2) := by rw [if_neg (show ¬ (false = true) by decide)] at H; exact H
    clear H
    have H := H1
    clear H1
    by_cases c13 : 0 ≤ x8_1
    rotate_left
    ·rw [if_neg c13] at H
     exact absurd H (by simp)
    rw [if_pos c13] at H
    have c13b0 : decide (0 ≤ x8_1) = true := decide_eq_true c13
    clear c13
    by_cases c14 : ((rd_T38 l0 x8_1).f1) = a1_1
    rotate_left
    ·rw [if_neg c14] at H
     have c14b0 : (((rd_T38 l0 x8_1).f1) == a1_1) = false := beq_eq_false_iff_ne.mpr c14
     have c14b1 : (((rd_T38 l0 x8_1).f1) != a1_1) = true := bne_iff_ne.mpr c14
     by_cases c20 : ((rd_T38 l0 x8_1).f0) < a1_0
     rotate_left
     ·rw [if_neg c20] at H
      have c20b0 : decide (((rd_T38 l0 x8_1).f0) < a1_0) = false := decide_eq_false c20
      clear c20
      have H' := zK H
      clear H
      try go_wp2
      have n0_ := zK (kD BK272.out)
      have n1_ := zK (below_drew1 HB.out)
      clear BK272
      clear HB
      have BK272 := n0_
      have HB := n1_
      clear n0_ n1_
      have p274 : 0 ≤ (x8_1 : Int) := oD m2
      have q274 : x8_1 < (l0.length : Int) := oD m2
      obtain ⟨ad274, e274, hx274_0, hx274_1, hx274_2, hx274_3, hx274_4⟩ := at_T38 HR0.out x8_1 p274 q274
      have hw274_4 := hx274_4
      have hw274_3 := hx274_3
      have hw274_2 := hx274_2
      have hw274_1 := hx274_1
      have hw274_0 := hx274_0
      cases e274
      replace hx274_0 := (HB.out.cell (bL w hx274_0)).trans hx274_0
      replace hx274_1 := (HB.out.cell (bL w hx274_1)).trans hx274_1
      replace hx274_2 := (HB.out.cell (bL w hx274_2)).trans hx274_2
      replace hx274_3 := (HB.out.cell (bL w hx274_3)).trans hx274_3
      replace hx274_4 := (HB.out.cell (bL w hx274_4)).trans hx274_4
      replace p274 := eq_true p274
      replace q274 := eq_true q274
      refine start_ (n := 22) (S := fun w' => w'.cell? ⟨gb272, 0, none⟩ = some (.int .i64 a1_0) ∧ w'.cell? ⟨gb272, 1, none⟩ = some (.int .i64 a1_1) ∧ w'.cell? ⟨gb272, 2, none⟩ = some (.int .i64 a1_2) ∧ w'.cell? ⟨gb272, 3, none⟩ = some (.int .i64 a1_3) ∧ w'.cell? ⟨gb272, 4, none⟩ = some (.int .i64 a1_4) ∧ w'.cell? (ad274.add ((x8_1).toNat * 5)) = some (.int .i64 ((rd_T38 l0 x8_1).f0)) ∧ w'.cell? ⟨(ad274.add ((x8_1).toNat * 5)).block, (ad274.add ((x8_1).toNat * 5)).off + 1, none⟩ = some (.int .i64 ((rd_T38 l0 x8_1).f1)) ∧ w'.cell? ⟨(ad274.add ((x8_1).toNat * 5)).block, (ad274.add ((x8_1).toNat * 5)).off + 2, none⟩ = some (.int .i64 ((rd_T38 l0 x8_1).f2)) ∧ w'.cell? ⟨(ad274.add ((x8_1).toNat * 5)).block, (ad274.add ((x8_1).toNat * 5)).off + 3, none⟩ = some (.int .i64 ((rd_T38 l0 x8_1).f3)) ∧ w'.cell? ⟨(ad274.add ((x8_1).toNat * 5)).block, (ad274.add ((x8_1).toNat * 5)).off + 4, none⟩ = some (.int .i64 ((rd_T38 l0 x8_1).f4))) (ds := []) b4A0 (by kernel_rfl) rfl rfl ⟨(bc BK272.out 0).trans rfl, (bc BK272.out 1).trans rfl, (bc BK272.out 2).trans rfl, (bc BK272.out 3).trans rfl, (bc BK272.out 4).trans rfl, ((HB.out.cell (bL w hw274_0)).trans hw274_0), ((HB.out.cell (bL w hw274_1)).trans hw274_1), ((HB.out.cell (bL w hw274_2)).trans hw274_2), ((HB.out.cell (bL w hw274_3)).trans hw274_3), ((HB.out.cell (bL w hw274_4)).trans hw274_4)⟩ (fun hHeld => ?_); refine with_tabW spec_AddClaim.tab6 spec_AddClaim.bits6 (fun HT_ HW_ => ?_)
      generalize wr.drew = w23 at BK272 HB hx274_0 hx274_1 hx274_2 hx274_3 hx274_4 hHeld ⊢
      refine pI 0 (some 19) b4A1 HT_ ?_
      refine pI 1 (some 20) b4A2 HT_ ?_
      refine pI 2 (some 21) b4A3 HT_ ?_
      refine pI 3 (some 22) b4A4 HT_ ?_
      refine pI 4 (some 23) b4A5 HT_ ?_
      refine pI 5 (some 24) b4A6 HT_ ?_
      refine pI 7 (some 26) b4A32 HT_ ?_
      refine tI 6 (some 25) b4A8 HT_ HW_ hHeld rfl rfl (Or.inl ⟨by rfl, by rintro w' ⟨s0, s1, s2, s3, s4, s5, s6, s7, s8, s9⟩; go_simp; with_reducible rfl⟩) ?_
      refine tI 8 (some 27) b4A9 HT_ HW_ hHeld rfl rfl (Or.inl ⟨by rfl, by rintro w' ⟨s0, s1, s2, s3, s4, s5, s6, s7, s8, s9⟩; go_simp; with_reducible rfl⟩) ?_
      refine pI 9 (some 28) b4A10 HT_ ?_
      refine pI 10 (some 29) b4A11 HT_ ?_
      refine pU 11 (some 30) b4A12 HT_ ?_
      refine pU 12 (some 31) b4A13 HT_ ?_
      refine pU 13 (some 32) b4A14 HT_ ?_
      refine pU 14 (some 33) b4A15 HT_ ?_
      refine pU 15 (some 34) b4A16 HT_ ?_
      refine pU 16 (some 35) b4A17 HT_ ?_
      refine pU 17 (some 36) b4A18 HT_ ?_
      refine pU 18 (some 37) b4A19 HT_ ?_
      refine pI 19 (some 38) b4A20 HT_ ?_
      refine pI 20 (some 39) b4A21 HT_ ?_
      refine pI 21 (some 7) b4A22 HT_ ?_
      refine done_ (done_of HT_.out (by kernel_rfl)) ?_
      try go_wp2
      have n0_ := zK (kD BK272.out)
      have n1_ := zK (below_drew1 HB.out)
      clear BK272
      clear HB
      have BK272 := n0_
      have HB := n1_
      clear n0_ n1_
      have p277 : 0 ≤ (x8_1 : Int) := oD m2
      have q277 : x8_1 < (l0.length : Int) := oD m2
      obtain ⟨ad277, e277, hx277_0, hx277_1, hx277_2, hx277_3, hx277_4⟩ := at_T38 HR0.out x8_1 p277 q277
      have hw277_4 := hx277_4
      have hw277_3 := hx277_3
      have hw277_2 := hx277_2
      have hw277_1 := hx277_1
      have hw277_0 := hx277_0
      obtain rfl : ad274 = ad277 := (by injection e277)
      replace hx277_0 := (HB.out.cell (bL w hx277_0)).trans hx277_0
      replace hx277_1 := (HB.out.cell (bL w hx277_1)).trans hx277_1
      replace hx277_2 := (HB.out.cell (bL w hx277_2)).trans hx277_2
      replace hx277_3 := (HB.out.cell (bL w hx277_3)).trans hx277_3
      replace hx277_4 := (HB.out.cell (bL w hx277_4)).trans hx277_4
      replace p277 := eq_true p277
      replace q277 := eq_true q277
      refine start_ (n := 8) (S := fun w' => w'.cell? ⟨gb272, 0, none⟩ = some (.int .i64 a1_0) ∧ w'.cell? ⟨gb272, 1, none⟩ = some (.int .i64 a1_1) ∧ w'.cell? ⟨gb272, 2, none⟩ = some (.int .i64 a1_2) ∧ w'.cell? ⟨gb272, 3, none⟩ = some (.int .i64 a1_3) ∧ w'.cell? ⟨gb272, 4, none⟩ = some (.int .i64 a1_4) ∧ w'.cell? (ad274.add ((x8_1).toNat * 5)) = some (.int .i64 ((rd_T38 l0 x8_1).f0)) ∧ w'.cell? ⟨(ad274.add ((x8_1).toNat * 5)).block, (ad274.add ((x8_1).toNat * 5)).off + 1, none⟩ = some (.int .i64 ((rd_T38 l0 x8_1).f1)) ∧ w'.cell? ⟨(ad274.add ((x8_1).toNat * 5)).block, (ad274.add ((x8_1).toNat * 5)).off + 2, none⟩ = some (.int .i64 ((rd_T38 l0 x8_1).f2)) ∧ w'.cell? ⟨(ad274.add ((x8_1).toNat * 5)).block, (ad274.add ((x8_1).toNat * 5)).off + 3, none⟩ = some (.int .i64 ((rd_T38 l0 x8_1).f3)) ∧ w'.cell? ⟨(ad274.add ((x8_1).toNat * 5)).block, (ad274.add ((x8_1).toNat * 5)).off + 4, none⟩ = some (.int .i64 ((rd_T38 l0 x8_1).f4))) (ds := []) b4A23 (by kernel_rfl) rfl rfl ⟨(bc BK272.out 0).trans rfl, (bc BK272.out 1).trans rfl, (bc BK272.out 2).trans rfl, (bc BK272.out 3).trans rfl, (bc BK272.out 4).trans rfl, ((HB.out.cell (bL w hw277_0)).trans hw277_0), ((HB.out.cell (bL w hw277_1)).trans hw277_1), ((HB.out.cell (bL w hw277_2)).trans hw277_2), ((HB.out.cell (bL w hw277_3)).trans hw277_3), ((HB.out.cell (bL w hw277_4)).trans hw277_4)⟩ (fun hHeld => ?_); refine with_tabW spec_AddClaim.tab7 spec_AddClaim.bits7 (fun HT_ HW_ => ?_)
      generalize w23.drew = w24 at BK272 HB hx277_0 hx277_1 hx277_2 hx277_3 hx277_4 hHeld ⊢
      refine pI 0 (some 40) b4A24 HT_ ?_
      refine pI 1 (some 41) b4A25 HT_ ?_
      refine pI 2 (some 42) b4A26 HT_ ?_
      refine pI 3 (some 43) b4A27 HT_ ?_
      refine pI 5 (some 45) b4A28 HT_ ?_
      refine tI 4 (some 44) b4A29 HT_ HW_ hHeld rfl rfl (Or.inl ⟨by rfl, by rintro w' ⟨s0, s1, s2, s3, s4, s5, s6, s7, s8, s9⟩; go_simp; with_reducible rfl⟩) ?_
      refine tI 6 (some 46) b4A30 HT_ HW_ hHeld rfl rfl (Or.inl ⟨by rfl, by rintro w' ⟨s0, s1, s2, s3, s4, s5, s6, s7, s8, s9⟩; go_simp; with_reducible rfl⟩) ?_
      refine pI 7 (some 47) b4A31 HT_ ?_
      refine done_ (done_of HT_.out (by kernel_rfl)) ?_
      try go_wp2
      go_roundg k1
      case measure => have := HK1.out; omega
      case rel => exact ⟨(x6_1), (false), (wrap64 (x8_1 + 1)), m9, m9, m9, H', ⟨by have := HK1.out; omega⟩, ⟨by exact qK BK272.out⟩, ⟨by repeat (first | (with_reducible first | exact HB.out | apply bA | apply bN | apply below_drew1 | refine bS ?_ GE272.out) | exact HB.out)⟩⟩
     rw [if_pos c20] at H
     have c20b0 : decide (((rd_T38 l0 x8_1).f0) < a1_0) = true := decide_eq_true c20
     clear c20
     have H' := zK H
     clear H
     try go_wp2
     have n0_ := zK (kD BK272.out)
     have n1_ := zK (below_drew1 HB.out)
     clear BK272
     clear HB
     have BK272 := n0_
     have HB := n1_
     clear n0_ n1_
     have p274 : 0 ≤ (x8_1 : Int) := oD m2
     have q274 : x8_1 < (l0.length : Int) := oD m2
     obtain ⟨ad274, e274, hx274_0, hx274_1, hx274_2, hx274_3, hx274_4⟩ := at_T38 HR0.out x8_1 p274 q274
     have hw274_4 := hx274_4
     have hw274_3 := hx274_3
     have hw274_2 := hx274_2
     have hw274_1 := hx274_1
     have hw274_0 := hx274_0
     cases e274
     replace hx274_0 := (HB.out.cell (bL w hx274_0)).trans hx274_0
     replace hx274_1 := (HB.out.cell (bL w hx274_1)).trans hx274_1
     replace hx274_2 := (HB.out.cell (bL w hx274_2)).trans hx274_2
     replace hx274_3 := (HB.out.cell (bL w hx274_3)).trans hx274_3
     replace hx274_4 := (HB.out.cell (bL w hx274_4)).trans hx274_4
     replace p274 := eq_true p274
     replace q274 := eq_true q274
     refine start_ (n := 22) (S := fun w' => w'.cell? ⟨gb272, 0, none⟩ = some (.int .i64 a1_0) ∧ w'.cell? ⟨gb272, 1, none⟩ = some (.int .i64 a1_1) ∧ w'.cell? ⟨gb272, 2, none⟩ = some (.int .i64 a1_2) ∧ w'.cell? ⟨gb272, 3, none⟩ = some (.int .i64 a1_3) ∧ w'.cell? ⟨gb272, 4, none⟩ = some (.int .i64 a1_4) ∧ w'.cell? (ad274.add ((x8_1).toNat * 5)) = some (.int .i64 ((rd_T38 l0 x8_1).f0)) ∧ w'.cell? ⟨(ad274.add ((x8_1).toNat * 5)).block, (ad274.add ((x8_1).toNat * 5)).off + 1, none⟩ = some (.int .i64 ((rd_T38 l0 x8_1).f1)) ∧ w'.cell? ⟨(ad274.add ((x8_1).toNat * 5)).block, (ad274.add ((x8_1).toNat * 5)).off + 2, none⟩ = some (.int .i64 ((rd_T38 l0 x8_1).f2)) ∧ w'.cell? ⟨(ad274.add ((x8_1).toNat * 5)).block, (ad274.add ((x8_1).toNat * 5)).off + 3, none⟩ = some (.int .i64 ((rd_T38 l0 x8_1).f3)) ∧ w'.cell? ⟨(ad274.add ((x8_1).toNat * 5)).block, (ad274.add ((x8_1).toNat * 5)).off + 4, none⟩ = some (.int .i64 ((rd_T38 l0 x8_1).f4))) (ds := []) b4A0 (by kernel_rfl) rfl rfl ⟨(bc BK272.out 0).trans rfl, (bc BK272.out 1).trans rfl, (bc BK272.out 2).trans rfl, (bc BK272.out 3).trans rfl, (bc BK272.out 4).trans rfl, ((HB.out.cell (bL w hw274_0)).trans hw274_0), ((HB.out.cell (bL w hw274_1)).trans hw274_1), ((HB.out.cell (bL w hw274_2)).trans hw274_2), ((HB.out.cell (bL w hw274_3)).trans hw274_3), ((HB.out.cell (bL w hw274_4)).trans hw274_4)⟩ (fun hHeld => ?_); refine with_tabW spec_AddClaim.tab6 spec_AddClaim.bits6 (fun HT_ HW_ => ?_)
     generalize wr.drew = w21 at BK272 HB hx274_0 hx274_1 hx274_2 hx274_3 hx274_4 hHeld ⊢
     refine pI 0 (some 19) b4A1 HT_ ?_
     refine pI 1 (some 20) b4A2 HT_ ?_
     refine pI 2 (some 21) b4A3 HT_ ?_
     refine pI 3 (some 22) b4A4 HT_ ?_
     refine pI 4 (some 23) b4A5 HT_ ?_
     refine pI 5 (some 24) b4A6 HT_ ?_
     refine pI 7 (some 26) b4A32 HT_ ?_
     refine tI 6 (some 25) b4A8 HT_ HW_ hHeld rfl rfl (Or.inl ⟨by rfl, by rintro w' ⟨s0, s1, s2, s3, s4, s5, s6, s7, s8, s9⟩; go_simp; with_reducible rfl⟩) ?_
     refine tI 8 (some 27) b4A9 HT_ HW_ hHeld rfl rfl (Or.inl ⟨by rfl, by rintro w' ⟨s0, s1, s2, s3, s4, s5, s6, s7, s8, s9⟩; go_simp; with_reducible rfl⟩) ?_
     refine pI 9 (some 28) b4A10 HT_ ?_
     refine pI 10 (some 29) b4A11 HT_ ?_
     refine pU 11 (some 30) b4A12 HT_ ?_
     refine pU 12 (some 31) b4A13 HT_ ?_
     refine pU 13 (some 32) b4A14 HT_ ?_
     refine pU 14 (some 33) b4A15 HT_ ?_
     refine pU 15 (some 34) b4A16 HT_ ?_
     refine pU 16 (some 35) b4A17 HT_ ?_
     refine pU 17 (some 36) b4A18 HT_ ?_
     refine pU 18 (some 37) b4A19 HT_ ?_
     refine pI 19 (some 38) b4A20 HT_ ?_
     refine pI 20 (some 39) b4A21 HT_ ?_
     refine pI 21 (some 7) b4A22 HT_ ?_
     refine done_ (done_of HT_.out (by kernel_rfl)) ?_
     try go_wp2
     have n0_ := zK (kD BK272.out)
     have n1_ := zK (below_drew1 HB.out)
     clear BK272
     clear HB
     have BK272 := n0_
     have HB := n1_
     clear n0_ n1_
     have p277 : 0 ≤ (x8_1 : Int) := oD m2
     have q277 : x8_1 < (l0.length : Int) := oD m2
     obtain ⟨ad277, e277, hx277_0, hx277_1, hx277_2, hx277_3, hx277_4⟩ := at_T38 HR0.out x8_1 p277 q277
     have hw277_4 := hx277_4
     have hw277_3 := hx277_3
     have hw277_2 := hx277_2
     have hw277_1 := hx277_1
     have hw277_0 := hx277_0
     obtain rfl : ad274 = ad277 := (by injection e277)
     replace hx277_0 := (HB.out.cell (bL w hx277_0)).trans hx277_0
     replace hx277_1 := (HB.out.cell (bL w hx277_1)).trans hx277_1
     replace hx277_2 := (HB.out.cell (bL w hx277_2)).trans hx277_2
     replace hx277_3 := (HB.out.cell (bL w hx277_3)).trans hx277_3
     replace hx277_4 := (HB.out.cell (bL w hx277_4)).trans hx277_4
     replace p277 := eq_true p277
     replace q277 := eq_true q277
     refine start_ (n := 8) (S := fun w' => w'.cell? ⟨gb272, 0, none⟩ = some (.int .i64 a1_0) ∧ w'.cell? ⟨gb272, 1, none⟩ = some (.int .i64 a1_1) ∧ w'.cell? ⟨gb272, 2, none⟩ = some (.int .i64 a1_2) ∧ w'.cell? ⟨gb272, 3, none⟩ = some (.int .i64 a1_3) ∧ w'.cell? ⟨gb272, 4, none⟩ = some (.int .i64 a1_4) ∧ w'.cell? (ad274.add ((x8_1).toNat * 5)) = some (.int .i64 ((rd_T38 l0 x8_1).f0)) ∧ w'.cell? ⟨(ad274.add ((x8_1).toNat * 5)).block, (ad274.add ((x8_1).toNat * 5)).off + 1, none⟩ = some (.int .i64 ((rd_T38 l0 x8_1).f1)) ∧ w'.cell? ⟨(ad274.add ((x8_1).toNat * 5)).block, (ad274.add ((x8_1).toNat * 5)).off + 2, none⟩ = some (.int .i64 ((rd_T38 l0 x8_1).f2)) ∧ w'.cell? ⟨(ad274.add ((x8_1).toNat * 5)).block, (ad274.add ((x8_1).toNat * 5)).off + 3, none⟩ = some (.int .i64 ((rd_T38 l0 x8_1).f3)) ∧ w'.cell? ⟨(ad274.add ((x8_1).toNat * 5)).block, (ad274.add ((x8_1).toNat * 5)).off + 4, none⟩ = some (.int .i64 ((rd_T38 l0 x8_1).f4))) (ds := []) b4A23 (by kernel_rfl) rfl rfl ⟨(bc BK272.out 0).trans rfl, (bc BK272.out 1).trans rfl, (bc BK272.out 2).trans rfl, (bc BK272.out 3).trans rfl, (bc BK272.out 4).trans rfl, ((HB.out.cell (bL w hw277_0)).trans hw277_0), ((HB.out.cell (bL w hw277_1)).trans hw277_1), ((HB.out.cell (bL w hw277_2)).trans hw277_2), ((HB.out.cell (bL w hw277_3)).trans hw277_3), ((HB.out.cell (bL w hw277_4)).trans hw277_4)⟩ (fun hHeld => ?_); refine with_tabW spec_AddClaim.tab7 spec_AddClaim.bits7 (fun HT_ HW_ => ?_)
     generalize w21.drew = w22 at BK272 HB hx277_0 hx277_1 hx277_2 hx277_3 hx277_4 hHeld ⊢
     refine pI 0 (some 40) b4A24 HT_ ?_
     refine pI 1 (some 41) b4A25 HT_ ?_
     refine pI 2 (some 42) b4A26 HT_ ?_
     refine pI 3 (some 43) b4A27 HT_ ?_
     refine pI 5 (some 45) b4A28 HT_ ?_
     refine tI 4 (some 44) b4A29 HT_ HW_ hHeld rfl rfl (Or.inl ⟨by rfl, by rintro w' ⟨s0, s1, s2, s3, s4, s5, s6, s7, s8, s9⟩; go_simp; with_reducible rfl⟩) ?_
     refine tI 6 (some 46) b4A30 HT_ HW_ hHeld rfl rfl (Or.inl ⟨by rfl, by rintro w' ⟨s0, s1, s2, s3, s4, s5, s6, s7, s8, s9⟩; go_simp; with_reducible rfl⟩) ?_
     refine pI 7 (some 47) b4A31 HT_ ?_
     refine done_ (done_of HT_.out (by kernel_rfl)) ?_
     try go_wp2
     go_roundg k1
     case measure => have := HK1.out; omega
     case rel => exact ⟨(wrap64 (x8_1 + 1)), (false), (wrap64 (x8_1 + 1)), m9, m9, m9, H', ⟨by have := HK1.out; omega⟩, ⟨by exact qK BK272.out⟩, ⟨by repeat (first | (with_reducible first | exact HB.out | apply bA | apply bN | apply below_drew1 | refine bS ?_ GE272.out) | exact HB.out)⟩⟩
    rw [if_pos c14] at H
    have c14b0 : (((rd_T38 l0 x8_1).f1) == a1_1) = true := beq_iff_eq.mpr c14
    have c14b1 : (((rd_T38 l0 x8_1).f1) != a1_1) = false := bne_eq_false_iff_eq.mpr c14
    clear c14
    by_cases c15 : ((rd_T38 l0 x8_1).f0) < a1_0
    rotate_left
    ·rw [if_neg c15] at H
     have c15b0 : decide (((rd_T38 l0 x8_1).f0) < a1_0) = false := decide_eq_false c15
     clear c15
     have H' := zK H
     clear H
     try go_wp2
     have n0_ := zK (kD BK272.out)
     have n1_ := zK (below_drew1 HB.out)
     clear BK272
     clear HB
     have BK272 := n0_
     have HB := n1_
     clear n0_ n1_
     have p274 : 0 ≤ (x8_1 : Int) := oD m2
     have q274 : x8_1 < (l0.length : Int) := oD m2
     obtain ⟨ad274, e274, hx274_0, hx274_1, hx274_2, hx274_3, hx274_4⟩ := at_T38 HR0.out x8_1 p274 q274
     have hw274_4 := hx274_4
     have hw274_3 := hx274_3
     have hw274_2 := hx274_2
     have hw274_1 := hx274_1
     have hw274_0 := hx274_0
     cases e274
     replace hx274_0 := (HB.out.cell (bL w hx274_0)).trans hx274_0
     replace hx274_1 := (HB.out.cell (bL w hx274_1)).trans hx274_1
     replace hx274_2 := (HB.out.cell (bL w hx274_2)).trans hx274_2
     replace hx274_3 := (HB.out.cell (bL w hx274_3)).trans hx274_3
     replace hx274_4 := (HB.out.cell (bL w hx274_4)).trans hx274_4
     replace p274 := eq_true p274
     replace q274 := eq_true q274
     have p275 : 0 ≤ (x8_1 : Int) := oD m2
     have q275 : x8_1 < (l0.length : Int) := oD m2
     obtain ⟨ad275, e275, hx275_0, hx275_1, hx275_2, hx275_3, hx275_4⟩ := at_T38 HR0.out x8_1 p275 q275
     have hw275_4 := hx275_4
     have hw275_3 := hx275_3
     have hw275_2 := hx275_2
     have hw275_1 := hx275_1
     have hw275_0 := hx275_0
     obtain rfl : ad274 = ad275 := (by injection e275)
     replace hx275_0 := (HB.out.cell (bL w hx275_0)).trans hx275_0
     replace hx275_1 := (HB.out.cell (bL w hx275_1)).trans hx275_1
     replace hx275_2 := (HB.out.cell (bL w hx275_2)).trans hx275_2
     replace hx275_3 := (HB.out.cell (bL w hx275_3)).trans hx275_3
     replace hx275_4 := (HB.out.cell (bL w hx275_4)).trans hx275_4
     replace p275 := eq_true p275
     replace q275 := eq_true q275
     refine start_ (n := 22) (S := fun w' => w'.cell? ⟨gb272, 0, none⟩ = some (.int .i64 a1_0) ∧ w'.cell? ⟨gb272, 1, none⟩ = some (.int .i64 a1_1) ∧ w'.cell? ⟨gb272, 2, none⟩ = some (.int .i64 a1_2) ∧ w'.cell? ⟨gb272, 3, none⟩ = some (.int .i64 a1_3) ∧ w'.cell? ⟨gb272, 4, none⟩ = some (.int .i64 a1_4) ∧ w'.cell? (ad274.add ((x8_1).toNat * 5)) = some (.int .i64 ((rd_T38 l0 x8_1).f0)) ∧ w'.cell? ⟨(ad274.add ((x8_1).toNat * 5)).block, (ad274.add ((x8_1).toNat * 5)).off + 1, none⟩ = some (.int .i64 ((rd_T38 l0 x8_1).f1)) ∧ w'.cell? ⟨(ad274.add ((x8_1).toNat * 5)).block, (ad274.add ((x8_1).toNat * 5)).off + 2, none⟩ = some (.int .i64 ((rd_T38 l0 x8_1).f2)) ∧ w'.cell? ⟨(ad274.add ((x8_1).toNat * 5)).block, (ad274.add ((x8_1).toNat * 5)).off + 3, none⟩ = some (.int .i64 ((rd_T38 l0 x8_1).f3)) ∧ w'.cell? ⟨(ad274.add ((x8_1).toNat * 5)).block, (ad274.add ((x8_1).toNat * 5)).off + 4, none⟩ = some (.int .i64 ((rd_T38 l0 x8_1).f4)) ∧ w'.cell? (ad274.add ((x8_1).toNat * 5)) = some (.int .i64 ((rd_T38 l0 x8_1).f0)) ∧ w'.cell? ⟨(ad274.add ((x8_1).toNat * 5)).block, (ad274.add ((x8_1).toNat * 5)).off + 1, none⟩ = some (.int .i64 ((rd_T38 l0 x8_1).f1)) ∧ w'.cell? ⟨(ad274.add ((x8_1).toNat * 5)).block, (ad274.add ((x8_1).toNat * 5)).off + 2, none⟩ = some (.int .i64 ((rd_T38 l0 x8_1).f2)) ∧ w'.cell? ⟨(ad274.add ((x8_1).toNat * 5)).block, (ad274.add ((x8_1).toNat * 5)).off + 3, none⟩ = some (.int .i64 ((rd_T38 l0 x8_1).f3)) ∧ w'.cell? ⟨(ad274.add ((x8_1).toNat * 5)).block, (ad274.add ((x8_1).toNat * 5)).off + 4, none⟩ = some (.int .i64 ((rd_T38 l0 x8_1).f4))) (ds := []) b4A0 (by kernel_rfl) rfl rfl ⟨(bc BK272.out 0).trans rfl, (bc BK272.out 1).trans rfl, (bc BK272.out 2).trans rfl, (bc BK272.out 3).trans rfl, (bc BK272.out 4).trans rfl, ((HB.out.cell (bL w hw274_0)).trans hw274_0), ((HB.out.cell (bL w hw274_1)).trans hw274_1), ((HB.out.cell (bL w hw274_2)).trans hw274_2), ((HB.out.cell (bL w hw274_3)).trans hw274_3), ((HB.out.cell (bL w hw274_4)).trans hw274_4), ((HB.out.cell (bL w hw275_0)).trans hw275_0), ((HB.out.cell (bL w hw275_1)).trans hw275_1), ((HB.out.cell (bL w hw275_2)).trans hw275_2), ((HB.out.cell (bL w hw275_3)).trans hw275_3), ((HB.out.cell (bL w hw275_4)).trans hw275_4)⟩ (fun hHeld => ?_); refine with_tabW spec_AddClaim.tab6 spec_AddClaim.bits6 (fun HT_ HW_ => ?_)
     generalize wr.drew = w18 at BK272 HB hx274_0 hx274_1 hx274_2 hx274_3 hx274_4 hx275_0 hx275_1 hx275_2 hx275_3 hx275_4 hHeld ⊢
     refine pI 0 (some 19) b4A1 HT_ ?_
     refine pI 1 (some 20) b4A2 HT_ ?_
     refine pI 2 (some 21) b4A3 HT_ ?_
     refine pI 3 (some 22) b4A4 HT_ ?_
     refine pI 4 (some 23) b4A5 HT_ ?_
     refine pI 5 (some 24) b4A6 HT_ ?_
     refine pI 7 (some 26) b4A32 HT_ ?_
     refine tI 6 (some 25) b4A8 HT_ HW_ hHeld rfl rfl (Or.inl ⟨by rfl, by rintro w' ⟨s0, s1, s2, s3, s4, s5, s6, s7, s8, s9, s10, s11, s12, s13, s14⟩; go_simp; with_reducible rfl⟩) ?_
     refine tI 8 (some 27) b4A9 HT_ HW_ hHeld rfl rfl (Or.inl ⟨by rfl, by rintro w' ⟨s0, s1, s2, s3, s4, s5, s6, s7, s8, s9, s10, s11, s12, s13, s14⟩; go_simp; with_reducible rfl⟩) ?_
     refine pI 9 (some 28) b4A10 HT_ ?_
     refine pI 10 (some 29) b4A11 HT_ ?_
     refine pI 11 (some 30) b4A12 HT_ ?_
     refine pI 12 (some 31) b4A13 HT_ ?_
     refine pI 13 (some 32) b4A14 HT_ ?_
     refine pI 14 (some 33) b4A15 HT_ ?_
     refine pI 16 (some 35) b4A33 HT_ ?_
     refine tI 15 (some 34) b4A17 HT_ HW_ hHeld rfl rfl (Or.inl ⟨by rfl, by rintro w' ⟨s0, s1, s2, s3, s4, s5, s6, s7, s8, s9, s10, s11, s12, s13, s14⟩; go_simp; with_reducible rfl⟩) ?_
     refine tI 17 (some 36) b4A18 HT_ HW_ hHeld rfl rfl (Or.inl ⟨by rfl, by rintro w' ⟨s0, s1, s2, s3, s4, s5, s6, s7, s8, s9, s10, s11, s12, s13, s14⟩; go_simp; with_reducible rfl⟩) ?_
     refine pI 18 (some 37) b4A19 HT_ ?_
     refine pI 19 (some 38) b4A20 HT_ ?_
     refine pI 20 (some 39) b4A21 HT_ ?_
     refine pI 21 (some 7) b4A22 HT_ ?_
     refine done_ (done_of HT_.out (by kernel_rfl)) ?_
     try go_wp2
     have n0_ := zK (kD BK272.out)
     have n1_ := zK (below_drew1 HB.out)
     clear BK272
     clear HB
     have BK272 := n0_
     have HB := n1_
     clear n0_ n1_
     have p276 : 0 ≤ (x8_1 : Int) := oD m2
     have q276 : x8_1 < (l0.length : Int) := oD m2
     obtain ⟨ad276, e276, hx276_0, hx276_1, hx276_2, hx276_3, hx276_4⟩ := at_T38 HR0.out x8_1 p276 q276
     have hw276_4 := hx276_4
     have hw276_3 := hx276_3
     have hw276_2 := hx276_2
     have hw276_1 := hx276_1
     have hw276_0 := hx276_0
     obtain rfl : ad274 = ad276 := (by injection e276)
     replace hx276_0 := (HB.out.cell (bL w hx276_0)).trans hx276_0
     replace hx276_1 := (HB.out.cell (bL w hx276_1)).trans hx276_1
     replace hx276_2 := (HB.out.cell (bL w hx276_2)).trans hx276_2
     replace hx276_3 := (HB.out.cell (bL w hx276_3)).trans hx276_3
     replace hx276_4 := (HB.out.cell (bL w hx276_4)).trans hx276_4
     replace p276 := eq_true p276
     replace q276 := eq_true q276
     refine start_ (n := 8) (S := fun w' => w'.cell? ⟨gb272, 0, none⟩ = some (.int .i64 a1_0) ∧ w'.cell? ⟨gb272, 1, none⟩ = some (.int .i64 a1_1) ∧ w'.cell? ⟨gb272, 2, none⟩ = some (.int .i64 a1_2) ∧ w'.cell? ⟨gb272, 3, none⟩ = some (.int .i64 a1_3) ∧ w'.cell? ⟨gb272, 4, none⟩ = some (.int .i64 a1_4) ∧ w'.cell? (ad274.add ((x8_1).toNat * 5)) = some (.int .i64 ((rd_T38 l0 x8_1).f0)) ∧ w'.cell? ⟨(ad274.add ((x8_1).toNat * 5)).block, (ad274.add ((x8_1).toNat * 5)).off + 1, none⟩ = some (.int .i64 ((rd_T38 l0 x8_1).f1)) ∧ w'.cell? ⟨(ad274.add ((x8_1).toNat * 5)).block, (ad274.add ((x8_1).toNat * 5)).off + 2, none⟩ = some (.int .i64 ((rd_T38 l0 x8_1).f2)) ∧ w'.cell? ⟨(ad274.add ((x8_1).toNat * 5)).block, (ad274.add ((x8_1).toNat * 5)).off + 3, none⟩ = some (.int .i64 ((rd_T38 l0 x8_1).f3)) ∧ w'.cell? ⟨(ad274.add ((x8_1).toNat * 5)).block, (ad274.add ((x8_1).toNat * 5)).off + 4, none⟩ = some (.int .i64 ((rd_T38 l0 x8_1).f4))) (ds := []) b4A23 (by kernel_rfl) rfl rfl ⟨(bc BK272.out 0).trans rfl, (bc BK272.out 1).trans rfl, (bc BK272.out 2).trans rfl, (bc BK272.out 3).trans rfl, (bc BK272.out 4).trans rfl, ((HB.out.cell (bL w hw276_0)).trans hw276_0), ((HB.out.cell (bL w hw276_1)).trans hw276_1), ((HB.out.cell (bL w hw276_2)).trans hw276_2), ((HB.out.cell (bL w hw276_3)).trans hw276_3), ((HB.out.cell (bL w hw276_4)).trans hw276_4)⟩ (fun hHeld => ?_); refine with_tabW spec_AddClaim.tab7 spec_AddClaim.bits7 (fun HT_ HW_ => ?_)
     generalize w18.drew = w19 at BK272 HB hx276_0 hx276_1 hx276_2 hx276_3 hx276_4 hHeld ⊢
     refine pI 0 (some 40) b4A24 HT_ ?_
     refine pI 1 (some 41) b4A25 HT_ ?_
     refine pI 2 (some 42) b4A26 HT_ ?_
     refine pI 3 (some 43) b4A27 HT_ ?_
     refine pI 5 (some 45) b4A28 HT_ ?_
     refine tI 4 (some 44) b4A29 HT_ HW_ hHeld rfl rfl (Or.inl ⟨by rfl, by rintro w' ⟨s0, s1, s2, s3, s4, s5, s6, s7, s8, s9⟩; go_simp; with_reducible rfl⟩) ?_
     refine tI 6 (some 46) b4A30 HT_ HW_ hHeld rfl rfl (Or.inl ⟨by rfl, by rintro w' ⟨s0, s1, s2, s3, s4, s5, s6, s7, s8, s9⟩; go_simp; with_reducible rfl⟩) ?_
     refine pI 7 (some 47) b4A31 HT_ ?_
     refine done_ (done_of HT_.out (by kernel_rfl)) ?_
     try go_wp2
     go_roundg k1
     case measure => have := HK1.out; omega
     case rel => exact ⟨(x6_1), ((((rd_T38 l0 x8_1).f2) == a1_2)), (wrap64 (x8_1 + 1)), m9, m9, m9, H', ⟨by have := HK1.out; omega⟩, ⟨by exact qK BK272.out⟩, ⟨by repeat (first | (with_reducible first | exact HB.out | apply bA | apply bN | apply below_drew1 | refine bS ?_ GE272.out) | exact HB.out)⟩⟩
    rw [if_pos c15] at H
    have c15b0 : decide (((rd_T38 l0 x8_1).f0) < a1_0) = true := decide_eq_true c15
    clear c15
    have H' := zK H
    clear H
    try go_wp2
    have n0_ := zK (kD BK272.out)
    have n1_ := zK (below_drew1 HB.out)
    clear BK272
    clear HB
    have BK272 := n0_
    have HB := n1_
    clear n0_ n1_
    have p274 : 0 ≤ (x8_1 : Int) := oD m2
    have q274 : x8_1 < (l0.length : Int) := oD m2
    obtain ⟨ad274, e274, hx274_0, hx274_1, hx274_2, hx274_3, hx274_4⟩ := at_T38 HR0.out x8_1 p274 q274
    have hw274_4 := hx274_4
    have hw274_3 := hx274_3
    have hw274_2 := hx274_2
    have hw274_1 := hx274_1
    have hw274_0 := hx274_0
    cases e274
    replace hx274_0 := (HB.out.cell (bL w hx274_0)).trans hx274_0
    replace hx274_1 := (HB.out.cell (bL w hx274_1)).trans hx274_1
    replace hx274_2 := (HB.out.cell (bL w hx274_2)).trans hx274_2
    replace hx274_3 := (HB.out.cell (bL w hx274_3)).trans hx274_3
    replace hx274_4 := (HB.out.cell (bL w hx274_4)).trans hx274_4
    replace p274 := eq_true p274
    replace q274 := eq_true q274
    have p275 : 0 ≤ (x8_1 : Int) := oD m2
    have q275 : x8_1 < (l0.length : Int) := oD m2
    obtain ⟨ad275, e275, hx275_0, hx275_1, hx275_2, hx275_3, hx275_4⟩ := at_T38 HR0.out x8_1 p275 q275
    have hw275_4 := hx275_4
    have hw275_3 := hx275_3
    have hw275_2 := hx275_2
    have hw275_1 := hx275_1
    have hw275_0 := hx275_0
    obtain rfl : ad274 = ad275 := (by injection e275)
    replace hx275_0 := (HB.out.cell (bL w hx275_0)).trans hx275_0
    replace hx275_1 := (HB.out.cell (bL w hx275_1)).trans hx275_1
    replace hx275_2 := (HB.out.cell (bL w hx275_2)).trans hx275_2
    replace hx275_3 := (HB.out.cell (bL w hx275_3)).trans hx275_3
    replace hx275_4 := (HB.out.cell (bL w hx275_4)).trans hx275_4
    replace p275 := eq_true p275
    replace q275 := eq_true q275
    refine start_ (n := 22) (S := fun w' => w'.cell? ⟨gb272, 0, none⟩ = some (.int .i64 a1_0) ∧ w'.cell? ⟨gb272, 1, none⟩ = some (.int .i64 a1_1) ∧ w'.cell? ⟨gb272, 2, none⟩ = some (.int .i64 a1_2) ∧ w'.cell? ⟨gb272, 3, none⟩ = some (.int .i64 a1_3) ∧ w'.cell? ⟨gb272, 4, none⟩ = some (.int .i64 a1_4) ∧ w'.cell? (ad274.add ((x8_1).toNat * 5)) = some (.int .i64 ((rd_T38 l0 x8_1).f0)) ∧ w'.cell? ⟨(ad274.add ((x8_1).toNat * 5)).block, (ad274.add ((x8_1).toNat * 5)).off + 1, none⟩ = some (.int .i64 ((rd_T38 l0 x8_1).f1)) ∧ w'.cell? ⟨(ad274.add ((x8_1).toNat * 5)).block, (ad274.add ((x8_1).toNat * 5)).off + 2, none⟩ = some (.int .i64 ((rd_T38 l0 x8_1).f2)) ∧ w'.cell? ⟨(ad274.add ((x8_1).toNat * 5)).block, (ad274.add ((x8_1).toNat * 5)).off + 3, none⟩ = some (.int .i64 ((rd_T38 l0 x8_1).f3)) ∧ w'.cell? ⟨(ad274.add ((x8_1).toNat * 5)).block, (ad274.add ((x8_1).toNat * 5)).off + 4, none⟩ = some (.int .i64 ((rd_T38 l0 x8_1).f4)) ∧ w'.cell? (ad274.add ((x8_1).toNat * 5)) = some (.int .i64 ((rd_T38 l0 x8_1).f0)) ∧ w'.cell? ⟨(ad274.add ((x8_1).toNat * 5)).block, (ad274.add ((x8_1).toNat * 5)).off + 1, none⟩ = some (.int .i64 ((rd_T38 l0 x8_1).f1)) ∧ w'.cell? ⟨(ad274.add ((x8_1).toNat * 5)).block, (ad274.add ((x8_1).toNat * 5)).off + 2, none⟩ = some (.int .i64 ((rd_T38 l0 x8_1).f2)) ∧ w'.cell? ⟨(ad274.add ((x8_1).toNat * 5)).block, (ad274.add ((x8_1).toNat * 5)).off + 3, none⟩ = some (.int .i64 ((rd_T38 l0 x8_1).f3)) ∧ w'.cell? ⟨(ad274.add ((x8_1).toNat * 5)).block, (ad274.add ((x8_1).toNat * 5)).off + 4, none⟩ = some (.int .i64 ((rd_T38 l0 x8_1).f4))) (ds := []) b4A0 (by kernel_rfl) rfl rfl ⟨(bc BK272.out 0).trans rfl, (bc BK272.out 1).trans rfl, (bc BK272.out 2).trans rfl, (bc BK272.out 3).trans rfl, (bc BK272.out 4).trans rfl, ((HB.out.cell (bL w hw274_0)).trans hw274_0), ((HB.out.cell (bL w hw274_1)).trans hw274_1), ((HB.out.cell (bL w hw274_2)).trans hw274_2), ((HB.out.cell (bL w hw274_3)).trans hw274_3), ((HB.out.cell (bL w hw274_4)).trans hw274_4), ((HB.out.cell (bL w hw275_0)).trans hw275_0), ((HB.out.cell (bL w hw275_1)).trans hw275_1), ((HB.out.cell (bL w hw275_2)).trans hw275_2), ((HB.out.cell (bL w hw275_3)).trans hw275_3), ((HB.out.cell (bL w hw275_4)).trans hw275_4)⟩ (fun hHeld => ?_); refine with_tabW spec_AddClaim.tab6 spec_AddClaim.bits6 (fun HT_ HW_ => ?_)
    generalize wr.drew = w16 at BK272 HB hx274_0 hx274_1 hx274_2 hx274_3 hx274_4 hx275_0 hx275_1 hx275_2 hx275_3 hx275_4 hHeld ⊢
    refine pI 0 (some 19) b4A1 HT_ ?_
    refine pI 1 (some 20) b4A2 HT_ ?_
    refine pI 2 (some 21) b4A3 HT_ ?_
    refine pI 3 (some 22) b4A4 HT_ ?_
    refine pI 4 (some 23) b4A5 HT_ ?_
    refine pI 5 (some 24) b4A6 HT_ ?_
    refine pI 7 (some 26) b4A32 HT_ ?_
    refine tI 6 (some 25) b4A8 HT_ HW_ hHeld rfl rfl (Or.inl ⟨by rfl, by rintro w' ⟨s0, s1, s2, s3, s4, s5, s6, s7, s8, s9, s10, s11, s12, s13, s14⟩; go_simp; with_reducible rfl⟩) ?_
    refine tI 8 (some 27) b4A9 HT_ HW_ hHeld rfl rfl (Or.inl ⟨by rfl, by rintro w' ⟨s0, s1, s2, s3, s4, s5, s6, s7, s8, s9, s10, s11, s12, s13, s14⟩; go_simp; with_reducible rfl⟩) ?_
    refine pI 9 (some 28) b4A10 HT_ ?_
    refine pI 10 (some 29) b4A11 HT_ ?_
    refine pI 11 (some 30) b4A12 HT_ ?_
    refine pI 12 (some 31) b4A13 HT_ ?_
    refine pI 13 (some 32) b4A14 HT_ ?_
    refine pI 14 (some 33) b4A15 HT_ ?_
    refine pI 16 (some 35) b4A33 HT_ ?_
    refine tI 15 (some 34) b4A17 HT_ HW_ hHeld rfl rfl (Or.inl ⟨by rfl, by rintro w' ⟨s0, s1, s2, s3, s4, s5, s6, s7, s8, s9, s10, s11, s12, s13, s14⟩; go_simp; with_reducible rfl⟩) ?_
    refine tI 17 (some 36) b4A18 HT_ HW_ hHeld rfl rfl (Or.inl ⟨by rfl, by rintro w' ⟨s0, s1, s2, s3, s4, s5, s6, s7, s8, s9, s10, s11, s12, s13, s14⟩; go_simp; with_reducible rfl⟩) ?_
    refine pI 18 (some 37) b4A19 HT_ ?_
    refine pI 19 (some 38) b4A20 HT_ ?_
    refine pI 20 (some 39) b4A21 HT_ ?_
    refine pI 21 (some 7) b4A22 HT_ ?_
    refine done_ (done_of HT_.out (by kernel_rfl)) ?_
    try go_wp2
    have n0_ := zK (kD BK272.out)
    have n1_ := zK (below_drew1 HB.out)
    clear BK272
    clear HB
    have BK272 := n0_
    have HB := n1_
    clear n0_ n1_
    have p276 : 0 ≤ (x8_1 : Int) := oD m2
    have q276 : x8_1 < (l0.length : Int) := oD m2
    obtain ⟨ad276, e276, hx276_0, hx276_1, hx276_2, hx276_3, hx276_4⟩ := at_T38 HR0.out x8_1 p276 q276
    have hw276_4 := hx276_4
    have hw276_3 := hx276_3
    have hw276_2 := hx276_2
    have hw276_1 := hx276_1
    have hw276_0 := hx276_0
    obtain rfl : ad274 = ad276 := (by injection e276)
    replace hx276_0 := (HB.out.cell (bL w hx276_0)).trans hx276_0
    replace hx276_1 := (HB.out.cell (bL w hx276_1)).trans hx276_1
    replace hx276_2 := (HB.out.cell (bL w hx276_2)).trans hx276_2
    replace hx276_3 := (HB.out.cell (bL w hx276_3)).trans hx276_3
    replace hx276_4 := (HB.out.cell (bL w hx276_4)).trans hx276_4
    replace p276 := eq_true p276
    replace q276 := eq_true q276
    refine start_ (n := 8) (S := fun w' => w'.cell? ⟨gb272, 0, none⟩ = some (.int .i64 a1_0) ∧ w'.cell? ⟨gb272, 1, none⟩ = some (.int .i64 a1_1) ∧ w'.cell? ⟨gb272, 2, none⟩ = some (.int .i64 a1_2) ∧ w'.cell? ⟨gb272, 3, none⟩ = some (.int .i64 a1_3) ∧ w'.cell? ⟨gb272, 4, none⟩ = some (.int .i64 a1_4) ∧ w'.cell? (ad274.add ((x8_1).toNat * 5)) = some (.int .i64 ((rd_T38 l0 x8_1).f0)) ∧ w'.cell? ⟨(ad274.add ((x8_1).toNat * 5)).block, (ad274.add ((x8_1).toNat * 5)).off + 1, none⟩ = some (.int .i64 ((rd_T38 l0 x8_1).f1)) ∧ w'.cell? ⟨(ad274.add ((x8_1).toNat * 5)).block, (ad274.add ((x8_1).toNat * 5)).off + 2, none⟩ = some (.int .i64 ((rd_T38 l0 x8_1).f2)) ∧ w'.cell? ⟨(ad274.add ((x8_1).toNat * 5)).block, (ad274.add ((x8_1).toNat * 5)).off + 3, none⟩ = some (.int .i64 ((rd_T38 l0 x8_1).f3)) ∧ w'.cell? ⟨(ad274.add ((x8_1).toNat * 5)).block, (ad274.add ((x8_1).toNat * 5)).off + 4, none⟩ = some (.int .i64 ((rd_T38 l0 x8_1).f4))) (ds := []) b4A23 (by kernel_rfl) rfl rfl ⟨(bc BK272.out 0).trans rfl, (bc BK272.out 1).trans rfl, (bc BK272.out 2).trans rfl, (bc BK272.out 3).trans rfl, (bc BK272.out 4).trans rfl, ((HB.out.cell (bL w hw276_0)).trans hw276_0), ((HB.out.cell (bL w hw276_1)).trans hw276_1), ((HB.out.cell (bL w hw276_2)).trans hw276_2), ((HB.out.cell (bL w hw276_3)).trans hw276_3), ((HB.out.cell (bL w hw276_4)).trans hw276_4)⟩ (fun hHeld => ?_); refine with_tabW spec_AddClaim.tab7 spec_AddClaim.bits7 (fun HT_ HW_ => ?_)
    generalize w16.drew = w17 at BK272 HB hx276_0 hx276_1 hx276_2 hx276_3 hx276_4 hHeld ⊢
    refine pI 0 (some 40) b4A24 HT_ ?_
    refine pI 1 (some 41) b4A25 HT_ ?_
    refine pI 2 (some 42) b4A26 HT_ ?_
    refine pI 3 (some 43) b4A27 HT_ ?_
    refine pI 5 (some 45) b4A28 HT_ ?_
    refine tI 4 (some 44) b4A29 HT_ HW_ hHeld rfl rfl (Or.inl ⟨by rfl, by rintro w' ⟨s0, s1, s2, s3, s4, s5, s6, s7, s8, s9⟩; go_simp; with_reducible rfl⟩) ?_
    refine tI 6 (some 46) b4A30 HT_ HW_ hHeld rfl rfl (Or.inl ⟨by rfl, by rintro w' ⟨s0, s1, s2, s3, s4, s5, s6, s7, s8, s9⟩; go_simp; with_reducible rfl⟩) ?_
    refine pI 7 (some 47) b4A31 HT_ ?_
    refine done_ (done_of HT_.out (by kernel_rfl)) ?_
    try go_wp2
    go_roundg k1
    case measure => have := HK1.out; omega
    case rel => exact ⟨(wrap64 (x8_1 + 1)), ((((rd_T38 l0 x8_1).f2) == a1_2)), (wrap64 (x8_1 + 1)), m9, m9, m9, H', ⟨by have := HK1.out; omega⟩, ⟨by exact qK BK272.out⟩, ⟨by repeat (first | (with_reducible first | exact HB.out | apply bA | apply bN | apply below_drew1 | refine bS ?_ GE272.out) | exact HB.out)⟩⟩
   rw [if_neg c5] at H
   have c5b0 : decide (x8_1 < (l0.length : Int)) = false := decide_eq_false c5
   clear c5
   obtain ⟨y278, hy278⟩ : ∃ y_ : List (S38), y_ = (([] : List (S38))) := ⟨_, rfl⟩
   replace H : (if 0 ≤ x6_1 then (if x6_1 ≤ (l0.length : Int) then ((some (l0.take (x6_1 : Int).toNat : List (S38))).bind fun y281 => (if y278.length + y281.length < 3518437208883 then ((some (y278 ++ y281 : List (S38))).bind fun y285 => ((some (([(⟨a1_0, a1_1, a1_2, a1_3, a1_4⟩ : S38)] : List (S38)) : List (S38))).bind fun y288 => (if y285.length + y288.length < 3518437208883 then ((some (y285 ++ y288 : List (S38))).bind fun y291 => ((some (l0.drop (x6_1 : Int).toNat : List (S38))).bind fun y294 => (if y291.length + y294.length < 3518437208883 then ((some (y291 ++ y294 : List (S38))).bind fun y298 => (if x7_1 = true then ((some (([] : List (S38)) : List (S38))).bind fun y301 => (if y301.length + l0.length < 3518437208883 then (some ((y301 ++ l0), false)) else (none))) else ((spec_AreClaims.f k1 y298).bind fun t307 => (if t307 = true then (some (y298, true)) else ((some (([] : List (S38)) : List (S38))).bind fun y308 => (if y308.length + l0.length < 3518437208883 then (some ((y308 ++ l0), false)) else (none))))))) else (none)))) else (none)))) else (none))) else (none)) else (none)) = some (r1, r2) := by first | (rw [hy278]; with_reducible exact H) | (have H2_ := (Option.bind_some _ _).symm.trans H; rw [hy278]; with_reducible exact H2_) | (have H2_ := (Option.bind_some _ _).symm.trans H; with_reducible exact H2_) | with_reducible exact H | (rw [hy278]; exact H) | exact H
   have Ny278 := zK hy278
   clear hy278
   by_cases c25 : 0 ≤ x6_1
   rotate_left
   ·rw [if_neg c25] at H
    exact absurd H (by simp)

   rw [if_pos c25] at H
   have c25b0 := eq_true c25
   have c25b1 : decide (0 ≤ x6_1) = true := decide_eq_true c25
   clear c25
   by_cases c26 : x6_1 ≤ (l0.length : Int)
   rotate_left
   ·rw [if_neg c26] at H
    exact absurd H (by simp)
   rw [if_pos c26] at H
   have c26b0 := eq_true c26
   have c26b1 : decide (x6_1 ≤ (l0.length : Int)) = true := decide_eq_true c26
   clear c26
   obtain ⟨y281, hy281⟩ : ∃ y_ : List (S38), y_ = (l0.take (x6_1 : Int).toNat) := ⟨_, rfl⟩
   replace H : (if y278.length + y281.length < 3518437208883 then ((some (y278 ++ y281 : List (S38))).bind fun y285 => ((some (([(⟨a1_0, a1_1, a1_2, a1_3, a1_4⟩ : S38)] : List (S38)) : List (S38))).bind fun y288 => (if y285.length + y288.length < 3518437208883 then ((some (y285 ++ y288 : List (S38))).bind fun y291 => ((some (l0.drop (x6_1 : Int).toNat : List (S38))).bind fun y294 => (if y291.length + y294.length < 3518437208883 then ((some (y291 ++ y294 : List (S38))).bind fun y298 => (if x7_1 = true then ((some (([] : List (S38)) : List (S38))).bind fun y301 => (if y301.length + l0.length < 3518437208883 then (some ((y301 ++ l0), false)) else (none))) else ((spec_AreClaims.f k1 y298).bind fun t307 => (if t307 = true then (some (y298, true)) else ((some (([] : List (S38)) : List (S38))).bind fun y308 => (if y308.length + l0.length < 3518437208883 then (some ((y308 ++ l0), false)) else (none))))))) else (none)))) else (none)))) else (none)) = some (r1, r2) := by first | (rw [hy281]; with_reducible exact H) | (have H2_ := (Option.bind_some _ _).symm.trans H; rw [hy281]; with_reducible exact H2_) | (have H2_ := (Option.bind_some _ _).symm.trans H; with_reducible exact H2_) | with_reducible exact H | (rw [hy281]; exact H) | exact H
   have Ny281 := zK hy281
   clear hy281
   by_cases c27 : y278.length + y281.length < 3518437208883
   rotate_left
   ·rw [if_neg c27] at H
    exact absurd H (by simp)
   rw [if_pos c27] at H
   have LMc27 := zK c27
   clear c27
   obtain ⟨y285, hy285⟩ : ∃ y_ : List (S38), y_ = (y278 ++ y281) := ⟨_, rfl⟩
   replace H : ((some (([(⟨a1_0, a1_1, a1_2, a1_3, a1_4⟩ : S38)] : List (S38)) : List (S38))).bind fun y288 => (if y285.length + y288.length < 3518437208883 then ((some (y285 ++ y288 : List (S38))).bind fun y291 => ((some (l0.drop (x6_1 : Int).toNat : List (S38))).bind fun y294 => (if y291.length + y294.length < 3518437208883 then ((some (y291 ++ y294 : List (S38))).bind fun y298 => (if x7_1 = true then ((some (([] : List (S38)) : List (S38))).bind fun y301 => (if y301.length + l0.length < 3518437208883 then (some ((y301 ++ l0), false)) else (none))) else ((spec_AreClaims.f k1 y298).bind fun t307 => (if t307 = true then (some (y298, true)) else ((some (([] : List (S38)) : List (S38))).bind fun y308 => (if y308.length + l0.length < 3518437208883 then (some ((y308 ++ l0), false)) else (none))))))) else (none)))) else (none))) = some (r1, r2) := by first | (rw [hy285]; with_reducible exact H) | (have H2_ := (Option.bind_some _ _).symm.trans H; rw [hy285]; with_reducible exact H2_) | (have H2_ := (Option.bind_some _ _).symm.trans H; with_reducible exact H2_) | with_reducible exact H | (rw [hy285]; exact H) | exact H
   have Ny285 := zK hy285
   clear hy285
   obtain ⟨y288, hy288⟩ : ∃ y_ : List (S38), y_ = (([(⟨a1_0, a1_1, a1_2, a1_3, a1_4⟩ : S38)] : List (S38))) := ⟨_, rfl⟩
   replace H : (if y285.length + y288.length < 3518437208883 then ((some (y285 ++ y288 : List (S38))).bind fun y291 => ((some (l0.drop (x6_1 : Int).toNat : List (S38))).bind fun y294 => (if y291.length + y294.length < 3518437208883 then ((some (y291 ++ y294 : List (S38))).bind fun y298 => (if x7_1 = true then ((some (([] : List (S38)) : List (S38))).bind fun y301 => (if y301.length + l0.length < 3518437208883 then (some ((y301 ++ l0), false)) else (none))) else ((spec_AreClaims.f k1 y298).bind fun t307 => (if t307 = true then (some (y298, true)) else ((some (([] : List (S38)) : List (S38))).bind fun y308 => (if y308.length + l0.length < 3518437208883 then (some ((y308 ++ l0), false)) else (none))))))) else (none)))) else (none)) = some (r1, r2) := by first | (rw [hy288]; with_reducible exact H) | (have H2_ := (Option.bind_some _ _).symm.trans H; rw [hy288]; with_reducible exact H2_) | (have H2_ := (Option.bind_some _ _).symm.trans H; with_reducible exact H2_) | with_reducible exact H | (rw [hy288]; exact H) | exact H
   have Ny288 := zK hy288
   clear hy288
   by_cases c28 : y285.length + y288.length < 3518437208883
   rotate_left
   ·rw [if_neg c28] at H
    exact absurd H (by simp)
   rw [if_pos c28] at H
   have LMc28 := zK c28
   clear c28
   obtain ⟨y291, hy291⟩ : ∃ y_ : List (S38), y_ = (y285 ++ y288) := ⟨_, rfl⟩
   replace H : ((some (l0.drop (x6_1 : Int).toNat : List (S38))).bind fun y294 => (if y291.length + y294.length < 3518437208883 then ((some (y291 ++ y294 : List (S38))).bind fun y298 => (if x7_1 = true then ((some (([] : List (S38)) : List (S38))).bind fun y301 => (if y301.length + l0.length < 3518437208883 then (some ((y301 ++ l0), false)) else (none))) else ((spec_AreClaims.f k1 y298).bind fun t307 => (if t307 = true then (some (y298, true)) else ((some (([] : List (S38)) : List (S38))).bind fun y308 => (if y308.length + l0.length < 3518437208883 then (some ((y308 ++ l0), false)) else (none))))))) else (none))) = some (r1, r2) := by first | (rw [hy291]; with_reducible exact H) | (have H2_ := (Option.bind_some _ _).symm.trans H; rw [hy291]; with_reducible exact H2_) | (have H2_ := (Option.bind_some _ _).symm.trans H; with_reducible exact H2_) | with_reducible exact H | (rw [hy291]; exact H) | exact H
   have Ny291 := zK hy291
   clear hy291
   have c29b0 := eq_true (oD m2 : 0 ≤ x6_1)
   have c30b0 := eq_true (oD m2 : x6_1 ≤ (l0.length : Int))
   obtain ⟨y294, hy294⟩ : ∃ y_ : List (S38), y_ = (l0.drop (x6_1 : Int).toNat) := ⟨_, rfl⟩
   replace H : (if y291.length + y294.length < 3518437208883 then ((some (y291 ++ y294 : List (S38))).bind fun y298 => (if x7_1 = true then ((some (([] : List (S38)) : List (S38))).bind fun y301 => (if y301.length + l0.length < 3518437208883 then (some ((y301 ++ l0), false)) else (none))) else ((spec_AreClaims.f k1 y298).bind fun t307 => (if t307 = true then (some (y298, true)) else ((some (([] : List (S38)) : List (S38))).bind fun y308 => (if y308.length + l0.length < 3518437208883 then (some ((y308 ++ l0), false)) else (none))))))) else (none)) = some (r1, r2) := by first | (rw [hy294]; with_reducible exact H) | (have H2_ := (Option.bind_some _ _).symm.trans H; rw [hy294]; with_reducible exact H2_) | (have H2_ := (Option.bind_some _ _).symm.trans H; with_reducible exact H2_) | with_reducible exact H | (rw [hy294]; exact H) | exact H
   have Ny294 := zK hy294
   clear hy294
   by_cases c31 : y291.length + y294.length < 3518437208883
   rotate_left
   ·rw [if_neg c31] at H
    exact absurd H (by simp)
   rw [if_pos c31] at H
   have LMc31 := zK c31
   clear c31
   obtain ⟨y298, hy298⟩ : ∃ y_ : List (S38), y_ = (y291 ++ y294) := ⟨_, rfl⟩
   replace H : (if x7_1 = true then ((some (([] : List (S38)) : List (S38))).bind fun y301 => (if y301.length + l0.length < 3518437208883 then (some ((y301 ++ l0), false)) else (none))) else ((spec_AreClaims.f k1 y298).bind fun t307 => (if t307 = true then (some (y298, true)) else ((some (([] : List (S38)) : List (S38))).bind fun y308 => (if y308.length + l0.length < 3518437208883 then (some ((y308 ++ l0), false)) else (none)))))) = some (r1, r2) := by first | (rw [hy298]; with_reducible exact H) | (have H2_ := (Option.bind_some _ _).symm.trans H; rw [hy298]; with_reducible exact H2_) | (have H2_ := (Option.bind_some _ _).symm.trans H; with_reducible exact H2_) | with_reducible exact H | (rw [hy298]; exact H) | exact H
   have Ny298 := zK hy298
   clear hy298
   by_cases c32 : x7_1 = true
   ·subst c32
    have H1 : ((some (([] : List (S38)) : List (S38))).bind fun y301 => (if y301.length + l0.length < 3518437208883 then (some ((y301 ++ l0), false)) else (none))) = some (r1, r2) := by rw [if_pos rfl] at H; exact H
    clear H
    have H := H1
    clear H1
    obtain ⟨y301, hy301⟩ : ∃ y_ : List (S38), y_ = (([] : List (S38))) := ⟨_, rfl⟩
    replace H : (if y301.length + l0.length < 3518437208883 then (some ((y301 ++ l0), false)) else (none)) = some (r1, r2) := by first | (rw [hy301]; with_reducible exact H) | (have H2_ := (Option.bind_some _ _).symm.trans H; rw [hy301]; with_reducible exact H2_) | (have H2_ := (Option.bind_some _ _).symm.trans H; with_reducible exact H2_) | with_reducible exact H | (rw [hy301]; exact H) | exact H
    have Ny301 := zK hy301
    clear hy301
    by_cases c33 : y301.length + l0.length < 3518437208883
    rotate_left
    ·rw [if_neg c33] at H
     exact absurd H (by simp)
    rw [if_pos c33] at H
    have LMc33 := zK c33
    clear c33
    obtain ⟨y304, hy304⟩ : ∃ y_ : List (S38), y_ = (y301 ++ l0) := ⟨_, rfl⟩
    replace H : (some (y304, false)) = some (r1, r2) := by first | (rw [hy304]; with_reducible exact H) | (have H2_ := (Option.bind_some _ _).symm.trans H; rw [hy304]; with_reducible exact H2_) | (have H2_ := (Option.bind_some _ _).symm.trans H; with_reducible exact H2_) | with_reducible exact H | (rw [hy304]; exact H) | exact H
    have Ny304 := zK hy304
    clear hy304
    simp only [Option.some.injEq, Prod.mk.injEq] at H
    obtain ⟨rfl, rfl⟩ := H
    try go_wp2
    have n0_ := zK (kD BK272.out)
    have n1_ := zK (below_drew1 HB.out)
    clear BK272
    clear HB
    have BK272 := n0_
    have HB := n1_
    clear n0_ n1_
    have q35 : (x6_1 : Int) ≤ ((l0.length : Int) : Int) := oD m2
    obtain ⟨i035, hi035, _, hsz35, _⟩ := info_parts info38
    have hroom35 : l0.length ≤ c0 := HC0.out
    have hC35 : Kd.C k38 _ A0 l0.length l0 := HR0.out
    have hcut35 := cut_to (P := Try.prog) 30 38 .i64 Try.underlying30 hi035 A0 l0.length c0 x6_1 (oD m2) q35 hroom35
    have hr35 := Kd.C_take (m := (x6_1 : Int).toNat) hC35 (by omega)
    have hy35 : y281.length = (x6_1 : Int).toNat := (by rw [Ny281.out, List.length_take]; omega)
    rw [← Ny281.out] at hr35
    rw [← hy35] at hcut35
    have HR284 := zK hr35
    have HC284 := zK (show y281.length ≤ c0 from by omega)
    clear hr35 hC35 hroom35 hi035 hsz35
    have KY35 := zK hy35
    clear hy35
    replace q35 := eq_true q35
    have q36 : (x6_1 : Int) ≤ ((l0.length : Int) : Int) := oD m2
    obtain ⟨i036, hi036, _, hsz36, _⟩ := info_parts info38
    have hroom36 : l0.length ≤ c0 := HC0.out
    have hC36 : Kd.C k38 _ A0 l0.length l0 := HR0.out
    have q036 : (0 : Int) ≤ (x6_1 : Int) := oD m2
    have hcut36 := cut_from (P := Try.prog) 30 38 .i64 Try.underlying30 hi036 5 hsz36 A0 l0.length c0 x6_1 q036 q36
    have hr36 := Kd.C_drop (m := (x6_1 : Int).toNat) (c := c0) hC36 (by omega) hroom36
    obtain ⟨A36, hA36⟩ : ∃ A1, A1 = (if c0 = (x6_1 : Int).toNat then A0 else (A0 : Option Addr).map (·.add ((x6_1 : Int).toNat * 5))) := ⟨_, rfl⟩
    obtain ⟨c36, hc36⟩ : ∃ c1, c1 = c0 - (x6_1 : Int).toNat := ⟨_, rfl⟩
    have hy36 : y294.length = l0.length - (x6_1 : Int).toNat := (by rw [Ny294.out, List.length_drop] <;> omega)
    rw [show (l0).drop (x6_1 : Int).toNat = y294 from Ny294.out.symm] at hr36
    replace hr36 : Kd.C k38 _ A36 y294.length y294 := (by rw [hA36]; exact hr36)
    rw [← hy36, ← hA36, ← hc36] at hcut36
    have HR297 := zK hr36
    have HC297 := zK (show y294.length ≤ c36 from by rw [hy36, hc36]; exact Nat.sub_le_sub_right hroom36 _)
    clear hr36 hC36 hroom36 hi036 hsz36 hc36
    have KY36 := zK hy36
    have KA36 := zK hA36
    clear hy36 hA36
    replace q36 := eq_true q36
    refine start_ (n := 13) (S := fun w' => w'.cell? ⟨gb272, 0, none⟩ = some (.int .i64 a1_0) ∧ w'.cell? ⟨gb272, 1, none⟩ = some (.int .i64 a1_1) ∧ w'.cell? ⟨gb272, 2, none⟩ = some (.int .i64 a1_2) ∧ w'.cell? ⟨gb272, 3, none⟩ = some (.int .i64 a1_3) ∧ w'.cell? ⟨gb272, 4, none⟩ = some (.int .i64 a1_4)) (ds := []) b4A34 (by kernel_rfl) rfl rfl ⟨(bc BK272.out 0).trans rfl, (bc BK272.out 1).trans rfl, (bc BK272.out 2).trans rfl, (bc BK272.out 3).trans rfl, (bc BK272.out 4).trans rfl⟩ (fun hHeld => ?_); refine with_tabW spec_AddClaim.tab9 spec_AddClaim.bits9 (fun HT_ HW_ => ?_)
    generalize wr.drew = w34 at BK272 HB HR284 HR297 hHeld ⊢
    refine pI 1 (some 51) b4A35 HT_ ?_
    refine pI 2 (some 52) b4A36 HT_ ?_
    refine pI 3 (some 53) b4A37 HT_ ?_
    refine pI 8 (some 58) b4A38 HT_ ?_
    refine pI 9 (some 59) b4A39 HT_ ?_
    refine pI 10 (some 60) b4A40 HT_ ?_
    refine tI 5 (some 55) b4A41 HT_ HW_ hHeld rfl rfl (Or.inl ⟨by rfl, by rintro w' ⟨s0, s1, s2, s3, s4⟩; go_simp; with_reducible rfl⟩) ?_
    refine join_ (σ := Value × Value × Value) 3 b4A42 (fun s_ => [(50, s_.1), (54, s_.2.1), (56, s_.2.2)]) (fun s_ w' => (w'.cell? ⟨gb272, 0, none⟩ = some (.int .i64 a1_0) ∧ w'.cell? ⟨gb272, 1, none⟩ = some (.int .i64 a1_1) ∧ w'.cell? ⟨gb272, 2, none⟩ = some (.int .i64 a1_2) ∧ w'.cell? ⟨gb272, 3, none⟩ = some (.int .i64 a1_3) ∧ w'.cell? ⟨gb272, 4, none⟩ = some (.int .i64 a1_4)) ∧ (Kd.R k38 38 w' w.heap.size (fun k_ => some k_ ≠ (s_.2.2 : Value).ownBlock ∧ k_ ≠ gb272) s_.2.1 y285) ∧ (Kd.R k38 38 w' w.heap.size (fun k_ => some k_ ≠ (s_.2.1 : Value).ownBlock ∧ k_ ≠ gb272) s_.2.2 y288) ∧ (w'.heap[gb272]? = some (.cells #[.int .i64 a1_0, .int .i64 a1_1, .int .i64 a1_2, .int .i64 a1_3, .int .i64 a1_4] 38 (0, 0))) ∧ (Below w.heap.size w w')) ?_ ?_
    rotate_left
    ·intro hCont
     refine two_ (i := 0) (j := 6) (Ni := some 50) (Nj := some 56) b4A43 b4A44 rfl rfl rfl rfl (two_of HT_.out (by kernel_rfl)) (by decide) (by decide) (fun K hK => ?_) (fun K hK => ?_)
     rotate_left
     ·skip
      refine Kd.R_lit_step k38 _ 38 ?hg (N := 56) ?hd (xs := ([(⟨a1_0, a1_1, a1_2, a1_3, a1_4⟩ : S38)] : List (S38))) (inner := [.int .i64 a1_0, .int .i64 a1_1, .int .i64 a1_2, .int .i64 a1_3, .int .i64 a1_4]) (ok := fun _ => True) (okp := fun _ => True) ?hr ?hp (fun _ hk => hk) trivial (Below.refl _ _) (Nat.le_refl _) (by simp) ?_; (case hd => rfl); (case hg => rfl); (case hr => first | (go_simp; done) | (go_simp; rfl)); (case hp => exact (Reps.c5 (show Kd.M k38 _ _ _ (⟨a1_0, a1_1, a1_2, a1_3, a1_4⟩ : S38) [.int .i64 a1_0, .int .i64 a1_1, .int .i64 a1_2, .int .i64 a1_3, .int .i64 a1_4] from (k38_mkM _ _ _ (⟨a1_0, a1_1, a1_2, a1_3, a1_4⟩ : S38) )) (Reps.none _ _)))
      intro v289 w37 ho38 hb hg_ hnew_
      clear hg_ hnew_
      (first | rw [← Ny288.out] at ho38 | (simp only [Int.reduceToNat] at ho38; rw [← Ny288.out] at ho38))
      have n0_ := zK (Kd.R_lower (Kd.R_newB ho38 (g := gb272) (o := .cells #[.int .i64 a1_0, .int .i64 a1_1, .int .i64 a1_2, .int .i64 a1_3, .int .i64 a1_4] 38 (0, 0)) (qK BK272.out)) (bZ m3))
      have n1_ := zK (bB (g := gb272) (o := .cells #[.int .i64 a1_0, .int .i64 a1_1, .int .i64 a1_2, .int .i64 a1_3, .int .i64 a1_4] 38 (0, 0)) (qK BK272.out) hb)
      have n2_ := zK (bT m3 hb)
      clear BK272
      clear HB
      have HO290 := n0_
      have BK272 := n1_
      have HB := n2_
      clear n0_ n1_ n2_
      clear hb ho38
      refine hK.out _ _ ⟨(bc BK272.out 0).trans rfl, (bc BK272.out 1).trans rfl, (bc BK272.out 2).trans rfl, (bc BK272.out 3).trans rfl, (bc BK272.out 4).trans rfl⟩ (fun hHeld => ?_)
      clear hK K
      refine norm_ (a' := ?_) ?_ ?_
      rotate_left
      ·show Act.put _ (some 56) _ = _
       simp only [Act.put, sA, sZ, sS, i64_w, i32_w]
       rfl
      refine one_ (i := 0) (N := some 50) b4A46 rfl rfl (one_of HT_.out (by kernel_rfl)) (by decide) (fun K hK => ?_)
      refine Kd.R_lit_step k38 _ 38 ?hg (N := 50) ?hd (xs := ([] : List (S38))) (inner := []) (ok := fun _ => True) (okp := fun _ => True) ?hr ?hp (fun _ hk => hk) trivial (Below.refl _ _) (Nat.le_refl _) (by simp) ?_; (case hd => rfl); (case hg => rfl); (case hr => first | (go_simp; done) | (go_simp; rfl)); (case hp => exact (Reps.none _ _))
      intro v279 w39 ho40 hb hg_ hnew_
      clear hg_ hnew_
      (first | rw [← Ny278.out] at ho40 | (simp only [Int.reduceToNat] at ho40; rw [← Ny278.out] at ho40))
      have n0_ := zK (Kd.R_elder' (Kd.qR HO290.out) (Kd.R_base ho40) hb)
      have n1_ := zK (Kd.R_lower (Kd.R_newB (Kd.R_new' ho40 (Kd.R_lt (Kd.qR HO290.out))) (g := gb272) (o := .cells #[.int .i64 a1_0, .int .i64 a1_1, .int .i64 a1_2, .int .i64 a1_3, .int .i64 a1_4] 38 (0, 0)) (qK BK272.out)) (bZ m3))
      have n2_ := zK (bB (g := gb272) (o := .cells #[.int .i64 a1_0, .int .i64 a1_1, .int .i64 a1_2, .int .i64 a1_3, .int .i64 a1_4] 38 (0, 0)) (qK BK272.out) hb)
      have n3_ := zK (bT m3 hb)
      clear HO290
      clear BK272
      clear HB
      have HO290 := n0_
      have HO280 := n1_
      have BK272 := n2_
      have HB := n3_
      clear n0_ n1_ n2_ n3_
      clear hb ho40
      refine hK.out _ _ ⟨(bc BK272.out 0).trans rfl, (bc BK272.out 1).trans rfl, (bc BK272.out 2).trans rfl, (bc BK272.out 3).trans rfl, (bc BK272.out 4).trans rfl⟩ (fun hHeld => ?_)
      clear hK K
      refine norm_ (a' := ?_) ?_ ?_
      rotate_left
      ·show Act.put _ (some 50) _ = _
       simp only [Act.put, sA, sZ, sS, i64_w, i32_w]
       rfl
      refine one_ (i := 4) (N := some 54) b4A42 rfl rfl (one_of HT_.out (by kernel_rfl)) (by decide) (fun K hK => ?_)
      refine Kd.R_append_rows_step k38 (w0 := w) w.heap.size (by rfl) (.tmp 50) (.tmp 53) 30 38 (.agg #[(.int .i64 0), (.int .i64 0), (.int .i64 0), (.int .i64 0), (.int .i64 0)]) 40 rfl Try.underlying30 info38 rfl (by decide) (by omega) v279 y278 y281 _ _ _ (fun k_ => some k_ ≠ (v289 : Value).ownBlock ∧ k_ ≠ gb272) (fun _ => False) rfl rfl ?aO ?aR (fun _ _ h => h) (fun _ h => h.elim) ?aF ?aB ?aS ?aL ?_
      (case aR => exact Kd.qC (Kd.C_below HR284.out HB.out))
      (case aB => exact m3)
      (case aF => exact (fun k_ hk => ⟨Kd.fresh' (Kd.R_lt (Kd.qR HO290.out)) k_ hk, Kd.freshB (g := gb272) (o := .cells #[.int .i64 a1_0, .int .i64 a1_1, .int .i64 a1_2, .int .i64 a1_3, .int .i64 a1_4] 38 (0, 0)) (qK BK272.out) k_ hk⟩))
      (case aO => exact (by (with_reducible repeat (first | apply Kd.RA | apply Kd.RN | apply Kd.RD)); exact Kd.R_mono HO280.out (fun _ hk => ⟨hk.1.2, hk.2⟩)))
      (case aS => exact (bZ m3))
      (case aL => have := LMc27.out; omega)
      intro v286 w41 ho hb hg hat
      rw [← Ny285.out] at ho
      have n0_ := zK (blk_grown (g := gb272) (o := .cells #[.int .i64 a1_0, .int .i64 a1_1, .int .i64 a1_2, .int .i64 a1_3, .int .i64 a1_4] 38 (0, 0)) (qK BK272.out) hg (Kd.R_away HO280.out (fun _ hk => hk.2)))
      have n1_ := zK (Kd.R_after (ok := (fun k_ => k_ ≠ gb272)) m26 hg hat)
      have n2_ := zK (hb)
      have n3_ := zK (ho)
      clear BK272
      clear HO290
      clear HB
      clear HO280
      have BK272 := n0_
      have HO290 := n1_
      have HB := n2_
      have HO287 := n3_
      clear n0_ n1_ n2_ n3_
      clear ho hb hg hat
      refine hK.out _ _ ⟨(bc BK272.out 0).trans rfl, (bc BK272.out 1).trans rfl, (bc BK272.out 2).trans rfl, (bc BK272.out 3).trans rfl, (bc BK272.out 4).trans rfl⟩ (fun hHeld => ?_)
      clear hK K
      refine norm_ (a' := ?_) ?_ ?_
      rotate_left
      ·show Act.put _ (some 54) _ = _
       simp only [Act.put, sA, sZ, sS, i64_w, i32_w]
       rfl
      exact norm_ (by simp only [putAll, Act.put, sA, sZ, sS]) (hCont (v279, v286, v289) _ ⟨hHeld, (Kd.qR HO287.out), m19, (qK BK272.out), m3⟩)
     skip
     refine Kd.R_lit_step k38 _ 38 ?hg (N := 50) ?hd (xs := ([] : List (S38))) (inner := []) (ok := fun _ => True) (okp := fun _ => True) ?hr ?hp (fun _ hk => hk) trivial (Below.refl _ _) (Nat.le_refl _) (by simp) ?_; (case hd => rfl); (case hg => rfl); (case hr => first | (go_simp; done) | (go_simp; rfl)); (case hp => exact (Reps.none _ _))
     intro v279 w37 ho38 hb hg_ hnew_
     clear hg_ hnew_
     (first | rw [← Ny278.out] at ho38 | (simp only [Int.reduceToNat] at ho38; rw [← Ny278.out] at ho38))
     have n0_ := zK (Kd.R_lower (Kd.R_newB ho38 (g := gb272) (o := .cells #[.int .i64 a1_0, .int .i64 a1_1, .int .i64 a1_2, .int .i64 a1_3, .int .i64 a1_4] 38 (0, 0)) (qK BK272.out)) (bZ m3))
     have n1_ := zK (bB (g := gb272) (o := .cells #[.int .i64 a1_0, .int .i64 a1_1, .int .i64 a1_2, .int .i64 a1_3, .int .i64 a1_4] 38 (0, 0)) (qK BK272.out) hb)
     have n2_ := zK (bT m3 hb)
     clear BK272
     clear HB
     have HO280 := n0_
     have BK272 := n1_
     have HB := n2_
     clear n0_ n1_ n2_
     clear hb ho38
     refine hK.out _ _ ⟨(bc BK272.out 0).trans rfl, (bc BK272.out 1).trans rfl, (bc BK272.out 2).trans rfl, (bc BK272.out 3).trans rfl, (bc BK272.out 4).trans rfl⟩ (fun hHeld => ?_)
     clear hK K
     refine norm_ (a' := ?_) ?_ ?_
     rotate_left
     ·show Act.put _ (some 50) _ = _
      simp only [Act.put, sA, sZ, sS, i64_w, i32_w]
      rfl
     refine two_ (i := 4) (j := 6) (Ni := some 54) (Nj := some 56) b4A45 b4A46 rfl rfl rfl rfl (two_of HT_.out (by kernel_rfl)) (by decide) (by decide) (fun K hK => ?_) (fun K hK => ?_)
     ·skip
      refine Kd.R_append_rows_step k38 (w0 := w) w.heap.size (by rfl) (.tmp 50) (.tmp 53) 30 38 (.agg #[(.int .i64 0), (.int .i64 0), (.int .i64 0), (.int .i64 0), (.int .i64 0)]) 40 rfl Try.underlying30 info38 rfl (by decide) (by omega) v279 y278 y281 _ _ _ (fun k_ => k_ ≠ gb272) (fun _ => False) rfl rfl ?aO ?aR (fun _ _ h => h) (fun _ h => h.elim) ?aF ?aB ?aS ?aL ?_
      (case aR => exact Kd.qC (Kd.C_below HR284.out HB.out))
      (case aB => exact m3)
      (case aF => exact (fun k_ hk => Kd.freshB (g := gb272) (o := .cells #[.int .i64 a1_0, .int .i64 a1_1, .int .i64 a1_2, .int .i64 a1_3, .int .i64 a1_4] 38 (0, 0)) (qK BK272.out) k_ hk))
      (case aO => exact (by (with_reducible repeat (first | apply Kd.RA | apply Kd.RN | apply Kd.RD)); exact Kd.R_mono HO280.out (fun _ hk => hk.2)))
      (case aS => exact (bZ m3))
      (case aL => have := LMc27.out; omega)
      intro v286 w39 ho hb hg hat
      rw [← Ny285.out] at ho
      have n0_ := zK (blk_grown (g := gb272) (o := .cells #[.int .i64 a1_0, .int .i64 a1_1, .int .i64 a1_2, .int .i64 a1_3, .int .i64 a1_4] 38 (0, 0)) (qK BK272.out) hg (Kd.R_away HO280.out (fun _ hk => hk.2)))
      have n1_ := zK (hb)
      have n2_ := zK (ho)
      clear BK272
      clear HB
      clear HO280
      have BK272 := n0_
      have HB := n1_
      have HO287 := n2_
      clear n0_ n1_ n2_
      clear ho hb hg hat
      refine hK.out _ _ ⟨(bc BK272.out 0).trans rfl, (bc BK272.out 1).trans rfl, (bc BK272.out 2).trans rfl, (bc BK272.out 3).trans rfl, (bc BK272.out 4).trans rfl⟩ (fun hHeld => ?_)
      clear hK K
      refine norm_ (a' := ?_) ?_ ?_
      rotate_left
      ·show Act.put _ (some 54) _ = _
       simp only [Act.put, sA, sZ, sS, i64_w, i32_w]
       rfl
      refine one_ (i := 6) (N := some 56) b4A42 rfl rfl (one_of HT_.out (by kernel_rfl)) (by decide) (fun K hK => ?_)
      refine Kd.R_lit_step k38 _ 38 ?hg (N := 56) ?hd (xs := ([(⟨a1_0, a1_1, a1_2, a1_3, a1_4⟩ : S38)] : List (S38))) (inner := [.int .i64 a1_0, .int .i64 a1_1, .int .i64 a1_2, .int .i64 a1_3, .int .i64 a1_4]) (ok := fun _ => True) (okp := fun _ => True) ?hr ?hp (fun _ hk => hk) trivial (Below.refl _ _) (Nat.le_refl _) (by simp) ?_; (case hd => rfl); (case hg => rfl); (case hr => first | (go_simp; done) | (go_simp; rfl)); (case hp => exact (Reps.c5 (show Kd.M k38 _ _ _ (⟨a1_0, a1_1, a1_2, a1_3, a1_4⟩ : S38) [.int .i64 a1_0, .int .i64 a1_1, .int .i64 a1_2, .int .i64 a1_3, .int .i64 a1_4] from (k38_mkM _ _ _ (⟨a1_0, a1_1, a1_2, a1_3, a1_4⟩ : S38) )) (Reps.none _ _)))
      intro v289 w40 ho41 hb hg_ hnew_
      clear hg_ hnew_
      (first | rw [← Ny288.out] at ho41 | (simp only [Int.reduceToNat] at ho41; rw [← Ny288.out] at ho41))
      have n0_ := zK (Kd.R_elder' (Kd.qR HO287.out) (Kd.R_base ho41) hb)
      have n1_ := zK (Kd.R_lower (Kd.R_newB (Kd.R_new' ho41 (Kd.R_lt (Kd.qR HO287.out))) (g := gb272) (o := .cells #[.int .i64 a1_0, .int .i64 a1_1, .int .i64 a1_2, .int .i64 a1_3, .int .i64 a1_4] 38 (0, 0)) (qK BK272.out)) (bZ m3))
      have n2_ := zK (bB (g := gb272) (o := .cells #[.int .i64 a1_0, .int .i64 a1_1, .int .i64 a1_2, .int .i64 a1_3, .int .i64 a1_4] 38 (0, 0)) (qK BK272.out) hb)
      have n3_ := zK (bT m3 hb)
      clear HO287
      clear BK272
      clear HB
      have HO287 := n0_
      have HO290 := n1_
      have BK272 := n2_
      have HB := n3_
      clear n0_ n1_ n2_ n3_
      clear hb ho41
      refine hK.out _ _ ⟨(bc BK272.out 0).trans rfl, (bc BK272.out 1).trans rfl, (bc BK272.out 2).trans rfl, (bc BK272.out 3).trans rfl, (bc BK272.out 4).trans rfl⟩ (fun hHeld => ?_)
      clear hK K
      refine norm_ (a' := ?_) ?_ ?_
      rotate_left
      ·show Act.put _ (some 56) _ = _
       simp only [Act.put, sA, sZ, sS, i64_w, i32_w]
       rfl
      exact norm_ (by simp only [putAll, Act.put, sA, sZ, sS]) (hCont (v279, v286, v289) _ ⟨hHeld, (by (with_reducible repeat (first | apply Kd.RA | apply Kd.RN | apply Kd.RD)); exact Kd.R_mono HO287.out (fun _ hk => ⟨hk.2, hk.1⟩)), m26, (qK BK272.out), m3⟩)
     skip
     refine Kd.R_lit_step k38 _ 38 ?hg (N := 56) ?hd (xs := ([(⟨a1_0, a1_1, a1_2, a1_3, a1_4⟩ : S38)] : List (S38))) (inner := [.int .i64 a1_0, .int .i64 a1_1, .int .i64 a1_2, .int .i64 a1_3, .int .i64 a1_4]) (ok := fun _ => True) (okp := fun _ => True) ?hr ?hp (fun _ hk => hk) trivial (Below.refl _ _) (Nat.le_refl _) (by simp) ?_; (case hd => rfl); (case hg => rfl); (case hr => first | (go_simp; done) | (go_simp; rfl)); (case hp => exact (Reps.c5 (show Kd.M k38 _ _ _ (⟨a1_0, a1_1, a1_2, a1_3, a1_4⟩ : S38) [.int .i64 a1_0, .int .i64 a1_1, .int .i64 a1_2, .int .i64 a1_3, .int .i64 a1_4] from (k38_mkM _ _ _ (⟨a1_0, a1_1, a1_2, a1_3, a1_4⟩ : S38) )) (Reps.none _ _)))
     intro v289 w39 ho40 hb hg_ hnew_
     clear hg_ hnew_
     (first | rw [← Ny288.out] at ho40 | (simp only [Int.reduceToNat] at ho40; rw [← Ny288.out] at ho40))
     have n0_ := zK (Kd.R_elder' (Kd.qR HO280.out) (Kd.R_base ho40) hb)
     have n1_ := zK (Kd.R_lower (Kd.R_newB (Kd.R_new' ho40 (Kd.R_lt (Kd.qR HO280.out))) (g := gb272) (o := .cells #[.int .i64 a1_0, .int .i64 a1_1, .int .i64 a1_2, .int .i64 a1_3, .int .i64 a1_4] 38 (0, 0)) (qK BK272.out)) (bZ m3))
     have n2_ := zK (bB (g := gb272) (o := .cells #[.int .i64 a1_0, .int .i64 a1_1, .int .i64 a1_2, .int .i64 a1_3, .int .i64 a1_4] 38 (0, 0)) (qK BK272.out) hb)
     have n3_ := zK (bT m3 hb)
     clear HO280
     clear BK272
     clear HB
     have HO280 := n0_
     have HO290 := n1_
     have BK272 := n2_
     have HB := n3_
     clear n0_ n1_ n2_ n3_
     clear hb ho40
     refine hK.out _ _ ⟨(bc BK272.out 0).trans rfl, (bc BK272.out 1).trans rfl, (bc BK272.out 2).trans rfl, (bc BK272.out 3).trans rfl, (bc BK272.out 4).trans rfl⟩ (fun hHeld => ?_)
     clear hK K
     refine norm_ (a' := ?_) ?_ ?_
     rotate_left
     ·show Act.put _ (some 56) _ = _
      simp only [Act.put, sA, sZ, sS, i64_w, i32_w]
      rfl
     refine one_ (i := 4) (N := some 54) b4A42 rfl rfl (one_of HT_.out (by kernel_rfl)) (by decide) (fun K hK => ?_)
     refine Kd.R_append_rows_step k38 (w0 := w) w.heap.size (by rfl) (.tmp 50) (.tmp 53) 30 38 (.agg #[(.int .i64 0), (.int .i64 0), (.int .i64 0), (.int .i64 0), (.int .i64 0)]) 40 rfl Try.underlying30 info38 rfl (by decide) (by omega) v279 y278 y281 _ _ _ (fun k_ => some k_ ≠ (v289 : Value).ownBlock ∧ k_ ≠ gb272) (fun _ => False) rfl rfl ?aO ?aR (fun _ _ h => h) (fun _ h => h.elim) ?aF ?aB ?aS ?aL ?_
     (case aR => exact Kd.qC (Kd.C_below HR284.out HB.out))
     (case aB => exact m3)
     (case aF => exact (fun k_ hk => ⟨Kd.fresh' (Kd.R_lt (Kd.qR HO290.out)) k_ hk, Kd.freshB (g := gb272) (o := .cells #[.int .i64 a1_0, .int .i64 a1_1, .int .i64 a1_2, .int .i64 a1_3, .int .i64 a1_4] 38 (0, 0)) (qK BK272.out) k_ hk⟩))
     (case aO => exact (by (with_reducible repeat (first | apply Kd.RA | apply Kd.RN | apply Kd.RD)); exact Kd.R_mono HO280.out (fun _ hk => ⟨hk.2, hk.1.2⟩)))
     (case aS => exact (bZ m3))
     (case aL => have := LMc27.out; omega)
     intro v286 w41 ho hb hg hat
     rw [← Ny285.out] at ho
     have n0_ := zK (blk_grown (g := gb272) (o := .cells #[.int .i64 a1_0, .int .i64 a1_1, .int .i64 a1_2, .int .i64 a1_3, .int .i64 a1_4] 38 (0, 0)) (qK BK272.out) hg (Kd.R_away HO280.out (fun _ hk => hk.1.2)))
     have n1_ := zK (Kd.R_after (ok := (fun k_ => k_ ≠ gb272)) (by (with_reducible repeat (first | apply Kd.RA | apply Kd.RN | apply Kd.RD)); exact Kd.R_mono HO290.out (fun _ hk => ⟨hk.2, hk.1.2⟩)) hg hat)
     have n2_ := zK (hb)
     have n3_ := zK (ho)
     clear BK272
     clear HO290
     clear HB
     clear HO280
     have BK272 := n0_
     have HO290 := n1_
     have HB := n2_
     have HO287 := n3_
     clear n0_ n1_ n2_ n3_
     clear ho hb hg hat
     refine hK.out _ _ ⟨(bc BK272.out 0).trans rfl, (bc BK272.out 1).trans rfl, (bc BK272.out 2).trans rfl, (bc BK272.out 3).trans rfl, (bc BK272.out 4).trans rfl⟩ (fun hHeld => ?_)
     clear hK K
     refine norm_ (a' := ?_) ?_ ?_
     rotate_left
     ·show Act.put _ (some 54) _ = _
      simp only [Act.put, sA, sZ, sS, i64_w, i32_w]
      rfl
     exact norm_ (by simp only [putAll, Act.put, sA, sZ, sS]) (hCont (v279, v286, v289) _ ⟨hHeld, (Kd.qR HO287.out), m19, (qK BK272.out), m3⟩)
    rintro ⟨v279, v286, v289⟩ w42 ⟨hS_, h0_, h1_, h2_, h3_⟩
    have n0_ : Aside0 (Kd.R k38 38 w42 w.heap.size (fun k_ => some k_ ≠ (v289 : Value).ownBlock ∧ k_ ≠ gb272) v286 y285) := ⟨h0_⟩
    have n1_ : Aside0 (Kd.R k38 38 w42 w.heap.size (fun k_ => some k_ ≠ (v286 : Value).ownBlock ∧ k_ ≠ gb272) v289 y288) := ⟨h1_⟩
    have n2_ : Aside0 (w42.heap[gb272]? = some (.cells #[.int .i64 a1_0, .int .i64 a1_1, .int .i64 a1_2, .int .i64 a1_3, .int .i64 a1_4] 38 (0, 0))) := ⟨h2_⟩
    have n3_ : Aside0 (Below w.heap.size w w42) := ⟨h3_⟩
    clear BK272
    clear HB
    clear h0_ h1_ h2_ h3_
    have HO287 := n0_
    have HO290 := n1_
    have BK272 := n2_
    have HB := n3_
    clear n0_ n1_ n2_ n3_
    have hHeld : w42.cell? ⟨gb272, 0, none⟩ = some (.int .i64 a1_0) ∧ w42.cell? ⟨gb272, 1, none⟩ = some (.int .i64 a1_1) ∧ w42.cell? ⟨gb272, 2, none⟩ = some (.int .i64 a1_2) ∧ w42.cell? ⟨gb272, 3, none⟩ = some (.int .i64 a1_3) ∧ w42.cell? ⟨gb272, 4, none⟩ = some (.int .i64 a1_4) := hS_
    obtain ⟨Ao44, co44, eo44⟩ := Kd.R_slice HO290.out
    (first | subst eo44 | (injection eo44 with f1_ f2_ f3_; have f4_ := f1_.symm; have f5_ := f3_.symm; clear f1_ f2_ f3_; subst f4_; subst f5_))
    refine norm_ (a' := ?_) ?_ ?_
    rotate_left
    ·simp only [putAll, Act.put, sA, sZ, sS]
     rfl
    refine one_ (i := 7) (N := some 57) b4A47 rfl rfl (one_of HT_.out (by kernel_rfl)) (by decide) (fun K hK => ?_)
    refine Kd.R_append_rows_step k38 (w0 := w) w.heap.size (by rfl) (.tmp 54) (.tmp 56) 30 38 (.agg #[(.int .i64 0), (.int .i64 0), (.int .i64 0), (.int .i64 0), (.int .i64 0)]) 40 rfl Try.underlying30 info38 rfl (by decide) (by omega) v286 y285 y288 _ _ _ (fun k_ => some k_ ≠ (.slice Ao44 y288.length co44 : Value).ownBlock ∧ k_ ≠ gb272) (fun _ => False) rfl rfl ?aO ?aR (fun _ _ h => h) (fun _ h => h.elim) ?aF ?aB ?aS ?aL ?_
    (case aR => repeat (first | exact (Kd.R_reads' HO290.out).2.2 | (with_reducible refine Kd.CA ?_ _) | (with_reducible refine Kd.CN ?_ _) | (with_reducible refine Kd.CD ?_)))
    (case aB => exact m3)
    (case aF => exact (fun k_ hk => ⟨Kd.fresh' (Kd.R_lt (Kd.qR HO290.out)) k_ hk, Kd.freshB (g := gb272) (o := .cells #[.int .i64 a1_0, .int .i64 a1_1, .int .i64 a1_2, .int .i64 a1_3, .int .i64 a1_4] 38 (0, 0)) (qK BK272.out) k_ hk⟩))
    (case aO => exact (Kd.qR HO287.out))
    (case aS => exact (bZ m3))
    (case aL => have := LMc28.out; omega)
    intro v292 w43 ho hb hg hat
    rw [← Ny291.out] at ho
    have n0_ := zK (blk_grown (g := gb272) (o := .cells #[.int .i64 a1_0, .int .i64 a1_1, .int .i64 a1_2, .int .i64 a1_3, .int .i64 a1_4] 38 (0, 0)) (qK BK272.out) hg (Kd.R_away HO287.out (fun _ hk => hk.2)))
    have n1_ := zK (Kd.R_after (ok := (fun k_ => k_ ≠ gb272)) m19 hg hat)
    have n2_ := zK (hb)
    have n3_ := zK (ho)
    clear BK272
    clear HO290
    clear HB
    clear HO287
    have BK272 := n0_
    have HO290 := n1_
    have HB := n2_
    have HO293 := n3_
    clear n0_ n1_ n2_ n3_
    clear ho hb hg hat
    refine hK.out _ _ ⟨(bc BK272.out 0).trans rfl, (bc BK272.out 1).trans rfl, (bc BK272.out 2).trans rfl, (bc BK272.out 3).trans rfl, (bc BK272.out 4).trans rfl⟩ (fun hHeld => ?_)
    clear hK K
    refine norm_ (a' := ?_) ?_ ?_
    rotate_left
    ·show Act.put _ (some 57) _ = _
     simp only [Act.put, sA, sZ, sS, i64_w, i32_w]
     rfl
    refine one_ (i := 11) (N := some 61) b4A48 rfl rfl (one_of HT_.out (by kernel_rfl)) (by decide) (fun K hK => ?_)
    refine Kd.R_append_rows_step k38 (w0 := w) w.heap.size (by rfl) (.tmp 57) (.tmp 60) 30 38 (.agg #[(.int .i64 0), (.int .i64 0), (.int .i64 0), (.int .i64 0), (.int .i64 0)]) 40 rfl Try.underlying30 info38 rfl (by decide) (by omega) v292 y291 y294 _ _ _ (fun k_ => some k_ ≠ (.slice Ao44 y288.length co44 : Value).ownBlock ∧ k_ ≠ gb272) (fun _ => False) rfl rfl ?aO ?aR (fun _ _ h => h) (fun _ h => h.elim) ?aF ?aB ?aS ?aL ?_
    (case aR => exact Kd.qC (Kd.C_below HR297.out HB.out))
    (case aB => exact m3)
    (case aF => exact (fun k_ hk => ⟨Kd.fresh' (Kd.R_lt (Kd.qR HO290.out)) k_ hk, Kd.freshB (g := gb272) (o := .cells #[.int .i64 a1_0, .int .i64 a1_1, .int .i64 a1_2, .int .i64 a1_3, .int .i64 a1_4] 38 (0, 0)) (qK BK272.out) k_ hk⟩))
    (case aO => exact (Kd.qR HO293.out))
    (case aS => exact (bZ m3))
    (case aL => have := LMc31.out; omega)
    intro v299 w45 ho hb hg hat
    rw [← Ny298.out] at ho
    have n0_ := zK (blk_grown (g := gb272) (o := .cells #[.int .i64 a1_0, .int .i64 a1_1, .int .i64 a1_2, .int .i64 a1_3, .int .i64 a1_4] 38 (0, 0)) (qK BK272.out) hg (Kd.R_away HO293.out (fun _ hk => hk.2)))
    have n1_ := zK (Kd.R_after (ok := (fun k_ => k_ ≠ gb272)) (Kd.qR HO290.out) hg hat)
    have n2_ := zK (hb)
    have n3_ := zK (ho)
    clear BK272
    clear HO290
    clear HB
    clear HO293
    have BK272 := n0_
    have HO290 := n1_
    have HB := n2_
    have HO300 := n3_
    clear n0_ n1_ n2_ n3_
    clear ho hb hg hat
    refine hK.out _ _ ⟨(bc BK272.out 0).trans rfl, (bc BK272.out 1).trans rfl, (bc BK272.out 2).trans rfl, (bc BK272.out 3).trans rfl, (bc BK272.out 4).trans rfl⟩ (fun hHeld => ?_)
    clear hK K
    refine norm_ (a' := ?_) ?_ ?_
    rotate_left
    ·show Act.put _ (some 61) _ = _
     simp only [Act.put, sA, sZ, sS, i64_w, i32_w]
     rfl
    refine pI 12 (some 9) b4A49 HT_ ?_
    refine done_ (done_of HT_.out (by kernel_rfl)) ?_
    try go_wp2_with (first | ((with_reducible refine gate_dst (N := 68) rfl ?_); refine Kd.R_lit k38 _ 38 ?hg (N := 68) ?hd (xs := ([] : List (S38))) (inner := []) (ok := fun _ => True) (okp := fun _ => True) ?hr ?hp (fun _ hk => hk) trivial (Below.refl _ _) (Nat.le_refl _) (by simp) ?_; (case hd => rfl); (case hg => rfl); (case hr => first | (go_simp; done) | (go_simp; rfl)); (case hp => exact (Reps.none _ _)); intro v302 w46 ho47 hb hg_ hnew_; clear hg_ hnew_; (first | rw [← Ny301.out] at ho47 | (simp only [Int.reduceToNat] at ho47; rw [← Ny301.out] at ho47)); have n0_ := zK (Kd.R_elder' (Kd.qR HO290.out) (Kd.R_base ho47) hb); have n1_ := zK (Kd.R_elder' (Kd.qR HO300.out) (Kd.R_base ho47) hb); have n2_ := zK (Kd.R_lower (Kd.R_newB (Kd.R_new' (Kd.R_new' ho47 (Kd.R_lt (Kd.qR HO290.out))) (Kd.R_lt (Kd.qR HO300.out))) (g := gb272) (o := .cells #[.int .i64 a1_0, .int .i64 a1_1, .int .i64 a1_2, .int .i64 a1_3, .int .i64 a1_4] 38 (0, 0)) (qK BK272.out)) (bZ m3)); have n3_ := zK (bB (g := gb272) (o := .cells #[.int .i64 a1_0, .int .i64 a1_1, .int .i64 a1_2, .int .i64 a1_3, .int .i64 a1_4] 38 (0, 0)) (qK BK272.out) hb); have n4_ := zK (bT m3 hb); clear HO290; clear HO300; clear BK272; clear HB; have HO290 := n0_; have HO300 := n1_; have HO303 := n2_; have BK272 := n3_; have HB := n4_; clear n0_ n1_ n2_ n3_ n4_; clear hb ho47) | ((with_reducible refine gate_builtin (b := .append) (xs := #[.tmp 68, .tmp 69]) rfl ?_); at_builtin; refine Kd.R_append_rows k38 (w0 := w) w.heap.size rfl (.tmp 68) (.tmp 69) 30 38 (.agg #[(.int .i64 0), (.int .i64 0), (.int .i64 0), (.int .i64 0), (.int .i64 0)]) 40 rfl Try.underlying30 info38 rfl (by decide) (by omega) v302 y301 l0 _ _ _ (fun k_ => some k_ ≠ (.slice Ao44 y288.length co44 : Value).ownBlock ∧ some k_ ≠ (v299 : Value).ownBlock ∧ k_ ≠ gb272) (fun _ => False) rfl rfl ?aO ?aR (fun _ _ h => h) (fun _ h => h.elim) ?aF ?aB ?aS ?aL ?_; (case aR => exact Kd.qC (Kd.C_below HR0.out HB.out)); (case aB => exact m3); (case aF => exact (fun k_ hk => ⟨Kd.fresh' (Kd.R_lt (Kd.qR HO290.out)) k_ hk, Kd.fresh' (Kd.R_lt (Kd.qR HO300.out)) k_ hk, Kd.freshB (g := gb272) (o := .cells #[.int .i64 a1_0, .int .i64 a1_1, .int .i64 a1_2, .int .i64 a1_3, .int .i64 a1_4] 38 (0, 0)) (qK BK272.out) k_ hk⟩)); (case aO => exact (by (with_reducible repeat (first | apply Kd.RA | apply Kd.RN | apply Kd.RD)); exact Kd.R_mono HO303.out (fun _ hk => ⟨hk.1.1.2, ⟨hk.1.2, hk.2⟩⟩))); (case aS => exact (bZ m3)); (case aL => have := LMc33.out; omega); intro v305 w48 ho hb hg hat; rw [← Ny304.out] at ho; have n0_ := zK (blk_grown (g := gb272) (o := .cells #[.int .i64 a1_0, .int .i64 a1_1, .int .i64 a1_2, .int .i64 a1_3, .int .i64 a1_4] 38 (0, 0)) (qK BK272.out) hg (Kd.R_away HO303.out (fun _ hk => hk.2))); have n1_ := zK (Kd.R_after (ok := (fun k_ => some k_ ≠ (v299 : Value).ownBlock ∧ k_ ≠ gb272)) (by (with_reducible repeat (first | apply Kd.RA | apply Kd.RN | apply Kd.RD)); exact Kd.R_mono HO290.out (fun _ hk => ⟨⟨hk.1.2, hk.1.1⟩, hk.2⟩)) hg hat); have n2_ := zK (Kd.R_after (ok := (fun k_ => some k_ ≠ (.slice Ao44 y288.length co44 : Value).ownBlock ∧ k_ ≠ gb272)) (Kd.qR HO300.out) hg hat); have n3_ := zK (hb); have n4_ := zK (ho); clear BK272; clear HO290; clear HO300; clear HB; clear HO303; have BK272 := n0_; have HO290 := n1_; have HO300 := n2_; have HB := n3_; have HO306 := n4_; clear n0_ n1_ n2_ n3_ n4_; clear ho hb hg hat))
    go_ret2
    exact ⟨_, by first | rfl | (simp [errW_none, errW_some] <;> rfl) | (simp [*, errW_none, errW_some] <;> rfl), by (with_reducible repeat (first | apply Kd.RA | apply Kd.RN | apply Kd.RD)); exact Kd.R_mono HO306.out (fun _ hk => trivial), by repeat (first | (with_reducible first | exact HB.out | apply bA | apply bN | apply below_drew1 | refine bS ?_ GE272.out) | exact HB.out)⟩
   replace c32 := Bool.eq_false_iff.mpr c32
   subst c32
   have H1 : ((spec_AreClaims.f k1 y298).bind fun t307 => (if t307 = true then (some (y298, true)) else ((some (([] : List (S38)) : List (S38))).bind fun y308 => (if y308.length + l0.length < 3518437208883 then (some ((y308 ++ l0), false)) else (none))))) = some (r1, r2) := by rw [if_neg (show ¬ (false = true) by decide)] at H; exact H
   clear H
   have H := H1
   clear H1
   replace H := Option.bind_eq_some_iff.mp H
   obtain ⟨t307, A490, H⟩ := H
   replace H : (if t307 = true then (some (y298, true)) else ((some (([] : List (S38)) : List (S38))).bind fun y308 => (if y308.length + l0.length < 3518437208883 then (some ((y308 ++ l0), false)) else (none)))) = some (r1, r2) := H
   have A49 := zK A490
   clear A490
   by_cases c50 : t307 = true
   ·subst c50
    have H1 : (some (y298, true)) = some (r1, r2) := by rw [if_pos rfl] at H; exact H
    clear H
    have H := H1
    clear H1
    simp only [Option.some.injEq, Prod.mk.injEq] at H
    obtain ⟨rfl, rfl⟩ := H
    try go_wp2
    have n0_ := zK (kD BK272.out)
    have n1_ := zK (below_drew1 HB.out)
    clear BK272
    clear HB
    have BK272 := n0_
    have HB := n1_
    clear n0_ n1_
    have q52 : (x6_1 : Int) ≤ ((l0.length : Int) : Int) := oD m2
    obtain ⟨i052, hi052, _, hsz52, _⟩ := info_parts info38
    have hroom52 : l0.length ≤ c0 := HC0.out
    have hC52 : Kd.C k38 _ A0 l0.length l0 := HR0.out
    have hcut52 := cut_to (P := Try.prog) 30 38 .i64 Try.underlying30 hi052 A0 l0.length c0 x6_1 (oD m2) q52 hroom52
    have hr52 := Kd.C_take (m := (x6_1 : Int).toNat) hC52 (by omega)
    have hy52 : y281.length = (x6_1 : Int).toNat := (by rw [Ny281.out, List.length_take]; omega)
    rw [← Ny281.out] at hr52
    rw [← hy52] at hcut52
    have HR284 := zK hr52
    have HC284 := zK (show y281.length ≤ c0 from by omega)
    clear hr52 hC52 hroom52 hi052 hsz52
    have KY52 := zK hy52
    clear hy52
    replace q52 := eq_true q52
    have q53 : (x6_1 : Int) ≤ ((l0.length : Int) : Int) := oD m2
    obtain ⟨i053, hi053, _, hsz53, _⟩ := info_parts info38
    have hroom53 : l0.length ≤ c0 := HC0.out
    have hC53 : Kd.C k38 _ A0 l0.length l0 := HR0.out
    have q053 : (0 : Int) ≤ (x6_1 : Int) := oD m2
    have hcut53 := cut_from (P := Try.prog) 30 38 .i64 Try.underlying30 hi053 5 hsz53 A0 l0.length c0 x6_1 q053 q53
    have hr53 := Kd.C_drop (m := (x6_1 : Int).toNat) (c := c0) hC53 (by omega) hroom53
    obtain ⟨A53, hA53⟩ : ∃ A1, A1 = (if c0 = (x6_1 : Int).toNat then A0 else (A0 : Option Addr).map (·.add ((x6_1 : Int).toNat * 5))) := ⟨_, rfl⟩
    obtain ⟨c53, hc53⟩ : ∃ c1, c1 = c0 - (x6_1 : Int).toNat := ⟨_, rfl⟩
    have hy53 : y294.length = l0.length - (x6_1 : Int).toNat := (by rw [Ny294.out, List.length_drop] <;> omega)
    rw [show (l0).drop (x6_1 : Int).toNat = y294 from Ny294.out.symm] at hr53
    replace hr53 : Kd.C k38 _ A53 y294.length y294 := (by rw [hA53]; exact hr53)
    rw [← hy53, ← hA53, ← hc53] at hcut53
    have HR297 := zK hr53
    have HC297 := zK (show y294.length ≤ c53 from by rw [hy53, hc53]; exact Nat.sub_le_sub_right hroom53 _)
    clear hr53 hC53 hroom53 hi053 hsz53 hc53
    have KY53 := zK hy53
    have KA53 := zK hA53
    clear hy53 hA53
    replace q53 := eq_true q53
    refine start_ (n := 13) (S := fun w' => w'.cell? ⟨gb272, 0, none⟩ = some (.int .i64 a1_0) ∧ w'.cell? ⟨gb272, 1, none⟩ = some (.int .i64 a1_1) ∧ w'.cell? ⟨gb272, 2, none⟩ = some (.int .i64 a1_2) ∧ w'.cell? ⟨gb272, 3, none⟩ = some (.int .i64 a1_3) ∧ w'.cell? ⟨gb272, 4, none⟩ = some (.int .i64 a1_4)) (ds := []) b4A34 (by kernel_rfl) rfl rfl ⟨(bc BK272.out 0).trans rfl, (bc BK272.out 1).trans rfl, (bc BK272.out 2).trans rfl, (bc BK272.out 3).trans rfl, (bc BK272.out 4).trans rfl⟩ (fun hHeld => ?_); refine with_tabW spec_AddClaim.tab9 spec_AddClaim.bits9 (fun HT_ HW_ => ?_)
    generalize wr.drew = w51 at BK272 HB HR284 HR297 hHeld ⊢
    refine pI 1 (some 51) b4A35 HT_ ?_
    refine pI 2 (some 52) b4A36 HT_ ?_
    refine pI 3 (some 53) b4A37 HT_ ?_
    refine pI 8 (some 58) b4A38 HT_ ?_
    refine pI 9 (some 59) b4A39 HT_ ?_
    refine pI 10 (some 60) b4A40 HT_ ?_
    refine tI 5 (some 55) b4A41 HT_ HW_ hHeld rfl rfl (Or.inl ⟨by rfl, by rintro w' ⟨s0, s1, s2, s3, s4⟩; go_simp; with_reducible rfl⟩) ?_
    refine join_ (σ := Value × Value × Value) 3 b4A42 (fun s_ => [(50, s_.1), (54, s_.2.1), (56, s_.2.2)]) (fun s_ w' => (w'.cell? ⟨gb272, 0, none⟩ = some (.int .i64 a1_0) ∧ w'.cell? ⟨gb272, 1, none⟩ = some (.int .i64 a1_1) ∧ w'.cell? ⟨gb272, 2, none⟩ = some (.int .i64 a1_2) ∧ w'.cell? ⟨gb272, 3, none⟩ = some (.int .i64 a1_3) ∧ w'.cell? ⟨gb272, 4, none⟩ = some (.int .i64 a1_4)) ∧ (Kd.R k38 38 w' w.heap.size (fun k_ => some k_ ≠ (s_.2.2 : Value).ownBlock ∧ k_ ≠ gb272) s_.2.1 y285) ∧ (Kd.R k38 38 w' w.heap.size (fun k_ => some k_ ≠ (s_.2.1 : Value).ownBlock ∧ k_ ≠ gb272) s_.2.2 y288) ∧ (w'.heap[gb272]? = some (.cells #[.int .i64 a1_0, .int .i64 a1_1, .int .i64 a1_2, .int .i64 a1_3, .int .i64 a1_4] 38 (0, 0))) ∧ (Below w.heap.size w w')) ?_ ?_
    rotate_left
    ·intro hCont
     refine two_ (i := 0) (j := 6) (Ni := some 50) (Nj := some 56) b4A43 b4A44 rfl rfl rfl rfl (two_of HT_.out (by kernel_rfl)) (by decide) (by decide) (fun K hK => ?_) (fun K hK => ?_)
     rotate_left
     ·skip
      refine Kd.R_lit_step k38 _ 38 ?hg (N := 56) ?hd (xs := ([(⟨a1_0, a1_1, a1_2, a1_3, a1_4⟩ : S38)] : List (S38))) (inner := [.int .i64 a1_0, .int .i64 a1_1, .int .i64 a1_2, .int .i64 a1_3, .int .i64 a1_4]) (ok := fun _ => True) (okp := fun _ => True) ?hr ?hp (fun _ hk => hk) trivial (Below.refl _ _) (Nat.le_refl _) (by simp) ?_; (case hd => rfl); (case hg => rfl); (case hr => first | (go_simp; done) | (go_simp; rfl)); (case hp => exact (Reps.c5 (show Kd.M k38 _ _ _ (⟨a1_0, a1_1, a1_2, a1_3, a1_4⟩ : S38) [.int .i64 a1_0, .int .i64 a1_1, .int .i64 a1_2, .int .i64 a1_3, .int .i64 a1_4] from (k38_mkM _ _ _ (⟨a1_0, a1_1, a1_2, a1_3, a1_4⟩ : S38) )) (Reps.none _ _)))
      intro v289 w54 ho55 hb hg_ hnew_
      clear hg_ hnew_
      (first | rw [← Ny288.out] at ho55 | (simp only [Int.reduceToNat] at ho55; rw [← Ny288.out] at ho55))
      have n0_ := zK (Kd.R_lower (Kd.R_newB ho55 (g := gb272) (o := .cells #[.int .i64 a1_0, .int .i64 a1_1, .int .i64 a1_2, .int .i64 a1_3, .int .i64 a1_4] 38 (0, 0)) (qK BK272.out)) (bZ m3))
      have n1_ := zK (bB (g := gb272) (o := .cells #[.int .i64 a1_0, .int .i64 a1_1, .int .i64 a1_2, .int .i64 a1_3, .int .i64 a1_4] 38 (0, 0)) (qK BK272.out) hb)
      have n2_ := zK (bT m3 hb)
      clear BK272
      clear HB
      have HO290 := n0_
      have BK272 := n1_
      have HB := n2_
      clear n0_ n1_ n2_
      clear hb ho55
      refine hK.out _ _ ⟨(bc BK272.out 0).trans rfl, (bc BK272.out 1).trans rfl, (bc BK272.out 2).trans rfl, (bc BK272.out 3).trans rfl, (bc BK272.out 4).trans rfl⟩ (fun hHeld => ?_)
      clear hK K
      refine norm_ (a' := ?_) ?_ ?_
      rotate_left
      ·show Act.put _ (some 56) _ = _
       simp only [Act.put, sA, sZ, sS, i64_w, i32_w]
       rfl
      refine one_ (i := 0) (N := some 50) b4A46 rfl rfl (one_of HT_.out (by kernel_rfl)) (by decide) (fun K hK => ?_)
      refine Kd.R_lit_step k38 _ 38 ?hg (N := 50) ?hd (xs := ([] : List (S38))) (inner := []) (ok := fun _ => True) (okp := fun _ => True) ?hr ?hp (fun _ hk => hk) trivial (Below.refl _ _) (Nat.le_refl _) (by simp) ?_; (case hd => rfl); (case hg => rfl); (case hr => first | (go_simp; done) | (go_simp; rfl)); (case hp => exact (Reps.none _ _))
      intro v279 w56 ho57 hb hg_ hnew_
      clear hg_ hnew_
      (first | rw [← Ny278.out] at ho57 | (simp only [Int.reduceToNat] at ho57; rw [← Ny278.out] at ho57))
      have n0_ := zK (Kd.R_elder' (Kd.qR HO290.out) (Kd.R_base ho57) hb)
      have n1_ := zK (Kd.R_lower (Kd.R_newB (Kd.R_new' ho57 (Kd.R_lt (Kd.qR HO290.out))) (g := gb272) (o := .cells #[.int .i64 a1_0, .int .i64 a1_1, .int .i64 a1_2, .int .i64 a1_3, .int .i64 a1_4] 38 (0, 0)) (qK BK272.out)) (bZ m3))
      have n2_ := zK (bB (g := gb272) (o := .cells #[.int .i64 a1_0, .int .i64 a1_1, .int .i64 a1_2, .int .i64 a1_3, .int .i64 a1_4] 38 (0, 0)) (qK BK272.out) hb)
      have n3_ := zK (bT m3 hb)
      clear HO290
      clear BK272
      clear HB
      have HO290 := n0_
      have HO280 := n1_
      have BK272 := n2_
      have HB := n3_
      clear n0_ n1_ n2_ n3_
      clear hb ho57
      refine hK.out _ _ ⟨(bc BK272.out 0).trans rfl, (bc BK272.out 1).trans rfl, (bc BK272.out 2).trans rfl, (bc BK272.out 3).trans rfl, (bc BK272.out 4).trans rfl⟩ (fun hHeld => ?_)
      clear hK K
      refine norm_ (a' := ?_) ?_ ?_
      rotate_left
      ·show Act.put _ (some 50) _ = _
       simp only [Act.put, sA, sZ, sS, i64_w, i32_w]
       rfl
      refine one_ (i := 4) (N := some 54) b4A42 rfl rfl (one_of HT_.out (by kernel_rfl)) (by decide) (fun K hK => ?_)
      refine Kd.R_append_rows_step k38 (w0 := w) w.heap.size (by rfl) (.tmp 50) (.tmp 53) 30 38 (.agg #[(.int .i64 0), (.int .i64 0), (.int .i64 0), (.int .i64 0), (.int .i64 0)]) 40 rfl Try.underlying30 info38 rfl (by decide) (by omega) v279 y278 y281 _ _ _ (fun k_ => some k_ ≠ (v289 : Value).ownBlock ∧ k_ ≠ gb272) (fun _ => False) rfl rfl ?aO ?aR (fun _ _ h => h) (fun _ h => h.elim) ?aF ?aB ?aS ?aL ?_
      (case aR => exact Kd.qC (Kd.C_below HR284.out HB.out))
      (case aB => exact m3)
      (case aF => exact (fun k_ hk => ⟨Kd.fresh' (Kd.R_lt (Kd.qR HO290.out)) k_ hk, Kd.freshB (g := gb272) (o := .cells #[.int .i64 a1_0, .int .i64 a1_1, .int .i64 a1_2, .int .i64 a1_3, .int .i64 a1_4] 38 (0, 0)) (qK BK272.out) k_ hk⟩))
      (case aO => exact (by (with_reducible repeat (first | apply Kd.RA | apply Kd.RN | apply Kd.RD)); exact Kd.R_mono HO280.out (fun _ hk => ⟨hk.1.2, hk.2⟩)))
      (case aS => exact (bZ m3))
      (case aL => have := LMc27.out; omega)
      intro v286 w58 ho hb hg hat
      rw [← Ny285.out] at ho
      have n0_ := zK (blk_grown (g := gb272) (o := .cells #[.int .i64 a1_0, .int .i64 a1_1, .int .i64 a1_2, .int .i64 a1_3, .int .i64 a1_4] 38 (0, 0)) (qK BK272.out) hg (Kd.R_away HO280.out (fun _ hk => hk.2)))
      have n1_ := zK (Kd.R_after (ok := (fun k_ => k_ ≠ gb272)) m26 hg hat)
      have n2_ := zK (hb)
      have n3_ := zK (ho)
      clear BK272
      clear HO290
      clear HB
      clear HO280
      have BK272 := n0_
      have HO290 := n1_
      have HB := n2_
      have HO287 := n3_
      clear n0_ n1_ n2_ n3_
      clear ho hb hg hat
      refine hK.out _ _ ⟨(bc BK272.out 0).trans rfl, (bc BK272.out 1).trans rfl, (bc BK272.out 2).trans rfl, (bc BK272.out 3).trans rfl, (bc BK272.out 4).trans rfl⟩ (fun hHeld => ?_)
      clear hK K
      refine norm_ (a' := ?_) ?_ ?_
      rotate_left
      ·show Act.put _ (some 54) _ = _
       simp only [Act.put, sA, sZ, sS, i64_w, i32_w]
       rfl
      exact norm_ (by simp only [putAll, Act.put, sA, sZ, sS]) (hCont (v279, v286, v289) _ ⟨hHeld, (Kd.qR HO287.out), m19, (qK BK272.out), m3⟩)
     skip
     refine Kd.R_lit_step k38 _ 38 ?hg (N := 50) ?hd (xs := ([] : List (S38))) (inner := []) (ok := fun _ => True) (okp := fun _ => True) ?hr ?hp (fun _ hk => hk) trivial (Below.refl _ _) (Nat.le_refl _) (by simp) ?_; (case hd => rfl); (case hg => rfl); (case hr => first | (go_simp; done) | (go_simp; rfl)); (case hp => exact (Reps.none _ _))
     intro v279 w54 ho55 hb hg_ hnew_
     clear hg_ hnew_
     (first | rw [← Ny278.out] at ho55 | (simp only [Int.reduceToNat] at ho55; rw [← Ny278.out] at ho55))
     have n0_ := zK (Kd.R_lower (Kd.R_newB ho55 (g := gb272) (o := .cells #[.int .i64 a1_0, .int .i64 a1_1, .int .i64 a1_2, .int .i64 a1_3, .int .i64 a1_4] 38 (0, 0)) (qK BK272.out)) (bZ m3))
     have n1_ := zK (bB (g := gb272) (o := .cells #[.int .i64 a1_0, .int .i64 a1_1, .int .i64 a1_2, .int .i64 a1_3, .int .i64 a1_4] 38 (0, 0)) (qK BK272.out) hb)
     have n2_ := zK (bT m3 hb)
     clear BK272
     clear HB
     have HO280 := n0_
     have BK272 := n1_
     have HB := n2_
     clear n0_ n1_ n2_
     clear hb ho55
     refine hK.out _ _ ⟨(bc BK272.out 0).trans rfl, (bc BK272.out 1).trans rfl, (bc BK272.out 2).trans rfl, (bc BK272.out 3).trans rfl, (bc BK272.out 4).trans rfl⟩ (fun hHeld => ?_)
     clear hK K
     refine norm_ (a' := ?_) ?_ ?_
     rotate_left
     ·show Act.put _ (some 50) _ = _
      simp only [Act.put, sA, sZ, sS, i64_w, i32_w]
      rfl
     refine two_ (i := 4) (j := 6) (Ni := some 54) (Nj := some 56) b4A45 b4A46 rfl rfl rfl rfl (two_of HT_.out (by kernel_rfl)) (by decide) (by decide) (fun K hK => ?_) (fun K hK => ?_)
     ·skip
      refine Kd.R_append_rows_step k38 (w0 := w) w.heap.size (by rfl) (.tmp 50) (.tmp 53) 30 38 (.agg #[(.int .i64 0), (.int .i64 0), (.int .i64 0), (.int .i64 0), (.int .i64 0)]) 40 rfl Try.underlying30 info38 rfl (by decide) (by omega) v279 y278 y281 _ _ _ (fun k_ => k_ ≠ gb272) (fun _ => False) rfl rfl ?aO ?aR (fun _ _ h => h) (fun _ h => h.elim) ?aF ?aB ?aS ?aL ?_
      (case aR => exact Kd.qC (Kd.C_below HR284.out HB.out))
      (case aB => exact m3)
      (case aF => exact (fun k_ hk => Kd.freshB (g := gb272) (o := .cells #[.int .i64 a1_0, .int .i64 a1_1, .int .i64 a1_2, .int .i64 a1_3, .int .i64 a1_4] 38 (0, 0)) (qK BK272.out) k_ hk))
      (case aO => exact (by (with_reducible repeat (first | apply Kd.RA | apply Kd.RN | apply Kd.RD)); exact Kd.R_mono HO280.out (fun _ hk => hk.2)))
      (case aS => exact (bZ m3))
      (case aL => have := LMc27.out; omega)
      intro v286 w56 ho hb hg hat
      rw [← Ny285.out] at ho
      have n0_ := zK (blk_grown (g := gb272) (o := .cells #[.int .i64 a1_0, .int .i64 a1_1, .int .i64 a1_2, .int .i64 a1_3, .int .i64 a1_4] 38 (0, 0)) (qK BK272.out) hg (Kd.R_away HO280.out (fun _ hk => hk.2)))
      have n1_ := zK (hb)
      have n2_ := zK (ho)
      clear BK272
      clear HB
      clear HO280
      have BK272 := n0_
      have HB := n1_
      have HO287 := n2_
      clear n0_ n1_ n2_
      clear ho hb hg hat
      refine hK.out _ _ ⟨(bc BK272.out 0).trans rfl, (bc BK272.out 1).trans rfl, (bc BK272.out 2).trans rfl, (bc BK272.out 3).trans rfl, (bc BK272.out 4).trans rfl⟩ (fun hHeld => ?_)
      clear hK K
      refine norm_ (a' := ?_) ?_ ?_
      rotate_left
      ·show Act.put _ (some 54) _ = _
       simp only [Act.put, sA, sZ, sS, i64_w, i32_w]
       rfl
      refine one_ (i := 6) (N := some 56) b4A42 rfl rfl (one_of HT_.out (by kernel_rfl)) (by decide) (fun K hK => ?_)
      refine Kd.R_lit_step k38 _ 38 ?hg (N := 56) ?hd (xs := ([(⟨a1_0, a1_1, a1_2, a1_3, a1_4⟩ : S38)] : List (S38))) (inner := [.int .i64 a1_0, .int .i64 a1_1, .int .i64 a1_2, .int .i64 a1_3, .int .i64 a1_4]) (ok := fun _ => True) (okp := fun _ => True) ?hr ?hp (fun _ hk => hk) trivial (Below.refl _ _) (Nat.le_refl _) (by simp) ?_; (case hd => rfl); (case hg => rfl); (case hr => first | (go_simp; done) | (go_simp; rfl)); (case hp => exact (Reps.c5 (show Kd.M k38 _ _ _ (⟨a1_0, a1_1, a1_2, a1_3, a1_4⟩ : S38) [.int .i64 a1_0, .int .i64 a1_1, .int .i64 a1_2, .int .i64 a1_3, .int .i64 a1_4] from (k38_mkM _ _ _ (⟨a1_0, a1_1, a1_2, a1_3, a1_4⟩ : S38) )) (Reps.none _ _)))
      intro v289 w57 ho58 hb hg_ hnew_
      clear hg_ hnew_
      (first | rw [← Ny288.out] at ho58 | (simp only [Int.reduceToNat] at ho58; rw [← Ny288.out] at ho58))
      have n0_ := zK (Kd.R_elder' (Kd.qR HO287.out) (Kd.R_base ho58) hb)
      have n1_ := zK (Kd.R_lower (Kd.R_newB (Kd.R_new' ho58 (Kd.R_lt (Kd.qR HO287.out))) (g := gb272) (o := .cells #[.int .i64 a1_0, .int .i64 a1_1, .int .i64 a1_2, .int .i64 a1_3, .int .i64 a1_4] 38 (0, 0)) (qK BK272.out)) (bZ m3))
      have n2_ := zK (bB (g := gb272) (o := .cells #[.int .i64 a1_0, .int .i64 a1_1, .int .i64 a1_2, .int .i64 a1_3, .int .i64 a1_4] 38 (0, 0)) (qK BK272.out) hb)
      have n3_ := zK (bT m3 hb)
      clear HO287
      clear BK272
      clear HB
      have HO287 := n0_
      have HO290 := n1_
      have BK272 := n2_
      have HB := n3_
      clear n0_ n1_ n2_ n3_
      clear hb ho58
      refine hK.out _ _ ⟨(bc BK272.out 0).trans rfl, (bc BK272.out 1).trans rfl, (bc BK272.out 2).trans rfl, (bc BK272.out 3).trans rfl, (bc BK272.out 4).trans rfl⟩ (fun hHeld => ?_)
      clear hK K
      refine norm_ (a' := ?_) ?_ ?_
      rotate_left
      ·show Act.put _ (some 56) _ = _
       simp only [Act.put, sA, sZ, sS, i64_w, i32_w]
       rfl
      exact norm_ (by simp only [putAll, Act.put, sA, sZ, sS]) (hCont (v279, v286, v289) _ ⟨hHeld, (by (with_reducible repeat (first | apply Kd.RA | apply Kd.RN | apply Kd.RD)); exact Kd.R_mono HO287.out (fun _ hk => ⟨hk.2, hk.1⟩)), m26, (qK BK272.out), m3⟩)
     skip
     refine Kd.R_lit_step k38 _ 38 ?hg (N := 56) ?hd (xs := ([(⟨a1_0, a1_1, a1_2, a1_3, a1_4⟩ : S38)] : List (S38))) (inner := [.int .i64 a1_0, .int .i64 a1_1, .int .i64 a1_2, .int .i64 a1_3, .int .i64 a1_4]) (ok := fun _ => True) (okp := fun _ => True) ?hr ?hp (fun _ hk => hk) trivial (Below.refl _ _) (Nat.le_refl _) (by simp) ?_; (case hd => rfl); (case hg => rfl); (case hr => first | (go_simp; done) | (go_simp; rfl)); (case hp => exact (Reps.c5 (show Kd.M k38 _ _ _ (⟨a1_0, a1_1, a1_2, a1_3, a1_4⟩ : S38) [.int .i64 a1_0, .int .i64 a1_1, .int .i64 a1_2, .int .i64 a1_3, .int .i64 a1_4] from (k38_mkM _ _ _ (⟨a1_0, a1_1, a1_2, a1_3, a1_4⟩ : S38) )) (Reps.none _ _)))
     intro v289 w56 ho57 hb hg_ hnew_
     clear hg_ hnew_
     (first | rw [← Ny288.out] at ho57 | (simp only [Int.reduceToNat] at ho57; rw [← Ny288.out] at ho57))
     have n0_ := zK (Kd.R_elder' (Kd.qR HO280.out) (Kd.R_base ho57) hb)
     have n1_ := zK (Kd.R_lower (Kd.R_newB (Kd.R_new' ho57 (Kd.R_lt (Kd.qR HO280.out))) (g := gb272) (o := .cells #[.int .i64 a1_0, .int .i64 a1_1, .int .i64 a1_2, .int .i64 a1_3, .int .i64 a1_4] 38 (0, 0)) (qK BK272.out)) (bZ m3))
     have n2_ := zK (bB (g := gb272) (o := .cells #[.int .i64 a1_0, .int .i64 a1_1, .int .i64 a1_2, .int .i64 a1_3, .int .i64 a1_4] 38 (0, 0)) (qK BK272.out) hb)
     have n3_ := zK (bT m3 hb)
     clear HO280
     clear BK272
     clear HB
     have HO280 := n0_
     have HO290 := n1_
     have BK272 := n2_
     have HB := n3_
     clear n0_ n1_ n2_ n3_
     clear hb ho57
     refine hK.out _ _ ⟨(bc BK272.out 0).trans rfl, (bc BK272.out 1).trans rfl, (bc BK272.out 2).trans rfl, (bc BK272.out 3).trans rfl, (bc BK272.out 4).trans rfl⟩ (fun hHeld => ?_)
     clear hK K
     refine norm_ (a' := ?_) ?_ ?_
     rotate_left
     ·show Act.put _ (some 56) _ = _
      simp only [Act.put, sA, sZ, sS, i64_w, i32_w]
      rfl
     refine one_ (i := 4) (N := some 54) b4A42 rfl rfl (one_of HT_.out (by kernel_rfl)) (by decide) (fun K hK => ?_)
     refine Kd.R_append_rows_step k38 (w0 := w) w.heap.size (by rfl) (.tmp 50) (.tmp 53) 30 38 (.agg #[(.int .i64 0), (.int .i64 0), (.int .i64 0), (.int .i64 0), (.int .i64 0)]) 40 rfl Try.underlying30 info38 rfl (by decide) (by omega) v279 y278 y281 _ _ _ (fun k_ => some k_ ≠ (v289 : Value).ownBlock ∧ k_ ≠ gb272) (fun _ => False) rfl rfl ?aO ?aR (fun _ _ h => h) (fun _ h => h.elim) ?aF ?aB ?aS ?aL ?_
     (case aR => exact Kd.qC (Kd.C_below HR284.out HB.out))
     (case aB => exact m3)
     (case aF => exact (fun k_ hk => ⟨Kd.fresh' (Kd.R_lt (Kd.qR HO290.out)) k_ hk, Kd.freshB (g := gb272) (o := .cells #[.int .i64 a1_0, .int .i64 a1_1, .int .i64 a1_2, .int .i64 a1_3, .int .i64 a1_4] 38 (0, 0)) (qK BK272.out) k_ hk⟩))
     (case aO => exact (by (with_reducible repeat (first | apply Kd.RA | apply Kd.RN | apply Kd.RD)); exact Kd.R_mono HO280.out (fun _ hk => ⟨hk.2, hk.1.2⟩)))
     (case aS => exact (bZ m3))
     (case aL => have := LMc27.out; omega)
     intro v286 w58 ho hb hg hat
     rw [← Ny285.out] at ho
     have n0_ := zK (blk_grown (g := gb272) (o := .cells #[.int .i64 a1_0, .int .i64 a1_1, .int .i64 a1_2, .int .i64 a1_3, .int .i64 a1_4] 38 (0, 0)) (qK BK272.out) hg (Kd.R_away HO280.out (fun _ hk => hk.1.2)))
     have n1_ := zK (Kd.R_after (ok := (fun k_ => k_ ≠ gb272)) (by (with_reducible repeat (first | apply Kd.RA | apply Kd.RN | apply Kd.RD)); exact Kd.R_mono HO290.out (fun _ hk => ⟨hk.2, hk.1.2⟩)) hg hat)
     have n2_ := zK (hb)
     have n3_ := zK (ho)
     clear BK272
     clear HO290
     clear HB
     clear HO280
     have BK272 := n0_
     have HO290 := n1_
     have HB := n2_
     have HO287 := n3_
     clear n0_ n1_ n2_ n3_
     clear ho hb hg hat
     refine hK.out _ _ ⟨(bc BK272.out 0).trans rfl, (bc BK272.out 1).trans rfl, (bc BK272.out 2).trans rfl, (bc BK272.out 3).trans rfl, (bc BK272.out 4).trans rfl⟩ (fun hHeld => ?_)
     clear hK K
     refine norm_ (a' := ?_) ?_ ?_
     rotate_left
     ·show Act.put _ (some 54) _ = _
      simp only [Act.put, sA, sZ, sS, i64_w, i32_w]
      rfl
     exact norm_ (by simp only [putAll, Act.put, sA, sZ, sS]) (hCont (v279, v286, v289) _ ⟨hHeld, (Kd.qR HO287.out), m19, (qK BK272.out), m3⟩)
    rintro ⟨v279, v286, v289⟩ w59 ⟨hS_, h0_, h1_, h2_, h3_⟩
    have n0_ : Aside0 (Kd.R k38 38 w59 w.heap.size (fun k_ => some k_ ≠ (v289 : Value).ownBlock ∧ k_ ≠ gb272) v286 y285) := ⟨h0_⟩
    have n1_ : Aside0 (Kd.R k38 38 w59 w.heap.size (fun k_ => some k_ ≠ (v286 : Value).ownBlock ∧ k_ ≠ gb272) v289 y288) := ⟨h1_⟩
    have n2_ : Aside0 (w59.heap[gb272]? = some (.cells #[.int .i64 a1_0, .int .i64 a1_1, .int .i64 a1_2, .int .i64 a1_3, .int .i64 a1_4] 38 (0, 0))) := ⟨h2_⟩
    have n3_ : Aside0 (Below w.heap.size w w59) := ⟨h3_⟩
    clear BK272
    clear HB
    clear h0_ h1_ h2_ h3_
    have HO287 := n0_
    have HO290 := n1_
    have BK272 := n2_
    have HB := n3_
    clear n0_ n1_ n2_ n3_
    have hHeld : w59.cell? ⟨gb272, 0, none⟩ = some (.int .i64 a1_0) ∧ w59.cell? ⟨gb272, 1, none⟩ = some (.int .i64 a1_1) ∧ w59.cell? ⟨gb272, 2, none⟩ = some (.int .i64 a1_2) ∧ w59.cell? ⟨gb272, 3, none⟩ = some (.int .i64 a1_3) ∧ w59.cell? ⟨gb272, 4, none⟩ = some (.int .i64 a1_4) := hS_
    obtain ⟨Ao61, co61, eo61⟩ := Kd.R_slice HO290.out
    (first | subst eo61 | (injection eo61 with f1_ f2_ f3_; have f4_ := f1_.symm; have f5_ := f3_.symm; clear f1_ f2_ f3_; subst f4_; subst f5_))
    refine norm_ (a' := ?_) ?_ ?_
    rotate_left
    ·simp only [putAll, Act.put, sA, sZ, sS]
     rfl
    refine one_ (i := 7) (N := some 57) b4A47 rfl rfl (one_of HT_.out (by kernel_rfl)) (by decide) (fun K hK => ?_)
    refine Kd.R_append_rows_step k38 (w0 := w) w.heap.size (by rfl) (.tmp 54) (.tmp 56) 30 38 (.agg #[(.int .i64 0), (.int .i64 0), (.int .i64 0), (.int .i64 0), (.int .i64 0)]) 40 rfl Try.underlying30 info38 rfl (by decide) (by omega) v286 y285 y288 _ _ _ (fun k_ => some k_ ≠ (.slice Ao61 y288.length co61 : Value).ownBlock ∧ k_ ≠ gb272) (fun _ => False) rfl rfl ?aO ?aR (fun _ _ h => h) (fun _ h => h.elim) ?aF ?aB ?aS ?aL ?_
    (case aR => repeat (first | exact (Kd.R_reads' HO290.out).2.2 | (with_reducible refine Kd.CA ?_ _) | (with_reducible refine Kd.CN ?_ _) | (with_reducible refine Kd.CD ?_)))
    (case aB => exact m3)
    (case aF => exact (fun k_ hk => ⟨Kd.fresh' (Kd.R_lt (Kd.qR HO290.out)) k_ hk, Kd.freshB (g := gb272) (o := .cells #[.int .i64 a1_0, .int .i64 a1_1, .int .i64 a1_2, .int .i64 a1_3, .int .i64 a1_4] 38 (0, 0)) (qK BK272.out) k_ hk⟩))
    (case aO => exact (Kd.qR HO287.out))
    (case aS => exact (bZ m3))
    (case aL => have := LMc28.out; omega)
    intro v292 w60 ho hb hg hat
    rw [← Ny291.out] at ho
    have n0_ := zK (blk_grown (g := gb272) (o := .cells #[.int .i64 a1_0, .int .i64 a1_1, .int .i64 a1_2, .int .i64 a1_3, .int .i64 a1_4] 38 (0, 0)) (qK BK272.out) hg (Kd.R_away HO287.out (fun _ hk => hk.2)))
    have n1_ := zK (Kd.R_after (ok := (fun k_ => k_ ≠ gb272)) m19 hg hat)
    have n2_ := zK (hb)
    have n3_ := zK (ho)
    clear BK272
    clear HO290
    clear HB
    clear HO287
    have BK272 := n0_
    have HO290 := n1_
    have HB := n2_
    have HO293 := n3_
    clear n0_ n1_ n2_ n3_
    clear ho hb hg hat
    refine hK.out _ _ ⟨(bc BK272.out 0).trans rfl, (bc BK272.out 1).trans rfl, (bc BK272.out 2).trans rfl, (bc BK272.out 3).trans rfl, (bc BK272.out 4).trans rfl⟩ (fun hHeld => ?_)
    clear hK K
    refine norm_ (a' := ?_) ?_ ?_
    rotate_left
    ·show Act.put _ (some 57) _ = _
     simp only [Act.put, sA, sZ, sS, i64_w, i32_w]
     rfl
    refine one_ (i := 11) (N := some 61) b4A48 rfl rfl (one_of HT_.out (by kernel_rfl)) (by decide) (fun K hK => ?_)
    refine Kd.R_append_rows_step k38 (w0 := w) w.heap.size (by rfl) (.tmp 57) (.tmp 60) 30 38 (.agg #[(.int .i64 0), (.int .i64 0), (.int .i64 0), (.int .i64 0), (.int .i64 0)]) 40 rfl Try.underlying30 info38 rfl (by decide) (by omega) v292 y291 y294 _ _ _ (fun k_ => some k_ ≠ (.slice Ao61 y288.length co61 : Value).ownBlock ∧ k_ ≠ gb272) (fun _ => False) rfl rfl ?aO ?aR (fun _ _ h => h) (fun _ h => h.elim) ?aF ?aB ?aS ?aL ?_
    (case aR => exact Kd.qC (Kd.C_below HR297.out HB.out))
    (case aB => exact m3)
    (case aF => exact (fun k_ hk => ⟨Kd.fresh' (Kd.R_lt (Kd.qR HO290.out)) k_ hk, Kd.freshB (g := gb272) (o := .cells #[.int .i64 a1_0, .int .i64 a1_1, .int .i64 a1_2, .int .i64 a1_3, .int .i64 a1_4] 38 (0, 0)) (qK BK272.out) k_ hk⟩))
    (case aO => exact (Kd.qR HO293.out))
    (case aS => exact (bZ m3))
    (case aL => have := LMc31.out; omega)
    intro v299 w62 ho hb hg hat
    rw [← Ny298.out] at ho
    have n0_ := zK (blk_grown (g := gb272) (o := .cells #[.int .i64 a1_0, .int .i64 a1_1, .int .i64 a1_2, .int .i64 a1_3, .int .i64 a1_4] 38 (0, 0)) (qK BK272.out) hg (Kd.R_away HO293.out (fun _ hk => hk.2)))
    have n1_ := zK (Kd.R_after (ok := (fun k_ => k_ ≠ gb272)) (Kd.qR HO290.out) hg hat)
    have n2_ := zK (hb)
    have n3_ := zK (ho)
    clear BK272
    clear HO290
    clear HB
    clear HO293
    have BK272 := n0_
    have HO290 := n1_
    have HB := n2_
    have HO300 := n3_
    clear n0_ n1_ n2_ n3_
    clear ho hb hg hat
    refine hK.out _ _ ⟨(bc BK272.out 0).trans rfl, (bc BK272.out 1).trans rfl, (bc BK272.out 2).trans rfl, (bc BK272.out 3).trans rfl, (bc BK272.out 4).trans rfl⟩ (fun hHeld => ?_)
    clear hK K
    refine norm_ (a' := ?_) ?_ ?_
    rotate_left
    ·show Act.put _ (some 61) _ = _
     simp only [Act.put, sA, sZ, sS, i64_w, i32_w]
     rfl
    refine pI 12 (some 9) b4A49 HT_ ?_
    refine done_ (done_of HT_.out (by kernel_rfl)) ?_
    obtain ⟨Ao63, co63, eo63⟩ := Kd.R_slice HO300.out
    subst eo63
    try go_wp2_with (first | (go_at_call 42; (with_reducible refine (spec_AreClaims.calls k1 _ _ y298 true _ ?side1 ?side2 A49.out).mono ?_); (case side1 => repeat (first | exact (Kd.R_reads' HO300.out).2.2 | (with_reducible refine Kd.CA ?_ _) | (with_reducible refine Kd.CN ?_ _) | (with_reducible refine Kd.CD ?_))); (case side2 => exact (Kd.R_reads' HO300.out).2.1); rintro e w64 ⟨rfl, hb⟩; have n0_ := zK (Kd.R_below (Kd.qR HO290.out) hb); have n1_ := zK (Kd.R_below (Kd.qR HO300.out) hb); have n2_ := zK (bB (g := gb272) (o := .cells #[.int .i64 a1_0, .int .i64 a1_1, .int .i64 a1_2, .int .i64 a1_3, .int .i64 a1_4] 38 (0, 0)) (qK BK272.out) hb); have n3_ := zK (bT m3 hb); clear HO290; clear HO300; clear BK272; clear HB; have HO290 := n0_; have HO300 := n1_; have BK272 := n2_; have HB := n3_; clear n0_ n1_ n2_ n3_; (try clear hb); (try clear hb2); (try clear hk); (try clear hi)))
    go_ret2
    exact ⟨_, by first | rfl | (simp [errW_none, errW_some] <;> rfl) | (simp [*, errW_none, errW_some] <;> rfl), by (with_reducible repeat (first | apply Kd.RA | apply Kd.RN | apply Kd.RD)); exact Kd.R_mono HO300.out (fun _ hk => trivial), by repeat (first | (with_reducible first | exact HB.out | apply bA | apply bN | apply below_drew1 | refine bS ?_ GE272.out) | exact HB.out)⟩
   replace c50 := Bool.eq_false_iff.mpr c50
   subst c50
   have H1 : ((some (([] : List (S38)) : List (S38))).bind fun y308 => (if y308.length + l0.length < 3518437208883 then (some ((y308 ++ l0), false)) else (none))) = some (r1, r2) := by rw [if_neg (show ¬ (false = true) by decide)] at H; exact H
   clear H
   have H := H1
   clear H1
   obtain ⟨y308, hy308⟩ : ∃ y_ : List (S38), y_ = (([] : List (S38))) := ⟨_, rfl⟩
   replace H : (if y308.length + l0.length < 3518437208883 then (some ((y308 ++ l0), false)) else (none)) = some (r1, r2) := by first | (rw [hy308]; with_reducible exact H) | (have H2_ := (Option.bind_some _ _).symm.trans H; rw [hy308]; with_reducible exact H2_) | (have H2_ := (Option.bind_some _ _).symm.trans H; with_reducible exact H2_) | with_reducible exact H | (rw [hy308]; exact H) | exact H
   have Ny308 := zK hy308
   clear hy308
   by_cases c65 : y308.length + l0.length < 3518437208883
   rotate_left
   ·rw [if_neg c65] at H
    exact absurd H (by simp)
   rw [if_pos c65] at H
   have LMc65 := zK c65
   clear c65
   obtain ⟨y311, hy311⟩ : ∃ y_ : List (S38), y_ = (y308 ++ l0) := ⟨_, rfl⟩
   replace H : (some (y311, false)) = some (r1, r2) := by first | (rw [hy311]; with_reducible exact H) | (have H2_ := (Option.bind_some _ _).symm.trans H; rw [hy311]; with_reducible exact H2_) | (have H2_ := (Option.bind_some _ _).symm.trans H; with_reducible exact H2_) | with_reducible exact H | (rw [hy311]; exact H) | exact H
   have Ny311 := zK hy311
   clear hy311
   simp only [Option.some.injEq, Prod.mk.injEq] at H
   obtain ⟨rfl, rfl⟩ := H
   try go_wp2
   have n0_ := zK (kD BK272.out)
   have n1_ := zK (below_drew1 HB.out)
   clear BK272
   clear HB
   have BK272 := n0_
   have HB := n1_
   clear n0_ n1_
   have q67 : (x6_1 : Int) ≤ ((l0.length : Int) : Int) := oD m2
   obtain ⟨i067, hi067, _, hsz67, _⟩ := info_parts info38
   have hroom67 : l0.length ≤ c0 := HC0.out
   have hC67 : Kd.C k38 _ A0 l0.length l0 := HR0.out
   have hcut67 := cut_to (P := Try.prog) 30 38 .i64 Try.underlying30 hi067 A0 l0.length c0 x6_1 (oD m2) q67 hroom67
   have hr67 := Kd.C_take (m := (x6_1 : Int).toNat) hC67 (by omega)
   have hy67 : y281.length = (x6_1 : Int).toNat := (by rw [Ny281.out, List.length_take]; omega)
   rw [← Ny281.out] at hr67
   rw [← hy67] at hcut67
   have HR284 := zK hr67
   have HC284 := zK (show y281.length ≤ c0 from by omega)
   clear hr67 hC67 hroom67 hi067 hsz67
   have KY67 := zK hy67
   clear hy67
   replace q67 := eq_true q67
   have q68 : (x6_1 : Int) ≤ ((l0.length : Int) : Int) := oD m2
   obtain ⟨i068, hi068, _, hsz68, _⟩ := info_parts info38
   have hroom68 : l0.length ≤ c0 := HC0.out
   have hC68 : Kd.C k38 _ A0 l0.length l0 := HR0.out
   have q068 : (0 : Int) ≤ (x6_1 : Int) := oD m2
   have hcut68 := cut_from (P := Try.prog) 30 38 .i64 Try.underlying30 hi068 5 hsz68 A0 l0.length c0 x6_1 q068 q68
   have hr68 := Kd.C_drop (m := (x6_1 : Int).toNat) (c := c0) hC68 (by omega) hroom68
   obtain ⟨A68, hA68⟩ : ∃ A1, A1 = (if c0 = (x6_1 : Int).toNat then A0 else (A0 : Option Addr).map (·.add ((x6_1 : Int).toNat * 5))) := ⟨_, rfl⟩
   obtain ⟨c68, hc68⟩ : ∃ c1, c1 = c0 - (x6_1 : Int).toNat := ⟨_, rfl⟩
   have hy68 : y294.length = l0.length - (x6_1 : Int).toNat := (by rw [Ny294.out, List.length_drop] <;> omega)
   rw [show (l0).drop (x6_1 : Int).toNat = y294 from Ny294.out.symm] at hr68
   replace hr68 : Kd.C k38 _ A68 y294.length y294 := (by rw [hA68]; exact hr68)
   rw [← hy68, ← hA68, ← hc68] at hcut68
   have HR297 := zK hr68
   have HC297 := zK (show y294.length ≤ c68 from by rw [hy68, hc68]; exact Nat.sub_le_sub_right hroom68 _)
   clear hr68 hC68 hroom68 hi068 hsz68 hc68
   have KY68 := zK hy68
   have KA68 := zK hA68
   clear hy68 hA68
   replace q68 := eq_true q68
   refine start_ (n := 13) (S := fun w' => w'.cell? ⟨gb272, 0, none⟩ = some (.int .i64 a1_0) ∧ w'.cell? ⟨gb272, 1, none⟩ = some (.int .i64 a1_1) ∧ w'.cell? ⟨gb272, 2, none⟩ = some (.int .i64 a1_2) ∧ w'.cell? ⟨gb272, 3, none⟩ = some (.int .i64 a1_3) ∧ w'.cell? ⟨gb272, 4, none⟩ = some (.int .i64 a1_4)) (ds := []) b4A34 (by kernel_rfl) rfl rfl ⟨(bc BK272.out 0).trans rfl, (bc BK272.out 1).trans rfl, (bc BK272.out 2).trans rfl, (bc BK272.out 3).trans rfl, (bc BK272.out 4).trans rfl⟩ (fun hHeld => ?_); refine with_tabW spec_AddClaim.tab9 spec_AddClaim.bits9 (fun HT_ HW_ => ?_)
   generalize wr.drew = w66 at BK272 HB HR284 HR297 hHeld ⊢
   refine pI 1 (some 51) b4A35 HT_ ?_
   refine pI 2 (some 52) b4A36 HT_ ?_
   refine pI 3 (some 53) b4A37 HT_ ?_
   refine pI 8 (some 58) b4A38 HT_ ?_
   refine pI 9 (some 59) b4A39 HT_ ?_
   refine pI 10 (some 60) b4A40 HT_ ?_
   refine tI 5 (some 55) b4A41 HT_ HW_ hHeld rfl rfl (Or.inl ⟨by rfl, by rintro w' ⟨s0, s1, s2, s3, s4⟩; go_simp; with_reducible rfl⟩) ?_
   refine join_ (σ := Value × Value × Value) 3 b4A42 (fun s_ => [(50, s_.1), (54, s_.2.1), (56, s_.2.2)]) (fun s_ w' => (w'.cell? ⟨gb272, 0, none⟩ = some (.int .i64 a1_0) ∧ w'.cell? ⟨gb272, 1, none⟩ = some (.int .i64 a1_1) ∧ w'.cell? ⟨gb272, 2, none⟩ = some (.int .i64 a1_2) ∧ w'.cell? ⟨gb272, 3, none⟩ = some (.int .i64 a1_3) ∧ w'.cell? ⟨gb272, 4, none⟩ = some (.int .i64 a1_4)) ∧ (Kd.R k38 38 w' w.heap.size (fun k_ => some k_ ≠ (s_.2.2 : Value).ownBlock ∧ k_ ≠ gb272) s_.2.1 y285) ∧ (Kd.R k38 38 w' w.heap.size (fun k_ => some k_ ≠ (s_.2.1 : Value).ownBlock ∧ k_ ≠ gb272) s_.2.2 y288) ∧ (w'.heap[gb272]? = some (.cells #[.int .i64 a1_0, .int .i64 a1_1, .int .i64 a1_2, .int .i64 a1_3, .int .i64 a1_4] 38 (0, 0))) ∧ (Below w.heap.size w w')) ?_ ?_
   rotate_left
   ·intro hCont
    refine two_ (i := 0) (j := 6) (Ni := some 50) (Nj := some 56) b4A43 b4A44 rfl rfl rfl rfl (two_of HT_.out (by kernel_rfl)) (by decide) (by decide) (fun K hK => ?_) (fun K hK => ?_)
    rotate_left
    ·skip
     refine Kd.R_lit_step k38 _ 38 ?hg (N := 56) ?hd (xs := ([(⟨a1_0, a1_1, a1_2, a1_3, a1_4⟩ : S38)] : List (S38))) (inner := [.int .i64 a1_0, .int .i64 a1_1, .int .i64 a1_2, .int .i64 a1_3, .int .i64 a1_4]) (ok := fun _ => True) (okp := fun _ => True) ?hr ?hp (fun _ hk => hk) trivial (Below.refl _ _) (Nat.le_refl _) (by simp) ?_; (case hd => rfl); (case hg => rfl); (case hr => first | (go_simp; done) | (go_simp; rfl)); (case hp => exact (Reps.c5 (show Kd.M k38 _ _ _ (⟨a1_0, a1_1, a1_2, a1_3, a1_4⟩ : S38) [.int .i64 a1_0, .int .i64 a1_1, .int .i64 a1_2, .int .i64 a1_3, .int .i64 a1_4] from (k38_mkM _ _ _ (⟨a1_0, a1_1, a1_2, a1_3, a1_4⟩ : S38) )) (Reps.none _ _)))
     intro v289 w69 ho70 hb hg_ hnew_
     clear hg_ hnew_
     (first | rw [← Ny288.out] at ho70 | (simp only [Int.reduceToNat] at ho70; rw [← Ny288.out] at ho70))
     have n0_ := zK (Kd.R_lower (Kd.R_newB ho70 (g := gb272) (o := .cells #[.int .i64 a1_0, .int .i64 a1_1, .int .i64 a1_2, .int .i64 a1_3, .int .i64 a1_4] 38 (0, 0)) (qK BK272.out)) (bZ m3))
     have n1_ := zK (bB (g := gb272) (o := .cells #[.int .i64 a1_0, .int .i64 a1_1, .int .i64 a1_2, .int .i64 a1_3, .int .i64 a1_4] 38 (0, 0)) (qK BK272.out) hb)
     have n2_ := zK (bT m3 hb)
     clear BK272
     clear HB
     have HO290 := n0_
     have BK272 := n1_
     have HB := n2_
     clear n0_ n1_ n2_
     clear hb ho70
     refine hK.out _ _ ⟨(bc BK272.out 0).trans rfl, (bc BK272.out 1).trans rfl, (bc BK272.out 2).trans rfl, (bc BK272.out 3).trans rfl, (bc BK272.out 4).trans rfl⟩ (fun hHeld => ?_)
     clear hK K
     refine norm_ (a' := ?_) ?_ ?_
     rotate_left
     ·show Act.put _ (some 56) _ = _
      simp only [Act.put, sA, sZ, sS, i64_w, i32_w]
      rfl
     refine one_ (i := 0) (N := some 50) b4A46 rfl rfl (one_of HT_.out (by kernel_rfl)) (by decide) (fun K hK => ?_)
     refine Kd.R_lit_step k38 _ 38 ?hg (N := 50) ?hd (xs := ([] : List (S38))) (inner := []) (ok := fun _ => True) (okp := fun _ => True) ?hr ?hp (fun _ hk => hk) trivial (Below.refl _ _) (Nat.le_refl _) (by simp) ?_; (case hd => rfl); (case hg => rfl); (case hr => first | (go_simp; done) | (go_simp; rfl)); (case hp => exact (Reps.none _ _))
     intro v279 w71 ho72 hb hg_ hnew_
     clear hg_ hnew_
     (first | rw [← Ny278.out] at ho72 | (simp only [Int.reduceToNat] at ho72; rw [← Ny278.out] at ho72))
     have n0_ := zK (Kd.R_elder' (Kd.qR HO290.out) (Kd.R_base ho72) hb)
     have n1_ := zK (Kd.R_lower (Kd.R_newB (Kd.R_new' ho72 (Kd.R_lt (Kd.qR HO290.out))) (g := gb272) (o := .cells #[.int .i64 a1_0, .int .i64 a1_1, .int .i64 a1_2, .int .i64 a1_3, .int .i64 a1_4] 38 (0, 0)) (qK BK272.out)) (bZ m3))
     have n2_ := zK (bB (g := gb272) (o := .cells #[.int .i64 a1_0, .int .i64 a1_1, .int .i64 a1_2, .int .i64 a1_3, .int .i64 a1_4] 38 (0, 0)) (qK BK272.out) hb)
     have n3_ := zK (bT m3 hb)
     clear HO290
     clear BK272
     clear HB
     have HO290 := n0_
     have HO280 := n1_
     have BK272 := n2_
     have HB := n3_
     clear n0_ n1_ n2_ n3_
     clear hb ho72
     refine hK.out _ _ ⟨(bc BK272.out 0).trans rfl, (bc BK272.out 1).trans rfl, (bc BK272.out 2).trans rfl, (bc BK272.out 3).trans rfl, (bc BK272.out 4).trans rfl⟩ (fun hHeld => ?_)
     clear hK K
     refine norm_ (a' := ?_) ?_ ?_
     rotate_left
     ·show Act.put _ (some 50) _ = _
      simp only [Act.put, sA, sZ, sS, i64_w, i32_w]
      rfl
     refine one_ (i := 4) (N := some 54) b4A42 rfl rfl (one_of HT_.out (by kernel_rfl)) (by decide) (fun K hK => ?_)
     refine Kd.R_append_rows_step k38 (w0 := w) w.heap.size (by rfl) (.tmp 50) (.tmp 53) 30 38 (.agg #[(.int .i64 0), (.int .i64 0), (.int .i64 0), (.int .i64 0), (.int .i64 0)]) 40 rfl Try.underlying30 info38 rfl (by decide) (by omega) v279 y278 y281 _ _ _ (fun k_ => some k_ ≠ (v289 : Value).ownBlock ∧ k_ ≠ gb272) (fun _ => False) rfl rfl ?aO ?aR (fun _ _ h => h) (fun _ h => h.elim) ?aF ?aB ?aS ?aL ?_
     (case aR => exact Kd.qC (Kd.C_below HR284.out HB.out))
     (case aB => exact m3)
     (case aF => exact (fun k_ hk => ⟨Kd.fresh' (Kd.R_lt (Kd.qR HO290.out)) k_ hk, Kd.freshB (g := gb272) (o := .cells #[.int .i64 a1_0, .int .i64 a1_1, .int .i64 a1_2, .int .i64 a1_3, .int .i64 a1_4] 38 (0, 0)) (qK BK272.out) k_ hk⟩))
     (case aO => exact (by (with_reducible repeat (first | apply Kd.RA | apply Kd.RN | apply Kd.RD)); exact Kd.R_mono HO280.out (fun _ hk => ⟨hk.1.2, hk.2⟩)))
     (case aS => exact (bZ m3))
     (case aL => have := LMc27.out; omega)
     intro v286 w73 ho hb hg hat
     rw [← Ny285.out] at ho
     have n0_ := zK (blk_grown (g := gb272) (o := .cells #[.int .i64 a1_0, .int .i64 a1_1, .int .i64 a1_2, .int .i64 a1_3, .int .i64 a1_4] 38 (0, 0)) (qK BK272.out) hg (Kd.R_away HO280.out (fun _ hk => hk.2)))
     have n1_ := zK (Kd.R_after (ok := (fun k_ => k_ ≠ gb272)) m26 hg hat)
     have n2_ := zK (hb)
     have n3_ := zK (ho)
     clear BK272
     clear HO290
     clear HB
     clear HO280
     have BK272 := n0_
     have HO290 := n1_
     have HB := n2_
     have HO287 := n3_
     clear n0_ n1_ n2_ n3_
     clear ho hb hg hat
     refine hK.out _ _ ⟨(bc BK272.out 0).trans rfl, (bc BK272.out 1).trans rfl, (bc BK272.out 2).trans rfl, (bc BK272.out 3).trans rfl, (bc BK272.out 4).trans rfl⟩ (fun hHeld => ?_)
     clear hK K
     refine norm_ (a' := ?_) ?_ ?_
     rotate_left
     ·show Act.put _ (some 54) _ = _
      simp only [Act.put, sA, sZ, sS, i64_w, i32_w]
      rfl
     exact norm_ (by simp only [putAll, Act.put, sA, sZ, sS]) (hCont (v279, v286, v289) _ ⟨hHeld, (Kd.qR HO287.out), m19, (qK BK272.out), m3⟩)
    skip
    refine Kd.R_lit_step k38 _ 38 ?hg (N := 50) ?hd (xs := ([] : List (S38))) (inner := []) (ok := fun _ => True) (okp := fun _ => True) ?hr ?hp (fun _ hk => hk) trivial (Below.refl _ _) (Nat.le_refl _) (by simp) ?_; (case hd => rfl); (case hg => rfl); (case hr => first | (go_simp; done) | (go_simp; rfl)); (case hp => exact (Reps.none _ _))
    intro v279 w69 ho70 hb hg_ hnew_
    clear hg_ hnew_
    (first | rw [← Ny278.out] at ho70 | (simp only [Int.reduceToNat] at ho70; rw [← Ny278.out] at ho70))
    have n0_ := zK (Kd.R_lower (Kd.R_newB ho70 (g := gb272) (o := .cells #[.int .i64 a1_0, .int .i64 a1_1, .int .i64 a1_2, .int .i64 a1_3, .int .i64 a1_4] 38 (0, 0)) (qK BK272.out)) (bZ m3))
    have n1_ := zK (bB (g := gb272) (o := .cells #[.int .i64 a1_0, .int .i64 a1_1, .int .i64 a1_2, .int .i64 a1_3, .int .i64 a1_4] 38 (0, 0)) (qK BK272.out) hb)
    have n2_ := zK (bT m3 hb)
    clear BK272
    clear HB
    have HO280 := n0_
    have BK272 := n1_
    have HB := n2_
    clear n0_ n1_ n2_
    clear hb ho70
    refine hK.out _ _ ⟨(bc BK272.out 0).trans rfl, (bc BK272.out 1).trans rfl, (bc BK272.out 2).trans rfl, (bc BK272.out 3).trans rfl, (bc BK272.out 4).trans rfl⟩ (fun hHeld => ?_)
    clear hK K
    refine norm_ (a' := ?_) ?_ ?_
    rotate_left
    ·show Act.put _ (some 50) _ = _
     simp only [Act.put, sA, sZ, sS, i64_w, i32_w]
     rfl
    refine two_ (i := 4) (j := 6) (Ni := some 54) (Nj := some 56) b4A45 b4A46 rfl rfl rfl rfl (two_of HT_.out (by kernel_rfl)) (by decide) (by decide) (fun K hK => ?_) (fun K hK => ?_)
    ·skip
     refine Kd.R_append_rows_step k38 (w0 := w) w.heap.size (by rfl) (.tmp 50) (.tmp 53) 30 38 (.agg #[(.int .i64 0), (.int .i64 0), (.int .i64 0), (.int .i64 0), (.int .i64 0)]) 40 rfl Try.underlying30 info38 rfl (by decide) (by omega) v279 y278 y281 _ _ _ (fun k_ => k_ ≠ gb272) (fun _ => False) rfl rfl ?aO ?aR (fun _ _ h => h) (fun _ h => h.elim) ?aF ?aB ?aS ?aL ?_
     (case aR => exact Kd.qC (Kd.C_below HR284.out HB.out))
     (case aB => exact m3)
     (case aF => exact (fun k_ hk => Kd.freshB (g := gb272) (o := .cells #[.int .i64 a1_0, .int .i64 a1_1, .int .i64 a1_2, .int .i64 a1_3, .int .i64 a1_4] 38 (0, 0)) (qK BK272.out) k_ hk))
     (case aO => exact (by (with_reducible repeat (first | apply Kd.RA | apply Kd.RN | apply Kd.RD)); exact Kd.R_mono HO280.out (fun _ hk => hk.2)))
     (case aS => exact (bZ m3))
     (case aL => have := LMc27.out; omega)
     intro v286 w71 ho hb hg hat
     rw [← Ny285.out] at ho
     have n0_ := zK (blk_grown (g := gb272) (o := .cells #[.int .i64 a1_0, .int .i64 a1_1, .int .i64 a1_2, .int .i64 a1_3, .int .i64 a1_4] 38 (0, 0)) (qK BK272.out) hg (Kd.R_away HO280.out (fun _ hk => hk.2)))
     have n1_ := zK (hb)
     have n2_ := zK (ho)
     clear BK272
     clear HB
     clear HO280
     have BK272 := n0_
     have HB := n1_
     have HO287 := n2_
     clear n0_ n1_ n2_
     clear ho hb hg hat
     refine hK.out _ _ ⟨(bc BK272.out 0).trans rfl, (bc BK272.out 1).trans rfl, (bc BK272.out 2).trans rfl, (bc BK272.out 3).trans rfl, (bc BK272.out 4).trans rfl⟩ (fun hHeld => ?_)
     clear hK K
     refine norm_ (a' := ?_) ?_ ?_
     rotate_left
     ·show Act.put _ (some 54) _ = _
      simp only [Act.put, sA, sZ, sS, i64_w, i32_w]
      rfl
     refine one_ (i := 6) (N := some 56) b4A42 rfl rfl (one_of HT_.out (by kernel_rfl)) (by decide) (fun K hK => ?_)
     refine Kd.R_lit_step k38 _ 38 ?hg (N := 56) ?hd (xs := ([(⟨a1_0, a1_1, a1_2, a1_3, a1_4⟩ : S38)] : List (S38))) (inner := [.int .i64 a1_0, .int .i64 a1_1, .int .i64 a1_2, .int .i64 a1_3, .int .i64 a1_4]) (ok := fun _ => True) (okp := fun _ => True) ?hr ?hp (fun _ hk => hk) trivial (Below.refl _ _) (Nat.le_refl _) (by simp) ?_; (case hd => rfl); (case hg => rfl); (case hr => first | (go_simp; done) | (go_simp; rfl)); (case hp => exact (Reps.c5 (show Kd.M k38 _ _ _ (⟨a1_0, a1_1, a1_2, a1_3, a1_4⟩ : S38) [.int .i64 a1_0, .int .i64 a1_1, .int .i64 a1_2, .int .i64 a1_3, .int .i64 a1_4] from (k38_mkM _ _ _ (⟨a1_0, a1_1, a1_2, a1_3, a1_4⟩ : S38) )) (Reps.none _ _)))
     intro v289 w72 ho73 hb hg_ hnew_
     clear hg_ hnew_
     (first | rw [← Ny288.out] at ho73 | (simp only [Int.reduceToNat] at ho73; rw [← Ny288.out] at ho73))
     have n0_ := zK (Kd.R_elder' (Kd.qR HO287.out) (Kd.R_base ho73) hb)
     have n1_ := zK (Kd.R_lower (Kd.R_newB (Kd.R_new' ho73 (Kd.R_lt (Kd.qR HO287.out))) (g := gb272) (o := .cells #[.int .i64 a1_0, .int .i64 a1_1, .int .i64 a1_2, .int .i64 a1_3, .int .i64 a1_4] 38 (0, 0)) (qK BK272.out)) (bZ m3))
     have n2_ := zK (bB (g := gb272) (o := .cells #[.int .i64 a1_0, .int .i64 a1_1, .int .i64 a1_2, .int .i64 a1_3, .int .i64 a1_4] 38 (0, 0)) (qK BK272.out) hb)
     have n3_ := zK (bT m3 hb)
     clear HO287
     clear BK272
     clear HB
     have HO287 := n0_
     have HO290 := n1_
     have BK272 := n2_
     have HB := n3_
     clear n0_ n1_ n2_ n3_
     clear hb ho73
     refine hK.out _ _ ⟨(bc BK272.out 0).trans rfl, (bc BK272.out 1).trans rfl, (bc BK272.out 2).trans rfl, (bc BK272.out 3).trans rfl, (bc BK272.out 4).trans rfl⟩ (fun hHeld => ?_)
     clear hK K
     refine norm_ (a' := ?_) ?_ ?_
     rotate_left
     ·show Act.put _ (some 56) _ = _
      simp only [Act.put, sA, sZ, sS, i64_w, i32_w]
      rfl
     exact norm_ (by simp only [putAll, Act.put, sA, sZ, sS]) (hCont (v279, v286, v289) _ ⟨hHeld, (by (with_reducible repeat (first | apply Kd.RA | apply Kd.RN | apply Kd.RD)); exact Kd.R_mono HO287.out (fun _ hk => ⟨hk.2, hk.1⟩)), m26, (qK BK272.out), m3⟩)
    skip
    refine Kd.R_lit_step k38 _ 38 ?hg (N := 56) ?hd (xs := ([(⟨a1_0, a1_1, a1_2, a1_3, a1_4⟩ : S38)] : List (S38))) (inner := [.int .i64 a1_0, .int .i64 a1_1, .int .i64 a1_2, .int .i64 a1_3, .int .i64 a1_4]) (ok := fun _ => True) (okp := fun _ => True) ?hr ?hp (fun _ hk => hk) trivial (Below.refl _ _) (Nat.le_refl _) (by simp) ?_; (case hd => rfl); (case hg => rfl); (case hr => first | (go_simp; done) | (go_simp; rfl)); (case hp => exact (Reps.c5 (show Kd.M k38 _ _ _ (⟨a1_0, a1_1, a1_2, a1_3, a1_4⟩ : S38) [.int .i64 a1_0, .int .i64 a1_1, .int .i64 a1_2, .int .i64 a1_3, .int .i64 a1_4] from (k38_mkM _ _ _ (⟨a1_0, a1_1, a1_2, a1_3, a1_4⟩ : S38) )) (Reps.none _ _)))
    intro v289 w71 ho72 hb hg_ hnew_
    clear hg_ hnew_
    (first | rw [← Ny288.out] at ho72 | (simp only [Int.reduceToNat] at ho72; rw [← Ny288.out] at ho72))
    have n0_ := zK (Kd.R_elder' (Kd.qR HO280.out) (Kd.R_base ho72) hb)
    have n1_ := zK (Kd.R_lower (Kd.R_newB (Kd.R_new' ho72 (Kd.R_lt (Kd.qR HO280.out))) (g := gb272) (o := .cells #[.int .i64 a1_0, .int .i64 a1_1, .int .i64 a1_2, .int .i64 a1_3, .int .i64 a1_4] 38 (0, 0)) (qK BK272.out)) (bZ m3))
    have n2_ := zK (bB (g := gb272) (o := .cells #[.int .i64 a1_0, .int .i64 a1_1, .int .i64 a1_2, .int .i64 a1_3, .int .i64 a1_4] 38 (0, 0)) (qK BK272.out) hb)
    have n3_ := zK (bT m3 hb)
    clear HO280
    clear BK272
    clear HB
    have HO280 := n0_
    have HO290 := n1_
    have BK272 := n2_
    have HB := n3_
    clear n0_ n1_ n2_ n3_
    clear hb ho72
    refine hK.out _ _ ⟨(bc BK272.out 0).trans rfl, (bc BK272.out 1).trans rfl, (bc BK272.out 2).trans rfl, (bc BK272.out 3).trans rfl, (bc BK272.out 4).trans rfl⟩ (fun hHeld => ?_)
    clear hK K
    refine norm_ (a' := ?_) ?_ ?_
    rotate_left
    ·show Act.put _ (some 56) _ = _
     simp only [Act.put, sA, sZ, sS, i64_w, i32_w]
     rfl
    refine one_ (i := 4) (N := some 54) b4A42 rfl rfl (one_of HT_.out (by kernel_rfl)) (by decide) (fun K hK => ?_)
    refine Kd.R_append_rows_step k38 (w0 := w) w.heap.size (by rfl) (.tmp 50) (.tmp 53) 30 38 (.agg #[(.int .i64 0), (.int .i64 0), (.int .i64 0), (.int .i64 0), (.int .i64 0)]) 40 rfl Try.underlying30 info38 rfl (by decide) (by omega) v279 y278 y281 _ _ _ (fun k_ => some k_ ≠ (v289 : Value).ownBlock ∧ k_ ≠ gb272) (fun _ => False) rfl rfl ?aO ?aR (fun _ _ h => h) (fun _ h => h.elim) ?aF ?aB ?aS ?aL ?_
    (case aR => exact Kd.qC (Kd.C_below HR284.out HB.out))
    (case aB => exact m3)
    (case aF => exact (fun k_ hk => ⟨Kd.fresh' (Kd.R_lt (Kd.qR HO290.out)) k_ hk, Kd.freshB (g := gb272) (o := .cells #[.int .i64 a1_0, .int .i64 a1_1, .int .i64 a1_2, .int .i64 a1_3, .int .i64 a1_4] 38 (0, 0)) (qK BK272.out) k_ hk⟩))
    (case aO => exact (by (with_reducible repeat (first | apply Kd.RA | apply Kd.RN | apply Kd.RD)); exact Kd.R_mono HO280.out (fun _ hk => ⟨hk.2, hk.1.2⟩)))
    (case aS => exact (bZ m3))
    (case aL => have := LMc27.out; omega)
    intro v286 w73 ho hb hg hat
    rw [← Ny285.out] at ho
    have n0_ := zK (blk_grown (g := gb272) (o := .cells #[.int .i64 a1_0, .int .i64 a1_1, .int .i64 a1_2, .int .i64 a1_3, .int .i64 a1_4] 38 (0, 0)) (qK BK272.out) hg (Kd.R_away HO280.out (fun _ hk => hk.1.2)))
    have n1_ := zK (Kd.R_after (ok := (fun k_ => k_ ≠ gb272)) (by (with_reducible repeat (first | apply Kd.RA | apply Kd.RN | apply Kd.RD)); exact Kd.R_mono HO290.out (fun _ hk => ⟨hk.2, hk.1.2⟩)) hg hat)
    have n2_ := zK (hb)
    have n3_ := zK (ho)
    clear BK272
    clear HO290
    clear HB
    clear HO280
    have BK272 := n0_
    have HO290 := n1_
    have HB := n2_
    have HO287 := n3_
    clear n0_ n1_ n2_ n3_
    clear ho hb hg hat
    refine hK.out _ _ ⟨(bc BK272.out 0).trans rfl, (bc BK272.out 1).trans rfl, (bc BK272.out 2).trans rfl, (bc BK272.out 3).trans rfl, (bc BK272.out 4).trans rfl⟩ (fun hHeld => ?_)
    clear hK K
    refine norm_ (a' := ?_) ?_ ?_
    rotate_left
    ·show Act.put _ (some 54) _ = _
     simp only [Act.put, sA, sZ, sS, i64_w, i32_w]
     rfl
    exact norm_ (by simp only [putAll, Act.put, sA, sZ, sS]) (hCont (v279, v286, v289) _ ⟨hHeld, (Kd.qR HO287.out), m19, (qK BK272.out), m3⟩)
   rintro ⟨v279, v286, v289⟩ w74 ⟨hS_, h0_, h1_, h2_, h3_⟩
   have n0_ : Aside0 (Kd.R k38 38 w74 w.heap.size (fun k_ => some k_ ≠ (v289 : Value).ownBlock ∧ k_ ≠ gb272) v286 y285) := ⟨h0_⟩
   have n1_ : Aside0 (Kd.R k38 38 w74 w.heap.size (fun k_ => some k_ ≠ (v286 : Value).ownBlock ∧ k_ ≠ gb272) v289 y288) := ⟨h1_⟩
   have n2_ : Aside0 (w74.heap[gb272]? = some (.cells #[.int .i64 a1_0, .int .i64 a1_1, .int .i64 a1_2, .int .i64 a1_3, .int .i64 a1_4] 38 (0, 0))) := ⟨h2_⟩
   have n3_ : Aside0 (Below w.heap.size w w74) := ⟨h3_⟩
   clear BK272
   clear HB
   clear h0_ h1_ h2_ h3_
   have HO287 := n0_
   have HO290 := n1_
   have BK272 := n2_
   have HB := n3_
   clear n0_ n1_ n2_ n3_
   have hHeld : w74.cell? ⟨gb272, 0, none⟩ = some (.int .i64 a1_0) ∧ w74.cell? ⟨gb272, 1, none⟩ = some (.int .i64 a1_1) ∧ w74.cell? ⟨gb272, 2, none⟩ = some (.int .i64 a1_2) ∧ w74.cell? ⟨gb272, 3, none⟩ = some (.int .i64 a1_3) ∧ w74.cell? ⟨gb272, 4, none⟩ = some (.int .i64 a1_4) := hS_
   obtain ⟨Ao76, co76, eo76⟩ := Kd.R_slice HO290.out
   (first | subst eo76 | (injection eo76 with f1_ f2_ f3_; have f4_ := f1_.symm; have f5_ := f3_.symm; clear f1_ f2_ f3_; subst f4_; subst f5_))
   refine norm_ (a' := ?_) ?_ ?_
   rotate_left
   ·simp only [putAll, Act.put, sA, sZ, sS]
    rfl
   refine one_ (i := 7) (N := some 57) b4A47 rfl rfl (one_of HT_.out (by kernel_rfl)) (by decide) (fun K hK => ?_)
   refine Kd.R_append_rows_step k38 (w0 := w) w.heap.size (by rfl) (.tmp 54) (.tmp 56) 30 38 (.agg #[(.int .i64 0), (.int .i64 0), (.int .i64 0), (.int .i64 0), (.int .i64 0)]) 40 rfl Try.underlying30 info38 rfl (by decide) (by omega) v286 y285 y288 _ _ _ (fun k_ => some k_ ≠ (.slice Ao76 y288.length co76 : Value).ownBlock ∧ k_ ≠ gb272) (fun _ => False) rfl rfl ?aO ?aR (fun _ _ h => h) (fun _ h => h.elim) ?aF ?aB ?aS ?aL ?_
   (case aR => repeat (first | exact (Kd.R_reads' HO290.out).2.2 | (with_reducible refine Kd.CA ?_ _) | (with_reducible refine Kd.CN ?_ _) | (with_reducible refine Kd.CD ?_)))
   (case aB => exact m3)
   (case aF => exact (fun k_ hk => ⟨Kd.fresh' (Kd.R_lt (Kd.qR HO290.out)) k_ hk, Kd.freshB (g := gb272) (o := .cells #[.int .i64 a1_0, .int .i64 a1_1, .int .i64 a1_2, .int .i64 a1_3, .int .i64 a1_4] 38 (0, 0)) (qK BK272.out) k_ hk⟩))
   (case aO => exact (Kd.qR HO287.out))
   (case aS => exact (bZ m3))
   (case aL => have := LMc28.out; omega)
   intro v292 w75 ho hb hg hat
   rw [← Ny291.out] at ho
   have n0_ := zK (blk_grown (g := gb272) (o := .cells #[.int .i64 a1_0, .int .i64 a1_1, .int .i64 a1_2, .int .i64 a1_3, .int .i64 a1_4] 38 (0, 0)) (qK BK272.out) hg (Kd.R_away HO287.out (fun _ hk => hk.2)))
   have n1_ := zK (Kd.R_after (ok := (fun k_ => k_ ≠ gb272)) m19 hg hat)
   have n2_ := zK (hb)
   have n3_ := zK (ho)
   clear BK272
   clear HO290
   clear HB
   clear HO287
   have BK272 := n0_
   have HO290 := n1_
   have HB := n2_
   have HO293 := n3_
   clear n0_ n1_ n2_ n3_
   clear ho hb hg hat
   refine hK.out _ _ ⟨(bc BK272.out 0).trans rfl, (bc BK272.out 1).trans rfl, (bc BK272.out 2).trans rfl, (bc BK272.out 3).trans rfl, (bc BK272.out 4).trans rfl⟩ (fun hHeld => ?_)
   clear hK K
   refine norm_ (a' := ?_) ?_ ?_
   rotate_left
   ·show Act.put _ (some 57) _ = _
    simp only [Act.put, sA, sZ, sS, i64_w, i32_w]
    rfl
   refine one_ (i := 11) (N := some 61) b4A48 rfl rfl (one_of HT_.out (by kernel_rfl)) (by decide) (fun K hK => ?_)
   refine Kd.R_append_rows_step k38 (w0 := w) w.heap.size (by rfl) (.tmp 57) (.tmp 60) 30 38 (.agg #[(.int .i64 0), (.int .i64 0), (.int .i64 0), (.int .i64 0), (.int .i64 0)]) 40 rfl Try.underlying30 info38 rfl (by decide) (by omega) v292 y291 y294 _ _ _ (fun k_ => some k_ ≠ (.slice Ao76 y288.length co76 : Value).ownBlock ∧ k_ ≠ gb272) (fun _ => False) rfl rfl ?aO ?aR (fun _ _ h => h) (fun _ h => h.elim) ?aF ?aB ?aS ?aL ?_
   (case aR => exact Kd.qC (Kd.C_below HR297.out HB.out))
   (case aB => exact m3)
   (case aF => exact (fun k_ hk => ⟨Kd.fresh' (Kd.R_lt (Kd.qR HO290.out)) k_ hk, Kd.freshB (g := gb272) (o := .cells #[.int .i64 a1_0, .int .i64 a1_1, .int .i64 a1_2, .int .i64 a1_3, .int .i64 a1_4] 38 (0, 0)) (qK BK272.out) k_ hk⟩))
   (case aO => exact (Kd.qR HO293.out))
   (case aS => exact (bZ m3))
   (case aL => have := LMc31.out; omega)
   intro v299 w77 ho hb hg hat
   rw [← Ny298.out] at ho
   have n0_ := zK (blk_grown (g := gb272) (o := .cells #[.int .i64 a1_0, .int .i64 a1_1, .int .i64 a1_2, .int .i64 a1_3, .int .i64 a1_4] 38 (0, 0)) (qK BK272.out) hg (Kd.R_away HO293.out (fun _ hk => hk.2)))
   have n1_ := zK (Kd.R_after (ok := (fun k_ => k_ ≠ gb272)) (Kd.qR HO290.out) hg hat)
   have n2_ := zK (hb)
   have n3_ := zK (ho)
   clear BK272
   clear HO290
   clear HB
   clear HO293
   have BK272 := n0_
   have HO290 := n1_
   have HB := n2_
   have HO300 := n3_
   clear n0_ n1_ n2_ n3_
   clear ho hb hg hat
   refine hK.out _ _ ⟨(bc BK272.out 0).trans rfl, (bc BK272.out 1).trans rfl, (bc BK272.out 2).trans rfl, (bc BK272.out 3).trans rfl, (bc BK272.out 4).trans rfl⟩ (fun hHeld => ?_)
   clear hK K
   refine norm_ (a' := ?_) ?_ ?_
   rotate_left
   ·show Act.put _ (some 61) _ = _
    simp only [Act.put, sA, sZ, sS, i64_w, i32_w]
    rfl
   refine pI 12 (some 9) b4A49 HT_ ?_
   refine done_ (done_of HT_.out (by kernel_rfl)) ?_
   obtain ⟨Ao78, co78, eo78⟩ := Kd.R_slice HO300.out
   subst eo78
   try go_wp2_with (first | (go_at_call 42; (with_reducible refine (spec_AreClaims.calls k1 _ _ y298 false _ ?side1 ?side2 A49.out).mono ?_); (case side1 => repeat (first | exact (Kd.R_reads' HO300.out).2.2 | (with_reducible refine Kd.CA ?_ _) | (with_reducible refine Kd.CN ?_ _) | (with_reducible refine Kd.CD ?_))); (case side2 => exact (Kd.R_reads' HO300.out).2.1); rintro e w79 ⟨rfl, hb⟩; have n0_ := zK (Kd.R_below (Kd.qR HO290.out) hb); have n1_ := zK (Kd.R_below (Kd.qR HO300.out) hb); have n2_ := zK (bB (g := gb272) (o := .cells #[.int .i64 a1_0, .int .i64 a1_1, .int .i64 a1_2, .int .i64 a1_3, .int .i64 a1_4] 38 (0, 0)) (qK BK272.out) hb); have n3_ := zK (bT m3 hb); clear HO290; clear HO300; clear BK272; clear HB; have HO290 := n0_; have HO300 := n1_; have BK272 := n2_; have HB := n3_; clear n0_ n1_ n2_ n3_; (try clear hb); (try clear hb2); (try clear hk); (try clear hi)) | ((with_reducible refine gate_dst (N := 68) rfl ?_); refine Kd.R_lit k38 _ 38 ?hg (N := 68) ?hd (xs := ([] : List (S38))) (inner := []) (ok := fun _ => True) (okp := fun _ => True) ?hr ?hp (fun _ hk => hk) trivial (Below.refl _ _) (Nat.le_refl _) (by simp) ?_; (case hd => rfl); (case hg => rfl); (case hr => first | (go_simp; done) | (go_simp; rfl)); (case hp => exact (Reps.none _ _)); intro v309 w80 ho81 hb hg_ hnew_; clear hg_ hnew_; (first | rw [← Ny308.out] at ho81 | (simp only [Int.reduceToNat] at ho81; rw [← Ny308.out] at ho81)); have n0_ := zK (Kd.R_elder' (Kd.qR HO290.out) (Kd.R_base ho81) hb); have n1_ := zK (Kd.R_elder' (Kd.qR HO300.out) (Kd.R_base ho81) hb); have n2_ := zK (Kd.R_lower (Kd.R_newB (Kd.R_new' (Kd.R_new' ho81 (Kd.R_lt (Kd.qR HO290.out))) (Kd.R_lt (Kd.qR HO300.out))) (g := gb272) (o := .cells #[.int .i64 a1_0, .int .i64 a1_1, .int .i64 a1_2, .int .i64 a1_3, .int .i64 a1_4] 38 (0, 0)) (qK BK272.out)) (bZ m3)); have n3_ := zK (bB (g := gb272) (o := .cells #[.int .i64 a1_0, .int .i64 a1_1, .int .i64 a1_2, .int .i64 a1_3, .int .i64 a1_4] 38 (0, 0)) (qK BK272.out) hb); have n4_ := zK (bT m3 hb); clear HO290; clear HO300; clear BK272; clear HB; have HO290 := n0_; have HO300 := n1_; have HO310 := n2_; have BK272 := n3_; have HB := n4_; clear n0_ n1_ n2_ n3_ n4_; clear hb ho81) | ((with_reducible refine gate_builtin (b := .append) (xs := #[.tmp 68, .tmp 69]) rfl ?_); at_builtin; refine Kd.R_append_rows k38 (w0 := w) w.heap.size rfl (.tmp 68) (.tmp 69) 30 38 (.agg #[(.int .i64 0), (.int .i64 0), (.int .i64 0), (.int .i64 0), (.int .i64 0)]) 40 rfl Try.underlying30 info38 rfl (by decide) (by omega) v309 y308 l0 _ _ _ (fun k_ => some k_ ≠ (.slice Ao76 y288.length co76 : Value).ownBlock ∧ some k_ ≠ (.slice Ao78 y298.length co78 : Value).ownBlock ∧ k_ ≠ gb272) (fun _ => False) rfl rfl ?aO ?aR (fun _ _ h => h) (fun _ h => h.elim) ?aF ?aB ?aS ?aL ?_; (case aR => exact Kd.qC (Kd.C_below HR0.out HB.out)); (case aB => exact m3); (case aF => exact (fun k_ hk => ⟨Kd.fresh' (Kd.R_lt (Kd.qR HO290.out)) k_ hk, Kd.fresh' (Kd.R_lt (Kd.qR HO300.out)) k_ hk, Kd.freshB (g := gb272) (o := .cells #[.int .i64 a1_0, .int .i64 a1_1, .int .i64 a1_2, .int .i64 a1_3, .int .i64 a1_4] 38 (0, 0)) (qK BK272.out) k_ hk⟩)); (case aO => exact (by (with_reducible repeat (first | apply Kd.RA | apply Kd.RN | apply Kd.RD)); exact Kd.R_mono HO310.out (fun _ hk => ⟨hk.1.1.2, ⟨hk.1.2, hk.2⟩⟩))); (case aS => exact (bZ m3)); (case aL => have := LMc65.out; omega); intro v312 w82 ho hb hg hat; rw [← Ny311.out] at ho; have n0_ := zK (blk_grown (g := gb272) (o := .cells #[.int .i64 a1_0, .int .i64 a1_1, .int .i64 a1_2, .int .i64 a1_3, .int .i64 a1_4] 38 (0, 0)) (qK BK272.out) hg (Kd.R_away HO310.out (fun _ hk => hk.2))); have n1_ := zK (Kd.R_after (ok := (fun k_ => some k_ ≠ (.slice Ao78 y298.length co78 : Value).ownBlock ∧ k_ ≠ gb272)) (by (with_reducible repeat (first | apply Kd.RA | apply Kd.RN | apply Kd.RD)); exact Kd.R_mono HO290.out (fun _ hk => ⟨⟨hk.1.2, hk.1.1⟩, hk.2⟩)) hg hat); have n2_ := zK (Kd.R_after (ok := (fun k_ => some k_ ≠ (.slice Ao76 y288.length co76 : Value).ownBlock ∧ k_ ≠ gb272)) (Kd.qR HO300.out) hg hat); have n3_ := zK (hb); have n4_ := zK (ho); clear BK272; clear HO290; clear HO300; clear HB; clear HO310; have BK272 := n0_; have HO290 := n1_; have HO300 := n2_; have HB := n3_; have HO313 := n4_; clear n0_ n1_ n2_ n3_ n4_; clear ho hb hg hat))
   go_ret2
   exact ⟨_, by first | rfl | (simp [errW_none, errW_some] <;> rfl) | (simp [*, errW_none, errW_some] <;> rfl), by (with_reducible repeat (first | apply Kd.RA | apply Kd.RN | apply Kd.RD)); exact Kd.R_mono HO313.out (fun _ hk => trivial), by repeat (first | (with_reducible first | exact HB.out | apply bA | apply bN | apply below_drew1 | refine bS ?_ GE272.out) | exact HB.out)⟩
end Go.Proofs.Ytfoallhhdilgjaa.PFnFates
