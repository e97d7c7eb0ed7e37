/- Walks of functions that FnExactLettersFor reaches: written by a tool of the kit for this claim, then shortened by a program of ours. -/
import Derived.Test.YtpkdbkheggfkkaaPFnExactLettersForx0
import Derived.Test.YtpkdbkheggfkkaaPFnExactLettersForx2
/- narrow -/
namespace Go.Proofs.Ytpkdbkheggfkkaa.PFnExactLettersFor
open Go.RowKit Go.Proofs.YtpkdbkheggfkkaaW.PrintWords Go.Proofs.YtpkdbkheggfkkaaW.PrintLast Go.Proofs.YtpkdbkheggfkkaaW.PrintMore
attribute [local go_sem] max2_int min2_int max_two min_two max_three min_three max_four min_four   -- for this text's walks alone
set_option linter.unusedVariables false
set_option linter.unusedSimpArgs false

abbrev b3A0 : Array Bool := #[bo, bo, bo, bo, bo, bo, bo, bo, bo, bo, bo, bo, bo, bo, bo, bo, bo, bo, bo, bo, bo, bo, bo, bo, bo, bo, bo, bo, bo, bo, bo]
abbrev b3A1 : Array Bool := #[bi, bo, bo, bo, bo, bo, bo, bo, bo, bo, bo, bo, bo, bo, bo, bo, bo, bo, bo, bo, bo, bo, bo, bo, bo, bo, bo, bo, bo, bo, bo]
abbrev b3A2 : Array Bool := #[bi, bi, bo, bo, bo, bo, bo, bo, bo, bo, bo, bo, bo, bo, bo, bo, bo, bo, bo, bo, bo, bo, bo, bo, bo, bo, bo, bo, bo, bo, bo]
abbrev b3A3 : Array Bool := #[bi, bi, bi, bo, bo, bo, bo, bo, bo, bo, bo, bo, bo, bo, bo, bo, bo, bo, bo, bo, bo, bo, bo, bo, bo, bo, bo, bo, bo, bo, bo]
abbrev b3A4 : Array Bool := #[bi, bi, bi, bi, bo, bo, bo, bo, bo, bo, bo, bo, bo, bo, bo, bo, bo, bo, bo, bo, bo, bo, bo, bo, bo, bo, bo, bo, bo, bo, bo]
abbrev b3A5 : Array Bool := #[bi, bi, bi, bi, bi, bo, bo, bo, bo, bo, bo, bo, bo, bo, bo, bo, bo, bo, bo, bo, bo, bo, bo, bo, bo, bo, bo, bo, bo, bo, bo]
abbrev b3A6 : Array Bool := #[bi, bi, bi, bi, bi, bi, bo, bo, bo, bo, bo, bo, bo, bo, bo, bo, bo, bo, bo, bo, bo, bo, bo, bo, bo, bo, bo, bo, bo, bo, bo]
abbrev b3A7 : Array Bool := #[bi, bi, bi, bi, bi, bi, bi, bo, bo, bo, bo, bo, bo, bo, bo, bo, bo, bo, bo, bo, bo, bo, bo, bo, bo, bo, bo, bo, bo, bo, bo]
abbrev b3A8 : Array Bool := #[bi, bi, bi, bi, bi, bi, bi, bi, bo, bo, bo, bo, bo, bo, bo, bo, bo, bo, bo, bo, bo, bo, bo, bo, bo, bo, bo, bo, bo, bo, bo]
abbrev b3A9 : Array Bool := #[bi, bi, bi, bi, bi, bi, bi, bi, bi, bo, bo, bo, bo, bo, bo, bo, bo, bo, bo, bo, bo, bo, bo, bo, bo, bo, bo, bo, bo, bo, bo]
abbrev b3A10 : Array Bool := #[bi, bi, bi, bi, bi, bi, bi, bi, bi, bi, bo, bo, bo, bo, bo, bo, bo, bo, bo, bo, bo, bo, bo, bo, bo, bo, bo, bo, bo, bo, bo]
abbrev b3A11 : Array Bool := #[bi, bi, bi, bi, bi, bi, bi, bi, bi, bi, bi, bo, bo, bo, bo, bo, bo, bo, bo, bo, bo, bo, bo, bo, bo, bo, bo, bo, bo, bo, bo]
abbrev b3A12 : Array Bool := #[bi, bi, bi, bi, bi, bi, bi, bi, bi, bi, bi, bi, bo, bo, bo, bo, bo, bo, bo, bo, bo, bo, bo, bo, bo, bo, bo, bo, bo, bo, bo]
abbrev b3A13 : Array Bool := #[bi, bi, bi, bi, bi, bi, bi, bi, bi, bi, bi, bi, bi, bo, bo, bo, bo, bo, bo, bo, bo, bo, bo, bo, bo, bo, bo, bo, bo, bo, bo]
abbrev b3A14 : Array Bool := #[bi, bi, bi, bi, bi, bi, bi, bi, bi, bi, bi, bi, bi, bi, bo, bo, bo, bo, bo, bo, bo, bo, bo, bo, bo, bo, bo, bo, bo, bo, bo]
abbrev b3A15 : Array Bool := #[bi, bi, bi, bi, bi, bi, bi, bi, bi, bi, bi, bi, bi, bi, bi, bo, bo, bo, bo, bo, bo, bo, bo, bo, bo, bo, bo, bo, bo, bo, bo]
abbrev b3A16 : Array Bool := #[bi, bi, bi, bi, bi, bi, bi, bi, bi, bi, bi, bi, bi, bi, bi, bi, bo, bo, bo, bo, bo, bo, bo, bo, bo, bo, bo, bo, bo, bo, bo]
abbrev b3A17 : Array Bool := #[bi, bi, bi, bi, bi, bi, bi, bi, bi, bi, bi, bi, bi, bi, bi, bi, bi, bo, bo, bo, bo, bo, bo, bo, bo, bo, bo, bo, bo, bo, bo]
abbrev b3A18 : Array Bool := #[bi, bi, bi, bi, bi, bi, bi, bi, bi, bi, bi, bi, bi, bi, bi, bi, bi, bi, bo, bo, bo, bo, bo, bo, bo, bo, bo, bo, bo, bo, bo]
abbrev b3A19 : Array Bool := #[bi, bi, bi, bi, bi, bi, bi, bi, bi, bi, bi, bi, bi, bi, bi, bi, bi, bi, bi, bo, bo, bo, bo, bo, bo, bo, bo, bo, bo, bo, bo]
abbrev b3A20 : Array Bool := #[bi, bi, bi, bi, bi, bi, bi, bi, bi, bi, bi, bi, bi, bi, bi, bi, bi, bi, bi, bi, bo, bo, bo, bo, bo, bo, bo, bo, bo, bo, bo]
abbrev b3A21 : Array Bool := #[bi, bi, bi, bi, bi, bi, bi, bi, bi, bi, bi, bi, bi, bi, bi, bi, bi, bi, bi, bi, bi, bo, bo, bo, bo, bo, bo, bo, bo, bo, bo]
abbrev b3A22 : Array Bool := #[bi, bi, bi, bi, bi, bi, bi, bi, bi, bi, bi, bi, bi, bi, bi, bi, bi, bi, bi, bi, bi, bo, bi, bo, bo, bo, bo, bo, bo, bo, bo]
abbrev b3A23 : Array Bool := #[bi, bi, bi, bi, bi, bi, bi, bi, bi, bi, bi, bi, bi, bi, bi, bi, bi, bi, bi, bi, bi, bo, bi, bi, bo, bo, bo, bo, bo, bo, bo]
abbrev b3A24 : Array Bool := #[bi, bi, bi, bi, bi, bi, bi, bi, bi, bi, bi, bi, bi, bi, bi, bi, bi, bi, bi, bi, bi, bo, bi, bi, bi, bo, bo, bo, bo, bo, bo]
abbrev b3A25 : Array Bool := #[bi, bi, bi, bi, bi, bi, bi, bi, bi, bi, bi, bi, bi, bi, bi, bi, bi, bi, bi, bi, bi, bo, bi, bi, bi, bi, bo, bo, bo, bo, bo]
abbrev b3A26 : Array Bool := #[bi, bi, bi, bi, bi, bi, bi, bi, bi, bi, bi, bi, bi, bi, bi, bi, bi, bi, bi, bi, bi, bo, bi, bi, bi, bi, bi, bo, bo, bo, bo]
abbrev b3A27 : Array Bool := #[bi, bi, bi, bi, bi, bi, bi, bi, bi, bi, bi, bi, bi, bi, bi, bi, bi, bi, bi, bi, bi, bi, bi, bi, bi, bi, bi, bo, bo, bo, bo]
abbrev b3A28 : Array Bool := #[bi, bi, bi, bi, bi, bi, bi, bi, bi, bi, bi, bi, bi, bi, bi, bi, bi, bi, bi, bi, bi, bi, bi, bi, bi, bi, bi, bi, bo, bo, bo]
abbrev b3A29 : Array Bool := #[bi, bi, bi, bi, bi, bi, bi, bi, bi, bi, bi, bi, bi, bi, bi, bi, bi, bi, bi, bi, bi, bi, bi, bi, bi, bi, bi, bi, bi, bo, bo]
abbrev b3A30 : Array Bool := #[bi, bi, bi, bi, bi, bi, bi, bi, bi, bi, bi, bi, bi, bi, bi, bi, bi, bi, bi, bi, bi, bi, bi, bi, bi, bi, bi, bi, bi, bi, bo]
abbrev b3A31 : Array Bool := #[bi, bi, bi, bi, bi, bi, bi, bi, bi, bi, bi, bi, bi, bi, bi, bi, bi, bi, bi, bi, bi, bi, bi, bi, bi, bi, bi, bi, bi, bi, bi]
abbrev b3A32 : Array Bool := #[bi, bi, bi, bi, bi, bi, bi, bi, bi, bi, bi, bi, bi, bi, bi, bi, bi, bi, bi, bi, bi, bi, bo, bo, bo, bo, bo, bo, bo, bo, bo]
abbrev b3A33 : Array Bool := #[bi, bi, bi, bi, bi, bi, bi, bi, bi, bi, bi, bi, bi, bi, bi, bi, bi, bi, bi, bi, bi, bi, bi, bo, bo, bo, bo, bo, bo, bo, bo]
abbrev b3A34 : Array Bool := #[bi, bi, bi, bi, bi, bi, bi, bi, bi, bi, bi, bi, bi, bi, bi, bi, bi, bi, bi, bi, bi, bi, bi, bi, bo, bo, bo, bo, bo, bo, bo]
abbrev b3A35 : Array Bool := #[bi, bi, bi, bi, bi, bi, bi, bi, bi, bi, bi, bi, bi, bi, bi, bi, bi, bi, bi, bi, bi, bi, bi, bi, bi, bo, bo, bo, bo, bo, bo]
abbrev b3A36 : Array Bool := #[bi, bi, bi, bi, bi, bi, bi, bi, bi, bi, bi, bi, bi, bi, bi, bi, bi, bi, bi, bi, bi, bi, bi, bi, bi, bi, bo, bo, bo, bo, bo]
/-! ### impl_AreLetters: function 53 -/
mutual
def impl_AreLetters.l0 : Nat → List (S81) → List (S81) → Int → Int → Option (Bool)
 | 0, _, _, _, _ => none
 | k + 1, x0, x10, x11, x12 => if x12 < x11 then (if 0 ≤ x12 then (if x12 < (x10.length : Int) then ((impl_InRange.f ((rd_T81 x10 x12).f0) 1 999).bind fun t135 => (if t135 = true then ((impl_InRange.f ((rd_T81 x10 x12).f1) 1 999).bind fun t136 => (if t136 = true then ((impl_InRange.f ((rd_T81 x10 x12).f2) 0 100000).bind fun t137 => (if t137 = true then (if x12 > 0 then (if 0 ≤ (wrap64 (x12 - 1)) then (if (wrap64 (x12 - 1)) < (x0.length : Int) then (impl_AreLetters.j1 k x0 x12 x10 x11 x12 (decide (((rd_T81 x10 x12).f2) < ((rd_T81 x0 (wrap64 (x12 - 1))).f2))) ((rd_T81 x10 x12).f0) ((rd_T81 x10 x12).f1) ((rd_T81 x10 x12).f2)) else (none)) else (none)) else (impl_AreLetters.j1 k x0 x12 x10 x11 x12 false ((rd_T81 x10 x12).f0) ((rd_T81 x10 x12).f1) ((rd_T81 x10 x12).f2))) else (impl_AreLetters.j1 k x0 x12 x10 x11 x12 true ((rd_T81 x10 x12).f0) ((rd_T81 x10 x12).f1) ((rd_T81 x10 x12).f2)))) else (impl_AreLetters.j1 k x0 x12 x10 x11 x12 true ((rd_T81 x10 x12).f0) ((rd_T81 x10 x12).f1) ((rd_T81 x10 x12).f2)))) else (impl_AreLetters.j1 k x0 x12 x10 x11 x12 true ((rd_T81 x10 x12).f0) ((rd_T81 x10 x12).f1) ((rd_T81 x10 x12).f2)))) else (none)) else (none)) else (some true)
def impl_AreLetters.j1 : Nat → List (S81) → Int → List (S81) → Int → Int → Bool → Int → Int → Int → Option (Bool)
 | 0, _, _, _, _, _, _, _, _, _ => none
 | k + 1, x0, x3, x10, x11, x12, x47, x135000, x135001, x135002 => if x47 = true then (some false) else (if 0 ≤ x3 then (if x3 ≤ (x0.length : Int) then ((some (x0.take (x3 : Int).toNat : List (S81))).bind fun y139 => (impl_AreLetters.l1 k x0 x10 x11 x12 y139 (y139.length : Int) 0 x135000 x135001 x135002)) else (none)) else (none))
def impl_AreLetters.l1 : Nat → List (S81) → List (S81) → Int → Int → List (S81) → Int → Int → Int → Int → Int → Option (Bool)
 | 0, _, _, _, _, _, _, _, _, _, _ => none
 | k + 1, x0, x10, x11, x12, x50, x51, x52, x135000, x135001, x135002 => if x52 < x51 then (if 0 ≤ x52 then (if x52 < (x50.length : Int) then (if x135000 = ((rd_T81 x50 x52).f0) then (if x135001 = ((rd_T81 x50 x52).f1) then (some false) else (if (wrap64 (x135002 - ((rd_T81 x50 x52).f2))) < 168 then (some false) else (impl_AreLetters.l1 k x0 x10 x11 x12 x50 x51 (wrap64 (x52 + 1)) x135000 x135001 x135002))) else (impl_AreLetters.l1 k x0 x10 x11 x12 x50 x51 (wrap64 (x52 + 1)) x135000 x135001 x135002)) else (none)) else (none)) else (impl_AreLetters.l0 k x0 x10 x11 (wrap64 (x12 + 1)))
end
def impl_AreLetters.f (k : Nat) (l0 : List (S81)) : Option (Bool) := if (l0.length : Int) > 60 then (some false) else (impl_AreLetters.l0 k l0 l0 (l0.length : Int) 0)
def impl_AreLetters.T6 : Bool × List (List Nat × List Nat) := (true, [([], []), ([0], [0]), ([1], [1]), ([2], [2]), ([3, 2], [3]), ([4], [4]), ([5, 4], [4, 5]), ([6, 4, 4], [4, 6]), ([7, 4], [4, 7]), ([4, 8], [4, 8]), ([9, 7], [9]), ([10], [10]), ([11, 10], [10, 11]), ([12, 10, 10], [10, 12]), ([13, 10], [10, 13]), ([10, 14], [10, 14]), ([15, 13], [15]), ([16], [16]), ([17, 16], [16, 17]), ([18, 16, 16], [16, 18]), ([19], [19]), ([20, 19], [19, 20]), ([19], [19]), ([19], [19]), ([23, 19], [19, 23]), ([22, 24, 19], [19, 22, 24]), ([25, 19], [19, 25]), ([26, 19], [19, 26]), ([21, 27, 19], [19, 21, 27]), ([19, 28, 16], [16, 19, 28]), ([16, 29], [16, 29])])
def impl_AreLetters.B6 : List Nat := [0, 1, 3, 7, 15, 31, 63, 127, 255, 511, 1023, 2047, 4095, 8191, 16383, 32767, 65535, 131071, 262143, 524287, 1048575, 2097151, 1048575, 1048575, 9437183, 30408703, 63963135, 131071999, 268435455, 536870911, 1073741823]
theorem impl_AreLetters.tab6 : rtab .any (opsOf Try.f53 6) = impl_AreLetters.T6 := by kernel_rfl
theorem impl_AreLetters.bits6 : waitsOk impl_AreLetters.T6.2 impl_AreLetters.B6 = true := by kernel_rfl
set_option maxRecDepth 100000 in
theorem lf3_0 {p : Prop} (h : p := by
  go_wp2_with (first | ((with_reducible refine gate_dst (N := 6) rfl ?_); refine box_event ?hg (N := 6) ?hd (cs := #[.int .i64 0, .int .i64 0, .int .i64 0]) (t := 81) ?hr ?_; (case hd => rfl); (case hg => rfl); (case hr => first | (go_simp; done) | (go_simp; rfl)); intro gb144 hg wz0 hbox hb; have _ := zK (bB (qK BK134.o) hb); have _ := zK (bT M15 hb); have _ := zK (hbox); have _ := zK ((by rw [hg]; exact (bZ M15) : w.heap.size ≤ gb144)); have _ := zK ((by rw [hg]; exact (bZ M15) : w.heap.size ≤ gb144)); have _ := zK ((by rw [hg]; exact Nat.ne_of_lt (blk_lt (qK BK134.o)) : gb134 ≠ gb144)); have _ := zK ((by rw [hg]; exact Nat.ne_of_gt (blk_lt (qK BK134.o)) : gb144 ≠ gb134)); clear BK134 HB; rename_i BK134 HB BK144 GW144 GE144 NB134_144 NB144_134; clear hb hbox hg; have hnbz0 := NB144_134.o; have hncz0 := NB134_144.o; obtain ⟨hczz1_0, hczz1_1, hczz1_2, hfzz1_0, hfzz1_1, hfzz1_2⟩ := bx3 BK144.o; obtain ⟨hczz2_0, hczz2_1, hczz2_2, hfzz2_0, hfzz2_1, hfzz2_2⟩ := bx3 BK134.o))
  go_ret
  exact ⟨by first | rfl | (simp [errW_none, errW_some] <;> rfl) | (simp [*, errW_none, errW_some] <;> rfl), by exact qX HB.o⟩) : p := h
set_option maxHeartbeats 8000000 in
set_option maxRecDepth 100000 in
theorem impl_AreLetters.calls (k : Nat) (A0 : Option Addr) (c0 : Nat) (l0 : List (S81)) (r : Bool) (w : World) (hr0 : Kd.C k81 w A0 l0.length l0) (hc0 : l0.length ≤ c0) (h : impl_AreLetters.f k l0 = some r) :
  Calls Try.prog 53 #[.slice A0 l0.length c0] w fun e w' => e = .returned (.bool r) ∧ Below w.heap.size w w' := by
 have hu81 := Try.underlying81
 have HR0 := zK hr0
 have HC0 := zK hc0
 clear hr0 hc0
 have HB := zK (Below.refl w.heap.size w)
 have H : (if (l0.length : Int) > 60 then (some false) else (impl_AreLetters.l0 k l0 l0 (l0.length : Int) 0)) = some r := h
 clear h
 by_cases c2 : (l0.length : Int) > 60
 ·rw [if_pos c2] at H
  have c2b0 : decide (60 < (l0.length : Int)) = true := decide_eq_true c2
  have c2b1 : decide (60 < l0.length) = true := decide_eq_true (by omega)
  clear c2
  obtain rfl := Option.some.inj H
  go_enter Try.func53, Try.ntmps53
  go_wp2
  go_ret
  exact ⟨by first | rfl | (simp [errW_none, errW_some] <;> rfl) | (simp [*, errW_none, errW_some] <;> rfl), by exact qB HB.o⟩
 rw [if_neg c2] at H
 have c2b0 : decide (60 < (l0.length : Int)) = false := decide_eq_false c2
 have c2b1 : decide (60 < l0.length) = false := decide_eq_false (by omega)
 clear c2
 have H' := zK H
 clear H
 go_enter Try.func53, Try.ntmps53
 go_wp2
 go_loopg [12] k (fun kq v12 w' => ∃ (x12_1 : Int), v12 = .int .i64 x12_1 ∧ Aside0 (impl_AreLetters.l0 kq l0 l0 (l0.length : Int) x12_1 = some r) ∧ Aside0 (kq ≤ k) ∧ Aside0 (Below w.heap.size w w'))
 case atStart => exact ⟨(0), M3, H', ⟨Nat.le_refl _⟩, ⟨by exact qB HB.o⟩⟩
 case round =>
  clear H'
  try clear c2
  try clear c2b0
  try clear c2b1
  try clear p2
  obtain ⟨x12_1, rfl, HA, HK1, HB⟩ := hrel
  cases gk with
  | zero => exact absurd HA.o (by simp [impl_AreLetters.l0])
  | succ k1 =>
   have H := HA.o
   clear HA
   simp only [impl_AreLetters.l0] at H
   by_cases c3 : x12_1 < (l0.length : Int)
   rotate_left
   ·rw [if_neg c3] at H
    have c3b0 : decide (x12_1 < (l0.length : Int)) = false := decide_eq_false c3
    clear c3
    obtain rfl := Option.some.inj H
    go_wp2
    go_ret
    exact ⟨by first | rfl | (simp [errW_none, errW_some] <;> rfl) | (simp [*, errW_none, errW_some] <;> rfl), by exact qB HB.o⟩

   rw [if_pos c3] at H
   have c3b0 : decide (x12_1 < (l0.length : Int)) = true := decide_eq_true c3
   clear c3
   by_cases c4 : 0 ≤ x12_1
   rotate_left
   ·rw [if_neg c4] at H
    exact absurd H (by simp)
   rw [if_pos c4] at H
   have c4b0 : decide (0 ≤ x12_1) = true := decide_eq_true c4
   clear c4
   by_cases c5 : x12_1 < (l0.length : Int)
   rotate_left
   ·rw [if_neg c5] at H
    exact absurd H (by simp)
   rw [if_pos c5] at H
   have c5b0 : decide (x12_1 < (l0.length : Int)) = true := decide_eq_true c5
   clear c5
   have HC6 := zK H
   clear H
   have p133 : 0 ≤ (x12_1 : Int) := oD M1
   have q133 : x12_1 < (l0.length : Int) := oD M1
   obtain ⟨ad133, e133, hx133_0, hx133_1, hx133_2⟩ := at_T81 HR0.o x12_1 p133 q133
   cases e133
   replace hx133_0 := cB HB.o hx133_0
   replace hx133_1 := cB HB.o hx133_1
   replace hx133_2 := cB HB.o hx133_2
   replace p133 := eq_true p133
   replace q133 := eq_true q133
   go_upto_region 6 with (first | ((with_reducible refine gate_dst (N := 4) rfl ?_); refine box_event ?hg (N := 4) ?hd (cs := #[.int .i64 0, .int .i64 0, .int .i64 0]) (t := 81) ?hr ?_; (case hd => rfl); (case hg => rfl); (case hr => first | (go_simp; done) | (go_simp; rfl)); intro gb134 hg w7 hbox hb; have _ := zK (bT (qB HB.o) hb); have _ := zK (hbox); have _ := zK ((by rw [hg]; exact (bZ (qB HB.o)) : w.heap.size ≤ gb134)); have _ := zK ((by rw [hg]; exact (bZ (qB HB.o)) : w.heap.size ≤ gb134)); clear HB; rename_i HB BK134 GW134 GE134; clear hb hbox hg; obtain ⟨hcz8_0, hcz8_1, hcz8_2, hfz8_0, hfz8_1, hfz8_2⟩ := bx3 BK134.o))
   (try simp only [Act.put, sA, sZ, sS])
   go_cut [47] (fun v47 wc => ∃ (kq : Nat) (x47_5 : Bool), v47 = .bool x47_5 ∧ Aside0 (impl_AreLetters.j1 kq l0 x12_1 l0 (l0.length : Int) x12_1 x47_5 ((rd_T81 l0 x12_1).f0) ((rd_T81 l0 x12_1).f1) ((rd_T81 l0 x12_1).f2) = some r) ∧ Aside0 (kq ≤ k1) ∧ Aside0 (wc.heap[gb134]? = some (.cells #[.int .i64 ((rd_T81 l0 x12_1).f0), .int .i64 ((rd_T81 l0 x12_1).f1), .int .i64 ((rd_T81 l0 x12_1).f2)] 81 (0, 0))) ∧ Aside0 (Below w.heap.size w wc))
   case first =>
    have H := HC6.o
    clear HC6
    replace H := Option.bind_eq_some_iff.mp H
    obtain ⟨t135, A90, H⟩ := H
    try dsimp only at H
    have A9 := zK A90
    clear A90
    by_cases c10 : t135 = true
    rotate_left
    ·replace c10 := Bool.eq_false_iff.mpr c10
     subst c10
     have H1 : (impl_AreLetters.j1 k1 l0 x12_1 l0 (l0.length : Int) x12_1 true ((rd_T81 l0 x12_1).f0) ((rd_T81 l0 x12_1).f1) ((rd_T81 l0 x12_1).f2)) = some r := by rw [if_neg (show ¬ (false = true) by decide)] at H; exact H
     clear H
     have H := H1
     clear H1
     have H' := zK H
     clear H
     try go_wp2
     have n0_ : Aside0 ((((w7.setCell ⟨gb134, 0, none⟩ (.int .i64 ((rd_T81 l0 x12_1).f0))).setCell ⟨gb134, 1, none⟩ (.int .i64 ((rd_T81 l0 x12_1).f1))).setCell ⟨gb134, 2, none⟩ (.int .i64 ((rd_T81 l0 x12_1).f2))).heap[gb134]? = some (.cells #[.int .i64 ((rd_T81 l0 x12_1).f0), .int .i64 ((rd_T81 l0 x12_1).f1), .int .i64 ((rd_T81 l0 x12_1).f2)] 81 (0, 0))) := ⟨by (with_reducible repeat (first | refine kN ?_ _ | refine kD ?_ | refine kA ?_ _)); refine blk_put (cs := #[.int .i64 ((rd_T81 l0 x12_1).f0), .int .i64 ((rd_T81 l0 x12_1).f1), .int .i64 0]) ?_ 2 _ rfl; (with_reducible repeat (first | refine kN ?_ _ | refine kD ?_ | refine kA ?_ _)); refine blk_put (cs := #[.int .i64 ((rd_T81 l0 x12_1).f0), .int .i64 0, .int .i64 0]) ?_ 1 _ rfl; (with_reducible repeat (first | refine kN ?_ _ | refine kD ?_ | refine kA ?_ _)); refine blk_put (cs := #[.int .i64 0, .int .i64 0, .int .i64 0]) ?_ 0 _ rfl; exact qK BK134.o⟩
     have n1_ : Aside0 (Below w.heap.size w (((w7.setCell ⟨gb134, 0, none⟩ (.int .i64 ((rd_T81 l0 x12_1).f0))).setCell ⟨gb134, 1, none⟩ (.int .i64 ((rd_T81 l0 x12_1).f1))).setCell ⟨gb134, 2, none⟩ (.int .i64 ((rd_T81 l0 x12_1).f2)))) := ⟨by exact qX HB.o⟩
     (try clear BK134)
     (try clear HB)
     generalize (((w7.setCell ⟨gb134, 0, none⟩ (.int .i64 ((rd_T81 l0 x12_1).f0))).setCell ⟨gb134, 1, none⟩ (.int .i64 ((rd_T81 l0 x12_1).f1))).setCell ⟨gb134, 2, none⟩ (.int .i64 ((rd_T81 l0 x12_1).f2))) = w27 at n0_ n1_ ⊢
     have BK134 := n0_
     have HB := n1_
     clear n0_ n1_
     have n0_ := zK (kD BK134.o)
     have n1_ := zK (below_drew1 HB.o)
     clear BK134
     clear HB
     have BK134 := n0_
     have HB := n1_
     clear n0_ n1_
     refine start_ (n := 31) (S := fun w' => w'.cell? ⟨gb134, 0, none⟩ = some (.int .i64 ((rd_T81 l0 x12_1).f0)) ∧ w'.cell? ⟨gb134, 1, none⟩ = some (.int .i64 ((rd_T81 l0 x12_1).f1)) ∧ w'.cell? ⟨gb134, 2, none⟩ = some (.int .i64 ((rd_T81 l0 x12_1).f2))) (ds := []) b3A0 (by kernel_rfl) rfl rfl ⟨(bc BK134.o 0).trans rfl, (bc BK134.o 1).trans rfl, (bc BK134.o 2).trans rfl⟩ (fun hHeld => ?_); refine with_tabW impl_AreLetters.tab6 impl_AreLetters.bits6 (fun HT_ HW_ => ?_)
     generalize w27.drew = w28 at BK134 HB hHeld ⊢
     refine pI 0 (some 17) b3A1 HT_ ?_
     refine tI 1 (some 18) b3A2 HT_ HW_ hHeld rfl rfl (Or.inl ⟨by rfl, by rintro w' ⟨s0, s1, s2⟩; go_simp; with_reducible rfl⟩) ?_
     refine one_ (i := 2) (N := some 19) b3A3 rfl rfl (one_of HT_.o (by kernel_rfl)) (by decide) (fun K hK => ?_)
     refine goes_ Try.func120 (by kernel_rfl) rfl #[.int .i64 ((rd_T81 l0 x12_1).f0), .int .i64 1, .int .i64 999] (by rfl) rfl rfl M0 ?_
     with_reducible refine (impl_InRange.calls ((rd_T81 l0 x12_1).f0) 1 999 false _ A9.o).mono ?_
     rintro e w' ⟨rfl, ⟨nd, rfl⟩⟩
     refine ⟨_, rfl, ?_⟩
     refine hK.out _ _ ⟨(bc BK134.o 0).trans rfl, (bc BK134.o 1).trans rfl, (bc BK134.o 2).trans rfl⟩ (fun hHeld => ?_)
     clear hK K
     refine norm_ (a' := ?_) ?_ ?_
     rotate_left
     ·show Act.put _ (some 19) _ = _
      simp only [Act.put, sA, sZ, sS, i64_w, i32_w]
      rfl
     refine pI 3 (some 20) b3A4 HT_ ?_
     refine pI 4 (some 21) b3A5 HT_ ?_
     refine pU 5 (some 22) b3A6 HT_ ?_
     refine pU 6 (some 23) b3A7 HT_ ?_
     refine pU 7 (some 24) b3A8 HT_ ?_
     refine pU 8 (some 25) b3A9 HT_ ?_
     refine pI 9 (some 26) b3A10 HT_ ?_
     refine pI 10 (some 27) b3A11 HT_ ?_
     refine pU 11 (some 28) b3A12 HT_ ?_
     refine pU 12 (some 29) b3A13 HT_ ?_
     refine pU 13 (some 30) b3A14 HT_ ?_
     refine pU 14 (some 31) b3A15 HT_ ?_
     refine pI 15 (some 32) b3A16 HT_ ?_
     refine pI 16 (some 33) b3A17 HT_ ?_
     refine pU 17 (some 34) b3A18 HT_ ?_
     refine pU 18 (some 35) b3A19 HT_ ?_
     refine pU 19 (some 36) b3A20 HT_ ?_
     refine pU 20 (some 37) b3A21 HT_ ?_
     refine pU 21 (some 38) b3A32 HT_ ?_
     refine pU 22 (some 39) b3A33 HT_ ?_
     refine pU 23 (some 40) b3A34 HT_ ?_
     refine pU 24 (some 41) b3A35 HT_ ?_
     refine pU 25 (some 42) b3A36 HT_ ?_
     refine pU 26 (some 43) b3A27 HT_ ?_
     refine pU 27 (some 44) b3A28 HT_ ?_
     refine pU 28 (some 45) b3A29 HT_ ?_
     refine pU 29 (some 46) b3A30 HT_ ?_
     refine pI 30 (some 47) b3A31 HT_ ?_
     refine done_ (done_of HT_.o (by kernel_rfl)) ?_
     try go_wp2
     go_meet
     case rel => exact ⟨_, (true), M3, H', ⟨by have := HK1.o; first | omega | exact Nat.le_refl _⟩, ⟨by exact qK BK134.o⟩, ⟨by exact qX HB.o⟩⟩
    subst c10
    have H1 : ((impl_InRange.f ((rd_T81 l0 x12_1).f1) 1 999).bind fun t136 => (if t136 = true then ((impl_InRange.f ((rd_T81 l0 x12_1).f2) 0 100000).bind fun t137 => (if t137 = true then (if x12_1 > 0 then (if 0 ≤ (wrap64 (x12_1 - 1)) then (if (wrap64 (x12_1 - 1)) < (l0.length : Int) then (impl_AreLetters.j1 k1 l0 x12_1 l0 (l0.length : Int) x12_1 (decide (((rd_T81 l0 x12_1).f2) < ((rd_T81 l0 (wrap64 (x12_1 - 1))).f2))) ((rd_T81 l0 x12_1).f0) ((rd_T81 l0 x12_1).f1) ((rd_T81 l0 x12_1).f2)) else (none)) else (none)) else (impl_AreLetters.j1 k1 l0 x12_1 l0 (l0.length : Int) x12_1 false ((rd_T81 l0 x12_1).f0) ((rd_T81 l0 x12_1).f1) ((rd_T81 l0 x12_1).f2))) else (impl_AreLetters.j1 k1 l0 x12_1 l0 (l0.length : Int) x12_1 true ((rd_T81 l0 x12_1).f0) ((rd_T81 l0 x12_1).f1) ((rd_T81 l0 x12_1).f2)))) else (impl_AreLetters.j1 k1 l0 x12_1 l0 (l0.length : Int) x12_1 true ((rd_T81 l0 x12_1).f0) ((rd_T81 l0 x12_1).f1) ((rd_T81 l0 x12_1).f2)))) = some r := by rw [if_pos rfl] at H; exact H
    clear H
    have H := H1
    clear H1
    replace H := Option.bind_eq_some_iff.mp H
    obtain ⟨t136, A110, H⟩ := H
    try dsimp only at H
    have A11 := zK A110
    clear A110
    by_cases c12 : t136 = true
    rotate_left
    ·replace c12 := Bool.eq_false_iff.mpr c12
     subst c12
     have H1 : (impl_AreLetters.j1 k1 l0 x12_1 l0 (l0.length : Int) x12_1 true ((rd_T81 l0 x12_1).f0) ((rd_T81 l0 x12_1).f1) ((rd_T81 l0 x12_1).f2)) = some r := by rw [if_neg (show ¬ (false = true) by decide)] at H; exact H
     clear H
     have H := H1
     clear H1
     have H' := zK H
     clear H
     try go_wp2
     have n0_ : Aside0 ((((w7.setCell ⟨gb134, 0, none⟩ (.int .i64 ((rd_T81 l0 x12_1).f0))).setCell ⟨gb134, 1, none⟩ (.int .i64 ((rd_T81 l0 x12_1).f1))).setCell ⟨gb134, 2, none⟩ (.int .i64 ((rd_T81 l0 x12_1).f2))).heap[gb134]? = some (.cells #[.int .i64 ((rd_T81 l0 x12_1).f0), .int .i64 ((rd_T81 l0 x12_1).f1), .int .i64 ((rd_T81 l0 x12_1).f2)] 81 (0, 0))) := ⟨by (with_reducible repeat (first | refine kN ?_ _ | refine kD ?_ | refine kA ?_ _)); refine blk_put (cs := #[.int .i64 ((rd_T81 l0 x12_1).f0), .int .i64 ((rd_T81 l0 x12_1).f1), .int .i64 0]) ?_ 2 _ rfl; (with_reducible repeat (first | refine kN ?_ _ | refine kD ?_ | refine kA ?_ _)); refine blk_put (cs := #[.int .i64 ((rd_T81 l0 x12_1).f0), .int .i64 0, .int .i64 0]) ?_ 1 _ rfl; (with_reducible repeat (first | refine kN ?_ _ | refine kD ?_ | refine kA ?_ _)); refine blk_put (cs := #[.int .i64 0, .int .i64 0, .int .i64 0]) ?_ 0 _ rfl; exact qK BK134.o⟩
     have n1_ : Aside0 (Below w.heap.size w (((w7.setCell ⟨gb134, 0, none⟩ (.int .i64 ((rd_T81 l0 x12_1).f0))).setCell ⟨gb134, 1, none⟩ (.int .i64 ((rd_T81 l0 x12_1).f1))).setCell ⟨gb134, 2, none⟩ (.int .i64 ((rd_T81 l0 x12_1).f2)))) := ⟨by exact qX HB.o⟩
     (try clear BK134)
     (try clear HB)
     generalize (((w7.setCell ⟨gb134, 0, none⟩ (.int .i64 ((rd_T81 l0 x12_1).f0))).setCell ⟨gb134, 1, none⟩ (.int .i64 ((rd_T81 l0 x12_1).f1))).setCell ⟨gb134, 2, none⟩ (.int .i64 ((rd_T81 l0 x12_1).f2))) = w25 at n0_ n1_ ⊢
     have BK134 := n0_
     have HB := n1_
     clear n0_ n1_
     have n0_ := zK (kD BK134.o)
     have n1_ := zK (below_drew1 HB.o)
     clear BK134
     clear HB
     have BK134 := n0_
     have HB := n1_
     clear n0_ n1_
     refine start_ (n := 31) (S := fun w' => w'.cell? ⟨gb134, 0, none⟩ = some (.int .i64 ((rd_T81 l0 x12_1).f0)) ∧ w'.cell? ⟨gb134, 1, none⟩ = some (.int .i64 ((rd_T81 l0 x12_1).f1)) ∧ w'.cell? ⟨gb134, 2, none⟩ = some (.int .i64 ((rd_T81 l0 x12_1).f2))) (ds := []) b3A0 (by kernel_rfl) rfl rfl ⟨(bc BK134.o 0).trans rfl, (bc BK134.o 1).trans rfl, (bc BK134.o 2).trans rfl⟩ (fun hHeld => ?_); refine with_tabW impl_AreLetters.tab6 impl_AreLetters.bits6 (fun HT_ HW_ => ?_)
     generalize w25.drew = w26 at BK134 HB hHeld ⊢
     refine pI 0 (some 17) b3A1 HT_ ?_
     refine tI 1 (some 18) b3A2 HT_ HW_ hHeld rfl rfl (Or.inl ⟨by rfl, by rintro w' ⟨s0, s1, s2⟩; go_simp; with_reducible rfl⟩) ?_
     refine one_ (i := 2) (N := some 19) b3A3 rfl rfl (one_of HT_.o (by kernel_rfl)) (by decide) (fun K hK => ?_)
     refine goes_ Try.func120 (by kernel_rfl) rfl #[.int .i64 ((rd_T81 l0 x12_1).f0), .int .i64 1, .int .i64 999] (by rfl) rfl rfl M0 ?_
     with_reducible refine (impl_InRange.calls ((rd_T81 l0 x12_1).f0) 1 999 true _ A9.o).mono ?_
     rintro e w' ⟨rfl, ⟨nd, rfl⟩⟩
     refine ⟨_, rfl, ?_⟩
     refine hK.out _ _ ⟨(bc BK134.o 0).trans rfl, (bc BK134.o 1).trans rfl, (bc BK134.o 2).trans rfl⟩ (fun hHeld => ?_)
     clear hK K
     refine norm_ (a' := ?_) ?_ ?_
     rotate_left
     ·show Act.put _ (some 19) _ = _
      simp only [Act.put, sA, sZ, sS, i64_w, i32_w]
      rfl
     refine pI 3 (some 20) b3A4 HT_ ?_
     refine pI 4 (some 21) b3A5 HT_ ?_
     refine pI 5 (some 22) b3A6 HT_ ?_
     refine tI 6 (some 23) b3A7 HT_ HW_ hHeld rfl rfl (Or.inl ⟨by rfl, by rintro w' ⟨s0, s1, s2⟩; go_simp; with_reducible rfl⟩) ?_
     refine one_ (i := 7) (N := some 24) b3A8 rfl rfl (one_of HT_.o (by kernel_rfl)) (by decide) (fun K hK => ?_)
     refine goes_ Try.func120 (by kernel_rfl) rfl #[.int .i64 ((rd_T81 l0 x12_1).f1), .int .i64 1, .int .i64 999] (by rfl) rfl rfl M0 ?_
     with_reducible refine (impl_InRange.calls ((rd_T81 l0 x12_1).f1) 1 999 false _ A11.o).mono ?_
     rintro e w' ⟨rfl, ⟨nd, rfl⟩⟩
     refine ⟨_, rfl, ?_⟩
     refine hK.out _ _ ⟨(bc BK134.o 0).trans rfl, (bc BK134.o 1).trans rfl, (bc BK134.o 2).trans rfl⟩ (fun hHeld => ?_)
     clear hK K
     refine norm_ (a' := ?_) ?_ ?_
     rotate_left
     ·show Act.put _ (some 24) _ = _
      simp only [Act.put, sA, sZ, sS, i64_w, i32_w]
      rfl
     refine pI 8 (some 25) b3A9 HT_ ?_
     refine pI 9 (some 26) b3A10 HT_ ?_
     refine pI 10 (some 27) b3A11 HT_ ?_
     refine pU 11 (some 28) b3A12 HT_ ?_
     refine pU 12 (some 29) b3A13 HT_ ?_
     refine pU 13 (some 30) b3A14 HT_ ?_
     refine pU 14 (some 31) b3A15 HT_ ?_
     refine pI 15 (some 32) b3A16 HT_ ?_
     refine pI 16 (some 33) b3A17 HT_ ?_
     refine pU 17 (some 34) b3A18 HT_ ?_
     refine pU 18 (some 35) b3A19 HT_ ?_
     refine pU 19 (some 36) b3A20 HT_ ?_
     refine pU 20 (some 37) b3A21 HT_ ?_
     refine pU 21 (some 38) b3A32 HT_ ?_
     refine pU 22 (some 39) b3A33 HT_ ?_
     refine pU 23 (some 40) b3A34 HT_ ?_
     refine pU 24 (some 41) b3A35 HT_ ?_
     refine pU 25 (some 42) b3A36 HT_ ?_
     refine pU 26 (some 43) b3A27 HT_ ?_
     refine pU 27 (some 44) b3A28 HT_ ?_
     refine pU 28 (some 45) b3A29 HT_ ?_
     refine pU 29 (some 46) b3A30 HT_ ?_
     refine pI 30 (some 47) b3A31 HT_ ?_
     refine done_ (done_of HT_.o (by kernel_rfl)) ?_
     try go_wp2
     go_meet
     case rel => exact ⟨_, (true), M3, H', ⟨by have := HK1.o; first | omega | exact Nat.le_refl _⟩, ⟨by exact qK BK134.o⟩, ⟨by exact qX HB.o⟩⟩
    subst c12
    have H1 : ((impl_InRange.f ((rd_T81 l0 x12_1).f2) 0 100000).bind fun t137 => (if t137 = true then (if x12_1 > 0 then (if 0 ≤ (wrap64 (x12_1 - 1)) then (if (wrap64 (x12_1 - 1)) < (l0.length : Int) then (impl_AreLetters.j1 k1 l0 x12_1 l0 (l0.length : Int) x12_1 (decide (((rd_T81 l0 x12_1).f2) < ((rd_T81 l0 (wrap64 (x12_1 - 1))).f2))) ((rd_T81 l0 x12_1).f0) ((rd_T81 l0 x12_1).f1) ((rd_T81 l0 x12_1).f2)) else (none)) else (none)) else (impl_AreLetters.j1 k1 l0 x12_1 l0 (l0.length : Int) x12_1 false ((rd_T81 l0 x12_1).f0) ((rd_T81 l0 x12_1).f1) ((rd_T81 l0 x12_1).f2))) else (impl_AreLetters.j1 k1 l0 x12_1 l0 (l0.length : Int) x12_1 true ((rd_T81 l0 x12_1).f0) ((rd_T81 l0 x12_1).f1) ((rd_T81 l0 x12_1).f2)))) = some r := by rw [if_pos rfl] at H; exact H
    clear H
    have H := H1
    clear H1
    replace H := Option.bind_eq_some_iff.mp H
    obtain ⟨t137, A130, H⟩ := H
    try dsimp only at H
    have A13 := zK A130
    clear A130
    by_cases c14 : t137 = true
    rotate_left
    ·replace c14 := Bool.eq_false_iff.mpr c14
     subst c14
     have H1 : (impl_AreLetters.j1 k1 l0 x12_1 l0 (l0.length : Int) x12_1 true ((rd_T81 l0 x12_1).f0) ((rd_T81 l0 x12_1).f1) ((rd_T81 l0 x12_1).f2)) = some r := by rw [if_neg (show ¬ (false = true) by decide)] at H; exact H
     clear H
     have H := H1
     clear H1
     have H' := zK H
     clear H
     try go_wp2
     have n0_ : Aside0 ((((w7.setCell ⟨gb134, 0, none⟩ (.int .i64 ((rd_T81 l0 x12_1).f0))).setCell ⟨gb134, 1, none⟩ (.int .i64 ((rd_T81 l0 x12_1).f1))).setCell ⟨gb134, 2, none⟩ (.int .i64 ((rd_T81 l0 x12_1).f2))).heap[gb134]? = some (.cells #[.int .i64 ((rd_T81 l0 x12_1).f0), .int .i64 ((rd_T81 l0 x12_1).f1), .int .i64 ((rd_T81 l0 x12_1).f2)] 81 (0, 0))) := ⟨by (with_reducible repeat (first | refine kN ?_ _ | refine kD ?_ | refine kA ?_ _)); refine blk_put (cs := #[.int .i64 ((rd_T81 l0 x12_1).f0), .int .i64 ((rd_T81 l0 x12_1).f1), .int .i64 0]) ?_ 2 _ rfl; (with_reducible repeat (first | refine kN ?_ _ | refine kD ?_ | refine kA ?_ _)); refine blk_put (cs := #[.int .i64 ((rd_T81 l0 x12_1).f0), .int .i64 0, .int .i64 0]) ?_ 1 _ rfl; (with_reducible repeat (first | refine kN ?_ _ | refine kD ?_ | refine kA ?_ _)); refine blk_put (cs := #[.int .i64 0, .int .i64 0, .int .i64 0]) ?_ 0 _ rfl; exact qK BK134.o⟩
     have n1_ : Aside0 (Below w.heap.size w (((w7.setCell ⟨gb134, 0, none⟩ (.int .i64 ((rd_T81 l0 x12_1).f0))).setCell ⟨gb134, 1, none⟩ (.int .i64 ((rd_T81 l0 x12_1).f1))).setCell ⟨gb134, 2, none⟩ (.int .i64 ((rd_T81 l0 x12_1).f2)))) := ⟨by exact qX HB.o⟩
     (try clear BK134)
     (try clear HB)
     generalize (((w7.setCell ⟨gb134, 0, none⟩ (.int .i64 ((rd_T81 l0 x12_1).f0))).setCell ⟨gb134, 1, none⟩ (.int .i64 ((rd_T81 l0 x12_1).f1))).setCell ⟨gb134, 2, none⟩ (.int .i64 ((rd_T81 l0 x12_1).f2))) = w23 at n0_ n1_ ⊢
     have BK134 := n0_
     have HB := n1_
     clear n0_ n1_
     have n0_ := zK (kD BK134.o)
     have n1_ := zK (below_drew1 HB.o)
     clear BK134
     clear HB
     have BK134 := n0_
     have HB := n1_
     clear n0_ n1_
     refine start_ (n := 31) (S := fun w' => w'.cell? ⟨gb134, 0, none⟩ = some (.int .i64 ((rd_T81 l0 x12_1).f0)) ∧ w'.cell? ⟨gb134, 1, none⟩ = some (.int .i64 ((rd_T81 l0 x12_1).f1)) ∧ w'.cell? ⟨gb134, 2, none⟩ = some (.int .i64 ((rd_T81 l0 x12_1).f2))) (ds := []) b3A0 (by kernel_rfl) rfl rfl ⟨(bc BK134.o 0).trans rfl, (bc BK134.o 1).trans rfl, (bc BK134.o 2).trans rfl⟩ (fun hHeld => ?_); refine with_tabW impl_AreLetters.tab6 impl_AreLetters.bits6 (fun HT_ HW_ => ?_)
     generalize w23.drew = w24 at BK134 HB hHeld ⊢
     refine pI 0 (some 17) b3A1 HT_ ?_
     refine tI 1 (some 18) b3A2 HT_ HW_ hHeld rfl rfl (Or.inl ⟨by rfl, by rintro w' ⟨s0, s1, s2⟩; go_simp; with_reducible rfl⟩) ?_
     refine one_ (i := 2) (N := some 19) b3A3 rfl rfl (one_of HT_.o (by kernel_rfl)) (by decide) (fun K hK => ?_)
     refine goes_ Try.func120 (by kernel_rfl) rfl #[.int .i64 ((rd_T81 l0 x12_1).f0), .int .i64 1, .int .i64 999] (by rfl) rfl rfl M0 ?_
     with_reducible refine (impl_InRange.calls ((rd_T81 l0 x12_1).f0) 1 999 true _ A9.o).mono ?_
     rintro e w' ⟨rfl, ⟨nd, rfl⟩⟩
     refine ⟨_, rfl, ?_⟩
     refine hK.out _ _ ⟨(bc BK134.o 0).trans rfl, (bc BK134.o 1).trans rfl, (bc BK134.o 2).trans rfl⟩ (fun hHeld => ?_)
     clear hK K
     refine norm_ (a' := ?_) ?_ ?_
     rotate_left
     ·show Act.put _ (some 19) _ = _
      simp only [Act.put, sA, sZ, sS, i64_w, i32_w]
      rfl
     refine pI 3 (some 20) b3A4 HT_ ?_
     refine pI 4 (some 21) b3A5 HT_ ?_
     refine pI 5 (some 22) b3A6 HT_ ?_
     refine tI 6 (some 23) b3A7 HT_ HW_ hHeld rfl rfl (Or.inl ⟨by rfl, by rintro w' ⟨s0, s1, s2⟩; go_simp; with_reducible rfl⟩) ?_
     refine one_ (i := 7) (N := some 24) b3A8 rfl rfl (one_of HT_.o (by kernel_rfl)) (by decide) (fun K hK => ?_)
     refine goes_ Try.func120 (by kernel_rfl) rfl #[.int .i64 ((rd_T81 l0 x12_1).f1), .int .i64 1, .int .i64 999] (by rfl) rfl rfl M0 ?_
     with_reducible refine (impl_InRange.calls ((rd_T81 l0 x12_1).f1) 1 999 true _ A11.o).mono ?_
     rintro e w' ⟨rfl, ⟨nd, rfl⟩⟩
     refine ⟨_, rfl, ?_⟩
     refine hK.out _ _ ⟨(bc BK134.o 0).trans rfl, (bc BK134.o 1).trans rfl, (bc BK134.o 2).trans rfl⟩ (fun hHeld => ?_)
     clear hK K
     refine norm_ (a' := ?_) ?_ ?_
     rotate_left
     ·show Act.put _ (some 24) _ = _
      simp only [Act.put, sA, sZ, sS, i64_w, i32_w]
      rfl
     refine pI 8 (some 25) b3A9 HT_ ?_
     refine pI 9 (some 26) b3A10 HT_ ?_
     refine pI 10 (some 27) b3A11 HT_ ?_
     refine pI 11 (some 28) b3A12 HT_ ?_
     refine tI 12 (some 29) b3A13 HT_ HW_ hHeld rfl rfl (Or.inl ⟨by rfl, by rintro w' ⟨s0, s1, s2⟩; go_simp; with_reducible rfl⟩) ?_
     refine one_ (i := 13) (N := some 30) b3A14 rfl rfl (one_of HT_.o (by kernel_rfl)) (by decide) (fun K hK => ?_)
     refine goes_ Try.func120 (by kernel_rfl) rfl #[.int .i64 ((rd_T81 l0 x12_1).f2), .int .i64 0, .int .i64 100000] (by rfl) rfl rfl M0 ?_
     with_reducible refine (impl_InRange.calls ((rd_T81 l0 x12_1).f2) 0 100000 false _ A13.o).mono ?_
     rintro e w' ⟨rfl, ⟨nd, rfl⟩⟩
     refine ⟨_, rfl, ?_⟩
     refine hK.out _ _ ⟨(bc BK134.o 0).trans rfl, (bc BK134.o 1).trans rfl, (bc BK134.o 2).trans rfl⟩ (fun hHeld => ?_)
     clear hK K
     refine norm_ (a' := ?_) ?_ ?_
     rotate_left
     ·show Act.put _ (some 30) _ = _
      simp only [Act.put, sA, sZ, sS, i64_w, i32_w]
      rfl
     refine pI 14 (some 31) b3A15 HT_ ?_
     refine pI 15 (some 32) b3A16 HT_ ?_
     refine pI 16 (some 33) b3A17 HT_ ?_
     refine pU 17 (some 34) b3A18 HT_ ?_
     refine pU 18 (some 35) b3A19 HT_ ?_
     refine pU 19 (some 36) b3A20 HT_ ?_
     refine pU 20 (some 37) b3A21 HT_ ?_
     refine pU 21 (some 38) b3A32 HT_ ?_
     refine pU 22 (some 39) b3A33 HT_ ?_
     refine pU 23 (some 40) b3A34 HT_ ?_
     refine pU 24 (some 41) b3A35 HT_ ?_
     refine pU 25 (some 42) b3A36 HT_ ?_
     refine pU 26 (some 43) b3A27 HT_ ?_
     refine pU 27 (some 44) b3A28 HT_ ?_
     refine pU 28 (some 45) b3A29 HT_ ?_
     refine pU 29 (some 46) b3A30 HT_ ?_
     refine pI 30 (some 47) b3A31 HT_ ?_
     refine done_ (done_of HT_.o (by kernel_rfl)) ?_
     try go_wp2
     go_meet
     case rel => exact ⟨_, (true), M3, H', ⟨by have := HK1.o; first | omega | exact Nat.le_refl _⟩, ⟨by exact qK BK134.o⟩, ⟨by exact qX HB.o⟩⟩
    subst c14
    have H1 : (if x12_1 > 0 then (if 0 ≤ (wrap64 (x12_1 - 1)) then (if (wrap64 (x12_1 - 1)) < (l0.length : Int) then (impl_AreLetters.j1 k1 l0 x12_1 l0 (l0.length : Int) x12_1 (decide (((rd_T81 l0 x12_1).f2) < ((rd_T81 l0 (wrap64 (x12_1 - 1))).f2))) ((rd_T81 l0 x12_1).f0) ((rd_T81 l0 x12_1).f1) ((rd_T81 l0 x12_1).f2)) else (none)) else (none)) else (impl_AreLetters.j1 k1 l0 x12_1 l0 (l0.length : Int) x12_1 false ((rd_T81 l0 x12_1).f0) ((rd_T81 l0 x12_1).f1) ((rd_T81 l0 x12_1).f2))) = some r := by rw [if_pos rfl] at H; exact H
    clear H
    have H := H1
    clear H1
    by_cases c15 : x12_1 > 0
    rotate_left
    ·rw [if_neg c15] at H
     have c15b0 : decide (0 < x12_1) = false := decide_eq_false c15
     clear c15
     (first | rw [c15b0] | rw [c15b1] | (simp only [i64_w, i32_w]; rw [c15b0]) | skip)
     have H' := zK H
     clear H
     try go_wp2
     have n0_ : Aside0 ((((w7.setCell ⟨gb134, 0, none⟩ (.int .i64 ((rd_T81 l0 x12_1).f0))).setCell ⟨gb134, 1, none⟩ (.int .i64 ((rd_T81 l0 x12_1).f1))).setCell ⟨gb134, 2, none⟩ (.int .i64 ((rd_T81 l0 x12_1).f2))).heap[gb134]? = some (.cells #[.int .i64 ((rd_T81 l0 x12_1).f0), .int .i64 ((rd_T81 l0 x12_1).f1), .int .i64 ((rd_T81 l0 x12_1).f2)] 81 (0, 0))) := ⟨by (with_reducible repeat (first | refine kN ?_ _ | refine kD ?_ | refine kA ?_ _)); refine blk_put (cs := #[.int .i64 ((rd_T81 l0 x12_1).f0), .int .i64 ((rd_T81 l0 x12_1).f1), .int .i64 0]) ?_ 2 _ rfl; (with_reducible repeat (first | refine kN ?_ _ | refine kD ?_ | refine kA ?_ _)); refine blk_put (cs := #[.int .i64 ((rd_T81 l0 x12_1).f0), .int .i64 0, .int .i64 0]) ?_ 1 _ rfl; (with_reducible repeat (first | refine kN ?_ _ | refine kD ?_ | refine kA ?_ _)); refine blk_put (cs := #[.int .i64 0, .int .i64 0, .int .i64 0]) ?_ 0 _ rfl; exact qK BK134.o⟩
     have n1_ : Aside0 (Below w.heap.size w (((w7.setCell ⟨gb134, 0, none⟩ (.int .i64 ((rd_T81 l0 x12_1).f0))).setCell ⟨gb134, 1, none⟩ (.int .i64 ((rd_T81 l0 x12_1).f1))).setCell ⟨gb134, 2, none⟩ (.int .i64 ((rd_T81 l0 x12_1).f2)))) := ⟨by exact qX HB.o⟩
     (try clear BK134)
     (try clear HB)
     generalize (((w7.setCell ⟨gb134, 0, none⟩ (.int .i64 ((rd_T81 l0 x12_1).f0))).setCell ⟨gb134, 1, none⟩ (.int .i64 ((rd_T81 l0 x12_1).f1))).setCell ⟨gb134, 2, none⟩ (.int .i64 ((rd_T81 l0 x12_1).f2))) = w21 at n0_ n1_ ⊢
     have BK134 := n0_
     have HB := n1_
     clear n0_ n1_
     have n0_ := zK (kD BK134.o)
     have n1_ := zK (below_drew1 HB.o)
     clear BK134
     clear HB
     have BK134 := n0_
     have HB := n1_
     clear n0_ n1_
     refine start_ (n := 31) (S := fun w' => w'.cell? ⟨gb134, 0, none⟩ = some (.int .i64 ((rd_T81 l0 x12_1).f0)) ∧ w'.cell? ⟨gb134, 1, none⟩ = some (.int .i64 ((rd_T81 l0 x12_1).f1)) ∧ w'.cell? ⟨gb134, 2, none⟩ = some (.int .i64 ((rd_T81 l0 x12_1).f2))) (ds := []) b3A0 (by kernel_rfl) rfl rfl ⟨(bc BK134.o 0).trans rfl, (bc BK134.o 1).trans rfl, (bc BK134.o 2).trans rfl⟩ (fun hHeld => ?_); refine with_tabW impl_AreLetters.tab6 impl_AreLetters.bits6 (fun HT_ HW_ => ?_)
     generalize w21.drew = w22 at BK134 HB hHeld ⊢
     refine pI 0 (some 17) b3A1 HT_ ?_
     refine tI 1 (some 18) b3A2 HT_ HW_ hHeld rfl rfl (Or.inl ⟨by rfl, by rintro w' ⟨s0, s1, s2⟩; go_simp; with_reducible rfl⟩) ?_
     refine one_ (i := 2) (N := some 19) b3A3 rfl rfl (one_of HT_.o (by kernel_rfl)) (by decide) (fun K hK => ?_)
     refine goes_ Try.func120 (by kernel_rfl) rfl #[.int .i64 ((rd_T81 l0 x12_1).f0), .int .i64 1, .int .i64 999] (by rfl) rfl rfl M0 ?_
     with_reducible refine (impl_InRange.calls ((rd_T81 l0 x12_1).f0) 1 999 true _ A9.o).mono ?_
     rintro e w' ⟨rfl, ⟨nd, rfl⟩⟩
     refine ⟨_, rfl, ?_⟩
     refine hK.out _ _ ⟨(bc BK134.o 0).trans rfl, (bc BK134.o 1).trans rfl, (bc BK134.o 2).trans rfl⟩ (fun hHeld => ?_)
     clear hK K
     refine norm_ (a' := ?_) ?_ ?_
     rotate_left
     ·show Act.put _ (some 19) _ = _
      simp only [Act.put, sA, sZ, sS, i64_w, i32_w]
      rfl
     refine pI 3 (some 20) b3A4 HT_ ?_
     refine pI 4 (some 21) b3A5 HT_ ?_
     refine pI 5 (some 22) b3A6 HT_ ?_
     refine tI 6 (some 23) b3A7 HT_ HW_ hHeld rfl rfl (Or.inl ⟨by rfl, by rintro w' ⟨s0, s1, s2⟩; go_simp; with_reducible rfl⟩) ?_
     refine one_ (i := 7) (N := some 24) b3A8 rfl rfl (one_of HT_.o (by kernel_rfl)) (by decide) (fun K hK => ?_)
     refine goes_ Try.func120 (by kernel_rfl) rfl #[.int .i64 ((rd_T81 l0 x12_1).f1), .int .i64 1, .int .i64 999] (by rfl) rfl rfl M0 ?_
     with_reducible refine (impl_InRange.calls ((rd_T81 l0 x12_1).f1) 1 999 true _ A11.o).mono ?_
     rintro e w' ⟨rfl, ⟨nd, rfl⟩⟩
     refine ⟨_, rfl, ?_⟩
     refine hK.out _ _ ⟨(bc BK134.o 0).trans rfl, (bc BK134.o 1).trans rfl, (bc BK134.o 2).trans rfl⟩ (fun hHeld => ?_)
     clear hK K
     refine norm_ (a' := ?_) ?_ ?_
     rotate_left
     ·show Act.put _ (some 24) _ = _
      simp only [Act.put, sA, sZ, sS, i64_w, i32_w]
      rfl
     refine pI 8 (some 25) b3A9 HT_ ?_
     refine pI 9 (some 26) b3A10 HT_ ?_
     refine pI 10 (some 27) b3A11 HT_ ?_
     refine pI 11 (some 28) b3A12 HT_ ?_
     refine tI 12 (some 29) b3A13 HT_ HW_ hHeld rfl rfl (Or.inl ⟨by rfl, by rintro w' ⟨s0, s1, s2⟩; go_simp; with_reducible rfl⟩) ?_
     refine one_ (i := 13) (N := some 30) b3A14 rfl rfl (one_of HT_.o (by kernel_rfl)) (by decide) (fun K hK => ?_)
     refine goes_ Try.func120 (by kernel_rfl) rfl #[.int .i64 ((rd_T81 l0 x12_1).f2), .int .i64 0, .int .i64 100000] (by rfl) rfl rfl M0 ?_
     with_reducible refine (impl_InRange.calls ((rd_T81 l0 x12_1).f2) 0 100000 true _ A13.o).mono ?_
     rintro e w' ⟨rfl, ⟨nd, rfl⟩⟩
     refine ⟨_, rfl, ?_⟩
     refine hK.out _ _ ⟨(bc BK134.o 0).trans rfl, (bc BK134.o 1).trans rfl, (bc BK134.o 2).trans rfl⟩ (fun hHeld => ?_)
     clear hK K
     refine norm_ (a' := ?_) ?_ ?_
     rotate_left
     ·show Act.put _ (some 30) _ = _
      simp only [Act.put, sA, sZ, sS, i64_w, i32_w]
      rfl
     refine pI 14 (some 31) b3A15 HT_ ?_
     refine pI 15 (some 32) b3A16 HT_ ?_
     refine pI 16 (some 33) b3A17 HT_ ?_
     refine pI 17 (some 34) b3A18 HT_ ?_
     refine pI 18 (some 35) b3A19 HT_ ?_
     refine pI 19 (some 36) b3A20 HT_ ?_
     refine pU 20 (some 37) b3A21 HT_ ?_
     refine pU 21 (some 38) b3A32 HT_ ?_
     refine pU 22 (some 39) b3A33 HT_ ?_
     refine pU 23 (some 40) b3A34 HT_ ?_
     refine pU 24 (some 41) b3A35 HT_ ?_
     refine pU 25 (some 42) b3A36 HT_ ?_
     refine pU 26 (some 43) b3A27 HT_ ?_
     refine pU 27 (some 44) b3A28 HT_ ?_
     refine pU 28 (some 45) b3A29 HT_ ?_
     refine pI 29 (some 46) b3A30 HT_ ?_
     refine pI 30 (some 47) b3A31 HT_ ?_
     refine done_ (done_of HT_.o (by kernel_rfl)) ?_
     try go_wp2
     go_meet
     case rel => exact ⟨_, (false), M3, H', ⟨by have := HK1.o; first | omega | exact Nat.le_refl _⟩, ⟨by exact qK BK134.o⟩, ⟨by exact qX HB.o⟩⟩
    rw [if_pos c15] at H
    have c15b0 : decide (0 < x12_1) = true := decide_eq_true c15
    clear c15
    (first | rw [c15b0] | rw [c15b1] | (simp only [i64_w, i32_w]; rw [c15b0]) | skip)
    obtain ⟨ji16, hji16⟩ : ∃ j_ : Int, (wrap64 (x12_1 - 1)) = j_ := ⟨_, rfl⟩
    replace H : (if 0 ≤ (ji16) then (if (ji16) < (l0.length : Int) then (impl_AreLetters.j1 k1 l0 x12_1 l0 (l0.length : Int) x12_1 (decide (((rd_T81 l0 x12_1).f2) < ((rd_T81 l0 (ji16)).f2))) ((rd_T81 l0 x12_1).f0) ((rd_T81 l0 x12_1).f1) ((rd_T81 l0 x12_1).f2)) else (none)) else (none)) = some r := by first | (rw [hji16] at H; exact H) | (simp only [hji16] at H ⊢; exact H)
    (try rw [hji16] at A9)
    (try rw [hji16] at A11)
    (try rw [hji16] at A13)
    have hji16w : (IntKind.i64.wrap (x12_1 - 1)) = ji16 := (i64_w _).trans hji16
    by_cases c17 : 0 ≤ (ji16)
    rotate_left
    ·rw [if_neg c17] at H
     exact absurd H (by simp)
    rw [if_pos c17] at H
    have c17b0 : decide (0 ≤ (ji16)) = true := decide_eq_true c17
    clear c17
    by_cases c18 : (ji16) < (l0.length : Int)
    rotate_left
    ·rw [if_neg c18] at H
     exact absurd H (by simp)
    rw [if_pos c18] at H
    have c18b0 : decide ((ji16) < (l0.length : Int)) = true := decide_eq_true c18
    clear c18
    have H' := zK H
    clear H
    try go_wp2
    have n0_ : Aside0 ((((w7.setCell ⟨gb134, 0, none⟩ (.int .i64 ((rd_T81 l0 x12_1).f0))).setCell ⟨gb134, 1, none⟩ (.int .i64 ((rd_T81 l0 x12_1).f1))).setCell ⟨gb134, 2, none⟩ (.int .i64 ((rd_T81 l0 x12_1).f2))).heap[gb134]? = some (.cells #[.int .i64 ((rd_T81 l0 x12_1).f0), .int .i64 ((rd_T81 l0 x12_1).f1), .int .i64 ((rd_T81 l0 x12_1).f2)] 81 (0, 0))) := ⟨by (with_reducible repeat (first | refine kN ?_ _ | refine kD ?_ | refine kA ?_ _)); refine blk_put (cs := #[.int .i64 ((rd_T81 l0 x12_1).f0), .int .i64 ((rd_T81 l0 x12_1).f1), .int .i64 0]) ?_ 2 _ rfl; (with_reducible repeat (first | refine kN ?_ _ | refine kD ?_ | refine kA ?_ _)); refine blk_put (cs := #[.int .i64 ((rd_T81 l0 x12_1).f0), .int .i64 0, .int .i64 0]) ?_ 1 _ rfl; (with_reducible repeat (first | refine kN ?_ _ | refine kD ?_ | refine kA ?_ _)); refine blk_put (cs := #[.int .i64 0, .int .i64 0, .int .i64 0]) ?_ 0 _ rfl; exact qK BK134.o⟩
    have n1_ : Aside0 (Below w.heap.size w (((w7.setCell ⟨gb134, 0, none⟩ (.int .i64 ((rd_T81 l0 x12_1).f0))).setCell ⟨gb134, 1, none⟩ (.int .i64 ((rd_T81 l0 x12_1).f1))).setCell ⟨gb134, 2, none⟩ (.int .i64 ((rd_T81 l0 x12_1).f2)))) := ⟨by exact qX HB.o⟩
    (try clear BK134)
    (try clear HB)
    generalize (((w7.setCell ⟨gb134, 0, none⟩ (.int .i64 ((rd_T81 l0 x12_1).f0))).setCell ⟨gb134, 1, none⟩ (.int .i64 ((rd_T81 l0 x12_1).f1))).setCell ⟨gb134, 2, none⟩ (.int .i64 ((rd_T81 l0 x12_1).f2))) = w19 at n0_ n1_ ⊢
    have BK134 := n0_
    have HB := n1_
    clear n0_ n1_
    have n0_ := zK (kD BK134.o)
    have n1_ := zK (below_drew1 HB.o)
    clear BK134
    clear HB
    have BK134 := n0_
    have HB := n1_
    clear n0_ n1_
    have p138 : 0 ≤ ((ji16) : Int) := oD M1
    have q138 : (ji16) < (l0.length : Int) := oD M1
    obtain ⟨ad138, e138, hx138_0, hx138_1, hx138_2⟩ := at_T81 HR0.o (ji16) p138 q138
    have hw138_2 := hx138_2
    have hw138_1 := hx138_1
    have hw138_0 := hx138_0
    obtain rfl : ad133 = ad138 := (by injection e138)
    replace hx138_0 := cB HB.o hx138_0
    replace hx138_1 := cB HB.o hx138_1
    replace hx138_2 := cB HB.o hx138_2
    replace p138 := eq_true p138
    replace q138 := eq_true q138
    refine start_ (n := 31) (S := fun w' => w'.cell? ⟨gb134, 0, none⟩ = some (.int .i64 ((rd_T81 l0 x12_1).f0)) ∧ w'.cell? ⟨gb134, 1, none⟩ = some (.int .i64 ((rd_T81 l0 x12_1).f1)) ∧ w'.cell? ⟨gb134, 2, none⟩ = some (.int .i64 ((rd_T81 l0 x12_1).f2)) ∧ w'.cell? (ad133.add (((ji16)).toNat * 3)) = some (.int .i64 ((rd_T81 l0 (ji16)).f0)) ∧ w'.cell? ⟨(ad133.add (((ji16)).toNat * 3)).block, (ad133.add (((ji16)).toNat * 3)).off + 1, none⟩ = some (.int .i64 ((rd_T81 l0 (ji16)).f1)) ∧ w'.cell? ⟨(ad133.add (((ji16)).toNat * 3)).block, (ad133.add (((ji16)).toNat * 3)).off + 2, none⟩ = some (.int .i64 ((rd_T81 l0 (ji16)).f2))) (ds := []) b3A0 (by kernel_rfl) rfl rfl ⟨(bc BK134.o 0).trans rfl, (bc BK134.o 1).trans rfl, (bc BK134.o 2).trans rfl, (cB HB.o hw138_0 :), (cB HB.o hw138_1 :), (cB HB.o hw138_2 :)⟩ (fun hHeld => ?_); refine with_tabW impl_AreLetters.tab6 impl_AreLetters.bits6 (fun HT_ HW_ => ?_)
    generalize w19.drew = w20 at BK134 HB hx138_0 hx138_1 hx138_2 hHeld ⊢
    refine pI 0 (some 17) b3A1 HT_ ?_
    refine tI 1 (some 18) b3A2 HT_ HW_ hHeld rfl rfl (Or.inl ⟨by rfl, by rintro w' ⟨s0, s1, s2, s3, s4, s5⟩; go_simp; with_reducible rfl⟩) ?_
    refine one_ (i := 2) (N := some 19) b3A3 rfl rfl (one_of HT_.o (by kernel_rfl)) (by decide) (fun K hK => ?_)
    refine goes_ Try.func120 (by kernel_rfl) rfl #[.int .i64 ((rd_T81 l0 x12_1).f0), .int .i64 1, .int .i64 999] (by rfl) rfl rfl M0 ?_
    with_reducible refine (impl_InRange.calls ((rd_T81 l0 x12_1).f0) 1 999 true _ A9.o).mono ?_
    rintro e w' ⟨rfl, ⟨nd, rfl⟩⟩
    refine ⟨_, rfl, ?_⟩
    refine hK.out _ _ ⟨(bc BK134.o 0).trans rfl, (bc BK134.o 1).trans rfl, (bc BK134.o 2).trans rfl, (cB HB.o hw138_0 :), (cB HB.o hw138_1 :), (cB HB.o hw138_2 :)⟩ (fun hHeld => ?_)
    clear hK K
    refine norm_ (a' := ?_) ?_ ?_
    rotate_left
    ·show Act.put _ (some 19) _ = _
     simp only [Act.put, sA, sZ, sS, i64_w, i32_w]
     rfl
    refine pI 3 (some 20) b3A4 HT_ ?_
    refine pI 4 (some 21) b3A5 HT_ ?_
    refine pI 5 (some 22) b3A6 HT_ ?_
    refine tI 6 (some 23) b3A7 HT_ HW_ hHeld rfl rfl (Or.inl ⟨by rfl, by rintro w' ⟨s0, s1, s2, s3, s4, s5⟩; go_simp; with_reducible rfl⟩) ?_
    refine one_ (i := 7) (N := some 24) b3A8 rfl rfl (one_of HT_.o (by kernel_rfl)) (by decide) (fun K hK => ?_)
    refine goes_ Try.func120 (by kernel_rfl) rfl #[.int .i64 ((rd_T81 l0 x12_1).f1), .int .i64 1, .int .i64 999] (by rfl) rfl rfl M0 ?_
    with_reducible refine (impl_InRange.calls ((rd_T81 l0 x12_1).f1) 1 999 true _ A11.o).mono ?_
    rintro e w' ⟨rfl, ⟨nd, rfl⟩⟩
    refine ⟨_, rfl, ?_⟩
    refine hK.out _ _ ⟨(bc BK134.o 0).trans rfl, (bc BK134.o 1).trans rfl, (bc BK134.o 2).trans rfl, (cB HB.o hw138_0 :), (cB HB.o hw138_1 :), (cB HB.o hw138_2 :)⟩ (fun hHeld => ?_)
    clear hK K
    refine norm_ (a' := ?_) ?_ ?_
    rotate_left
    ·show Act.put _ (some 24) _ = _
     simp only [Act.put, sA, sZ, sS, i64_w, i32_w]
     rfl
    refine pI 8 (some 25) b3A9 HT_ ?_
    refine pI 9 (some 26) b3A10 HT_ ?_
    refine pI 10 (some 27) b3A11 HT_ ?_
    refine pI 11 (some 28) b3A12 HT_ ?_
    refine tI 12 (some 29) b3A13 HT_ HW_ hHeld rfl rfl (Or.inl ⟨by rfl, by rintro w' ⟨s0, s1, s2, s3, s4, s5⟩; go_simp; with_reducible rfl⟩) ?_
    refine one_ (i := 13) (N := some 30) b3A14 rfl rfl (one_of HT_.o (by kernel_rfl)) (by decide) (fun K hK => ?_)
    refine goes_ Try.func120 (by kernel_rfl) rfl #[.int .i64 ((rd_T81 l0 x12_1).f2), .int .i64 0, .int .i64 100000] (by rfl) rfl rfl M0 ?_
    with_reducible refine (impl_InRange.calls ((rd_T81 l0 x12_1).f2) 0 100000 true _ A13.o).mono ?_
    rintro e w' ⟨rfl, ⟨nd, rfl⟩⟩
    refine ⟨_, rfl, ?_⟩
    refine hK.out _ _ ⟨(bc BK134.o 0).trans rfl, (bc BK134.o 1).trans rfl, (bc BK134.o 2).trans rfl, (cB HB.o hw138_0 :), (cB HB.o hw138_1 :), (cB HB.o hw138_2 :)⟩ (fun hHeld => ?_)
    clear hK K
    refine norm_ (a' := ?_) ?_ ?_
    rotate_left
    ·show Act.put _ (some 30) _ = _
     simp only [Act.put, sA, sZ, sS, i64_w, i32_w]
     rfl
    refine pI 14 (some 31) b3A15 HT_ ?_
    refine pI 15 (some 32) b3A16 HT_ ?_
    refine pI 16 (some 33) b3A17 HT_ ?_
    refine pI 17 (some 34) b3A18 HT_ ?_
    refine pI 18 (some 35) b3A19 HT_ ?_
    refine pI 19 (some 36) b3A20 HT_ ?_
    refine pI 20 (some 37) b3A21 HT_ ?_
    refine pI 22 (some 39) b3A22 HT_ ?_
    refine pI 23 (some 40) b3A23 HT_ ?_
    refine pI 24 (some 41) b3A24 HT_ ?_
    refine pI 25 (some 42) b3A25 HT_ ?_
    refine pI 26 (some 43) b3A26 HT_ ?_
    refine tI 21 (some 38) b3A27 HT_ HW_ hHeld rfl rfl (Or.inl ⟨by rfl, by rintro w' ⟨s0, s1, s2, s3, s4, s5⟩; go_simp; with_reducible rfl⟩) ?_
    refine tI 27 (some 44) b3A28 HT_ HW_ hHeld rfl rfl (Or.inl ⟨by rfl, by rintro w' ⟨s0, s1, s2, s3, s4, s5⟩; go_simp; with_reducible rfl⟩) ?_
    refine pI 28 (some 45) b3A29 HT_ ?_
    refine pI 29 (some 46) b3A30 HT_ ?_
    refine pI 30 (some 47) b3A31 HT_ ?_
    refine done_ (done_of HT_.o (by kernel_rfl)) ?_
    try go_wp2
    go_meet
    case rel => exact ⟨_, (decide (((rd_T81 l0 x12_1).f2) < ((rd_T81 l0 (ji16)).f2))), (by first | rfl | (simp; done) | (simp only [← hji16] <;> (first | rfl | simp)) | (simp [*]; done)), H', ⟨by have := HK1.o; first | omega | exact Nat.le_refl _⟩, ⟨by exact qK BK134.o⟩, ⟨by exact qX HB.o⟩⟩
   case rest =>
    clear HC6
    try clear c1
    try clear p2
    try clear c10
    try clear c12
    obtain ⟨kq, x47_5, rfl, HA, HJ5, BK134, HB⟩ := hcut
    cases kq with
    | zero => exact absurd HA.o (by simp [impl_AreLetters.j1])
    | succ kj5 =>
     have H := HA.o
     clear HA
     simp only [impl_AreLetters.j1] at H
     by_cases c29 : x47_5 = true
     ·subst c29
      have H1 : (some false) = some r := by rw [if_pos rfl] at H; exact H
      clear H
      have H := H1
      clear H1
      obtain rfl := Option.some.inj H
      go_wp2
      go_ret
      exact ⟨by first | rfl | (simp [errW_none, errW_some] <;> rfl) | (simp [*, errW_none, errW_some] <;> rfl), by exact qX HB.o⟩
     replace c29 := Bool.eq_false_iff.mpr c29
     subst c29
     have H1 : (if 0 ≤ x12_1 then (if x12_1 ≤ (l0.length : Int) then ((some (l0.take (x12_1 : Int).toNat : List (S81))).bind fun y139 => (impl_AreLetters.l1 kj5 l0 l0 (l0.length : Int) x12_1 y139 (y139.length : Int) 0 ((rd_T81 l0 x12_1).f0) ((rd_T81 l0 x12_1).f1) ((rd_T81 l0 x12_1).f2))) else (none)) else (none)) = some r := by rw [if_neg (show ¬ (false = true) by decide)] at H; exact H
     clear H
     have H := H1
     clear H1
     by_cases c30 : 0 ≤ x12_1
     rotate_left
     ·rw [if_neg c30] at H
      exact absurd H (by simp)
     rw [if_pos c30] at H
     have c30b0 := eq_true c30
     have c30b1 : decide (0 ≤ x12_1) = true := decide_eq_true c30
     clear c30
     by_cases c31 : x12_1 ≤ (l0.length : Int)
     rotate_left
     ·rw [if_neg c31] at H
      exact absurd H (by simp)
     rw [if_pos c31] at H
     have c31b0 := eq_true c31
     have c31b1 : decide (x12_1 ≤ (l0.length : Int)) = true := decide_eq_true c31
     clear c31
     obtain ⟨y139, hy139⟩ : ∃ y_ : List (S81), y_ = (l0.take (x12_1 : Int).toNat) := ⟨_, rfl⟩
     replace H : (impl_AreLetters.l1 kj5 l0 l0 (l0.length : Int) x12_1 y139 (y139.length : Int) 0 ((rd_T81 l0 x12_1).f0) ((rd_T81 l0 x12_1).f1) ((rd_T81 l0 x12_1).f2)) = some r := by first | (rw [hy139]; with_reducible exact H) | (have H2_ := (Option.bind_some _ _).symm.trans H; rw [hy139]; with_reducible exact H2_) | (have H2_ := (Option.bind_some _ _).symm.trans H; with_reducible exact H2_) | with_reducible exact H | (rw [hy139]; exact H) | exact H
     have Ny139 := zK hy139
     clear hy139
     have H' := zK H
     clear H
     have q32 : (x12_1 : Int) ≤ ((l0.length : Int) : Int) := oD M1
     obtain ⟨i032, hi032, _, hsz32, _⟩ := info_parts info81
     have hroom32 : l0.length ≤ c0 := HC0.o
     have hC32 : Kd.C k81 _ (some ad133) l0.length l0 := HR0.o
     have hcut32 := cut_to (P := Try.prog) 73 81 .i64 Try.underlying73 hi032 (some ad133) l0.length c0 x12_1 (oD M1) q32 hroom32
     have hr32 := Kd.C_take (m := (x12_1 : Int).toNat) hC32 (by omega)
     have hy32 : y139.length = (x12_1 : Int).toNat := (by rw [Ny139.o, List.length_take]; omega)
     rw [← Ny139.o] at hr32
     rw [← hy32] at hcut32
     have HR142 := zK hr32
     have HC142 := zK (show y139.length ≤ c0 from by omega)
     clear hr32 hC32 hroom32 hi032 hsz32
     have KY32 := zK hy32
     clear hy32
     replace q32 := eq_true q32
     go_wp2
     go_loopg [52] kj5 (fun kq v52 w' => ∃ (x52_3 : Int), v52 = .int .i64 x52_3 ∧ Aside0 (impl_AreLetters.l1 kq l0 l0 (l0.length : Int) x12_1 y139 (y139.length : Int) x52_3 ((rd_T81 l0 x12_1).f0) ((rd_T81 l0 x12_1).f1) ((rd_T81 l0 x12_1).f2) = some r) ∧ Aside0 (kq ≤ kj5) ∧ Aside0 (w'.heap[gb134]? = some (.cells #[.int .i64 ((rd_T81 l0 x12_1).f0), .int .i64 ((rd_T81 l0 x12_1).f1), .int .i64 ((rd_T81 l0 x12_1).f2)] 81 (0, 0))) ∧ Aside0 (Below w.heap.size w w'))
     case atStart => exact ⟨(0), M3, H', ⟨Nat.le_refl _⟩, ⟨by exact qK BK134.o⟩, ⟨by exact qX HB.o⟩⟩
     case round =>
      clear H'
      try clear c1
      try clear c2
      try clear p2
      try clear c3
      try clear q3
      try clear c10
      try clear c12
      try clear c29
      try clear c30
      try clear c30b0
      try clear c30b1
      try clear c31
      try clear c31b0
      try clear c31b1
      try clear q32
      try clear p2
      try clear q32
      obtain ⟨x52_3, rfl, HA, HK3, BK134, HB⟩ := hrel
      cases gk with
      | zero => exact absurd HA.o (by simp [impl_AreLetters.l1])
      | succ k3 =>
       have H := HA.o
       clear HA
       simp only [impl_AreLetters.l1] at H
       by_cases c33 : x52_3 < (y139.length : Int)
       rotate_left
       ·rw [if_neg c33] at H
        have c33b0 : decide (x52_3 < (y139.length : Int)) = false := decide_eq_false c33
        clear c33
        have H' := zK H
        clear H
        go_wp2
        go_roundg k3
        case measure => have := HK1.o; have := HJ5.o; have := HK3.o; omega
        case rel => exact ⟨(wrap64 (x12_1 + 1)), M3, H', ⟨by have := HK1.o; have := HJ5.o; have := HK3.o; omega⟩, ⟨by exact qX HB.o⟩⟩
       rw [if_pos c33] at H
       have c33b0 : decide (x52_3 < (y139.length : Int)) = true := decide_eq_true c33
       clear c33
       by_cases c34 : 0 ≤ x52_3
       rotate_left
       ·rw [if_neg c34] at H
        exact absurd H (by simp)
       rw [if_pos c34] at H
       have c34b0 : decide (0 ≤ x52_3) = true := decide_eq_true c34
       clear c34
       by_cases c35 : x52_3 < (y139.length : Int)
       rotate_left
       ·rw [if_neg c35] at H
        exact absurd H (by simp)
       rw [if_pos c35] at H
       have c35b0 : decide (x52_3 < (y139.length : Int)) = true := decide_eq_true c35
       clear c35
       by_cases c36 : ((rd_T81 l0 x12_1).f0) = ((rd_T81 y139 x52_3).f0)
       rotate_left
       ·rw [if_neg c36] at H
        have c36b0 : (((rd_T81 l0 x12_1).f0) == ((rd_T81 y139 x52_3).f0)) = false := beq_eq_false_iff_ne.mpr c36
        have c36b1 : (((rd_T81 l0 x12_1).f0) != ((rd_T81 y139 x52_3).f0)) = true := bne_iff_ne.mpr c36
        have H' := zK H
        clear H
        have p143 : 0 ≤ (x52_3 : Int) := oD M1
        have q143 : x52_3 < (y139.length : Int) := oD M1
        obtain ⟨ad143, e143, hx143_0, hx143_1, hx143_2⟩ := at_T81 HR142.o x52_3 p143 q143
        obtain rfl : ad133 = ad143 := (by injection e143)
        replace hx143_0 := cB HB.o hx143_0
        replace hx143_1 := cB HB.o hx143_1
        replace hx143_2 := cB HB.o hx143_2
        replace p143 := eq_true p143
        replace q143 := eq_true q143
        go_wp2_with (first | ((with_reducible refine gate_dst (N := 6) rfl ?_); refine box_event ?hg (N := 6) ?hd (cs := #[.int .i64 0, .int .i64 0, .int .i64 0]) (t := 81) ?hr ?_; (case hd => rfl); (case hg => rfl); (case hr => first | (go_simp; done) | (go_simp; rfl)); intro gb144 hg w51 hbox hb; have _ := zK (bB (qK BK134.o) hb); have _ := zK (bT M15 hb); have _ := zK (hbox); have _ := zK ((by rw [hg]; exact (bZ M15) : w.heap.size ≤ gb144)); have _ := zK ((by rw [hg]; exact (bZ M15) : w.heap.size ≤ gb144)); have _ := zK ((by rw [hg]; exact Nat.ne_of_lt (blk_lt (qK BK134.o)) : gb134 ≠ gb144)); have _ := zK ((by rw [hg]; exact Nat.ne_of_gt (blk_lt (qK BK134.o)) : gb144 ≠ gb134)); clear BK134 HB; rename_i BK134 HB BK144 GW144 GE144 NB134_144 NB144_134; clear hb hbox hg; have hnb52 := NB144_134.o; have hnc52 := NB134_144.o; obtain ⟨hcz53_0, hcz53_1, hcz53_2, hfz53_0, hfz53_1, hfz53_2⟩ := bx3 BK144.o; obtain ⟨hcz54_0, hcz54_1, hcz54_2, hfz54_0, hfz54_1, hfz54_2⟩ := bx3 BK134.o))
        go_roundg k3
        case measure => have := HK1.o; have := HJ5.o; have := HK3.o; omega
        case rel => exact ⟨(wrap64 (x52_3 + 1)), M3, H', ⟨by have := HK1.o; have := HJ5.o; have := HK3.o; omega⟩, ⟨by (with_reducible repeat (first | refine kN ?_ _ | refine kD ?_ | refine kA ?_ _)); refine blk_far ?_ NB134_144.o _; (with_reducible repeat (first | refine kN ?_ _ | refine kD ?_ | refine kA ?_ _)); refine blk_far ?_ NB134_144.o _; (with_reducible repeat (first | refine kN ?_ _ | refine kD ?_ | refine kA ?_ _)); refine blk_far ?_ NB134_144.o _; exact qK BK134.o⟩, ⟨by exact qX HB.o⟩⟩
       rw [if_pos c36] at H
       have c36b0 : (((rd_T81 l0 x12_1).f0) == ((rd_T81 y139 x52_3).f0)) = true := beq_iff_eq.mpr c36
       have c36b1 : (((rd_T81 l0 x12_1).f0) != ((rd_T81 y139 x52_3).f0)) = false := bne_eq_false_iff_eq.mpr c36
       clear c36
       by_cases c37 : ((rd_T81 l0 x12_1).f1) = ((rd_T81 y139 x52_3).f1)
       ·rw [if_pos c37] at H
        have c37b0 : (((rd_T81 l0 x12_1).f1) == ((rd_T81 y139 x52_3).f1)) = true := beq_iff_eq.mpr c37
        have c37b1 : (((rd_T81 l0 x12_1).f1) != ((rd_T81 y139 x52_3).f1)) = false := bne_eq_false_iff_eq.mpr c37
        clear c37
        obtain rfl := Option.some.inj H
        have p143 : 0 ≤ (x52_3 : Int) := oD M1
        have q143 : x52_3 < (y139.length : Int) := oD M1
        obtain ⟨ad143, e143, hx143_0, hx143_1, hx143_2⟩ := at_T81 HR142.o x52_3 p143 q143
        obtain rfl : ad133 = ad143 := (by injection e143)
        replace hx143_0 := cB HB.o hx143_0
        replace hx143_1 := cB HB.o hx143_1
        replace hx143_2 := cB HB.o hx143_2
        replace p143 := eq_true p143
        replace q143 := eq_true q143
        exact lf3_0
       rw [if_neg c37] at H
       have c37b0 : (((rd_T81 l0 x12_1).f1) == ((rd_T81 y139 x52_3).f1)) = false := beq_eq_false_iff_ne.mpr c37
       have c37b1 : (((rd_T81 l0 x12_1).f1) != ((rd_T81 y139 x52_3).f1)) = true := bne_iff_ne.mpr c37
       by_cases c42 : (wrap64 (((rd_T81 l0 x12_1).f2) - ((rd_T81 y139 x52_3).f2))) < 168
       ·rw [if_pos c42] at H
        have c42b0 : decide ((wrap64 (((rd_T81 l0 x12_1).f2) - ((rd_T81 y139 x52_3).f2))) < 168) = true := decide_eq_true c42
        clear c42
        obtain rfl := Option.some.inj H
        have p143 : 0 ≤ (x52_3 : Int) := oD M1
        have q143 : x52_3 < (y139.length : Int) := oD M1
        obtain ⟨ad143, e143, hx143_0, hx143_1, hx143_2⟩ := at_T81 HR142.o x52_3 p143 q143
        obtain rfl : ad133 = ad143 := (by injection e143)
        replace hx143_0 := cB HB.o hx143_0
        replace hx143_1 := cB HB.o hx143_1
        replace hx143_2 := cB HB.o hx143_2
        replace p143 := eq_true p143
        replace q143 := eq_true q143
        exact lf3_0
       rw [if_neg c42] at H
       have c42b0 : decide ((wrap64 (((rd_T81 l0 x12_1).f2) - ((rd_T81 y139 x52_3).f2))) < 168) = false := decide_eq_false c42
       clear c42
       have H' := zK H
       clear H
       have p143 : 0 ≤ (x52_3 : Int) := oD M1
       have q143 : x52_3 < (y139.length : Int) := oD M1
       obtain ⟨ad143, e143, hx143_0, hx143_1, hx143_2⟩ := at_T81 HR142.o x52_3 p143 q143
       obtain rfl : ad133 = ad143 := (by injection e143)
       replace hx143_0 := cB HB.o hx143_0
       replace hx143_1 := cB HB.o hx143_1
       replace hx143_2 := cB HB.o hx143_2
       replace p143 := eq_true p143
       replace q143 := eq_true q143
       go_wp2_with (first | ((with_reducible refine gate_dst (N := 6) rfl ?_); refine box_event ?hg (N := 6) ?hd (cs := #[.int .i64 0, .int .i64 0, .int .i64 0]) (t := 81) ?hr ?_; (case hd => rfl); (case hg => rfl); (case hr => first | (go_simp; done) | (go_simp; rfl)); intro gb144 hg w47 hbox hb; have _ := zK (bB (qK BK134.o) hb); have _ := zK (bT M15 hb); have _ := zK (hbox); have _ := zK ((by rw [hg]; exact (bZ M15) : w.heap.size ≤ gb144)); have _ := zK ((by rw [hg]; exact (bZ M15) : w.heap.size ≤ gb144)); have _ := zK ((by rw [hg]; exact Nat.ne_of_lt (blk_lt (qK BK134.o)) : gb134 ≠ gb144)); have _ := zK ((by rw [hg]; exact Nat.ne_of_gt (blk_lt (qK BK134.o)) : gb144 ≠ gb134)); clear BK134 HB; rename_i BK134 HB BK144 GW144 GE144 NB134_144 NB144_134; clear hb hbox hg; have hnb48 := NB144_134.o; have hnc48 := NB134_144.o; obtain ⟨hcz49_0, hcz49_1, hcz49_2, hfz49_0, hfz49_1, hfz49_2⟩ := bx3 BK144.o; obtain ⟨hcz50_0, hcz50_1, hcz50_2, hfz50_0, hfz50_1, hfz50_2⟩ := bx3 BK134.o))
       go_roundg k3
       case measure => have := HK1.o; have := HJ5.o; have := HK3.o; omega
       case rel => exact ⟨(wrap64 (x52_3 + 1)), M3, H', ⟨by have := HK1.o; have := HJ5.o; have := HK3.o; omega⟩, ⟨by (with_reducible repeat (first | refine kN ?_ _ | refine kD ?_ | refine kA ?_ _)); refine blk_far ?_ NB134_144.o _; (with_reducible repeat (first | refine kN ?_ _ | refine kD ?_ | refine kA ?_ _)); refine blk_far ?_ NB134_144.o _; (with_reducible repeat (first | refine kN ?_ _ | refine kD ?_ | refine kA ?_ _)); refine blk_far ?_ NB134_144.o _; exact qK BK134.o⟩, ⟨by exact qX HB.o⟩⟩
end Go.Proofs.Ytpkdbkheggfkkaa.PFnExactLettersFor
