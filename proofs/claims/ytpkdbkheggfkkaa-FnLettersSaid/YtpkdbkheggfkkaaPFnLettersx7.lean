/- Walks of functions that FnLetters reaches, shortened. -/
import Derived.Test.YtpkdbkheggfkkaaPFnLettersx0
import Derived.Test.YtpkdbkheggfkkaaPFnLettersx6
namespace Go.Proofs.Ytpkdbkheggfkkaa.PFnLetters
open Go.RowKit Go.Proofs.YtpkdbkheggfkkaaW.PrintWords Go.Proofs.YtpkdbkheggfkkaaW.PrintLast Go.Proofs.YtpkdbkheggfkkaaW.PrintMore
attribute [local go_sem] max2_int min2_int max_two min_two max_three min_three max_four min_four
set_option linter.unusedVariables false
set_option linter.unusedSimpArgs false

abbrev b7A0 : Array Bool := #[O, O, O, O, O, O, O, O, O, O, O, O, O, O, O, O, O, O, O, O, O, O, O, O, O, O, O, O, O, O, O]
abbrev b7A1 : Array Bool := #[I, O, O, O, O, O, O, O, O, O, O, O, O, O, O, O, O, O, O, O, O, O, O, O, O, O, O, O, O, O, O]
abbrev b7A2 : Array Bool := #[I, I, O, O, O, O, O, O, O, O, O, O, O, O, O, O, O, O, O, O, O, O, O, O, O, O, O, O, O, O, O]
abbrev b7A3 : Array Bool := #[I, I, I, O, O, O, O, O, O, O, O, O, O, O, O, O, O, O, O, O, O, O, O, O, O, O, O, O, O, O, O]
abbrev b7A4 : Array Bool := #[I, I, I, I, O, O, O, O, O, O, O, O, O, O, O, O, O, O, O, O, O, O, O, O, O, O, O, O, O, O, O]
abbrev b7A5 : Array Bool := #[I, I, I, I, I, O, O, O, O, O, O, O, O, O, O, O, O, O, O, O, O, O, O, O, O, O, O, O, O, O, O]
abbrev b7A6 : Array Bool := #[I, I, I, I, I, I, O, O, O, O, O, O, O, O, O, O, O, O, O, O, O, O, O, O, O, O, O, O, O, O, O]
abbrev b7A7 : Array Bool := #[I, I, I, I, I, I, I, O, O, O, O, O, O, O, O, O, O, O, O, O, O, O, O, O, O, O, O, O, O, O, O]
abbrev b7A8 : Array Bool := #[I, I, I, I, I, I, I, I, O, O, O, O, O, O, O, O, O, O, O, O, O, O, O, O, O, O, O, O, O, O, O]
abbrev b7A9 : Array Bool := #[I, I, I, I, I, I, I, I, I, O, O, O, O, O, O, O, O, O, O, O, O, O, O, O, O, O, O, O, O, O, O]
abbrev b7A10 : Array Bool := #[I, I, I, I, I, I, I, I, I, I, O, O, O, O, O, O, O, O, O, O, O, O, O, O, O, O, O, O, O, O, O]
abbrev b7A11 : Array Bool := #[I, I, I, I, I, I, I, I, I, I, I, O, O, O, O, O, O, O, O, O, O, O, O, O, O, O, O, O, O, O, O]
abbrev b7A12 : Array Bool := #[I, I, I, I, I, I, I, I, I, I, I, I, O, O, O, O, O, O, O, O, O, O, O, O, O, O, O, O, O, O, O]
abbrev b7A13 : Array Bool := #[I, I, I, I, I, I, I, I, I, I, I, I, I, O, O, O, O, O, O, O, O, O, O, O, O, O, O, O, O, O, O]
abbrev b7A14 : Array Bool := #[I, I, I, I, I, I, I, I, I, I, I, I, I, I, O, O, O, O, O, O, O, O, O, O, O, O, O, O, O, O, O]
abbrev b7A15 : Array Bool := #[I, I, I, I, I, I, I, I, I, I, I, I, I, I, I, O, O, O, O, O, O, O, O, O, O, O, O, O, O, O, O]
abbrev b7A16 : Array Bool := #[I, I, I, I, I, I, I, I, I, I, I, I, I, I, I, I, O, O, O, O, O, O, O, O, O, O, O, O, O, O, O]
abbrev b7A17 : Array Bool := #[I, I, I, I, I, I, I, I, I, I, I, I, I, I, I, I, I, O, O, O, O, O, O, O, O, O, O, O, O, O, O]
abbrev b7A18 : Array Bool := #[I, I, I, I, I, I, I, I, I, I, I, I, I, I, I, I, I, I, O, O, O, O, O, O, O, O, O, O, O, O, O]
abbrev b7A19 : Array Bool := #[I, I, I, I, I, I, I, I, I, I, I, I, I, I, I, I, I, I, I, O, O, O, O, O, O, O, O, O, O, O, O]
abbrev b7A20 : Array Bool := #[I, I, I, I, I, I, I, I, I, I, I, I, I, I, I, I, I, I, I, I, O, O, O, O, O, O, O, O, O, O, O]
abbrev b7A21 : Array Bool := #[I, I, I, I, I, I, I, I, I, I, I, I, I, I, I, I, I, I, I, I, I, O, O, O, O, O, O, O, O, O, O]
abbrev b7A22 : Array Bool := #[I, I, I, I, I, I, I, I, I, I, I, I, I, I, I, I, I, I, I, I, I, O, I, O, O, O, O, O, O, O, O]
abbrev b7A23 : Array Bool := #[I, I, I, I, I, I, I, I, I, I, I, I, I, I, I, I, I, I, I, I, I, O, I, I, O, O, O, O, O, O, O]
abbrev b7A24 : Array Bool := #[I, I, I, I, I, I, I, I, I, I, I, I, I, I, I, I, I, I, I, I, I, O, I, I, I, O, O, O, O, O, O]
abbrev b7A25 : Array Bool := #[I, I, I, I, I, I, I, I, I, I, I, I, I, I, I, I, I, I, I, I, I, O, I, I, I, I, O, O, O, O, O]
abbrev b7A26 : Array Bool := #[I, I, I, I, I, I, I, I, I, I, I, I, I, I, I, I, I, I, I, I, I, O, I, I, I, I, I, O, O, O, O]
abbrev b7A27 : Array Bool := #[I, I, I, I, I, I, I, I, I, I, I, I, I, I, I, I, I, I, I, I, I, I, I, I, I, I, I, O, O, O, O]
abbrev b7A28 : Array Bool := #[I, I, I, I, I, I, I, I, I, I, I, I, I, I, I, I, I, I, I, I, I, I, I, I, I, I, I, I, O, O, O]
abbrev b7A29 : Array Bool := #[I, I, I, I, I, I, I, I, I, I, I, I, I, I, I, I, I, I, I, I, I, I, I, I, I, I, I, I, I, O, O]
abbrev b7A30 : Array Bool := #[I, I, I, I, I, I, I, I, I, I, I, I, I, I, I, I, I, I, I, I, I, I, I, I, I, I, I, I, I, I, O]
abbrev b7A31 : Array Bool := #[I, I, I, I, I, I, I, I, I, I, I, I, I, I, I, I, I, I, I, I, I, I, I, I, I, I, I, I, I, I, I]
abbrev b7A32 : Array Bool := #[I, I, I, I, I, I, I, I, I, I, I, I, I, I, I, I, I, I, I, I, I, I, O, O, O, O, O, O, O, O, O]
abbrev b7A33 : Array Bool := #[I, I, I, I, I, I, I, I, I, I, I, I, I, I, I, I, I, I, I, I, I, I, I, O, O, O, O, O, O, O, O]
abbrev b7A34 : Array Bool := #[I, I, I, I, I, I, I, I, I, I, I, I, I, I, I, I, I, I, I, I, I, I, I, I, O, O, O, O, O, O, O]
abbrev b7A35 : Array Bool := #[I, I, I, I, I, I, I, I, I, I, I, I, I, I, I, I, I, I, I, I, I, I, I, I, I, O, O, O, O, O, O]
abbrev b7A36 : Array Bool := #[I, I, I, I, I, I, I, I, I, I, I, I, I, I, I, I, I, I, I, I, I, I, I, I, I, I, O, O, O, O, O]
/-! ### impl_AreLetters: function 53 -/
mutual
def impl_AreLetters.l0 : Nat → List (S81) → List (S81) → Int → Int → Option (Bool)
 | 0, _, _, _, _ => none
 | k + 1, x0, x10, x11, x12 => if x12 < x11 then (if 0 ≤ x12 then (if x12 < (x10.length : Int) then ((impl_InRange.f ((rd_T81 x10 x12).f0) 1 999).bind fun t519 => (if t519 = true then ((impl_InRange.f ((rd_T81 x10 x12).f1) 1 999).bind fun t520 => (if t520 = true then ((impl_InRange.f ((rd_T81 x10 x12).f2) 0 100000).bind fun t521 => (if t521 = true then (if x12 > 0 then (if 0 ≤ (wrap64 (x12 - 1)) then (if (wrap64 (x12 - 1)) < (x0.length : Int) then (impl_AreLetters.j1 k x0 x12 x10 x11 x12 (decide (((rd_T81 x10 x12).f2) < ((rd_T81 x0 (wrap64 (x12 - 1))).f2))) ((rd_T81 x10 x12).f0) ((rd_T81 x10 x12).f1) ((rd_T81 x10 x12).f2)) else (none)) else (none)) else (impl_AreLetters.j1 k x0 x12 x10 x11 x12 false ((rd_T81 x10 x12).f0) ((rd_T81 x10 x12).f1) ((rd_T81 x10 x12).f2))) else (impl_AreLetters.j1 k x0 x12 x10 x11 x12 true ((rd_T81 x10 x12).f0) ((rd_T81 x10 x12).f1) ((rd_T81 x10 x12).f2)))) else (impl_AreLetters.j1 k x0 x12 x10 x11 x12 true ((rd_T81 x10 x12).f0) ((rd_T81 x10 x12).f1) ((rd_T81 x10 x12).f2)))) else (impl_AreLetters.j1 k x0 x12 x10 x11 x12 true ((rd_T81 x10 x12).f0) ((rd_T81 x10 x12).f1) ((rd_T81 x10 x12).f2)))) else (none)) else (none)) else (some true)
def impl_AreLetters.j1 : Nat → List (S81) → Int → List (S81) → Int → Int → Bool → Int → Int → Int → Option (Bool)
 | 0, _, _, _, _, _, _, _, _, _ => none
 | k + 1, x0, x3, x10, x11, x12, x47, x519000, x519001, x519002 => if x47 = true then (some false) else (if 0 ≤ x3 then (if x3 ≤ (x0.length : Int) then ((some (x0.take (x3 : Int).toNat : List (S81))).bind fun y523 => (impl_AreLetters.l1 k x0 x10 x11 x12 y523 (y523.length : Int) 0 x519000 x519001 x519002)) else (none)) else (none))
def impl_AreLetters.l1 : Nat → List (S81) → List (S81) → Int → Int → List (S81) → Int → Int → Int → Int → Int → Option (Bool)
 | 0, _, _, _, _, _, _, _, _, _, _ => none
 | k + 1, x0, x10, x11, x12, x50, x51, x52, x519000, x519001, x519002 => if x52 < x51 then (if 0 ≤ x52 then (if x52 < (x50.length : Int) then (if x519000 = ((rd_T81 x50 x52).f0) then (if x519001 = ((rd_T81 x50 x52).f1) then (some false) else (if (wrap64 (x519002 - ((rd_T81 x50 x52).f2))) < 168 then (some false) else (impl_AreLetters.l1 k x0 x10 x11 x12 x50 x51 (wrap64 (x52 + 1)) x519000 x519001 x519002))) else (impl_AreLetters.l1 k x0 x10 x11 x12 x50 x51 (wrap64 (x52 + 1)) x519000 x519001 x519002)) else (none)) else (none)) else (impl_AreLetters.l0 k x0 x10 x11 (wrap64 (x12 + 1)))
end
def impl_AreLetters.f (k : Nat) (l0 : List (S81)) : Option (Bool) := if (l0.length : Int) > 60 then (some false) else (impl_AreLetters.l0 k l0 l0 (l0.length : Int) 0)
def impl_AreLetters.T6 : Bool × List (List Nat × List Nat) := (true, [([], []), ([0], [0]), ([1], [1]), ([2], [2]), ([3, 2], [3]), ([4], [4]), ([5, 4], [4, 5]), ([6, 4, 4], [4, 6]), ([7, 4], [4, 7]), ([4, 8], [4, 8]), ([9, 7], [9]), ([10], [10]), ([11, 10], [10, 11]), ([12, 10, 10], [10, 12]), ([13, 10], [10, 13]), ([10, 14], [10, 14]), ([15, 13], [15]), ([16], [16]), ([17, 16], [16, 17]), ([18, 16, 16], [16, 18]), ([19], [19]), ([20, 19], [19, 20]), ([19], [19]), ([19], [19]), ([23, 19], [19, 23]), ([22, 24, 19], [19, 22, 24]), ([25, 19], [19, 25]), ([26, 19], [19, 26]), ([21, 27, 19], [19, 21, 27]), ([19, 28, 16], [16, 19, 28]), ([16, 29], [16, 29])])
def impl_AreLetters.B6 : List Nat := [0, 1, 3, 7, 15, 31, 63, 127, 255, 511, 1023, 2047, 4095, 8191, 16383, 32767, 65535, 131071, 262143, 524287, 1048575, 2097151, 1048575, 1048575, 9437183, 30408703, 63963135, 131071999, 268435455, 536870911, 1073741823]
theorem impl_AreLetters.tab6 : rtab .any (opsOf Try.f53 6) = impl_AreLetters.T6 := by kernel_rfl
theorem impl_AreLetters.bits6 : waitsOk impl_AreLetters.T6.2 impl_AreLetters.B6 = true := by kernel_rfl
set_option maxRecDepth 100000 in
theorem lf7_0 {p : Prop} (h : p := by
  go_wp2_with (first | ((with_reducible refine gate_dst (N := 6) rfl ?_); refine box_event ?hg (N := 6) ?hd (cs := #[.int .i64 0, .int .i64 0, .int .i64 0]) (t := 81) ?hr ?_; (case hd => rfl); (case hg => rfl); (case hr => first | (go_simp; done) | (go_simp; rfl)); intro gb528 hg wz0 hbox hb; have _ := zK (bB (qK BK518.o) hb); have _ := zK (bT M22 hb); have _ := zK (hbox); have _ := zK ((by rw [hg]; exact (bZ M22) : w.heap.size ≤ gb528)); have _ := zK ((by rw [hg]; exact (bZ M22) : w.heap.size ≤ gb528)); have _ := zK ((by rw [hg]; exact Nat.ne_of_lt (blk_lt (qK BK518.o)) : gb518 ≠ gb528)); have _ := zK ((by rw [hg]; exact Nat.ne_of_gt (blk_lt (qK BK518.o)) : gb528 ≠ gb518)); clear BK518 HB; rename_i BK518 HB BK528 GW528 GE528 NB518_528 NB528_518; clear hb hbox hg; have hnbz0 := NB528_518.o; have hncz0 := NB518_528.o; obtain ⟨hczz1_0, hczz1_1, hczz1_2, hfzz1_0, hfzz1_1, hfzz1_2⟩ := bx3 BK528.o; obtain ⟨hczz2_0, hczz2_1, hczz2_2, hfzz2_0, hfzz2_1, hfzz2_2⟩ := bx3 BK518.o))
  go_ret
  exact ⟨by first | rfl | (simp [errW_none, errW_some] <;> rfl) | (simp [*, errW_none, errW_some] <;> rfl), by exact qX HB.o⟩) : p := h
set_option maxHeartbeats 8000000 in
set_option maxRecDepth 100000 in
theorem impl_AreLetters.calls (k : Nat) (A0 : Option Addr) (c0 : Nat) (l0 : List (S81)) (r : Bool) (w : World) (hr0 : Kd.C k81 w A0 l0.length l0) (hc0 : l0.length ≤ c0) (h : impl_AreLetters.f k l0 = some r) :
  Calls Try.prog 53 #[.slice A0 l0.length c0] w fun e w' => e = .returned (.bool r) ∧ Below w.heap.size w w' := by
 have hu81 := Try.underlying81
 have HR0 := zK hr0
 have HC0 := zK hc0
 clear hr0 hc0
 have HB := zK (Below.refl w.heap.size w)
 have H : (if (l0.length : Int) > 60 then (some false) else (impl_AreLetters.l0 k l0 l0 (l0.length : Int) 0)) = some r := h
 clear h
 by_cases c2 : (l0.length : Int) > 60
 ·rw [if_pos c2] at H
  have c2b0 : decide (60 < (l0.length : Int)) = true := decide_eq_true c2
  have c2b1 : decide (60 < l0.length) = true := decide_eq_true (by omega)
  clear c2
  obtain rfl := Option.some.inj H
  go_enter Try.func53, Try.ntmps53
  go_wp2
  go_ret
  exact ⟨by first | rfl | (simp [errW_none, errW_some] <;> rfl) | (simp [*, errW_none, errW_some] <;> rfl), by exact qB HB.o⟩
 rw [if_neg c2] at H
 have c2b0 : decide (60 < (l0.length : Int)) = false := decide_eq_false c2
 have c2b1 : decide (60 < l0.length) = false := decide_eq_false (by omega)
 clear c2
 have H' := zK H
 clear H
 go_enter Try.func53, Try.ntmps53
 go_wp2
 go_loopg [12] k (fun kq v12 w' => ∃ (x12_1 : Int), v12 = .int .i64 x12_1 ∧ Aside0 (impl_AreLetters.l0 kq l0 l0 (l0.length : Int) x12_1 = some r) ∧ Aside0 (kq ≤ k) ∧ Aside0 (Below w.heap.size w w'))
 case atStart => exact ⟨(0), M7, H', ⟨Nat.le_refl _⟩, ⟨by exact qB HB.o⟩⟩
 case round =>
  clear H'
  try clear c2
  try clear c2b0
  try clear c2b1
  try clear p2
  obtain ⟨x12_1, rfl, HA, HK1, HB⟩ := hrel
  cases gk with
  | zero => exact absurd HA.o (by simp [impl_AreLetters.l0])
  | succ k1 =>
   have H := HA.o
   clear HA
   simp only [impl_AreLetters.l0] at H
   by_cases c3 : x12_1 < (l0.length : Int)
   rotate_left
   ·rw [if_neg c3] at H
    have c3b0 : decide (x12_1 < (l0.length : Int)) = false := decide_eq_false c3
    clear c3
    obtain rfl := Option.some.inj H
    go_wp2
    go_ret
    exact ⟨by first | rfl | (simp [errW_none, errW_some] <;> rfl) | (simp [*, errW_none, errW_some] <;> rfl), by exact qB HB.o⟩

   rw [if_pos c3] at H
   have c3b0 : decide (x12_1 < (l0.length : Int)) = true := decide_eq_true c3
   clear c3
   by_cases c4 : 0 ≤ x12_1
   rotate_left
   ·rw [if_neg c4] at H
    exact absurd H (by simp)
   rw [if_pos c4] at H
   have c4b0 : decide (0 ≤ x12_1) = true := decide_eq_true c4
   clear c4
   by_cases c5 : x12_1 < (l0.length : Int)
   rotate_left
   ·rw [if_neg c5] at H
    exact absurd H (by simp)
   rw [if_pos c5] at H
   have c5b0 : decide (x12_1 < (l0.length : Int)) = true := decide_eq_true c5
   clear c5
   have HC6 := zK H
   clear H
   have p517 : 0 ≤ (x12_1 : Int) := oD M3
   have q517 : x12_1 < (l0.length : Int) := oD M3
   obtain ⟨ad517, e517, hx517_0, hx517_1, hx517_2⟩ := at_T81 HR0.o x12_1 p517 q517
   cases e517
   replace hx517_0 := cB HB.o hx517_0
   replace hx517_1 := cB HB.o hx517_1
   replace hx517_2 := cB HB.o hx517_2
   replace p517 := eq_true p517
   replace q517 := eq_true q517
   go_upto_region 6 with (first | ((with_reducible refine gate_dst (N := 4) rfl ?_); refine box_event ?hg (N := 4) ?hd (cs := #[.int .i64 0, .int .i64 0, .int .i64 0]) (t := 81) ?hr ?_; (case hd => rfl); (case hg => rfl); (case hr => first | (go_simp; done) | (go_simp; rfl)); intro gb518 hg w7 hbox hb; have _ := zK (bT (qB HB.o) hb); have _ := zK (hbox); have _ := zK ((by rw [hg]; exact (bZ (qB HB.o)) : w.heap.size ≤ gb518)); have _ := zK ((by rw [hg]; exact (bZ (qB HB.o)) : w.heap.size ≤ gb518)); clear HB; rename_i HB BK518 GW518 GE518; clear hb hbox hg; obtain ⟨hcz8_0, hcz8_1, hcz8_2, hfz8_0, hfz8_1, hfz8_2⟩ := bx3 BK518.o))
   (try simp only [Act.put, sA, sZ, sS])
   go_cut [47] (fun v47 wc => ∃ (kq : Nat) (x47_5 : Bool), v47 = .bool x47_5 ∧ Aside0 (impl_AreLetters.j1 kq l0 x12_1 l0 (l0.length : Int) x12_1 x47_5 ((rd_T81 l0 x12_1).f0) ((rd_T81 l0 x12_1).f1) ((rd_T81 l0 x12_1).f2) = some r) ∧ Aside0 (kq ≤ k1) ∧ Aside0 (wc.heap[gb518]? = some (.cells #[.int .i64 ((rd_T81 l0 x12_1).f0), .int .i64 ((rd_T81 l0 x12_1).f1), .int .i64 ((rd_T81 l0 x12_1).f2)] 81 (0, 0))) ∧ Aside0 (Below w.heap.size w wc))
   case first =>
    have H := HC6.o
    clear HC6
    replace H := Option.bind_eq_some_iff.mp H
    obtain ⟨t519, A90, H⟩ := H
    try dsimp only at H
    have A9 := zK A90
    clear A90
    by_cases c10 : t519 = true
    rotate_left
    ·replace c10 := Bool.eq_false_iff.mpr c10
     subst c10
     have H1 : (impl_AreLetters.j1 k1 l0 x12_1 l0 (l0.length : Int) x12_1 true ((rd_T81 l0 x12_1).f0) ((rd_T81 l0 x12_1).f1) ((rd_T81 l0 x12_1).f2)) = some r := by rw [if_neg (show ¬ (false = true) by decide)] at H; exact H
     clear H
     have H := H1
     clear H1
     have H' := zK H
     clear H
     try go_wp2
     have n0_ : Aside0 ((((w7.setCell ⟨gb518, 0, none⟩ (.int .i64 ((rd_T81 l0 x12_1).f0))).setCell ⟨gb518, 1, none⟩ (.int .i64 ((rd_T81 l0 x12_1).f1))).setCell ⟨gb518, 2, none⟩ (.int .i64 ((rd_T81 l0 x12_1).f2))).heap[gb518]? = some (.cells #[.int .i64 ((rd_T81 l0 x12_1).f0), .int .i64 ((rd_T81 l0 x12_1).f1), .int .i64 ((rd_T81 l0 x12_1).f2)] 81 (0, 0))) := ⟨by (with_reducible repeat (first | refine kN ?_ _ | refine kD ?_ | refine kA ?_ _)); refine blk_put (cs := #[.int .i64 ((rd_T81 l0 x12_1).f0), .int .i64 ((rd_T81 l0 x12_1).f1), .int .i64 0]) ?_ 2 _ rfl; (with_reducible repeat (first | refine kN ?_ _ | refine kD ?_ | refine kA ?_ _)); refine blk_put (cs := #[.int .i64 ((rd_T81 l0 x12_1).f0), .int .i64 0, .int .i64 0]) ?_ 1 _ rfl; (with_reducible repeat (first | refine kN ?_ _ | refine kD ?_ | refine kA ?_ _)); refine blk_put (cs := #[.int .i64 0, .int .i64 0, .int .i64 0]) ?_ 0 _ rfl; exact qK BK518.o⟩
     have n1_ : Aside0 (Below w.heap.size w (((w7.setCell ⟨gb518, 0, none⟩ (.int .i64 ((rd_T81 l0 x12_1).f0))).setCell ⟨gb518, 1, none⟩ (.int .i64 ((rd_T81 l0 x12_1).f1))).setCell ⟨gb518, 2, none⟩ (.int .i64 ((rd_T81 l0 x12_1).f2)))) := ⟨by exact qX HB.o⟩
     (try clear BK518)
     (try clear HB)
     generalize (((w7.setCell ⟨gb518, 0, none⟩ (.int .i64 ((rd_T81 l0 x12_1).f0))).setCell ⟨gb518, 1, none⟩ (.int .i64 ((rd_T81 l0 x12_1).f1))).setCell ⟨gb518, 2, none⟩ (.int .i64 ((rd_T81 l0 x12_1).f2))) = w27 at n0_ n1_ ⊢
     have BK518 := n0_
     have HB := n1_
     clear n0_ n1_
     have n0_ := zK (kD BK518.o)
     have n1_ := zK (below_drew1 HB.o)
     clear BK518
     clear HB
     have BK518 := n0_
     have HB := n1_
     clear n0_ n1_
     refine start_ (n := 31) (S := fun w' => w'.cell? ⟨gb518, 0, none⟩ = some (.int .i64 ((rd_T81 l0 x12_1).f0)) ∧ w'.cell? ⟨gb518, 1, none⟩ = some (.int .i64 ((rd_T81 l0 x12_1).f1)) ∧ w'.cell? ⟨gb518, 2, none⟩ = some (.int .i64 ((rd_T81 l0 x12_1).f2))) (ds := []) b7A0 (by kernel_rfl) rfl rfl ⟨(bc BK518.o 0).trans rfl, (bc BK518.o 1).trans rfl, (bc BK518.o 2).trans rfl⟩ (fun hHeld => ?_); refine with_tabW impl_AreLetters.tab6 impl_AreLetters.bits6 (fun HT_ HW_ => ?_)
     generalize w27.drew = w28 at BK518 HB hHeld ⊢
     refine pI 0 (some 17) b7A1 HT_ ?_
     refine tI 1 (some 18) b7A2 HT_ HW_ hHeld rfl rfl (Or.inl ⟨by rfl, by rintro w' ⟨s0, s1, s2⟩; go_simp; with_reducible rfl⟩) ?_
     refine one_ (i := 2) (N := some 19) b7A3 rfl rfl (one_of HT_.o (by kernel_rfl)) (by decide) (fun K hK => ?_)
     refine goes_ Try.func120 (by kernel_rfl) rfl #[.int .i64 ((rd_T81 l0 x12_1).f0), .int .i64 1, .int .i64 999] (by rfl) rfl rfl M0 ?_
     with_reducible refine (impl_InRange.calls ((rd_T81 l0 x12_1).f0) 1 999 false _ A9.o).mono ?_
     rintro e w' ⟨rfl, ⟨nd, rfl⟩⟩
     refine ⟨_, rfl, ?_⟩
     refine hK.out _ _ ⟨(bc BK518.o 0).trans rfl, (bc BK518.o 1).trans rfl, (bc BK518.o 2).trans rfl⟩ (fun hHeld => ?_)
     clear hK K
     refine norm_ (a' := ?_) ?_ ?_
     rotate_left
     ·show Act.put _ (some 19) _ = _
      simp only [Act.put, sA, sZ, sS, i64_w, i32_w]
      rfl
     refine pI 3 (some 20) b7A4 HT_ ?_
     refine pI 4 (some 21) b7A5 HT_ ?_
     refine pU 5 (some 22) b7A6 HT_ ?_
     refine pU 6 (some 23) b7A7 HT_ ?_
     refine pU 7 (some 24) b7A8 HT_ ?_
     refine pU 8 (some 25) b7A9 HT_ ?_
     refine pI 9 (some 26) b7A10 HT_ ?_
     refine pI 10 (some 27) b7A11 HT_ ?_
     refine pU 11 (some 28) b7A12 HT_ ?_
     refine pU 12 (some 29) b7A13 HT_ ?_
     refine pU 13 (some 30) b7A14 HT_ ?_
     refine pU 14 (some 31) b7A15 HT_ ?_
     refine pI 15 (some 32) b7A16 HT_ ?_
     refine pI 16 (some 33) b7A17 HT_ ?_
     refine pU 17 (some 34) b7A18 HT_ ?_
     refine pU 18 (some 35) b7A19 HT_ ?_
     refine pU 19 (some 36) b7A20 HT_ ?_
     refine pU 20 (some 37) b7A21 HT_ ?_
     refine pU 21 (some 38) b7A32 HT_ ?_
     refine pU 22 (some 39) b7A33 HT_ ?_
     refine pU 23 (some 40) b7A34 HT_ ?_
     refine pU 24 (some 41) b7A35 HT_ ?_
     refine pU 25 (some 42) b7A36 HT_ ?_
     refine pU 26 (some 43) b7A27 HT_ ?_
     refine pU 27 (some 44) b7A28 HT_ ?_
     refine pU 28 (some 45) b7A29 HT_ ?_
     refine pU 29 (some 46) b7A30 HT_ ?_
     refine pI 30 (some 47) b7A31 HT_ ?_
     refine done_ (done_of HT_.o (by kernel_rfl)) ?_
     try go_wp2
     go_meet
     case rel => exact ⟨_, (true), M7, H', ⟨by have := HK1.o; first | omega | exact Nat.le_refl _⟩, ⟨by exact qK BK518.o⟩, ⟨by exact qX HB.o⟩⟩
    subst c10
    have H1 : ((impl_InRange.f ((rd_T81 l0 x12_1).f1) 1 999).bind fun t520 => (if t520 = true then ((impl_InRange.f ((rd_T81 l0 x12_1).f2) 0 100000).bind fun t521 => (if t521 = true then (if x12_1 > 0 then (if 0 ≤ (wrap64 (x12_1 - 1)) then (if (wrap64 (x12_1 - 1)) < (l0.length : Int) then (impl_AreLetters.j1 k1 l0 x12_1 l0 (l0.length : Int) x12_1 (decide (((rd_T81 l0 x12_1).f2) < ((rd_T81 l0 (wrap64 (x12_1 - 1))).f2))) ((rd_T81 l0 x12_1).f0) ((rd_T81 l0 x12_1).f1) ((rd_T81 l0 x12_1).f2)) else (none)) else (none)) else (impl_AreLetters.j1 k1 l0 x12_1 l0 (l0.length : Int) x12_1 false ((rd_T81 l0 x12_1).f0) ((rd_T81 l0 x12_1).f1) ((rd_T81 l0 x12_1).f2))) else (impl_AreLetters.j1 k1 l0 x12_1 l0 (l0.length : Int) x12_1 true ((rd_T81 l0 x12_1).f0) ((rd_T81 l0 x12_1).f1) ((rd_T81 l0 x12_1).f2)))) else (impl_AreLetters.j1 k1 l0 x12_1 l0 (l0.length : Int) x12_1 true ((rd_T81 l0 x12_1).f0) ((rd_T81 l0 x12_1).f1) ((rd_T81 l0 x12_1).f2)))) = some r := by rw [if_pos rfl] at H; exact H
    clear H
    have H := H1
    clear H1
    replace H := Option.bind_eq_some_iff.mp H
    obtain ⟨t520, A110, H⟩ := H
    try dsimp only at H
    have A11 := zK A110
    clear A110
    by_cases c12 : t520 = true
    rotate_left
    ·replace c12 := Bool.eq_false_iff.mpr c12
     subst c12
     have H1 : (impl_AreLetters.j1 k1 l0 x12_1 l0 (l0.length : Int) x12_1 true ((rd_T81 l0 x12_1).f0) ((rd_T81 l0 x12_1).f1) ((rd_T81 l0 x12_1).f2)) = some r := by rw [if_neg (show ¬ (false = true) by decide)] at H; exact H
     clear H
     have H := H1
     clear H1
     have H' := zK H
     clear H
     try go_wp2
     have n0_ : Aside0 ((((w7.setCell ⟨gb518, 0, none⟩ (.int .i64 ((rd_T81 l0 x12_1).f0))).setCell ⟨gb518, 1, none⟩ (.int .i64 ((rd_T81 l0 x12_1).f1))).setCell ⟨gb518, 2, none⟩ (.int .i64 ((rd_T81 l0 x12_1).f2))).heap[gb518]? = some (.cells #[.int .i64 ((rd_T81 l0 x12_1).f0), .int .i64 ((rd_T81 l0 x12_1).f1), .int .i64 ((rd_T81 l0 x12_1).f2)] 81 (0, 0))) := ⟨by (with_reducible repeat (first | refine kN ?_ _ | refine kD ?_ | refine kA ?_ _)); refine blk_put (cs := #[.int .i64 ((rd_T81 l0 x12_1).f0), .int .i64 ((rd_T81 l0 x12_1).f1), .int .i64 0]) ?_ 2 _ rfl; (with_reducible repeat (first | refine kN ?_ _ | refine kD ?_ | refine kA ?_ _)); refine blk_put (cs := #[.int .i64 ((rd_T81 l0 x12_1).f0), .int .i64 0, .int .i64 0]) ?_ 1 _ rfl; (with_reducible repeat (first | refine kN ?_ _ | refine kD ?_ | refine kA ?_ _)); refine blk_put (cs := #[.int .i64 0, .int .i64 0, .int .i64 0]) ?_ 0 _ rfl; exact qK BK518.o⟩
     have n1_ : Aside0 (Below w.heap.size w (((w7.setCell ⟨gb518, 0, none⟩ (.int .i64 ((rd_T81 l0 x12_1).f0))).setCell ⟨gb518, 1, none⟩ (.int .i64 ((rd_T81 l0 x12_1).f1))).setCell ⟨gb518, 2, none⟩ (.int .i64 ((rd_T81 l0 x12_1).f2)))) := ⟨by exact qX HB.o⟩
     (try clear BK518)
     (try clear HB)
     generalize (((w7.setCell ⟨gb518, 0, none⟩ (.int .i64 ((rd_T81 l0 x12_1).f0))).setCell ⟨gb518, 1, none⟩ (.int .i64 ((rd_T81 l0 x12_1).f1))).setCell ⟨gb518, 2, none⟩ (.int .i64 ((rd_T81 l0 x12_1).f2))) = w25 at n0_ n1_ ⊢
     have BK518 := n0_
     have HB := n1_
     clear n0_ n1_
     have n0_ := zK (kD BK518.o)
     have n1_ := zK (below_drew1 HB.o)
     clear BK518
     clear HB
     have BK518 := n0_
     have HB := n1_
     clear n0_ n1_
     refine start_ (n := 31) (S := fun w' => w'.cell? ⟨gb518, 0, none⟩ = some (.int .i64 ((rd_T81 l0 x12_1).f0)) ∧ w'.cell? ⟨gb518, 1, none⟩ = some (.int .i64 ((rd_T81 l0 x12_1).f1)) ∧ w'.cell? ⟨gb518, 2, none⟩ = some (.int .i64 ((rd_T81 l0 x12_1).f2))) (ds := []) b7A0 (by kernel_rfl) rfl rfl ⟨(bc BK518.o 0).trans rfl, (bc BK518.o 1).trans rfl, (bc BK518.o 2).trans rfl⟩ (fun hHeld => ?_); refine with_tabW impl_AreLetters.tab6 impl_AreLetters.bits6 (fun HT_ HW_ => ?_)
     generalize w25.drew = w26 at BK518 HB hHeld ⊢
     refine pI 0 (some 17) b7A1 HT_ ?_
     refine tI 1 (some 18) b7A2 HT_ HW_ hHeld rfl rfl (Or.inl ⟨by rfl, by rintro w' ⟨s0, s1, s2⟩; go_simp; with_reducible rfl⟩) ?_
     refine one_ (i := 2) (N := some 19) b7A3 rfl rfl (one_of HT_.o (by kernel_rfl)) (by decide) (fun K hK => ?_)
     refine goes_ Try.func120 (by kernel_rfl) rfl #[.int .i64 ((rd_T81 l0 x12_1).f0), .int .i64 1, .int .i64 999] (by rfl) rfl rfl M0 ?_
     with_reducible refine (impl_InRange.calls ((rd_T81 l0 x12_1).f0) 1 999 true _ A9.o).mono ?_
     rintro e w' ⟨rfl, ⟨nd, rfl⟩⟩
     refine ⟨_, rfl, ?_⟩
     refine hK.out _ _ ⟨(bc BK518.o 0).trans rfl, (bc BK518.o 1).trans rfl, (bc BK518.o 2).trans rfl⟩ (fun hHeld => ?_)
     clear hK K
     refine norm_ (a' := ?_) ?_ ?_
     rotate_left
     ·show Act.put _ (some 19) _ = _
      simp only [Act.put, sA, sZ, sS, i64_w, i32_w]
      rfl
     refine pI 3 (some 20) b7A4 HT_ ?_
     refine pI 4 (some 21) b7A5 HT_ ?_
     refine pI 5 (some 22) b7A6 HT_ ?_
     refine tI 6 (some 23) b7A7 HT_ HW_ hHeld rfl rfl (Or.inl ⟨by rfl, by rintro w' ⟨s0, s1, s2⟩; go_simp; with_reducible rfl⟩) ?_
     refine one_ (i := 7) (N := some 24) b7A8 rfl rfl (one_of HT_.o (by kernel_rfl)) (by decide) (fun K hK => ?_)
     refine goes_ Try.func120 (by kernel_rfl) rfl #[.int .i64 ((rd_T81 l0 x12_1).f1), .int .i64 1, .int .i64 999] (by rfl) rfl rfl M0 ?_
     with_reducible refine (impl_InRange.calls ((rd_T81 l0 x12_1).f1) 1 999 false _ A11.o).mono ?_
     rintro e w' ⟨rfl, ⟨nd, rfl⟩⟩
     refine ⟨_, rfl, ?_⟩
     refine hK.out _ _ ⟨(bc BK518.o 0).trans rfl, (bc BK518.o 1).trans rfl, (bc BK518.o 2).trans rfl⟩ (fun hHeld => ?_)
     clear hK K
     refine norm_ (a' := ?_) ?_ ?_
     rotate_left
     ·show Act.put _ (some 24) _ = _
      simp only [Act.put, sA, sZ, sS, i64_w, i32_w]
      rfl
     refine pI 8 (some 25) b7A9 HT_ ?_
     refine pI 9 (some 26) b7A10 HT_ ?_
     refine pI 10 (some 27) b7A11 HT_ ?_
     refine pU 11 (some 28) b7A12 HT_ ?_
     refine pU 12 (some 29) b7A13 HT_ ?_
     refine pU 13 (some 30) b7A14 HT_ ?_
     refine pU 14 (some 31) b7A15 HT_ ?_
     refine pI 15 (some 32) b7A16 HT_ ?_
     refine pI 16 (some 33) b7A17 HT_ ?_
     refine pU 17 (some 34) b7A18 HT_ ?_
     refine pU 18 (some 35) b7A19 HT_ ?_
     refine pU 19 (some 36) b7A20 HT_ ?_
     refine pU 20 (some 37) b7A21 HT_ ?_
     refine pU 21 (some 38) b7A32 HT_ ?_
     refine pU 22 (some 39) b7A33 HT_ ?_
     refine pU 23 (some 40) b7A34 HT_ ?_
     refine pU 24 (some 41) b7A35 HT_ ?_
     refine pU 25 (some 42) b7A36 HT_ ?_
     refine pU 26 (some 43) b7A27 HT_ ?_
     refine pU 27 (some 44) b7A28 HT_ ?_
     refine pU 28 (some 45) b7A29 HT_ ?_
     refine pU 29 (some 46) b7A30 HT_ ?_
     refine pI 30 (some 47) b7A31 HT_ ?_
     refine done_ (done_of HT_.o (by kernel_rfl)) ?_
     try go_wp2
     go_meet
     case rel => exact ⟨_, (true), M7, H', ⟨by have := HK1.o; first | omega | exact Nat.le_refl _⟩, ⟨by exact qK BK518.o⟩, ⟨by exact qX HB.o⟩⟩
    subst c12
    have H1 : ((impl_InRange.f ((rd_T81 l0 x12_1).f2) 0 100000).bind fun t521 => (if t521 = true then (if x12_1 > 0 then (if 0 ≤ (wrap64 (x12_1 - 1)) then (if (wrap64 (x12_1 - 1)) < (l0.length : Int) then (impl_AreLetters.j1 k1 l0 x12_1 l0 (l0.length : Int) x12_1 (decide (((rd_T81 l0 x12_1).f2) < ((rd_T81 l0 (wrap64 (x12_1 - 1))).f2))) ((rd_T81 l0 x12_1).f0) ((rd_T81 l0 x12_1).f1) ((rd_T81 l0 x12_1).f2)) else (none)) else (none)) else (impl_AreLetters.j1 k1 l0 x12_1 l0 (l0.length : Int) x12_1 false ((rd_T81 l0 x12_1).f0) ((rd_T81 l0 x12_1).f1) ((rd_T81 l0 x12_1).f2))) else (impl_AreLetters.j1 k1 l0 x12_1 l0 (l0.length : Int) x12_1 true ((rd_T81 l0 x12_1).f0) ((rd_T81 l0 x12_1).f1) ((rd_T81 l0 x12_1).f2)))) = some r := by rw [if_pos rfl] at H; exact H
    clear H
    have H := H1
    clear H1
    replace H := Option.bind_eq_some_iff.mp H
    obtain ⟨t521, A130, H⟩ := H
    try dsimp only at H
    have A13 := zK A130
    clear A130
    by_cases c14 : t521 = true
    rotate_left
    ·replace c14 := Bool.eq_false_iff.mpr c14
     subst c14
     have H1 : (impl_AreLetters.j1 k1 l0 x12_1 l0 (l0.length : Int) x12_1 true ((rd_T81 l0 x12_1).f0) ((rd_T81 l0 x12_1).f1) ((rd_T81 l0 x12_1).f2)) = some r := by rw [if_neg (show ¬ (false = true) by decide)] at H; exact H
     clear H
     have H := H1
     clear H1
     have H' := zK H
     clear H
     try go_wp2
     have n0_ : Aside0 ((((w7.setCell ⟨gb518, 0, none⟩ (.int .i64 ((rd_T81 l0 x12_1).f0))).setCell ⟨gb518, 1, none⟩ (.int .i64 ((rd_T81 l0 x12_1).f1))).setCell ⟨gb518, 2, none⟩ (.int .i64 ((rd_T81 l0 x12_1).f2))).heap[gb518]? = some (.cells #[.int .i64 ((rd_T81 l0 x12_1).f0), .int .i64 ((rd_T81 l0 x12_1).f1), .int .i64 ((rd_T81 l0 x12_1).f2)] 81 (0, 0))) := ⟨by (with_reducible repeat (first | refine kN ?_ _ | refine kD ?_ | refine kA ?_ _)); refine blk_put (cs := #[.int .i64 ((rd_T81 l0 x12_1).f0), .int .i64 ((rd_T81 l0 x12_1).f1), .int .i64 0]) ?_ 2 _ rfl; (with_reducible repeat (first | refine kN ?_ _ | refine kD ?_ | refine kA ?_ _)); refine blk_put (cs := #[.int .i64 ((rd_T81 l0 x12_1).f0), .int .i64 0, .int .i64 0]) ?_ 1 _ rfl; (with_reducible repeat (first | refine kN ?_ _ | refine kD ?_ | refine kA ?_ _)); refine blk_put (cs := #[.int .i64 0, .int .i64 0, .int .i64 0]) ?_ 0 _ rfl; exact qK BK518.o⟩
     have n1_ : Aside0 (Below w.heap.size w (((w7.setCell ⟨gb518, 0, none⟩ (.int .i64 ((rd_T81 l0 x12_1).f0))).setCell ⟨gb518, 1, none⟩ (.int .i64 ((rd_T81 l0 x12_1).f1))).setCell ⟨gb518, 2, none⟩ (.int .i64 ((rd_T81 l0 x12_1).f2)))) := ⟨by exact qX HB.o⟩
     (try clear BK518)
     (try clear HB)
     generalize (((w7.setCell ⟨gb518, 0, none⟩ (.int .i64 ((rd_T81 l0 x12_1).f0))).setCell ⟨gb518, 1, none⟩ (.int .i64 ((rd_T81 l0 x12_1).f1))).setCell ⟨gb518, 2, none⟩ (.int .i64 ((rd_T81 l0 x12_1).f2))) = w23 at n0_ n1_ ⊢
     have BK518 := n0_
     have HB := n1_
     clear n0_ n1_
     have n0_ := zK (kD BK518.o)
     have n1_ := zK (below_drew1 HB.o)
     clear BK518
     clear HB
     have BK518 := n0_
     have HB := n1_
     clear n0_ n1_
     refine start_ (n := 31) (S := fun w' => w'.cell? ⟨gb518, 0, none⟩ = some (.int .i64 ((rd_T81 l0 x12_1).f0)) ∧ w'.cell? ⟨gb518, 1, none⟩ = some (.int .i64 ((rd_T81 l0 x12_1).f1)) ∧ w'.cell? ⟨gb518, 2, none⟩ = some (.int .i64 ((rd_T81 l0 x12_1).f2))) (ds := []) b7A0 (by kernel_rfl) rfl rfl ⟨(bc BK518.o 0).trans rfl, (bc BK518.o 1).trans rfl, (bc BK518.o 2).trans rfl⟩ (fun hHeld => ?_); refine with_tabW impl_AreLetters.tab6 impl_AreLetters.bits6 (fun HT_ HW_ => ?_)
     generalize w23.drew = w24 at BK518 HB hHeld ⊢
     refine pI 0 (some 17) b7A1 HT_ ?_
     refine tI 1 (some 18) b7A2 HT_ HW_ hHeld rfl rfl (Or.inl ⟨by rfl, by rintro w' ⟨s0, s1, s2⟩; go_simp; with_reducible rfl⟩) ?_
     refine one_ (i := 2) (N := some 19) b7A3 rfl rfl (one_of HT_.o (by kernel_rfl)) (by decide) (fun K hK => ?_)
     refine goes_ Try.func120 (by kernel_rfl) rfl #[.int .i64 ((rd_T81 l0 x12_1).f0), .int .i64 1, .int .i64 999] (by rfl) rfl rfl M0 ?_
     with_reducible refine (impl_InRange.calls ((rd_T81 l0 x12_1).f0) 1 999 true _ A9.o).mono ?_
     rintro e w' ⟨rfl, ⟨nd, rfl⟩⟩
     refine ⟨_, rfl, ?_⟩
     refine hK.out _ _ ⟨(bc BK518.o 0).trans rfl, (bc BK518.o 1).trans rfl, (bc BK518.o 2).trans rfl⟩ (fun hHeld => ?_)
     clear hK K
     refine norm_ (a' := ?_) ?_ ?_
     rotate_left
     ·show Act.put _ (some 19) _ = _
      simp only [Act.put, sA, sZ, sS, i64_w, i32_w]
      rfl
     refine pI 3 (some 20) b7A4 HT_ ?_
     refine pI 4 (some 21) b7A5 HT_ ?_
     refine pI 5 (some 22) b7A6 HT_ ?_
     refine tI 6 (some 23) b7A7 HT_ HW_ hHeld rfl rfl (Or.inl ⟨by rfl, by rintro w' ⟨s0, s1, s2⟩; go_simp; with_reducible rfl⟩) ?_
     refine one_ (i := 7) (N := some 24) b7A8 rfl rfl (one_of HT_.o (by kernel_rfl)) (by decide) (fun K hK => ?_)
     refine goes_ Try.func120 (by kernel_rfl) rfl #[.int .i64 ((rd_T81 l0 x12_1).f1), .int .i64 1, .int .i64 999] (by rfl) rfl rfl M0 ?_
     with_reducible refine (impl_InRange.calls ((rd_T81 l0 x12_1).f1) 1 999 true _ A11.o).mono ?_
     rintro e w' ⟨rfl, ⟨nd, rfl⟩⟩
     refine ⟨_, rfl, ?_⟩
     refine hK.out _ _ ⟨(bc BK518.o 0).trans rfl, (bc BK518.o 1).trans rfl, (bc BK518.o 2).trans rfl⟩ (fun hHeld => ?_)
     clear hK K
     refine norm_ (a' := ?_) ?_ ?_
     rotate_left
     ·show Act.put _ (some 24) _ = _
      simp only [Act.put, sA, sZ, sS, i64_w, i32_w]
      rfl
     refine pI 8 (some 25) b7A9 HT_ ?_
     refine pI 9 (some 26) b7A10 HT_ ?_
     refine pI 10 (some 27) b7A11 HT_ ?_
     refine pI 11 (some 28) b7A12 HT_ ?_
     refine tI 12 (some 29) b7A13 HT_ HW_ hHeld rfl rfl (Or.inl ⟨by rfl, by rintro w' ⟨s0, s1, s2⟩; go_simp; with_reducible rfl⟩) ?_
     refine one_ (i := 13) (N := some 30) b7A14 rfl rfl (one_of HT_.o (by kernel_rfl)) (by decide) (fun K hK => ?_)
     refine goes_ Try.func120 (by kernel_rfl) rfl #[.int .i64 ((rd_T81 l0 x12_1).f2), .int .i64 0, .int .i64 100000] (by rfl) rfl rfl M0 ?_
     with_reducible refine (impl_InRange.calls ((rd_T81 l0 x12_1).f2) 0 100000 false _ A13.o).mono ?_
     rintro e w' ⟨rfl, ⟨nd, rfl⟩⟩
     refine ⟨_, rfl, ?_⟩
     refine hK.out _ _ ⟨(bc BK518.o 0).trans rfl, (bc BK518.o 1).trans rfl, (bc BK518.o 2).trans rfl⟩ (fun hHeld => ?_)
     clear hK K
     refine norm_ (a' := ?_) ?_ ?_
     rotate_left
     ·show Act.put _ (some 30) _ = _
      simp only [Act.put, sA, sZ, sS, i64_w, i32_w]
      rfl
     refine pI 14 (some 31) b7A15 HT_ ?_
     refine pI 15 (some 32) b7A16 HT_ ?_
     refine pI 16 (some 33) b7A17 HT_ ?_
     refine pU 17 (some 34) b7A18 HT_ ?_
     refine pU 18 (some 35) b7A19 HT_ ?_
     refine pU 19 (some 36) b7A20 HT_ ?_
     refine pU 20 (some 37) b7A21 HT_ ?_
     refine pU 21 (some 38) b7A32 HT_ ?_
     refine pU 22 (some 39) b7A33 HT_ ?_
     refine pU 23 (some 40) b7A34 HT_ ?_
     refine pU 24 (some 41) b7A35 HT_ ?_
     refine pU 25 (some 42) b7A36 HT_ ?_
     refine pU 26 (some 43) b7A27 HT_ ?_
     refine pU 27 (some 44) b7A28 HT_ ?_
     refine pU 28 (some 45) b7A29 HT_ ?_
     refine pU 29 (some 46) b7A30 HT_ ?_
     refine pI 30 (some 47) b7A31 HT_ ?_
     refine done_ (done_of HT_.o (by kernel_rfl)) ?_
     try go_wp2
     go_meet
     case rel => exact ⟨_, (true), M7, H', ⟨by have := HK1.o; first | omega | exact Nat.le_refl _⟩, ⟨by exact qK BK518.o⟩, ⟨by exact qX HB.o⟩⟩
    subst c14
    have H1 : (if x12_1 > 0 then (if 0 ≤ (wrap64 (x12_1 - 1)) then (if (wrap64 (x12_1 - 1)) < (l0.length : Int) then (impl_AreLetters.j1 k1 l0 x12_1 l0 (l0.length : Int) x12_1 (decide (((rd_T81 l0 x12_1).f2) < ((rd_T81 l0 (wrap64 (x12_1 - 1))).f2))) ((rd_T81 l0 x12_1).f0) ((rd_T81 l0 x12_1).f1) ((rd_T81 l0 x12_1).f2)) else (none)) else (none)) else (impl_AreLetters.j1 k1 l0 x12_1 l0 (l0.length : Int) x12_1 false ((rd_T81 l0 x12_1).f0) ((rd_T81 l0 x12_1).f1) ((rd_T81 l0 x12_1).f2))) = some r := by rw [if_pos rfl] at H; exact H
    clear H
    have H := H1
    clear H1
    by_cases c15 : x12_1 > 0
    rotate_left
    ·rw [if_neg c15] at H
     have c15b0 : decide (0 < x12_1) = false := decide_eq_false c15
     clear c15
     (first | rw [c15b0] | rw [c15b1] | (simp only [i64_w, i32_w]; rw [c15b0]) | skip)
     have H' := zK H
     clear H
     try go_wp2
     have n0_ : Aside0 ((((w7.setCell ⟨gb518, 0, none⟩ (.int .i64 ((rd_T81 l0 x12_1).f0))).setCell ⟨gb518, 1, none⟩ (.int .i64 ((rd_T81 l0 x12_1).f1))).setCell ⟨gb518, 2, none⟩ (.int .i64 ((rd_T81 l0 x12_1).f2))).heap[gb518]? = some (.cells #[.int .i64 ((rd_T81 l0 x12_1).f0), .int .i64 ((rd_T81 l0 x12_1).f1), .int .i64 ((rd_T81 l0 x12_1).f2)] 81 (0, 0))) := ⟨by (with_reducible repeat (first | refine kN ?_ _ | refine kD ?_ | refine kA ?_ _)); refine blk_put (cs := #[.int .i64 ((rd_T81 l0 x12_1).f0), .int .i64 ((rd_T81 l0 x12_1).f1), .int .i64 0]) ?_ 2 _ rfl; (with_reducible repeat (first | refine kN ?_ _ | refine kD ?_ | refine kA ?_ _)); refine blk_put (cs := #[.int .i64 ((rd_T81 l0 x12_1).f0), .int .i64 0, .int .i64 0]) ?_ 1 _ rfl; (with_reducible repeat (first | refine kN ?_ _ | refine kD ?_ | refine kA ?_ _)); refine blk_put (cs := #[.int .i64 0, .int .i64 0, .int .i64 0]) ?_ 0 _ rfl; exact qK BK518.o⟩
     have n1_ : Aside0 (Below w.heap.size w (((w7.setCell ⟨gb518, 0, none⟩ (.int .i64 ((rd_T81 l0 x12_1).f0))).setCell ⟨gb518, 1, none⟩ (.int .i64 ((rd_T81 l0 x12_1).f1))).setCell ⟨gb518, 2, none⟩ (.int .i64 ((rd_T81 l0 x12_1).f2)))) := ⟨by exact qX HB.o⟩
     (try clear BK518)
     (try clear HB)
     generalize (((w7.setCell ⟨gb518, 0, none⟩ (.int .i64 ((rd_T81 l0 x12_1).f0))).setCell ⟨gb518, 1, none⟩ (.int .i64 ((rd_T81 l0 x12_1).f1))).setCell ⟨gb518, 2, none⟩ (.int .i64 ((rd_T81 l0 x12_1).f2))) = w21 at n0_ n1_ ⊢
     have BK518 := n0_
     have HB := n1_
     clear n0_ n1_
     have n0_ := zK (kD BK518.o)
     have n1_ := zK (below_drew1 HB.o)
     clear BK518
     clear HB
     have BK518 := n0_
     have HB := n1_
     clear n0_ n1_
     refine start_ (n := 31) (S := fun w' => w'.cell? ⟨gb518, 0, none⟩ = some (.int .i64 ((rd_T81 l0 x12_1).f0)) ∧ w'.cell? ⟨gb518, 1, none⟩ = some (.int .i64 ((rd_T81 l0 x12_1).f1)) ∧ w'.cell? ⟨gb518, 2, none⟩ = some (.int .i64 ((rd_T81 l0 x12_1).f2))) (ds := []) b7A0 (by kernel_rfl) rfl rfl ⟨(bc BK518.o 0).trans rfl, (bc BK518.o 1).trans rfl, (bc BK518.o 2).trans rfl⟩ (fun hHeld => ?_); refine with_tabW impl_AreLetters.tab6 impl_AreLetters.bits6 (fun HT_ HW_ => ?_)
     generalize w21.drew = w22 at BK518 HB hHeld ⊢
     refine pI 0 (some 17) b7A1 HT_ ?_
     refine tI 1 (some 18) b7A2 HT_ HW_ hHeld rfl rfl (Or.inl ⟨by rfl, by rintro w' ⟨s0, s1, s2⟩; go_simp; with_reducible rfl⟩) ?_
     refine one_ (i := 2) (N := some 19) b7A3 rfl rfl (one_of HT_.o (by kernel_rfl)) (by decide) (fun K hK => ?_)
     refine goes_ Try.func120 (by kernel_rfl) rfl #[.int .i64 ((rd_T81 l0 x12_1).f0), .int .i64 1, .int .i64 999] (by rfl) rfl rfl M0 ?_
     with_reducible refine (impl_InRange.calls ((rd_T81 l0 x12_1).f0) 1 999 true _ A9.o).mono ?_
     rintro e w' ⟨rfl, ⟨nd, rfl⟩⟩
     refine ⟨_, rfl, ?_⟩
     refine hK.out _ _ ⟨(bc BK518.o 0).trans rfl, (bc BK518.o 1).trans rfl, (bc BK518.o 2).trans rfl⟩ (fun hHeld => ?_)
     clear hK K
     refine norm_ (a' := ?_) ?_ ?_
     rotate_left
     ·show Act.put _ (some 19) _ = _
      simp only [Act.put, sA, sZ, sS, i64_w, i32_w]
      rfl
     refine pI 3 (some 20) b7A4 HT_ ?_
     refine pI 4 (some 21) b7A5 HT_ ?_
     refine pI 5 (some 22) b7A6 HT_ ?_
     refine tI 6 (some 23) b7A7 HT_ HW_ hHeld rfl rfl (Or.inl ⟨by rfl, by rintro w' ⟨s0, s1, s2⟩; go_simp; with_reducible rfl⟩) ?_
     refine one_ (i := 7) (N := some 24) b7A8 rfl rfl (one_of HT_.o (by kernel_rfl)) (by decide) (fun K hK => ?_)
     refine goes_ Try.func120 (by kernel_rfl) rfl #[.int .i64 ((rd_T81 l0 x12_1).f1), .int .i64 1, .int .i64 999] (by rfl) rfl rfl M0 ?_
     with_reducible refine (impl_InRange.calls ((rd_T81 l0 x12_1).f1) 1 999 true _ A11.o).mono ?_
     rintro e w' ⟨rfl, ⟨nd, rfl⟩⟩
     refine ⟨_, rfl, ?_⟩
     refine hK.out _ _ ⟨(bc BK518.o 0).trans rfl, (bc BK518.o 1).trans rfl, (bc BK518.o 2).trans rfl⟩ (fun hHeld => ?_)
     clear hK K
     refine norm_ (a' := ?_) ?_ ?_
     rotate_left
     ·show Act.put _ (some 24) _ = _
      simp only [Act.put, sA, sZ, sS, i64_w, i32_w]
      rfl
     refine pI 8 (some 25) b7A9 HT_ ?_
     refine pI 9 (some 26) b7A10 HT_ ?_
     refine pI 10 (some 27) b7A11 HT_ ?_
     refine pI 11 (some 28) b7A12 HT_ ?_
     refine tI 12 (some 29) b7A13 HT_ HW_ hHeld rfl rfl (Or.inl ⟨by rfl, by rintro w' ⟨s0, s1, s2⟩; go_simp; with_reducible rfl⟩) ?_
     refine one_ (i := 13) (N := some 30) b7A14 rfl rfl (one_of HT_.o (by kernel_rfl)) (by decide) (fun K hK => ?_)
     refine goes_ Try.func120 (by kernel_rfl) rfl #[.int .i64 ((rd_T81 l0 x12_1).f2), .int .i64 0, .int .i64 100000] (by rfl) rfl rfl M0 ?_
     with_reducible refine (impl_InRange.calls ((rd_T81 l0 x12_1).f2) 0 100000 true _ A13.o).mono ?_
     rintro e w' ⟨rfl, ⟨nd, rfl⟩⟩
     refine ⟨_, rfl, ?_⟩
     refine hK.out _ _ ⟨(bc BK518.o 0).trans rfl, (bc BK518.o 1).trans rfl, (bc BK518.o 2).trans rfl⟩ (fun hHeld => ?_)
     clear hK K
     refine norm_ (a' := ?_) ?_ ?_
     rotate_left
     ·show Act.put _ (some 30) _ = _
      simp only [Act.put, sA, sZ, sS, i64_w, i32_w]
      rfl
     refine pI 14 (some 31) b7A15 HT_ ?_
     refine pI 15 (some 32) b7A16 HT_ ?_
     refine pI 16 (some 33) b7A17 HT_ ?_
     refine pI 17 (some 34) b7A18 HT_ ?_
     refine pI 18 (some 35) b7A19 HT_ ?_
     refine pI 19 (some 36) b7A20 HT_ ?_
     refine pU 20 (some 37) b7A21 HT_ ?_
     refine pU 21 (some 38) b7A32 HT_ ?_
     refine pU 22 (some 39) b7A33 HT_ ?_
     refine pU 23 (some 40) b7A34 HT_ ?_
     refine pU 24 (some 41) b7A35 HT_ ?_
     refine pU 25 (some 42) b7A36 HT_ ?_
     refine pU 26 (some 43) b7A27 HT_ ?_
     refine pU 27 (some 44) b7A28 HT_ ?_
     refine pU 28 (some 45) b7A29 HT_ ?_
     refine pI 29 (some 46) b7A30 HT_ ?_
     refine pI 30 (some 47) b7A31 HT_ ?_
     refine done_ (done_of HT_.o (by kernel_rfl)) ?_
     try go_wp2
     go_meet
     case rel => exact ⟨_, (false), M7, H', ⟨by have := HK1.o; first | omega | exact Nat.le_refl _⟩, ⟨by exact qK BK518.o⟩, ⟨by exact qX HB.o⟩⟩
    rw [if_pos c15] at H
    have c15b0 : decide (0 < x12_1) = true := decide_eq_true c15
    clear c15
    (first | rw [c15b0] | rw [c15b1] | (simp only [i64_w, i32_w]; rw [c15b0]) | skip)
    obtain ⟨ji16, hji16⟩ : ∃ j_ : Int, (wrap64 (x12_1 - 1)) = j_ := ⟨_, rfl⟩
    replace H : (if 0 ≤ (ji16) then (if (ji16) < (l0.length : Int) then (impl_AreLetters.j1 k1 l0 x12_1 l0 (l0.length : Int) x12_1 (decide (((rd_T81 l0 x12_1).f2) < ((rd_T81 l0 (ji16)).f2))) ((rd_T81 l0 x12_1).f0) ((rd_T81 l0 x12_1).f1) ((rd_T81 l0 x12_1).f2)) else (none)) else (none)) = some r := by first | (rw [hji16] at H; exact H) | (simp only [hji16] at H ⊢; exact H)
    (try rw [hji16] at A9)
    (try rw [hji16] at A11)
    (try rw [hji16] at A13)
    have hji16w : (IntKind.i64.wrap (x12_1 - 1)) = ji16 := (i64_w _).trans hji16
    by_cases c17 : 0 ≤ (ji16)
    rotate_left
    ·rw [if_neg c17] at H
     exact absurd H (by simp)
    rw [if_pos c17] at H
    have c17b0 : decide (0 ≤ (ji16)) = true := decide_eq_true c17
    clear c17
    by_cases c18 : (ji16) < (l0.length : Int)
    rotate_left
    ·rw [if_neg c18] at H
     exact absurd H (by simp)
    rw [if_pos c18] at H
    have c18b0 : decide ((ji16) < (l0.length : Int)) = true := decide_eq_true c18
    clear c18
    have H' := zK H
    clear H
    try go_wp2
    have n0_ : Aside0 ((((w7.setCell ⟨gb518, 0, none⟩ (.int .i64 ((rd_T81 l0 x12_1).f0))).setCell ⟨gb518, 1, none⟩ (.int .i64 ((rd_T81 l0 x12_1).f1))).setCell ⟨gb518, 2, none⟩ (.int .i64 ((rd_T81 l0 x12_1).f2))).heap[gb518]? = some (.cells #[.int .i64 ((rd_T81 l0 x12_1).f0), .int .i64 ((rd_T81 l0 x12_1).f1), .int .i64 ((rd_T81 l0 x12_1).f2)] 81 (0, 0))) := ⟨by (with_reducible repeat (first | refine kN ?_ _ | refine kD ?_ | refine kA ?_ _)); refine blk_put (cs := #[.int .i64 ((rd_T81 l0 x12_1).f0), .int .i64 ((rd_T81 l0 x12_1).f1), .int .i64 0]) ?_ 2 _ rfl; (with_reducible repeat (first | refine kN ?_ _ | refine kD ?_ | refine kA ?_ _)); refine blk_put (cs := #[.int .i64 ((rd_T81 l0 x12_1).f0), .int .i64 0, .int .i64 0]) ?_ 1 _ rfl; (with_reducible repeat (first | refine kN ?_ _ | refine kD ?_ | refine kA ?_ _)); refine blk_put (cs := #[.int .i64 0, .int .i64 0, .int .i64 0]) ?_ 0 _ rfl; exact qK BK518.o⟩
    have n1_ : Aside0 (Below w.heap.size w (((w7.setCell ⟨gb518, 0, none⟩ (.int .i64 ((rd_T81 l0 x12_1).f0))).setCell ⟨gb518, 1, none⟩ (.int .i64 ((rd_T81 l0 x12_1).f1))).setCell ⟨gb518, 2, none⟩ (.int .i64 ((rd_T81 l0 x12_1).f2)))) := ⟨by exact qX HB.o⟩
    (try clear BK518)
    (try clear HB)
    generalize (((w7.setCell ⟨gb518, 0, none⟩ (.int .i64 ((rd_T81 l0 x12_1).f0))).setCell ⟨gb518, 1, none⟩ (.int .i64 ((rd_T81 l0 x12_1).f1))).setCell ⟨gb518, 2, none⟩ (.int .i64 ((rd_T81 l0 x12_1).f2))) = w19 at n0_ n1_ ⊢
    have BK518 := n0_
    have HB := n1_
    clear n0_ n1_
    have n0_ := zK (kD BK518.o)
    have n1_ := zK (below_drew1 HB.o)
    clear BK518
    clear HB
    have BK518 := n0_
    have HB := n1_
    clear n0_ n1_
    have p522 : 0 ≤ ((ji16) : Int) := oD M3
    have q522 : (ji16) < (l0.length : Int) := oD M3
    obtain ⟨ad522, e522, hx522_0, hx522_1, hx522_2⟩ := at_T81 HR0.o (ji16) p522 q522
    have hw522_2 := hx522_2
    have hw522_1 := hx522_1
    have hw522_0 := hx522_0
    obtain rfl : ad517 = ad522 := (by injection e522)
    replace hx522_0 := cB HB.o hx522_0
    replace hx522_1 := cB HB.o hx522_1
    replace hx522_2 := cB HB.o hx522_2
    replace p522 := eq_true p522
    replace q522 := eq_true q522
    refine start_ (n := 31) (S := fun w' => w'.cell? ⟨gb518, 0, none⟩ = some (.int .i64 ((rd_T81 l0 x12_1).f0)) ∧ w'.cell? ⟨gb518, 1, none⟩ = some (.int .i64 ((rd_T81 l0 x12_1).f1)) ∧ w'.cell? ⟨gb518, 2, none⟩ = some (.int .i64 ((rd_T81 l0 x12_1).f2)) ∧ w'.cell? (ad517.add (((ji16)).toNat * 3)) = some (.int .i64 ((rd_T81 l0 (ji16)).f0)) ∧ w'.cell? ⟨(ad517.add (((ji16)).toNat * 3)).block, (ad517.add (((ji16)).toNat * 3)).off + 1, none⟩ = some (.int .i64 ((rd_T81 l0 (ji16)).f1)) ∧ w'.cell? ⟨(ad517.add (((ji16)).toNat * 3)).block, (ad517.add (((ji16)).toNat * 3)).off + 2, none⟩ = some (.int .i64 ((rd_T81 l0 (ji16)).f2))) (ds := []) b7A0 (by kernel_rfl) rfl rfl ⟨(bc BK518.o 0).trans rfl, (bc BK518.o 1).trans rfl, (bc BK518.o 2).trans rfl, (cB HB.o hw522_0 :), (cB HB.o hw522_1 :), (cB HB.o hw522_2 :)⟩ (fun hHeld => ?_); refine with_tabW impl_AreLetters.tab6 impl_AreLetters.bits6 (fun HT_ HW_ => ?_)
    generalize w19.drew = w20 at BK518 HB hx522_0 hx522_1 hx522_2 hHeld ⊢
    refine pI 0 (some 17) b7A1 HT_ ?_
    refine tI 1 (some 18) b7A2 HT_ HW_ hHeld rfl rfl (Or.inl ⟨by rfl, by rintro w' ⟨s0, s1, s2, s3, s4, s5⟩; go_simp; with_reducible rfl⟩) ?_
    refine one_ (i := 2) (N := some 19) b7A3 rfl rfl (one_of HT_.o (by kernel_rfl)) (by decide) (fun K hK => ?_)
    refine goes_ Try.func120 (by kernel_rfl) rfl #[.int .i64 ((rd_T81 l0 x12_1).f0), .int .i64 1, .int .i64 999] (by rfl) rfl rfl M0 ?_
    with_reducible refine (impl_InRange.calls ((rd_T81 l0 x12_1).f0) 1 999 true _ A9.o).mono ?_
    rintro e w' ⟨rfl, ⟨nd, rfl⟩⟩
    refine ⟨_, rfl, ?_⟩
    refine hK.out _ _ ⟨(bc BK518.o 0).trans rfl, (bc BK518.o 1).trans rfl, (bc BK518.o 2).trans rfl, (cB HB.o hw522_0 :), (cB HB.o hw522_1 :), (cB HB.o hw522_2 :)⟩ (fun hHeld => ?_)
    clear hK K
    refine norm_ (a' := ?_) ?_ ?_
    rotate_left
    ·show Act.put _ (some 19) _ = _
     simp only [Act.put, sA, sZ, sS, i64_w, i32_w]
     rfl
    refine pI 3 (some 20) b7A4 HT_ ?_
    refine pI 4 (some 21) b7A5 HT_ ?_
    refine pI 5 (some 22) b7A6 HT_ ?_
    refine tI 6 (some 23) b7A7 HT_ HW_ hHeld rfl rfl (Or.inl ⟨by rfl, by rintro w' ⟨s0, s1, s2, s3, s4, s5⟩; go_simp; with_reducible rfl⟩) ?_
    refine one_ (i := 7) (N := some 24) b7A8 rfl rfl (one_of HT_.o (by kernel_rfl)) (by decide) (fun K hK => ?_)
    refine goes_ Try.func120 (by kernel_rfl) rfl #[.int .i64 ((rd_T81 l0 x12_1).f1), .int .i64 1, .int .i64 999] (by rfl) rfl rfl M0 ?_
    with_reducible refine (impl_InRange.calls ((rd_T81 l0 x12_1).f1) 1 999 true _ A11.o).mono ?_
    rintro e w' ⟨rfl, ⟨nd, rfl⟩⟩
    refine ⟨_, rfl, ?_⟩
    refine hK.out _ _ ⟨(bc BK518.o 0).trans rfl, (bc BK518.o 1).trans rfl, (bc BK518.o 2).trans rfl, (cB HB.o hw522_0 :), (cB HB.o hw522_1 :), (cB HB.o hw522_2 :)⟩ (fun hHeld => ?_)
    clear hK K
    refine norm_ (a' := ?_) ?_ ?_
    rotate_left
    ·show Act.put _ (some 24) _ = _
     simp only [Act.put, sA, sZ, sS, i64_w, i32_w]
     rfl
    refine pI 8 (some 25) b7A9 HT_ ?_
    refine pI 9 (some 26) b7A10 HT_ ?_
    refine pI 10 (some 27) b7A11 HT_ ?_
    refine pI 11 (some 28) b7A12 HT_ ?_
    refine tI 12 (some 29) b7A13 HT_ HW_ hHeld rfl rfl (Or.inl ⟨by rfl, by rintro w' ⟨s0, s1, s2, s3, s4, s5⟩; go_simp; with_reducible rfl⟩) ?_
    refine one_ (i := 13) (N := some 30) b7A14 rfl rfl (one_of HT_.o (by kernel_rfl)) (by decide) (fun K hK => ?_)
    refine goes_ Try.func120 (by kernel_rfl) rfl #[.int .i64 ((rd_T81 l0 x12_1).f2), .int .i64 0, .int .i64 100000] (by rfl) rfl rfl M0 ?_
    with_reducible refine (impl_InRange.calls ((rd_T81 l0 x12_1).f2) 0 100000 true _ A13.o).mono ?_
    rintro e w' ⟨rfl, ⟨nd, rfl⟩⟩
    refine ⟨_, rfl, ?_⟩
    refine hK.out _ _ ⟨(bc BK518.o 0).trans rfl, (bc BK518.o 1).trans rfl, (bc BK518.o 2).trans rfl, (cB HB.o hw522_0 :), (cB HB.o hw522_1 :), (cB HB.o hw522_2 :)⟩ (fun hHeld => ?_)
    clear hK K
    refine norm_ (a' := ?_) ?_ ?_
    rotate_left
    ·show Act.put _ (some 30) _ = _
     simp only [Act.put, sA, sZ, sS, i64_w, i32_w]
     rfl
    refine pI 14 (some 31) b7A15 HT_ ?_
    refine pI 15 (some 32) b7A16 HT_ ?_
    refine pI 16 (some 33) b7A17 HT_ ?_
    refine pI 17 (some 34) b7A18 HT_ ?_
    refine pI 18 (some 35) b7A19 HT_ ?_
    refine pI 19 (some 36) b7A20 HT_ ?_
    refine pI 20 (some 37) b7A21 HT_ ?_
    refine pI 22 (some 39) b7A22 HT_ ?_
    refine pI 23 (some 40) b7A23 HT_ ?_
    refine pI 24 (some 41) b7A24 HT_ ?_
    refine pI 25 (some 42) b7A25 HT_ ?_
    refine pI 26 (some 43) b7A26 HT_ ?_
    refine tI 21 (some 38) b7A27 HT_ HW_ hHeld rfl rfl (Or.inl ⟨by rfl, by rintro w' ⟨s0, s1, s2, s3, s4, s5⟩; go_simp; with_reducible rfl⟩) ?_
    refine tI 27 (some 44) b7A28 HT_ HW_ hHeld rfl rfl (Or.inl ⟨by rfl, by rintro w' ⟨s0, s1, s2, s3, s4, s5⟩; go_simp; with_reducible rfl⟩) ?_
    refine pI 28 (some 45) b7A29 HT_ ?_
    refine pI 29 (some 46) b7A30 HT_ ?_
    refine pI 30 (some 47) b7A31 HT_ ?_
    refine done_ (done_of HT_.o (by kernel_rfl)) ?_
    try go_wp2
    go_meet
    case rel => exact ⟨_, (decide (((rd_T81 l0 x12_1).f2) < ((rd_T81 l0 (ji16)).f2))), (by first | rfl | (simp; done) | (simp only [← hji16] <;> (first | rfl | simp)) | (simp [*]; done)), H', ⟨by have := HK1.o; first | omega | exact Nat.le_refl _⟩, ⟨by exact qK BK518.o⟩, ⟨by exact qX HB.o⟩⟩
   case rest =>
    clear HC6
    try clear c1
    try clear p2
    try clear c10
    try clear c12
    obtain ⟨kq, x47_5, rfl, HA, HJ5, BK518, HB⟩ := hcut
    cases kq with
    | zero => exact absurd HA.o (by simp [impl_AreLetters.j1])
    | succ kj5 =>
     have H := HA.o
     clear HA
     simp only [impl_AreLetters.j1] at H
     by_cases c29 : x47_5 = true
     ·subst c29
      have H1 : (some false) = some r := by rw [if_pos rfl] at H; exact H
      clear H
      have H := H1
      clear H1
      obtain rfl := Option.some.inj H
      go_wp2
      go_ret
      exact ⟨by first | rfl | (simp [errW_none, errW_some] <;> rfl) | (simp [*, errW_none, errW_some] <;> rfl), by exact qX HB.o⟩
     replace c29 := Bool.eq_false_iff.mpr c29
     subst c29
     have H1 : (if 0 ≤ x12_1 then (if x12_1 ≤ (l0.length : Int) then ((some (l0.take (x12_1 : Int).toNat : List (S81))).bind fun y523 => (impl_AreLetters.l1 kj5 l0 l0 (l0.length : Int) x12_1 y523 (y523.length : Int) 0 ((rd_T81 l0 x12_1).f0) ((rd_T81 l0 x12_1).f1) ((rd_T81 l0 x12_1).f2))) else (none)) else (none)) = some r := by rw [if_neg (show ¬ (false = true) by decide)] at H; exact H
     clear H
     have H := H1
     clear H1
     by_cases c30 : 0 ≤ x12_1
     rotate_left
     ·rw [if_neg c30] at H
      exact absurd H (by simp)
     rw [if_pos c30] at H
     have c30b0 := eq_true c30
     have c30b1 : decide (0 ≤ x12_1) = true := decide_eq_true c30
     clear c30
     by_cases c31 : x12_1 ≤ (l0.length : Int)
     rotate_left
     ·rw [if_neg c31] at H
      exact absurd H (by simp)
     rw [if_pos c31] at H
     have c31b0 := eq_true c31
     have c31b1 : decide (x12_1 ≤ (l0.length : Int)) = true := decide_eq_true c31
     clear c31
     obtain ⟨y523, hy523⟩ : ∃ y_ : List (S81), y_ = (l0.take (x12_1 : Int).toNat) := ⟨_, rfl⟩
     replace H : (impl_AreLetters.l1 kj5 l0 l0 (l0.length : Int) x12_1 y523 (y523.length : Int) 0 ((rd_T81 l0 x12_1).f0) ((rd_T81 l0 x12_1).f1) ((rd_T81 l0 x12_1).f2)) = some r := by first | (rw [hy523]; with_reducible exact H) | (have H2_ := (Option.bind_some _ _).symm.trans H; rw [hy523]; with_reducible exact H2_) | (have H2_ := (Option.bind_some _ _).symm.trans H; with_reducible exact H2_) | with_reducible exact H | (rw [hy523]; exact H) | exact H
     have Ny523 := zK hy523
     clear hy523
     have H' := zK H
     clear H
     have q32 : (x12_1 : Int) ≤ ((l0.length : Int) : Int) := oD M3
     obtain ⟨i032, hi032, _, hsz32, _⟩ := info_parts info81
     have hroom32 : l0.length ≤ c0 := HC0.o
     have hC32 : Kd.C k81 _ (some ad517) l0.length l0 := HR0.o
     have hcut32 := cut_to (P := Try.prog) 73 81 .i64 Try.underlying73 hi032 (some ad517) l0.length c0 x12_1 (oD M3) q32 hroom32
     have hr32 := Kd.C_take (m := (x12_1 : Int).toNat) hC32 (by omega)
     have hy32 : y523.length = (x12_1 : Int).toNat := (by rw [Ny523.o, List.length_take]; omega)
     rw [← Ny523.o] at hr32
     rw [← hy32] at hcut32
     have HR526 := zK hr32
     have HC526 := zK (show y523.length ≤ c0 from by omega)
     clear hr32 hC32 hroom32 hi032 hsz32
     have KY32 := zK hy32
     clear hy32
     replace q32 := eq_true q32
     go_wp2
     go_loopg [52] kj5 (fun kq v52 w' => ∃ (x52_3 : Int), v52 = .int .i64 x52_3 ∧ Aside0 (impl_AreLetters.l1 kq l0 l0 (l0.length : Int) x12_1 y523 (y523.length : Int) x52_3 ((rd_T81 l0 x12_1).f0) ((rd_T81 l0 x12_1).f1) ((rd_T81 l0 x12_1).f2) = some r) ∧ Aside0 (kq ≤ kj5) ∧ Aside0 (w'.heap[gb518]? = some (.cells #[.int .i64 ((rd_T81 l0 x12_1).f0), .int .i64 ((rd_T81 l0 x12_1).f1), .int .i64 ((rd_T81 l0 x12_1).f2)] 81 (0, 0))) ∧ Aside0 (Below w.heap.size w w'))
     case atStart => exact ⟨(0), M7, H', ⟨Nat.le_refl _⟩, ⟨by exact qK BK518.o⟩, ⟨by exact qX HB.o⟩⟩
     case round =>
      clear H'
      try clear c1
      try clear c2
      try clear p2
      try clear c3
      try clear q3
      try clear c10
      try clear c12
      try clear c29
      try clear c30
      try clear c30b0
      try clear c30b1
      try clear c31
      try clear c31b0
      try clear c31b1
      try clear q32
      try clear p2
      try clear q32
      obtain ⟨x52_3, rfl, HA, HK3, BK518, HB⟩ := hrel
      cases gk with
      | zero => exact absurd HA.o (by simp [impl_AreLetters.l1])
      | succ k3 =>
       have H := HA.o
       clear HA
       simp only [impl_AreLetters.l1] at H
       by_cases c33 : x52_3 < (y523.length : Int)
       rotate_left
       ·rw [if_neg c33] at H
        have c33b0 : decide (x52_3 < (y523.length : Int)) = false := decide_eq_false c33
        clear c33
        have H' := zK H
        clear H
        go_wp2
        go_roundg k3
        case measure => have := HK1.o; have := HJ5.o; have := HK3.o; omega
        case rel => exact ⟨(wrap64 (x12_1 + 1)), M7, H', ⟨by have := HK1.o; have := HJ5.o; have := HK3.o; omega⟩, ⟨by exact qX HB.o⟩⟩
       rw [if_pos c33] at H
       have c33b0 : decide (x52_3 < (y523.length : Int)) = true := decide_eq_true c33
       clear c33
       by_cases c34 : 0 ≤ x52_3
       rotate_left
       ·rw [if_neg c34] at H
        exact absurd H (by simp)
       rw [if_pos c34] at H
       have c34b0 : decide (0 ≤ x52_3) = true := decide_eq_true c34
       clear c34
       by_cases c35 : x52_3 < (y523.length : Int)
       rotate_left
       ·rw [if_neg c35] at H
        exact absurd H (by simp)
       rw [if_pos c35] at H
       have c35b0 : decide (x52_3 < (y523.length : Int)) = true := decide_eq_true c35
       clear c35
       by_cases c36 : ((rd_T81 l0 x12_1).f0) = ((rd_T81 y523 x52_3).f0)
       rotate_left
       ·rw [if_neg c36] at H
        have c36b0 : (((rd_T81 l0 x12_1).f0) == ((rd_T81 y523 x52_3).f0)) = false := beq_eq_false_iff_ne.mpr c36
        have c36b1 : (((rd_T81 l0 x12_1).f0) != ((rd_T81 y523 x52_3).f0)) = true := bne_iff_ne.mpr c36
        have H' := zK H
        clear H
        have p527 : 0 ≤ (x52_3 : Int) := oD M3
        have q527 : x52_3 < (y523.length : Int) := oD M3
        obtain ⟨ad527, e527, hx527_0, hx527_1, hx527_2⟩ := at_T81 HR526.o x52_3 p527 q527
        obtain rfl : ad517 = ad527 := (by injection e527)
        replace hx527_0 := cB HB.o hx527_0
        replace hx527_1 := cB HB.o hx527_1
        replace hx527_2 := cB HB.o hx527_2
        replace p527 := eq_true p527
        replace q527 := eq_true q527
        go_wp2_with (first | ((with_reducible refine gate_dst (N := 6) rfl ?_); refine box_event ?hg (N := 6) ?hd (cs := #[.int .i64 0, .int .i64 0, .int .i64 0]) (t := 81) ?hr ?_; (case hd => rfl); (case hg => rfl); (case hr => first | (go_simp; done) | (go_simp; rfl)); intro gb528 hg w51 hbox hb; have _ := zK (bB (qK BK518.o) hb); have _ := zK (bT M22 hb); have _ := zK (hbox); have _ := zK ((by rw [hg]; exact (bZ M22) : w.heap.size ≤ gb528)); have _ := zK ((by rw [hg]; exact (bZ M22) : w.heap.size ≤ gb528)); have _ := zK ((by rw [hg]; exact Nat.ne_of_lt (blk_lt (qK BK518.o)) : gb518 ≠ gb528)); have _ := zK ((by rw [hg]; exact Nat.ne_of_gt (blk_lt (qK BK518.o)) : gb528 ≠ gb518)); clear BK518 HB; rename_i BK518 HB BK528 GW528 GE528 NB518_528 NB528_518; clear hb hbox hg; have hnb52 := NB528_518.o; have hnc52 := NB518_528.o; obtain ⟨hcz53_0, hcz53_1, hcz53_2, hfz53_0, hfz53_1, hfz53_2⟩ := bx3 BK528.o; obtain ⟨hcz54_0, hcz54_1, hcz54_2, hfz54_0, hfz54_1, hfz54_2⟩ := bx3 BK518.o))
        go_roundg k3
        case measure => have := HK1.o; have := HJ5.o; have := HK3.o; omega
        case rel => exact ⟨(wrap64 (x52_3 + 1)), M7, H', ⟨by have := HK1.o; have := HJ5.o; have := HK3.o; omega⟩, ⟨by (with_reducible repeat (first | refine kN ?_ _ | refine kD ?_ | refine kA ?_ _)); refine blk_far ?_ NB518_528.o _; (with_reducible repeat (first | refine kN ?_ _ | refine kD ?_ | refine kA ?_ _)); refine blk_far ?_ NB518_528.o _; (with_reducible repeat (first | refine kN ?_ _ | refine kD ?_ | refine kA ?_ _)); refine blk_far ?_ NB518_528.o _; exact qK BK518.o⟩, ⟨by exact qX HB.o⟩⟩
       rw [if_pos c36] at H
       have c36b0 : (((rd_T81 l0 x12_1).f0) == ((rd_T81 y523 x52_3).f0)) = true := beq_iff_eq.mpr c36
       have c36b1 : (((rd_T81 l0 x12_1).f0) != ((rd_T81 y523 x52_3).f0)) = false := bne_eq_false_iff_eq.mpr c36
       clear c36
       by_cases c37 : ((rd_T81 l0 x12_1).f1) = ((rd_T81 y523 x52_3).f1)
       ·rw [if_pos c37] at H
        have c37b0 : (((rd_T81 l0 x12_1).f1) == ((rd_T81 y523 x52_3).f1)) = true := beq_iff_eq.mpr c37
        have c37b1 : (((rd_T81 l0 x12_1).f1) != ((rd_T81 y523 x52_3).f1)) = false := bne_eq_false_iff_eq.mpr c37
        clear c37
        obtain rfl := Option.some.inj H
        have p527 : 0 ≤ (x52_3 : Int) := oD M3
        have q527 : x52_3 < (y523.length : Int) := oD M3
        obtain ⟨ad527, e527, hx527_0, hx527_1, hx527_2⟩ := at_T81 HR526.o x52_3 p527 q527
        obtain rfl : ad517 = ad527 := (by injection e527)
        replace hx527_0 := cB HB.o hx527_0
        replace hx527_1 := cB HB.o hx527_1
        replace hx527_2 := cB HB.o hx527_2
        replace p527 := eq_true p527
        replace q527 := eq_true q527
        exact lf7_0
       rw [if_neg c37] at H
       have c37b0 : (((rd_T81 l0 x12_1).f1) == ((rd_T81 y523 x52_3).f1)) = false := beq_eq_false_iff_ne.mpr c37
       have c37b1 : (((rd_T81 l0 x12_1).f1) != ((rd_T81 y523 x52_3).f1)) = true := bne_iff_ne.mpr c37
       by_cases c42 : (wrap64 (((rd_T81 l0 x12_1).f2) - ((rd_T81 y523 x52_3).f2))) < 168
       ·rw [if_pos c42] at H
        have c42b0 : decide ((wrap64 (((rd_T81 l0 x12_1).f2) - ((rd_T81 y523 x52_3).f2))) < 168) = true := decide_eq_true c42
        clear c42
        obtain rfl := Option.some.inj H
        have p527 : 0 ≤ (x52_3 : Int) := oD M3
        have q527 : x52_3 < (y523.length : Int) := oD M3
        obtain ⟨ad527, e527, hx527_0, hx527_1, hx527_2⟩ := at_T81 HR526.o x52_3 p527 q527
        obtain rfl : ad517 = ad527 := (by injection e527)
        replace hx527_0 := cB HB.o hx527_0
        replace hx527_1 := cB HB.o hx527_1
        replace hx527_2 := cB HB.o hx527_2
        replace p527 := eq_true p527
        replace q527 := eq_true q527
        exact lf7_0
       rw [if_neg c42] at H
       have c42b0 : decide ((wrap64 (((rd_T81 l0 x12_1).f2) - ((rd_T81 y523 x52_3).f2))) < 168) = false := decide_eq_false c42
       clear c42
       have H' := zK H
       clear H
       have p527 : 0 ≤ (x52_3 : Int) := oD M3
       have q527 : x52_3 < (y523.length : Int) := oD M3
       obtain ⟨ad527, e527, hx527_0, hx527_1, hx527_2⟩ := at_T81 HR526.o x52_3 p527 q527
       obtain rfl : ad517 = ad527 := (by injection e527)
       replace hx527_0 := cB HB.o hx527_0
       replace hx527_1 := cB HB.o hx527_1
       replace hx527_2 := cB HB.o hx527_2
       replace p527 := eq_true p527
       replace q527 := eq_true q527
       go_wp2_with (first | ((with_reducible refine gate_dst (N := 6) rfl ?_); refine box_event ?hg (N := 6) ?hd (cs := #[.int .i64 0, .int .i64 0, .int .i64 0]) (t := 81) ?hr ?_; (case hd => rfl); (case hg => rfl); (case hr => first | (go_simp; done) | (go_simp; rfl)); intro gb528 hg w47 hbox hb; have _ := zK (bB (qK BK518.o) hb); have _ := zK (bT M22 hb); have _ := zK (hbox); have _ := zK ((by rw [hg]; exact (bZ M22) : w.heap.size ≤ gb528)); have _ := zK ((by rw [hg]; exact (bZ M22) : w.heap.size ≤ gb528)); have _ := zK ((by rw [hg]; exact Nat.ne_of_lt (blk_lt (qK BK518.o)) : gb518 ≠ gb528)); have _ := zK ((by rw [hg]; exact Nat.ne_of_gt (blk_lt (qK BK518.o)) : gb528 ≠ gb518)); clear BK518 HB; rename_i BK518 HB BK528 GW528 GE528 NB518_528 NB528_518; clear hb hbox hg; have hnb48 := NB528_518.o; have hnc48 := NB518_528.o; obtain ⟨hcz49_0, hcz49_1, hcz49_2, hfz49_0, hfz49_1, hfz49_2⟩ := bx3 BK528.o; obtain ⟨hcz50_0, hcz50_1, hcz50_2, hfz50_0, hfz50_1, hfz50_2⟩ := bx3 BK518.o))
       go_roundg k3
       case measure => have := HK1.o; have := HJ5.o; have := HK3.o; omega
       case rel => exact ⟨(wrap64 (x52_3 + 1)), M7, H', ⟨by have := HK1.o; have := HJ5.o; have := HK3.o; omega⟩, ⟨by (with_reducible repeat (first | refine kN ?_ _ | refine kD ?_ | refine kA ?_ _)); refine blk_far ?_ NB518_528.o _; (with_reducible repeat (first | refine kN ?_ _ | refine kD ?_ | refine kA ?_ _)); refine blk_far ?_ NB518_528.o _; (with_reducible repeat (first | refine kN ?_ _ | refine kD ?_ | refine kA ?_ _)); refine blk_far ?_ NB518_528.o _; exact qK BK518.o⟩, ⟨by exact qX HB.o⟩⟩
end Go.Proofs.Ytpkdbkheggfkkaa.PFnLetters
