/- Walks of functions that FnExactLettersFor reaches: written by a tool of the kit for this claim, then shortened by a program of ours. -/
import Derived.Test.YtpkdbkheggfkkaaPFnExactLettersForx0
import Derived.Test.YtpkdbkheggfkkaaPFnExactLettersForx10
/- narrow -/
namespace Go.Proofs.Ytpkdbkheggfkkaa.PFnExactLettersFor
open Go.RowKit Go.Proofs.YtpkdbkheggfkkaaW.PrintWords Go.Proofs.YtpkdbkheggfkkaaW.PrintLast Go.Proofs.YtpkdbkheggfkkaaW.PrintMore
attribute [local go_sem] max2_int min2_int max_two min_two max_three min_three max_four min_four   -- for this text's walks alone
set_option linter.unusedVariables false
set_option linter.unusedSimpArgs false

abbrev b11A0 : Array Bool := #[bo, bo, bo, bo, bo, bo, bo, bo, bo, bo, bo, bo, bo, bo, bo, bo, bo, bo, bo, bo, bo, bo, bo, bo, bo, bo, bo, bo, bo, bo, bo]
abbrev b11A1 : Array Bool := #[bi, bo, bo, bo, bo, bo, bo, bo, bo, bo, bo, bo, bo, bo, bo, bo, bo, bo, bo, bo, bo, bo, bo, bo, bo, bo, bo, bo, bo, bo, bo]
abbrev b11A2 : Array Bool := #[bi, bi, bo, bo, bo, bo, bo, bo, bo, bo, bo, bo, bo, bo, bo, bo, bo, bo, bo, bo, bo, bo, bo, bo, bo, bo, bo, bo, bo, bo, bo]
abbrev b11A3 : Array Bool := #[bi, bi, bi, bo, bo, bo, bo, bo, bo, bo, bo, bo, bo, bo, bo, bo, bo, bo, bo, bo, bo, bo, bo, bo, bo, bo, bo, bo, bo, bo, bo]
abbrev b11A4 : Array Bool := #[bi, bi, bi, bi, bo, bo, bo, bo, bo, bo, bo, bo, bo, bo, bo, bo, bo, bo, bo, bo, bo, bo, bo, bo, bo, bo, bo, bo, bo, bo, bo]
abbrev b11A5 : Array Bool := #[bi, bi, bi, bi, bi, bo, bo, bo, bo, bo, bo, bo, bo, bo, bo, bo, bo, bo, bo, bo, bo, bo, bo, bo, bo, bo, bo, bo, bo, bo, bo]
abbrev b11A6 : Array Bool := #[bi, bi, bi, bi, bi, bi, bo, bo, bo, bo, bo, bo, bo, bo, bo, bo, bo, bo, bo, bo, bo, bo, bo, bo, bo, bo, bo, bo, bo, bo, bo]
abbrev b11A7 : Array Bool := #[bi, bi, bi, bi, bi, bi, bi, bo, bo, bo, bo, bo, bo, bo, bo, bo, bo, bo, bo, bo, bo, bo, bo, bo, bo, bo, bo, bo, bo, bo, bo]
abbrev b11A8 : Array Bool := #[bi, bi, bi, bi, bi, bi, bi, bi, bo, bo, bo, bo, bo, bo, bo, bo, bo, bo, bo, bo, bo, bo, bo, bo, bo, bo, bo, bo, bo, bo, bo]
abbrev b11A9 : Array Bool := #[bi, bi, bi, bi, bi, bi, bi, bi, bi, bo, bo, bo, bo, bo, bo, bo, bo, bo, bo, bo, bo, bo, bo, bo, bo, bo, bo, bo, bo, bo, bo]
abbrev b11A10 : Array Bool := #[bi, bi, bi, bi, bi, bi, bi, bi, bi, bi, bo, bo, bo, bo, bo, bo, bo, bo, bo, bo, bo, bo, bo, bo, bo, bo, bo, bo, bo, bo, bo]
abbrev b11A11 : Array Bool := #[bi, bi, bi, bi, bi, bi, bi, bi, bi, bi, bi, bo, bo, bo, bo, bo, bo, bo, bo, bo, bo, bo, bo, bo, bo, bo, bo, bo, bo, bo, bo]
abbrev b11A12 : Array Bool := #[bi, bi, bi, bi, bi, bi, bi, bi, bi, bi, bi, bi, bo, bo, bo, bo, bo, bo, bo, bo, bo, bo, bo, bo, bo, bo, bo, bo, bo, bo, bo]
abbrev b11A13 : Array Bool := #[bi, bi, bi, bi, bi, bi, bi, bi, bi, bi, bi, bi, bi, bo, bo, bo, bo, bo, bo, bo, bo, bo, bo, bo, bo, bo, bo, bo, bo, bo, bo]
abbrev b11A14 : Array Bool := #[bi, bi, bi, bi, bi, bi, bi, bi, bi, bi, bi, bi, bi, bi, bo, bo, bo, bo, bo, bo, bo, bo, bo, bo, bo, bo, bo, bo, bo, bo, bo]
abbrev b11A15 : Array Bool := #[bi, bi, bi, bi, bi, bi, bi, bi, bi, bi, bi, bi, bi, bi, bi, bo, bo, bo, bo, bo, bo, bo, bo, bo, bo, bo, bo, bo, bo, bo, bo]
abbrev b11A16 : Array Bool := #[bi, bi, bi, bi, bi, bi, bi, bi, bi, bi, bi, bi, bi, bi, bi, bi, bo, bo, bo, bo, bo, bo, bo, bo, bo, bo, bo, bo, bo, bo, bo]
abbrev b11A17 : Array Bool := #[bi, bi, bi, bi, bi, bi, bi, bi, bi, bi, bi, bi, bi, bi, bi, bi, bi, bo, bo, bo, bo, bo, bo, bo, bo, bo, bo, bo, bo, bo, bo]
abbrev b11A18 : Array Bool := #[bi, bi, bi, bi, bi, bi, bi, bi, bi, bi, bi, bi, bi, bi, bi, bi, bi, bi, bo, bo, bo, bo, bo, bo, bo, bo, bo, bo, bo, bo, bo]
abbrev b11A19 : Array Bool := #[bi, bi, bi, bi, bi, bi, bi, bi, bi, bi, bi, bi, bi, bi, bi, bi, bi, bi, bi, bo, bo, bo, bo, bo, bo, bo, bo, bo, bo, bo, bo]
abbrev b11A20 : Array Bool := #[bi, bi, bi, bi, bi, bi, bi, bi, bi, bi, bi, bi, bi, bi, bi, bi, bi, bi, bi, bi, bo, bo, bo, bo, bo, bo, bo, bo, bo, bo, bo]
abbrev b11A21 : Array Bool := #[bi, bi, bi, bi, bi, bi, bi, bi, bi, bi, bi, bi, bi, bi, bi, bi, bi, bi, bi, bi, bi, bo, bo, bo, bo, bo, bo, bo, bo, bo, bo]
abbrev b11A22 : Array Bool := #[bi, bi, bi, bi, bi, bi, bi, bi, bi, bi, bi, bi, bi, bi, bi, bi, bi, bi, bi, bi, bi, bi, bo, bo, bo, bo, bo, bo, bo, bo, bo]
abbrev b11A23 : Array Bool := #[bi, bi, bi, bi, bi, bi, bi, bi, bi, bi, bi, bi, bi, bi, bi, bi, bi, bi, bi, bi, bi, bi, bi, bo, bo, bo, bo, bo, bo, bo, bo]
abbrev b11A24 : Array Bool := #[bi, bi, bi, bi, bi, bi, bi, bi, bi, bi, bi, bi, bi, bi, bi, bi, bi, bi, bi, bi, bi, bi, bi, bi, bo, bo, bo, bo, bo, bo, bo]
abbrev b11A25 : Array Bool := #[bi, bi, bi, bi, bi, bi, bi, bi, bi, bi, bi, bi, bi, bi, bi, bi, bi, bi, bi, bi, bi, bi, bi, bi, bi, bo, bo, bo, bo, bo, bo]
abbrev b11A26 : Array Bool := #[bi, bi, bi, bi, bi, bi, bi, bi, bi, bi, bi, bi, bi, bi, bi, bi, bi, bi, bi, bi, bi, bi, bi, bi, bi, bo, bi, bo, bo, bo, bo]
abbrev b11A27 : Array Bool := #[bi, bi, bi, bi, bi, bi, bi, bi, bi, bi, bi, bi, bi, bi, bi, bi, bi, bi, bi, bi, bi, bi, bi, bi, bi, bi, bi, bo, bo, bo, bo]
abbrev b11A28 : Array Bool := #[bi, bi, bi, bi, bi, bi, bi, bi, bi, bi, bi, bi, bi, bi, bi, bi, bi, bi, bi, bi, bi, bi, bi, bi, bi, bi, bi, bi, bo, bo, bo]
abbrev b11A29 : Array Bool := #[bi, bi, bi, bi, bi, bi, bi, bi, bi, bi, bi, bi, bi, bi, bi, bi, bi, bi, bi, bi, bi, bi, bi, bi, bi, bi, bi, bi, bi, bo, bo]
abbrev b11A30 : Array Bool := #[bi, bi, bi, bi, bi, bi, bi, bi, bi, bi, bi, bi, bi, bi, bi, bi, bi, bi, bi, bi, bi, bi, bi, bi, bi, bi, bi, bi, bi, bi, bo]
abbrev b11A31 : Array Bool := #[bi, bi, bi, bi, bi, bi, bi, bi, bi, bi, bi, bi, bi, bi, bi, bi, bi, bi, bi, bi, bi, bi, bi, bi, bi, bi, bi, bi, bi, bi, bi]
abbrev b11A32 : Array Bool := #[bi, bi, bi, bi, bi, bi, bi, bi, bi, bi, bi, bi, bi, bi, bi, bi, bi, bi, bi, bi, bi, bi, bi, bi, bi, bi, bo, bo, bo, bo, bo]
abbrev b11A33 : Array Bool := #[bo, bo, bo, bo, bo, bo, bo, bo, bo, bo, bo, bo, bo, bo, bo, bo, bo, bo, bo, bo, bo, bo, bo, bo, bo, bo, bo, bo, bo]
abbrev b11A34 : Array Bool := #[bi, bo, bo, bo, bo, bo, bo, bo, bo, bo, bo, bo, bo, bo, bo, bo, bo, bo, bo, bo, bo, bo, bo, bo, bo, bo, bo, bo, bo]
abbrev b11A35 : Array Bool := #[bi, bi, bo, bo, bo, bo, bo, bo, bo, bo, bo, bo, bo, bo, bo, bo, bo, bo, bo, bo, bo, bo, bo, bo, bo, bo, bo, bo, bo]
abbrev b11A36 : Array Bool := #[bi, bi, bi, bo, bo, bo, bo, bo, bo, bo, bo, bo, bo, bo, bo, bo, bo, bo, bo, bo, bo, bo, bo, bo, bo, bo, bo, bo, bo]
abbrev b11A37 : Array Bool := #[bi, bi, bi, bi, bo, bo, bo, bo, bo, bo, bo, bo, bo, bo, bo, bo, bo, bo, bo, bo, bo, bo, bo, bo, bo, bo, bo, bo, bo]
abbrev b11A38 : Array Bool := #[bi, bi, bi, bi, bo, bi, bo, bo, bo, bo, bo, bo, bo, bo, bo, bo, bo, bo, bo, bo, bo, bo, bo, bo, bo, bo, bo, bo, bo]
abbrev b11A39 : Array Bool := #[bi, bi, bi, bi, bi, bi, bo, bo, bo, bo, bo, bo, bo, bo, bo, bo, bo, bo, bo, bo, bo, bo, bo, bo, bo, bo, bo, bo, bo]
abbrev b11A40 : Array Bool := #[bi, bi, bi, bi, bi, bi, bi, bo, bo, bo, bo, bo, bo, bo, bo, bo, bo, bo, bo, bo, bo, bo, bo, bo, bo, bo, bo, bo, bo]
abbrev b11A41 : Array Bool := #[bi, bi, bi, bi, bi, bi, bi, bi, bo, bo, bo, bo, bo, bo, bo, bo, bo, bo, bo, bo, bo, bo, bo, bo, bo, bo, bo, bo, bo]
abbrev b11A42 : Array Bool := #[bi, bi, bi, bi, bi, bi, bi, bi, bi, bo, bo, bo, bo, bo, bo, bo, bo, bo, bo, bo, bo, bo, bo, bo, bo, bo, bo, bo, bo]
abbrev b11A43 : Array Bool := #[bi, bi, bi, bi, bi, bi, bi, bi, bi, bi, bo, bo, bo, bo, bo, bo, bo, bo, bo, bo, bo, bo, bo, bo, bo, bo, bo, bo, bo]
abbrev b11A44 : Array Bool := #[bi, bi, bi, bi, bi, bi, bi, bi, bi, bi, bi, bo, bo, bo, bo, bo, bo, bo, bo, bo, bo, bo, bo, bo, bo, bo, bo, bo, bo]
abbrev b11A45 : Array Bool := #[bi, bi, bi, bi, bi, bi, bi, bi, bi, bi, bi, bi, bo, bo, bo, bo, bo, bo, bo, bo, bo, bo, bo, bo, bo, bo, bo, bo, bo]
abbrev b11A46 : Array Bool := #[bi, bi, bi, bi, bi, bi, bi, bi, bi, bi, bi, bi, bi, bo, bo, bo, bo, bo, bo, bo, bo, bo, bo, bo, bo, bo, bo, bo, bo]
abbrev b11A47 : Array Bool := #[bi, bi, bi, bi, bi, bi, bi, bi, bi, bi, bi, bi, bi, bo, bi, bo, bo, bo, bo, bo, bo, bo, bo, bo, bo, bo, bo, bo, bo]
abbrev b11A48 : Array Bool := #[bi, bi, bi, bi, bi, bi, bi, bi, bi, bi, bi, bi, bi, bi, bi, bo, bo, bo, bo, bo, bo, bo, bo, bo, bo, bo, bo, bo, bo]
abbrev b11A49 : Array Bool := #[bi, bi, bi, bi, bi, bi, bi, bi, bi, bi, bi, bi, bi, bi, bi, bi, bo, bo, bo, bo, bo, bo, bo, bo, bo, bo, bo, bo, bo]
abbrev b11A50 : Array Bool := #[bi, bi, bi, bi, bi, bi, bi, bi, bi, bi, bi, bi, bi, bi, bi, bi, bi, bo, bo, bo, bo, bo, bo, bo, bo, bo, bo, bo, bo]
abbrev b11A51 : Array Bool := #[bi, bi, bi, bi, bi, bi, bi, bi, bi, bi, bi, bi, bi, bi, bi, bi, bi, bi, bo, bo, bo, bo, bo, bo, bo, bo, bo, bo, bo]
abbrev b11A52 : Array Bool := #[bi, bi, bi, bi, bi, bi, bi, bi, bi, bi, bi, bi, bi, bi, bi, bi, bi, bi, bi, bo, bo, bo, bo, bo, bo, bo, bo, bo, bo]
abbrev b11A53 : Array Bool := #[bi, bi, bi, bi, bi, bi, bi, bi, bi, bi, bi, bi, bi, bi, bi, bi, bi, bi, bi, bi, bo, bo, bo, bo, bo, bo, bo, bo, bo]
abbrev b11A54 : Array Bool := #[bi, bi, bi, bi, bi, bi, bi, bi, bi, bi, bi, bi, bi, bi, bi, bi, bi, bi, bi, bi, bi, bo, bo, bo, bo, bo, bo, bo, bo]
abbrev b11A55 : Array Bool := #[bi, bi, bi, bi, bi, bi, bi, bi, bi, bi, bi, bi, bi, bi, bi, bi, bi, bi, bi, bi, bi, bi, bo, bo, bo, bo, bo, bo, bo]
abbrev b11A56 : Array Bool := #[bi, bi, bi, bi, bi, bi, bi, bi, bi, bi, bi, bi, bi, bi, bi, bi, bi, bi, bi, bi, bi, bi, bi, bo, bo, bo, bo, bo, bo]
abbrev b11A57 : Array Bool := #[bi, bi, bi, bi, bi, bi, bi, bi, bi, bi, bi, bi, bi, bi, bi, bi, bi, bi, bi, bi, bi, bi, bi, bi, bo, bo, bo, bo, bo]
abbrev b11A58 : Array Bool := #[bi, bi, bi, bi, bi, bi, bi, bi, bi, bi, bi, bi, bi, bi, bi, bi, bi, bi, bi, bi, bi, bi, bi, bi, bi, bo, bo, bo, bo]
abbrev b11A59 : Array Bool := #[bi, bi, bi, bi, bi, bi, bi, bi, bi, bi, bi, bi, bi, bi, bi, bi, bi, bi, bi, bi, bi, bi, bi, bi, bi, bi, bo, bo, bo]
abbrev b11A60 : Array Bool := #[bi, bi, bi, bi, bi, bi, bi, bi, bi, bi, bi, bi, bi, bi, bi, bi, bi, bi, bi, bi, bi, bi, bi, bi, bi, bi, bi, bo, bo]
abbrev b11A61 : Array Bool := #[bi, bi, bi, bi, bi, bi, bi, bi, bi, bi, bi, bi, bi, bi, bi, bi, bi, bi, bi, bi, bi, bi, bi, bi, bi, bi, bi, bi, bo]
abbrev b11A62 : Array Bool := #[bi, bi, bi, bi, bi, bi, bi, bi, bi, bi, bi, bi, bi, bi, bi, bi, bi, bi, bi, bi, bi, bi, bi, bi, bi, bi, bi, bi, bi]
abbrev b11A63 : Array Bool := #[bi, bi, bi, bi, bi, bi, bi, bi, bi, bi, bi, bi, bi, bi, bi, bi, bi, bi, bi, bo, bi, bo, bo, bo, bo, bo, bo, bo, bo]
abbrev b11A64 : Array Bool := #[bi, bi, bi, bi, bi, bi, bi, bi, bi, bi, bi, bi, bi, bi, bi, bi, bi, bi, bi, bo, bi, bi, bo, bo, bo, bo, bo, bo, bo]
abbrev b11A65 : Array Bool := #[bi, bi, bi, bi, bi, bi, bi, bi, bi, bi, bi, bi, bi, bi, bi, bi, bi, bi, bi, bo, bi, bi, bi, bo, bo, bo, bo, bo, bo]
abbrev b11A66 : Array Bool := #[bi, bi, bi, bi, bi, bi, bi, bi, bi, bi, bi, bi, bi, bi, bi, bi, bi, bi, bi, bo, bi, bi, bi, bi, bo, bo, bo, bo, bo]
abbrev b11A67 : Array Bool := #[bi, bi, bi, bi, bi, bi, bi, bi, bi, bi, bi, bi, bi, bi, bo, bo, bo, bo, bo, bo, bo, bo, bo, bo, bo, bo, bo, bo, bo]
/-! ### spec_AreLetters: function 129 -/
mutual
def spec_AreLetters.l0 : Nat → List (S81) → Int → Option (Bool)
 | 0, _, _ => none
 | k + 1, x0, x3 => if x3 < (x0.length : Int) then (if 0 ≤ x3 then ((spec_l1In.f ((rd_T81 x0 x3).f0) 1 999).bind fun t246 => (if t246 = true then ((spec_l1In.f ((rd_T81 x0 x3).f1) 1 999).bind fun t247 => (if t247 = true then ((spec_l1In.f ((rd_T81 x0 x3).f2) 0 100000).bind fun t248 => (if t248 = true then (if x3 > 0 then (if 0 ≤ (wrap64 (x3 - 1)) then (if (wrap64 (x3 - 1)) < (x0.length : Int) then (spec_AreLetters.j1 k x0 x3 (decide (((rd_T81 x0 (wrap64 (x3 - 1))).f2) > ((rd_T81 x0 x3).f2))) ((rd_T81 x0 x3).f0) ((rd_T81 x0 x3).f1) ((rd_T81 x0 x3).f2)) else (none)) else (none)) else (spec_AreLetters.j1 k x0 x3 false ((rd_T81 x0 x3).f0) ((rd_T81 x0 x3).f1) ((rd_T81 x0 x3).f2))) else (spec_AreLetters.j1 k x0 x3 true ((rd_T81 x0 x3).f0) ((rd_T81 x0 x3).f1) ((rd_T81 x0 x3).f2)))) else (spec_AreLetters.j1 k x0 x3 true ((rd_T81 x0 x3).f0) ((rd_T81 x0 x3).f1) ((rd_T81 x0 x3).f2)))) else (spec_AreLetters.j1 k x0 x3 true ((rd_T81 x0 x3).f0) ((rd_T81 x0 x3).f1) ((rd_T81 x0 x3).f2)))) else (none)) else (some (decide ((x0.length : Int) ≤ 60)))
def spec_AreLetters.j1 : Nat → List (S81) → Int → Bool → Int → Int → Int → Option (Bool)
 | 0, _, _, _, _, _, _ => none
 | k + 1, x0, x3, x46, x246000, x246001, x246002 => if x46 = true then (some false) else (spec_AreLetters.l1 k x0 x3 0 x246000 x246001 x246002)
def spec_AreLetters.l1 : Nat → List (S81) → Int → Int → Int → Int → Int → Option (Bool)
 | 0, _, _, _, _, _, _ => none
 | k + 1, x0, x3, x5, x246000, x246001, x246002 => if x5 < x3 then (if 0 ≤ x5 then (if x5 < (x0.length : Int) then (if ((rd_T81 x0 x5).f0) = x246000 then (if ((rd_T81 x0 x5).f1) = x246001 then (some false) else (if (wrap64 (x246002 - ((rd_T81 x0 x5).f2))) < 168 then (some false) else (spec_AreLetters.l1 k x0 x3 (wrap64 (x5 + 1)) x246000 x246001 x246002))) else (spec_AreLetters.l1 k x0 x3 (wrap64 (x5 + 1)) x246000 x246001 x246002)) else (none)) else (none)) else (spec_AreLetters.l0 k x0 (wrap64 (x3 + 1)))
end
def spec_AreLetters.f (k : Nat) (l0 : List (S81)) : Option (Bool) := spec_AreLetters.l0 k l0 0
def spec_AreLetters.T5 : Bool × List (List Nat × List Nat) := (true, [([], []), ([0], [0]), ([1], [1]), ([2], [2]), ([3, 2], [3]), ([4], [4]), ([5, 4], [4, 5]), ([6, 4, 4], [4, 6]), ([7, 4], [4, 7]), ([4, 8], [4, 8]), ([9, 7], [9]), ([10], [10]), ([11, 10], [10, 11]), ([12, 10, 10], [10, 12]), ([13, 10], [10, 13]), ([10, 14], [10, 14]), ([15, 13], [15]), ([16], [16]), ([17, 16], [16, 17]), ([18, 16, 16], [16, 18]), ([19], [19]), ([19], [19]), ([21, 19], [19, 21]), ([20, 22, 19], [19, 20, 22]), ([23, 19], [19, 23]), ([24, 19], [19, 24]), ([19], [19]), ([26, 19], [19, 26]), ([25, 27, 19], [19, 25, 27]), ([19, 28, 16], [16, 19, 28]), ([16, 29], [16, 29])])
def spec_AreLetters.B5 : List Nat := [0, 1, 3, 7, 15, 31, 63, 127, 255, 511, 1023, 2047, 4095, 8191, 16383, 32767, 65535, 131071, 262143, 524287, 1048575, 1048575, 3145727, 8388607, 16777215, 33554431, 1048575, 68157439, 268435455, 536870911, 1073741823]
theorem spec_AreLetters.tab5 : rtab .any (opsOf Try.f129 5) = spec_AreLetters.T5 := by kernel_rfl
theorem spec_AreLetters.bits5 : waitsOk spec_AreLetters.T5.2 spec_AreLetters.B5 = true := by kernel_rfl
def spec_AreLetters.T10 : Bool × List (List Nat × List Nat) := (true, [([], []), ([], []), ([0, 1], [0, 1]), ([2], [2]), ([3], [3]), ([], []), ([5], [5]), ([4, 6], [4, 6]), ([7], [7]), ([8], [8]), ([8], [8]), ([9, 10, 8], [8, 9, 10]), ([11, 8], [8, 11]), ([12, 8], [8, 12]), ([8], [8]), ([14, 8], [8, 14]), ([13, 15, 8], [8, 13, 15]), ([16, 8, 8], [8, 16]), ([17], [17]), ([18, 17], [17, 18]), ([17], [17]), ([17], [17]), ([20, 21, 17], [17, 20, 21]), ([22, 17], [17, 22]), ([23, 17], [17, 23]), ([19, 24, 17], [17, 19, 24]), ([25, 17], [17, 25]), ([17, 26, 8], [8, 17, 26]), ([8, 27], [8, 27])])
def spec_AreLetters.B10 : List Nat := [0, 0, 3, 7, 15, 0, 32, 127, 255, 511, 511, 2047, 4095, 8191, 511, 16895, 65535, 131071, 262143, 524287, 262143, 262143, 3407871, 7602175, 15990783, 33554431, 67108863, 134217727, 268435455]
theorem spec_AreLetters.tab10 : rtab .any (opsOf Try.f129 10) = spec_AreLetters.T10 := by kernel_rfl
theorem spec_AreLetters.bits10 : waitsOk spec_AreLetters.T10.2 spec_AreLetters.B10 = true := by kernel_rfl
set_option maxHeartbeats 8000000 in
set_option maxRecDepth 100000 in
theorem spec_AreLetters.calls (k : Nat) (A0 : Option Addr) (c0 : Nat) (l0 : List (S81)) (r : Bool) (w : World) (hr0 : Kd.C k81 w A0 l0.length l0) (hc0 : l0.length ≤ c0) (h : spec_AreLetters.f k l0 = some r) :
  Calls Try.prog 129 #[.slice A0 l0.length c0] w fun e w' => e = .returned (.bool r) ∧ Below w.heap.size w w' := by
 have hu81 := Try.underlying81
 have HR0 := zK hr0
 have HC0 := zK hc0
 clear hr0 hc0
 have HB := zK (Below.refl w.heap.size w)
 have H : (spec_AreLetters.l0 k l0 0) = some r := h
 clear h
 have H' := zK H
 clear H
 go_enter Try.func129, Try.ntmps129
 go_wp2
 go_loopg [3] k (fun kq v3 w' => ∃ (x3_1 : Int), v3 = .int .i64 x3_1 ∧ Aside0 (spec_AreLetters.l0 kq l0 x3_1 = some r) ∧ Aside0 (kq ≤ k) ∧ Aside0 (Below w.heap.size w w'))
 case atStart => exact ⟨(0), M3, H', ⟨Nat.le_refl _⟩, ⟨by exact qB HB.o⟩⟩
 case round =>
  clear H'
  try clear c1
  obtain ⟨x3_1, rfl, HA, HK1, HB⟩ := hrel
  cases gk with
  | zero => exact absurd HA.o (by simp [spec_AreLetters.l0])
  | succ k1 =>
   have H := HA.o
   clear HA
   simp only [spec_AreLetters.l0] at H
   by_cases c2 : x3_1 < (l0.length : Int)
   rotate_left
   ·rw [if_neg c2] at H
    have c2b0 : decide (x3_1 < (l0.length : Int)) = false := decide_eq_false c2
    clear c2
    obtain rfl := Option.some.inj H
    go_wp2
    go_ret
    exact ⟨by first | rfl | (simp [errW_none, errW_some] <;> rfl) | (simp [*, errW_none, errW_some] <;> rfl), by exact qB HB.o⟩

   rw [if_pos c2] at H
   have c2b0 : decide (x3_1 < (l0.length : Int)) = true := decide_eq_true c2
   clear c2
   by_cases c3 : 0 ≤ x3_1
   rotate_left
   ·rw [if_neg c3] at H
    exact absurd H (by simp)
   rw [if_pos c3] at H
   have c3b0 : decide (0 ≤ x3_1) = true := decide_eq_true c3
   clear c3
   have HC4 := zK H
   clear H
   have p244 : 0 ≤ (x3_1 : Int) := oD M1
   have q244 : x3_1 < (l0.length : Int) := oD M1
   obtain ⟨ad244, e244, hx244_0, hx244_1, hx244_2⟩ := at_T81 HR0.o x3_1 p244 q244
   cases e244
   replace hx244_0 := cB HB.o hx244_0
   replace hx244_1 := cB HB.o hx244_1
   replace hx244_2 := cB HB.o hx244_2
   replace p244 := eq_true p244
   replace q244 := eq_true q244
   go_upto_region 5 with (first | ((with_reducible refine gate_dst (N := 4) rfl ?_); refine box_event ?hg (N := 4) ?hd (cs := #[.int .i64 0, .int .i64 0, .int .i64 0]) (t := 81) ?hr ?_; (case hd => rfl); (case hg => rfl); (case hr => first | (go_simp; done) | (go_simp; rfl)); intro gb245 hg w5 hbox hb; have _ := zK (bT (qB HB.o) hb); have _ := zK (hbox); have _ := zK ((by rw [hg]; exact (bZ (qB HB.o)) : w.heap.size ≤ gb245)); have _ := zK ((by rw [hg]; exact (bZ (qB HB.o)) : w.heap.size ≤ gb245)); clear HB; rename_i HB BK245 GW245 GE245; clear hb hbox hg; obtain ⟨hcz6_0, hcz6_1, hcz6_2, hfz6_0, hfz6_1, hfz6_2⟩ := bx3 BK245.o))
   (try simp only [Act.put, sA, sZ, sS])
   go_cut [46] (fun v46 wc => ∃ (kq : Nat) (x46_3 : Bool), v46 = .bool x46_3 ∧ Aside0 (spec_AreLetters.j1 kq l0 x3_1 x46_3 ((rd_T81 l0 x3_1).f0) ((rd_T81 l0 x3_1).f1) ((rd_T81 l0 x3_1).f2) = some r) ∧ Aside0 (kq ≤ k1) ∧ Aside0 (wc.heap[gb245]? = some (.cells #[.int .i64 ((rd_T81 l0 x3_1).f0), .int .i64 ((rd_T81 l0 x3_1).f1), .int .i64 ((rd_T81 l0 x3_1).f2)] 81 (0, 0))) ∧ Aside0 (Below w.heap.size w wc))
   case first =>
    have H := HC4.o
    clear HC4
    replace H := Option.bind_eq_some_iff.mp H
    obtain ⟨t246, A70, H⟩ := H
    try dsimp only at H
    have A7 := zK A70
    clear A70
    by_cases c8 : t246 = true
    rotate_left
    ·replace c8 := Bool.eq_false_iff.mpr c8
     subst c8
     have H1 : (spec_AreLetters.j1 k1 l0 x3_1 true ((rd_T81 l0 x3_1).f0) ((rd_T81 l0 x3_1).f1) ((rd_T81 l0 x3_1).f2)) = some r := by rw [if_neg (show ¬ (false = true) by decide)] at H; exact H
     clear H
     have H := H1
     clear H1
     have H' := zK H
     clear H
     try go_wp2
     have n0_ : Aside0 ((((w5.setCell ⟨gb245, 0, none⟩ (.int .i64 ((rd_T81 l0 x3_1).f0))).setCell ⟨gb245, 1, none⟩ (.int .i64 ((rd_T81 l0 x3_1).f1))).setCell ⟨gb245, 2, none⟩ (.int .i64 ((rd_T81 l0 x3_1).f2))).heap[gb245]? = some (.cells #[.int .i64 ((rd_T81 l0 x3_1).f0), .int .i64 ((rd_T81 l0 x3_1).f1), .int .i64 ((rd_T81 l0 x3_1).f2)] 81 (0, 0))) := ⟨by (with_reducible repeat (first | refine kN ?_ _ | refine kD ?_ | refine kA ?_ _)); refine blk_put (cs := #[.int .i64 ((rd_T81 l0 x3_1).f0), .int .i64 ((rd_T81 l0 x3_1).f1), .int .i64 0]) ?_ 2 _ rfl; (with_reducible repeat (first | refine kN ?_ _ | refine kD ?_ | refine kA ?_ _)); refine blk_put (cs := #[.int .i64 ((rd_T81 l0 x3_1).f0), .int .i64 0, .int .i64 0]) ?_ 1 _ rfl; (with_reducible repeat (first | refine kN ?_ _ | refine kD ?_ | refine kA ?_ _)); refine blk_put (cs := #[.int .i64 0, .int .i64 0, .int .i64 0]) ?_ 0 _ rfl; exact qK BK245.o⟩
     have n1_ : Aside0 (Below w.heap.size w (((w5.setCell ⟨gb245, 0, none⟩ (.int .i64 ((rd_T81 l0 x3_1).f0))).setCell ⟨gb245, 1, none⟩ (.int .i64 ((rd_T81 l0 x3_1).f1))).setCell ⟨gb245, 2, none⟩ (.int .i64 ((rd_T81 l0 x3_1).f2)))) := ⟨by exact qX HB.o⟩
     (try clear BK245)
     (try clear HB)
     generalize (((w5.setCell ⟨gb245, 0, none⟩ (.int .i64 ((rd_T81 l0 x3_1).f0))).setCell ⟨gb245, 1, none⟩ (.int .i64 ((rd_T81 l0 x3_1).f1))).setCell ⟨gb245, 2, none⟩ (.int .i64 ((rd_T81 l0 x3_1).f2))) = w25 at n0_ n1_ ⊢
     have BK245 := n0_
     have HB := n1_
     clear n0_ n1_
     have n0_ := zK (kD BK245.o)
     have n1_ := zK (below_drew1 HB.o)
     clear BK245
     clear HB
     have BK245 := n0_
     have HB := n1_
     clear n0_ n1_
     refine start_ (n := 31) (S := fun w' => w'.cell? ⟨gb245, 0, none⟩ = some (.int .i64 ((rd_T81 l0 x3_1).f0)) ∧ w'.cell? ⟨gb245, 1, none⟩ = some (.int .i64 ((rd_T81 l0 x3_1).f1)) ∧ w'.cell? ⟨gb245, 2, none⟩ = some (.int .i64 ((rd_T81 l0 x3_1).f2))) (ds := []) b11A0 (by kernel_rfl) rfl rfl ⟨(bc BK245.o 0).trans rfl, (bc BK245.o 1).trans rfl, (bc BK245.o 2).trans rfl⟩ (fun hHeld => ?_); refine with_tabW spec_AreLetters.tab5 spec_AreLetters.bits5 (fun HT_ HW_ => ?_)
     generalize w25.drew = w26 at BK245 HB hHeld ⊢
     refine pI 0 (some 16) b11A1 HT_ ?_
     refine tI 1 (some 17) b11A2 HT_ HW_ hHeld rfl rfl (Or.inl ⟨by rfl, by rintro w' ⟨s0, s1, s2⟩; go_simp; with_reducible rfl⟩) ?_
     refine one_ (i := 2) (N := some 18) b11A3 rfl rfl (one_of HT_.o (by kernel_rfl)) (by decide) (fun K hK => ?_)
     refine goes_ Try.func95 (by kernel_rfl) rfl #[.int .i64 ((rd_T81 l0 x3_1).f0), .int .i64 1, .int .i64 999] (by rfl) rfl rfl M0 ?_
     with_reducible refine (spec_l1In.calls ((rd_T81 l0 x3_1).f0) 1 999 false _ A7.o).mono ?_
     rintro e w' ⟨rfl, ⟨nd, rfl⟩⟩
     refine ⟨_, rfl, ?_⟩
     refine hK.out _ _ ⟨(bc BK245.o 0).trans rfl, (bc BK245.o 1).trans rfl, (bc BK245.o 2).trans rfl⟩ (fun hHeld => ?_)
     clear hK K
     refine norm_ (a' := ?_) ?_ ?_
     rotate_left
     ·show Act.put _ (some 18) _ = _
      simp only [Act.put, sA, sZ, sS, i64_w, i32_w]
      rfl
     refine pI 3 (some 19) b11A4 HT_ ?_
     refine pI 4 (some 20) b11A5 HT_ ?_
     refine pU 5 (some 21) b11A6 HT_ ?_
     refine pU 6 (some 22) b11A7 HT_ ?_
     refine pU 7 (some 23) b11A8 HT_ ?_
     refine pU 8 (some 24) b11A9 HT_ ?_
     refine pI 9 (some 25) b11A10 HT_ ?_
     refine pI 10 (some 26) b11A11 HT_ ?_
     refine pU 11 (some 27) b11A12 HT_ ?_
     refine pU 12 (some 28) b11A13 HT_ ?_
     refine pU 13 (some 29) b11A14 HT_ ?_
     refine pU 14 (some 30) b11A15 HT_ ?_
     refine pI 15 (some 31) b11A16 HT_ ?_
     refine pI 16 (some 32) b11A17 HT_ ?_
     refine pU 17 (some 33) b11A18 HT_ ?_
     refine pU 18 (some 34) b11A19 HT_ ?_
     refine pU 19 (some 35) b11A20 HT_ ?_
     refine pU 20 (some 36) b11A21 HT_ ?_
     refine pU 21 (some 37) b11A22 HT_ ?_
     refine pU 22 (some 38) b11A23 HT_ ?_
     refine pU 23 (some 39) b11A24 HT_ ?_
     refine pU 24 (some 40) b11A25 HT_ ?_
     refine pU 25 (some 41) b11A32 HT_ ?_
     refine pU 26 (some 42) b11A27 HT_ ?_
     refine pU 27 (some 43) b11A28 HT_ ?_
     refine pU 28 (some 44) b11A29 HT_ ?_
     refine pU 29 (some 45) b11A30 HT_ ?_
     refine pI 30 (some 46) b11A31 HT_ ?_
     refine done_ (done_of HT_.o (by kernel_rfl)) ?_
     try go_wp2
     go_meet
     case rel => exact ⟨_, (true), M3, H', ⟨by have := HK1.o; first | omega | exact Nat.le_refl _⟩, ⟨by exact qK BK245.o⟩, ⟨by exact qX HB.o⟩⟩
    subst c8
    have H1 : ((spec_l1In.f ((rd_T81 l0 x3_1).f1) 1 999).bind fun t247 => (if t247 = true then ((spec_l1In.f ((rd_T81 l0 x3_1).f2) 0 100000).bind fun t248 => (if t248 = true then (if x3_1 > 0 then (if 0 ≤ (wrap64 (x3_1 - 1)) then (if (wrap64 (x3_1 - 1)) < (l0.length : Int) then (spec_AreLetters.j1 k1 l0 x3_1 (decide (((rd_T81 l0 (wrap64 (x3_1 - 1))).f2) > ((rd_T81 l0 x3_1).f2))) ((rd_T81 l0 x3_1).f0) ((rd_T81 l0 x3_1).f1) ((rd_T81 l0 x3_1).f2)) else (none)) else (none)) else (spec_AreLetters.j1 k1 l0 x3_1 false ((rd_T81 l0 x3_1).f0) ((rd_T81 l0 x3_1).f1) ((rd_T81 l0 x3_1).f2))) else (spec_AreLetters.j1 k1 l0 x3_1 true ((rd_T81 l0 x3_1).f0) ((rd_T81 l0 x3_1).f1) ((rd_T81 l0 x3_1).f2)))) else (spec_AreLetters.j1 k1 l0 x3_1 true ((rd_T81 l0 x3_1).f0) ((rd_T81 l0 x3_1).f1) ((rd_T81 l0 x3_1).f2)))) = some r := by rw [if_pos rfl] at H; exact H
    clear H
    have H := H1
    clear H1
    replace H := Option.bind_eq_some_iff.mp H
    obtain ⟨t247, A90, H⟩ := H
    try dsimp only at H
    have A9 := zK A90
    clear A90
    by_cases c10 : t247 = true
    rotate_left
    ·replace c10 := Bool.eq_false_iff.mpr c10
     subst c10
     have H1 : (spec_AreLetters.j1 k1 l0 x3_1 true ((rd_T81 l0 x3_1).f0) ((rd_T81 l0 x3_1).f1) ((rd_T81 l0 x3_1).f2)) = some r := by rw [if_neg (show ¬ (false = true) by decide)] at H; exact H
     clear H
     have H := H1
     clear H1
     have H' := zK H
     clear H
     try go_wp2
     have n0_ : Aside0 ((((w5.setCell ⟨gb245, 0, none⟩ (.int .i64 ((rd_T81 l0 x3_1).f0))).setCell ⟨gb245, 1, none⟩ (.int .i64 ((rd_T81 l0 x3_1).f1))).setCell ⟨gb245, 2, none⟩ (.int .i64 ((rd_T81 l0 x3_1).f2))).heap[gb245]? = some (.cells #[.int .i64 ((rd_T81 l0 x3_1).f0), .int .i64 ((rd_T81 l0 x3_1).f1), .int .i64 ((rd_T81 l0 x3_1).f2)] 81 (0, 0))) := ⟨by (with_reducible repeat (first | refine kN ?_ _ | refine kD ?_ | refine kA ?_ _)); refine blk_put (cs := #[.int .i64 ((rd_T81 l0 x3_1).f0), .int .i64 ((rd_T81 l0 x3_1).f1), .int .i64 0]) ?_ 2 _ rfl; (with_reducible repeat (first | refine kN ?_ _ | refine kD ?_ | refine kA ?_ _)); refine blk_put (cs := #[.int .i64 ((rd_T81 l0 x3_1).f0), .int .i64 0, .int .i64 0]) ?_ 1 _ rfl; (with_reducible repeat (first | refine kN ?_ _ | refine kD ?_ | refine kA ?_ _)); refine blk_put (cs := #[.int .i64 0, .int .i64 0, .int .i64 0]) ?_ 0 _ rfl; exact qK BK245.o⟩
     have n1_ : Aside0 (Below w.heap.size w (((w5.setCell ⟨gb245, 0, none⟩ (.int .i64 ((rd_T81 l0 x3_1).f0))).setCell ⟨gb245, 1, none⟩ (.int .i64 ((rd_T81 l0 x3_1).f1))).setCell ⟨gb245, 2, none⟩ (.int .i64 ((rd_T81 l0 x3_1).f2)))) := ⟨by exact qX HB.o⟩
     (try clear BK245)
     (try clear HB)
     generalize (((w5.setCell ⟨gb245, 0, none⟩ (.int .i64 ((rd_T81 l0 x3_1).f0))).setCell ⟨gb245, 1, none⟩ (.int .i64 ((rd_T81 l0 x3_1).f1))).setCell ⟨gb245, 2, none⟩ (.int .i64 ((rd_T81 l0 x3_1).f2))) = w23 at n0_ n1_ ⊢
     have BK245 := n0_
     have HB := n1_
     clear n0_ n1_
     have n0_ := zK (kD BK245.o)
     have n1_ := zK (below_drew1 HB.o)
     clear BK245
     clear HB
     have BK245 := n0_
     have HB := n1_
     clear n0_ n1_
     refine start_ (n := 31) (S := fun w' => w'.cell? ⟨gb245, 0, none⟩ = some (.int .i64 ((rd_T81 l0 x3_1).f0)) ∧ w'.cell? ⟨gb245, 1, none⟩ = some (.int .i64 ((rd_T81 l0 x3_1).f1)) ∧ w'.cell? ⟨gb245, 2, none⟩ = some (.int .i64 ((rd_T81 l0 x3_1).f2))) (ds := []) b11A0 (by kernel_rfl) rfl rfl ⟨(bc BK245.o 0).trans rfl, (bc BK245.o 1).trans rfl, (bc BK245.o 2).trans rfl⟩ (fun hHeld => ?_); refine with_tabW spec_AreLetters.tab5 spec_AreLetters.bits5 (fun HT_ HW_ => ?_)
     generalize w23.drew = w24 at BK245 HB hHeld ⊢
     refine pI 0 (some 16) b11A1 HT_ ?_
     refine tI 1 (some 17) b11A2 HT_ HW_ hHeld rfl rfl (Or.inl ⟨by rfl, by rintro w' ⟨s0, s1, s2⟩; go_simp; with_reducible rfl⟩) ?_
     refine one_ (i := 2) (N := some 18) b11A3 rfl rfl (one_of HT_.o (by kernel_rfl)) (by decide) (fun K hK => ?_)
     refine goes_ Try.func95 (by kernel_rfl) rfl #[.int .i64 ((rd_T81 l0 x3_1).f0), .int .i64 1, .int .i64 999] (by rfl) rfl rfl M0 ?_
     with_reducible refine (spec_l1In.calls ((rd_T81 l0 x3_1).f0) 1 999 true _ A7.o).mono ?_
     rintro e w' ⟨rfl, ⟨nd, rfl⟩⟩
     refine ⟨_, rfl, ?_⟩
     refine hK.out _ _ ⟨(bc BK245.o 0).trans rfl, (bc BK245.o 1).trans rfl, (bc BK245.o 2).trans rfl⟩ (fun hHeld => ?_)
     clear hK K
     refine norm_ (a' := ?_) ?_ ?_
     rotate_left
     ·show Act.put _ (some 18) _ = _
      simp only [Act.put, sA, sZ, sS, i64_w, i32_w]
      rfl
     refine pI 3 (some 19) b11A4 HT_ ?_
     refine pI 4 (some 20) b11A5 HT_ ?_
     refine pI 5 (some 21) b11A6 HT_ ?_
     refine tI 6 (some 22) b11A7 HT_ HW_ hHeld rfl rfl (Or.inl ⟨by rfl, by rintro w' ⟨s0, s1, s2⟩; go_simp; with_reducible rfl⟩) ?_
     refine one_ (i := 7) (N := some 23) b11A8 rfl rfl (one_of HT_.o (by kernel_rfl)) (by decide) (fun K hK => ?_)
     refine goes_ Try.func95 (by kernel_rfl) rfl #[.int .i64 ((rd_T81 l0 x3_1).f1), .int .i64 1, .int .i64 999] (by rfl) rfl rfl M0 ?_
     with_reducible refine (spec_l1In.calls ((rd_T81 l0 x3_1).f1) 1 999 false _ A9.o).mono ?_
     rintro e w' ⟨rfl, ⟨nd, rfl⟩⟩
     refine ⟨_, rfl, ?_⟩
     refine hK.out _ _ ⟨(bc BK245.o 0).trans rfl, (bc BK245.o 1).trans rfl, (bc BK245.o 2).trans rfl⟩ (fun hHeld => ?_)
     clear hK K
     refine norm_ (a' := ?_) ?_ ?_
     rotate_left
     ·show Act.put _ (some 23) _ = _
      simp only [Act.put, sA, sZ, sS, i64_w, i32_w]
      rfl
     refine pI 8 (some 24) b11A9 HT_ ?_
     refine pI 9 (some 25) b11A10 HT_ ?_
     refine pI 10 (some 26) b11A11 HT_ ?_
     refine pU 11 (some 27) b11A12 HT_ ?_
     refine pU 12 (some 28) b11A13 HT_ ?_
     refine pU 13 (some 29) b11A14 HT_ ?_
     refine pU 14 (some 30) b11A15 HT_ ?_
     refine pI 15 (some 31) b11A16 HT_ ?_
     refine pI 16 (some 32) b11A17 HT_ ?_
     refine pU 17 (some 33) b11A18 HT_ ?_
     refine pU 18 (some 34) b11A19 HT_ ?_
     refine pU 19 (some 35) b11A20 HT_ ?_
     refine pU 20 (some 36) b11A21 HT_ ?_
     refine pU 21 (some 37) b11A22 HT_ ?_
     refine pU 22 (some 38) b11A23 HT_ ?_
     refine pU 23 (some 39) b11A24 HT_ ?_
     refine pU 24 (some 40) b11A25 HT_ ?_
     refine pU 25 (some 41) b11A32 HT_ ?_
     refine pU 26 (some 42) b11A27 HT_ ?_
     refine pU 27 (some 43) b11A28 HT_ ?_
     refine pU 28 (some 44) b11A29 HT_ ?_
     refine pU 29 (some 45) b11A30 HT_ ?_
     refine pI 30 (some 46) b11A31 HT_ ?_
     refine done_ (done_of HT_.o (by kernel_rfl)) ?_
     try go_wp2
     go_meet
     case rel => exact ⟨_, (true), M3, H', ⟨by have := HK1.o; first | omega | exact Nat.le_refl _⟩, ⟨by exact qK BK245.o⟩, ⟨by exact qX HB.o⟩⟩
    subst c10
    have H1 : ((spec_l1In.f ((rd_T81 l0 x3_1).f2) 0 100000).bind fun t248 => (if t248 = true then (if x3_1 > 0 then (if 0 ≤ (wrap64 (x3_1 - 1)) then (if (wrap64 (x3_1 - 1)) < (l0.length : Int) then (spec_AreLetters.j1 k1 l0 x3_1 (decide (((rd_T81 l0 (wrap64 (x3_1 - 1))).f2) > ((rd_T81 l0 x3_1).f2))) ((rd_T81 l0 x3_1).f0) ((rd_T81 l0 x3_1).f1) ((rd_T81 l0 x3_1).f2)) else (none)) else (none)) else (spec_AreLetters.j1 k1 l0 x3_1 false ((rd_T81 l0 x3_1).f0) ((rd_T81 l0 x3_1).f1) ((rd_T81 l0 x3_1).f2))) else (spec_AreLetters.j1 k1 l0 x3_1 true ((rd_T81 l0 x3_1).f0) ((rd_T81 l0 x3_1).f1) ((rd_T81 l0 x3_1).f2)))) = some r := by rw [if_pos rfl] at H; exact H
    clear H
    have H := H1
    clear H1
    replace H := Option.bind_eq_some_iff.mp H
    obtain ⟨t248, A110, H⟩ := H
    try dsimp only at H
    have A11 := zK A110
    clear A110
    by_cases c12 : t248 = true
    rotate_left
    ·replace c12 := Bool.eq_false_iff.mpr c12
     subst c12
     have H1 : (spec_AreLetters.j1 k1 l0 x3_1 true ((rd_T81 l0 x3_1).f0) ((rd_T81 l0 x3_1).f1) ((rd_T81 l0 x3_1).f2)) = some r := by rw [if_neg (show ¬ (false = true) by decide)] at H; exact H
     clear H
     have H := H1
     clear H1
     have H' := zK H
     clear H
     try go_wp2
     have n0_ : Aside0 ((((w5.setCell ⟨gb245, 0, none⟩ (.int .i64 ((rd_T81 l0 x3_1).f0))).setCell ⟨gb245, 1, none⟩ (.int .i64 ((rd_T81 l0 x3_1).f1))).setCell ⟨gb245, 2, none⟩ (.int .i64 ((rd_T81 l0 x3_1).f2))).heap[gb245]? = some (.cells #[.int .i64 ((rd_T81 l0 x3_1).f0), .int .i64 ((rd_T81 l0 x3_1).f1), .int .i64 ((rd_T81 l0 x3_1).f2)] 81 (0, 0))) := ⟨by (with_reducible repeat (first | refine kN ?_ _ | refine kD ?_ | refine kA ?_ _)); refine blk_put (cs := #[.int .i64 ((rd_T81 l0 x3_1).f0), .int .i64 ((rd_T81 l0 x3_1).f1), .int .i64 0]) ?_ 2 _ rfl; (with_reducible repeat (first | refine kN ?_ _ | refine kD ?_ | refine kA ?_ _)); refine blk_put (cs := #[.int .i64 ((rd_T81 l0 x3_1).f0), .int .i64 0, .int .i64 0]) ?_ 1 _ rfl; (with_reducible repeat (first | refine kN ?_ _ | refine kD ?_ | refine kA ?_ _)); refine blk_put (cs := #[.int .i64 0, .int .i64 0, .int .i64 0]) ?_ 0 _ rfl; exact qK BK245.o⟩
     have n1_ : Aside0 (Below w.heap.size w (((w5.setCell ⟨gb245, 0, none⟩ (.int .i64 ((rd_T81 l0 x3_1).f0))).setCell ⟨gb245, 1, none⟩ (.int .i64 ((rd_T81 l0 x3_1).f1))).setCell ⟨gb245, 2, none⟩ (.int .i64 ((rd_T81 l0 x3_1).f2)))) := ⟨by exact qX HB.o⟩
     (try clear BK245)
     (try clear HB)
     generalize (((w5.setCell ⟨gb245, 0, none⟩ (.int .i64 ((rd_T81 l0 x3_1).f0))).setCell ⟨gb245, 1, none⟩ (.int .i64 ((rd_T81 l0 x3_1).f1))).setCell ⟨gb245, 2, none⟩ (.int .i64 ((rd_T81 l0 x3_1).f2))) = w21 at n0_ n1_ ⊢
     have BK245 := n0_
     have HB := n1_
     clear n0_ n1_
     have n0_ := zK (kD BK245.o)
     have n1_ := zK (below_drew1 HB.o)
     clear BK245
     clear HB
     have BK245 := n0_
     have HB := n1_
     clear n0_ n1_
     refine start_ (n := 31) (S := fun w' => w'.cell? ⟨gb245, 0, none⟩ = some (.int .i64 ((rd_T81 l0 x3_1).f0)) ∧ w'.cell? ⟨gb245, 1, none⟩ = some (.int .i64 ((rd_T81 l0 x3_1).f1)) ∧ w'.cell? ⟨gb245, 2, none⟩ = some (.int .i64 ((rd_T81 l0 x3_1).f2))) (ds := []) b11A0 (by kernel_rfl) rfl rfl ⟨(bc BK245.o 0).trans rfl, (bc BK245.o 1).trans rfl, (bc BK245.o 2).trans rfl⟩ (fun hHeld => ?_); refine with_tabW spec_AreLetters.tab5 spec_AreLetters.bits5 (fun HT_ HW_ => ?_)
     generalize w21.drew = w22 at BK245 HB hHeld ⊢
     refine pI 0 (some 16) b11A1 HT_ ?_
     refine tI 1 (some 17) b11A2 HT_ HW_ hHeld rfl rfl (Or.inl ⟨by rfl, by rintro w' ⟨s0, s1, s2⟩; go_simp; with_reducible rfl⟩) ?_
     refine one_ (i := 2) (N := some 18) b11A3 rfl rfl (one_of HT_.o (by kernel_rfl)) (by decide) (fun K hK => ?_)
     refine goes_ Try.func95 (by kernel_rfl) rfl #[.int .i64 ((rd_T81 l0 x3_1).f0), .int .i64 1, .int .i64 999] (by rfl) rfl rfl M0 ?_
     with_reducible refine (spec_l1In.calls ((rd_T81 l0 x3_1).f0) 1 999 true _ A7.o).mono ?_
     rintro e w' ⟨rfl, ⟨nd, rfl⟩⟩
     refine ⟨_, rfl, ?_⟩
     refine hK.out _ _ ⟨(bc BK245.o 0).trans rfl, (bc BK245.o 1).trans rfl, (bc BK245.o 2).trans rfl⟩ (fun hHeld => ?_)
     clear hK K
     refine norm_ (a' := ?_) ?_ ?_
     rotate_left
     ·show Act.put _ (some 18) _ = _
      simp only [Act.put, sA, sZ, sS, i64_w, i32_w]
      rfl
     refine pI 3 (some 19) b11A4 HT_ ?_
     refine pI 4 (some 20) b11A5 HT_ ?_
     refine pI 5 (some 21) b11A6 HT_ ?_
     refine tI 6 (some 22) b11A7 HT_ HW_ hHeld rfl rfl (Or.inl ⟨by rfl, by rintro w' ⟨s0, s1, s2⟩; go_simp; with_reducible rfl⟩) ?_
     refine one_ (i := 7) (N := some 23) b11A8 rfl rfl (one_of HT_.o (by kernel_rfl)) (by decide) (fun K hK => ?_)
     refine goes_ Try.func95 (by kernel_rfl) rfl #[.int .i64 ((rd_T81 l0 x3_1).f1), .int .i64 1, .int .i64 999] (by rfl) rfl rfl M0 ?_
     with_reducible refine (spec_l1In.calls ((rd_T81 l0 x3_1).f1) 1 999 true _ A9.o).mono ?_
     rintro e w' ⟨rfl, ⟨nd, rfl⟩⟩
     refine ⟨_, rfl, ?_⟩
     refine hK.out _ _ ⟨(bc BK245.o 0).trans rfl, (bc BK245.o 1).trans rfl, (bc BK245.o 2).trans rfl⟩ (fun hHeld => ?_)
     clear hK K
     refine norm_ (a' := ?_) ?_ ?_
     rotate_left
     ·show Act.put _ (some 23) _ = _
      simp only [Act.put, sA, sZ, sS, i64_w, i32_w]
      rfl
     refine pI 8 (some 24) b11A9 HT_ ?_
     refine pI 9 (some 25) b11A10 HT_ ?_
     refine pI 10 (some 26) b11A11 HT_ ?_
     refine pI 11 (some 27) b11A12 HT_ ?_
     refine tI 12 (some 28) b11A13 HT_ HW_ hHeld rfl rfl (Or.inl ⟨by rfl, by rintro w' ⟨s0, s1, s2⟩; go_simp; with_reducible rfl⟩) ?_
     refine one_ (i := 13) (N := some 29) b11A14 rfl rfl (one_of HT_.o (by kernel_rfl)) (by decide) (fun K hK => ?_)
     refine goes_ Try.func95 (by kernel_rfl) rfl #[.int .i64 ((rd_T81 l0 x3_1).f2), .int .i64 0, .int .i64 100000] (by rfl) rfl rfl M0 ?_
     with_reducible refine (spec_l1In.calls ((rd_T81 l0 x3_1).f2) 0 100000 false _ A11.o).mono ?_
     rintro e w' ⟨rfl, ⟨nd, rfl⟩⟩
     refine ⟨_, rfl, ?_⟩
     refine hK.out _ _ ⟨(bc BK245.o 0).trans rfl, (bc BK245.o 1).trans rfl, (bc BK245.o 2).trans rfl⟩ (fun hHeld => ?_)
     clear hK K
     refine norm_ (a' := ?_) ?_ ?_
     rotate_left
     ·show Act.put _ (some 29) _ = _
      simp only [Act.put, sA, sZ, sS, i64_w, i32_w]
      rfl
     refine pI 14 (some 30) b11A15 HT_ ?_
     refine pI 15 (some 31) b11A16 HT_ ?_
     refine pI 16 (some 32) b11A17 HT_ ?_
     refine pU 17 (some 33) b11A18 HT_ ?_
     refine pU 18 (some 34) b11A19 HT_ ?_
     refine pU 19 (some 35) b11A20 HT_ ?_
     refine pU 20 (some 36) b11A21 HT_ ?_
     refine pU 21 (some 37) b11A22 HT_ ?_
     refine pU 22 (some 38) b11A23 HT_ ?_
     refine pU 23 (some 39) b11A24 HT_ ?_
     refine pU 24 (some 40) b11A25 HT_ ?_
     refine pU 25 (some 41) b11A32 HT_ ?_
     refine pU 26 (some 42) b11A27 HT_ ?_
     refine pU 27 (some 43) b11A28 HT_ ?_
     refine pU 28 (some 44) b11A29 HT_ ?_
     refine pU 29 (some 45) b11A30 HT_ ?_
     refine pI 30 (some 46) b11A31 HT_ ?_
     refine done_ (done_of HT_.o (by kernel_rfl)) ?_
     try go_wp2
     go_meet
     case rel => exact ⟨_, (true), M3, H', ⟨by have := HK1.o; first | omega | exact Nat.le_refl _⟩, ⟨by exact qK BK245.o⟩, ⟨by exact qX HB.o⟩⟩
    subst c12
    have H1 : (if x3_1 > 0 then (if 0 ≤ (wrap64 (x3_1 - 1)) then (if (wrap64 (x3_1 - 1)) < (l0.length : Int) then (spec_AreLetters.j1 k1 l0 x3_1 (decide (((rd_T81 l0 (wrap64 (x3_1 - 1))).f2) > ((rd_T81 l0 x3_1).f2))) ((rd_T81 l0 x3_1).f0) ((rd_T81 l0 x3_1).f1) ((rd_T81 l0 x3_1).f2)) else (none)) else (none)) else (spec_AreLetters.j1 k1 l0 x3_1 false ((rd_T81 l0 x3_1).f0) ((rd_T81 l0 x3_1).f1) ((rd_T81 l0 x3_1).f2))) = some r := by rw [if_pos rfl] at H; exact H
    clear H
    have H := H1
    clear H1
    by_cases c13 : x3_1 > 0
    rotate_left
    ·rw [if_neg c13] at H
     have c13b0 : decide (0 < x3_1) = false := decide_eq_false c13
     clear c13
     (first | rw [c13b0] | rw [c13b1] | (simp only [i64_w, i32_w]; rw [c13b0]) | skip)
     have H' := zK H
     clear H
     try go_wp2
     have n0_ : Aside0 ((((w5.setCell ⟨gb245, 0, none⟩ (.int .i64 ((rd_T81 l0 x3_1).f0))).setCell ⟨gb245, 1, none⟩ (.int .i64 ((rd_T81 l0 x3_1).f1))).setCell ⟨gb245, 2, none⟩ (.int .i64 ((rd_T81 l0 x3_1).f2))).heap[gb245]? = some (.cells #[.int .i64 ((rd_T81 l0 x3_1).f0), .int .i64 ((rd_T81 l0 x3_1).f1), .int .i64 ((rd_T81 l0 x3_1).f2)] 81 (0, 0))) := ⟨by (with_reducible repeat (first | refine kN ?_ _ | refine kD ?_ | refine kA ?_ _)); refine blk_put (cs := #[.int .i64 ((rd_T81 l0 x3_1).f0), .int .i64 ((rd_T81 l0 x3_1).f1), .int .i64 0]) ?_ 2 _ rfl; (with_reducible repeat (first | refine kN ?_ _ | refine kD ?_ | refine kA ?_ _)); refine blk_put (cs := #[.int .i64 ((rd_T81 l0 x3_1).f0), .int .i64 0, .int .i64 0]) ?_ 1 _ rfl; (with_reducible repeat (first | refine kN ?_ _ | refine kD ?_ | refine kA ?_ _)); refine blk_put (cs := #[.int .i64 0, .int .i64 0, .int .i64 0]) ?_ 0 _ rfl; exact qK BK245.o⟩
     have n1_ : Aside0 (Below w.heap.size w (((w5.setCell ⟨gb245, 0, none⟩ (.int .i64 ((rd_T81 l0 x3_1).f0))).setCell ⟨gb245, 1, none⟩ (.int .i64 ((rd_T81 l0 x3_1).f1))).setCell ⟨gb245, 2, none⟩ (.int .i64 ((rd_T81 l0 x3_1).f2)))) := ⟨by exact qX HB.o⟩
     (try clear BK245)
     (try clear HB)
     generalize (((w5.setCell ⟨gb245, 0, none⟩ (.int .i64 ((rd_T81 l0 x3_1).f0))).setCell ⟨gb245, 1, none⟩ (.int .i64 ((rd_T81 l0 x3_1).f1))).setCell ⟨gb245, 2, none⟩ (.int .i64 ((rd_T81 l0 x3_1).f2))) = w19 at n0_ n1_ ⊢
     have BK245 := n0_
     have HB := n1_
     clear n0_ n1_
     have n0_ := zK (kD BK245.o)
     have n1_ := zK (below_drew1 HB.o)
     clear BK245
     clear HB
     have BK245 := n0_
     have HB := n1_
     clear n0_ n1_
     refine start_ (n := 31) (S := fun w' => w'.cell? ⟨gb245, 0, none⟩ = some (.int .i64 ((rd_T81 l0 x3_1).f0)) ∧ w'.cell? ⟨gb245, 1, none⟩ = some (.int .i64 ((rd_T81 l0 x3_1).f1)) ∧ w'.cell? ⟨gb245, 2, none⟩ = some (.int .i64 ((rd_T81 l0 x3_1).f2))) (ds := []) b11A0 (by kernel_rfl) rfl rfl ⟨(bc BK245.o 0).trans rfl, (bc BK245.o 1).trans rfl, (bc BK245.o 2).trans rfl⟩ (fun hHeld => ?_); refine with_tabW spec_AreLetters.tab5 spec_AreLetters.bits5 (fun HT_ HW_ => ?_)
     generalize w19.drew = w20 at BK245 HB hHeld ⊢
     refine pI 0 (some 16) b11A1 HT_ ?_
     refine tI 1 (some 17) b11A2 HT_ HW_ hHeld rfl rfl (Or.inl ⟨by rfl, by rintro w' ⟨s0, s1, s2⟩; go_simp; with_reducible rfl⟩) ?_
     refine one_ (i := 2) (N := some 18) b11A3 rfl rfl (one_of HT_.o (by kernel_rfl)) (by decide) (fun K hK => ?_)
     refine goes_ Try.func95 (by kernel_rfl) rfl #[.int .i64 ((rd_T81 l0 x3_1).f0), .int .i64 1, .int .i64 999] (by rfl) rfl rfl M0 ?_
     with_reducible refine (spec_l1In.calls ((rd_T81 l0 x3_1).f0) 1 999 true _ A7.o).mono ?_
     rintro e w' ⟨rfl, ⟨nd, rfl⟩⟩
     refine ⟨_, rfl, ?_⟩
     refine hK.out _ _ ⟨(bc BK245.o 0).trans rfl, (bc BK245.o 1).trans rfl, (bc BK245.o 2).trans rfl⟩ (fun hHeld => ?_)
     clear hK K
     refine norm_ (a' := ?_) ?_ ?_
     rotate_left
     ·show Act.put _ (some 18) _ = _
      simp only [Act.put, sA, sZ, sS, i64_w, i32_w]
      rfl
     refine pI 3 (some 19) b11A4 HT_ ?_
     refine pI 4 (some 20) b11A5 HT_ ?_
     refine pI 5 (some 21) b11A6 HT_ ?_
     refine tI 6 (some 22) b11A7 HT_ HW_ hHeld rfl rfl (Or.inl ⟨by rfl, by rintro w' ⟨s0, s1, s2⟩; go_simp; with_reducible rfl⟩) ?_
     refine one_ (i := 7) (N := some 23) b11A8 rfl rfl (one_of HT_.o (by kernel_rfl)) (by decide) (fun K hK => ?_)
     refine goes_ Try.func95 (by kernel_rfl) rfl #[.int .i64 ((rd_T81 l0 x3_1).f1), .int .i64 1, .int .i64 999] (by rfl) rfl rfl M0 ?_
     with_reducible refine (spec_l1In.calls ((rd_T81 l0 x3_1).f1) 1 999 true _ A9.o).mono ?_
     rintro e w' ⟨rfl, ⟨nd, rfl⟩⟩
     refine ⟨_, rfl, ?_⟩
     refine hK.out _ _ ⟨(bc BK245.o 0).trans rfl, (bc BK245.o 1).trans rfl, (bc BK245.o 2).trans rfl⟩ (fun hHeld => ?_)
     clear hK K
     refine norm_ (a' := ?_) ?_ ?_
     rotate_left
     ·show Act.put _ (some 23) _ = _
      simp only [Act.put, sA, sZ, sS, i64_w, i32_w]
      rfl
     refine pI 8 (some 24) b11A9 HT_ ?_
     refine pI 9 (some 25) b11A10 HT_ ?_
     refine pI 10 (some 26) b11A11 HT_ ?_
     refine pI 11 (some 27) b11A12 HT_ ?_
     refine tI 12 (some 28) b11A13 HT_ HW_ hHeld rfl rfl (Or.inl ⟨by rfl, by rintro w' ⟨s0, s1, s2⟩; go_simp; with_reducible rfl⟩) ?_
     refine one_ (i := 13) (N := some 29) b11A14 rfl rfl (one_of HT_.o (by kernel_rfl)) (by decide) (fun K hK => ?_)
     refine goes_ Try.func95 (by kernel_rfl) rfl #[.int .i64 ((rd_T81 l0 x3_1).f2), .int .i64 0, .int .i64 100000] (by rfl) rfl rfl M0 ?_
     with_reducible refine (spec_l1In.calls ((rd_T81 l0 x3_1).f2) 0 100000 true _ A11.o).mono ?_
     rintro e w' ⟨rfl, ⟨nd, rfl⟩⟩
     refine ⟨_, rfl, ?_⟩
     refine hK.out _ _ ⟨(bc BK245.o 0).trans rfl, (bc BK245.o 1).trans rfl, (bc BK245.o 2).trans rfl⟩ (fun hHeld => ?_)
     clear hK K
     refine norm_ (a' := ?_) ?_ ?_
     rotate_left
     ·show Act.put _ (some 29) _ = _
      simp only [Act.put, sA, sZ, sS, i64_w, i32_w]
      rfl
     refine pI 14 (some 30) b11A15 HT_ ?_
     refine pI 15 (some 31) b11A16 HT_ ?_
     refine pI 16 (some 32) b11A17 HT_ ?_
     refine pI 17 (some 33) b11A18 HT_ ?_
     refine pI 18 (some 34) b11A19 HT_ ?_
     refine pI 19 (some 35) b11A20 HT_ ?_
     refine pU 20 (some 36) b11A21 HT_ ?_
     refine pU 21 (some 37) b11A22 HT_ ?_
     refine pU 22 (some 38) b11A23 HT_ ?_
     refine pU 23 (some 39) b11A24 HT_ ?_
     refine pU 24 (some 40) b11A25 HT_ ?_
     refine pU 25 (some 41) b11A32 HT_ ?_
     refine pU 26 (some 42) b11A27 HT_ ?_
     refine pU 27 (some 43) b11A28 HT_ ?_
     refine pU 28 (some 44) b11A29 HT_ ?_
     refine pI 29 (some 45) b11A30 HT_ ?_
     refine pI 30 (some 46) b11A31 HT_ ?_
     refine done_ (done_of HT_.o (by kernel_rfl)) ?_
     try go_wp2
     go_meet
     case rel => exact ⟨_, (false), M3, H', ⟨by have := HK1.o; first | omega | exact Nat.le_refl _⟩, ⟨by exact qK BK245.o⟩, ⟨by exact qX HB.o⟩⟩
    rw [if_pos c13] at H
    have c13b0 : decide (0 < x3_1) = true := decide_eq_true c13
    clear c13
    (first | rw [c13b0] | rw [c13b1] | (simp only [i64_w, i32_w]; rw [c13b0]) | skip)
    obtain ⟨ji14, hji14⟩ : ∃ j_ : Int, (wrap64 (x3_1 - 1)) = j_ := ⟨_, rfl⟩
    replace H : (if 0 ≤ (ji14) then (if (ji14) < (l0.length : Int) then (spec_AreLetters.j1 k1 l0 x3_1 (decide (((rd_T81 l0 (ji14)).f2) > ((rd_T81 l0 x3_1).f2))) ((rd_T81 l0 x3_1).f0) ((rd_T81 l0 x3_1).f1) ((rd_T81 l0 x3_1).f2)) else (none)) else (none)) = some r := by first | (rw [hji14] at H; exact H) | (simp only [hji14] at H ⊢; exact H)
    (try rw [hji14] at A7)
    (try rw [hji14] at A9)
    (try rw [hji14] at A11)
    have hji14w : (IntKind.i64.wrap (x3_1 - 1)) = ji14 := (i64_w _).trans hji14
    by_cases c15 : 0 ≤ (ji14)
    rotate_left
    ·rw [if_neg c15] at H
     exact absurd H (by simp)
    rw [if_pos c15] at H
    have c15b0 : decide (0 ≤ (ji14)) = true := decide_eq_true c15
    clear c15
    by_cases c16 : (ji14) < (l0.length : Int)
    rotate_left
    ·rw [if_neg c16] at H
     exact absurd H (by simp)
    rw [if_pos c16] at H
    have c16b0 : decide ((ji14) < (l0.length : Int)) = true := decide_eq_true c16
    clear c16
    have H' := zK H
    clear H
    try go_wp2
    have n0_ : Aside0 ((((w5.setCell ⟨gb245, 0, none⟩ (.int .i64 ((rd_T81 l0 x3_1).f0))).setCell ⟨gb245, 1, none⟩ (.int .i64 ((rd_T81 l0 x3_1).f1))).setCell ⟨gb245, 2, none⟩ (.int .i64 ((rd_T81 l0 x3_1).f2))).heap[gb245]? = some (.cells #[.int .i64 ((rd_T81 l0 x3_1).f0), .int .i64 ((rd_T81 l0 x3_1).f1), .int .i64 ((rd_T81 l0 x3_1).f2)] 81 (0, 0))) := ⟨by (with_reducible repeat (first | refine kN ?_ _ | refine kD ?_ | refine kA ?_ _)); refine blk_put (cs := #[.int .i64 ((rd_T81 l0 x3_1).f0), .int .i64 ((rd_T81 l0 x3_1).f1), .int .i64 0]) ?_ 2 _ rfl; (with_reducible repeat (first | refine kN ?_ _ | refine kD ?_ | refine kA ?_ _)); refine blk_put (cs := #[.int .i64 ((rd_T81 l0 x3_1).f0), .int .i64 0, .int .i64 0]) ?_ 1 _ rfl; (with_reducible repeat (first | refine kN ?_ _ | refine kD ?_ | refine kA ?_ _)); refine blk_put (cs := #[.int .i64 0, .int .i64 0, .int .i64 0]) ?_ 0 _ rfl; exact qK BK245.o⟩
    have n1_ : Aside0 (Below w.heap.size w (((w5.setCell ⟨gb245, 0, none⟩ (.int .i64 ((rd_T81 l0 x3_1).f0))).setCell ⟨gb245, 1, none⟩ (.int .i64 ((rd_T81 l0 x3_1).f1))).setCell ⟨gb245, 2, none⟩ (.int .i64 ((rd_T81 l0 x3_1).f2)))) := ⟨by exact qX HB.o⟩
    (try clear BK245)
    (try clear HB)
    generalize (((w5.setCell ⟨gb245, 0, none⟩ (.int .i64 ((rd_T81 l0 x3_1).f0))).setCell ⟨gb245, 1, none⟩ (.int .i64 ((rd_T81 l0 x3_1).f1))).setCell ⟨gb245, 2, none⟩ (.int .i64 ((rd_T81 l0 x3_1).f2))) = w17 at n0_ n1_ ⊢
    have BK245 := n0_
    have HB := n1_
    clear n0_ n1_
    have n0_ := zK (kD BK245.o)
    have n1_ := zK (below_drew1 HB.o)
    clear BK245
    clear HB
    have BK245 := n0_
    have HB := n1_
    clear n0_ n1_
    have p249 : 0 ≤ ((ji14) : Int) := oD M1
    have q249 : (ji14) < (l0.length : Int) := oD M1
    obtain ⟨ad249, e249, hx249_0, hx249_1, hx249_2⟩ := at_T81 HR0.o (ji14) p249 q249
    have hw249_2 := hx249_2
    have hw249_1 := hx249_1
    have hw249_0 := hx249_0
    obtain rfl : ad244 = ad249 := (by injection e249)
    replace hx249_0 := cB HB.o hx249_0
    replace hx249_1 := cB HB.o hx249_1
    replace hx249_2 := cB HB.o hx249_2
    replace p249 := eq_true p249
    replace q249 := eq_true q249
    refine start_ (n := 31) (S := fun w' => w'.cell? ⟨gb245, 0, none⟩ = some (.int .i64 ((rd_T81 l0 x3_1).f0)) ∧ w'.cell? ⟨gb245, 1, none⟩ = some (.int .i64 ((rd_T81 l0 x3_1).f1)) ∧ w'.cell? ⟨gb245, 2, none⟩ = some (.int .i64 ((rd_T81 l0 x3_1).f2)) ∧ w'.cell? (ad244.add (((ji14)).toNat * 3)) = some (.int .i64 ((rd_T81 l0 (ji14)).f0)) ∧ w'.cell? ⟨(ad244.add (((ji14)).toNat * 3)).block, (ad244.add (((ji14)).toNat * 3)).off + 1, none⟩ = some (.int .i64 ((rd_T81 l0 (ji14)).f1)) ∧ w'.cell? ⟨(ad244.add (((ji14)).toNat * 3)).block, (ad244.add (((ji14)).toNat * 3)).off + 2, none⟩ = some (.int .i64 ((rd_T81 l0 (ji14)).f2))) (ds := []) b11A0 (by kernel_rfl) rfl rfl ⟨(bc BK245.o 0).trans rfl, (bc BK245.o 1).trans rfl, (bc BK245.o 2).trans rfl, (cB HB.o hw249_0 :), (cB HB.o hw249_1 :), (cB HB.o hw249_2 :)⟩ (fun hHeld => ?_); refine with_tabW spec_AreLetters.tab5 spec_AreLetters.bits5 (fun HT_ HW_ => ?_)
    generalize w17.drew = w18 at BK245 HB hx249_0 hx249_1 hx249_2 hHeld ⊢
    refine pI 0 (some 16) b11A1 HT_ ?_
    refine tI 1 (some 17) b11A2 HT_ HW_ hHeld rfl rfl (Or.inl ⟨by rfl, by rintro w' ⟨s0, s1, s2, s3, s4, s5⟩; go_simp; with_reducible rfl⟩) ?_
    refine one_ (i := 2) (N := some 18) b11A3 rfl rfl (one_of HT_.o (by kernel_rfl)) (by decide) (fun K hK => ?_)
    refine goes_ Try.func95 (by kernel_rfl) rfl #[.int .i64 ((rd_T81 l0 x3_1).f0), .int .i64 1, .int .i64 999] (by rfl) rfl rfl M0 ?_
    with_reducible refine (spec_l1In.calls ((rd_T81 l0 x3_1).f0) 1 999 true _ A7.o).mono ?_
    rintro e w' ⟨rfl, ⟨nd, rfl⟩⟩
    refine ⟨_, rfl, ?_⟩
    refine hK.out _ _ ⟨(bc BK245.o 0).trans rfl, (bc BK245.o 1).trans rfl, (bc BK245.o 2).trans rfl, (cB HB.o hw249_0 :), (cB HB.o hw249_1 :), (cB HB.o hw249_2 :)⟩ (fun hHeld => ?_)
    clear hK K
    refine norm_ (a' := ?_) ?_ ?_
    rotate_left
    ·show Act.put _ (some 18) _ = _
     simp only [Act.put, sA, sZ, sS, i64_w, i32_w]
     rfl
    refine pI 3 (some 19) b11A4 HT_ ?_
    refine pI 4 (some 20) b11A5 HT_ ?_
    refine pI 5 (some 21) b11A6 HT_ ?_
    refine tI 6 (some 22) b11A7 HT_ HW_ hHeld rfl rfl (Or.inl ⟨by rfl, by rintro w' ⟨s0, s1, s2, s3, s4, s5⟩; go_simp; with_reducible rfl⟩) ?_
    refine one_ (i := 7) (N := some 23) b11A8 rfl rfl (one_of HT_.o (by kernel_rfl)) (by decide) (fun K hK => ?_)
    refine goes_ Try.func95 (by kernel_rfl) rfl #[.int .i64 ((rd_T81 l0 x3_1).f1), .int .i64 1, .int .i64 999] (by rfl) rfl rfl M0 ?_
    with_reducible refine (spec_l1In.calls ((rd_T81 l0 x3_1).f1) 1 999 true _ A9.o).mono ?_
    rintro e w' ⟨rfl, ⟨nd, rfl⟩⟩
    refine ⟨_, rfl, ?_⟩
    refine hK.out _ _ ⟨(bc BK245.o 0).trans rfl, (bc BK245.o 1).trans rfl, (bc BK245.o 2).trans rfl, (cB HB.o hw249_0 :), (cB HB.o hw249_1 :), (cB HB.o hw249_2 :)⟩ (fun hHeld => ?_)
    clear hK K
    refine norm_ (a' := ?_) ?_ ?_
    rotate_left
    ·show Act.put _ (some 23) _ = _
     simp only [Act.put, sA, sZ, sS, i64_w, i32_w]
     rfl
    refine pI 8 (some 24) b11A9 HT_ ?_
    refine pI 9 (some 25) b11A10 HT_ ?_
    refine pI 10 (some 26) b11A11 HT_ ?_
    refine pI 11 (some 27) b11A12 HT_ ?_
    refine tI 12 (some 28) b11A13 HT_ HW_ hHeld rfl rfl (Or.inl ⟨by rfl, by rintro w' ⟨s0, s1, s2, s3, s4, s5⟩; go_simp; with_reducible rfl⟩) ?_
    refine one_ (i := 13) (N := some 29) b11A14 rfl rfl (one_of HT_.o (by kernel_rfl)) (by decide) (fun K hK => ?_)
    refine goes_ Try.func95 (by kernel_rfl) rfl #[.int .i64 ((rd_T81 l0 x3_1).f2), .int .i64 0, .int .i64 100000] (by rfl) rfl rfl M0 ?_
    with_reducible refine (spec_l1In.calls ((rd_T81 l0 x3_1).f2) 0 100000 true _ A11.o).mono ?_
    rintro e w' ⟨rfl, ⟨nd, rfl⟩⟩
    refine ⟨_, rfl, ?_⟩
    refine hK.out _ _ ⟨(bc BK245.o 0).trans rfl, (bc BK245.o 1).trans rfl, (bc BK245.o 2).trans rfl, (cB HB.o hw249_0 :), (cB HB.o hw249_1 :), (cB HB.o hw249_2 :)⟩ (fun hHeld => ?_)
    clear hK K
    refine norm_ (a' := ?_) ?_ ?_
    rotate_left
    ·show Act.put _ (some 29) _ = _
     simp only [Act.put, sA, sZ, sS, i64_w, i32_w]
     rfl
    refine pI 14 (some 30) b11A15 HT_ ?_
    refine pI 15 (some 31) b11A16 HT_ ?_
    refine pI 16 (some 32) b11A17 HT_ ?_
    refine pI 17 (some 33) b11A18 HT_ ?_
    refine pI 18 (some 34) b11A19 HT_ ?_
    refine pI 19 (some 35) b11A20 HT_ ?_
    refine pI 20 (some 36) b11A21 HT_ ?_
    refine pI 21 (some 37) b11A22 HT_ ?_
    refine pI 22 (some 38) b11A23 HT_ ?_
    refine pI 23 (some 39) b11A24 HT_ ?_
    refine pI 24 (some 40) b11A25 HT_ ?_
    refine pI 26 (some 42) b11A26 HT_ ?_
    refine tI 25 (some 41) b11A27 HT_ HW_ hHeld rfl rfl (Or.inl ⟨by rfl, by rintro w' ⟨s0, s1, s2, s3, s4, s5⟩; go_simp; with_reducible rfl⟩) ?_
    refine tI 27 (some 43) b11A28 HT_ HW_ hHeld rfl rfl (Or.inl ⟨by rfl, by rintro w' ⟨s0, s1, s2, s3, s4, s5⟩; go_simp; with_reducible rfl⟩) ?_
    refine pI 28 (some 44) b11A29 HT_ ?_
    refine pI 29 (some 45) b11A30 HT_ ?_
    refine pI 30 (some 46) b11A31 HT_ ?_
    refine done_ (done_of HT_.o (by kernel_rfl)) ?_
    try go_wp2
    go_meet
    case rel => exact ⟨_, (decide (((rd_T81 l0 (ji14)).f2) > ((rd_T81 l0 x3_1).f2))), (by first | rfl | (simp; done) | (simp only [← hji14] <;> (first | rfl | simp)) | (simp [*]; done)), H', ⟨by have := HK1.o; first | omega | exact Nat.le_refl _⟩, ⟨by exact qK BK245.o⟩, ⟨by exact qX HB.o⟩⟩
   case rest =>
    clear HC4
    try clear c1
    try clear p2
    try clear c8
    try clear c9
    try clear c10
    obtain ⟨kq, x46_3, rfl, HA, HJ3, BK245, HB⟩ := hcut
    cases kq with
    | zero => exact absurd HA.o (by simp [spec_AreLetters.j1])
    | succ kj3 =>
     have H := HA.o
     clear HA
     simp only [spec_AreLetters.j1] at H
     by_cases c27 : x46_3 = true
     ·subst c27
      have H1 : (some false) = some r := by rw [if_pos rfl] at H; exact H
      clear H
      have H := H1
      clear H1
      obtain rfl := Option.some.inj H
      go_wp2
      go_ret
      exact ⟨by first | rfl | (simp [errW_none, errW_some] <;> rfl) | (simp [*, errW_none, errW_some] <;> rfl), by exact qX HB.o⟩
     replace c27 := Bool.eq_false_iff.mpr c27
     subst c27
     have H1 : (spec_AreLetters.l1 kj3 l0 x3_1 0 ((rd_T81 l0 x3_1).f0) ((rd_T81 l0 x3_1).f1) ((rd_T81 l0 x3_1).f2)) = some r := by rw [if_neg (show ¬ (false = true) by decide)] at H; exact H
     clear H
     have H := H1
     clear H1
     have H' := zK H
     clear H
     go_wp2
     go_loopg [5] kj3 (fun kq v5 w' => ∃ (x5_3 : Int), v5 = .int .i64 x5_3 ∧ Aside0 (spec_AreLetters.l1 kq l0 x3_1 x5_3 ((rd_T81 l0 x3_1).f0) ((rd_T81 l0 x3_1).f1) ((rd_T81 l0 x3_1).f2) = some r) ∧ Aside0 (kq ≤ kj3) ∧ Aside0 (w'.heap[gb245]? = some (.cells #[.int .i64 ((rd_T81 l0 x3_1).f0), .int .i64 ((rd_T81 l0 x3_1).f1), .int .i64 ((rd_T81 l0 x3_1).f2)] 81 (0, 0))) ∧ Aside0 (Below w.heap.size w w'))
     case atStart => exact ⟨(0), M3, H', ⟨Nat.le_refl _⟩, ⟨by exact qK BK245.o⟩, ⟨by exact qX HB.o⟩⟩
     case round =>
      clear H'
      try clear c1
      try clear c2
      try clear p2
      try clear c8
      try clear c9
      try clear c10
      try clear c27
      try clear p2
      obtain ⟨x5_3, rfl, HA, HK3, BK245, HB⟩ := hrel
      cases gk with
      | zero => exact absurd HA.o (by simp [spec_AreLetters.l1])
      | succ k3 =>
       have H := HA.o
       clear HA
       simp only [spec_AreLetters.l1] at H
       by_cases c28 : x5_3 < x3_1
       rotate_left
       ·rw [if_neg c28] at H
        have c28b0 : decide (x5_3 < x3_1) = false := decide_eq_false c28
        clear c28
        have H' := zK H
        clear H
        go_wp2
        go_roundg k3
        case measure => have := HK1.o; have := HJ3.o; have := HK3.o; omega
        case rel => exact ⟨(wrap64 (x3_1 + 1)), M3, H', ⟨by have := HK1.o; have := HJ3.o; have := HK3.o; omega⟩, ⟨by exact qX HB.o⟩⟩
       rw [if_pos c28] at H
       have c28b0 : decide (x5_3 < x3_1) = true := decide_eq_true c28
       clear c28
       by_cases c29 : 0 ≤ x5_3
       rotate_left
       ·rw [if_neg c29] at H
        exact absurd H (by simp)
       rw [if_pos c29] at H
       have c29b0 : decide (0 ≤ x5_3) = true := decide_eq_true c29
       clear c29
       by_cases c30 : x5_3 < (l0.length : Int)
       rotate_left
       ·rw [if_neg c30] at H
        exact absurd H (by simp)
       rw [if_pos c30] at H
       have c30b0 : decide (x5_3 < (l0.length : Int)) = true := decide_eq_true c30
       clear c30
       by_cases c31 : ((rd_T81 l0 x5_3).f0) = ((rd_T81 l0 x3_1).f0)
       rotate_left
       ·rw [if_neg c31] at H
        have c31b0 : (((rd_T81 l0 x5_3).f0) == ((rd_T81 l0 x3_1).f0)) = false := beq_eq_false_iff_ne.mpr c31
        have c31b1 : (((rd_T81 l0 x5_3).f0) != ((rd_T81 l0 x3_1).f0)) = true := bne_iff_ne.mpr c31
        have H' := zK H
        clear H
        try go_wp2
        have n0_ := zK (kD BK245.o)
        have n1_ := zK (below_drew1 HB.o)
        clear BK245
        clear HB
        have BK245 := n0_
        have HB := n1_
        clear n0_ n1_
        have p250 : 0 ≤ (x5_3 : Int) := oD M1
        have q250 : x5_3 < (l0.length : Int) := oD M1
        obtain ⟨ad250, e250, hx250_0, hx250_1, hx250_2⟩ := at_T81 HR0.o x5_3 p250 q250
        have hw250_2 := hx250_2
        have hw250_1 := hx250_1
        have hw250_0 := hx250_0
        obtain rfl : ad244 = ad250 := (by injection e250)
        replace hx250_0 := cB HB.o hx250_0
        replace hx250_1 := cB HB.o hx250_1
        replace hx250_2 := cB HB.o hx250_2
        replace p250 := eq_true p250
        replace q250 := eq_true q250
        refine start_ (n := 29) (S := fun w' => w'.cell? ⟨gb245, 0, none⟩ = some (.int .i64 ((rd_T81 l0 x3_1).f0)) ∧ w'.cell? ⟨gb245, 1, none⟩ = some (.int .i64 ((rd_T81 l0 x3_1).f1)) ∧ w'.cell? ⟨gb245, 2, none⟩ = some (.int .i64 ((rd_T81 l0 x3_1).f2)) ∧ w'.cell? (ad244.add ((x5_3).toNat * 3)) = some (.int .i64 ((rd_T81 l0 x5_3).f0)) ∧ w'.cell? ⟨(ad244.add ((x5_3).toNat * 3)).block, (ad244.add ((x5_3).toNat * 3)).off + 1, none⟩ = some (.int .i64 ((rd_T81 l0 x5_3).f1)) ∧ w'.cell? ⟨(ad244.add ((x5_3).toNat * 3)).block, (ad244.add ((x5_3).toNat * 3)).off + 2, none⟩ = some (.int .i64 ((rd_T81 l0 x5_3).f2))) (ds := []) b11A33 (by kernel_rfl) rfl rfl ⟨(bc BK245.o 0).trans rfl, (bc BK245.o 1).trans rfl, (bc BK245.o 2).trans rfl, (cB HB.o hw250_0 :), (cB HB.o hw250_1 :), (cB HB.o hw250_2 :)⟩ (fun hHeld => ?_); refine with_tabW spec_AreLetters.tab10 spec_AreLetters.bits10 (fun HT_ HW_ => ?_)
        generalize wr.drew = w37 at BK245 HB hx250_0 hx250_1 hx250_2 hHeld ⊢
        refine pI 0 (some 52) b11A34 HT_ ?_
        refine pI 1 (some 53) b11A35 HT_ ?_
        refine pI 2 (some 54) b11A36 HT_ ?_
        refine pI 3 (some 55) b11A37 HT_ ?_
        refine pI 5 (some 57) b11A38 HT_ ?_
        refine tI 4 (some 56) b11A39 HT_ HW_ hHeld rfl rfl (Or.inl ⟨by rfl, by rintro w' ⟨s0, s1, s2, s3, s4, s5⟩; go_simp; with_reducible rfl⟩) ?_
        refine tI 6 (some 58) b11A40 HT_ HW_ hHeld rfl rfl (Or.inl ⟨by rfl, by rintro w' ⟨s0, s1, s2, s3, s4, s5⟩; go_simp; with_reducible rfl⟩) ?_
        refine pI 7 (some 59) b11A41 HT_ ?_
        refine pI 8 (some 60) b11A42 HT_ ?_
        refine pU 9 (some 61) b11A43 HT_ ?_
        refine pU 10 (some 62) b11A44 HT_ ?_
        refine pU 11 (some 63) b11A45 HT_ ?_
        refine pU 12 (some 64) b11A46 HT_ ?_
        refine pU 13 (some 65) b11A67 HT_ ?_
        refine pU 14 (some 66) b11A48 HT_ ?_
        refine pU 15 (some 67) b11A49 HT_ ?_
        refine pU 16 (some 68) b11A50 HT_ ?_
        refine pU 17 (some 69) b11A51 HT_ ?_
        refine pU 18 (some 70) b11A52 HT_ ?_
        refine pU 19 (some 71) b11A53 HT_ ?_
        refine pU 20 (some 72) b11A54 HT_ ?_
        refine pU 21 (some 73) b11A55 HT_ ?_
        refine pU 22 (some 74) b11A56 HT_ ?_
        refine pU 23 (some 75) b11A57 HT_ ?_
        refine pU 24 (some 76) b11A58 HT_ ?_
        refine pU 25 (some 77) b11A59 HT_ ?_
        refine pU 26 (some 78) b11A60 HT_ ?_
        refine pU 27 (some 79) b11A61 HT_ ?_
        refine pI 28 (some 80) b11A62 HT_ ?_
        refine done_ (done_of HT_.o (by kernel_rfl)) ?_
        try go_wp2
        go_roundg k3
        case measure => have := HK1.o; have := HJ3.o; have := HK3.o; omega
        case rel => exact ⟨(wrap64 (x5_3 + 1)), M3, H', ⟨by have := HK1.o; have := HJ3.o; have := HK3.o; omega⟩, ⟨by exact qK BK245.o⟩, ⟨by exact qX HB.o⟩⟩
       rw [if_pos c31] at H
       have c31b0 : (((rd_T81 l0 x5_3).f0) == ((rd_T81 l0 x3_1).f0)) = true := beq_iff_eq.mpr c31
       have c31b1 : (((rd_T81 l0 x5_3).f0) != ((rd_T81 l0 x3_1).f0)) = false := bne_eq_false_iff_eq.mpr c31
       clear c31
       by_cases c32 : ((rd_T81 l0 x5_3).f1) = ((rd_T81 l0 x3_1).f1)
       ·rw [if_pos c32] at H
        have c32b0 : (((rd_T81 l0 x5_3).f1) == ((rd_T81 l0 x3_1).f1)) = true := beq_iff_eq.mpr c32
        have c32b1 : (((rd_T81 l0 x5_3).f1) != ((rd_T81 l0 x3_1).f1)) = false := bne_eq_false_iff_eq.mpr c32
        clear c32
        obtain rfl := Option.some.inj H
        try go_wp2
        have n0_ := zK (kD BK245.o)
        have n1_ := zK (below_drew1 HB.o)
        clear BK245
        clear HB
        have BK245 := n0_
        have HB := n1_
        clear n0_ n1_
        have p250 : 0 ≤ (x5_3 : Int) := oD M1
        have q250 : x5_3 < (l0.length : Int) := oD M1
        obtain ⟨ad250, e250, hx250_0, hx250_1, hx250_2⟩ := at_T81 HR0.o x5_3 p250 q250
        have hw250_2 := hx250_2
        have hw250_1 := hx250_1
        have hw250_0 := hx250_0
        obtain rfl : ad244 = ad250 := (by injection e250)
        replace hx250_0 := cB HB.o hx250_0
        replace hx250_1 := cB HB.o hx250_1
        replace hx250_2 := cB HB.o hx250_2
        replace p250 := eq_true p250
        replace q250 := eq_true q250
        have p251 : 0 ≤ (x5_3 : Int) := oD M1
        have q251 : x5_3 < (l0.length : Int) := oD M1
        obtain ⟨ad251, e251, hx251_0, hx251_1, hx251_2⟩ := at_T81 HR0.o x5_3 p251 q251
        have hw251_2 := hx251_2
        have hw251_1 := hx251_1
        have hw251_0 := hx251_0
        obtain rfl : ad244 = ad251 := (by injection e251)
        replace hx251_0 := cB HB.o hx251_0
        replace hx251_1 := cB HB.o hx251_1
        replace hx251_2 := cB HB.o hx251_2
        replace p251 := eq_true p251
        replace q251 := eq_true q251
        refine start_ (n := 29) (S := fun w' => w'.cell? ⟨gb245, 0, none⟩ = some (.int .i64 ((rd_T81 l0 x3_1).f0)) ∧ w'.cell? ⟨gb245, 1, none⟩ = some (.int .i64 ((rd_T81 l0 x3_1).f1)) ∧ w'.cell? ⟨gb245, 2, none⟩ = some (.int .i64 ((rd_T81 l0 x3_1).f2)) ∧ w'.cell? (ad244.add ((x5_3).toNat * 3)) = some (.int .i64 ((rd_T81 l0 x5_3).f0)) ∧ w'.cell? ⟨(ad244.add ((x5_3).toNat * 3)).block, (ad244.add ((x5_3).toNat * 3)).off + 1, none⟩ = some (.int .i64 ((rd_T81 l0 x5_3).f1)) ∧ w'.cell? ⟨(ad244.add ((x5_3).toNat * 3)).block, (ad244.add ((x5_3).toNat * 3)).off + 2, none⟩ = some (.int .i64 ((rd_T81 l0 x5_3).f2)) ∧ w'.cell? (ad244.add ((x5_3).toNat * 3)) = some (.int .i64 ((rd_T81 l0 x5_3).f0)) ∧ w'.cell? ⟨(ad244.add ((x5_3).toNat * 3)).block, (ad244.add ((x5_3).toNat * 3)).off + 1, none⟩ = some (.int .i64 ((rd_T81 l0 x5_3).f1)) ∧ w'.cell? ⟨(ad244.add ((x5_3).toNat * 3)).block, (ad244.add ((x5_3).toNat * 3)).off + 2, none⟩ = some (.int .i64 ((rd_T81 l0 x5_3).f2))) (ds := []) b11A33 (by kernel_rfl) rfl rfl ⟨(bc BK245.o 0).trans rfl, (bc BK245.o 1).trans rfl, (bc BK245.o 2).trans rfl, (cB HB.o hw250_0 :), (cB HB.o hw250_1 :), (cB HB.o hw250_2 :), (cB HB.o hw251_0 :), (cB HB.o hw251_1 :), (cB HB.o hw251_2 :)⟩ (fun hHeld => ?_); refine with_tabW spec_AreLetters.tab10 spec_AreLetters.bits10 (fun HT_ HW_ => ?_)
        generalize wr.drew = w33 at BK245 HB hx250_0 hx250_1 hx250_2 hx251_0 hx251_1 hx251_2 hHeld ⊢
        refine pI 0 (some 52) b11A34 HT_ ?_
        refine pI 1 (some 53) b11A35 HT_ ?_
        refine pI 2 (some 54) b11A36 HT_ ?_
        refine pI 3 (some 55) b11A37 HT_ ?_
        refine pI 5 (some 57) b11A38 HT_ ?_
        refine tI 4 (some 56) b11A39 HT_ HW_ hHeld rfl rfl (Or.inl ⟨by rfl, by rintro w' ⟨s0, s1, s2, s3, s4, s5, s6, s7, s8⟩; go_simp; with_reducible rfl⟩) ?_
        refine tI 6 (some 58) b11A40 HT_ HW_ hHeld rfl rfl (Or.inl ⟨by rfl, by rintro w' ⟨s0, s1, s2, s3, s4, s5, s6, s7, s8⟩; go_simp; with_reducible rfl⟩) ?_
        refine pI 7 (some 59) b11A41 HT_ ?_
        refine pI 8 (some 60) b11A42 HT_ ?_
        refine pI 9 (some 61) b11A43 HT_ ?_
        refine pI 10 (some 62) b11A44 HT_ ?_
        refine pI 11 (some 63) b11A45 HT_ ?_
        refine pI 12 (some 64) b11A46 HT_ ?_
        refine pI 14 (some 66) b11A47 HT_ ?_
        refine tI 13 (some 65) b11A48 HT_ HW_ hHeld rfl rfl (Or.inl ⟨by rfl, by rintro w' ⟨s0, s1, s2, s3, s4, s5, s6, s7, s8⟩; go_simp; with_reducible rfl⟩) ?_
        refine tI 15 (some 67) b11A49 HT_ HW_ hHeld rfl rfl (Or.inl ⟨by rfl, by rintro w' ⟨s0, s1, s2, s3, s4, s5, s6, s7, s8⟩; go_simp; with_reducible rfl⟩) ?_
        refine pI 16 (some 68) b11A50 HT_ ?_
        refine pI 17 (some 69) b11A51 HT_ ?_
        refine pU 18 (some 70) b11A52 HT_ ?_
        refine pU 19 (some 71) b11A53 HT_ ?_
        refine pU 20 (some 72) b11A54 HT_ ?_
        refine pU 21 (some 73) b11A55 HT_ ?_
        refine pU 22 (some 74) b11A56 HT_ ?_
        refine pU 23 (some 75) b11A57 HT_ ?_
        refine pU 24 (some 76) b11A58 HT_ ?_
        refine pU 25 (some 77) b11A59 HT_ ?_
        refine pU 26 (some 78) b11A60 HT_ ?_
        refine pI 27 (some 79) b11A61 HT_ ?_
        refine pI 28 (some 80) b11A62 HT_ ?_
        refine done_ (done_of HT_.o (by kernel_rfl)) ?_
        try go_wp2
        go_ret
        exact ⟨by first | rfl | (simp [errW_none, errW_some] <;> rfl) | (simp [*, errW_none, errW_some] <;> rfl), by exact qX HB.o⟩
       rw [if_neg c32] at H
       have c32b0 : (((rd_T81 l0 x5_3).f1) == ((rd_T81 l0 x3_1).f1)) = false := beq_eq_false_iff_ne.mpr c32
       have c32b1 : (((rd_T81 l0 x5_3).f1) != ((rd_T81 l0 x3_1).f1)) = true := bne_iff_ne.mpr c32
       by_cases c34 : (wrap64 (((rd_T81 l0 x3_1).f2) - ((rd_T81 l0 x5_3).f2))) < 168
       ·rw [if_pos c34] at H
        have c34b0 : decide ((wrap64 (((rd_T81 l0 x3_1).f2) - ((rd_T81 l0 x5_3).f2))) < 168) = true := decide_eq_true c34
        clear c34
        obtain rfl := Option.some.inj H
        try go_wp2
        have n0_ := zK (kD BK245.o)
        have n1_ := zK (below_drew1 HB.o)
        clear BK245
        clear HB
        have BK245 := n0_
        have HB := n1_
        clear n0_ n1_
        have p250 : 0 ≤ (x5_3 : Int) := oD M1
        have q250 : x5_3 < (l0.length : Int) := oD M1
        obtain ⟨ad250, e250, hx250_0, hx250_1, hx250_2⟩ := at_T81 HR0.o x5_3 p250 q250
        have hw250_2 := hx250_2
        have hw250_1 := hx250_1
        have hw250_0 := hx250_0
        obtain rfl : ad244 = ad250 := (by injection e250)
        replace hx250_0 := cB HB.o hx250_0
        replace hx250_1 := cB HB.o hx250_1
        replace hx250_2 := cB HB.o hx250_2
        replace p250 := eq_true p250
        replace q250 := eq_true q250
        have p251 : 0 ≤ (x5_3 : Int) := oD M1
        have q251 : x5_3 < (l0.length : Int) := oD M1
        obtain ⟨ad251, e251, hx251_0, hx251_1, hx251_2⟩ := at_T81 HR0.o x5_3 p251 q251
        have hw251_2 := hx251_2
        have hw251_1 := hx251_1
        have hw251_0 := hx251_0
        obtain rfl : ad244 = ad251 := (by injection e251)
        replace hx251_0 := cB HB.o hx251_0
        replace hx251_1 := cB HB.o hx251_1
        replace hx251_2 := cB HB.o hx251_2
        replace p251 := eq_true p251
        replace q251 := eq_true q251
        have p252 : 0 ≤ (x5_3 : Int) := oD M1
        have q252 : x5_3 < (l0.length : Int) := oD M1
        obtain ⟨ad252, e252, hx252_0, hx252_1, hx252_2⟩ := at_T81 HR0.o x5_3 p252 q252
        have hw252_2 := hx252_2
        have hw252_1 := hx252_1
        have hw252_0 := hx252_0
        obtain rfl : ad244 = ad252 := (by injection e252)
        replace hx252_0 := cB HB.o hx252_0
        replace hx252_1 := cB HB.o hx252_1
        replace hx252_2 := cB HB.o hx252_2
        replace p252 := eq_true p252
        replace q252 := eq_true q252
        refine start_ (n := 29) (S := fun w' => w'.cell? ⟨gb245, 0, none⟩ = some (.int .i64 ((rd_T81 l0 x3_1).f0)) ∧ w'.cell? ⟨gb245, 1, none⟩ = some (.int .i64 ((rd_T81 l0 x3_1).f1)) ∧ w'.cell? ⟨gb245, 2, none⟩ = some (.int .i64 ((rd_T81 l0 x3_1).f2)) ∧ w'.cell? (ad244.add ((x5_3).toNat * 3)) = some (.int .i64 ((rd_T81 l0 x5_3).f0)) ∧ w'.cell? ⟨(ad244.add ((x5_3).toNat * 3)).block, (ad244.add ((x5_3).toNat * 3)).off + 1, none⟩ = some (.int .i64 ((rd_T81 l0 x5_3).f1)) ∧ w'.cell? ⟨(ad244.add ((x5_3).toNat * 3)).block, (ad244.add ((x5_3).toNat * 3)).off + 2, none⟩ = some (.int .i64 ((rd_T81 l0 x5_3).f2)) ∧ w'.cell? (ad244.add ((x5_3).toNat * 3)) = some (.int .i64 ((rd_T81 l0 x5_3).f0)) ∧ w'.cell? ⟨(ad244.add ((x5_3).toNat * 3)).block, (ad244.add ((x5_3).toNat * 3)).off + 1, none⟩ = some (.int .i64 ((rd_T81 l0 x5_3).f1)) ∧ w'.cell? ⟨(ad244.add ((x5_3).toNat * 3)).block, (ad244.add ((x5_3).toNat * 3)).off + 2, none⟩ = some (.int .i64 ((rd_T81 l0 x5_3).f2)) ∧ w'.cell? (ad244.add ((x5_3).toNat * 3)) = some (.int .i64 ((rd_T81 l0 x5_3).f0)) ∧ w'.cell? ⟨(ad244.add ((x5_3).toNat * 3)).block, (ad244.add ((x5_3).toNat * 3)).off + 1, none⟩ = some (.int .i64 ((rd_T81 l0 x5_3).f1)) ∧ w'.cell? ⟨(ad244.add ((x5_3).toNat * 3)).block, (ad244.add ((x5_3).toNat * 3)).off + 2, none⟩ = some (.int .i64 ((rd_T81 l0 x5_3).f2))) (ds := []) b11A33 (by kernel_rfl) rfl rfl ⟨(bc BK245.o 0).trans rfl, (bc BK245.o 1).trans rfl, (bc BK245.o 2).trans rfl, (cB HB.o hw250_0 :), (cB HB.o hw250_1 :), (cB HB.o hw250_2 :), (cB HB.o hw251_0 :), (cB HB.o hw251_1 :), (cB HB.o hw251_2 :), (cB HB.o hw252_0 :), (cB HB.o hw252_1 :), (cB HB.o hw252_2 :)⟩ (fun hHeld => ?_); refine with_tabW spec_AreLetters.tab10 spec_AreLetters.bits10 (fun HT_ HW_ => ?_)
        generalize wr.drew = w35 at BK245 HB hx250_0 hx250_1 hx250_2 hx251_0 hx251_1 hx251_2 hx252_0 hx252_1 hx252_2 hHeld ⊢
        refine pI 0 (some 52) b11A34 HT_ ?_
        refine pI 1 (some 53) b11A35 HT_ ?_
        refine pI 2 (some 54) b11A36 HT_ ?_
        refine pI 3 (some 55) b11A37 HT_ ?_
        refine pI 5 (some 57) b11A38 HT_ ?_
        refine tI 4 (some 56) b11A39 HT_ HW_ hHeld rfl rfl (Or.inl ⟨by rfl, by rintro w' ⟨s0, s1, s2, s3, s4, s5, s6, s7, s8, s9, s10, s11⟩; go_simp; with_reducible rfl⟩) ?_
        refine tI 6 (some 58) b11A40 HT_ HW_ hHeld rfl rfl (Or.inl ⟨by rfl, by rintro w' ⟨s0, s1, s2, s3, s4, s5, s6, s7, s8, s9, s10, s11⟩; go_simp; with_reducible rfl⟩) ?_
        refine pI 7 (some 59) b11A41 HT_ ?_
        refine pI 8 (some 60) b11A42 HT_ ?_
        refine pI 9 (some 61) b11A43 HT_ ?_
        refine pI 10 (some 62) b11A44 HT_ ?_
        refine pI 11 (some 63) b11A45 HT_ ?_
        refine pI 12 (some 64) b11A46 HT_ ?_
        refine pI 14 (some 66) b11A47 HT_ ?_
        refine tI 13 (some 65) b11A48 HT_ HW_ hHeld rfl rfl (Or.inl ⟨by rfl, by rintro w' ⟨s0, s1, s2, s3, s4, s5, s6, s7, s8, s9, s10, s11⟩; go_simp; with_reducible rfl⟩) ?_
        refine tI 15 (some 67) b11A49 HT_ HW_ hHeld rfl rfl (Or.inl ⟨by rfl, by rintro w' ⟨s0, s1, s2, s3, s4, s5, s6, s7, s8, s9, s10, s11⟩; go_simp; with_reducible rfl⟩) ?_
        refine pI 16 (some 68) b11A50 HT_ ?_
        refine pI 17 (some 69) b11A51 HT_ ?_
        refine pI 18 (some 70) b11A52 HT_ ?_
        refine pI 20 (some 72) b11A63 HT_ ?_
        refine pI 21 (some 73) b11A64 HT_ ?_
        refine pI 22 (some 74) b11A65 HT_ ?_
        refine pI 23 (some 75) b11A66 HT_ ?_
        refine tI 19 (some 71) b11A57 HT_ HW_ hHeld rfl rfl (Or.inl ⟨by rfl, by rintro w' ⟨s0, s1, s2, s3, s4, s5, s6, s7, s8, s9, s10, s11⟩; go_simp; with_reducible rfl⟩) ?_
        refine tI 24 (some 76) b11A58 HT_ HW_ hHeld rfl rfl (Or.inl ⟨by rfl, by rintro w' ⟨s0, s1, s2, s3, s4, s5, s6, s7, s8, s9, s10, s11⟩; go_simp; with_reducible rfl⟩) ?_
        refine pI 25 (some 77) b11A59 HT_ ?_
        refine pI 26 (some 78) b11A60 HT_ ?_
        refine pI 27 (some 79) b11A61 HT_ ?_
        refine pI 28 (some 80) b11A62 HT_ ?_
        refine done_ (done_of HT_.o (by kernel_rfl)) ?_
        try go_wp2
        go_ret
        exact ⟨by first | rfl | (simp [errW_none, errW_some] <;> rfl) | (simp [*, errW_none, errW_some] <;> rfl), by exact qX HB.o⟩
       rw [if_neg c34] at H
       have c34b0 : decide ((wrap64 (((rd_T81 l0 x3_1).f2) - ((rd_T81 l0 x5_3).f2))) < 168) = false := decide_eq_false c34
       clear c34
       have H' := zK H
       clear H
       try go_wp2
       have n0_ := zK (kD BK245.o)
       have n1_ := zK (below_drew1 HB.o)
       clear BK245
       clear HB
       have BK245 := n0_
       have HB := n1_
       clear n0_ n1_
       have p250 : 0 ≤ (x5_3 : Int) := oD M1
       have q250 : x5_3 < (l0.length : Int) := oD M1
       obtain ⟨ad250, e250, hx250_0, hx250_1, hx250_2⟩ := at_T81 HR0.o x5_3 p250 q250
       have hw250_2 := hx250_2
       have hw250_1 := hx250_1
       have hw250_0 := hx250_0
       obtain rfl : ad244 = ad250 := (by injection e250)
       replace hx250_0 := cB HB.o hx250_0
       replace hx250_1 := cB HB.o hx250_1
       replace hx250_2 := cB HB.o hx250_2
       replace p250 := eq_true p250
       replace q250 := eq_true q250
       have p251 : 0 ≤ (x5_3 : Int) := oD M1
       have q251 : x5_3 < (l0.length : Int) := oD M1
       obtain ⟨ad251, e251, hx251_0, hx251_1, hx251_2⟩ := at_T81 HR0.o x5_3 p251 q251
       have hw251_2 := hx251_2
       have hw251_1 := hx251_1
       have hw251_0 := hx251_0
       obtain rfl : ad244 = ad251 := (by injection e251)
       replace hx251_0 := cB HB.o hx251_0
       replace hx251_1 := cB HB.o hx251_1
       replace hx251_2 := cB HB.o hx251_2
       replace p251 := eq_true p251
       replace q251 := eq_true q251
       have p252 : 0 ≤ (x5_3 : Int) := oD M1
       have q252 : x5_3 < (l0.length : Int) := oD M1
       obtain ⟨ad252, e252, hx252_0, hx252_1, hx252_2⟩ := at_T81 HR0.o x5_3 p252 q252
       have hw252_2 := hx252_2
       have hw252_1 := hx252_1
       have hw252_0 := hx252_0
       obtain rfl : ad244 = ad252 := (by injection e252)
       replace hx252_0 := cB HB.o hx252_0
       replace hx252_1 := cB HB.o hx252_1
       replace hx252_2 := cB HB.o hx252_2
       replace p252 := eq_true p252
       replace q252 := eq_true q252
       refine start_ (n := 29) (S := fun w' => w'.cell? ⟨gb245, 0, none⟩ = some (.int .i64 ((rd_T81 l0 x3_1).f0)) ∧ w'.cell? ⟨gb245, 1, none⟩ = some (.int .i64 ((rd_T81 l0 x3_1).f1)) ∧ w'.cell? ⟨gb245, 2, none⟩ = some (.int .i64 ((rd_T81 l0 x3_1).f2)) ∧ w'.cell? (ad244.add ((x5_3).toNat * 3)) = some (.int .i64 ((rd_T81 l0 x5_3).f0)) ∧ w'.cell? ⟨(ad244.add ((x5_3).toNat * 3)).block, (ad244.add ((x5_3).toNat * 3)).off + 1, none⟩ = some (.int .i64 ((rd_T81 l0 x5_3).f1)) ∧ w'.cell? ⟨(ad244.add ((x5_3).toNat * 3)).block, (ad244.add ((x5_3).toNat * 3)).off + 2, none⟩ = some (.int .i64 ((rd_T81 l0 x5_3).f2)) ∧ w'.cell? (ad244.add ((x5_3).toNat * 3)) = some (.int .i64 ((rd_T81 l0 x5_3).f0)) ∧ w'.cell? ⟨(ad244.add ((x5_3).toNat * 3)).block, (ad244.add ((x5_3).toNat * 3)).off + 1, none⟩ = some (.int .i64 ((rd_T81 l0 x5_3).f1)) ∧ w'.cell? ⟨(ad244.add ((x5_3).toNat * 3)).block, (ad244.add ((x5_3).toNat * 3)).off + 2, none⟩ = some (.int .i64 ((rd_T81 l0 x5_3).f2)) ∧ w'.cell? (ad244.add ((x5_3).toNat * 3)) = some (.int .i64 ((rd_T81 l0 x5_3).f0)) ∧ w'.cell? ⟨(ad244.add ((x5_3).toNat * 3)).block, (ad244.add ((x5_3).toNat * 3)).off + 1, none⟩ = some (.int .i64 ((rd_T81 l0 x5_3).f1)) ∧ w'.cell? ⟨(ad244.add ((x5_3).toNat * 3)).block, (ad244.add ((x5_3).toNat * 3)).off + 2, none⟩ = some (.int .i64 ((rd_T81 l0 x5_3).f2))) (ds := []) b11A33 (by kernel_rfl) rfl rfl ⟨(bc BK245.o 0).trans rfl, (bc BK245.o 1).trans rfl, (bc BK245.o 2).trans rfl, (cB HB.o hw250_0 :), (cB HB.o hw250_1 :), (cB HB.o hw250_2 :), (cB HB.o hw251_0 :), (cB HB.o hw251_1 :), (cB HB.o hw251_2 :), (cB HB.o hw252_0 :), (cB HB.o hw252_1 :), (cB HB.o hw252_2 :)⟩ (fun hHeld => ?_); refine with_tabW spec_AreLetters.tab10 spec_AreLetters.bits10 (fun HT_ HW_ => ?_)
       generalize wr.drew = w36 at BK245 HB hx250_0 hx250_1 hx250_2 hx251_0 hx251_1 hx251_2 hx252_0 hx252_1 hx252_2 hHeld ⊢
       refine pI 0 (some 52) b11A34 HT_ ?_
       refine pI 1 (some 53) b11A35 HT_ ?_
       refine pI 2 (some 54) b11A36 HT_ ?_
       refine pI 3 (some 55) b11A37 HT_ ?_
       refine pI 5 (some 57) b11A38 HT_ ?_
       refine tI 4 (some 56) b11A39 HT_ HW_ hHeld rfl rfl (Or.inl ⟨by rfl, by rintro w' ⟨s0, s1, s2, s3, s4, s5, s6, s7, s8, s9, s10, s11⟩; go_simp; with_reducible rfl⟩) ?_
       refine tI 6 (some 58) b11A40 HT_ HW_ hHeld rfl rfl (Or.inl ⟨by rfl, by rintro w' ⟨s0, s1, s2, s3, s4, s5, s6, s7, s8, s9, s10, s11⟩; go_simp; with_reducible rfl⟩) ?_
       refine pI 7 (some 59) b11A41 HT_ ?_
       refine pI 8 (some 60) b11A42 HT_ ?_
       refine pI 9 (some 61) b11A43 HT_ ?_
       refine pI 10 (some 62) b11A44 HT_ ?_
       refine pI 11 (some 63) b11A45 HT_ ?_
       refine pI 12 (some 64) b11A46 HT_ ?_
       refine pI 14 (some 66) b11A47 HT_ ?_
       refine tI 13 (some 65) b11A48 HT_ HW_ hHeld rfl rfl (Or.inl ⟨by rfl, by rintro w' ⟨s0, s1, s2, s3, s4, s5, s6, s7, s8, s9, s10, s11⟩; go_simp; with_reducible rfl⟩) ?_
       refine tI 15 (some 67) b11A49 HT_ HW_ hHeld rfl rfl (Or.inl ⟨by rfl, by rintro w' ⟨s0, s1, s2, s3, s4, s5, s6, s7, s8, s9, s10, s11⟩; go_simp; with_reducible rfl⟩) ?_
       refine pI 16 (some 68) b11A50 HT_ ?_
       refine pI 17 (some 69) b11A51 HT_ ?_
       refine pI 18 (some 70) b11A52 HT_ ?_
       refine pI 20 (some 72) b11A63 HT_ ?_
       refine pI 21 (some 73) b11A64 HT_ ?_
       refine pI 22 (some 74) b11A65 HT_ ?_
       refine pI 23 (some 75) b11A66 HT_ ?_
       refine tI 19 (some 71) b11A57 HT_ HW_ hHeld rfl rfl (Or.inl ⟨by rfl, by rintro w' ⟨s0, s1, s2, s3, s4, s5, s6, s7, s8, s9, s10, s11⟩; go_simp; with_reducible rfl⟩) ?_
       refine tI 24 (some 76) b11A58 HT_ HW_ hHeld rfl rfl (Or.inl ⟨by rfl, by rintro w' ⟨s0, s1, s2, s3, s4, s5, s6, s7, s8, s9, s10, s11⟩; go_simp; with_reducible rfl⟩) ?_
       refine pI 25 (some 77) b11A59 HT_ ?_
       refine pI 26 (some 78) b11A60 HT_ ?_
       refine pI 27 (some 79) b11A61 HT_ ?_
       refine pI 28 (some 80) b11A62 HT_ ?_
       refine done_ (done_of HT_.o (by kernel_rfl)) ?_
       try go_wp2
       go_roundg k3
       case measure => have := HK1.o; have := HJ3.o; have := HK3.o; omega
       case rel => exact ⟨(wrap64 (x5_3 + 1)), M3, H', ⟨by have := HK1.o; have := HJ3.o; have := HK3.o; omega⟩, ⟨by exact qK BK245.o⟩, ⟨by exact qX HB.o⟩⟩
end Go.Proofs.Ytpkdbkheggfkkaa.PFnExactLettersFor
