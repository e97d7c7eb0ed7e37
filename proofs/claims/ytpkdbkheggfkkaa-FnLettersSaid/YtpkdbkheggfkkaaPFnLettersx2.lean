/- Walks of functions that FnLetters reaches, shortened. -/
import Derived.Test.YtpkdbkheggfkkaaPFnLettersx0
import Derived.Test.YtpkdbkheggfkkaaPFnLettersx1
namespace Go.Proofs.Ytpkdbkheggfkkaa.PFnLetters
open Go.RowKit Go.Proofs.YtpkdbkheggfkkaaW.PrintWords Go.Proofs.YtpkdbkheggfkkaaW.PrintLast Go.Proofs.YtpkdbkheggfkkaaW.PrintMore
attribute [local go_sem] max2_int min2_int max_two min_two max_three min_three max_four min_four
set_option linter.unusedVariables false
set_option linter.unusedSimpArgs false

abbrev b2A0 : Array Bool := #[O, O, O, O, O, O, O, O, O, O, O, O, O, O, O, O, O, O, O, O, O, O, O, O, O, O, O, O, O, O, O]
abbrev b2A1 : Array Bool := #[I, O, O, O, O, O, O, O, O, O, O, O, O, O, O, O, O, O, O, O, O, O, O, O, O, O, O, O, O, O, O]
abbrev b2A2 : Array Bool := #[I, I, O, O, O, O, O, O, O, O, O, O, O, O, O, O, O, O, O, O, O, O, O, O, O, O, O, O, O, O, O]
abbrev b2A3 : Array Bool := #[I, I, I, O, O, O, O, O, O, O, O, O, O, O, O, O, O, O, O, O, O, O, O, O, O, O, O, O, O, O, O]
abbrev b2A4 : Array Bool := #[I, I, I, I, O, O, O, O, O, O, O, O, O, O, O, O, O, O, O, O, O, O, O, O, O, O, O, O, O, O, O]
abbrev b2A5 : Array Bool := #[I, I, I, I, I, O, O, O, O, O, O, O, O, O, O, O, O, O, O, O, O, O, O, O, O, O, O, O, O, O, O]
abbrev b2A6 : Array Bool := #[I, I, I, I, I, I, O, O, O, O, O, O, O, O, O, O, O, O, O, O, O, O, O, O, O, O, O, O, O, O, O]
abbrev b2A7 : Array Bool := #[I, I, I, I, I, I, I, O, O, O, O, O, O, O, O, O, O, O, O, O, O, O, O, O, O, O, O, O, O, O, O]
abbrev b2A8 : Array Bool := #[I, I, I, I, I, I, I, I, O, O, O, O, O, O, O, O, O, O, O, O, O, O, O, O, O, O, O, O, O, O, O]
abbrev b2A9 : Array Bool := #[I, I, I, I, I, I, I, I, I, O, O, O, O, O, O, O, O, O, O, O, O, O, O, O, O, O, O, O, O, O, O]
abbrev b2A10 : Array Bool := #[I, I, I, I, I, I, I, I, I, I, O, O, O, O, O, O, O, O, O, O, O, O, O, O, O, O, O, O, O, O, O]
abbrev b2A11 : Array Bool := #[I, I, I, I, I, I, I, I, I, I, I, O, O, O, O, O, O, O, O, O, O, O, O, O, O, O, O, O, O, O, O]
abbrev b2A12 : Array Bool := #[I, I, I, I, I, I, I, I, I, I, I, I, O, O, O, O, O, O, O, O, O, O, O, O, O, O, O, O, O, O, O]
abbrev b2A13 : Array Bool := #[I, I, I, I, I, I, I, I, I, I, I, I, I, O, O, O, O, O, O, O, O, O, O, O, O, O, O, O, O, O, O]
abbrev b2A14 : Array Bool := #[I, I, I, I, I, I, I, I, I, I, I, I, I, I, O, O, O, O, O, O, O, O, O, O, O, O, O, O, O, O, O]
abbrev b2A15 : Array Bool := #[I, I, I, I, I, I, I, I, I, I, I, I, I, I, I, O, O, O, O, O, O, O, O, O, O, O, O, O, O, O, O]
abbrev b2A16 : Array Bool := #[I, I, I, I, I, I, I, I, I, I, I, I, I, I, I, I, O, O, O, O, O, O, O, O, O, O, O, O, O, O, O]
abbrev b2A17 : Array Bool := #[I, I, I, I, I, I, I, I, I, I, I, I, I, I, I, I, I, O, O, O, O, O, O, O, O, O, O, O, O, O, O]
abbrev b2A18 : Array Bool := #[I, I, I, I, I, I, I, I, I, I, I, I, I, I, I, I, I, I, O, O, O, O, O, O, O, O, O, O, O, O, O]
abbrev b2A19 : Array Bool := #[I, I, I, I, I, I, I, I, I, I, I, I, I, I, I, I, I, I, I, O, O, O, O, O, O, O, O, O, O, O, O]
abbrev b2A20 : Array Bool := #[I, I, I, I, I, I, I, I, I, I, I, I, I, I, I, I, I, I, I, I, O, O, O, O, O, O, O, O, O, O, O]
abbrev b2A21 : Array Bool := #[I, I, I, I, I, I, I, I, I, I, I, I, I, I, I, I, I, I, I, I, I, O, O, O, O, O, O, O, O, O, O]
abbrev b2A22 : Array Bool := #[I, I, I, I, I, I, I, I, I, I, I, I, I, I, I, I, I, I, I, I, I, I, O, O, O, O, O, O, O, O, O]
abbrev b2A23 : Array Bool := #[I, I, I, I, I, I, I, I, I, I, I, I, I, I, I, I, I, I, I, I, I, I, I, O, O, O, O, O, O, O, O]
abbrev b2A24 : Array Bool := #[I, I, I, I, I, I, I, I, I, I, I, I, I, I, I, I, I, I, I, I, I, I, I, I, O, O, O, O, O, O, O]
abbrev b2A25 : Array Bool := #[I, I, I, I, I, I, I, I, I, I, I, I, I, I, I, I, I, I, I, I, I, I, I, I, I, O, O, O, O, O, O]
abbrev b2A26 : Array Bool := #[I, I, I, I, I, I, I, I, I, I, I, I, I, I, I, I, I, I, I, I, I, I, I, I, I, O, I, O, O, O, O]
abbrev b2A27 : Array Bool := #[I, I, I, I, I, I, I, I, I, I, I, I, I, I, I, I, I, I, I, I, I, I, I, I, I, I, I, O, O, O, O]
abbrev b2A28 : Array Bool := #[I, I, I, I, I, I, I, I, I, I, I, I, I, I, I, I, I, I, I, I, I, I, I, I, I, I, I, I, O, O, O]
abbrev b2A29 : Array Bool := #[I, I, I, I, I, I, I, I, I, I, I, I, I, I, I, I, I, I, I, I, I, I, I, I, I, I, I, I, I, O, O]
abbrev b2A30 : Array Bool := #[I, I, I, I, I, I, I, I, I, I, I, I, I, I, I, I, I, I, I, I, I, I, I, I, I, I, I, I, I, I, O]
abbrev b2A31 : Array Bool := #[I, I, I, I, I, I, I, I, I, I, I, I, I, I, I, I, I, I, I, I, I, I, I, I, I, I, I, I, I, I, I]
abbrev b2A32 : Array Bool := #[I, I, I, I, I, I, I, I, I, I, I, I, I, I, I, I, I, I, I, I, I, I, I, I, I, I, O, O, O, O, O]
abbrev b2A33 : Array Bool := #[O, O, O, O, O, O, O, O, O, O, O, O, O, O, O, O, O, O, O, O, O, O, O, O, O, O, O, O, O]
abbrev b2A34 : Array Bool := #[I, O, O, O, O, O, O, O, O, O, O, O, O, O, O, O, O, O, O, O, O, O, O, O, O, O, O, O, O]
abbrev b2A35 : Array Bool := #[I, I, O, O, O, O, O, O, O, O, O, O, O, O, O, O, O, O, O, O, O, O, O, O, O, O, O, O, O]
abbrev b2A36 : Array Bool := #[I, I, I, O, O, O, O, O, O, O, O, O, O, O, O, O, O, O, O, O, O, O, O, O, O, O, O, O, O]
abbrev b2A37 : Array Bool := #[I, I, I, I, O, O, O, O, O, O, O, O, O, O, O, O, O, O, O, O, O, O, O, O, O, O, O, O, O]
abbrev b2A38 : Array Bool := #[I, I, I, I, O, I, O, O, O, O, O, O, O, O, O, O, O, O, O, O, O, O, O, O, O, O, O, O, O]
abbrev b2A39 : Array Bool := #[I, I, I, I, I, I, O, O, O, O, O, O, O, O, O, O, O, O, O, O, O, O, O, O, O, O, O, O, O]
abbrev b2A40 : Array Bool := #[I, I, I, I, I, I, I, O, O, O, O, O, O, O, O, O, O, O, O, O, O, O, O, O, O, O, O, O, O]
abbrev b2A41 : Array Bool := #[I, I, I, I, I, I, I, I, O, O, O, O, O, O, O, O, O, O, O, O, O, O, O, O, O, O, O, O, O]
abbrev b2A42 : Array Bool := #[I, I, I, I, I, I, I, I, I, O, O, O, O, O, O, O, O, O, O, O, O, O, O, O, O, O, O, O, O]
abbrev b2A43 : Array Bool := #[I, I, I, I, I, I, I, I, I, I, O, O, O, O, O, O, O, O, O, O, O, O, O, O, O, O, O, O, O]
abbrev b2A44 : Array Bool := #[I, I, I, I, I, I, I, I, I, I, I, O, O, O, O, O, O, O, O, O, O, O, O, O, O, O, O, O, O]
abbrev b2A45 : Array Bool := #[I, I, I, I, I, I, I, I, I, I, I, I, O, O, O, O, O, O, O, O, O, O, O, O, O, O, O, O, O]
abbrev b2A46 : Array Bool := #[I, I, I, I, I, I, I, I, I, I, I, I, I, O, O, O, O, O, O, O, O, O, O, O, O, O, O, O, O]
abbrev b2A47 : Array Bool := #[I, I, I, I, I, I, I, I, I, I, I, I, I, O, I, O, O, O, O, O, O, O, O, O, O, O, O, O, O]
abbrev b2A48 : Array Bool := #[I, I, I, I, I, I, I, I, I, I, I, I, I, I, I, O, O, O, O, O, O, O, O, O, O, O, O, O, O]
abbrev b2A49 : Array Bool := #[I, I, I, I, I, I, I, I, I, I, I, I, I, I, I, I, O, O, O, O, O, O, O, O, O, O, O, O, O]
abbrev b2A50 : Array Bool := #[I, I, I, I, I, I, I, I, I, I, I, I, I, I, I, I, I, O, O, O, O, O, O, O, O, O, O, O, O]
abbrev b2A51 : Array Bool := #[I, I, I, I, I, I, I, I, I, I, I, I, I, I, I, I, I, I, O, O, O, O, O, O, O, O, O, O, O]
abbrev b2A52 : Array Bool := #[I, I, I, I, I, I, I, I, I, I, I, I, I, I, I, I, I, I, I, O, O, O, O, O, O, O, O, O, O]
abbrev b2A53 : Array Bool := #[I, I, I, I, I, I, I, I, I, I, I, I, I, I, I, I, I, I, I, I, O, O, O, O, O, O, O, O, O]
abbrev b2A54 : Array Bool := #[I, I, I, I, I, I, I, I, I, I, I, I, I, I, I, I, I, I, I, I, I, O, O, O, O, O, O, O, O]
abbrev b2A55 : Array Bool := #[I, I, I, I, I, I, I, I, I, I, I, I, I, I, I, I, I, I, I, I, I, I, O, O, O, O, O, O, O]
abbrev b2A56 : Array Bool := #[I, I, I, I, I, I, I, I, I, I, I, I, I, I, I, I, I, I, I, I, I, I, I, O, O, O, O, O, O]
abbrev b2A57 : Array Bool := #[I, I, I, I, I, I, I, I, I, I, I, I, I, I, I, I, I, I, I, I, I, I, I, I, O, O, O, O, O]
abbrev b2A58 : Array Bool := #[I, I, I, I, I, I, I, I, I, I, I, I, I, I, I, I, I, I, I, I, I, I, I, I, I, O, O, O, O]
abbrev b2A59 : Array Bool := #[I, I, I, I, I, I, I, I, I, I, I, I, I, I, I, I, I, I, I, I, I, I, I, I, I, I, O, O, O]
abbrev b2A60 : Array Bool := #[I, I, I, I, I, I, I, I, I, I, I, I, I, I, I, I, I, I, I, I, I, I, I, I, I, I, I, O, O]
abbrev b2A61 : Array Bool := #[I, I, I, I, I, I, I, I, I, I, I, I, I, I, I, I, I, I, I, I, I, I, I, I, I, I, I, I, O]
abbrev b2A62 : Array Bool := #[I, I, I, I, I, I, I, I, I, I, I, I, I, I, I, I, I, I, I, I, I, I, I, I, I, I, I, I, I]
abbrev b2A63 : Array Bool := #[I, I, I, I, I, I, I, I, I, I, I, I, I, I, I, I, I, I, I, O, I, O, O, O, O, O, O, O, O]
abbrev b2A64 : Array Bool := #[I, I, I, I, I, I, I, I, I, I, I, I, I, I, I, I, I, I, I, O, I, I, O, O, O, O, O, O, O]
abbrev b2A65 : Array Bool := #[I, I, I, I, I, I, I, I, I, I, I, I, I, I, I, I, I, I, I, O, I, I, I, O, O, O, O, O, O]
abbrev b2A66 : Array Bool := #[I, I, I, I, I, I, I, I, I, I, I, I, I, I, I, I, I, I, I, O, I, I, I, I, O, O, O, O, O]
abbrev b2A67 : Array Bool := #[I, I, I, I, I, I, I, I, I, I, I, I, I, I, O, O, O, O, O, O, O, O, O, O, O, O, O, O, O]
/-! ### spec_AreLetters: function 129 -/
mutual
def spec_AreLetters.l0 : Nat → List (S81) → Int → Option (Bool)
 | 0, _, _ => none
 | k + 1, x0, x3 => if x3 < (x0.length : Int) then (if 0 ≤ x3 then ((spec_l1In.f ((rd_T81 x0 x3).f0) 1 999).bind fun t123 => (if t123 = true then ((spec_l1In.f ((rd_T81 x0 x3).f1) 1 999).bind fun t124 => (if t124 = true then ((spec_l1In.f ((rd_T81 x0 x3).f2) 0 100000).bind fun t125 => (if t125 = true then (if x3 > 0 then (if 0 ≤ (wrap64 (x3 - 1)) then (if (wrap64 (x3 - 1)) < (x0.length : Int) then (spec_AreLetters.j1 k x0 x3 (decide (((rd_T81 x0 (wrap64 (x3 - 1))).f2) > ((rd_T81 x0 x3).f2))) ((rd_T81 x0 x3).f0) ((rd_T81 x0 x3).f1) ((rd_T81 x0 x3).f2)) else (none)) else (none)) else (spec_AreLetters.j1 k x0 x3 false ((rd_T81 x0 x3).f0) ((rd_T81 x0 x3).f1) ((rd_T81 x0 x3).f2))) else (spec_AreLetters.j1 k x0 x3 true ((rd_T81 x0 x3).f0) ((rd_T81 x0 x3).f1) ((rd_T81 x0 x3).f2)))) else (spec_AreLetters.j1 k x0 x3 true ((rd_T81 x0 x3).f0) ((rd_T81 x0 x3).f1) ((rd_T81 x0 x3).f2)))) else (spec_AreLetters.j1 k x0 x3 true ((rd_T81 x0 x3).f0) ((rd_T81 x0 x3).f1) ((rd_T81 x0 x3).f2)))) else (none)) else (some (decide ((x0.length : Int) ≤ 60)))
def spec_AreLetters.j1 : Nat → List (S81) → Int → Bool → Int → Int → Int → Option (Bool)
 | 0, _, _, _, _, _, _ => none
 | k + 1, x0, x3, x46, x123000, x123001, x123002 => if x46 = true then (some false) else (spec_AreLetters.l1 k x0 x3 0 x123000 x123001 x123002)
def spec_AreLetters.l1 : Nat → List (S81) → Int → Int → Int → Int → Int → Option (Bool)
 | 0, _, _, _, _, _, _ => none
 | k + 1, x0, x3, x5, x123000, x123001, x123002 => if x5 < x3 then (if 0 ≤ x5 then (if x5 < (x0.length : Int) then (if ((rd_T81 x0 x5).f0) = x123000 then (if ((rd_T81 x0 x5).f1) = x123001 then (some false) else (if (wrap64 (x123002 - ((rd_T81 x0 x5).f2))) < 168 then (some false) else (spec_AreLetters.l1 k x0 x3 (wrap64 (x5 + 1)) x123000 x123001 x123002))) else (spec_AreLetters.l1 k x0 x3 (wrap64 (x5 + 1)) x123000 x123001 x123002)) else (none)) else (none)) else (spec_AreLetters.l0 k x0 (wrap64 (x3 + 1)))
end
def spec_AreLetters.f (k : Nat) (l0 : List (S81)) : Option (Bool) := spec_AreLetters.l0 k l0 0
def spec_AreLetters.T5 : Bool × List (List Nat × List Nat) := (true, [([], []), ([0], [0]), ([1], [1]), ([2], [2]), ([3, 2], [3]), ([4], [4]), ([5, 4], [4, 5]), ([6, 4, 4], [4, 6]), ([7, 4], [4, 7]), ([4, 8], [4, 8]), ([9, 7], [9]), ([10], [10]), ([11, 10], [10, 11]), ([12, 10, 10], [10, 12]), ([13, 10], [10, 13]), ([10, 14], [10, 14]), ([15, 13], [15]), ([16], [16]), ([17, 16], [16, 17]), ([18, 16, 16], [16, 18]), ([19], [19]), ([19], [19]), ([21, 19], [19, 21]), ([20, 22, 19], [19, 20, 22]), ([23, 19], [19, 23]), ([24, 19], [19, 24]), ([19], [19]), ([26, 19], [19, 26]), ([25, 27, 19], [19, 25, 27]), ([19, 28, 16], [16, 19, 28]), ([16, 29], [16, 29])])
def spec_AreLetters.B5 : List Nat := [0, 1, 3, 7, 15, 31, 63, 127, 255, 511, 1023, 2047, 4095, 8191, 16383, 32767, 65535, 131071, 262143, 524287, 1048575, 1048575, 3145727, 8388607, 16777215, 33554431, 1048575, 68157439, 268435455, 536870911, 1073741823]
theorem spec_AreLetters.tab5 : rtab .any (opsOf Try.f129 5) = spec_AreLetters.T5 := by kernel_rfl
theorem spec_AreLetters.bits5 : waitsOk spec_AreLetters.T5.2 spec_AreLetters.B5 = true := by kernel_rfl
def spec_AreLetters.T10 : Bool × List (List Nat × List Nat) := (true, [([], []), ([], []), ([0, 1], [0, 1]), ([2], [2]), ([3], [3]), ([], []), ([5], [5]), ([4, 6], [4, 6]), ([7], [7]), ([8], [8]), ([8], [8]), ([9, 10, 8], [8, 9, 10]), ([11, 8], [8, 11]), ([12, 8], [8, 12]), ([8], [8]), ([14, 8], [8, 14]), ([13, 15, 8], [8, 13, 15]), ([16, 8, 8], [8, 16]), ([17], [17]), ([18, 17], [17, 18]), ([17], [17]), ([17], [17]), ([20, 21, 17], [17, 20, 21]), ([22, 17], [17, 22]), ([23, 17], [17, 23]), ([19, 24, 17], [17, 19, 24]), ([25, 17], [17, 25]), ([17, 26, 8], [8, 17, 26]), ([8, 27], [8, 27])])
def spec_AreLetters.B10 : List Nat := [0, 0, 3, 7, 15, 0, 32, 127, 255, 511, 511, 2047, 4095, 8191, 511, 16895, 65535, 131071, 262143, 524287, 262143, 262143, 3407871, 7602175, 15990783, 33554431, 67108863, 134217727, 268435455]
theorem spec_AreLetters.tab10 : rtab .any (opsOf Try.f129 10) = spec_AreLetters.T10 := by kernel_rfl
theorem spec_AreLetters.bits10 : waitsOk spec_AreLetters.T10.2 spec_AreLetters.B10 = true := by kernel_rfl
set_option maxHeartbeats 8000000 in
set_option maxRecDepth 100000 in
theorem spec_AreLetters.calls (k : Nat) (A0 : Option Addr) (c0 : Nat) (l0 : List (S81)) (r : Bool) (w : World) (hr0 : Kd.C k81 w A0 l0.length l0) (hc0 : l0.length ≤ c0) (h : spec_AreLetters.f k l0 = some r) :
  Calls Try.prog 129 #[.slice A0 l0.length c0] w fun e w' => e = .returned (.bool r) ∧ Below w.heap.size w w' := by
 have hu81 := Try.underlying81
 have HR0 := zK hr0
 have HC0 := zK hc0
 clear hr0 hc0
 have HB := zK (Below.refl w.heap.size w)
 have H : (spec_AreLetters.l0 k l0 0) = some r := h
 clear h
 have H' := zK H
 clear H
 go_enter Try.func129, Try.ntmps129
 go_wp2
 go_loopg [3] k (fun kq v3 w' => ∃ (x3_1 : Int), v3 = .int .i64 x3_1 ∧ Aside0 (spec_AreLetters.l0 kq l0 x3_1 = some r) ∧ Aside0 (kq ≤ k) ∧ Aside0 (Below w.heap.size w w'))
 case atStart => exact ⟨(0), M7, H', ⟨Nat.le_refl _⟩, ⟨by exact qB HB.o⟩⟩
 case round =>
  clear H'
  try clear c1
  obtain ⟨x3_1, rfl, HA, HK1, HB⟩ := hrel
  cases gk with
  | zero => exact absurd HA.o (by simp [spec_AreLetters.l0])
  | succ k1 =>
   have H := HA.o
   clear HA
   simp only [spec_AreLetters.l0] at H
   by_cases c2 : x3_1 < (l0.length : Int)
   rotate_left
   ·rw [if_neg c2] at H
    have c2b0 : decide (x3_1 < (l0.length : Int)) = false := decide_eq_false c2
    clear c2
    obtain rfl := Option.some.inj H
    go_wp2
    go_ret
    exact ⟨by first | rfl | (simp [errW_none, errW_some] <;> rfl) | (simp [*, errW_none, errW_some] <;> rfl), by exact qB HB.o⟩

   rw [if_pos c2] at H
   have c2b0 : decide (x3_1 < (l0.length : Int)) = true := decide_eq_true c2
   clear c2
   by_cases c3 : 0 ≤ x3_1
   rotate_left
   ·rw [if_neg c3] at H
    exact absurd H (by simp)
   rw [if_pos c3] at H
   have c3b0 : decide (0 ≤ x3_1) = true := decide_eq_true c3
   clear c3
   have HC4 := zK H
   clear H
   have p121 : 0 ≤ (x3_1 : Int) := oD M3
   have q121 : x3_1 < (l0.length : Int) := oD M3
   obtain ⟨ad121, e121, hx121_0, hx121_1, hx121_2⟩ := at_T81 HR0.o x3_1 p121 q121
   cases e121
   replace hx121_0 := cB HB.o hx121_0
   replace hx121_1 := cB HB.o hx121_1
   replace hx121_2 := cB HB.o hx121_2
   replace p121 := eq_true p121
   replace q121 := eq_true q121
   go_upto_region 5 with (first | ((with_reducible refine gate_dst (N := 4) rfl ?_); refine box_event ?hg (N := 4) ?hd (cs := #[.int .i64 0, .int .i64 0, .int .i64 0]) (t := 81) ?hr ?_; (case hd => rfl); (case hg => rfl); (case hr => first | (go_simp; done) | (go_simp; rfl)); intro gb122 hg w5 hbox hb; have _ := zK (bT (qB HB.o) hb); have _ := zK (hbox); have _ := zK ((by rw [hg]; exact (bZ (qB HB.o)) : w.heap.size ≤ gb122)); have _ := zK ((by rw [hg]; exact (bZ (qB HB.o)) : w.heap.size ≤ gb122)); clear HB; rename_i HB BK122 GW122 GE122; clear hb hbox hg; obtain ⟨hcz6_0, hcz6_1, hcz6_2, hfz6_0, hfz6_1, hfz6_2⟩ := bx3 BK122.o))
   (try simp only [Act.put, sA, sZ, sS])
   go_cut [46] (fun v46 wc => ∃ (kq : Nat) (x46_3 : Bool), v46 = .bool x46_3 ∧ Aside0 (spec_AreLetters.j1 kq l0 x3_1 x46_3 ((rd_T81 l0 x3_1).f0) ((rd_T81 l0 x3_1).f1) ((rd_T81 l0 x3_1).f2) = some r) ∧ Aside0 (kq ≤ k1) ∧ Aside0 (wc.heap[gb122]? = some (.cells #[.int .i64 ((rd_T81 l0 x3_1).f0), .int .i64 ((rd_T81 l0 x3_1).f1), .int .i64 ((rd_T81 l0 x3_1).f2)] 81 (0, 0))) ∧ Aside0 (Below w.heap.size w wc))
   case first =>
    have H := HC4.o
    clear HC4
    replace H := Option.bind_eq_some_iff.mp H
    obtain ⟨t123, A70, H⟩ := H
    try dsimp only at H
    have A7 := zK A70
    clear A70
    by_cases c8 : t123 = true
    rotate_left
    ·replace c8 := Bool.eq_false_iff.mpr c8
     subst c8
     have H1 : (spec_AreLetters.j1 k1 l0 x3_1 true ((rd_T81 l0 x3_1).f0) ((rd_T81 l0 x3_1).f1) ((rd_T81 l0 x3_1).f2)) = some r := by rw [if_neg (show ¬ (false = true) by decide)] at H; exact H
     clear H
     have H := H1
     clear H1
     have H' := zK H
     clear H
     try go_wp2
     have n0_ : Aside0 ((((w5.setCell ⟨gb122, 0, none⟩ (.int .i64 ((rd_T81 l0 x3_1).f0))).setCell ⟨gb122, 1, none⟩ (.int .i64 ((rd_T81 l0 x3_1).f1))).setCell ⟨gb122, 2, none⟩ (.int .i64 ((rd_T81 l0 x3_1).f2))).heap[gb122]? = some (.cells #[.int .i64 ((rd_T81 l0 x3_1).f0), .int .i64 ((rd_T81 l0 x3_1).f1), .int .i64 ((rd_T81 l0 x3_1).f2)] 81 (0, 0))) := ⟨by (with_reducible repeat (first | refine kN ?_ _ | refine kD ?_ | refine kA ?_ _)); refine blk_put (cs := #[.int .i64 ((rd_T81 l0 x3_1).f0), .int .i64 ((rd_T81 l0 x3_1).f1), .int .i64 0]) ?_ 2 _ rfl; (with_reducible repeat (first | refine kN ?_ _ | refine kD ?_ | refine kA ?_ _)); refine blk_put (cs := #[.int .i64 ((rd_T81 l0 x3_1).f0), .int .i64 0, .int .i64 0]) ?_ 1 _ rfl; (with_reducible repeat (first | refine kN ?_ _ | refine kD ?_ | refine kA ?_ _)); refine blk_put (cs := #[.int .i64 0, .int .i64 0, .int .i64 0]) ?_ 0 _ rfl; exact qK BK122.o⟩
     have n1_ : Aside0 (Below w.heap.size w (((w5.setCell ⟨gb122, 0, none⟩ (.int .i64 ((rd_T81 l0 x3_1).f0))).setCell ⟨gb122, 1, none⟩ (.int .i64 ((rd_T81 l0 x3_1).f1))).setCell ⟨gb122, 2, none⟩ (.int .i64 ((rd_T81 l0 x3_1).f2)))) := ⟨by exact qX HB.o⟩
     (try clear BK122)
     (try clear HB)
     generalize (((w5.setCell ⟨gb122, 0, none⟩ (.int .i64 ((rd_T81 l0 x3_1).f0))).setCell ⟨gb122, 1, none⟩ (.int .i64 ((rd_T81 l0 x3_1).f1))).setCell ⟨gb122, 2, none⟩ (.int .i64 ((rd_T81 l0 x3_1).f2))) = w25 at n0_ n1_ ⊢
     have BK122 := n0_
     have HB := n1_
     clear n0_ n1_
     have n0_ := zK (kD BK122.o)
     have n1_ := zK (below_drew1 HB.o)
     clear BK122
     clear HB
     have BK122 := n0_
     have HB := n1_
     clear n0_ n1_
     refine start_ (n := 31) (S := fun w' => w'.cell? ⟨gb122, 0, none⟩ = some (.int .i64 ((rd_T81 l0 x3_1).f0)) ∧ w'.cell? ⟨gb122, 1, none⟩ = some (.int .i64 ((rd_T81 l0 x3_1).f1)) ∧ w'.cell? ⟨gb122, 2, none⟩ = some (.int .i64 ((rd_T81 l0 x3_1).f2))) (ds := []) b2A0 (by kernel_rfl) rfl rfl ⟨(bc BK122.o 0).trans rfl, (bc BK122.o 1).trans rfl, (bc BK122.o 2).trans rfl⟩ (fun hHeld => ?_); refine with_tabW spec_AreLetters.tab5 spec_AreLetters.bits5 (fun HT_ HW_ => ?_)
     generalize w25.drew = w26 at BK122 HB hHeld ⊢
     refine pI 0 (some 16) b2A1 HT_ ?_
     refine tI 1 (some 17) b2A2 HT_ HW_ hHeld rfl rfl (Or.inl ⟨by rfl, by rintro w' ⟨s0, s1, s2⟩; go_simp; with_reducible rfl⟩) ?_
     refine one_ (i := 2) (N := some 18) b2A3 rfl rfl (one_of HT_.o (by kernel_rfl)) (by decide) (fun K hK => ?_)
     refine goes_ Try.func95 (by kernel_rfl) rfl #[.int .i64 ((rd_T81 l0 x3_1).f0), .int .i64 1, .int .i64 999] (by rfl) rfl rfl M0 ?_
     with_reducible refine (spec_l1In.calls ((rd_T81 l0 x3_1).f0) 1 999 false _ A7.o).mono ?_
     rintro e w' ⟨rfl, ⟨nd, rfl⟩⟩
     refine ⟨_, rfl, ?_⟩
     refine hK.out _ _ ⟨(bc BK122.o 0).trans rfl, (bc BK122.o 1).trans rfl, (bc BK122.o 2).trans rfl⟩ (fun hHeld => ?_)
     clear hK K
     refine norm_ (a' := ?_) ?_ ?_
     rotate_left
     ·show Act.put _ (some 18) _ = _
      simp only [Act.put, sA, sZ, sS, i64_w, i32_w]
      rfl
     refine pI 3 (some 19) b2A4 HT_ ?_
     refine pI 4 (some 20) b2A5 HT_ ?_
     refine pU 5 (some 21) b2A6 HT_ ?_
     refine pU 6 (some 22) b2A7 HT_ ?_
     refine pU 7 (some 23) b2A8 HT_ ?_
     refine pU 8 (some 24) b2A9 HT_ ?_
     refine pI 9 (some 25) b2A10 HT_ ?_
     refine pI 10 (some 26) b2A11 HT_ ?_
     refine pU 11 (some 27) b2A12 HT_ ?_
     refine pU 12 (some 28) b2A13 HT_ ?_
     refine pU 13 (some 29) b2A14 HT_ ?_
     refine pU 14 (some 30) b2A15 HT_ ?_
     refine pI 15 (some 31) b2A16 HT_ ?_
     refine pI 16 (some 32) b2A17 HT_ ?_
     refine pU 17 (some 33) b2A18 HT_ ?_
     refine pU 18 (some 34) b2A19 HT_ ?_
     refine pU 19 (some 35) b2A20 HT_ ?_
     refine pU 20 (some 36) b2A21 HT_ ?_
     refine pU 21 (some 37) b2A22 HT_ ?_
     refine pU 22 (some 38) b2A23 HT_ ?_
     refine pU 23 (some 39) b2A24 HT_ ?_
     refine pU 24 (some 40) b2A25 HT_ ?_
     refine pU 25 (some 41) b2A32 HT_ ?_
     refine pU 26 (some 42) b2A27 HT_ ?_
     refine pU 27 (some 43) b2A28 HT_ ?_
     refine pU 28 (some 44) b2A29 HT_ ?_
     refine pU 29 (some 45) b2A30 HT_ ?_
     refine pI 30 (some 46) b2A31 HT_ ?_
     refine done_ (done_of HT_.o (by kernel_rfl)) ?_
     try go_wp2
     go_meet
     case rel => exact ⟨_, (true), M7, H', ⟨by have := HK1.o; first | omega | exact Nat.le_refl _⟩, ⟨by exact qK BK122.o⟩, ⟨by exact qX HB.o⟩⟩
    subst c8
    have H1 : ((spec_l1In.f ((rd_T81 l0 x3_1).f1) 1 999).bind fun t124 => (if t124 = true then ((spec_l1In.f ((rd_T81 l0 x3_1).f2) 0 100000).bind fun t125 => (if t125 = true then (if x3_1 > 0 then (if 0 ≤ (wrap64 (x3_1 - 1)) then (if (wrap64 (x3_1 - 1)) < (l0.length : Int) then (spec_AreLetters.j1 k1 l0 x3_1 (decide (((rd_T81 l0 (wrap64 (x3_1 - 1))).f2) > ((rd_T81 l0 x3_1).f2))) ((rd_T81 l0 x3_1).f0) ((rd_T81 l0 x3_1).f1) ((rd_T81 l0 x3_1).f2)) else (none)) else (none)) else (spec_AreLetters.j1 k1 l0 x3_1 false ((rd_T81 l0 x3_1).f0) ((rd_T81 l0 x3_1).f1) ((rd_T81 l0 x3_1).f2))) else (spec_AreLetters.j1 k1 l0 x3_1 true ((rd_T81 l0 x3_1).f0) ((rd_T81 l0 x3_1).f1) ((rd_T81 l0 x3_1).f2)))) else (spec_AreLetters.j1 k1 l0 x3_1 true ((rd_T81 l0 x3_1).f0) ((rd_T81 l0 x3_1).f1) ((rd_T81 l0 x3_1).f2)))) = some r := by rw [if_pos rfl] at H; exact H
    clear H
    have H := H1
    clear H1
    replace H := Option.bind_eq_some_iff.mp H
    obtain ⟨t124, A90, H⟩ := H
    try dsimp only at H
    have A9 := zK A90
    clear A90
    by_cases c10 : t124 = true
    rotate_left
    ·replace c10 := Bool.eq_false_iff.mpr c10
     subst c10
     have H1 : (spec_AreLetters.j1 k1 l0 x3_1 true ((rd_T81 l0 x3_1).f0) ((rd_T81 l0 x3_1).f1) ((rd_T81 l0 x3_1).f2)) = some r := by rw [if_neg (show ¬ (false = true) by decide)] at H; exact H
     clear H
     have H := H1
     clear H1
     have H' := zK H
     clear H
     try go_wp2
     have n0_ : Aside0 ((((w5.setCell ⟨gb122, 0, none⟩ (.int .i64 ((rd_T81 l0 x3_1).f0))).setCell ⟨gb122, 1, none⟩ (.int .i64 ((rd_T81 l0 x3_1).f1))).setCell ⟨gb122, 2, none⟩ (.int .i64 ((rd_T81 l0 x3_1).f2))).heap[gb122]? = some (.cells #[.int .i64 ((rd_T81 l0 x3_1).f0), .int .i64 ((rd_T81 l0 x3_1).f1), .int .i64 ((rd_T81 l0 x3_1).f2)] 81 (0, 0))) := ⟨by (with_reducible repeat (first | refine kN ?_ _ | refine kD ?_ | refine kA ?_ _)); refine blk_put (cs := #[.int .i64 ((rd_T81 l0 x3_1).f0), .int .i64 ((rd_T81 l0 x3_1).f1), .int .i64 0]) ?_ 2 _ rfl; (with_reducible repeat (first | refine kN ?_ _ | refine kD ?_ | refine kA ?_ _)); refine blk_put (cs := #[.int .i64 ((rd_T81 l0 x3_1).f0), .int .i64 0, .int .i64 0]) ?_ 1 _ rfl; (with_reducible repeat (first | refine kN ?_ _ | refine kD ?_ | refine kA ?_ _)); refine blk_put (cs := #[.int .i64 0, .int .i64 0, .int .i64 0]) ?_ 0 _ rfl; exact qK BK122.o⟩
     have n1_ : Aside0 (Below w.heap.size w (((w5.setCell ⟨gb122, 0, none⟩ (.int .i64 ((rd_T81 l0 x3_1).f0))).setCell ⟨gb122, 1, none⟩ (.int .i64 ((rd_T81 l0 x3_1).f1))).setCell ⟨gb122, 2, none⟩ (.int .i64 ((rd_T81 l0 x3_1).f2)))) := ⟨by exact qX HB.o⟩
     (try clear BK122)
     (try clear HB)
     generalize (((w5.setCell ⟨gb122, 0, none⟩ (.int .i64 ((rd_T81 l0 x3_1).f0))).setCell ⟨gb122, 1, none⟩ (.int .i64 ((rd_T81 l0 x3_1).f1))).setCell ⟨gb122, 2, none⟩ (.int .i64 ((rd_T81 l0 x3_1).f2))) = w23 at n0_ n1_ ⊢
     have BK122 := n0_
     have HB := n1_
     clear n0_ n1_
     have n0_ := zK (kD BK122.o)
     have n1_ := zK (below_drew1 HB.o)
     clear BK122
     clear HB
     have BK122 := n0_
     have HB := n1_
     clear n0_ n1_
     refine start_ (n := 31) (S := fun w' => w'.cell? ⟨gb122, 0, none⟩ = some (.int .i64 ((rd_T81 l0 x3_1).f0)) ∧ w'.cell? ⟨gb122, 1, none⟩ = some (.int .i64 ((rd_T81 l0 x3_1).f1)) ∧ w'.cell? ⟨gb122, 2, none⟩ = some (.int .i64 ((rd_T81 l0 x3_1).f2))) (ds := []) b2A0 (by kernel_rfl) rfl rfl ⟨(bc BK122.o 0).trans rfl, (bc BK122.o 1).trans rfl, (bc BK122.o 2).trans rfl⟩ (fun hHeld => ?_); refine with_tabW spec_AreLetters.tab5 spec_AreLetters.bits5 (fun HT_ HW_ => ?_)
     generalize w23.drew = w24 at BK122 HB hHeld ⊢
     refine pI 0 (some 16) b2A1 HT_ ?_
     refine tI 1 (some 17) b2A2 HT_ HW_ hHeld rfl rfl (Or.inl ⟨by rfl, by rintro w' ⟨s0, s1, s2⟩; go_simp; with_reducible rfl⟩) ?_
     refine one_ (i := 2) (N := some 18) b2A3 rfl rfl (one_of HT_.o (by kernel_rfl)) (by decide) (fun K hK => ?_)
     refine goes_ Try.func95 (by kernel_rfl) rfl #[.int .i64 ((rd_T81 l0 x3_1).f0), .int .i64 1, .int .i64 999] (by rfl) rfl rfl M0 ?_
     with_reducible refine (spec_l1In.calls ((rd_T81 l0 x3_1).f0) 1 999 true _ A7.o).mono ?_
     rintro e w' ⟨rfl, ⟨nd, rfl⟩⟩
     refine ⟨_, rfl, ?_⟩
     refine hK.out _ _ ⟨(bc BK122.o 0).trans rfl, (bc BK122.o 1).trans rfl, (bc BK122.o 2).trans rfl⟩ (fun hHeld => ?_)
     clear hK K
     refine norm_ (a' := ?_) ?_ ?_
     rotate_left
     ·show Act.put _ (some 18) _ = _
      simp only [Act.put, sA, sZ, sS, i64_w, i32_w]
      rfl
     refine pI 3 (some 19) b2A4 HT_ ?_
     refine pI 4 (some 20) b2A5 HT_ ?_
     refine pI 5 (some 21) b2A6 HT_ ?_
     refine tI 6 (some 22) b2A7 HT_ HW_ hHeld rfl rfl (Or.inl ⟨by rfl, by rintro w' ⟨s0, s1, s2⟩; go_simp; with_reducible rfl⟩) ?_
     refine one_ (i := 7) (N := some 23) b2A8 rfl rfl (one_of HT_.o (by kernel_rfl)) (by decide) (fun K hK => ?_)
     refine goes_ Try.func95 (by kernel_rfl) rfl #[.int .i64 ((rd_T81 l0 x3_1).f1), .int .i64 1, .int .i64 999] (by rfl) rfl rfl M0 ?_
     with_reducible refine (spec_l1In.calls ((rd_T81 l0 x3_1).f1) 1 999 false _ A9.o).mono ?_
     rintro e w' ⟨rfl, ⟨nd, rfl⟩⟩
     refine ⟨_, rfl, ?_⟩
     refine hK.out _ _ ⟨(bc BK122.o 0).trans rfl, (bc BK122.o 1).trans rfl, (bc BK122.o 2).trans rfl⟩ (fun hHeld => ?_)
     clear hK K
     refine norm_ (a' := ?_) ?_ ?_
     rotate_left
     ·show Act.put _ (some 23) _ = _
      simp only [Act.put, sA, sZ, sS, i64_w, i32_w]
      rfl
     refine pI 8 (some 24) b2A9 HT_ ?_
     refine pI 9 (some 25) b2A10 HT_ ?_
     refine pI 10 (some 26) b2A11 HT_ ?_
     refine pU 11 (some 27) b2A12 HT_ ?_
     refine pU 12 (some 28) b2A13 HT_ ?_
     refine pU 13 (some 29) b2A14 HT_ ?_
     refine pU 14 (some 30) b2A15 HT_ ?_
     refine pI 15 (some 31) b2A16 HT_ ?_
     refine pI 16 (some 32) b2A17 HT_ ?_
     refine pU 17 (some 33) b2A18 HT_ ?_
     refine pU 18 (some 34) b2A19 HT_ ?_
     refine pU 19 (some 35) b2A20 HT_ ?_
     refine pU 20 (some 36) b2A21 HT_ ?_
     refine pU 21 (some 37) b2A22 HT_ ?_
     refine pU 22 (some 38) b2A23 HT_ ?_
     refine pU 23 (some 39) b2A24 HT_ ?_
     refine pU 24 (some 40) b2A25 HT_ ?_
     refine pU 25 (some 41) b2A32 HT_ ?_
     refine pU 26 (some 42) b2A27 HT_ ?_
     refine pU 27 (some 43) b2A28 HT_ ?_
     refine pU 28 (some 44) b2A29 HT_ ?_
     refine pU 29 (some 45) b2A30 HT_ ?_
     refine pI 30 (some 46) b2A31 HT_ ?_
     refine done_ (done_of HT_.o (by kernel_rfl)) ?_
     try go_wp2
     go_meet
     case rel => exact ⟨_, (true), M7, H', ⟨by have := HK1.o; first | omega | exact Nat.le_refl _⟩, ⟨by exact qK BK122.o⟩, ⟨by exact qX HB.o⟩⟩
    subst c10
    have H1 : ((spec_l1In.f ((rd_T81 l0 x3_1).f2) 0 100000).bind fun t125 => (if t125 = true then (if x3_1 > 0 then (if 0 ≤ (wrap64 (x3_1 - 1)) then (if (wrap64 (x3_1 - 1)) < (l0.length : Int) then (spec_AreLetters.j1 k1 l0 x3_1 (decide (((rd_T81 l0 (wrap64 (x3_1 - 1))).f2) > ((rd_T81 l0 x3_1).f2))) ((rd_T81 l0 x3_1).f0) ((rd_T81 l0 x3_1).f1) ((rd_T81 l0 x3_1).f2)) else (none)) else (none)) else (spec_AreLetters.j1 k1 l0 x3_1 false ((rd_T81 l0 x3_1).f0) ((rd_T81 l0 x3_1).f1) ((rd_T81 l0 x3_1).f2))) else (spec_AreLetters.j1 k1 l0 x3_1 true ((rd_T81 l0 x3_1).f0) ((rd_T81 l0 x3_1).f1) ((rd_T81 l0 x3_1).f2)))) = some r := by rw [if_pos rfl] at H; exact H
    clear H
    have H := H1
    clear H1
    replace H := Option.bind_eq_some_iff.mp H
    obtain ⟨t125, A110, H⟩ := H
    try dsimp only at H
    have A11 := zK A110
    clear A110
    by_cases c12 : t125 = true
    rotate_left
    ·replace c12 := Bool.eq_false_iff.mpr c12
     subst c12
     have H1 : (spec_AreLetters.j1 k1 l0 x3_1 true ((rd_T81 l0 x3_1).f0) ((rd_T81 l0 x3_1).f1) ((rd_T81 l0 x3_1).f2)) = some r := by rw [if_neg (show ¬ (false = true) by decide)] at H; exact H
     clear H
     have H := H1
     clear H1
     have H' := zK H
     clear H
     try go_wp2
     have n0_ : Aside0 ((((w5.setCell ⟨gb122, 0, none⟩ (.int .i64 ((rd_T81 l0 x3_1).f0))).setCell ⟨gb122, 1, none⟩ (.int .i64 ((rd_T81 l0 x3_1).f1))).setCell ⟨gb122, 2, none⟩ (.int .i64 ((rd_T81 l0 x3_1).f2))).heap[gb122]? = some (.cells #[.int .i64 ((rd_T81 l0 x3_1).f0), .int .i64 ((rd_T81 l0 x3_1).f1), .int .i64 ((rd_T81 l0 x3_1).f2)] 81 (0, 0))) := ⟨by (with_reducible repeat (first | refine kN ?_ _ | refine kD ?_ | refine kA ?_ _)); refine blk_put (cs := #[.int .i64 ((rd_T81 l0 x3_1).f0), .int .i64 ((rd_T81 l0 x3_1).f1), .int .i64 0]) ?_ 2 _ rfl; (with_reducible repeat (first | refine kN ?_ _ | refine kD ?_ | refine kA ?_ _)); refine blk_put (cs := #[.int .i64 ((rd_T81 l0 x3_1).f0), .int .i64 0, .int .i64 0]) ?_ 1 _ rfl; (with_reducible repeat (first | refine kN ?_ _ | refine kD ?_ | refine kA ?_ _)); refine blk_put (cs := #[.int .i64 0, .int .i64 0, .int .i64 0]) ?_ 0 _ rfl; exact qK BK122.o⟩
     have n1_ : Aside0 (Below w.heap.size w (((w5.setCell ⟨gb122, 0, none⟩ (.int .i64 ((rd_T81 l0 x3_1).f0))).setCell ⟨gb122, 1, none⟩ (.int .i64 ((rd_T81 l0 x3_1).f1))).setCell ⟨gb122, 2, none⟩ (.int .i64 ((rd_T81 l0 x3_1).f2)))) := ⟨by exact qX HB.o⟩
     (try clear BK122)
     (try clear HB)
     generalize (((w5.setCell ⟨gb122, 0, none⟩ (.int .i64 ((rd_T81 l0 x3_1).f0))).setCell ⟨gb122, 1, none⟩ (.int .i64 ((rd_T81 l0 x3_1).f1))).setCell ⟨gb122, 2, none⟩ (.int .i64 ((rd_T81 l0 x3_1).f2))) = w21 at n0_ n1_ ⊢
     have BK122 := n0_
     have HB := n1_
     clear n0_ n1_
     have n0_ := zK (kD BK122.o)
     have n1_ := zK (below_drew1 HB.o)
     clear BK122
     clear HB
     have BK122 := n0_
     have HB := n1_
     clear n0_ n1_
     refine start_ (n := 31) (S := fun w' => w'.cell? ⟨gb122, 0, none⟩ = some (.int .i64 ((rd_T81 l0 x3_1).f0)) ∧ w'.cell? ⟨gb122, 1, none⟩ = some (.int .i64 ((rd_T81 l0 x3_1).f1)) ∧ w'.cell? ⟨gb122, 2, none⟩ = some (.int .i64 ((rd_T81 l0 x3_1).f2))) (ds := []) b2A0 (by kernel_rfl) rfl rfl ⟨(bc BK122.o 0).trans rfl, (bc BK122.o 1).trans rfl, (bc BK122.o 2).trans rfl⟩ (fun hHeld => ?_); refine with_tabW spec_AreLetters.tab5 spec_AreLetters.bits5 (fun HT_ HW_ => ?_)
     generalize w21.drew = w22 at BK122 HB hHeld ⊢
     refine pI 0 (some 16) b2A1 HT_ ?_
     refine tI 1 (some 17) b2A2 HT_ HW_ hHeld rfl rfl (Or.inl ⟨by rfl, by rintro w' ⟨s0, s1, s2⟩; go_simp; with_reducible rfl⟩) ?_
     refine one_ (i := 2) (N := some 18) b2A3 rfl rfl (one_of HT_.o (by kernel_rfl)) (by decide) (fun K hK => ?_)
     refine goes_ Try.func95 (by kernel_rfl) rfl #[.int .i64 ((rd_T81 l0 x3_1).f0), .int .i64 1, .int .i64 999] (by rfl) rfl rfl M0 ?_
     with_reducible refine (spec_l1In.calls ((rd_T81 l0 x3_1).f0) 1 999 true _ A7.o).mono ?_
     rintro e w' ⟨rfl, ⟨nd, rfl⟩⟩
     refine ⟨_, rfl, ?_⟩
     refine hK.out _ _ ⟨(bc BK122.o 0).trans rfl, (bc BK122.o 1).trans rfl, (bc BK122.o 2).trans rfl⟩ (fun hHeld => ?_)
     clear hK K
     refine norm_ (a' := ?_) ?_ ?_
     rotate_left
     ·show Act.put _ (some 18) _ = _
      simp only [Act.put, sA, sZ, sS, i64_w, i32_w]
      rfl
     refine pI 3 (some 19) b2A4 HT_ ?_
     refine pI 4 (some 20) b2A5 HT_ ?_
     refine pI 5 (some 21) b2A6 HT_ ?_
     refine tI 6 (some 22) b2A7 HT_ HW_ hHeld rfl rfl (Or.inl ⟨by rfl, by rintro w' ⟨s0, s1, s2⟩; go_simp; with_reducible rfl⟩) ?_
     refine one_ (i := 7) (N := some 23) b2A8 rfl rfl (one_of HT_.o (by kernel_rfl)) (by decide) (fun K hK => ?_)
     refine goes_ Try.func95 (by kernel_rfl) rfl #[.int .i64 ((rd_T81 l0 x3_1).f1), .int .i64 1, .int .i64 999] (by rfl) rfl rfl M0 ?_
     with_reducible refine (spec_l1In.calls ((rd_T81 l0 x3_1).f1) 1 999 true _ A9.o).mono ?_
     rintro e w' ⟨rfl, ⟨nd, rfl⟩⟩
     refine ⟨_, rfl, ?_⟩
     refine hK.out _ _ ⟨(bc BK122.o 0).trans rfl, (bc BK122.o 1).trans rfl, (bc BK122.o 2).trans rfl⟩ (fun hHeld => ?_)
     clear hK K
     refine norm_ (a' := ?_) ?_ ?_
     rotate_left
     ·show Act.put _ (some 23) _ = _
      simp only [Act.put, sA, sZ, sS, i64_w, i32_w]
      rfl
     refine pI 8 (some 24) b2A9 HT_ ?_
     refine pI 9 (some 25) b2A10 HT_ ?_
     refine pI 10 (some 26) b2A11 HT_ ?_
     refine pI 11 (some 27) b2A12 HT_ ?_
     refine tI 12 (some 28) b2A13 HT_ HW_ hHeld rfl rfl (Or.inl ⟨by rfl, by rintro w' ⟨s0, s1, s2⟩; go_simp; with_reducible rfl⟩) ?_
     refine one_ (i := 13) (N := some 29) b2A14 rfl rfl (one_of HT_.o (by kernel_rfl)) (by decide) (fun K hK => ?_)
     refine goes_ Try.func95 (by kernel_rfl) rfl #[.int .i64 ((rd_T81 l0 x3_1).f2), .int .i64 0, .int .i64 100000] (by rfl) rfl rfl M0 ?_
     with_reducible refine (spec_l1In.calls ((rd_T81 l0 x3_1).f2) 0 100000 false _ A11.o).mono ?_
     rintro e w' ⟨rfl, ⟨nd, rfl⟩⟩
     refine ⟨_, rfl, ?_⟩
     refine hK.out _ _ ⟨(bc BK122.o 0).trans rfl, (bc BK122.o 1).trans rfl, (bc BK122.o 2).trans rfl⟩ (fun hHeld => ?_)
     clear hK K
     refine norm_ (a' := ?_) ?_ ?_
     rotate_left
     ·show Act.put _ (some 29) _ = _
      simp only [Act.put, sA, sZ, sS, i64_w, i32_w]
      rfl
     refine pI 14 (some 30) b2A15 HT_ ?_
     refine pI 15 (some 31) b2A16 HT_ ?_
     refine pI 16 (some 32) b2A17 HT_ ?_
     refine pU 17 (some 33) b2A18 HT_ ?_
     refine pU 18 (some 34) b2A19 HT_ ?_
     refine pU 19 (some 35) b2A20 HT_ ?_
     refine pU 20 (some 36) b2A21 HT_ ?_
     refine pU 21 (some 37) b2A22 HT_ ?_
     refine pU 22 (some 38) b2A23 HT_ ?_
     refine pU 23 (some 39) b2A24 HT_ ?_
     refine pU 24 (some 40) b2A25 HT_ ?_
     refine pU 25 (some 41) b2A32 HT_ ?_
     refine pU 26 (some 42) b2A27 HT_ ?_
     refine pU 27 (some 43) b2A28 HT_ ?_
     refine pU 28 (some 44) b2A29 HT_ ?_
     refine pU 29 (some 45) b2A30 HT_ ?_
     refine pI 30 (some 46) b2A31 HT_ ?_
     refine done_ (done_of HT_.o (by kernel_rfl)) ?_
     try go_wp2
     go_meet
     case rel => exact ⟨_, (true), M7, H', ⟨by have := HK1.o; first | omega | exact Nat.le_refl _⟩, ⟨by exact qK BK122.o⟩, ⟨by exact qX HB.o⟩⟩
    subst c12
    have H1 : (if x3_1 > 0 then (if 0 ≤ (wrap64 (x3_1 - 1)) then (if (wrap64 (x3_1 - 1)) < (l0.length : Int) then (spec_AreLetters.j1 k1 l0 x3_1 (decide (((rd_T81 l0 (wrap64 (x3_1 - 1))).f2) > ((rd_T81 l0 x3_1).f2))) ((rd_T81 l0 x3_1).f0) ((rd_T81 l0 x3_1).f1) ((rd_T81 l0 x3_1).f2)) else (none)) else (none)) else (spec_AreLetters.j1 k1 l0 x3_1 false ((rd_T81 l0 x3_1).f0) ((rd_T81 l0 x3_1).f1) ((rd_T81 l0 x3_1).f2))) = some r := by rw [if_pos rfl] at H; exact H
    clear H
    have H := H1
    clear H1
    by_cases c13 : x3_1 > 0
    rotate_left
    ·rw [if_neg c13] at H
     have c13b0 : decide (0 < x3_1) = false := decide_eq_false c13
     clear c13
     (first | rw [c13b0] | rw [c13b1] | (simp only [i64_w, i32_w]; rw [c13b0]) | skip)
     have H' := zK H
     clear H
     try go_wp2
     have n0_ : Aside0 ((((w5.setCell ⟨gb122, 0, none⟩ (.int .i64 ((rd_T81 l0 x3_1).f0))).setCell ⟨gb122, 1, none⟩ (.int .i64 ((rd_T81 l0 x3_1).f1))).setCell ⟨gb122, 2, none⟩ (.int .i64 ((rd_T81 l0 x3_1).f2))).heap[gb122]? = some (.cells #[.int .i64 ((rd_T81 l0 x3_1).f0), .int .i64 ((rd_T81 l0 x3_1).f1), .int .i64 ((rd_T81 l0 x3_1).f2)] 81 (0, 0))) := ⟨by (with_reducible repeat (first | refine kN ?_ _ | refine kD ?_ | refine kA ?_ _)); refine blk_put (cs := #[.int .i64 ((rd_T81 l0 x3_1).f0), .int .i64 ((rd_T81 l0 x3_1).f1), .int .i64 0]) ?_ 2 _ rfl; (with_reducible repeat (first | refine kN ?_ _ | refine kD ?_ | refine kA ?_ _)); refine blk_put (cs := #[.int .i64 ((rd_T81 l0 x3_1).f0), .int .i64 0, .int .i64 0]) ?_ 1 _ rfl; (with_reducible repeat (first | refine kN ?_ _ | refine kD ?_ | refine kA ?_ _)); refine blk_put (cs := #[.int .i64 0, .int .i64 0, .int .i64 0]) ?_ 0 _ rfl; exact qK BK122.o⟩
     have n1_ : Aside0 (Below w.heap.size w (((w5.setCell ⟨gb122, 0, none⟩ (.int .i64 ((rd_T81 l0 x3_1).f0))).setCell ⟨gb122, 1, none⟩ (.int .i64 ((rd_T81 l0 x3_1).f1))).setCell ⟨gb122, 2, none⟩ (.int .i64 ((rd_T81 l0 x3_1).f2)))) := ⟨by exact qX HB.o⟩
     (try clear BK122)
     (try clear HB)
     generalize (((w5.setCell ⟨gb122, 0, none⟩ (.int .i64 ((rd_T81 l0 x3_1).f0))).setCell ⟨gb122, 1, none⟩ (.int .i64 ((rd_T81 l0 x3_1).f1))).setCell ⟨gb122, 2, none⟩ (.int .i64 ((rd_T81 l0 x3_1).f2))) = w19 at n0_ n1_ ⊢
     have BK122 := n0_
     have HB := n1_
     clear n0_ n1_
     have n0_ := zK (kD BK122.o)
     have n1_ := zK (below_drew1 HB.o)
     clear BK122
     clear HB
     have BK122 := n0_
     have HB := n1_
     clear n0_ n1_
     refine start_ (n := 31) (S := fun w' => w'.cell? ⟨gb122, 0, none⟩ = some (.int .i64 ((rd_T81 l0 x3_1).f0)) ∧ w'.cell? ⟨gb122, 1, none⟩ = some (.int .i64 ((rd_T81 l0 x3_1).f1)) ∧ w'.cell? ⟨gb122, 2, none⟩ = some (.int .i64 ((rd_T81 l0 x3_1).f2))) (ds := []) b2A0 (by kernel_rfl) rfl rfl ⟨(bc BK122.o 0).trans rfl, (bc BK122.o 1).trans rfl, (bc BK122.o 2).trans rfl⟩ (fun hHeld => ?_); refine with_tabW spec_AreLetters.tab5 spec_AreLetters.bits5 (fun HT_ HW_ => ?_)
     generalize w19.drew = w20 at BK122 HB hHeld ⊢
     refine pI 0 (some 16) b2A1 HT_ ?_
     refine tI 1 (some 17) b2A2 HT_ HW_ hHeld rfl rfl (Or.inl ⟨by rfl, by rintro w' ⟨s0, s1, s2⟩; go_simp; with_reducible rfl⟩) ?_
     refine one_ (i := 2) (N := some 18) b2A3 rfl rfl (one_of HT_.o (by kernel_rfl)) (by decide) (fun K hK => ?_)
     refine goes_ Try.func95 (by kernel_rfl) rfl #[.int .i64 ((rd_T81 l0 x3_1).f0), .int .i64 1, .int .i64 999] (by rfl) rfl rfl M0 ?_
     with_reducible refine (spec_l1In.calls ((rd_T81 l0 x3_1).f0) 1 999 true _ A7.o).mono ?_
     rintro e w' ⟨rfl, ⟨nd, rfl⟩⟩
     refine ⟨_, rfl, ?_⟩
     refine hK.out _ _ ⟨(bc BK122.o 0).trans rfl, (bc BK122.o 1).trans rfl, (bc BK122.o 2).trans rfl⟩ (fun hHeld => ?_)
     clear hK K
     refine norm_ (a' := ?_) ?_ ?_
     rotate_left
     ·show Act.put _ (some 18) _ = _
      simp only [Act.put, sA, sZ, sS, i64_w, i32_w]
      rfl
     refine pI 3 (some 19) b2A4 HT_ ?_
     refine pI 4 (some 20) b2A5 HT_ ?_
     refine pI 5 (some 21) b2A6 HT_ ?_
     refine tI 6 (some 22) b2A7 HT_ HW_ hHeld rfl rfl (Or.inl ⟨by rfl, by rintro w' ⟨s0, s1, s2⟩; go_simp; with_reducible rfl⟩) ?_
     refine one_ (i := 7) (N := some 23) b2A8 rfl rfl (one_of HT_.o (by kernel_rfl)) (by decide) (fun K hK => ?_)
     refine goes_ Try.func95 (by kernel_rfl) rfl #[.int .i64 ((rd_T81 l0 x3_1).f1), .int .i64 1, .int .i64 999] (by rfl) rfl rfl M0 ?_
     with_reducible refine (spec_l1In.calls ((rd_T81 l0 x3_1).f1) 1 999 true _ A9.o).mono ?_
     rintro e w' ⟨rfl, ⟨nd, rfl⟩⟩
     refine ⟨_, rfl, ?_⟩
     refine hK.out _ _ ⟨(bc BK122.o 0).trans rfl, (bc BK122.o 1).trans rfl, (bc BK122.o 2).trans rfl⟩ (fun hHeld => ?_)
     clear hK K
     refine norm_ (a' := ?_) ?_ ?_
     rotate_left
     ·show Act.put _ (some 23) _ = _
      simp only [Act.put, sA, sZ, sS, i64_w, i32_w]
      rfl
     refine pI 8 (some 24) b2A9 HT_ ?_
     refine pI 9 (some 25) b2A10 HT_ ?_
     refine pI 10 (some 26) b2A11 HT_ ?_
     refine pI 11 (some 27) b2A12 HT_ ?_
     refine tI 12 (some 28) b2A13 HT_ HW_ hHeld rfl rfl (Or.inl ⟨by rfl, by rintro w' ⟨s0, s1, s2⟩; go_simp; with_reducible rfl⟩) ?_
     refine one_ (i := 13) (N := some 29) b2A14 rfl rfl (one_of HT_.o (by kernel_rfl)) (by decide) (fun K hK => ?_)
     refine goes_ Try.func95 (by kernel_rfl) rfl #[.int .i64 ((rd_T81 l0 x3_1).f2), .int .i64 0, .int .i64 100000] (by rfl) rfl rfl M0 ?_
     with_reducible refine (spec_l1In.calls ((rd_T81 l0 x3_1).f2) 0 100000 true _ A11.o).mono ?_
     rintro e w' ⟨rfl, ⟨nd, rfl⟩⟩
     refine ⟨_, rfl, ?_⟩
     refine hK.out _ _ ⟨(bc BK122.o 0).trans rfl, (bc BK122.o 1).trans rfl, (bc BK122.o 2).trans rfl⟩ (fun hHeld => ?_)
     clear hK K
     refine norm_ (a' := ?_) ?_ ?_
     rotate_left
     ·show Act.put _ (some 29) _ = _
      simp only [Act.put, sA, sZ, sS, i64_w, i32_w]
      rfl
     refine pI 14 (some 30) b2A15 HT_ ?_
     refine pI 15 (some 31) b2A16 HT_ ?_
     refine pI 16 (some 32) b2A17 HT_ ?_
     refine pI 17 (some 33) b2A18 HT_ ?_
     refine pI 18 (some 34) b2A19 HT_ ?_
     refine pI 19 (some 35) b2A20 HT_ ?_
     refine pU 20 (some 36) b2A21 HT_ ?_
     refine pU 21 (some 37) b2A22 HT_ ?_
     refine pU 22 (some 38) b2A23 HT_ ?_
     refine pU 23 (some 39) b2A24 HT_ ?_
     refine pU 24 (some 40) b2A25 HT_ ?_
     refine pU 25 (some 41) b2A32 HT_ ?_
     refine pU 26 (some 42) b2A27 HT_ ?_
     refine pU 27 (some 43) b2A28 HT_ ?_
     refine pU 28 (some 44) b2A29 HT_ ?_
     refine pI 29 (some 45) b2A30 HT_ ?_
     refine pI 30 (some 46) b2A31 HT_ ?_
     refine done_ (done_of HT_.o (by kernel_rfl)) ?_
     try go_wp2
     go_meet
     case rel => exact ⟨_, (false), M7, H', ⟨by have := HK1.o; first | omega | exact Nat.le_refl _⟩, ⟨by exact qK BK122.o⟩, ⟨by exact qX HB.o⟩⟩
    rw [if_pos c13] at H
    have c13b0 : decide (0 < x3_1) = true := decide_eq_true c13
    clear c13
    (first | rw [c13b0] | rw [c13b1] | (simp only [i64_w, i32_w]; rw [c13b0]) | skip)
    obtain ⟨ji14, hji14⟩ : ∃ j_ : Int, (wrap64 (x3_1 - 1)) = j_ := ⟨_, rfl⟩
    replace H : (if 0 ≤ (ji14) then (if (ji14) < (l0.length : Int) then (spec_AreLetters.j1 k1 l0 x3_1 (decide (((rd_T81 l0 (ji14)).f2) > ((rd_T81 l0 x3_1).f2))) ((rd_T81 l0 x3_1).f0) ((rd_T81 l0 x3_1).f1) ((rd_T81 l0 x3_1).f2)) else (none)) else (none)) = some r := by first | (rw [hji14] at H; exact H) | (simp only [hji14] at H ⊢; exact H)
    (try rw [hji14] at A7)
    (try rw [hji14] at A9)
    (try rw [hji14] at A11)
    have hji14w : (IntKind.i64.wrap (x3_1 - 1)) = ji14 := (i64_w _).trans hji14
    by_cases c15 : 0 ≤ (ji14)
    rotate_left
    ·rw [if_neg c15] at H
     exact absurd H (by simp)
    rw [if_pos c15] at H
    have c15b0 : decide (0 ≤ (ji14)) = true := decide_eq_true c15
    clear c15
    by_cases c16 : (ji14) < (l0.length : Int)
    rotate_left
    ·rw [if_neg c16] at H
     exact absurd H (by simp)
    rw [if_pos c16] at H
    have c16b0 : decide ((ji14) < (l0.length : Int)) = true := decide_eq_true c16
    clear c16
    have H' := zK H
    clear H
    try go_wp2
    have n0_ : Aside0 ((((w5.setCell ⟨gb122, 0, none⟩ (.int .i64 ((rd_T81 l0 x3_1).f0))).setCell ⟨gb122, 1, none⟩ (.int .i64 ((rd_T81 l0 x3_1).f1))).setCell ⟨gb122, 2, none⟩ (.int .i64 ((rd_T81 l0 x3_1).f2))).heap[gb122]? = some (.cells #[.int .i64 ((rd_T81 l0 x3_1).f0), .int .i64 ((rd_T81 l0 x3_1).f1), .int .i64 ((rd_T81 l0 x3_1).f2)] 81 (0, 0))) := ⟨by (with_reducible repeat (first | refine kN ?_ _ | refine kD ?_ | refine kA ?_ _)); refine blk_put (cs := #[.int .i64 ((rd_T81 l0 x3_1).f0), .int .i64 ((rd_T81 l0 x3_1).f1), .int .i64 0]) ?_ 2 _ rfl; (with_reducible repeat (first | refine kN ?_ _ | refine kD ?_ | refine kA ?_ _)); refine blk_put (cs := #[.int .i64 ((rd_T81 l0 x3_1).f0), .int .i64 0, .int .i64 0]) ?_ 1 _ rfl; (with_reducible repeat (first | refine kN ?_ _ | refine kD ?_ | refine kA ?_ _)); refine blk_put (cs := #[.int .i64 0, .int .i64 0, .int .i64 0]) ?_ 0 _ rfl; exact qK BK122.o⟩
    have n1_ : Aside0 (Below w.heap.size w (((w5.setCell ⟨gb122, 0, none⟩ (.int .i64 ((rd_T81 l0 x3_1).f0))).setCell ⟨gb122, 1, none⟩ (.int .i64 ((rd_T81 l0 x3_1).f1))).setCell ⟨gb122, 2, none⟩ (.int .i64 ((rd_T81 l0 x3_1).f2)))) := ⟨by exact qX HB.o⟩
    (try clear BK122)
    (try clear HB)
    generalize (((w5.setCell ⟨gb122, 0, none⟩ (.int .i64 ((rd_T81 l0 x3_1).f0))).setCell ⟨gb122, 1, none⟩ (.int .i64 ((rd_T81 l0 x3_1).f1))).setCell ⟨gb122, 2, none⟩ (.int .i64 ((rd_T81 l0 x3_1).f2))) = w17 at n0_ n1_ ⊢
    have BK122 := n0_
    have HB := n1_
    clear n0_ n1_
    have n0_ := zK (kD BK122.o)
    have n1_ := zK (below_drew1 HB.o)
    clear BK122
    clear HB
    have BK122 := n0_
    have HB := n1_
    clear n0_ n1_
    have p126 : 0 ≤ ((ji14) : Int) := oD M3
    have q126 : (ji14) < (l0.length : Int) := oD M3
    obtain ⟨ad126, e126, hx126_0, hx126_1, hx126_2⟩ := at_T81 HR0.o (ji14) p126 q126
    have hw126_2 := hx126_2
    have hw126_1 := hx126_1
    have hw126_0 := hx126_0
    obtain rfl : ad121 = ad126 := (by injection e126)
    replace hx126_0 := cB HB.o hx126_0
    replace hx126_1 := cB HB.o hx126_1
    replace hx126_2 := cB HB.o hx126_2
    replace p126 := eq_true p126
    replace q126 := eq_true q126
    refine start_ (n := 31) (S := fun w' => w'.cell? ⟨gb122, 0, none⟩ = some (.int .i64 ((rd_T81 l0 x3_1).f0)) ∧ w'.cell? ⟨gb122, 1, none⟩ = some (.int .i64 ((rd_T81 l0 x3_1).f1)) ∧ w'.cell? ⟨gb122, 2, none⟩ = some (.int .i64 ((rd_T81 l0 x3_1).f2)) ∧ w'.cell? (ad121.add (((ji14)).toNat * 3)) = some (.int .i64 ((rd_T81 l0 (ji14)).f0)) ∧ w'.cell? ⟨(ad121.add (((ji14)).toNat * 3)).block, (ad121.add (((ji14)).toNat * 3)).off + 1, none⟩ = some (.int .i64 ((rd_T81 l0 (ji14)).f1)) ∧ w'.cell? ⟨(ad121.add (((ji14)).toNat * 3)).block, (ad121.add (((ji14)).toNat * 3)).off + 2, none⟩ = some (.int .i64 ((rd_T81 l0 (ji14)).f2))) (ds := []) b2A0 (by kernel_rfl) rfl rfl ⟨(bc BK122.o 0).trans rfl, (bc BK122.o 1).trans rfl, (bc BK122.o 2).trans rfl, (cB HB.o hw126_0 :), (cB HB.o hw126_1 :), (cB HB.o hw126_2 :)⟩ (fun hHeld => ?_); refine with_tabW spec_AreLetters.tab5 spec_AreLetters.bits5 (fun HT_ HW_ => ?_)
    generalize w17.drew = w18 at BK122 HB hx126_0 hx126_1 hx126_2 hHeld ⊢
    refine pI 0 (some 16) b2A1 HT_ ?_
    refine tI 1 (some 17) b2A2 HT_ HW_ hHeld rfl rfl (Or.inl ⟨by rfl, by rintro w' ⟨s0, s1, s2, s3, s4, s5⟩; go_simp; with_reducible rfl⟩) ?_
    refine one_ (i := 2) (N := some 18) b2A3 rfl rfl (one_of HT_.o (by kernel_rfl)) (by decide) (fun K hK => ?_)
    refine goes_ Try.func95 (by kernel_rfl) rfl #[.int .i64 ((rd_T81 l0 x3_1).f0), .int .i64 1, .int .i64 999] (by rfl) rfl rfl M0 ?_
    with_reducible refine (spec_l1In.calls ((rd_T81 l0 x3_1).f0) 1 999 true _ A7.o).mono ?_
    rintro e w' ⟨rfl, ⟨nd, rfl⟩⟩
    refine ⟨_, rfl, ?_⟩
    refine hK.out _ _ ⟨(bc BK122.o 0).trans rfl, (bc BK122.o 1).trans rfl, (bc BK122.o 2).trans rfl, (cB HB.o hw126_0 :), (cB HB.o hw126_1 :), (cB HB.o hw126_2 :)⟩ (fun hHeld => ?_)
    clear hK K
    refine norm_ (a' := ?_) ?_ ?_
    rotate_left
    ·show Act.put _ (some 18) _ = _
     simp only [Act.put, sA, sZ, sS, i64_w, i32_w]
     rfl
    refine pI 3 (some 19) b2A4 HT_ ?_
    refine pI 4 (some 20) b2A5 HT_ ?_
    refine pI 5 (some 21) b2A6 HT_ ?_
    refine tI 6 (some 22) b2A7 HT_ HW_ hHeld rfl rfl (Or.inl ⟨by rfl, by rintro w' ⟨s0, s1, s2, s3, s4, s5⟩; go_simp; with_reducible rfl⟩) ?_
    refine one_ (i := 7) (N := some 23) b2A8 rfl rfl (one_of HT_.o (by kernel_rfl)) (by decide) (fun K hK => ?_)
    refine goes_ Try.func95 (by kernel_rfl) rfl #[.int .i64 ((rd_T81 l0 x3_1).f1), .int .i64 1, .int .i64 999] (by rfl) rfl rfl M0 ?_
    with_reducible refine (spec_l1In.calls ((rd_T81 l0 x3_1).f1) 1 999 true _ A9.o).mono ?_
    rintro e w' ⟨rfl, ⟨nd, rfl⟩⟩
    refine ⟨_, rfl, ?_⟩
    refine hK.out _ _ ⟨(bc BK122.o 0).trans rfl, (bc BK122.o 1).trans rfl, (bc BK122.o 2).trans rfl, (cB HB.o hw126_0 :), (cB HB.o hw126_1 :), (cB HB.o hw126_2 :)⟩ (fun hHeld => ?_)
    clear hK K
    refine norm_ (a' := ?_) ?_ ?_
    rotate_left
    ·show Act.put _ (some 23) _ = _
     simp only [Act.put, sA, sZ, sS, i64_w, i32_w]
     rfl
    refine pI 8 (some 24) b2A9 HT_ ?_
    refine pI 9 (some 25) b2A10 HT_ ?_
    refine pI 10 (some 26) b2A11 HT_ ?_
    refine pI 11 (some 27) b2A12 HT_ ?_
    refine tI 12 (some 28) b2A13 HT_ HW_ hHeld rfl rfl (Or.inl ⟨by rfl, by rintro w' ⟨s0, s1, s2, s3, s4, s5⟩; go_simp; with_reducible rfl⟩) ?_
    refine one_ (i := 13) (N := some 29) b2A14 rfl rfl (one_of HT_.o (by kernel_rfl)) (by decide) (fun K hK => ?_)
    refine goes_ Try.func95 (by kernel_rfl) rfl #[.int .i64 ((rd_T81 l0 x3_1).f2), .int .i64 0, .int .i64 100000] (by rfl) rfl rfl M0 ?_
    with_reducible refine (spec_l1In.calls ((rd_T81 l0 x3_1).f2) 0 100000 true _ A11.o).mono ?_
    rintro e w' ⟨rfl, ⟨nd, rfl⟩⟩
    refine ⟨_, rfl, ?_⟩
    refine hK.out _ _ ⟨(bc BK122.o 0).trans rfl, (bc BK122.o 1).trans rfl, (bc BK122.o 2).trans rfl, (cB HB.o hw126_0 :), (cB HB.o hw126_1 :), (cB HB.o hw126_2 :)⟩ (fun hHeld => ?_)
    clear hK K
    refine norm_ (a' := ?_) ?_ ?_
    rotate_left
    ·show Act.put _ (some 29) _ = _
     simp only [Act.put, sA, sZ, sS, i64_w, i32_w]
     rfl
    refine pI 14 (some 30) b2A15 HT_ ?_
    refine pI 15 (some 31) b2A16 HT_ ?_
    refine pI 16 (some 32) b2A17 HT_ ?_
    refine pI 17 (some 33) b2A18 HT_ ?_
    refine pI 18 (some 34) b2A19 HT_ ?_
    refine pI 19 (some 35) b2A20 HT_ ?_
    refine pI 20 (some 36) b2A21 HT_ ?_
    refine pI 21 (some 37) b2A22 HT_ ?_
    refine pI 22 (some 38) b2A23 HT_ ?_
    refine pI 23 (some 39) b2A24 HT_ ?_
    refine pI 24 (some 40) b2A25 HT_ ?_
    refine pI 26 (some 42) b2A26 HT_ ?_
    refine tI 25 (some 41) b2A27 HT_ HW_ hHeld rfl rfl (Or.inl ⟨by rfl, by rintro w' ⟨s0, s1, s2, s3, s4, s5⟩; go_simp; with_reducible rfl⟩) ?_
    refine tI 27 (some 43) b2A28 HT_ HW_ hHeld rfl rfl (Or.inl ⟨by rfl, by rintro w' ⟨s0, s1, s2, s3, s4, s5⟩; go_simp; with_reducible rfl⟩) ?_
    refine pI 28 (some 44) b2A29 HT_ ?_
    refine pI 29 (some 45) b2A30 HT_ ?_
    refine pI 30 (some 46) b2A31 HT_ ?_
    refine done_ (done_of HT_.o (by kernel_rfl)) ?_
    try go_wp2
    go_meet
    case rel => exact ⟨_, (decide (((rd_T81 l0 (ji14)).f2) > ((rd_T81 l0 x3_1).f2))), (by first | rfl | (simp; done) | (simp only [← hji14] <;> (first | rfl | simp)) | (simp [*]; done)), H', ⟨by have := HK1.o; first | omega | exact Nat.le_refl _⟩, ⟨by exact qK BK122.o⟩, ⟨by exact qX HB.o⟩⟩
   case rest =>
    clear HC4
    try clear c1
    try clear p2
    try clear c8
    try clear c9
    try clear c10
    obtain ⟨kq, x46_3, rfl, HA, HJ3, BK122, HB⟩ := hcut
    cases kq with
    | zero => exact absurd HA.o (by simp [spec_AreLetters.j1])
    | succ kj3 =>
     have H := HA.o
     clear HA
     simp only [spec_AreLetters.j1] at H
     by_cases c27 : x46_3 = true
     ·subst c27
      have H1 : (some false) = some r := by rw [if_pos rfl] at H; exact H
      clear H
      have H := H1
      clear H1
      obtain rfl := Option.some.inj H
      go_wp2
      go_ret
      exact ⟨by first | rfl | (simp [errW_none, errW_some] <;> rfl) | (simp [*, errW_none, errW_some] <;> rfl), by exact qX HB.o⟩
     replace c27 := Bool.eq_false_iff.mpr c27
     subst c27
     have H1 : (spec_AreLetters.l1 kj3 l0 x3_1 0 ((rd_T81 l0 x3_1).f0) ((rd_T81 l0 x3_1).f1) ((rd_T81 l0 x3_1).f2)) = some r := by rw [if_neg (show ¬ (false = true) by decide)] at H; exact H
     clear H
     have H := H1
     clear H1
     have H' := zK H
     clear H
     go_wp2
     go_loopg [5] kj3 (fun kq v5 w' => ∃ (x5_3 : Int), v5 = .int .i64 x5_3 ∧ Aside0 (spec_AreLetters.l1 kq l0 x3_1 x5_3 ((rd_T81 l0 x3_1).f0) ((rd_T81 l0 x3_1).f1) ((rd_T81 l0 x3_1).f2) = some r) ∧ Aside0 (kq ≤ kj3) ∧ Aside0 (w'.heap[gb122]? = some (.cells #[.int .i64 ((rd_T81 l0 x3_1).f0), .int .i64 ((rd_T81 l0 x3_1).f1), .int .i64 ((rd_T81 l0 x3_1).f2)] 81 (0, 0))) ∧ Aside0 (Below w.heap.size w w'))
     case atStart => exact ⟨(0), M7, H', ⟨Nat.le_refl _⟩, ⟨by exact qK BK122.o⟩, ⟨by exact qX HB.o⟩⟩
     case round =>
      clear H'
      try clear c1
      try clear c2
      try clear p2
      try clear c8
      try clear c9
      try clear c10
      try clear c27
      try clear p2
      obtain ⟨x5_3, rfl, HA, HK3, BK122, HB⟩ := hrel
      cases gk with
      | zero => exact absurd HA.o (by simp [spec_AreLetters.l1])
      | succ k3 =>
       have H := HA.o
       clear HA
       simp only [spec_AreLetters.l1] at H
       by_cases c28 : x5_3 < x3_1
       rotate_left
       ·rw [if_neg c28] at H
        have c28b0 : decide (x5_3 < x3_1) = false := decide_eq_false c28
        clear c28
        have H' := zK H
        clear H
        go_wp2
        go_roundg k3
        case measure => have := HK1.o; have := HJ3.o; have := HK3.o; omega
        case rel => exact ⟨(wrap64 (x3_1 + 1)), M7, H', ⟨by have := HK1.o; have := HJ3.o; have := HK3.o; omega⟩, ⟨by exact qX HB.o⟩⟩
       rw [if_pos c28] at H
       have c28b0 : decide (x5_3 < x3_1) = true := decide_eq_true c28
       clear c28
       by_cases c29 : 0 ≤ x5_3
       rotate_left
       ·rw [if_neg c29] at H
        exact absurd H (by simp)
       rw [if_pos c29] at H
       have c29b0 : decide (0 ≤ x5_3) = true := decide_eq_true c29
       clear c29
       by_cases c30 : x5_3 < (l0.length : Int)
       rotate_left
       ·rw [if_neg c30] at H
        exact absurd H (by simp)
       rw [if_pos c30] at H
       have c30b0 : decide (x5_3 < (l0.length : Int)) = true := decide_eq_true c30
       clear c30
       by_cases c31 : ((rd_T81 l0 x5_3).f0) = ((rd_T81 l0 x3_1).f0)
       rotate_left
       ·rw [if_neg c31] at H
        have c31b0 : (((rd_T81 l0 x5_3).f0) == ((rd_T81 l0 x3_1).f0)) = false := beq_eq_false_iff_ne.mpr c31
        have c31b1 : (((rd_T81 l0 x5_3).f0) != ((rd_T81 l0 x3_1).f0)) = true := bne_iff_ne.mpr c31
        have H' := zK H
        clear H
        try go_wp2
        have n0_ := zK (kD BK122.o)
        have n1_ := zK (below_drew1 HB.o)
        clear BK122
        clear HB
        have BK122 := n0_
        have HB := n1_
        clear n0_ n1_
        have p127 : 0 ≤ (x5_3 : Int) := oD M3
        have q127 : x5_3 < (l0.length : Int) := oD M3
        obtain ⟨ad127, e127, hx127_0, hx127_1, hx127_2⟩ := at_T81 HR0.o x5_3 p127 q127
        have hw127_2 := hx127_2
        have hw127_1 := hx127_1
        have hw127_0 := hx127_0
        obtain rfl : ad121 = ad127 := (by injection e127)
        replace hx127_0 := cB HB.o hx127_0
        replace hx127_1 := cB HB.o hx127_1
        replace hx127_2 := cB HB.o hx127_2
        replace p127 := eq_true p127
        replace q127 := eq_true q127
        refine start_ (n := 29) (S := fun w' => w'.cell? ⟨gb122, 0, none⟩ = some (.int .i64 ((rd_T81 l0 x3_1).f0)) ∧ w'.cell? ⟨gb122, 1, none⟩ = some (.int .i64 ((rd_T81 l0 x3_1).f1)) ∧ w'.cell? ⟨gb122, 2, none⟩ = some (.int .i64 ((rd_T81 l0 x3_1).f2)) ∧ w'.cell? (ad121.add ((x5_3).toNat * 3)) = some (.int .i64 ((rd_T81 l0 x5_3).f0)) ∧ w'.cell? ⟨(ad121.add ((x5_3).toNat * 3)).block, (ad121.add ((x5_3).toNat * 3)).off + 1, none⟩ = some (.int .i64 ((rd_T81 l0 x5_3).f1)) ∧ w'.cell? ⟨(ad121.add ((x5_3).toNat * 3)).block, (ad121.add ((x5_3).toNat * 3)).off + 2, none⟩ = some (.int .i64 ((rd_T81 l0 x5_3).f2))) (ds := []) b2A33 (by kernel_rfl) rfl rfl ⟨(bc BK122.o 0).trans rfl, (bc BK122.o 1).trans rfl, (bc BK122.o 2).trans rfl, (cB HB.o hw127_0 :), (cB HB.o hw127_1 :), (cB HB.o hw127_2 :)⟩ (fun hHeld => ?_); refine with_tabW spec_AreLetters.tab10 spec_AreLetters.bits10 (fun HT_ HW_ => ?_)
        generalize wr.drew = w37 at BK122 HB hx127_0 hx127_1 hx127_2 hHeld ⊢
        refine pI 0 (some 52) b2A34 HT_ ?_
        refine pI 1 (some 53) b2A35 HT_ ?_
        refine pI 2 (some 54) b2A36 HT_ ?_
        refine pI 3 (some 55) b2A37 HT_ ?_
        refine pI 5 (some 57) b2A38 HT_ ?_
        refine tI 4 (some 56) b2A39 HT_ HW_ hHeld rfl rfl (Or.inl ⟨by rfl, by rintro w' ⟨s0, s1, s2, s3, s4, s5⟩; go_simp; with_reducible rfl⟩) ?_
        refine tI 6 (some 58) b2A40 HT_ HW_ hHeld rfl rfl (Or.inl ⟨by rfl, by rintro w' ⟨s0, s1, s2, s3, s4, s5⟩; go_simp; with_reducible rfl⟩) ?_
        refine pI 7 (some 59) b2A41 HT_ ?_
        refine pI 8 (some 60) b2A42 HT_ ?_
        refine pU 9 (some 61) b2A43 HT_ ?_
        refine pU 10 (some 62) b2A44 HT_ ?_
        refine pU 11 (some 63) b2A45 HT_ ?_
        refine pU 12 (some 64) b2A46 HT_ ?_
        refine pU 13 (some 65) b2A67 HT_ ?_
        refine pU 14 (some 66) b2A48 HT_ ?_
        refine pU 15 (some 67) b2A49 HT_ ?_
        refine pU 16 (some 68) b2A50 HT_ ?_
        refine pU 17 (some 69) b2A51 HT_ ?_
        refine pU 18 (some 70) b2A52 HT_ ?_
        refine pU 19 (some 71) b2A53 HT_ ?_
        refine pU 20 (some 72) b2A54 HT_ ?_
        refine pU 21 (some 73) b2A55 HT_ ?_
        refine pU 22 (some 74) b2A56 HT_ ?_
        refine pU 23 (some 75) b2A57 HT_ ?_
        refine pU 24 (some 76) b2A58 HT_ ?_
        refine pU 25 (some 77) b2A59 HT_ ?_
        refine pU 26 (some 78) b2A60 HT_ ?_
        refine pU 27 (some 79) b2A61 HT_ ?_
        refine pI 28 (some 80) b2A62 HT_ ?_
        refine done_ (done_of HT_.o (by kernel_rfl)) ?_
        try go_wp2
        go_roundg k3
        case measure => have := HK1.o; have := HJ3.o; have := HK3.o; omega
        case rel => exact ⟨(wrap64 (x5_3 + 1)), M7, H', ⟨by have := HK1.o; have := HJ3.o; have := HK3.o; omega⟩, ⟨by exact qK BK122.o⟩, ⟨by exact qX HB.o⟩⟩
       rw [if_pos c31] at H
       have c31b0 : (((rd_T81 l0 x5_3).f0) == ((rd_T81 l0 x3_1).f0)) = true := beq_iff_eq.mpr c31
       have c31b1 : (((rd_T81 l0 x5_3).f0) != ((rd_T81 l0 x3_1).f0)) = false := bne_eq_false_iff_eq.mpr c31
       clear c31
       by_cases c32 : ((rd_T81 l0 x5_3).f1) = ((rd_T81 l0 x3_1).f1)
       ·rw [if_pos c32] at H
        have c32b0 : (((rd_T81 l0 x5_3).f1) == ((rd_T81 l0 x3_1).f1)) = true := beq_iff_eq.mpr c32
        have c32b1 : (((rd_T81 l0 x5_3).f1) != ((rd_T81 l0 x3_1).f1)) = false := bne_eq_false_iff_eq.mpr c32
        clear c32
        obtain rfl := Option.some.inj H
        try go_wp2
        have n0_ := zK (kD BK122.o)
        have n1_ := zK (below_drew1 HB.o)
        clear BK122
        clear HB
        have BK122 := n0_
        have HB := n1_
        clear n0_ n1_
        have p127 : 0 ≤ (x5_3 : Int) := oD M3
        have q127 : x5_3 < (l0.length : Int) := oD M3
        obtain ⟨ad127, e127, hx127_0, hx127_1, hx127_2⟩ := at_T81 HR0.o x5_3 p127 q127
        have hw127_2 := hx127_2
        have hw127_1 := hx127_1
        have hw127_0 := hx127_0
        obtain rfl : ad121 = ad127 := (by injection e127)
        replace hx127_0 := cB HB.o hx127_0
        replace hx127_1 := cB HB.o hx127_1
        replace hx127_2 := cB HB.o hx127_2
        replace p127 := eq_true p127
        replace q127 := eq_true q127
        have p128 : 0 ≤ (x5_3 : Int) := oD M3
        have q128 : x5_3 < (l0.length : Int) := oD M3
        obtain ⟨ad128, e128, hx128_0, hx128_1, hx128_2⟩ := at_T81 HR0.o x5_3 p128 q128
        have hw128_2 := hx128_2
        have hw128_1 := hx128_1
        have hw128_0 := hx128_0
        obtain rfl : ad121 = ad128 := (by injection e128)
        replace hx128_0 := cB HB.o hx128_0
        replace hx128_1 := cB HB.o hx128_1
        replace hx128_2 := cB HB.o hx128_2
        replace p128 := eq_true p128
        replace q128 := eq_true q128
        refine start_ (n := 29) (S := fun w' => w'.cell? ⟨gb122, 0, none⟩ = some (.int .i64 ((rd_T81 l0 x3_1).f0)) ∧ w'.cell? ⟨gb122, 1, none⟩ = some (.int .i64 ((rd_T81 l0 x3_1).f1)) ∧ w'.cell? ⟨gb122, 2, none⟩ = some (.int .i64 ((rd_T81 l0 x3_1).f2)) ∧ w'.cell? (ad121.add ((x5_3).toNat * 3)) = some (.int .i64 ((rd_T81 l0 x5_3).f0)) ∧ w'.cell? ⟨(ad121.add ((x5_3).toNat * 3)).block, (ad121.add ((x5_3).toNat * 3)).off + 1, none⟩ = some (.int .i64 ((rd_T81 l0 x5_3).f1)) ∧ w'.cell? ⟨(ad121.add ((x5_3).toNat * 3)).block, (ad121.add ((x5_3).toNat * 3)).off + 2, none⟩ = some (.int .i64 ((rd_T81 l0 x5_3).f2)) ∧ w'.cell? (ad121.add ((x5_3).toNat * 3)) = some (.int .i64 ((rd_T81 l0 x5_3).f0)) ∧ w'.cell? ⟨(ad121.add ((x5_3).toNat * 3)).block, (ad121.add ((x5_3).toNat * 3)).off + 1, none⟩ = some (.int .i64 ((rd_T81 l0 x5_3).f1)) ∧ w'.cell? ⟨(ad121.add ((x5_3).toNat * 3)).block, (ad121.add ((x5_3).toNat * 3)).off + 2, none⟩ = some (.int .i64 ((rd_T81 l0 x5_3).f2))) (ds := []) b2A33 (by kernel_rfl) rfl rfl ⟨(bc BK122.o 0).trans rfl, (bc BK122.o 1).trans rfl, (bc BK122.o 2).trans rfl, (cB HB.o hw127_0 :), (cB HB.o hw127_1 :), (cB HB.o hw127_2 :), (cB HB.o hw128_0 :), (cB HB.o hw128_1 :), (cB HB.o hw128_2 :)⟩ (fun hHeld => ?_); refine with_tabW spec_AreLetters.tab10 spec_AreLetters.bits10 (fun HT_ HW_ => ?_)
        generalize wr.drew = w33 at BK122 HB hx127_0 hx127_1 hx127_2 hx128_0 hx128_1 hx128_2 hHeld ⊢
        refine pI 0 (some 52) b2A34 HT_ ?_
        refine pI 1 (some 53) b2A35 HT_ ?_
        refine pI 2 (some 54) b2A36 HT_ ?_
        refine pI 3 (some 55) b2A37 HT_ ?_
        refine pI 5 (some 57) b2A38 HT_ ?_
        refine tI 4 (some 56) b2A39 HT_ HW_ hHeld rfl rfl (Or.inl ⟨by rfl, by rintro w' ⟨s0, s1, s2, s3, s4, s5, s6, s7, s8⟩; go_simp; with_reducible rfl⟩) ?_
        refine tI 6 (some 58) b2A40 HT_ HW_ hHeld rfl rfl (Or.inl ⟨by rfl, by rintro w' ⟨s0, s1, s2, s3, s4, s5, s6, s7, s8⟩; go_simp; with_reducible rfl⟩) ?_
        refine pI 7 (some 59) b2A41 HT_ ?_
        refine pI 8 (some 60) b2A42 HT_ ?_
        refine pI 9 (some 61) b2A43 HT_ ?_
        refine pI 10 (some 62) b2A44 HT_ ?_
        refine pI 11 (some 63) b2A45 HT_ ?_
        refine pI 12 (some 64) b2A46 HT_ ?_
        refine pI 14 (some 66) b2A47 HT_ ?_
        refine tI 13 (some 65) b2A48 HT_ HW_ hHeld rfl rfl (Or.inl ⟨by rfl, by rintro w' ⟨s0, s1, s2, s3, s4, s5, s6, s7, s8⟩; go_simp; with_reducible rfl⟩) ?_
        refine tI 15 (some 67) b2A49 HT_ HW_ hHeld rfl rfl (Or.inl ⟨by rfl, by rintro w' ⟨s0, s1, s2, s3, s4, s5, s6, s7, s8⟩; go_simp; with_reducible rfl⟩) ?_
        refine pI 16 (some 68) b2A50 HT_ ?_
        refine pI 17 (some 69) b2A51 HT_ ?_
        refine pU 18 (some 70) b2A52 HT_ ?_
        refine pU 19 (some 71) b2A53 HT_ ?_
        refine pU 20 (some 72) b2A54 HT_ ?_
        refine pU 21 (some 73) b2A55 HT_ ?_
        refine pU 22 (some 74) b2A56 HT_ ?_
        refine pU 23 (some 75) b2A57 HT_ ?_
        refine pU 24 (some 76) b2A58 HT_ ?_
        refine pU 25 (some 77) b2A59 HT_ ?_
        refine pU 26 (some 78) b2A60 HT_ ?_
        refine pI 27 (some 79) b2A61 HT_ ?_
        refine pI 28 (some 80) b2A62 HT_ ?_
        refine done_ (done_of HT_.o (by kernel_rfl)) ?_
        try go_wp2
        go_ret
        exact ⟨by first | rfl | (simp [errW_none, errW_some] <;> rfl) | (simp [*, errW_none, errW_some] <;> rfl), by exact qX HB.o⟩
       rw [if_neg c32] at H
       have c32b0 : (((rd_T81 l0 x5_3).f1) == ((rd_T81 l0 x3_1).f1)) = false := beq_eq_false_iff_ne.mpr c32
       have c32b1 : (((rd_T81 l0 x5_3).f1) != ((rd_T81 l0 x3_1).f1)) = true := bne_iff_ne.mpr c32
       by_cases c34 : (wrap64 (((rd_T81 l0 x3_1).f2) - ((rd_T81 l0 x5_3).f2))) < 168
       ·rw [if_pos c34] at H
        have c34b0 : decide ((wrap64 (((rd_T81 l0 x3_1).f2) - ((rd_T81 l0 x5_3).f2))) < 168) = true := decide_eq_true c34
        clear c34
        obtain rfl := Option.some.inj H
        try go_wp2
        have n0_ := zK (kD BK122.o)
        have n1_ := zK (below_drew1 HB.o)
        clear BK122
        clear HB
        have BK122 := n0_
        have HB := n1_
        clear n0_ n1_
        have p127 : 0 ≤ (x5_3 : Int) := oD M3
        have q127 : x5_3 < (l0.length : Int) := oD M3
        obtain ⟨ad127, e127, hx127_0, hx127_1, hx127_2⟩ := at_T81 HR0.o x5_3 p127 q127
        have hw127_2 := hx127_2
        have hw127_1 := hx127_1
        have hw127_0 := hx127_0
        obtain rfl : ad121 = ad127 := (by injection e127)
        replace hx127_0 := cB HB.o hx127_0
        replace hx127_1 := cB HB.o hx127_1
        replace hx127_2 := cB HB.o hx127_2
        replace p127 := eq_true p127
        replace q127 := eq_true q127
        have p128 : 0 ≤ (x5_3 : Int) := oD M3
        have q128 : x5_3 < (l0.length : Int) := oD M3
        obtain ⟨ad128, e128, hx128_0, hx128_1, hx128_2⟩ := at_T81 HR0.o x5_3 p128 q128
        have hw128_2 := hx128_2
        have hw128_1 := hx128_1
        have hw128_0 := hx128_0
        obtain rfl : ad121 = ad128 := (by injection e128)
        replace hx128_0 := cB HB.o hx128_0
        replace hx128_1 := cB HB.o hx128_1
        replace hx128_2 := cB HB.o hx128_2
        replace p128 := eq_true p128
        replace q128 := eq_true q128
        have p129 : 0 ≤ (x5_3 : Int) := oD M3
        have q129 : x5_3 < (l0.length : Int) := oD M3
        obtain ⟨ad129, e129, hx129_0, hx129_1, hx129_2⟩ := at_T81 HR0.o x5_3 p129 q129
        have hw129_2 := hx129_2
        have hw129_1 := hx129_1
        have hw129_0 := hx129_0
        obtain rfl : ad121 = ad129 := (by injection e129)
        replace hx129_0 := cB HB.o hx129_0
        replace hx129_1 := cB HB.o hx129_1
        replace hx129_2 := cB HB.o hx129_2
        replace p129 := eq_true p129
        replace q129 := eq_true q129
        refine start_ (n := 29) (S := fun w' => w'.cell? ⟨gb122, 0, none⟩ = some (.int .i64 ((rd_T81 l0 x3_1).f0)) ∧ w'.cell? ⟨gb122, 1, none⟩ = some (.int .i64 ((rd_T81 l0 x3_1).f1)) ∧ w'.cell? ⟨gb122, 2, none⟩ = some (.int .i64 ((rd_T81 l0 x3_1).f2)) ∧ w'.cell? (ad121.add ((x5_3).toNat * 3)) = some (.int .i64 ((rd_T81 l0 x5_3).f0)) ∧ w'.cell? ⟨(ad121.add ((x5_3).toNat * 3)).block, (ad121.add ((x5_3).toNat * 3)).off + 1, none⟩ = some (.int .i64 ((rd_T81 l0 x5_3).f1)) ∧ w'.cell? ⟨(ad121.add ((x5_3).toNat * 3)).block, (ad121.add ((x5_3).toNat * 3)).off + 2, none⟩ = some (.int .i64 ((rd_T81 l0 x5_3).f2)) ∧ w'.cell? (ad121.add ((x5_3).toNat * 3)) = some (.int .i64 ((rd_T81 l0 x5_3).f0)) ∧ w'.cell? ⟨(ad121.add ((x5_3).toNat * 3)).block, (ad121.add ((x5_3).toNat * 3)).off + 1, none⟩ = some (.int .i64 ((rd_T81 l0 x5_3).f1)) ∧ w'.cell? ⟨(ad121.add ((x5_3).toNat * 3)).block, (ad121.add ((x5_3).toNat * 3)).off + 2, none⟩ = some (.int .i64 ((rd_T81 l0 x5_3).f2)) ∧ w'.cell? (ad121.add ((x5_3).toNat * 3)) = some (.int .i64 ((rd_T81 l0 x5_3).f0)) ∧ w'.cell? ⟨(ad121.add ((x5_3).toNat * 3)).block, (ad121.add ((x5_3).toNat * 3)).off + 1, none⟩ = some (.int .i64 ((rd_T81 l0 x5_3).f1)) ∧ w'.cell? ⟨(ad121.add ((x5_3).toNat * 3)).block, (ad121.add ((x5_3).toNat * 3)).off + 2, none⟩ = some (.int .i64 ((rd_T81 l0 x5_3).f2))) (ds := []) b2A33 (by kernel_rfl) rfl rfl ⟨(bc BK122.o 0).trans rfl, (bc BK122.o 1).trans rfl, (bc BK122.o 2).trans rfl, (cB HB.o hw127_0 :), (cB HB.o hw127_1 :), (cB HB.o hw127_2 :), (cB HB.o hw128_0 :), (cB HB.o hw128_1 :), (cB HB.o hw128_2 :), (cB HB.o hw129_0 :), (cB HB.o hw129_1 :), (cB HB.o hw129_2 :)⟩ (fun hHeld => ?_); refine with_tabW spec_AreLetters.tab10 spec_AreLetters.bits10 (fun HT_ HW_ => ?_)
        generalize wr.drew = w35 at BK122 HB hx127_0 hx127_1 hx127_2 hx128_0 hx128_1 hx128_2 hx129_0 hx129_1 hx129_2 hHeld ⊢
        refine pI 0 (some 52) b2A34 HT_ ?_
        refine pI 1 (some 53) b2A35 HT_ ?_
        refine pI 2 (some 54) b2A36 HT_ ?_
        refine pI 3 (some 55) b2A37 HT_ ?_
        refine pI 5 (some 57) b2A38 HT_ ?_
        refine tI 4 (some 56) b2A39 HT_ HW_ hHeld rfl rfl (Or.inl ⟨by rfl, by rintro w' ⟨s0, s1, s2, s3, s4, s5, s6, s7, s8, s9, s10, s11⟩; go_simp; with_reducible rfl⟩) ?_
        refine tI 6 (some 58) b2A40 HT_ HW_ hHeld rfl rfl (Or.inl ⟨by rfl, by rintro w' ⟨s0, s1, s2, s3, s4, s5, s6, s7, s8, s9, s10, s11⟩; go_simp; with_reducible rfl⟩) ?_
        refine pI 7 (some 59) b2A41 HT_ ?_
        refine pI 8 (some 60) b2A42 HT_ ?_
        refine pI 9 (some 61) b2A43 HT_ ?_
        refine pI 10 (some 62) b2A44 HT_ ?_
        refine pI 11 (some 63) b2A45 HT_ ?_
        refine pI 12 (some 64) b2A46 HT_ ?_
        refine pI 14 (some 66) b2A47 HT_ ?_
        refine tI 13 (some 65) b2A48 HT_ HW_ hHeld rfl rfl (Or.inl ⟨by rfl, by rintro w' ⟨s0, s1, s2, s3, s4, s5, s6, s7, s8, s9, s10, s11⟩; go_simp; with_reducible rfl⟩) ?_
        refine tI 15 (some 67) b2A49 HT_ HW_ hHeld rfl rfl (Or.inl ⟨by rfl, by rintro w' ⟨s0, s1, s2, s3, s4, s5, s6, s7, s8, s9, s10, s11⟩; go_simp; with_reducible rfl⟩) ?_
        refine pI 16 (some 68) b2A50 HT_ ?_
        refine pI 17 (some 69) b2A51 HT_ ?_
        refine pI 18 (some 70) b2A52 HT_ ?_
        refine pI 20 (some 72) b2A63 HT_ ?_
        refine pI 21 (some 73) b2A64 HT_ ?_
        refine pI 22 (some 74) b2A65 HT_ ?_
        refine pI 23 (some 75) b2A66 HT_ ?_
        refine tI 19 (some 71) b2A57 HT_ HW_ hHeld rfl rfl (Or.inl ⟨by rfl, by rintro w' ⟨s0, s1, s2, s3, s4, s5, s6, s7, s8, s9, s10, s11⟩; go_simp; with_reducible rfl⟩) ?_
        refine tI 24 (some 76) b2A58 HT_ HW_ hHeld rfl rfl (Or.inl ⟨by rfl, by rintro w' ⟨s0, s1, s2, s3, s4, s5, s6, s7, s8, s9, s10, s11⟩; go_simp; with_reducible rfl⟩) ?_
        refine pI 25 (some 77) b2A59 HT_ ?_
        refine pI 26 (some 78) b2A60 HT_ ?_
        refine pI 27 (some 79) b2A61 HT_ ?_
        refine pI 28 (some 80) b2A62 HT_ ?_
        refine done_ (done_of HT_.o (by kernel_rfl)) ?_
        try go_wp2
        go_ret
        exact ⟨by first | rfl | (simp [errW_none, errW_some] <;> rfl) | (simp [*, errW_none, errW_some] <;> rfl), by exact qX HB.o⟩
       rw [if_neg c34] at H
       have c34b0 : decide ((wrap64 (((rd_T81 l0 x3_1).f2) - ((rd_T81 l0 x5_3).f2))) < 168) = false := decide_eq_false c34
       clear c34
       have H' := zK H
       clear H
       try go_wp2
       have n0_ := zK (kD BK122.o)
       have n1_ := zK (below_drew1 HB.o)
       clear BK122
       clear HB
       have BK122 := n0_
       have HB := n1_
       clear n0_ n1_
       have p127 : 0 ≤ (x5_3 : Int) := oD M3
       have q127 : x5_3 < (l0.length : Int) := oD M3
       obtain ⟨ad127, e127, hx127_0, hx127_1, hx127_2⟩ := at_T81 HR0.o x5_3 p127 q127
       have hw127_2 := hx127_2
       have hw127_1 := hx127_1
       have hw127_0 := hx127_0
       obtain rfl : ad121 = ad127 := (by injection e127)
       replace hx127_0 := cB HB.o hx127_0
       replace hx127_1 := cB HB.o hx127_1
       replace hx127_2 := cB HB.o hx127_2
       replace p127 := eq_true p127
       replace q127 := eq_true q127
       have p128 : 0 ≤ (x5_3 : Int) := oD M3
       have q128 : x5_3 < (l0.length : Int) := oD M3
       obtain ⟨ad128, e128, hx128_0, hx128_1, hx128_2⟩ := at_T81 HR0.o x5_3 p128 q128
       have hw128_2 := hx128_2
       have hw128_1 := hx128_1
       have hw128_0 := hx128_0
       obtain rfl : ad121 = ad128 := (by injection e128)
       replace hx128_0 := cB HB.o hx128_0
       replace hx128_1 := cB HB.o hx128_1
       replace hx128_2 := cB HB.o hx128_2
       replace p128 := eq_true p128
       replace q128 := eq_true q128
       have p129 : 0 ≤ (x5_3 : Int) := oD M3
       have q129 : x5_3 < (l0.length : Int) := oD M3
       obtain ⟨ad129, e129, hx129_0, hx129_1, hx129_2⟩ := at_T81 HR0.o x5_3 p129 q129
       have hw129_2 := hx129_2
       have hw129_1 := hx129_1
       have hw129_0 := hx129_0
       obtain rfl : ad121 = ad129 := (by injection e129)
       replace hx129_0 := cB HB.o hx129_0
       replace hx129_1 := cB HB.o hx129_1
       replace hx129_2 := cB HB.o hx129_2
       replace p129 := eq_true p129
       replace q129 := eq_true q129
       refine start_ (n := 29) (S := fun w' => w'.cell? ⟨gb122, 0, none⟩ = some (.int .i64 ((rd_T81 l0 x3_1).f0)) ∧ w'.cell? ⟨gb122, 1, none⟩ = some (.int .i64 ((rd_T81 l0 x3_1).f1)) ∧ w'.cell? ⟨gb122, 2, none⟩ = some (.int .i64 ((rd_T81 l0 x3_1).f2)) ∧ w'.cell? (ad121.add ((x5_3).toNat * 3)) = some (.int .i64 ((rd_T81 l0 x5_3).f0)) ∧ w'.cell? ⟨(ad121.add ((x5_3).toNat * 3)).block, (ad121.add ((x5_3).toNat * 3)).off + 1, none⟩ = some (.int .i64 ((rd_T81 l0 x5_3).f1)) ∧ w'.cell? ⟨(ad121.add ((x5_3).toNat * 3)).block, (ad121.add ((x5_3).toNat * 3)).off + 2, none⟩ = some (.int .i64 ((rd_T81 l0 x5_3).f2)) ∧ w'.cell? (ad121.add ((x5_3).toNat * 3)) = some (.int .i64 ((rd_T81 l0 x5_3).f0)) ∧ w'.cell? ⟨(ad121.add ((x5_3).toNat * 3)).block, (ad121.add ((x5_3).toNat * 3)).off + 1, none⟩ = some (.int .i64 ((rd_T81 l0 x5_3).f1)) ∧ w'.cell? ⟨(ad121.add ((x5_3).toNat * 3)).block, (ad121.add ((x5_3).toNat * 3)).off + 2, none⟩ = some (.int .i64 ((rd_T81 l0 x5_3).f2)) ∧ w'.cell? (ad121.add ((x5_3).toNat * 3)) = some (.int .i64 ((rd_T81 l0 x5_3).f0)) ∧ w'.cell? ⟨(ad121.add ((x5_3).toNat * 3)).block, (ad121.add ((x5_3).toNat * 3)).off + 1, none⟩ = some (.int .i64 ((rd_T81 l0 x5_3).f1)) ∧ w'.cell? ⟨(ad121.add ((x5_3).toNat * 3)).block, (ad121.add ((x5_3).toNat * 3)).off + 2, none⟩ = some (.int .i64 ((rd_T81 l0 x5_3).f2))) (ds := []) b2A33 (by kernel_rfl) rfl rfl ⟨(bc BK122.o 0).trans rfl, (bc BK122.o 1).trans rfl, (bc BK122.o 2).trans rfl, (cB HB.o hw127_0 :), (cB HB.o hw127_1 :), (cB HB.o hw127_2 :), (cB HB.o hw128_0 :), (cB HB.o hw128_1 :), (cB HB.o hw128_2 :), (cB HB.o hw129_0 :), (cB HB.o hw129_1 :), (cB HB.o hw129_2 :)⟩ (fun hHeld => ?_); refine with_tabW spec_AreLetters.tab10 spec_AreLetters.bits10 (fun HT_ HW_ => ?_)
       generalize wr.drew = w36 at BK122 HB hx127_0 hx127_1 hx127_2 hx128_0 hx128_1 hx128_2 hx129_0 hx129_1 hx129_2 hHeld ⊢
       refine pI 0 (some 52) b2A34 HT_ ?_
       refine pI 1 (some 53) b2A35 HT_ ?_
       refine pI 2 (some 54) b2A36 HT_ ?_
       refine pI 3 (some 55) b2A37 HT_ ?_
       refine pI 5 (some 57) b2A38 HT_ ?_
       refine tI 4 (some 56) b2A39 HT_ HW_ hHeld rfl rfl (Or.inl ⟨by rfl, by rintro w' ⟨s0, s1, s2, s3, s4, s5, s6, s7, s8, s9, s10, s11⟩; go_simp; with_reducible rfl⟩) ?_
       refine tI 6 (some 58) b2A40 HT_ HW_ hHeld rfl rfl (Or.inl ⟨by rfl, by rintro w' ⟨s0, s1, s2, s3, s4, s5, s6, s7, s8, s9, s10, s11⟩; go_simp; with_reducible rfl⟩) ?_
       refine pI 7 (some 59) b2A41 HT_ ?_
       refine pI 8 (some 60) b2A42 HT_ ?_
       refine pI 9 (some 61) b2A43 HT_ ?_
       refine pI 10 (some 62) b2A44 HT_ ?_
       refine pI 11 (some 63) b2A45 HT_ ?_
       refine pI 12 (some 64) b2A46 HT_ ?_
       refine pI 14 (some 66) b2A47 HT_ ?_
       refine tI 13 (some 65) b2A48 HT_ HW_ hHeld rfl rfl (Or.inl ⟨by rfl, by rintro w' ⟨s0, s1, s2, s3, s4, s5, s6, s7, s8, s9, s10, s11⟩; go_simp; with_reducible rfl⟩) ?_
       refine tI 15 (some 67) b2A49 HT_ HW_ hHeld rfl rfl (Or.inl ⟨by rfl, by rintro w' ⟨s0, s1, s2, s3, s4, s5, s6, s7, s8, s9, s10, s11⟩; go_simp; with_reducible rfl⟩) ?_
       refine pI 16 (some 68) b2A50 HT_ ?_
       refine pI 17 (some 69) b2A51 HT_ ?_
       refine pI 18 (some 70) b2A52 HT_ ?_
       refine pI 20 (some 72) b2A63 HT_ ?_
       refine pI 21 (some 73) b2A64 HT_ ?_
       refine pI 22 (some 74) b2A65 HT_ ?_
       refine pI 23 (some 75) b2A66 HT_ ?_
       refine tI 19 (some 71) b2A57 HT_ HW_ hHeld rfl rfl (Or.inl ⟨by rfl, by rintro w' ⟨s0, s1, s2, s3, s4, s5, s6, s7, s8, s9, s10, s11⟩; go_simp; with_reducible rfl⟩) ?_
       refine tI 24 (some 76) b2A58 HT_ HW_ hHeld rfl rfl (Or.inl ⟨by rfl, by rintro w' ⟨s0, s1, s2, s3, s4, s5, s6, s7, s8, s9, s10, s11⟩; go_simp; with_reducible rfl⟩) ?_
       refine pI 25 (some 77) b2A59 HT_ ?_
       refine pI 26 (some 78) b2A60 HT_ ?_
       refine pI 27 (some 79) b2A61 HT_ ?_
       refine pI 28 (some 80) b2A62 HT_ ?_
       refine done_ (done_of HT_.o (by kernel_rfl)) ?_
       try go_wp2
       go_roundg k3
       case measure => have := HK1.o; have := HJ3.o; have := HK3.o; omega
       case rel => exact ⟨(wrap64 (x5_3 + 1)), M7, H', ⟨by have := HK1.o; have := HJ3.o; have := HK3.o; omega⟩, ⟨by exact qK BK122.o⟩, ⟨by exact qX HB.o⟩⟩
end Go.Proofs.Ytpkdbkheggfkkaa.PFnLetters
