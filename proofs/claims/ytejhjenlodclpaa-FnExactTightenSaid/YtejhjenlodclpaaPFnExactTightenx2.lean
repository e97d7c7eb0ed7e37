/- Walks of functions that FnExactTighten reaches: written by a tool of the kit for this claim, then shortened by a program of ours. -/
import Derived.Test.YtejhjenlodclpaaPFnExactTightenx0
import Derived.Test.YtejhjenlodclpaaPFnExactTightenx1
/- narrow -/
namespace Go.Proofs.Ytejhjenlodclpaa.PFnExactTighten
open Go.RowKit Go.Proofs.YtejhjenlodclpaaW.PrintWords Go.Proofs.YtejhjenlodclpaaW.PrintLast Go.Proofs.YtejhjenlodclpaaW.PrintMore
attribute [local go_sem] max2_int min2_int max_two min_two max_three min_three max_four min_four   -- for this text's walks alone
set_option linter.unusedVariables false
set_option linter.unusedSimpArgs false

abbrev b2A0 : Array Bool := #[bo, bo, bo, bo, bo, bo, bo, bo, bo, bo, bo, bo, bo, bo, bo, bo, bo, bo, bo, bo, bo, bo, bo, bo, bo, bo, bo, bo, bo, bo, bo, bo, bo, bo, bo, bo, bo, bo, bo, bo, bo, bo, bo]
abbrev b2A1 : Array Bool := #[bi, bo, bo, bo, bo, bo, bo, bo, bo, bo, bo, bo, bo, bo, bo, bo, bo, bo, bo, bo, bo, bo, bo, bo, bo, bo, bo, bo, bo, bo, bo, bo, bo, bo, bo, bo, bo, bo, bo, bo, bo, bo, bo]
abbrev b2A2 : Array Bool := #[bi, bi, bo, bo, bo, bo, bo, bo, bo, bo, bo, bo, bo, bo, bo, bo, bo, bo, bo, bo, bo, bo, bo, bo, bo, bo, bo, bo, bo, bo, bo, bo, bo, bo, bo, bo, bo, bo, bo, bo, bo, bo, bo]
abbrev b2A3 : Array Bool := #[bi, bi, bi, bo, bo, bo, bo, bo, bo, bo, bo, bo, bo, bo, bo, bo, bo, bo, bo, bo, bo, bo, bo, bo, bo, bo, bo, bo, bo, bo, bo, bo, bo, bo, bo, bo, bo, bo, bo, bo, bo, bo, bo]
abbrev b2A4 : Array Bool := #[bi, bi, bi, bi, bo, bo, bo, bo, bo, bo, bo, bo, bo, bo, bo, bo, bo, bo, bo, bo, bo, bo, bo, bo, bo, bo, bo, bo, bo, bo, bo, bo, bo, bo, bo, bo, bo, bo, bo, bo, bo, bo, bo]
abbrev b2A5 : Array Bool := #[bi, bi, bi, bi, bi, bo, bo, bo, bo, bo, bo, bo, bo, bo, bo, bo, bo, bo, bo, bo, bo, bo, bo, bo, bo, bo, bo, bo, bo, bo, bo, bo, bo, bo, bo, bo, bo, bo, bo, bo, bo, bo, bo]
abbrev b2A6 : Array Bool := #[bi, bi, bi, bi, bi, bi, bo, bo, bo, bo, bo, bo, bo, bo, bo, bo, bo, bo, bo, bo, bo, bo, bo, bo, bo, bo, bo, bo, bo, bo, bo, bo, bo, bo, bo, bo, bo, bo, bo, bo, bo, bo, bo]
abbrev b2A7 : Array Bool := #[bi, bi, bi, bi, bi, bi, bi, bo, bo, bo, bo, bo, bo, bo, bo, bo, bo, bo, bo, bo, bo, bo, bo, bo, bo, bo, bo, bo, bo, bo, bo, bo, bo, bo, bo, bo, bo, bo, bo, bo, bo, bo, bo]
abbrev b2A8 : Array Bool := #[bi, bi, bi, bi, bi, bi, bi, bi, bo, bo, bo, bo, bo, bo, bo, bo, bo, bo, bo, bo, bo, bo, bo, bo, bo, bo, bo, bo, bo, bo, bo, bo, bo, bo, bo, bo, bo, bo, bo, bo, bo, bo, bo]
abbrev b2A9 : Array Bool := #[bi, bi, bi, bi, bi, bi, bi, bi, bi, bo, bo, bo, bo, bo, bo, bo, bo, bo, bo, bo, bo, bo, bo, bo, bo, bo, bo, bo, bo, bo, bo, bo, bo, bo, bo, bo, bo, bo, bo, bo, bo, bo, bo]
abbrev b2A10 : Array Bool := #[bi, bi, bi, bi, bi, bi, bi, bi, bi, bi, bo, bo, bo, bo, bo, bo, bo, bo, bo, bo, bo, bo, bo, bo, bo, bo, bo, bo, bo, bo, bo, bo, bo, bo, bo, bo, bo, bo, bo, bo, bo, bo, bo]
abbrev b2A11 : Array Bool := #[bi, bi, bi, bi, bi, bi, bi, bi, bi, bi, bi, bo, bo, bo, bo, bo, bo, bo, bo, bo, bo, bo, bo, bo, bo, bo, bo, bo, bo, bo, bo, bo, bo, bo, bo, bo, bo, bo, bo, bo, bo, bo, bo]
abbrev b2A12 : Array Bool := #[bi, bi, bi, bi, bi, bi, bi, bi, bi, bi, bi, bi, bo, bo, bo, bo, bo, bo, bo, bo, bo, bo, bo, bo, bo, bo, bo, bo, bo, bo, bo, bo, bo, bo, bo, bo, bo, bo, bo, bo, bo, bo, bo]
abbrev b2A13 : Array Bool := #[bi, bi, bi, bi, bi, bi, bi, bi, bi, bi, bi, bi, bi, bo, bo, bo, bo, bo, bo, bo, bo, bo, bo, bo, bo, bo, bo, bo, bo, bo, bo, bo, bo, bo, bo, bo, bo, bo, bo, bo, bo, bo, bo]
abbrev b2A14 : Array Bool := #[bi, bi, bi, bi, bi, bi, bi, bi, bi, bi, bi, bi, bi, bi, bo, bo, bo, bo, bo, bo, bo, bo, bo, bo, bo, bo, bo, bo, bo, bo, bo, bo, bo, bo, bo, bo, bo, bo, bo, bo, bo, bo, bo]
abbrev b2A15 : Array Bool := #[bi, bi, bi, bi, bi, bi, bi, bi, bi, bi, bi, bi, bi, bi, bi, bo, bo, bo, bo, bo, bo, bo, bo, bo, bo, bo, bo, bo, bo, bo, bo, bo, bo, bo, bo, bo, bo, bo, bo, bo, bo, bo, bo]
abbrev b2A16 : Array Bool := #[bi, bi, bi, bi, bi, bi, bi, bi, bi, bi, bi, bi, bi, bi, bi, bi, bo, bo, bo, bo, bo, bo, bo, bo, bo, bo, bo, bo, bo, bo, bo, bo, bo, bo, bo, bo, bo, bo, bo, bo, bo, bo, bo]
abbrev b2A17 : Array Bool := #[bi, bi, bi, bi, bi, bi, bi, bi, bi, bi, bi, bi, bi, bi, bi, bi, bi, bo, bo, bo, bo, bo, bo, bo, bo, bo, bo, bo, bo, bo, bo, bo, bo, bo, bo, bo, bo, bo, bo, bo, bo, bo, bo]
abbrev b2A18 : Array Bool := #[bi, bi, bi, bi, bi, bi, bi, bi, bi, bi, bi, bi, bi, bi, bi, bi, bi, bi, bo, bo, bo, bo, bo, bo, bo, bo, bo, bo, bo, bo, bo, bo, bo, bo, bo, bo, bo, bo, bo, bo, bo, bo, bo]
abbrev b2A19 : Array Bool := #[bi, bi, bi, bi, bi, bi, bi, bi, bi, bi, bi, bi, bi, bi, bi, bi, bi, bi, bi, bo, bo, bo, bo, bo, bo, bo, bo, bo, bo, bo, bo, bo, bo, bo, bo, bo, bo, bo, bo, bo, bo, bo, bo]
abbrev b2A20 : Array Bool := #[bi, bi, bi, bi, bi, bi, bi, bi, bi, bi, bi, bi, bi, bi, bi, bi, bi, bi, bi, bi, bo, bo, bo, bo, bo, bo, bo, bo, bo, bo, bo, bo, bo, bo, bo, bo, bo, bo, bo, bo, bo, bo, bo]
abbrev b2A21 : Array Bool := #[bi, bi, bi, bi, bi, bi, bi, bi, bi, bi, bi, bi, bi, bi, bi, bi, bi, bi, bi, bi, bi, bo, bo, bo, bo, bo, bo, bo, bo, bo, bo, bo, bo, bo, bo, bo, bo, bo, bo, bo, bo, bo, bo]
abbrev b2A22 : Array Bool := #[bi, bi, bi, bi, bi, bi, bi, bi, bi, bi, bi, bi, bi, bi, bi, bi, bi, bi, bi, bi, bi, bi, bo, bo, bo, bo, bo, bo, bo, bo, bo, bo, bo, bo, bo, bo, bo, bo, bo, bo, bo, bo, bo]
abbrev b2A23 : Array Bool := #[bi, bi, bi, bi, bi, bi, bi, bi, bi, bi, bi, bi, bi, bi, bi, bi, bi, bi, bi, bi, bi, bi, bi, bo, bo, bo, bo, bo, bo, bo, bo, bo, bo, bo, bo, bo, bo, bo, bo, bo, bo, bo, bo]
abbrev b2A24 : Array Bool := #[bi, bi, bi, bi, bi, bi, bi, bi, bi, bi, bi, bi, bi, bi, bi, bi, bi, bi, bi, bi, bi, bi, bi, bi, bo, bo, bo, bo, bo, bo, bo, bo, bo, bo, bo, bo, bo, bo, bo, bo, bo, bo, bo]
abbrev b2A25 : Array Bool := #[bi, bi, bi, bi, bi, bi, bi, bi, bi, bi, bi, bi, bi, bi, bi, bi, bi, bi, bi, bi, bi, bi, bi, bi, bi, bo, bo, bo, bo, bo, bo, bo, bo, bo, bo, bo, bo, bo, bo, bo, bo, bo, bo]
abbrev b2A26 : Array Bool := #[bi, bi, bi, bi, bi, bi, bi, bi, bi, bi, bi, bi, bi, bi, bi, bi, bi, bi, bi, bi, bi, bi, bi, bi, bi, bi, bo, bo, bo, bo, bo, bo, bo, bo, bo, bo, bo, bo, bo, bo, bo, bo, bo]
abbrev b2A27 : Array Bool := #[bi, bi, bi, bi, bi, bi, bi, bi, bi, bi, bi, bi, bi, bi, bi, bi, bi, bi, bi, bi, bi, bi, bi, bi, bi, bi, bi, bo, bo, bo, bo, bo, bo, bo, bo, bo, bo, bo, bo, bo, bo, bo, bo]
abbrev b2A28 : Array Bool := #[bi, bi, bi, bi, bi, bi, bi, bi, bi, bi, bi, bi, bi, bi, bi, bi, bi, bi, bi, bi, bi, bi, bi, bi, bi, bi, bi, bi, bo, bo, bo, bo, bo, bo, bo, bo, bo, bo, bo, bo, bo, bo, bo]
abbrev b2A29 : Array Bool := #[bi, bi, bi, bi, bi, bi, bi, bi, bi, bi, bi, bi, bi, bi, bi, bi, bi, bi, bi, bi, bi, bi, bi, bi, bi, bi, bi, bi, bi, bo, bo, bo, bo, bo, bo, bo, bo, bo, bo, bo, bo, bo, bo]
abbrev b2A30 : Array Bool := #[bi, bi, bi, bi, bi, bi, bi, bi, bi, bi, bi, bi, bi, bi, bi, bi, bi, bi, bi, bi, bi, bi, bi, bi, bi, bi, bi, bi, bi, bi, bo, bo, bo, bo, bo, bo, bo, bo, bo, bo, bo, bo, bo]
abbrev b2A31 : Array Bool := #[bi, bi, bi, bi, bi, bi, bi, bi, bi, bi, bi, bi, bi, bi, bi, bi, bi, bi, bi, bi, bi, bi, bi, bi, bi, bi, bi, bi, bi, bi, bi, bo, bo, bo, bo, bo, bo, bo, bo, bo, bo, bo, bo]
abbrev b2A32 : Array Bool := #[bi, bi, bi, bi, bi, bi, bi, bi, bi, bi, bi, bi, bi, bi, bi, bi, bi, bi, bi, bi, bi, bi, bi, bi, bi, bi, bi, bi, bi, bi, bi, bi, bo, bo, bo, bo, bo, bo, bo, bo, bo, bo, bo]
abbrev b2A33 : Array Bool := #[bi, bi, bi, bi, bi, bi, bi, bi, bi, bi, bi, bi, bi, bi, bi, bi, bi, bi, bi, bi, bi, bi, bi, bi, bi, bi, bi, bi, bi, bi, bi, bi, bi, bo, bo, bo, bo, bo, bo, bo, bo, bo, bo]
abbrev b2A34 : Array Bool := #[bi, bi, bi, bi, bi, bi, bi, bi, bi, bi, bi, bi, bi, bi, bi, bi, bi, bi, bi, bi, bi, bi, bi, bi, bi, bi, bi, bi, bi, bi, bi, bi, bi, bi, bo, bo, bo, bo, bo, bo, bo, bo, bo]
abbrev b2A35 : Array Bool := #[bi, bi, bi, bi, bi, bi, bi, bi, bi, bi, bi, bi, bi, bi, bi, bi, bi, bi, bi, bi, bi, bi, bi, bi, bi, bi, bi, bi, bi, bi, bi, bi, bi, bi, bo, bi, bo, bo, bo, bo, bo, bo, bo]
abbrev b2A36 : Array Bool := #[bi, bi, bi, bi, bi, bi, bi, bi, bi, bi, bi, bi, bi, bi, bi, bi, bi, bi, bi, bi, bi, bi, bi, bi, bi, bi, bi, bi, bi, bi, bi, bi, bi, bi, bo, bi, bi, bo, bo, bo, bo, bo, bo]
abbrev b2A37 : Array Bool := #[bi, bi, bi, bi, bi, bi, bi, bi, bi, bi, bi, bi, bi, bi, bi, bi, bi, bi, bi, bi, bi, bi, bi, bi, bi, bi, bi, bi, bi, bi, bi, bi, bi, bi, bo, bi, bi, bi, bo, bo, bo, bo, bo]
abbrev b2A38 : Array Bool := #[bi, bi, bi, bi, bi, bi, bi, bi, bi, bi, bi, bi, bi, bi, bi, bi, bi, bi, bi, bi, bi, bi, bi, bi, bi, bi, bi, bi, bi, bi, bi, bi, bi, bi, bo, bi, bi, bi, bi, bo, bo, bo, bo]
abbrev b2A39 : Array Bool := #[bi, bi, bi, bi, bi, bi, bi, bi, bi, bi, bi, bi, bi, bi, bi, bi, bi, bi, bi, bi, bi, bi, bi, bi, bi, bi, bi, bi, bi, bi, bi, bi, bi, bi, bi, bi, bi, bi, bi, bo, bo, bo, bo]
abbrev b2A40 : Array Bool := #[bi, bi, bi, bi, bi, bi, bi, bi, bi, bi, bi, bi, bi, bi, bi, bi, bi, bi, bi, bi, bi, bi, bi, bi, bi, bi, bi, bi, bi, bi, bi, bi, bi, bi, bi, bi, bi, bi, bi, bi, bo, bo, bo]
abbrev b2A41 : Array Bool := #[bi, bi, bi, bi, bi, bi, bi, bi, bi, bi, bi, bi, bi, bi, bi, bi, bi, bi, bi, bi, bi, bi, bi, bi, bi, bi, bi, bi, bi, bi, bi, bi, bi, bi, bi, bi, bi, bi, bi, bi, bi, bo, bo]
abbrev b2A42 : Array Bool := #[bi, bi, bi, bi, bi, bi, bi, bi, bi, bi, bi, bi, bi, bi, bi, bi, bi, bi, bi, bi, bi, bi, bi, bi, bi, bi, bi, bi, bi, bi, bi, bi, bi, bi, bi, bi, bi, bi, bi, bi, bi, bi, bo]
abbrev b2A43 : Array Bool := #[bi, bi, bi, bi, bi, bi, bi, bi, bi, bi, bi, bi, bi, bi, bi, bi, bi, bi, bi, bi, bi, bi, bi, bi, bi, bi, bi, bi, bi, bi, bi, bi, bi, bi, bi, bi, bi, bi, bi, bi, bi, bi, bi]
abbrev b2A44 : Array Bool := #[bi, bi, bi, bi, bi, bi, bi, bi, bi, bi, bi, bi, bi, bi, bi, bi, bi, bi, bi, bi, bi, bi, bi, bi, bi, bi, bi, bi, bi, bi, bi, bi, bi, bi, bi, bo, bo, bo, bo, bo, bo, bo, bo]
abbrev b2A45 : Array Bool := #[bi, bi, bi, bi, bi, bi, bi, bi, bi, bi, bi, bi, bi, bi, bi, bi, bi, bi, bi, bi, bi, bi, bi, bi, bi, bi, bi, bi, bi, bi, bi, bi, bi, bi, bi, bi, bo, bo, bo, bo, bo, bo, bo]
abbrev b2A46 : Array Bool := #[bi, bi, bi, bi, bi, bi, bi, bi, bi, bi, bi, bi, bi, bi, bi, bi, bi, bi, bi, bi, bi, bi, bi, bi, bi, bi, bi, bi, bi, bi, bi, bi, bi, bi, bi, bi, bi, bo, bo, bo, bo, bo, bo]
abbrev b2A47 : Array Bool := #[bi, bi, bi, bi, bi, bi, bi, bi, bi, bi, bi, bi, bi, bi, bi, bi, bi, bi, bi, bi, bi, bi, bi, bi, bi, bi, bi, bi, bi, bi, bi, bi, bi, bi, bi, bi, bi, bi, bo, bo, bo, bo, bo]
abbrev b2A48 : Array Bool := #[bo, bo, bo, bo, bo, bo, bo, bo, bo, bo, bo, bo, bo, bo, bo, bo, bo, bo, bo]
abbrev b2A49 : Array Bool := #[bi, bo, bo, bo, bo, bo, bo, bo, bo, bo, bo, bo, bo, bo, bo, bo, bo, bo, bo]
abbrev b2A50 : Array Bool := #[bi, bi, bo, bo, bo, bo, bo, bo, bo, bo, bo, bo, bo, bo, bo, bo, bo, bo, bo]
abbrev b2A51 : Array Bool := #[bi, bi, bi, bo, bo, bo, bo, bo, bo, bo, bo, bo, bo, bo, bo, bo, bo, bo, bo]
abbrev b2A52 : Array Bool := #[bi, bi, bi, bi, bo, bo, bo, bo, bo, bo, bo, bo, bo, bo, bo, bo, bo, bo, bo]
abbrev b2A53 : Array Bool := #[bi, bi, bi, bi, bi, bo, bo, bo, bo, bo, bo, bo, bo, bo, bo, bo, bo, bo, bo]
abbrev b2A54 : Array Bool := #[bi, bi, bi, bi, bi, bi, bo, bo, bo, bo, bo, bo, bo, bo, bo, bo, bo, bo, bo]
abbrev b2A55 : Array Bool := #[bi, bi, bi, bi, bi, bi, bi, bo, bo, bo, bo, bo, bo, bo, bo, bo, bo, bo, bo]
abbrev b2A56 : Array Bool := #[bi, bi, bi, bi, bi, bi, bi, bi, bo, bo, bo, bo, bo, bo, bo, bo, bo, bo, bo]
abbrev b2A57 : Array Bool := #[bi, bi, bi, bi, bi, bi, bi, bi, bi, bo, bo, bo, bo, bo, bo, bo, bo, bo, bo]
abbrev b2A58 : Array Bool := #[bi, bi, bi, bi, bi, bi, bi, bi, bi, bi, bo, bo, bo, bo, bo, bo, bo, bo, bo]
abbrev b2A59 : Array Bool := #[bi, bi, bi, bi, bi, bi, bi, bi, bi, bi, bi, bo, bo, bo, bo, bo, bo, bo, bo]
abbrev b2A60 : Array Bool := #[bi, bi, bi, bi, bi, bi, bi, bi, bi, bi, bi, bi, bo, bo, bo, bo, bo, bo, bo]
abbrev b2A61 : Array Bool := #[bi, bi, bi, bi, bi, bi, bi, bi, bi, bi, bi, bi, bi, bo, bo, bo, bo, bo, bo]
abbrev b2A62 : Array Bool := #[bi, bi, bi, bi, bi, bi, bi, bi, bi, bi, bi, bi, bi, bi, bo, bo, bo, bo, bo]
abbrev b2A63 : Array Bool := #[bi, bi, bi, bi, bi, bi, bi, bi, bi, bi, bi, bi, bi, bi, bi, bo, bo, bo, bo]
abbrev b2A64 : Array Bool := #[bi, bi, bi, bi, bi, bi, bi, bi, bi, bi, bi, bi, bi, bi, bi, bi, bo, bo, bo]
abbrev b2A65 : Array Bool := #[bi, bi, bi, bi, bi, bi, bi, bi, bi, bi, bi, bi, bi, bi, bi, bi, bi, bo, bo]
abbrev b2A66 : Array Bool := #[bi, bi, bi, bi, bi, bi, bi, bi, bi, bi, bi, bi, bi, bi, bi, bi, bi, bi, bo]
abbrev b2A67 : Array Bool := #[bi, bi, bi, bi, bi, bi, bi, bi, bi, bi, bi, bi, bi, bi, bi, bi, bi, bi, bi]
abbrev b2A68 : Array Bool := #[bi, bi, bi, bi, bi, bi, bi, bi, bi, bi, bi, bo, bi, bo, bo, bo, bo, bo, bo]
abbrev b2A69 : Array Bool := #[bi, bi, bi, bi, bi, bi, bi, bi, bi, bi, bi, bo, bi, bi, bo, bo, bo, bo, bo]
abbrev b2A70 : Array Bool := #[bi, bi, bi, bi, bi, bi, bi, bi, bi, bi, bi, bo, bi, bi, bi, bo, bo, bo, bo]
abbrev b2A71 : Array Bool := #[bi, bi, bi, bi, bi, bi, bi, bi, bi, bi, bi, bo, bi, bi, bi, bi, bo, bo, bo]
/-! ### spec_AreSlots: function 114 -/
mutual
def spec_AreSlots.l0 : Nat → List (S154) → Int → Option (Bool)
 | 0, _, _ => none
 | k + 1, x0, x3 => if x3 < (x0.length : Int) then (if 0 ≤ x3 then ((spec_l1In.f ((rd_T154 x0 x3).f0) 1 99).bind fun t102 => (if t102 = true then ((spec_l1In.f ((rd_T154 x0 x3).f1) 1 50).bind fun t104 => (if t104 = true then ((spec_l1In.f ((rd_T154 x0 x3).f2) 0 999).bind fun t106 => (if t106 = true then (if x3 > 0 then (if 0 ≤ (wrap64 (x3 - 1)) then (if (wrap64 (x3 - 1)) < (x0.length : Int) then (spec_AreSlots.j1 k x0 x3 (decide (((rd_T154 x0 (wrap64 (x3 - 1))).f0) ≥ ((rd_T154 x0 x3).f0)))) else (none)) else (none)) else (spec_AreSlots.j1 k x0 x3 false)) else (spec_AreSlots.j1 k x0 x3 true))) else (spec_AreSlots.j1 k x0 x3 true))) else (spec_AreSlots.j1 k x0 x3 true))) else (none)) else (some (decide ((x0.length : Int) ≤ 30)))
def spec_AreSlots.j1 : Nat → List (S154) → Int → Bool → Option (Bool)
 | 0, _, _, _ => none
 | k + 1, x0, x3, x53 => if x53 = true then (some false) else (spec_AreSlots.l1 k x0 x3 0)
def spec_AreSlots.l1 : Nat → List (S154) → Int → Int → Option (Bool)
 | 0, _, _, _ => none
 | k + 1, x0, x3, x4 => if x4 < x3 then (if 0 ≤ x3 then (if x3 < (x0.length : Int) then (if ((rd_T154 x0 x3).f2) = 0 then (spec_AreSlots.l1 k x0 x3 (wrap64 (x4 + 1))) else (if 0 ≤ x4 then (if x4 < (x0.length : Int) then (if ((rd_T154 x0 x4).f2) = ((rd_T154 x0 x3).f2) then (some false) else (spec_AreSlots.l1 k x0 x3 (wrap64 (x4 + 1)))) else (none)) else (none))) else (none)) else (none)) else (spec_AreSlots.l0 k x0 (wrap64 (x3 + 1)))
end
def spec_AreSlots.f (k : Nat) (l0 : List (S154)) : Option (Bool) := spec_AreSlots.l0 k l0 0
def spec_AreSlots.T4 : Bool × List (List Nat × List Nat) := (true, [([], []), ([], []), ([0, 1], [0, 1]), ([2], [2]), ([3], [3]), ([4], [4]), ([5], [5]), ([6, 5], [6]), ([7], [7]), ([7], [7]), ([8, 9, 7], [7, 8, 9]), ([10, 7], [7, 10]), ([11, 7], [7, 11]), ([12, 7, 7], [7, 12]), ([13, 7], [7, 13]), ([7, 14], [7, 14]), ([15, 13], [15]), ([16], [16]), ([16], [16]), ([17, 18, 16], [16, 17, 18]), ([19, 16], [16, 19]), ([20, 16], [16, 20]), ([21, 16, 16], [16, 21]), ([22, 16], [16, 22]), ([16, 23], [16, 23]), ([24, 22], [24]), ([25], [25]), ([26, 25], [25, 26]), ([27, 25, 25], [25, 27]), ([28], [28]), ([28], [28]), ([30, 28], [28, 30]), ([29, 31, 28], [28, 29, 31]), ([32, 28], [28, 32]), ([33, 28], [28, 33]), ([28], [28]), ([28], [28]), ([35, 36, 28], [28, 35, 36]), ([37, 28], [28, 37]), ([38, 28], [28, 38]), ([34, 39, 28], [28, 34, 39]), ([28, 40, 25], [25, 28, 40]), ([25, 41], [25, 41])])
def spec_AreSlots.B4 : List Nat := [0, 0, 3, 7, 15, 31, 63, 127, 255, 255, 1023, 2047, 4095, 8191, 16383, 32767, 65535, 131071, 131071, 524287, 1048575, 2097151, 4194303, 8388607, 16777215, 33554431, 67108863, 134217727, 268435455, 536870911, 536870911, 1610612735, 4294967295, 8589934591, 17179869183, 536870911, 536870911, 103616086015, 241055039487, 515932946431, 1099511627775, 2199023255551, 4398046511103]
theorem spec_AreSlots.tab4 : rtab .any (opsOf Try.f114 4) = spec_AreSlots.T4 := by kernel_rfl
theorem spec_AreSlots.bits4 : waitsOk spec_AreSlots.T4.2 spec_AreSlots.B4 = true := by kernel_rfl
def spec_AreSlots.T9 : Bool × List (List Nat × List Nat) := (true, [([], []), ([], []), ([0, 1], [0, 1]), ([2], [2]), ([3], [3]), ([4], [4]), ([5], [5]), ([6], [6]), ([6], [6]), ([7, 8, 6], [6, 7, 8]), ([9, 6], [6, 9]), ([10, 6], [6, 10]), ([6], [6]), ([6], [6]), ([12, 13, 6], [6, 12, 13]), ([14, 6], [6, 14]), ([15, 6], [6, 15]), ([11, 16, 6], [6, 11, 16]), ([6, 17], [6, 17])])
def spec_AreSlots.B9 : List Nat := [0, 0, 3, 7, 15, 31, 63, 127, 127, 511, 1023, 2047, 127, 127, 12415, 28799, 61567, 131071, 262143]
theorem spec_AreSlots.tab9 : rtab .any (opsOf Try.f114 9) = spec_AreSlots.T9 := by kernel_rfl
theorem spec_AreSlots.bits9 : waitsOk spec_AreSlots.T9.2 spec_AreSlots.B9 = true := by kernel_rfl
set_option maxHeartbeats 8000000 in
set_option maxRecDepth 100000 in
theorem spec_AreSlots.calls (k : Nat) (A0 : Option Addr) (c0 : Nat) (l0 : List (S154)) (r : Bool) (w : World) (hr0 : Kd.C k154 w A0 l0.length l0) (hc0 : l0.length ≤ c0) (h : spec_AreSlots.f k l0 = some r) :
  Calls Try.prog 114 #[.slice A0 l0.length c0] w fun e w' => e = .returned (.bool r) ∧ Below w.heap.size w w' := by
 have HR0 := zK hr0
 have HC0 := zK hc0
 clear hr0 hc0
 have HB := zK (Below.refl w.heap.size w)
 have H : (spec_AreSlots.l0 k l0 0) = some r := h
 clear h
 have H' := zK H
 clear H
 go_enter Try.func114, Try.ntmps114
 go_wp2
 go_loopg [3] k (fun kq v3 w' => ∃ (x3_1 : Int), v3 = .int .i64 x3_1 ∧ Aside0 (spec_AreSlots.l0 kq l0 x3_1 = some r) ∧ Aside0 (kq ≤ k) ∧ Aside0 (Below w.heap.size w w'))
 case atStart => exact ⟨(0), (by first | rfl | (simp; done) | (simp [*]; done)), H', ⟨Nat.le_refl _⟩, ⟨by exact qB HB.out⟩⟩
 case round =>
  clear H'
  try clear c1
  obtain ⟨x3_1, rfl, HA, HK1, HB⟩ := hrel
  cases gk with
  | zero => exact absurd HA.out (by simp [spec_AreSlots.l0])
  | succ k1 =>
   have H := HA.out
   clear HA
   simp only [spec_AreSlots.l0] at H
   by_cases c2 : x3_1 < (l0.length : Int)
   rotate_left
   ·rw [if_neg c2] at H
    have c2b0 : decide (x3_1 < (l0.length : Int)) = false := decide_eq_false c2
    clear c2
    obtain rfl := Option.some.inj H
    go_wp2
    go_ret
    exact ⟨by first | rfl | (simp [errW_none, errW_some] <;> rfl) | (simp [*, errW_none, errW_some] <;> rfl), by exact qB HB.out⟩

   rw [if_pos c2] at H
   have c2b0 : decide (x3_1 < (l0.length : Int)) = true := decide_eq_true c2
   clear c2
   have HC3 := zK H
   clear H
   go_upto_region 4 with (fail)
   go_cut [53] (fun v53 wc => ∃ (kq : Nat) (x53_2 : Bool), v53 = .bool x53_2 ∧ Aside0 (spec_AreSlots.j1 kq l0 x3_1 x53_2 = some r) ∧ Aside0 (kq ≤ k1) ∧ Aside0 (Below w.heap.size w wc))
   case first =>
    have H := HC3.out
    clear HC3
    by_cases c4 : 0 ≤ x3_1
    rotate_left
    ·rw [if_neg c4] at H
     exact absurd H (by simp)
    rw [if_pos c4] at H
    have c4b0 : decide (0 ≤ x3_1) = true := decide_eq_true c4
    clear c4
    (first | rw [c4b0] | rw [c4b1] | (simp only [i64_w, i32_w]; rw [c4b0]) | skip)
    replace H := Option.bind_eq_some_iff.mp H
    obtain ⟨t102, A50, H⟩ := H
    replace H : (if t102 = true then ((spec_l1In.f ((rd_T154 l0 x3_1).f1) 1 50).bind fun t104 => (if t104 = true then ((spec_l1In.f ((rd_T154 l0 x3_1).f2) 0 999).bind fun t106 => (if t106 = true then (if x3_1 > 0 then (if 0 ≤ (wrap64 (x3_1 - 1)) then (if (wrap64 (x3_1 - 1)) < (l0.length : Int) then (spec_AreSlots.j1 k1 l0 x3_1 (decide (((rd_T154 l0 (wrap64 (x3_1 - 1))).f0) ≥ ((rd_T154 l0 x3_1).f0)))) else (none)) else (none)) else (spec_AreSlots.j1 k1 l0 x3_1 false)) else (spec_AreSlots.j1 k1 l0 x3_1 true))) else (spec_AreSlots.j1 k1 l0 x3_1 true))) else (spec_AreSlots.j1 k1 l0 x3_1 true)) = some r := H
    have A5 := zK A50
    clear A50
    by_cases c6 : t102 = true
    rotate_left
    ·replace c6 := Bool.eq_false_iff.mpr c6
     subst c6
     have H1 : (spec_AreSlots.j1 k1 l0 x3_1 true) = some r := by rw [if_neg (show ¬ (false = true) by decide)] at H; exact H
     clear H
     have H := H1
     clear H1
     have H' := zK H
     clear H
     try go_wp2
     have n0_ := zK (b1 HB.out)
     clear HB
     have HB := n0_
     clear n0_
     have p101 : 0 ≤ (x3_1 : Int) := oD (by first | (with_reducible assumption) | assumption)
     have q101 : x3_1 < (l0.length : Int) := oD (by first | (with_reducible assumption) | assumption)
     obtain ⟨ad101, e101, hx101_0, hx101_1, hx101_2⟩ := at_T154 HR0.out x3_1 p101 q101
     have hw101_2 := hx101_2
     have hw101_1 := hx101_1
     have hw101_0 := hx101_0
     cases e101
     replace hx101_0 := (HB.out.cell (bL w hx101_0)).trans hx101_0
     replace hx101_1 := (HB.out.cell (bL w hx101_1)).trans hx101_1
     replace hx101_2 := (HB.out.cell (bL w hx101_2)).trans hx101_2
     replace p101 := eq_true p101
     replace q101 := eq_true q101
     refine start_ (n := 43) (S := fun w' => w'.cell? (ad101.add ((x3_1).toNat * 3)) = some (.int .i64 ((rd_T154 l0 x3_1).f0)) ∧ w'.cell? ⟨(ad101.add ((x3_1).toNat * 3)).block, (ad101.add ((x3_1).toNat * 3)).off + 1, none⟩ = some (.int .i64 ((rd_T154 l0 x3_1).f1)) ∧ w'.cell? ⟨(ad101.add ((x3_1).toNat * 3)).block, (ad101.add ((x3_1).toNat * 3)).off + 2, none⟩ = some (.int .i64 ((rd_T154 l0 x3_1).f2))) (ds := []) b2A0 (by kernel_rfl) rfl rfl ⟨((HB.out.cell (bL w hw101_0)).trans hw101_0), ((HB.out.cell (bL w hw101_1)).trans hw101_1), ((HB.out.cell (bL w hw101_2)).trans hw101_2)⟩ (fun hHeld => ?_); refine with_tabW spec_AreSlots.tab4 spec_AreSlots.bits4 (fun HT_ HW_ => ?_)
     generalize wr.drew = w19 at HB hx101_0 hx101_1 hx101_2 hHeld ⊢
     refine pI 0 (some 11) b2A1 HT_ ?_
     refine pI 1 (some 12) b2A2 HT_ ?_
     refine pI 2 (some 13) b2A3 HT_ ?_
     refine pI 3 (some 14) b2A4 HT_ ?_
     refine tI 4 (some 15) b2A5 HT_ HW_ hHeld rfl rfl (Or.inl ⟨by rfl, by rintro w' ⟨s0, s1, s2⟩; go_simp; with_reducible rfl⟩) ?_
     refine one_ (i := 5) (N := some 16) b2A6 rfl rfl (one_of HT_.out (by kernel_rfl)) (by decide) (fun K hK => ?_)
     refine goes_ Try.func138 (by kernel_rfl) rfl #[.int .i64 ((rd_T154 l0 x3_1).f0), .int .i64 1, .int .i64 99] (by rfl) rfl rfl (by (try simp only [List.map_toArray, List.map_cons, List.map_nil]); first | done | rfl | (simp only [List.length_drop, List.length_take]; rfl)) ?_
     with_reducible refine (spec_l1In.calls ((rd_T154 l0 x3_1).f0) 1 99 false _ A5.out).mono ?_
     rintro e w' ⟨rfl, ⟨nd, rfl⟩⟩
     refine ⟨_, rfl, ?_⟩
     refine hK.out _ _ ⟨((HB.out.cell (bL w hw101_0)).trans hw101_0), ((HB.out.cell (bL w hw101_1)).trans hw101_1), ((HB.out.cell (bL w hw101_2)).trans hw101_2)⟩ (fun hHeld => ?_)
     clear hK K
     refine norm_ (a' := ?_) ?_ ?_
     rotate_left
     ·show Act.put _ (some 16) _ = _
      simp only [Act.put, sA, sZ, sS, i64_w, i32_w]
      rfl
     refine pI 6 (some 17) b2A7 HT_ ?_
     refine pI 7 (some 18) b2A8 HT_ ?_
     refine pU 8 (some 19) b2A9 HT_ ?_
     refine pU 9 (some 20) b2A10 HT_ ?_
     refine pU 10 (some 21) b2A11 HT_ ?_
     refine pU 11 (some 22) b2A12 HT_ ?_
     refine pU 12 (some 23) b2A13 HT_ ?_
     refine pU 13 (some 24) b2A14 HT_ ?_
     refine pU 14 (some 25) b2A15 HT_ ?_
     refine pI 15 (some 26) b2A16 HT_ ?_
     refine pI 16 (some 27) b2A17 HT_ ?_
     refine pU 17 (some 28) b2A18 HT_ ?_
     refine pU 18 (some 29) b2A19 HT_ ?_
     refine pU 19 (some 30) b2A20 HT_ ?_
     refine pU 20 (some 31) b2A21 HT_ ?_
     refine pU 21 (some 32) b2A22 HT_ ?_
     refine pU 22 (some 33) b2A23 HT_ ?_
     refine pU 23 (some 34) b2A24 HT_ ?_
     refine pI 24 (some 35) b2A25 HT_ ?_
     refine pI 25 (some 36) b2A26 HT_ ?_
     refine pU 26 (some 37) b2A27 HT_ ?_
     refine pU 27 (some 38) b2A28 HT_ ?_
     refine pU 28 (some 39) b2A29 HT_ ?_
     refine pU 29 (some 40) b2A30 HT_ ?_
     refine pU 30 (some 41) b2A31 HT_ ?_
     refine pU 31 (some 42) b2A32 HT_ ?_
     refine pU 32 (some 43) b2A33 HT_ ?_
     refine pU 33 (some 44) b2A34 HT_ ?_
     refine pU 34 (some 45) b2A44 HT_ ?_
     refine pU 35 (some 46) b2A45 HT_ ?_
     refine pU 36 (some 47) b2A46 HT_ ?_
     refine pU 37 (some 48) b2A47 HT_ ?_
     refine pU 38 (some 49) b2A39 HT_ ?_
     refine pU 39 (some 50) b2A40 HT_ ?_
     refine pU 40 (some 51) b2A41 HT_ ?_
     refine pU 41 (some 52) b2A42 HT_ ?_
     refine pI 42 (some 53) b2A43 HT_ ?_
     refine done_ (done_of HT_.out (by kernel_rfl)) ?_
     try go_wp2
     go_meet
     case rel => exact ⟨_, (true), (by first | rfl | (simp; done) | (simp [*]; done)), H', ⟨by have := HK1.out; first | omega | exact Nat.le_refl _⟩, ⟨by exact qB HB.out⟩⟩
    subst c6
    have H1 : ((spec_l1In.f ((rd_T154 l0 x3_1).f1) 1 50).bind fun t104 => (if t104 = true then ((spec_l1In.f ((rd_T154 l0 x3_1).f2) 0 999).bind fun t106 => (if t106 = true then (if x3_1 > 0 then (if 0 ≤ (wrap64 (x3_1 - 1)) then (if (wrap64 (x3_1 - 1)) < (l0.length : Int) then (spec_AreSlots.j1 k1 l0 x3_1 (decide (((rd_T154 l0 (wrap64 (x3_1 - 1))).f0) ≥ ((rd_T154 l0 x3_1).f0)))) else (none)) else (none)) else (spec_AreSlots.j1 k1 l0 x3_1 false)) else (spec_AreSlots.j1 k1 l0 x3_1 true))) else (spec_AreSlots.j1 k1 l0 x3_1 true))) = some r := by rw [if_pos rfl] at H; exact H
    clear H
    have H := H1
    clear H1
    replace H := Option.bind_eq_some_iff.mp H
    obtain ⟨t104, A70, H⟩ := H
    replace H : (if t104 = true then ((spec_l1In.f ((rd_T154 l0 x3_1).f2) 0 999).bind fun t106 => (if t106 = true then (if x3_1 > 0 then (if 0 ≤ (wrap64 (x3_1 - 1)) then (if (wrap64 (x3_1 - 1)) < (l0.length : Int) then (spec_AreSlots.j1 k1 l0 x3_1 (decide (((rd_T154 l0 (wrap64 (x3_1 - 1))).f0) ≥ ((rd_T154 l0 x3_1).f0)))) else (none)) else (none)) else (spec_AreSlots.j1 k1 l0 x3_1 false)) else (spec_AreSlots.j1 k1 l0 x3_1 true))) else (spec_AreSlots.j1 k1 l0 x3_1 true)) = some r := H
    have A7 := zK A70
    clear A70
    by_cases c8 : t104 = true
    rotate_left
    ·replace c8 := Bool.eq_false_iff.mpr c8
     subst c8
     have H1 : (spec_AreSlots.j1 k1 l0 x3_1 true) = some r := by rw [if_neg (show ¬ (false = true) by decide)] at H; exact H
     clear H
     have H := H1
     clear H1
     have H' := zK H
     clear H
     try go_wp2
     have n0_ := zK (b1 HB.out)
     clear HB
     have HB := n0_
     clear n0_
     have p101 : 0 ≤ (x3_1 : Int) := oD (by first | (with_reducible assumption) | assumption)
     have q101 : x3_1 < (l0.length : Int) := oD (by first | (with_reducible assumption) | assumption)
     obtain ⟨ad101, e101, hx101_0, hx101_1, hx101_2⟩ := at_T154 HR0.out x3_1 p101 q101
     have hw101_2 := hx101_2
     have hw101_1 := hx101_1
     have hw101_0 := hx101_0
     cases e101
     replace hx101_0 := (HB.out.cell (bL w hx101_0)).trans hx101_0
     replace hx101_1 := (HB.out.cell (bL w hx101_1)).trans hx101_1
     replace hx101_2 := (HB.out.cell (bL w hx101_2)).trans hx101_2
     replace p101 := eq_true p101
     replace q101 := eq_true q101
     have p103 : 0 ≤ (x3_1 : Int) := oD (by first | (with_reducible assumption) | assumption)
     have q103 : x3_1 < (l0.length : Int) := oD (by first | (with_reducible assumption) | assumption)
     obtain ⟨ad103, e103, hx103_0, hx103_1, hx103_2⟩ := at_T154 HR0.out x3_1 p103 q103
     have hw103_2 := hx103_2
     have hw103_1 := hx103_1
     have hw103_0 := hx103_0
     obtain rfl : ad101 = ad103 := (by injection e103)
     replace hx103_0 := (HB.out.cell (bL w hx103_0)).trans hx103_0
     replace hx103_1 := (HB.out.cell (bL w hx103_1)).trans hx103_1
     replace hx103_2 := (HB.out.cell (bL w hx103_2)).trans hx103_2
     replace p103 := eq_true p103
     replace q103 := eq_true q103
     refine start_ (n := 43) (S := fun w' => w'.cell? (ad101.add ((x3_1).toNat * 3)) = some (.int .i64 ((rd_T154 l0 x3_1).f0)) ∧ w'.cell? ⟨(ad101.add ((x3_1).toNat * 3)).block, (ad101.add ((x3_1).toNat * 3)).off + 1, none⟩ = some (.int .i64 ((rd_T154 l0 x3_1).f1)) ∧ w'.cell? ⟨(ad101.add ((x3_1).toNat * 3)).block, (ad101.add ((x3_1).toNat * 3)).off + 2, none⟩ = some (.int .i64 ((rd_T154 l0 x3_1).f2)) ∧ w'.cell? (ad101.add ((x3_1).toNat * 3)) = some (.int .i64 ((rd_T154 l0 x3_1).f0)) ∧ w'.cell? ⟨(ad101.add ((x3_1).toNat * 3)).block, (ad101.add ((x3_1).toNat * 3)).off + 1, none⟩ = some (.int .i64 ((rd_T154 l0 x3_1).f1)) ∧ w'.cell? ⟨(ad101.add ((x3_1).toNat * 3)).block, (ad101.add ((x3_1).toNat * 3)).off + 2, none⟩ = some (.int .i64 ((rd_T154 l0 x3_1).f2))) (ds := []) b2A0 (by kernel_rfl) rfl rfl ⟨((HB.out.cell (bL w hw101_0)).trans hw101_0), ((HB.out.cell (bL w hw101_1)).trans hw101_1), ((HB.out.cell (bL w hw101_2)).trans hw101_2), ((HB.out.cell (bL w hw103_0)).trans hw103_0), ((HB.out.cell (bL w hw103_1)).trans hw103_1), ((HB.out.cell (bL w hw103_2)).trans hw103_2)⟩ (fun hHeld => ?_); refine with_tabW spec_AreSlots.tab4 spec_AreSlots.bits4 (fun HT_ HW_ => ?_)
     generalize wr.drew = w18 at HB hx101_0 hx101_1 hx101_2 hx103_0 hx103_1 hx103_2 hHeld ⊢
     refine pI 0 (some 11) b2A1 HT_ ?_
     refine pI 1 (some 12) b2A2 HT_ ?_
     refine pI 2 (some 13) b2A3 HT_ ?_
     refine pI 3 (some 14) b2A4 HT_ ?_
     refine tI 4 (some 15) b2A5 HT_ HW_ hHeld rfl rfl (Or.inl ⟨by rfl, by rintro w' ⟨s0, s1, s2, s3, s4, s5⟩; go_simp; with_reducible rfl⟩) ?_
     refine one_ (i := 5) (N := some 16) b2A6 rfl rfl (one_of HT_.out (by kernel_rfl)) (by decide) (fun K hK => ?_)
     refine goes_ Try.func138 (by kernel_rfl) rfl #[.int .i64 ((rd_T154 l0 x3_1).f0), .int .i64 1, .int .i64 99] (by rfl) rfl rfl (by (try simp only [List.map_toArray, List.map_cons, List.map_nil]); first | done | rfl | (simp only [List.length_drop, List.length_take]; rfl)) ?_
     with_reducible refine (spec_l1In.calls ((rd_T154 l0 x3_1).f0) 1 99 true _ A5.out).mono ?_
     rintro e w' ⟨rfl, ⟨nd, rfl⟩⟩
     refine ⟨_, rfl, ?_⟩
     refine hK.out _ _ ⟨((HB.out.cell (bL w hw101_0)).trans hw101_0), ((HB.out.cell (bL w hw101_1)).trans hw101_1), ((HB.out.cell (bL w hw101_2)).trans hw101_2), ((HB.out.cell (bL w hw103_0)).trans hw103_0), ((HB.out.cell (bL w hw103_1)).trans hw103_1), ((HB.out.cell (bL w hw103_2)).trans hw103_2)⟩ (fun hHeld => ?_)
     clear hK K
     refine norm_ (a' := ?_) ?_ ?_
     rotate_left
     ·show Act.put _ (some 16) _ = _
      simp only [Act.put, sA, sZ, sS, i64_w, i32_w]
      rfl
     refine pI 6 (some 17) b2A7 HT_ ?_
     refine pI 7 (some 18) b2A8 HT_ ?_
     refine pI 8 (some 19) b2A9 HT_ ?_
     refine pI 9 (some 20) b2A10 HT_ ?_
     refine pI 10 (some 21) b2A11 HT_ ?_
     refine pI 11 (some 22) b2A12 HT_ ?_
     refine tI 12 (some 23) b2A13 HT_ HW_ hHeld rfl rfl (Or.inl ⟨by rfl, by rintro w' ⟨s0, s1, s2, s3, s4, s5⟩; go_simp; with_reducible rfl⟩) ?_
     refine one_ (i := 13) (N := some 24) b2A14 rfl rfl (one_of HT_.out (by kernel_rfl)) (by decide) (fun K hK => ?_)
     refine goes_ Try.func138 (by kernel_rfl) rfl #[.int .i64 ((rd_T154 l0 x3_1).f1), .int .i64 1, .int .i64 50] (by rfl) rfl rfl (by (try simp only [List.map_toArray, List.map_cons, List.map_nil]); first | done | rfl | (simp only [List.length_drop, List.length_take]; rfl)) ?_
     with_reducible refine (spec_l1In.calls ((rd_T154 l0 x3_1).f1) 1 50 false _ A7.out).mono ?_
     rintro e w' ⟨rfl, ⟨nd, rfl⟩⟩
     refine ⟨_, rfl, ?_⟩
     refine hK.out _ _ ⟨((HB.out.cell (bL w hw101_0)).trans hw101_0), ((HB.out.cell (bL w hw101_1)).trans hw101_1), ((HB.out.cell (bL w hw101_2)).trans hw101_2), ((HB.out.cell (bL w hw103_0)).trans hw103_0), ((HB.out.cell (bL w hw103_1)).trans hw103_1), ((HB.out.cell (bL w hw103_2)).trans hw103_2)⟩ (fun hHeld => ?_)
     clear hK K
     refine norm_ (a' := ?_) ?_ ?_
     rotate_left
     ·show Act.put _ (some 24) _ = _
      simp only [Act.put, sA, sZ, sS, i64_w, i32_w]
      rfl
     refine pI 14 (some 25) b2A15 HT_ ?_
     refine pI 15 (some 26) b2A16 HT_ ?_
     refine pI 16 (some 27) b2A17 HT_ ?_
     refine pU 17 (some 28) b2A18 HT_ ?_
     refine pU 18 (some 29) b2A19 HT_ ?_
     refine pU 19 (some 30) b2A20 HT_ ?_
     refine pU 20 (some 31) b2A21 HT_ ?_
     refine pU 21 (some 32) b2A22 HT_ ?_
     refine pU 22 (some 33) b2A23 HT_ ?_
     refine pU 23 (some 34) b2A24 HT_ ?_
     refine pI 24 (some 35) b2A25 HT_ ?_
     refine pI 25 (some 36) b2A26 HT_ ?_
     refine pU 26 (some 37) b2A27 HT_ ?_
     refine pU 27 (some 38) b2A28 HT_ ?_
     refine pU 28 (some 39) b2A29 HT_ ?_
     refine pU 29 (some 40) b2A30 HT_ ?_
     refine pU 30 (some 41) b2A31 HT_ ?_
     refine pU 31 (some 42) b2A32 HT_ ?_
     refine pU 32 (some 43) b2A33 HT_ ?_
     refine pU 33 (some 44) b2A34 HT_ ?_
     refine pU 34 (some 45) b2A44 HT_ ?_
     refine pU 35 (some 46) b2A45 HT_ ?_
     refine pU 36 (some 47) b2A46 HT_ ?_
     refine pU 37 (some 48) b2A47 HT_ ?_
     refine pU 38 (some 49) b2A39 HT_ ?_
     refine pU 39 (some 50) b2A40 HT_ ?_
     refine pU 40 (some 51) b2A41 HT_ ?_
     refine pU 41 (some 52) b2A42 HT_ ?_
     refine pI 42 (some 53) b2A43 HT_ ?_
     refine done_ (done_of HT_.out (by kernel_rfl)) ?_
     try go_wp2
     go_meet
     case rel => exact ⟨_, (true), (by first | rfl | (simp; done) | (simp [*]; done)), H', ⟨by have := HK1.out; first | omega | exact Nat.le_refl _⟩, ⟨by exact qB HB.out⟩⟩
    subst c8
    have H1 : ((spec_l1In.f ((rd_T154 l0 x3_1).f2) 0 999).bind fun t106 => (if t106 = true then (if x3_1 > 0 then (if 0 ≤ (wrap64 (x3_1 - 1)) then (if (wrap64 (x3_1 - 1)) < (l0.length : Int) then (spec_AreSlots.j1 k1 l0 x3_1 (decide (((rd_T154 l0 (wrap64 (x3_1 - 1))).f0) ≥ ((rd_T154 l0 x3_1).f0)))) else (none)) else (none)) else (spec_AreSlots.j1 k1 l0 x3_1 false)) else (spec_AreSlots.j1 k1 l0 x3_1 true))) = some r := by rw [if_pos rfl] at H; exact H
    clear H
    have H := H1
    clear H1
    replace H := Option.bind_eq_some_iff.mp H
    obtain ⟨t106, A90, H⟩ := H
    replace H : (if t106 = true then (if x3_1 > 0 then (if 0 ≤ (wrap64 (x3_1 - 1)) then (if (wrap64 (x3_1 - 1)) < (l0.length : Int) then (spec_AreSlots.j1 k1 l0 x3_1 (decide (((rd_T154 l0 (wrap64 (x3_1 - 1))).f0) ≥ ((rd_T154 l0 x3_1).f0)))) else (none)) else (none)) else (spec_AreSlots.j1 k1 l0 x3_1 false)) else (spec_AreSlots.j1 k1 l0 x3_1 true)) = some r := H
    have A9 := zK A90
    clear A90
    by_cases c10 : t106 = true
    rotate_left
    ·replace c10 := Bool.eq_false_iff.mpr c10
     subst c10
     have H1 : (spec_AreSlots.j1 k1 l0 x3_1 true) = some r := by rw [if_neg (show ¬ (false = true) by decide)] at H; exact H
     clear H
     have H := H1
     clear H1
     have H' := zK H
     clear H
     try go_wp2
     have n0_ := zK (b1 HB.out)
     clear HB
     have HB := n0_
     clear n0_
     have p101 : 0 ≤ (x3_1 : Int) := oD (by first | (with_reducible assumption) | assumption)
     have q101 : x3_1 < (l0.length : Int) := oD (by first | (with_reducible assumption) | assumption)
     obtain ⟨ad101, e101, hx101_0, hx101_1, hx101_2⟩ := at_T154 HR0.out x3_1 p101 q101
     have hw101_2 := hx101_2
     have hw101_1 := hx101_1
     have hw101_0 := hx101_0
     cases e101
     replace hx101_0 := (HB.out.cell (bL w hx101_0)).trans hx101_0
     replace hx101_1 := (HB.out.cell (bL w hx101_1)).trans hx101_1
     replace hx101_2 := (HB.out.cell (bL w hx101_2)).trans hx101_2
     replace p101 := eq_true p101
     replace q101 := eq_true q101
     have p103 : 0 ≤ (x3_1 : Int) := oD (by first | (with_reducible assumption) | assumption)
     have q103 : x3_1 < (l0.length : Int) := oD (by first | (with_reducible assumption) | assumption)
     obtain ⟨ad103, e103, hx103_0, hx103_1, hx103_2⟩ := at_T154 HR0.out x3_1 p103 q103
     have hw103_2 := hx103_2
     have hw103_1 := hx103_1
     have hw103_0 := hx103_0
     obtain rfl : ad101 = ad103 := (by injection e103)
     replace hx103_0 := (HB.out.cell (bL w hx103_0)).trans hx103_0
     replace hx103_1 := (HB.out.cell (bL w hx103_1)).trans hx103_1
     replace hx103_2 := (HB.out.cell (bL w hx103_2)).trans hx103_2
     replace p103 := eq_true p103
     replace q103 := eq_true q103
     have p105 : 0 ≤ (x3_1 : Int) := oD (by first | (with_reducible assumption) | assumption)
     have q105 : x3_1 < (l0.length : Int) := oD (by first | (with_reducible assumption) | assumption)
     obtain ⟨ad105, e105, hx105_0, hx105_1, hx105_2⟩ := at_T154 HR0.out x3_1 p105 q105
     have hw105_2 := hx105_2
     have hw105_1 := hx105_1
     have hw105_0 := hx105_0
     obtain rfl : ad101 = ad105 := (by injection e105)
     replace hx105_0 := (HB.out.cell (bL w hx105_0)).trans hx105_0
     replace hx105_1 := (HB.out.cell (bL w hx105_1)).trans hx105_1
     replace hx105_2 := (HB.out.cell (bL w hx105_2)).trans hx105_2
     replace p105 := eq_true p105
     replace q105 := eq_true q105
     refine start_ (n := 43) (S := fun w' => w'.cell? (ad101.add ((x3_1).toNat * 3)) = some (.int .i64 ((rd_T154 l0 x3_1).f0)) ∧ w'.cell? ⟨(ad101.add ((x3_1).toNat * 3)).block, (ad101.add ((x3_1).toNat * 3)).off + 1, none⟩ = some (.int .i64 ((rd_T154 l0 x3_1).f1)) ∧ w'.cell? ⟨(ad101.add ((x3_1).toNat * 3)).block, (ad101.add ((x3_1).toNat * 3)).off + 2, none⟩ = some (.int .i64 ((rd_T154 l0 x3_1).f2)) ∧ w'.cell? (ad101.add ((x3_1).toNat * 3)) = some (.int .i64 ((rd_T154 l0 x3_1).f0)) ∧ w'.cell? ⟨(ad101.add ((x3_1).toNat * 3)).block, (ad101.add ((x3_1).toNat * 3)).off + 1, none⟩ = some (.int .i64 ((rd_T154 l0 x3_1).f1)) ∧ w'.cell? ⟨(ad101.add ((x3_1).toNat * 3)).block, (ad101.add ((x3_1).toNat * 3)).off + 2, none⟩ = some (.int .i64 ((rd_T154 l0 x3_1).f2)) ∧ w'.cell? (ad101.add ((x3_1).toNat * 3)) = some (.int .i64 ((rd_T154 l0 x3_1).f0)) ∧ w'.cell? ⟨(ad101.add ((x3_1).toNat * 3)).block, (ad101.add ((x3_1).toNat * 3)).off + 1, none⟩ = some (.int .i64 ((rd_T154 l0 x3_1).f1)) ∧ w'.cell? ⟨(ad101.add ((x3_1).toNat * 3)).block, (ad101.add ((x3_1).toNat * 3)).off + 2, none⟩ = some (.int .i64 ((rd_T154 l0 x3_1).f2))) (ds := []) b2A0 (by kernel_rfl) rfl rfl ⟨((HB.out.cell (bL w hw101_0)).trans hw101_0), ((HB.out.cell (bL w hw101_1)).trans hw101_1), ((HB.out.cell (bL w hw101_2)).trans hw101_2), ((HB.out.cell (bL w hw103_0)).trans hw103_0), ((HB.out.cell (bL w hw103_1)).trans hw103_1), ((HB.out.cell (bL w hw103_2)).trans hw103_2), ((HB.out.cell (bL w hw105_0)).trans hw105_0), ((HB.out.cell (bL w hw105_1)).trans hw105_1), ((HB.out.cell (bL w hw105_2)).trans hw105_2)⟩ (fun hHeld => ?_); refine with_tabW spec_AreSlots.tab4 spec_AreSlots.bits4 (fun HT_ HW_ => ?_)
     generalize wr.drew = w17 at HB hx101_0 hx101_1 hx101_2 hx103_0 hx103_1 hx103_2 hx105_0 hx105_1 hx105_2 hHeld ⊢
     refine pI 0 (some 11) b2A1 HT_ ?_
     refine pI 1 (some 12) b2A2 HT_ ?_
     refine pI 2 (some 13) b2A3 HT_ ?_
     refine pI 3 (some 14) b2A4 HT_ ?_
     refine tI 4 (some 15) b2A5 HT_ HW_ hHeld rfl rfl (Or.inl ⟨by rfl, by rintro w' ⟨s0, s1, s2, s3, s4, s5, s6, s7, s8⟩; go_simp; with_reducible rfl⟩) ?_
     refine one_ (i := 5) (N := some 16) b2A6 rfl rfl (one_of HT_.out (by kernel_rfl)) (by decide) (fun K hK => ?_)
     refine goes_ Try.func138 (by kernel_rfl) rfl #[.int .i64 ((rd_T154 l0 x3_1).f0), .int .i64 1, .int .i64 99] (by rfl) rfl rfl (by (try simp only [List.map_toArray, List.map_cons, List.map_nil]); first | done | rfl | (simp only [List.length_drop, List.length_take]; rfl)) ?_
     with_reducible refine (spec_l1In.calls ((rd_T154 l0 x3_1).f0) 1 99 true _ A5.out).mono ?_
     rintro e w' ⟨rfl, ⟨nd, rfl⟩⟩
     refine ⟨_, rfl, ?_⟩
     refine hK.out _ _ ⟨((HB.out.cell (bL w hw101_0)).trans hw101_0), ((HB.out.cell (bL w hw101_1)).trans hw101_1), ((HB.out.cell (bL w hw101_2)).trans hw101_2), ((HB.out.cell (bL w hw103_0)).trans hw103_0), ((HB.out.cell (bL w hw103_1)).trans hw103_1), ((HB.out.cell (bL w hw103_2)).trans hw103_2), ((HB.out.cell (bL w hw105_0)).trans hw105_0), ((HB.out.cell (bL w hw105_1)).trans hw105_1), ((HB.out.cell (bL w hw105_2)).trans hw105_2)⟩ (fun hHeld => ?_)
     clear hK K
     refine norm_ (a' := ?_) ?_ ?_
     rotate_left
     ·show Act.put _ (some 16) _ = _
      simp only [Act.put, sA, sZ, sS, i64_w, i32_w]
      rfl
     refine pI 6 (some 17) b2A7 HT_ ?_
     refine pI 7 (some 18) b2A8 HT_ ?_
     refine pI 8 (some 19) b2A9 HT_ ?_
     refine pI 9 (some 20) b2A10 HT_ ?_
     refine pI 10 (some 21) b2A11 HT_ ?_
     refine pI 11 (some 22) b2A12 HT_ ?_
     refine tI 12 (some 23) b2A13 HT_ HW_ hHeld rfl rfl (Or.inl ⟨by rfl, by rintro w' ⟨s0, s1, s2, s3, s4, s5, s6, s7, s8⟩; go_simp; with_reducible rfl⟩) ?_
     refine one_ (i := 13) (N := some 24) b2A14 rfl rfl (one_of HT_.out (by kernel_rfl)) (by decide) (fun K hK => ?_)
     refine goes_ Try.func138 (by kernel_rfl) rfl #[.int .i64 ((rd_T154 l0 x3_1).f1), .int .i64 1, .int .i64 50] (by rfl) rfl rfl (by (try simp only [List.map_toArray, List.map_cons, List.map_nil]); first | done | rfl | (simp only [List.length_drop, List.length_take]; rfl)) ?_
     with_reducible refine (spec_l1In.calls ((rd_T154 l0 x3_1).f1) 1 50 true _ A7.out).mono ?_
     rintro e w' ⟨rfl, ⟨nd, rfl⟩⟩
     refine ⟨_, rfl, ?_⟩
     refine hK.out _ _ ⟨((HB.out.cell (bL w hw101_0)).trans hw101_0), ((HB.out.cell (bL w hw101_1)).trans hw101_1), ((HB.out.cell (bL w hw101_2)).trans hw101_2), ((HB.out.cell (bL w hw103_0)).trans hw103_0), ((HB.out.cell (bL w hw103_1)).trans hw103_1), ((HB.out.cell (bL w hw103_2)).trans hw103_2), ((HB.out.cell (bL w hw105_0)).trans hw105_0), ((HB.out.cell (bL w hw105_1)).trans hw105_1), ((HB.out.cell (bL w hw105_2)).trans hw105_2)⟩ (fun hHeld => ?_)
     clear hK K
     refine norm_ (a' := ?_) ?_ ?_
     rotate_left
     ·show Act.put _ (some 24) _ = _
      simp only [Act.put, sA, sZ, sS, i64_w, i32_w]
      rfl
     refine pI 14 (some 25) b2A15 HT_ ?_
     refine pI 15 (some 26) b2A16 HT_ ?_
     refine pI 16 (some 27) b2A17 HT_ ?_
     refine pI 17 (some 28) b2A18 HT_ ?_
     refine pI 18 (some 29) b2A19 HT_ ?_
     refine pI 19 (some 30) b2A20 HT_ ?_
     refine pI 20 (some 31) b2A21 HT_ ?_
     refine tI 21 (some 32) b2A22 HT_ HW_ hHeld rfl rfl (Or.inl ⟨by rfl, by rintro w' ⟨s0, s1, s2, s3, s4, s5, s6, s7, s8⟩; go_simp; with_reducible rfl⟩) ?_
     refine one_ (i := 22) (N := some 33) b2A23 rfl rfl (one_of HT_.out (by kernel_rfl)) (by decide) (fun K hK => ?_)
     refine goes_ Try.func138 (by kernel_rfl) rfl #[.int .i64 ((rd_T154 l0 x3_1).f2), .int .i64 0, .int .i64 999] (by rfl) rfl rfl (by (try simp only [List.map_toArray, List.map_cons, List.map_nil]); first | done | rfl | (simp only [List.length_drop, List.length_take]; rfl)) ?_
     with_reducible refine (spec_l1In.calls ((rd_T154 l0 x3_1).f2) 0 999 false _ A9.out).mono ?_
     rintro e w' ⟨rfl, ⟨nd, rfl⟩⟩
     refine ⟨_, rfl, ?_⟩
     refine hK.out _ _ ⟨((HB.out.cell (bL w hw101_0)).trans hw101_0), ((HB.out.cell (bL w hw101_1)).trans hw101_1), ((HB.out.cell (bL w hw101_2)).trans hw101_2), ((HB.out.cell (bL w hw103_0)).trans hw103_0), ((HB.out.cell (bL w hw103_1)).trans hw103_1), ((HB.out.cell (bL w hw103_2)).trans hw103_2), ((HB.out.cell (bL w hw105_0)).trans hw105_0), ((HB.out.cell (bL w hw105_1)).trans hw105_1), ((HB.out.cell (bL w hw105_2)).trans hw105_2)⟩ (fun hHeld => ?_)
     clear hK K
     refine norm_ (a' := ?_) ?_ ?_
     rotate_left
     ·show Act.put _ (some 33) _ = _
      simp only [Act.put, sA, sZ, sS, i64_w, i32_w]
      rfl
     refine pI 23 (some 34) b2A24 HT_ ?_
     refine pI 24 (some 35) b2A25 HT_ ?_
     refine pI 25 (some 36) b2A26 HT_ ?_
     refine pU 26 (some 37) b2A27 HT_ ?_
     refine pU 27 (some 38) b2A28 HT_ ?_
     refine pU 28 (some 39) b2A29 HT_ ?_
     refine pU 29 (some 40) b2A30 HT_ ?_
     refine pU 30 (some 41) b2A31 HT_ ?_
     refine pU 31 (some 42) b2A32 HT_ ?_
     refine pU 32 (some 43) b2A33 HT_ ?_
     refine pU 33 (some 44) b2A34 HT_ ?_
     refine pU 34 (some 45) b2A44 HT_ ?_
     refine pU 35 (some 46) b2A45 HT_ ?_
     refine pU 36 (some 47) b2A46 HT_ ?_
     refine pU 37 (some 48) b2A47 HT_ ?_
     refine pU 38 (some 49) b2A39 HT_ ?_
     refine pU 39 (some 50) b2A40 HT_ ?_
     refine pU 40 (some 51) b2A41 HT_ ?_
     refine pU 41 (some 52) b2A42 HT_ ?_
     refine pI 42 (some 53) b2A43 HT_ ?_
     refine done_ (done_of HT_.out (by kernel_rfl)) ?_
     try go_wp2
     go_meet
     case rel => exact ⟨_, (true), (by first | rfl | (simp; done) | (simp [*]; done)), H', ⟨by have := HK1.out; first | omega | exact Nat.le_refl _⟩, ⟨by exact qB HB.out⟩⟩
    subst c10
    have H1 : (if x3_1 > 0 then (if 0 ≤ (wrap64 (x3_1 - 1)) then (if (wrap64 (x3_1 - 1)) < (l0.length : Int) then (spec_AreSlots.j1 k1 l0 x3_1 (decide (((rd_T154 l0 (wrap64 (x3_1 - 1))).f0) ≥ ((rd_T154 l0 x3_1).f0)))) else (none)) else (none)) else (spec_AreSlots.j1 k1 l0 x3_1 false)) = some r := by rw [if_pos rfl] at H; exact H
    clear H
    have H := H1
    clear H1
    by_cases c11 : x3_1 > 0
    rotate_left
    ·rw [if_neg c11] at H
     have c11b0 : decide (0 < x3_1) = false := decide_eq_false c11
     clear c11
     have H' := zK H
     clear H
     try go_wp2
     have n0_ := zK (b1 HB.out)
     clear HB
     have HB := n0_
     clear n0_
     have p101 : 0 ≤ (x3_1 : Int) := oD (by first | (with_reducible assumption) | assumption)
     have q101 : x3_1 < (l0.length : Int) := oD (by first | (with_reducible assumption) | assumption)
     obtain ⟨ad101, e101, hx101_0, hx101_1, hx101_2⟩ := at_T154 HR0.out x3_1 p101 q101
     have hw101_2 := hx101_2
     have hw101_1 := hx101_1
     have hw101_0 := hx101_0
     cases e101
     replace hx101_0 := (HB.out.cell (bL w hx101_0)).trans hx101_0
     replace hx101_1 := (HB.out.cell (bL w hx101_1)).trans hx101_1
     replace hx101_2 := (HB.out.cell (bL w hx101_2)).trans hx101_2
     replace p101 := eq_true p101
     replace q101 := eq_true q101
     have p103 : 0 ≤ (x3_1 : Int) := oD (by first | (with_reducible assumption) | assumption)
     have q103 : x3_1 < (l0.length : Int) := oD (by first | (with_reducible assumption) | assumption)
     obtain ⟨ad103, e103, hx103_0, hx103_1, hx103_2⟩ := at_T154 HR0.out x3_1 p103 q103
     have hw103_2 := hx103_2
     have hw103_1 := hx103_1
     have hw103_0 := hx103_0
     obtain rfl : ad101 = ad103 := (by injection e103)
     replace hx103_0 := (HB.out.cell (bL w hx103_0)).trans hx103_0
     replace hx103_1 := (HB.out.cell (bL w hx103_1)).trans hx103_1
     replace hx103_2 := (HB.out.cell (bL w hx103_2)).trans hx103_2
     replace p103 := eq_true p103
     replace q103 := eq_true q103
     have p105 : 0 ≤ (x3_1 : Int) := oD (by first | (with_reducible assumption) | assumption)
     have q105 : x3_1 < (l0.length : Int) := oD (by first | (with_reducible assumption) | assumption)
     obtain ⟨ad105, e105, hx105_0, hx105_1, hx105_2⟩ := at_T154 HR0.out x3_1 p105 q105
     have hw105_2 := hx105_2
     have hw105_1 := hx105_1
     have hw105_0 := hx105_0
     obtain rfl : ad101 = ad105 := (by injection e105)
     replace hx105_0 := (HB.out.cell (bL w hx105_0)).trans hx105_0
     replace hx105_1 := (HB.out.cell (bL w hx105_1)).trans hx105_1
     replace hx105_2 := (HB.out.cell (bL w hx105_2)).trans hx105_2
     replace p105 := eq_true p105
     replace q105 := eq_true q105
     refine start_ (n := 43) (S := fun w' => w'.cell? (ad101.add ((x3_1).toNat * 3)) = some (.int .i64 ((rd_T154 l0 x3_1).f0)) ∧ w'.cell? ⟨(ad101.add ((x3_1).toNat * 3)).block, (ad101.add ((x3_1).toNat * 3)).off + 1, none⟩ = some (.int .i64 ((rd_T154 l0 x3_1).f1)) ∧ w'.cell? ⟨(ad101.add ((x3_1).toNat * 3)).block, (ad101.add ((x3_1).toNat * 3)).off + 2, none⟩ = some (.int .i64 ((rd_T154 l0 x3_1).f2)) ∧ w'.cell? (ad101.add ((x3_1).toNat * 3)) = some (.int .i64 ((rd_T154 l0 x3_1).f0)) ∧ w'.cell? ⟨(ad101.add ((x3_1).toNat * 3)).block, (ad101.add ((x3_1).toNat * 3)).off + 1, none⟩ = some (.int .i64 ((rd_T154 l0 x3_1).f1)) ∧ w'.cell? ⟨(ad101.add ((x3_1).toNat * 3)).block, (ad101.add ((x3_1).toNat * 3)).off + 2, none⟩ = some (.int .i64 ((rd_T154 l0 x3_1).f2)) ∧ w'.cell? (ad101.add ((x3_1).toNat * 3)) = some (.int .i64 ((rd_T154 l0 x3_1).f0)) ∧ w'.cell? ⟨(ad101.add ((x3_1).toNat * 3)).block, (ad101.add ((x3_1).toNat * 3)).off + 1, none⟩ = some (.int .i64 ((rd_T154 l0 x3_1).f1)) ∧ w'.cell? ⟨(ad101.add ((x3_1).toNat * 3)).block, (ad101.add ((x3_1).toNat * 3)).off + 2, none⟩ = some (.int .i64 ((rd_T154 l0 x3_1).f2))) (ds := []) b2A0 (by kernel_rfl) rfl rfl ⟨((HB.out.cell (bL w hw101_0)).trans hw101_0), ((HB.out.cell (bL w hw101_1)).trans hw101_1), ((HB.out.cell (bL w hw101_2)).trans hw101_2), ((HB.out.cell (bL w hw103_0)).trans hw103_0), ((HB.out.cell (bL w hw103_1)).trans hw103_1), ((HB.out.cell (bL w hw103_2)).trans hw103_2), ((HB.out.cell (bL w hw105_0)).trans hw105_0), ((HB.out.cell (bL w hw105_1)).trans hw105_1), ((HB.out.cell (bL w hw105_2)).trans hw105_2)⟩ (fun hHeld => ?_); refine with_tabW spec_AreSlots.tab4 spec_AreSlots.bits4 (fun HT_ HW_ => ?_)
     generalize wr.drew = w16 at HB hx101_0 hx101_1 hx101_2 hx103_0 hx103_1 hx103_2 hx105_0 hx105_1 hx105_2 hHeld ⊢
     refine pI 0 (some 11) b2A1 HT_ ?_
     refine pI 1 (some 12) b2A2 HT_ ?_
     refine pI 2 (some 13) b2A3 HT_ ?_
     refine pI 3 (some 14) b2A4 HT_ ?_
     refine tI 4 (some 15) b2A5 HT_ HW_ hHeld rfl rfl (Or.inl ⟨by rfl, by rintro w' ⟨s0, s1, s2, s3, s4, s5, s6, s7, s8⟩; go_simp; with_reducible rfl⟩) ?_
     refine one_ (i := 5) (N := some 16) b2A6 rfl rfl (one_of HT_.out (by kernel_rfl)) (by decide) (fun K hK => ?_)
     refine goes_ Try.func138 (by kernel_rfl) rfl #[.int .i64 ((rd_T154 l0 x3_1).f0), .int .i64 1, .int .i64 99] (by rfl) rfl rfl (by (try simp only [List.map_toArray, List.map_cons, List.map_nil]); first | done | rfl | (simp only [List.length_drop, List.length_take]; rfl)) ?_
     with_reducible refine (spec_l1In.calls ((rd_T154 l0 x3_1).f0) 1 99 true _ A5.out).mono ?_
     rintro e w' ⟨rfl, ⟨nd, rfl⟩⟩
     refine ⟨_, rfl, ?_⟩
     refine hK.out _ _ ⟨((HB.out.cell (bL w hw101_0)).trans hw101_0), ((HB.out.cell (bL w hw101_1)).trans hw101_1), ((HB.out.cell (bL w hw101_2)).trans hw101_2), ((HB.out.cell (bL w hw103_0)).trans hw103_0), ((HB.out.cell (bL w hw103_1)).trans hw103_1), ((HB.out.cell (bL w hw103_2)).trans hw103_2), ((HB.out.cell (bL w hw105_0)).trans hw105_0), ((HB.out.cell (bL w hw105_1)).trans hw105_1), ((HB.out.cell (bL w hw105_2)).trans hw105_2)⟩ (fun hHeld => ?_)
     clear hK K
     refine norm_ (a' := ?_) ?_ ?_
     rotate_left
     ·show Act.put _ (some 16) _ = _
      simp only [Act.put, sA, sZ, sS, i64_w, i32_w]
      rfl
     refine pI 6 (some 17) b2A7 HT_ ?_
     refine pI 7 (some 18) b2A8 HT_ ?_
     refine pI 8 (some 19) b2A9 HT_ ?_
     refine pI 9 (some 20) b2A10 HT_ ?_
     refine pI 10 (some 21) b2A11 HT_ ?_
     refine pI 11 (some 22) b2A12 HT_ ?_
     refine tI 12 (some 23) b2A13 HT_ HW_ hHeld rfl rfl (Or.inl ⟨by rfl, by rintro w' ⟨s0, s1, s2, s3, s4, s5, s6, s7, s8⟩; go_simp; with_reducible rfl⟩) ?_
     refine one_ (i := 13) (N := some 24) b2A14 rfl rfl (one_of HT_.out (by kernel_rfl)) (by decide) (fun K hK => ?_)
     refine goes_ Try.func138 (by kernel_rfl) rfl #[.int .i64 ((rd_T154 l0 x3_1).f1), .int .i64 1, .int .i64 50] (by rfl) rfl rfl (by (try simp only [List.map_toArray, List.map_cons, List.map_nil]); first | done | rfl | (simp only [List.length_drop, List.length_take]; rfl)) ?_
     with_reducible refine (spec_l1In.calls ((rd_T154 l0 x3_1).f1) 1 50 true _ A7.out).mono ?_
     rintro e w' ⟨rfl, ⟨nd, rfl⟩⟩
     refine ⟨_, rfl, ?_⟩
     refine hK.out _ _ ⟨((HB.out.cell (bL w hw101_0)).trans hw101_0), ((HB.out.cell (bL w hw101_1)).trans hw101_1), ((HB.out.cell (bL w hw101_2)).trans hw101_2), ((HB.out.cell (bL w hw103_0)).trans hw103_0), ((HB.out.cell (bL w hw103_1)).trans hw103_1), ((HB.out.cell (bL w hw103_2)).trans hw103_2), ((HB.out.cell (bL w hw105_0)).trans hw105_0), ((HB.out.cell (bL w hw105_1)).trans hw105_1), ((HB.out.cell (bL w hw105_2)).trans hw105_2)⟩ (fun hHeld => ?_)
     clear hK K
     refine norm_ (a' := ?_) ?_ ?_
     rotate_left
     ·show Act.put _ (some 24) _ = _
      simp only [Act.put, sA, sZ, sS, i64_w, i32_w]
      rfl
     refine pI 14 (some 25) b2A15 HT_ ?_
     refine pI 15 (some 26) b2A16 HT_ ?_
     refine pI 16 (some 27) b2A17 HT_ ?_
     refine pI 17 (some 28) b2A18 HT_ ?_
     refine pI 18 (some 29) b2A19 HT_ ?_
     refine pI 19 (some 30) b2A20 HT_ ?_
     refine pI 20 (some 31) b2A21 HT_ ?_
     refine tI 21 (some 32) b2A22 HT_ HW_ hHeld rfl rfl (Or.inl ⟨by rfl, by rintro w' ⟨s0, s1, s2, s3, s4, s5, s6, s7, s8⟩; go_simp; with_reducible rfl⟩) ?_
     refine one_ (i := 22) (N := some 33) b2A23 rfl rfl (one_of HT_.out (by kernel_rfl)) (by decide) (fun K hK => ?_)
     refine goes_ Try.func138 (by kernel_rfl) rfl #[.int .i64 ((rd_T154 l0 x3_1).f2), .int .i64 0, .int .i64 999] (by rfl) rfl rfl (by (try simp only [List.map_toArray, List.map_cons, List.map_nil]); first | done | rfl | (simp only [List.length_drop, List.length_take]; rfl)) ?_
     with_reducible refine (spec_l1In.calls ((rd_T154 l0 x3_1).f2) 0 999 true _ A9.out).mono ?_
     rintro e w' ⟨rfl, ⟨nd, rfl⟩⟩
     refine ⟨_, rfl, ?_⟩
     refine hK.out _ _ ⟨((HB.out.cell (bL w hw101_0)).trans hw101_0), ((HB.out.cell (bL w hw101_1)).trans hw101_1), ((HB.out.cell (bL w hw101_2)).trans hw101_2), ((HB.out.cell (bL w hw103_0)).trans hw103_0), ((HB.out.cell (bL w hw103_1)).trans hw103_1), ((HB.out.cell (bL w hw103_2)).trans hw103_2), ((HB.out.cell (bL w hw105_0)).trans hw105_0), ((HB.out.cell (bL w hw105_1)).trans hw105_1), ((HB.out.cell (bL w hw105_2)).trans hw105_2)⟩ (fun hHeld => ?_)
     clear hK K
     refine norm_ (a' := ?_) ?_ ?_
     rotate_left
     ·show Act.put _ (some 33) _ = _
      simp only [Act.put, sA, sZ, sS, i64_w, i32_w]
      rfl
     refine pI 23 (some 34) b2A24 HT_ ?_
     refine pI 24 (some 35) b2A25 HT_ ?_
     refine pI 25 (some 36) b2A26 HT_ ?_
     refine pI 26 (some 37) b2A27 HT_ ?_
     refine pI 27 (some 38) b2A28 HT_ ?_
     refine pI 28 (some 39) b2A29 HT_ ?_
     refine pU 29 (some 40) b2A30 HT_ ?_
     refine pU 30 (some 41) b2A31 HT_ ?_
     refine pU 31 (some 42) b2A32 HT_ ?_
     refine pU 32 (some 43) b2A33 HT_ ?_
     refine pU 33 (some 44) b2A34 HT_ ?_
     refine pU 34 (some 45) b2A44 HT_ ?_
     refine pU 35 (some 46) b2A45 HT_ ?_
     refine pU 36 (some 47) b2A46 HT_ ?_
     refine pU 37 (some 48) b2A47 HT_ ?_
     refine pU 38 (some 49) b2A39 HT_ ?_
     refine pU 39 (some 50) b2A40 HT_ ?_
     refine pU 40 (some 51) b2A41 HT_ ?_
     refine pI 41 (some 52) b2A42 HT_ ?_
     refine pI 42 (some 53) b2A43 HT_ ?_
     refine done_ (done_of HT_.out (by kernel_rfl)) ?_
     try go_wp2
     go_meet
     case rel => exact ⟨_, (false), (by first | rfl | (simp; done) | (simp [*]; done)), H', ⟨by have := HK1.out; first | omega | exact Nat.le_refl _⟩, ⟨by exact qB HB.out⟩⟩
    rw [if_pos c11] at H
    have c11b0 : decide (0 < x3_1) = true := decide_eq_true c11
    clear c11
    obtain ⟨ji12, hji12⟩ : ∃ j_ : Int, (wrap64 (x3_1 - 1)) = j_ := ⟨_, rfl⟩
    replace H : (if 0 ≤ (ji12) then (if (ji12) < (l0.length : Int) then (spec_AreSlots.j1 k1 l0 x3_1 (decide (((rd_T154 l0 (ji12)).f0) ≥ ((rd_T154 l0 x3_1).f0)))) else (none)) else (none)) = some r := by first | (rw [hji12] at H; exact H) | (simp only [hji12] at H ⊢; exact H)
    (try rw [hji12] at A5)
    (try rw [hji12] at A7)
    (try rw [hji12] at A9)
    have hji12w : (IntKind.i64.wrap (x3_1 - 1)) = ji12 := (i64_w _).trans hji12
    by_cases c13 : 0 ≤ (ji12)
    rotate_left
    ·rw [if_neg c13] at H
     exact absurd H (by simp)
    rw [if_pos c13] at H
    have c13b0 : decide (0 ≤ (ji12)) = true := decide_eq_true c13
    clear c13
    by_cases c14 : (ji12) < (l0.length : Int)
    rotate_left
    ·rw [if_neg c14] at H
     exact absurd H (by simp)
    rw [if_pos c14] at H
    have c14b0 : decide ((ji12) < (l0.length : Int)) = true := decide_eq_true c14
    clear c14
    have H' := zK H
    clear H
    try go_wp2
    have n0_ := zK (b1 HB.out)
    clear HB
    have HB := n0_
    clear n0_
    have p101 : 0 ≤ (x3_1 : Int) := oD (by first | (with_reducible assumption) | assumption)
    have q101 : x3_1 < (l0.length : Int) := oD (by first | (with_reducible assumption) | assumption)
    obtain ⟨ad101, e101, hx101_0, hx101_1, hx101_2⟩ := at_T154 HR0.out x3_1 p101 q101
    have hw101_2 := hx101_2
    have hw101_1 := hx101_1
    have hw101_0 := hx101_0
    cases e101
    replace hx101_0 := (HB.out.cell (bL w hx101_0)).trans hx101_0
    replace hx101_1 := (HB.out.cell (bL w hx101_1)).trans hx101_1
    replace hx101_2 := (HB.out.cell (bL w hx101_2)).trans hx101_2
    replace p101 := eq_true p101
    replace q101 := eq_true q101
    have p103 : 0 ≤ (x3_1 : Int) := oD (by first | (with_reducible assumption) | assumption)
    have q103 : x3_1 < (l0.length : Int) := oD (by first | (with_reducible assumption) | assumption)
    obtain ⟨ad103, e103, hx103_0, hx103_1, hx103_2⟩ := at_T154 HR0.out x3_1 p103 q103
    have hw103_2 := hx103_2
    have hw103_1 := hx103_1
    have hw103_0 := hx103_0
    obtain rfl : ad101 = ad103 := (by injection e103)
    replace hx103_0 := (HB.out.cell (bL w hx103_0)).trans hx103_0
    replace hx103_1 := (HB.out.cell (bL w hx103_1)).trans hx103_1
    replace hx103_2 := (HB.out.cell (bL w hx103_2)).trans hx103_2
    replace p103 := eq_true p103
    replace q103 := eq_true q103
    have p105 : 0 ≤ (x3_1 : Int) := oD (by first | (with_reducible assumption) | assumption)
    have q105 : x3_1 < (l0.length : Int) := oD (by first | (with_reducible assumption) | assumption)
    obtain ⟨ad105, e105, hx105_0, hx105_1, hx105_2⟩ := at_T154 HR0.out x3_1 p105 q105
    have hw105_2 := hx105_2
    have hw105_1 := hx105_1
    have hw105_0 := hx105_0
    obtain rfl : ad101 = ad105 := (by injection e105)
    replace hx105_0 := (HB.out.cell (bL w hx105_0)).trans hx105_0
    replace hx105_1 := (HB.out.cell (bL w hx105_1)).trans hx105_1
    replace hx105_2 := (HB.out.cell (bL w hx105_2)).trans hx105_2
    replace p105 := eq_true p105
    replace q105 := eq_true q105
    have p107 : 0 ≤ ((ji12) : Int) := oD (by first | (with_reducible assumption) | assumption)
    have q107 : (ji12) < (l0.length : Int) := oD (by first | (with_reducible assumption) | assumption)
    obtain ⟨ad107, e107, hx107_0, hx107_1, hx107_2⟩ := at_T154 HR0.out (ji12) p107 q107
    have hw107_2 := hx107_2
    have hw107_1 := hx107_1
    have hw107_0 := hx107_0
    obtain rfl : ad101 = ad107 := (by injection e107)
    replace hx107_0 := (HB.out.cell (bL w hx107_0)).trans hx107_0
    replace hx107_1 := (HB.out.cell (bL w hx107_1)).trans hx107_1
    replace hx107_2 := (HB.out.cell (bL w hx107_2)).trans hx107_2
    replace p107 := eq_true p107
    replace q107 := eq_true q107
    have p108 : 0 ≤ (x3_1 : Int) := oD (by first | (with_reducible assumption) | assumption)
    have q108 : x3_1 < (l0.length : Int) := oD (by first | (with_reducible assumption) | assumption)
    obtain ⟨ad108, e108, hx108_0, hx108_1, hx108_2⟩ := at_T154 HR0.out x3_1 p108 q108
    have hw108_2 := hx108_2
    have hw108_1 := hx108_1
    have hw108_0 := hx108_0
    obtain rfl : ad101 = ad108 := (by injection e108)
    replace hx108_0 := (HB.out.cell (bL w hx108_0)).trans hx108_0
    replace hx108_1 := (HB.out.cell (bL w hx108_1)).trans hx108_1
    replace hx108_2 := (HB.out.cell (bL w hx108_2)).trans hx108_2
    replace p108 := eq_true p108
    replace q108 := eq_true q108
    refine start_ (n := 43) (S := fun w' => w'.cell? (ad101.add ((x3_1).toNat * 3)) = some (.int .i64 ((rd_T154 l0 x3_1).f0)) ∧ w'.cell? ⟨(ad101.add ((x3_1).toNat * 3)).block, (ad101.add ((x3_1).toNat * 3)).off + 1, none⟩ = some (.int .i64 ((rd_T154 l0 x3_1).f1)) ∧ w'.cell? ⟨(ad101.add ((x3_1).toNat * 3)).block, (ad101.add ((x3_1).toNat * 3)).off + 2, none⟩ = some (.int .i64 ((rd_T154 l0 x3_1).f2)) ∧ w'.cell? (ad101.add ((x3_1).toNat * 3)) = some (.int .i64 ((rd_T154 l0 x3_1).f0)) ∧ w'.cell? ⟨(ad101.add ((x3_1).toNat * 3)).block, (ad101.add ((x3_1).toNat * 3)).off + 1, none⟩ = some (.int .i64 ((rd_T154 l0 x3_1).f1)) ∧ w'.cell? ⟨(ad101.add ((x3_1).toNat * 3)).block, (ad101.add ((x3_1).toNat * 3)).off + 2, none⟩ = some (.int .i64 ((rd_T154 l0 x3_1).f2)) ∧ w'.cell? (ad101.add ((x3_1).toNat * 3)) = some (.int .i64 ((rd_T154 l0 x3_1).f0)) ∧ w'.cell? ⟨(ad101.add ((x3_1).toNat * 3)).block, (ad101.add ((x3_1).toNat * 3)).off + 1, none⟩ = some (.int .i64 ((rd_T154 l0 x3_1).f1)) ∧ w'.cell? ⟨(ad101.add ((x3_1).toNat * 3)).block, (ad101.add ((x3_1).toNat * 3)).off + 2, none⟩ = some (.int .i64 ((rd_T154 l0 x3_1).f2)) ∧ w'.cell? (ad101.add (((ji12)).toNat * 3)) = some (.int .i64 ((rd_T154 l0 (ji12)).f0)) ∧ w'.cell? ⟨(ad101.add (((ji12)).toNat * 3)).block, (ad101.add (((ji12)).toNat * 3)).off + 1, none⟩ = some (.int .i64 ((rd_T154 l0 (ji12)).f1)) ∧ w'.cell? ⟨(ad101.add (((ji12)).toNat * 3)).block, (ad101.add (((ji12)).toNat * 3)).off + 2, none⟩ = some (.int .i64 ((rd_T154 l0 (ji12)).f2)) ∧ w'.cell? (ad101.add ((x3_1).toNat * 3)) = some (.int .i64 ((rd_T154 l0 x3_1).f0)) ∧ w'.cell? ⟨(ad101.add ((x3_1).toNat * 3)).block, (ad101.add ((x3_1).toNat * 3)).off + 1, none⟩ = some (.int .i64 ((rd_T154 l0 x3_1).f1)) ∧ w'.cell? ⟨(ad101.add ((x3_1).toNat * 3)).block, (ad101.add ((x3_1).toNat * 3)).off + 2, none⟩ = some (.int .i64 ((rd_T154 l0 x3_1).f2))) (ds := []) b2A0 (by kernel_rfl) rfl rfl ⟨((HB.out.cell (bL w hw101_0)).trans hw101_0), ((HB.out.cell (bL w hw101_1)).trans hw101_1), ((HB.out.cell (bL w hw101_2)).trans hw101_2), ((HB.out.cell (bL w hw103_0)).trans hw103_0), ((HB.out.cell (bL w hw103_1)).trans hw103_1), ((HB.out.cell (bL w hw103_2)).trans hw103_2), ((HB.out.cell (bL w hw105_0)).trans hw105_0), ((HB.out.cell (bL w hw105_1)).trans hw105_1), ((HB.out.cell (bL w hw105_2)).trans hw105_2), ((HB.out.cell (bL w hw107_0)).trans hw107_0), ((HB.out.cell (bL w hw107_1)).trans hw107_1), ((HB.out.cell (bL w hw107_2)).trans hw107_2), ((HB.out.cell (bL w hw108_0)).trans hw108_0), ((HB.out.cell (bL w hw108_1)).trans hw108_1), ((HB.out.cell (bL w hw108_2)).trans hw108_2)⟩ (fun hHeld => ?_); refine with_tabW spec_AreSlots.tab4 spec_AreSlots.bits4 (fun HT_ HW_ => ?_)
    generalize wr.drew = w15 at HB hx101_0 hx101_1 hx101_2 hx103_0 hx103_1 hx103_2 hx105_0 hx105_1 hx105_2 hx107_0 hx107_1 hx107_2 hx108_0 hx108_1 hx108_2 hHeld ⊢
    refine pI 0 (some 11) b2A1 HT_ ?_
    refine pI 1 (some 12) b2A2 HT_ ?_
    refine pI 2 (some 13) b2A3 HT_ ?_
    refine pI 3 (some 14) b2A4 HT_ ?_
    refine tI 4 (some 15) b2A5 HT_ HW_ hHeld rfl rfl (Or.inl ⟨by rfl, by rintro w' ⟨s0, s1, s2, s3, s4, s5, s6, s7, s8, s9, s10, s11, s12, s13, s14⟩; go_simp; with_reducible rfl⟩) ?_
    refine one_ (i := 5) (N := some 16) b2A6 rfl rfl (one_of HT_.out (by kernel_rfl)) (by decide) (fun K hK => ?_)
    refine goes_ Try.func138 (by kernel_rfl) rfl #[.int .i64 ((rd_T154 l0 x3_1).f0), .int .i64 1, .int .i64 99] (by rfl) rfl rfl (by (try simp only [List.map_toArray, List.map_cons, List.map_nil]); first | done | rfl | (simp only [List.length_drop, List.length_take]; rfl)) ?_
    with_reducible refine (spec_l1In.calls ((rd_T154 l0 x3_1).f0) 1 99 true _ A5.out).mono ?_
    rintro e w' ⟨rfl, ⟨nd, rfl⟩⟩
    refine ⟨_, rfl, ?_⟩
    refine hK.out _ _ ⟨((HB.out.cell (bL w hw101_0)).trans hw101_0), ((HB.out.cell (bL w hw101_1)).trans hw101_1), ((HB.out.cell (bL w hw101_2)).trans hw101_2), ((HB.out.cell (bL w hw103_0)).trans hw103_0), ((HB.out.cell (bL w hw103_1)).trans hw103_1), ((HB.out.cell (bL w hw103_2)).trans hw103_2), ((HB.out.cell (bL w hw105_0)).trans hw105_0), ((HB.out.cell (bL w hw105_1)).trans hw105_1), ((HB.out.cell (bL w hw105_2)).trans hw105_2), ((HB.out.cell (bL w hw107_0)).trans hw107_0), ((HB.out.cell (bL w hw107_1)).trans hw107_1), ((HB.out.cell (bL w hw107_2)).trans hw107_2), ((HB.out.cell (bL w hw108_0)).trans hw108_0), ((HB.out.cell (bL w hw108_1)).trans hw108_1), ((HB.out.cell (bL w hw108_2)).trans hw108_2)⟩ (fun hHeld => ?_)
    clear hK K
    refine norm_ (a' := ?_) ?_ ?_
    rotate_left
    ·show Act.put _ (some 16) _ = _
     simp only [Act.put, sA, sZ, sS, i64_w, i32_w]
     rfl
    refine pI 6 (some 17) b2A7 HT_ ?_
    refine pI 7 (some 18) b2A8 HT_ ?_
    refine pI 8 (some 19) b2A9 HT_ ?_
    refine pI 9 (some 20) b2A10 HT_ ?_
    refine pI 10 (some 21) b2A11 HT_ ?_
    refine pI 11 (some 22) b2A12 HT_ ?_
    refine tI 12 (some 23) b2A13 HT_ HW_ hHeld rfl rfl (Or.inl ⟨by rfl, by rintro w' ⟨s0, s1, s2, s3, s4, s5, s6, s7, s8, s9, s10, s11, s12, s13, s14⟩; go_simp; with_reducible rfl⟩) ?_
    refine one_ (i := 13) (N := some 24) b2A14 rfl rfl (one_of HT_.out (by kernel_rfl)) (by decide) (fun K hK => ?_)
    refine goes_ Try.func138 (by kernel_rfl) rfl #[.int .i64 ((rd_T154 l0 x3_1).f1), .int .i64 1, .int .i64 50] (by rfl) rfl rfl (by (try simp only [List.map_toArray, List.map_cons, List.map_nil]); first | done | rfl | (simp only [List.length_drop, List.length_take]; rfl)) ?_
    with_reducible refine (spec_l1In.calls ((rd_T154 l0 x3_1).f1) 1 50 true _ A7.out).mono ?_
    rintro e w' ⟨rfl, ⟨nd, rfl⟩⟩
    refine ⟨_, rfl, ?_⟩
    refine hK.out _ _ ⟨((HB.out.cell (bL w hw101_0)).trans hw101_0), ((HB.out.cell (bL w hw101_1)).trans hw101_1), ((HB.out.cell (bL w hw101_2)).trans hw101_2), ((HB.out.cell (bL w hw103_0)).trans hw103_0), ((HB.out.cell (bL w hw103_1)).trans hw103_1), ((HB.out.cell (bL w hw103_2)).trans hw103_2), ((HB.out.cell (bL w hw105_0)).trans hw105_0), ((HB.out.cell (bL w hw105_1)).trans hw105_1), ((HB.out.cell (bL w hw105_2)).trans hw105_2), ((HB.out.cell (bL w hw107_0)).trans hw107_0), ((HB.out.cell (bL w hw107_1)).trans hw107_1), ((HB.out.cell (bL w hw107_2)).trans hw107_2), ((HB.out.cell (bL w hw108_0)).trans hw108_0), ((HB.out.cell (bL w hw108_1)).trans hw108_1), ((HB.out.cell (bL w hw108_2)).trans hw108_2)⟩ (fun hHeld => ?_)
    clear hK K
    refine norm_ (a' := ?_) ?_ ?_
    rotate_left
    ·show Act.put _ (some 24) _ = _
     simp only [Act.put, sA, sZ, sS, i64_w, i32_w]
     rfl
    refine pI 14 (some 25) b2A15 HT_ ?_
    refine pI 15 (some 26) b2A16 HT_ ?_
    refine pI 16 (some 27) b2A17 HT_ ?_
    refine pI 17 (some 28) b2A18 HT_ ?_
    refine pI 18 (some 29) b2A19 HT_ ?_
    refine pI 19 (some 30) b2A20 HT_ ?_
    refine pI 20 (some 31) b2A21 HT_ ?_
    refine tI 21 (some 32) b2A22 HT_ HW_ hHeld rfl rfl (Or.inl ⟨by rfl, by rintro w' ⟨s0, s1, s2, s3, s4, s5, s6, s7, s8, s9, s10, s11, s12, s13, s14⟩; go_simp; with_reducible rfl⟩) ?_
    refine one_ (i := 22) (N := some 33) b2A23 rfl rfl (one_of HT_.out (by kernel_rfl)) (by decide) (fun K hK => ?_)
    refine goes_ Try.func138 (by kernel_rfl) rfl #[.int .i64 ((rd_T154 l0 x3_1).f2), .int .i64 0, .int .i64 999] (by rfl) rfl rfl (by (try simp only [List.map_toArray, List.map_cons, List.map_nil]); first | done | rfl | (simp only [List.length_drop, List.length_take]; rfl)) ?_
    with_reducible refine (spec_l1In.calls ((rd_T154 l0 x3_1).f2) 0 999 true _ A9.out).mono ?_
    rintro e w' ⟨rfl, ⟨nd, rfl⟩⟩
    refine ⟨_, rfl, ?_⟩
    refine hK.out _ _ ⟨((HB.out.cell (bL w hw101_0)).trans hw101_0), ((HB.out.cell (bL w hw101_1)).trans hw101_1), ((HB.out.cell (bL w hw101_2)).trans hw101_2), ((HB.out.cell (bL w hw103_0)).trans hw103_0), ((HB.out.cell (bL w hw103_1)).trans hw103_1), ((HB.out.cell (bL w hw103_2)).trans hw103_2), ((HB.out.cell (bL w hw105_0)).trans hw105_0), ((HB.out.cell (bL w hw105_1)).trans hw105_1), ((HB.out.cell (bL w hw105_2)).trans hw105_2), ((HB.out.cell (bL w hw107_0)).trans hw107_0), ((HB.out.cell (bL w hw107_1)).trans hw107_1), ((HB.out.cell (bL w hw107_2)).trans hw107_2), ((HB.out.cell (bL w hw108_0)).trans hw108_0), ((HB.out.cell (bL w hw108_1)).trans hw108_1), ((HB.out.cell (bL w hw108_2)).trans hw108_2)⟩ (fun hHeld => ?_)
    clear hK K
    refine norm_ (a' := ?_) ?_ ?_
    rotate_left
    ·show Act.put _ (some 33) _ = _
     simp only [Act.put, sA, sZ, sS, i64_w, i32_w]
     rfl
    refine pI 23 (some 34) b2A24 HT_ ?_
    refine pI 24 (some 35) b2A25 HT_ ?_
    refine pI 25 (some 36) b2A26 HT_ ?_
    refine pI 26 (some 37) b2A27 HT_ ?_
    refine pI 27 (some 38) b2A28 HT_ ?_
    refine pI 28 (some 39) b2A29 HT_ ?_
    refine pI 29 (some 40) b2A30 HT_ ?_
    refine pI 30 (some 41) b2A31 HT_ ?_
    refine pI 31 (some 42) b2A32 HT_ ?_
    refine pI 32 (some 43) b2A33 HT_ ?_
    refine pI 33 (some 44) b2A34 HT_ ?_
    refine pI 35 (some 46) b2A35 HT_ ?_
    refine pI 36 (some 47) b2A36 HT_ ?_
    refine pI 37 (some 48) b2A37 HT_ ?_
    refine pI 38 (some 49) b2A38 HT_ ?_
    refine tI 34 (some 45) b2A39 HT_ HW_ hHeld rfl rfl (Or.inl ⟨by rfl, by rintro w' ⟨s0, s1, s2, s3, s4, s5, s6, s7, s8, s9, s10, s11, s12, s13, s14⟩; go_simp; with_reducible rfl⟩) ?_
    refine tI 39 (some 50) b2A40 HT_ HW_ hHeld rfl rfl (Or.inl ⟨by rfl, by rintro w' ⟨s0, s1, s2, s3, s4, s5, s6, s7, s8, s9, s10, s11, s12, s13, s14⟩; go_simp; with_reducible rfl⟩) ?_
    refine pI 40 (some 51) b2A41 HT_ ?_
    refine pI 41 (some 52) b2A42 HT_ ?_
    refine pI 42 (some 53) b2A43 HT_ ?_
    refine done_ (done_of HT_.out (by kernel_rfl)) ?_
    try go_wp2
    go_meet
    case rel => exact ⟨_, (decide (((rd_T154 l0 (ji12)).f0) ≥ ((rd_T154 l0 x3_1).f0))), (by first | rfl | (simp; done) | (simp only [← hji12] <;> (first | rfl | simp)) | (simp [*]; done)), H', ⟨by have := HK1.out; first | omega | exact Nat.le_refl _⟩, ⟨by exact qB HB.out⟩⟩
   case rest =>
    clear HC3
    try clear c1
    try clear p1
    try clear q1
    try clear hx1
    try clear p2
    try clear c4
    try clear c6
    try clear c8
    try clear p10
    try clear q10
    try clear hx10
    try clear c13
    try clear hx101_0
    try clear hx101_1
    try clear hx101_2
    try clear hx103_0
    try clear hx103_1
    try clear hx103_2
    try clear p101
    try clear p103
    try clear q101
    try clear q103
    obtain ⟨kq, x53_2, rfl, HA, HJ2, HB⟩ := hcut
    cases kq with
    | zero => exact absurd HA.out (by simp [spec_AreSlots.j1])
    | succ kj2 =>
     have H := HA.out
     clear HA
     simp only [spec_AreSlots.j1] at H
     by_cases c20 : x53_2 = true
     ·subst c20
      have H1 : (some false) = some r := by rw [if_pos rfl] at H; exact H
      clear H
      have H := H1
      clear H1
      obtain rfl := Option.some.inj H
      go_wp2
      go_ret
      exact ⟨by first | rfl | (simp [errW_none, errW_some] <;> rfl) | (simp [*, errW_none, errW_some] <;> rfl), by exact qB HB.out⟩
     replace c20 := Bool.eq_false_iff.mpr c20
     subst c20
     have H1 : (spec_AreSlots.l1 kj2 l0 x3_1 0) = some r := by rw [if_neg (show ¬ (false = true) by decide)] at H; exact H
     clear H
     have H := H1
     clear H1
     have H' := zK H
     clear H
     go_wp2
     go_loopg [4] kj2 (fun kq v4 w' => ∃ (x4_3 : Int), v4 = .int .i64 x4_3 ∧ Aside0 (spec_AreSlots.l1 kq l0 x3_1 x4_3 = some r) ∧ Aside0 (kq ≤ kj2) ∧ Aside0 (Below w.heap.size w w'))
     case atStart => exact ⟨(0), (by first | rfl | (simp; done) | (simp [*]; done)), H', ⟨Nat.le_refl _⟩, ⟨by exact qB HB.out⟩⟩
     case round =>
      clear H'
      try clear c1
      try clear p1
      try clear q1
      try clear hx1
      try clear c2
      try clear p2
      try clear c4
      try clear c6
      try clear c8
      try clear p10
      try clear q10
      try clear hx10
      try clear c13
      try clear c20
      try clear hx101_0
      try clear hx101_1
      try clear hx101_2
      try clear hx103_0
      try clear hx103_1
      try clear hx103_2
      try clear p1
      try clear p10
      try clear p101
      try clear p103
      try clear p2
      try clear q1
      try clear q10
      try clear q101
      try clear q103
      obtain ⟨x4_3, rfl, HA, HK3, HB⟩ := hrel
      cases gk with
      | zero => exact absurd HA.out (by simp [spec_AreSlots.l1])
      | succ k3 =>
       have H := HA.out
       clear HA
       simp only [spec_AreSlots.l1] at H
       by_cases c21 : x4_3 < x3_1
       rotate_left
       ·rw [if_neg c21] at H
        have c21b0 : decide (x4_3 < x3_1) = false := decide_eq_false c21
        clear c21
        have H' := zK H
        clear H
        go_wp2
        go_roundg k3
        case measure => have := HK1.out; have := HJ2.out; have := HK3.out; omega
        case rel => exact ⟨(wrap64 (x3_1 + 1)), (by first | rfl | (simp; done) | (simp [*]; done)), H', ⟨by have := HK1.out; have := HJ2.out; have := HK3.out; omega⟩, ⟨by exact qB HB.out⟩⟩
       rw [if_pos c21] at H
       have c21b0 : decide (x4_3 < x3_1) = true := decide_eq_true c21
       clear c21
       by_cases c22 : 0 ≤ x3_1
       rotate_left
       ·rw [if_neg c22] at H
        exact absurd H (by simp)
       rw [if_pos c22] at H
       have c22b0 : decide (0 ≤ x3_1) = true := decide_eq_true c22
       clear c22
       by_cases c23 : x3_1 < (l0.length : Int)
       rotate_left
       ·rw [if_neg c23] at H
        exact absurd H (by simp)
       rw [if_pos c23] at H
       have c23b0 : decide (x3_1 < (l0.length : Int)) = true := decide_eq_true c23
       clear c23
       by_cases c24 : ((rd_T154 l0 x3_1).f2) = 0
       ·rw [if_pos c24] at H
        have c24b0 : (((rd_T154 l0 x3_1).f2) == 0) = true := beq_iff_eq.mpr c24
        have c24b1 : (((rd_T154 l0 x3_1).f2) != 0) = false := bne_eq_false_iff_eq.mpr c24
        clear c24
        have H' := zK H
        clear H
        try go_wp2
        have n0_ := zK (b1 HB.out)
        clear HB
        have HB := n0_
        clear n0_
        have p109 : 0 ≤ (x3_1 : Int) := oD (by first | (with_reducible assumption) | assumption)
        have q109 : x3_1 < (l0.length : Int) := oD (by first | (with_reducible assumption) | assumption)
        obtain ⟨ad109, e109, hx109_0, hx109_1, hx109_2⟩ := at_T154 HR0.out x3_1 p109 q109
        have hw109_2 := hx109_2
        have hw109_1 := hx109_1
        have hw109_0 := hx109_0
        cases e109
        replace hx109_0 := (HB.out.cell (bL w hx109_0)).trans hx109_0
        replace hx109_1 := (HB.out.cell (bL w hx109_1)).trans hx109_1
        replace hx109_2 := (HB.out.cell (bL w hx109_2)).trans hx109_2
        replace p109 := eq_true p109
        replace q109 := eq_true q109
        refine start_ (n := 19) (S := fun w' => w'.cell? (ad109.add ((x3_1).toNat * 3)) = some (.int .i64 ((rd_T154 l0 x3_1).f0)) ∧ w'.cell? ⟨(ad109.add ((x3_1).toNat * 3)).block, (ad109.add ((x3_1).toNat * 3)).off + 1, none⟩ = some (.int .i64 ((rd_T154 l0 x3_1).f1)) ∧ w'.cell? ⟨(ad109.add ((x3_1).toNat * 3)).block, (ad109.add ((x3_1).toNat * 3)).off + 2, none⟩ = some (.int .i64 ((rd_T154 l0 x3_1).f2))) (ds := []) b2A48 (by kernel_rfl) rfl rfl ⟨((HB.out.cell (bL w hw109_0)).trans hw109_0), ((HB.out.cell (bL w hw109_1)).trans hw109_1), ((HB.out.cell (bL w hw109_2)).trans hw109_2)⟩ (fun hHeld => ?_); refine with_tabW spec_AreSlots.tab9 spec_AreSlots.bits9 (fun HT_ HW_ => ?_)
        generalize wr.drew = w25 at HB hx109_0 hx109_1 hx109_2 hHeld ⊢
        refine pI 0 (some 59) b2A49 HT_ ?_
        refine pI 1 (some 60) b2A50 HT_ ?_
        refine pI 2 (some 61) b2A51 HT_ ?_
        refine pI 3 (some 62) b2A52 HT_ ?_
        refine tI 4 (some 63) b2A53 HT_ HW_ hHeld rfl rfl (Or.inl ⟨by rfl, by rintro w' ⟨s0, s1, s2⟩; go_simp; with_reducible rfl⟩) ?_
        refine pI 5 (some 64) b2A54 HT_ ?_
        refine pI 6 (some 65) b2A55 HT_ ?_
        refine pU 7 (some 66) b2A56 HT_ ?_
        refine pU 8 (some 67) b2A57 HT_ ?_
        refine pU 9 (some 68) b2A58 HT_ ?_
        refine pU 10 (some 69) b2A59 HT_ ?_
        refine pU 11 (some 70) b2A60 HT_ ?_
        refine pU 12 (some 71) b2A61 HT_ ?_
        refine pU 13 (some 72) b2A62 HT_ ?_
        refine pU 14 (some 73) b2A63 HT_ ?_
        refine pU 15 (some 74) b2A64 HT_ ?_
        refine pU 16 (some 75) b2A65 HT_ ?_
        refine pU 17 (some 76) b2A66 HT_ ?_
        refine pI 18 (some 77) b2A67 HT_ ?_
        refine done_ (done_of HT_.out (by kernel_rfl)) ?_
        try go_wp2
        go_roundg k3
        case measure => have := HK1.out; have := HJ2.out; have := HK3.out; omega
        case rel => exact ⟨(wrap64 (x4_3 + 1)), (by first | rfl | (simp; done) | (simp [*]; done)), H', ⟨by have := HK1.out; have := HJ2.out; have := HK3.out; omega⟩, ⟨by exact qB HB.out⟩⟩
       rw [if_neg c24] at H
       have c24b0 : (((rd_T154 l0 x3_1).f2) == 0) = false := beq_eq_false_iff_ne.mpr c24
       have c24b1 : (((rd_T154 l0 x3_1).f2) != 0) = true := bne_iff_ne.mpr c24
       by_cases c26 : 0 ≤ x4_3
       rotate_left
       ·rw [if_neg c26] at H
        exact absurd H (by simp)
       rw [if_pos c26] at H
       have c26b0 : decide (0 ≤ x4_3) = true := decide_eq_true c26
       clear c26
       by_cases c27 : x4_3 < (l0.length : Int)
       rotate_left
       ·rw [if_neg c27] at H
        exact absurd H (by simp)
       rw [if_pos c27] at H
       have c27b0 : decide (x4_3 < (l0.length : Int)) = true := decide_eq_true c27
       clear c27
       by_cases c28 : ((rd_T154 l0 x4_3).f2) = ((rd_T154 l0 x3_1).f2)
       ·rw [if_pos c28] at H
        have c28b0 : (((rd_T154 l0 x4_3).f2) == ((rd_T154 l0 x3_1).f2)) = true := beq_iff_eq.mpr c28
        have c28b1 : (((rd_T154 l0 x4_3).f2) != ((rd_T154 l0 x3_1).f2)) = false := bne_eq_false_iff_eq.mpr c28
        clear c28
        obtain rfl := Option.some.inj H
        try go_wp2
        have n0_ := zK (b1 HB.out)
        clear HB
        have HB := n0_
        clear n0_
        have p109 : 0 ≤ (x3_1 : Int) := oD (by first | (with_reducible assumption) | assumption)
        have q109 : x3_1 < (l0.length : Int) := oD (by first | (with_reducible assumption) | assumption)
        obtain ⟨ad109, e109, hx109_0, hx109_1, hx109_2⟩ := at_T154 HR0.out x3_1 p109 q109
        have hw109_2 := hx109_2
        have hw109_1 := hx109_1
        have hw109_0 := hx109_0
        cases e109
        replace hx109_0 := (HB.out.cell (bL w hx109_0)).trans hx109_0
        replace hx109_1 := (HB.out.cell (bL w hx109_1)).trans hx109_1
        replace hx109_2 := (HB.out.cell (bL w hx109_2)).trans hx109_2
        replace p109 := eq_true p109
        replace q109 := eq_true q109
        have p110 : 0 ≤ (x4_3 : Int) := oD (by first | (with_reducible assumption) | assumption)
        have q110 : x4_3 < (l0.length : Int) := oD (by first | (with_reducible assumption) | assumption)
        obtain ⟨ad110, e110, hx110_0, hx110_1, hx110_2⟩ := at_T154 HR0.out x4_3 p110 q110
        have hw110_2 := hx110_2
        have hw110_1 := hx110_1
        have hw110_0 := hx110_0
        obtain rfl : ad109 = ad110 := (by injection e110)
        replace hx110_0 := (HB.out.cell (bL w hx110_0)).trans hx110_0
        replace hx110_1 := (HB.out.cell (bL w hx110_1)).trans hx110_1
        replace hx110_2 := (HB.out.cell (bL w hx110_2)).trans hx110_2
        replace p110 := eq_true p110
        replace q110 := eq_true q110
        have p111 : 0 ≤ (x3_1 : Int) := oD (by first | (with_reducible assumption) | assumption)
        have q111 : x3_1 < (l0.length : Int) := oD (by first | (with_reducible assumption) | assumption)
        obtain ⟨ad111, e111, hx111_0, hx111_1, hx111_2⟩ := at_T154 HR0.out x3_1 p111 q111
        have hw111_2 := hx111_2
        have hw111_1 := hx111_1
        have hw111_0 := hx111_0
        obtain rfl : ad109 = ad111 := (by injection e111)
        replace hx111_0 := (HB.out.cell (bL w hx111_0)).trans hx111_0
        replace hx111_1 := (HB.out.cell (bL w hx111_1)).trans hx111_1
        replace hx111_2 := (HB.out.cell (bL w hx111_2)).trans hx111_2
        replace p111 := eq_true p111
        replace q111 := eq_true q111
        refine start_ (n := 19) (S := fun w' => w'.cell? (ad109.add ((x3_1).toNat * 3)) = some (.int .i64 ((rd_T154 l0 x3_1).f0)) ∧ w'.cell? ⟨(ad109.add ((x3_1).toNat * 3)).block, (ad109.add ((x3_1).toNat * 3)).off + 1, none⟩ = some (.int .i64 ((rd_T154 l0 x3_1).f1)) ∧ w'.cell? ⟨(ad109.add ((x3_1).toNat * 3)).block, (ad109.add ((x3_1).toNat * 3)).off + 2, none⟩ = some (.int .i64 ((rd_T154 l0 x3_1).f2)) ∧ w'.cell? (ad109.add ((x4_3).toNat * 3)) = some (.int .i64 ((rd_T154 l0 x4_3).f0)) ∧ w'.cell? ⟨(ad109.add ((x4_3).toNat * 3)).block, (ad109.add ((x4_3).toNat * 3)).off + 1, none⟩ = some (.int .i64 ((rd_T154 l0 x4_3).f1)) ∧ w'.cell? ⟨(ad109.add ((x4_3).toNat * 3)).block, (ad109.add ((x4_3).toNat * 3)).off + 2, none⟩ = some (.int .i64 ((rd_T154 l0 x4_3).f2)) ∧ w'.cell? (ad109.add ((x3_1).toNat * 3)) = some (.int .i64 ((rd_T154 l0 x3_1).f0)) ∧ w'.cell? ⟨(ad109.add ((x3_1).toNat * 3)).block, (ad109.add ((x3_1).toNat * 3)).off + 1, none⟩ = some (.int .i64 ((rd_T154 l0 x3_1).f1)) ∧ w'.cell? ⟨(ad109.add ((x3_1).toNat * 3)).block, (ad109.add ((x3_1).toNat * 3)).off + 2, none⟩ = some (.int .i64 ((rd_T154 l0 x3_1).f2))) (ds := []) b2A48 (by kernel_rfl) rfl rfl ⟨((HB.out.cell (bL w hw109_0)).trans hw109_0), ((HB.out.cell (bL w hw109_1)).trans hw109_1), ((HB.out.cell (bL w hw109_2)).trans hw109_2), ((HB.out.cell (bL w hw110_0)).trans hw110_0), ((HB.out.cell (bL w hw110_1)).trans hw110_1), ((HB.out.cell (bL w hw110_2)).trans hw110_2), ((HB.out.cell (bL w hw111_0)).trans hw111_0), ((HB.out.cell (bL w hw111_1)).trans hw111_1), ((HB.out.cell (bL w hw111_2)).trans hw111_2)⟩ (fun hHeld => ?_); refine with_tabW spec_AreSlots.tab9 spec_AreSlots.bits9 (fun HT_ HW_ => ?_)
        generalize wr.drew = w29 at HB hx109_0 hx109_1 hx109_2 hx110_0 hx110_1 hx110_2 hx111_0 hx111_1 hx111_2 hHeld ⊢
        refine pI 0 (some 59) b2A49 HT_ ?_
        refine pI 1 (some 60) b2A50 HT_ ?_
        refine pI 2 (some 61) b2A51 HT_ ?_
        refine pI 3 (some 62) b2A52 HT_ ?_
        refine tI 4 (some 63) b2A53 HT_ HW_ hHeld rfl rfl (Or.inl ⟨by rfl, by rintro w' ⟨s0, s1, s2, s3, s4, s5, s6, s7, s8⟩; go_simp; with_reducible rfl⟩) ?_
        refine pI 5 (some 64) b2A54 HT_ ?_
        refine pI 6 (some 65) b2A55 HT_ ?_
        refine pI 7 (some 66) b2A56 HT_ ?_
        refine pI 8 (some 67) b2A57 HT_ ?_
        refine pI 9 (some 68) b2A58 HT_ ?_
        refine pI 10 (some 69) b2A59 HT_ ?_
        refine pI 12 (some 71) b2A68 HT_ ?_
        refine pI 13 (some 72) b2A69 HT_ ?_
        refine pI 14 (some 73) b2A70 HT_ ?_
        refine pI 15 (some 74) b2A71 HT_ ?_
        refine tI 11 (some 70) b2A64 HT_ HW_ hHeld rfl rfl (Or.inl ⟨by rfl, by rintro w' ⟨s0, s1, s2, s3, s4, s5, s6, s7, s8⟩; go_simp; with_reducible rfl⟩) ?_
        refine tI 16 (some 75) b2A65 HT_ HW_ hHeld rfl rfl (Or.inl ⟨by rfl, by rintro w' ⟨s0, s1, s2, s3, s4, s5, s6, s7, s8⟩; go_simp; with_reducible rfl⟩) ?_
        refine pI 17 (some 76) b2A66 HT_ ?_
        refine pI 18 (some 77) b2A67 HT_ ?_
        refine done_ (done_of HT_.out (by kernel_rfl)) ?_
        try go_wp2
        go_ret
        exact ⟨by first | rfl | (simp [errW_none, errW_some] <;> rfl) | (simp [*, errW_none, errW_some] <;> rfl), by exact qB HB.out⟩
       rw [if_neg c28] at H
       have c28b0 : (((rd_T154 l0 x4_3).f2) == ((rd_T154 l0 x3_1).f2)) = false := beq_eq_false_iff_ne.mpr c28
       have c28b1 : (((rd_T154 l0 x4_3).f2) != ((rd_T154 l0 x3_1).f2)) = true := bne_iff_ne.mpr c28
       have H' := zK H
       clear H
       try go_wp2
       have n0_ := zK (b1 HB.out)
       clear HB
       have HB := n0_
       clear n0_
       have p109 : 0 ≤ (x3_1 : Int) := oD (by first | (with_reducible assumption) | assumption)
       have q109 : x3_1 < (l0.length : Int) := oD (by first | (with_reducible assumption) | assumption)
       obtain ⟨ad109, e109, hx109_0, hx109_1, hx109_2⟩ := at_T154 HR0.out x3_1 p109 q109
       have hw109_2 := hx109_2
       have hw109_1 := hx109_1
       have hw109_0 := hx109_0
       cases e109
       replace hx109_0 := (HB.out.cell (bL w hx109_0)).trans hx109_0
       replace hx109_1 := (HB.out.cell (bL w hx109_1)).trans hx109_1
       replace hx109_2 := (HB.out.cell (bL w hx109_2)).trans hx109_2
       replace p109 := eq_true p109
       replace q109 := eq_true q109
       have p110 : 0 ≤ (x4_3 : Int) := oD (by first | (with_reducible assumption) | assumption)
       have q110 : x4_3 < (l0.length : Int) := oD (by first | (with_reducible assumption) | assumption)
       obtain ⟨ad110, e110, hx110_0, hx110_1, hx110_2⟩ := at_T154 HR0.out x4_3 p110 q110
       have hw110_2 := hx110_2
       have hw110_1 := hx110_1
       have hw110_0 := hx110_0
       obtain rfl : ad109 = ad110 := (by injection e110)
       replace hx110_0 := (HB.out.cell (bL w hx110_0)).trans hx110_0
       replace hx110_1 := (HB.out.cell (bL w hx110_1)).trans hx110_1
       replace hx110_2 := (HB.out.cell (bL w hx110_2)).trans hx110_2
       replace p110 := eq_true p110
       replace q110 := eq_true q110
       have p111 : 0 ≤ (x3_1 : Int) := oD (by first | (with_reducible assumption) | assumption)
       have q111 : x3_1 < (l0.length : Int) := oD (by first | (with_reducible assumption) | assumption)
       obtain ⟨ad111, e111, hx111_0, hx111_1, hx111_2⟩ := at_T154 HR0.out x3_1 p111 q111
       have hw111_2 := hx111_2
       have hw111_1 := hx111_1
       have hw111_0 := hx111_0
       obtain rfl : ad109 = ad111 := (by injection e111)
       replace hx111_0 := (HB.out.cell (bL w hx111_0)).trans hx111_0
       replace hx111_1 := (HB.out.cell (bL w hx111_1)).trans hx111_1
       replace hx111_2 := (HB.out.cell (bL w hx111_2)).trans hx111_2
       replace p111 := eq_true p111
       replace q111 := eq_true q111
       refine start_ (n := 19) (S := fun w' => w'.cell? (ad109.add ((x3_1).toNat * 3)) = some (.int .i64 ((rd_T154 l0 x3_1).f0)) ∧ w'.cell? ⟨(ad109.add ((x3_1).toNat * 3)).block, (ad109.add ((x3_1).toNat * 3)).off + 1, none⟩ = some (.int .i64 ((rd_T154 l0 x3_1).f1)) ∧ w'.cell? ⟨(ad109.add ((x3_1).toNat * 3)).block, (ad109.add ((x3_1).toNat * 3)).off + 2, none⟩ = some (.int .i64 ((rd_T154 l0 x3_1).f2)) ∧ w'.cell? (ad109.add ((x4_3).toNat * 3)) = some (.int .i64 ((rd_T154 l0 x4_3).f0)) ∧ w'.cell? ⟨(ad109.add ((x4_3).toNat * 3)).block, (ad109.add ((x4_3).toNat * 3)).off + 1, none⟩ = some (.int .i64 ((rd_T154 l0 x4_3).f1)) ∧ w'.cell? ⟨(ad109.add ((x4_3).toNat * 3)).block, (ad109.add ((x4_3).toNat * 3)).off + 2, none⟩ = some (.int .i64 ((rd_T154 l0 x4_3).f2)) ∧ w'.cell? (ad109.add ((x3_1).toNat * 3)) = some (.int .i64 ((rd_T154 l0 x3_1).f0)) ∧ w'.cell? ⟨(ad109.add ((x3_1).toNat * 3)).block, (ad109.add ((x3_1).toNat * 3)).off + 1, none⟩ = some (.int .i64 ((rd_T154 l0 x3_1).f1)) ∧ w'.cell? ⟨(ad109.add ((x3_1).toNat * 3)).block, (ad109.add ((x3_1).toNat * 3)).off + 2, none⟩ = some (.int .i64 ((rd_T154 l0 x3_1).f2))) (ds := []) b2A48 (by kernel_rfl) rfl rfl ⟨((HB.out.cell (bL w hw109_0)).trans hw109_0), ((HB.out.cell (bL w hw109_1)).trans hw109_1), ((HB.out.cell (bL w hw109_2)).trans hw109_2), ((HB.out.cell (bL w hw110_0)).trans hw110_0), ((HB.out.cell (bL w hw110_1)).trans hw110_1), ((HB.out.cell (bL w hw110_2)).trans hw110_2), ((HB.out.cell (bL w hw111_0)).trans hw111_0), ((HB.out.cell (bL w hw111_1)).trans hw111_1), ((HB.out.cell (bL w hw111_2)).trans hw111_2)⟩ (fun hHeld => ?_); refine with_tabW spec_AreSlots.tab9 spec_AreSlots.bits9 (fun HT_ HW_ => ?_)
       generalize wr.drew = w30 at HB hx109_0 hx109_1 hx109_2 hx110_0 hx110_1 hx110_2 hx111_0 hx111_1 hx111_2 hHeld ⊢
       refine pI 0 (some 59) b2A49 HT_ ?_
       refine pI 1 (some 60) b2A50 HT_ ?_
       refine pI 2 (some 61) b2A51 HT_ ?_
       refine pI 3 (some 62) b2A52 HT_ ?_
       refine tI 4 (some 63) b2A53 HT_ HW_ hHeld rfl rfl (Or.inl ⟨by rfl, by rintro w' ⟨s0, s1, s2, s3, s4, s5, s6, s7, s8⟩; go_simp; with_reducible rfl⟩) ?_
       refine pI 5 (some 64) b2A54 HT_ ?_
       refine pI 6 (some 65) b2A55 HT_ ?_
       refine pI 7 (some 66) b2A56 HT_ ?_
       refine pI 8 (some 67) b2A57 HT_ ?_
       refine pI 9 (some 68) b2A58 HT_ ?_
       refine pI 10 (some 69) b2A59 HT_ ?_
       refine pI 12 (some 71) b2A68 HT_ ?_
       refine pI 13 (some 72) b2A69 HT_ ?_
       refine pI 14 (some 73) b2A70 HT_ ?_
       refine pI 15 (some 74) b2A71 HT_ ?_
       refine tI 11 (some 70) b2A64 HT_ HW_ hHeld rfl rfl (Or.inl ⟨by rfl, by rintro w' ⟨s0, s1, s2, s3, s4, s5, s6, s7, s8⟩; go_simp; with_reducible rfl⟩) ?_
       refine tI 16 (some 75) b2A65 HT_ HW_ hHeld rfl rfl (Or.inl ⟨by rfl, by rintro w' ⟨s0, s1, s2, s3, s4, s5, s6, s7, s8⟩; go_simp; with_reducible rfl⟩) ?_
       refine pI 17 (some 76) b2A66 HT_ ?_
       refine pI 18 (some 77) b2A67 HT_ ?_
       refine done_ (done_of HT_.out (by kernel_rfl)) ?_
       try go_wp2
       go_roundg k3
       case measure => have := HK1.out; have := HJ2.out; have := HK3.out; omega
       case rel => exact ⟨(wrap64 (x4_3 + 1)), (by first | rfl | (simp; done) | (simp [*]; done)), H', ⟨by have := HK1.out; have := HJ2.out; have := HK3.out; omega⟩, ⟨by exact qB HB.out⟩⟩
end Go.Proofs.Ytejhjenlodclpaa.PFnExactTighten
