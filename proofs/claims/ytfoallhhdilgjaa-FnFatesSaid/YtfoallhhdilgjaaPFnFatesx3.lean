/- Walks of functions that FnFates reaches: written by a tool of the kit for this claim, then shortened by a program of ours. -/
import Derived.Test.YtfoallhhdilgjaaPFnFatesx0
import Derived.Test.YtfoallhhdilgjaaPFnFatesx2
/- narrow -/
namespace Go.Proofs.Ytfoallhhdilgjaa.PFnFates
open Go.RowKit Go.Proofs.YtfoallhhdilgjaaW.PrintWords Go.Proofs.YtfoallhhdilgjaaW.PrintLast Go.Proofs.YtfoallhhdilgjaaW.PrintMore
attribute [local go_sem] max2_int min2_int max_two min_two max_three min_three max_four min_four   -- for this text's walks alone
set_option linter.unusedVariables false
set_option linter.unusedSimpArgs false

abbrev b3A0 : Array Bool := #[bo, bo, bo, bo, bo, bo, bo, bo, bo, bo, bo, bo, bo, bo, bo, bo, bo, bo, bo, bo, bo, bo, bo, bo, bo, bo, bo, bo, bo, bo, bo, bo, bo, bo, bo, bo, bo, bo, bo, bo, bo, bo, bo]
abbrev b3A1 : Array Bool := #[bi, bo, bo, bo, bo, bo, bo, bo, bo, bo, bo, bo, bo, bo, bo, bo, bo, bo, bo, bo, bo, bo, bo, bo, bo, bo, bo, bo, bo, bo, bo, bo, bo, bo, bo, bo, bo, bo, bo, bo, bo, bo, bo]
abbrev b3A2 : Array Bool := #[bi, bi, bo, bo, bo, bo, bo, bo, bo, bo, bo, bo, bo, bo, bo, bo, bo, bo, bo, bo, bo, bo, bo, bo, bo, bo, bo, bo, bo, bo, bo, bo, bo, bo, bo, bo, bo, bo, bo, bo, bo, bo, bo]
abbrev b3A3 : Array Bool := #[bi, bi, bi, bo, bo, bo, bo, bo, bo, bo, bo, bo, bo, bo, bo, bo, bo, bo, bo, bo, bo, bo, bo, bo, bo, bo, bo, bo, bo, bo, bo, bo, bo, bo, bo, bo, bo, bo, bo, bo, bo, bo, bo]
abbrev b3A4 : Array Bool := #[bi, bi, bi, bi, bo, bo, bo, bo, bo, bo, bo, bo, bo, bo, bo, bo, bo, bo, bo, bo, bo, bo, bo, bo, bo, bo, bo, bo, bo, bo, bo, bo, bo, bo, bo, bo, bo, bo, bo, bo, bo, bo, bo]
abbrev b3A5 : Array Bool := #[bi, bi, bi, bi, bi, bo, bo, bo, bo, bo, bo, bo, bo, bo, bo, bo, bo, bo, bo, bo, bo, bo, bo, bo, bo, bo, bo, bo, bo, bo, bo, bo, bo, bo, bo, bo, bo, bo, bo, bo, bo, bo, bo]
abbrev b3A6 : Array Bool := #[bi, bi, bi, bi, bi, bi, bo, bo, bo, bo, bo, bo, bo, bo, bo, bo, bo, bo, bo, bo, bo, bo, bo, bo, bo, bo, bo, bo, bo, bo, bo, bo, bo, bo, bo, bo, bo, bo, bo, bo, bo, bo, bo]
abbrev b3A7 : Array Bool := #[bi, bi, bi, bi, bi, bi, bi, bo, bo, bo, bo, bo, bo, bo, bo, bo, bo, bo, bo, bo, bo, bo, bo, bo, bo, bo, bo, bo, bo, bo, bo, bo, bo, bo, bo, bo, bo, bo, bo, bo, bo, bo, bo]
abbrev b3A8 : Array Bool := #[bi, bi, bi, bi, bi, bi, bi, bi, bo, bo, bo, bo, bo, bo, bo, bo, bo, bo, bo, bo, bo, bo, bo, bo, bo, bo, bo, bo, bo, bo, bo, bo, bo, bo, bo, bo, bo, bo, bo, bo, bo, bo, bo]
abbrev b3A9 : Array Bool := #[bi, bi, bi, bi, bi, bi, bi, bi, bi, bo, bo, bo, bo, bo, bo, bo, bo, bo, bo, bo, bo, bo, bo, bo, bo, bo, bo, bo, bo, bo, bo, bo, bo, bo, bo, bo, bo, bo, bo, bo, bo, bo, bo]
abbrev b3A10 : Array Bool := #[bi, bi, bi, bi, bi, bi, bi, bi, bi, bi, bo, bo, bo, bo, bo, bo, bo, bo, bo, bo, bo, bo, bo, bo, bo, bo, bo, bo, bo, bo, bo, bo, bo, bo, bo, bo, bo, bo, bo, bo, bo, bo, bo]
abbrev b3A11 : Array Bool := #[bi, bi, bi, bi, bi, bi, bi, bi, bi, bi, bi, bo, bo, bo, bo, bo, bo, bo, bo, bo, bo, bo, bo, bo, bo, bo, bo, bo, bo, bo, bo, bo, bo, bo, bo, bo, bo, bo, bo, bo, bo, bo, bo]
abbrev b3A12 : Array Bool := #[bi, bi, bi, bi, bi, bi, bi, bi, bi, bi, bi, bi, bo, bo, bo, bo, bo, bo, bo, bo, bo, bo, bo, bo, bo, bo, bo, bo, bo, bo, bo, bo, bo, bo, bo, bo, bo, bo, bo, bo, bo, bo, bo]
abbrev b3A13 : Array Bool := #[bi, bi, bi, bi, bi, bi, bi, bi, bi, bi, bi, bi, bi, bo, bo, bo, bo, bo, bo, bo, bo, bo, bo, bo, bo, bo, bo, bo, bo, bo, bo, bo, bo, bo, bo, bo, bo, bo, bo, bo, bo, bo, bo]
abbrev b3A14 : Array Bool := #[bi, bi, bi, bi, bi, bi, bi, bi, bi, bi, bi, bi, bi, bi, bo, bo, bo, bo, bo, bo, bo, bo, bo, bo, bo, bo, bo, bo, bo, bo, bo, bo, bo, bo, bo, bo, bo, bo, bo, bo, bo, bo, bo]
abbrev b3A15 : Array Bool := #[bi, bi, bi, bi, bi, bi, bi, bi, bi, bi, bi, bi, bi, bi, bi, bo, bo, bo, bo, bo, bo, bo, bo, bo, bo, bo, bo, bo, bo, bo, bo, bo, bo, bo, bo, bo, bo, bo, bo, bo, bo, bo, bo]
abbrev b3A16 : Array Bool := #[bi, bi, bi, bi, bi, bi, bi, bi, bi, bi, bi, bi, bi, bi, bi, bi, bo, bo, bo, bo, bo, bo, bo, bo, bo, bo, bo, bo, bo, bo, bo, bo, bo, bo, bo, bo, bo, bo, bo, bo, bo, bo, bo]
abbrev b3A17 : Array Bool := #[bi, bi, bi, bi, bi, bi, bi, bi, bi, bi, bi, bi, bi, bi, bi, bi, bi, bo, bo, bo, bo, bo, bo, bo, bo, bo, bo, bo, bo, bo, bo, bo, bo, bo, bo, bo, bo, bo, bo, bo, bo, bo, bo]
abbrev b3A18 : Array Bool := #[bi, bi, bi, bi, bi, bi, bi, bi, bi, bi, bi, bi, bi, bi, bi, bi, bi, bi, bo, bo, bo, bo, bo, bo, bo, bo, bo, bo, bo, bo, bo, bo, bo, bo, bo, bo, bo, bo, bo, bo, bo, bo, bo]
abbrev b3A19 : Array Bool := #[bi, bi, bi, bi, bi, bi, bi, bi, bi, bi, bi, bi, bi, bi, bi, bi, bi, bi, bi, bo, bo, bo, bo, bo, bo, bo, bo, bo, bo, bo, bo, bo, bo, bo, bo, bo, bo, bo, bo, bo, bo, bo, bo]
abbrev b3A20 : Array Bool := #[bi, bi, bi, bi, bi, bi, bi, bi, bi, bi, bi, bi, bi, bi, bi, bi, bi, bi, bi, bi, bo, bo, bo, bo, bo, bo, bo, bo, bo, bo, bo, bo, bo, bo, bo, bo, bo, bo, bo, bo, bo, bo, bo]
abbrev b3A21 : Array Bool := #[bi, bi, bi, bi, bi, bi, bi, bi, bi, bi, bi, bi, bi, bi, bi, bi, bi, bi, bi, bi, bi, bo, bo, bo, bo, bo, bo, bo, bo, bo, bo, bo, bo, bo, bo, bo, bo, bo, bo, bo, bo, bo, bo]
abbrev b3A22 : Array Bool := #[bi, bi, bi, bi, bi, bi, bi, bi, bi, bi, bi, bi, bi, bi, bi, bi, bi, bi, bi, bi, bi, bi, bo, bo, bo, bo, bo, bo, bo, bo, bo, bo, bo, bo, bo, bo, bo, bo, bo, bo, bo, bo, bo]
abbrev b3A23 : Array Bool := #[bi, bi, bi, bi, bi, bi, bi, bi, bi, bi, bi, bi, bi, bi, bi, bi, bi, bi, bi, bi, bi, bi, bi, bo, bo, bo, bo, bo, bo, bo, bo, bo, bo, bo, bo, bo, bo, bo, bo, bo, bo, bo, bo]
abbrev b3A24 : Array Bool := #[bi, bi, bi, bi, bi, bi, bi, bi, bi, bi, bi, bi, bi, bi, bi, bi, bi, bi, bi, bi, bi, bi, bi, bi, bo, bo, bo, bo, bo, bo, bo, bo, bo, bo, bo, bo, bo, bo, bo, bo, bo, bo, bo]
abbrev b3A25 : Array Bool := #[bi, bi, bi, bi, bi, bi, bi, bi, bi, bi, bi, bi, bi, bi, bi, bi, bi, bi, bi, bi, bi, bi, bi, bi, bi, bo, bo, bo, bo, bo, bo, bo, bo, bo, bo, bo, bo, bo, bo, bo, bo, bo, bo]
abbrev b3A26 : Array Bool := #[bi, bi, bi, bi, bi, bi, bi, bi, bi, bi, bi, bi, bi, bi, bi, bi, bi, bi, bi, bi, bi, bi, bi, bi, bi, bi, bo, bo, bo, bo, bo, bo, bo, bo, bo, bo, bo, bo, bo, bo, bo, bo, bo]
abbrev b3A27 : Array Bool := #[bi, bi, bi, bi, bi, bi, bi, bi, bi, bi, bi, bi, bi, bi, bi, bi, bi, bi, bi, bi, bi, bi, bi, bi, bi, bi, bi, bo, bo, bo, bo, bo, bo, bo, bo, bo, bo, bo, bo, bo, bo, bo, bo]
abbrev b3A28 : Array Bool := #[bi, bi, bi, bi, bi, bi, bi, bi, bi, bi, bi, bi, bi, bi, bi, bi, bi, bi, bi, bi, bi, bi, bi, bi, bi, bi, bi, bi, bo, bo, bo, bo, bo, bo, bo, bo, bo, bo, bo, bo, bo, bo, bo]
abbrev b3A29 : Array Bool := #[bi, bi, bi, bi, bi, bi, bi, bi, bi, bi, bi, bi, bi, bi, bi, bi, bi, bi, bi, bi, bi, bi, bi, bi, bi, bi, bi, bi, bi, bo, bo, bo, bo, bo, bo, bo, bo, bo, bo, bo, bo, bo, bo]
abbrev b3A30 : Array Bool := #[bi, bi, bi, bi, bi, bi, bi, bi, bi, bi, bi, bi, bi, bi, bi, bi, bi, bi, bi, bi, bi, bi, bi, bi, bi, bi, bi, bi, bi, bi, bo, bo, bo, bo, bo, bo, bo, bo, bo, bo, bo, bo, bo]
abbrev b3A31 : Array Bool := #[bi, bi, bi, bi, bi, bi, bi, bi, bi, bi, bi, bi, bi, bi, bi, bi, bi, bi, bi, bi, bi, bi, bi, bi, bi, bi, bi, bi, bi, bi, bi, bo, bo, bo, bo, bo, bo, bo, bo, bo, bo, bo, bo]
abbrev b3A32 : Array Bool := #[bi, bi, bi, bi, bi, bi, bi, bi, bi, bi, bi, bi, bi, bi, bi, bi, bi, bi, bi, bi, bi, bi, bi, bi, bi, bi, bi, bi, bi, bi, bi, bi, bo, bo, bo, bo, bo, bo, bo, bo, bo, bo, bo]
abbrev b3A33 : Array Bool := #[bi, bi, bi, bi, bi, bi, bi, bi, bi, bi, bi, bi, bi, bi, bi, bi, bi, bi, bi, bi, bi, bi, bi, bi, bi, bi, bi, bi, bi, bi, bi, bi, bi, bo, bo, bo, bo, bo, bo, bo, bo, bo, bo]
abbrev b3A34 : Array Bool := #[bi, bi, bi, bi, bi, bi, bi, bi, bi, bi, bi, bi, bi, bi, bi, bi, bi, bi, bi, bi, bi, bi, bi, bi, bi, bi, bi, bi, bi, bi, bi, bi, bi, bi, bo, bo, bo, bo, bo, bo, bo, bo, bo]
abbrev b3A35 : Array Bool := #[bi, bi, bi, bi, bi, bi, bi, bi, bi, bi, bi, bi, bi, bi, bi, bi, bi, bi, bi, bi, bi, bi, bi, bi, bi, bi, bi, bi, bi, bi, bi, bi, bi, bi, bi, bo, bo, bo, bo, bo, bo, bo, bo]
abbrev b3A36 : Array Bool := #[bi, bi, bi, bi, bi, bi, bi, bi, bi, bi, bi, bi, bi, bi, bi, bi, bi, bi, bi, bi, bi, bi, bi, bi, bi, bi, bi, bi, bi, bi, bi, bi, bi, bi, bi, bi, bo, bo, bo, bo, bo, bo, bo]
abbrev b3A37 : Array Bool := #[bi, bi, bi, bi, bi, bi, bi, bi, bi, bi, bi, bi, bi, bi, bi, bi, bi, bi, bi, bi, bi, bi, bi, bi, bi, bi, bi, bi, bi, bi, bi, bi, bi, bi, bi, bi, bi, bo, bo, bo, bo, bo, bo]
abbrev b3A38 : Array Bool := #[bi, bi, bi, bi, bi, bi, bi, bi, bi, bi, bi, bi, bi, bi, bi, bi, bi, bi, bi, bi, bi, bi, bi, bi, bi, bi, bi, bi, bi, bi, bi, bi, bi, bi, bi, bi, bi, bo, bi, bo, bo, bo, bo]
abbrev b3A39 : Array Bool := #[bi, bi, bi, bi, bi, bi, bi, bi, bi, bi, bi, bi, bi, bi, bi, bi, bi, bi, bi, bi, bi, bi, bi, bi, bi, bi, bi, bi, bi, bi, bi, bi, bi, bi, bi, bi, bi, bi, bi, bo, bo, bo, bo]
abbrev b3A40 : Array Bool := #[bi, bi, bi, bi, bi, bi, bi, bi, bi, bi, bi, bi, bi, bi, bi, bi, bi, bi, bi, bi, bi, bi, bi, bi, bi, bi, bi, bi, bi, bi, bi, bi, bi, bi, bi, bi, bi, bi, bi, bi, bo, bo, bo]
abbrev b3A41 : Array Bool := #[bi, bi, bi, bi, bi, bi, bi, bi, bi, bi, bi, bi, bi, bi, bi, bi, bi, bi, bi, bi, bi, bi, bi, bi, bi, bi, bi, bi, bi, bi, bi, bi, bi, bi, bi, bi, bi, bi, bi, bi, bi, bo, bo]
abbrev b3A42 : Array Bool := #[bi, bi, bi, bi, bi, bi, bi, bi, bi, bi, bi, bi, bi, bi, bi, bi, bi, bi, bi, bi, bi, bi, bi, bi, bi, bi, bi, bi, bi, bi, bi, bi, bi, bi, bi, bi, bi, bi, bi, bi, bi, bi, bo]
abbrev b3A43 : Array Bool := #[bi, bi, bi, bi, bi, bi, bi, bi, bi, bi, bi, bi, bi, bi, bi, bi, bi, bi, bi, bi, bi, bi, bi, bi, bi, bi, bi, bi, bi, bi, bi, bi, bi, bi, bi, bi, bi, bi, bi, bi, bi, bi, bi]
abbrev b3A44 : Array Bool := #[bi, bi, bi, bi, bi, bi, bi, bi, bi, bi, bi, bi, bi, bi, bi, bi, bi, bi, bi, bi, bi, bi, bi, bi, bi, bi, bi, bi, bi, bi, bi, bi, bi, bi, bi, bi, bi, bi, bo, bo, bo, bo, bo]
abbrev b3A45 : Array Bool := #[bo, bo, bo, bo, bo, bo, bo, bo, bo, bo, bo, bo, bo, bo, bo, bo, bo, bo, bo, bo, bo]
abbrev b3A46 : Array Bool := #[bi, bo, bo, bo, bo, bo, bo, bo, bo, bo, bo, bo, bo, bo, bo, bo, bo, bo, bo, bo, bo]
abbrev b3A47 : Array Bool := #[bi, bi, bo, bo, bo, bo, bo, bo, bo, bo, bo, bo, bo, bo, bo, bo, bo, bo, bo, bo, bo]
abbrev b3A48 : Array Bool := #[bi, bi, bi, bo, bo, bo, bo, bo, bo, bo, bo, bo, bo, bo, bo, bo, bo, bo, bo, bo, bo]
abbrev b3A49 : Array Bool := #[bi, bi, bi, bi, bo, bo, bo, bo, bo, bo, bo, bo, bo, bo, bo, bo, bo, bo, bo, bo, bo]
abbrev b3A50 : Array Bool := #[bi, bi, bi, bi, bi, bo, bo, bo, bo, bo, bo, bo, bo, bo, bo, bo, bo, bo, bo, bo, bo]
abbrev b3A51 : Array Bool := #[bi, bi, bi, bi, bi, bi, bo, bo, bo, bo, bo, bo, bo, bo, bo, bo, bo, bo, bo, bo, bo]
abbrev b3A52 : Array Bool := #[bi, bi, bi, bi, bi, bi, bi, bo, bo, bo, bo, bo, bo, bo, bo, bo, bo, bo, bo, bo, bo]
abbrev b3A53 : Array Bool := #[bi, bi, bi, bi, bi, bi, bi, bi, bo, bo, bo, bo, bo, bo, bo, bo, bo, bo, bo, bo, bo]
abbrev b3A54 : Array Bool := #[bi, bi, bi, bi, bi, bi, bi, bi, bi, bo, bo, bo, bo, bo, bo, bo, bo, bo, bo, bo, bo]
abbrev b3A55 : Array Bool := #[bi, bi, bi, bi, bi, bi, bi, bi, bi, bi, bo, bo, bo, bo, bo, bo, bo, bo, bo, bo, bo]
abbrev b3A56 : Array Bool := #[bi, bi, bi, bi, bi, bi, bi, bi, bi, bi, bi, bo, bo, bo, bo, bo, bo, bo, bo, bo, bo]
abbrev b3A57 : Array Bool := #[bi, bi, bi, bi, bi, bi, bi, bi, bi, bi, bi, bi, bo, bo, bo, bo, bo, bo, bo, bo, bo]
abbrev b3A58 : Array Bool := #[bi, bi, bi, bi, bi, bi, bi, bi, bi, bi, bi, bi, bi, bo, bo, bo, bo, bo, bo, bo, bo]
abbrev b3A59 : Array Bool := #[bi, bi, bi, bi, bi, bi, bi, bi, bi, bi, bi, bi, bi, bi, bo, bo, bo, bo, bo, bo, bo]
abbrev b3A60 : Array Bool := #[bi, bi, bi, bi, bi, bi, bi, bi, bi, bi, bi, bi, bi, bi, bi, bo, bo, bo, bo, bo, bo]
abbrev b3A61 : Array Bool := #[bi, bi, bi, bi, bi, bi, bi, bi, bi, bi, bi, bi, bi, bi, bi, bi, bo, bo, bo, bo, bo]
abbrev b3A62 : Array Bool := #[bi, bi, bi, bi, bi, bi, bi, bi, bi, bi, bi, bi, bi, bi, bi, bi, bo, bi, bo, bo, bo]
abbrev b3A63 : Array Bool := #[bi, bi, bi, bi, bi, bi, bi, bi, bi, bi, bi, bi, bi, bi, bi, bi, bi, bi, bo, bo, bo]
abbrev b3A64 : Array Bool := #[bi, bi, bi, bi, bi, bi, bi, bi, bi, bi, bi, bi, bi, bi, bi, bi, bi, bi, bi, bo, bo]
abbrev b3A65 : Array Bool := #[bi, bi, bi, bi, bi, bi, bi, bi, bi, bi, bi, bi, bi, bi, bi, bi, bi, bi, bi, bi, bo]
abbrev b3A66 : Array Bool := #[bi, bi, bi, bi, bi, bi, bi, bi, bi, bi, bi, bi, bi, bi, bi, bi, bi, bi, bi, bi, bi]
abbrev b3A67 : Array Bool := #[bi, bi, bi, bi, bi, bi, bi, bi, bi, bi, bi, bi, bi, bi, bi, bi, bi, bo, bo, bo, bo]
/-! ### spec_AreClaims: function 42 -/
mutual
def spec_AreClaims.l0 : Nat → List (S38) → Int → Option (Bool)
 | 0, _, _ => none
 | k + 1, x0, x3 => if x3 < (x0.length : Int) then (if 0 ≤ x3 then ((spec_l1In.f ((rd_T38 x0 x3).f0) 1 999).bind fun t264 => (if t264 = true then ((spec_l1In.f ((rd_T38 x0 x3).f1) 1 999).bind fun t265 => (if t265 = true then ((spec_l1In.f ((rd_T38 x0 x3).f2) 1 999).bind fun t266 => (if t266 = true then ((spec_l1In.f ((rd_T38 x0 x3).f3) 0 100000).bind fun t267 => (if t267 = true then ((spec_l1In.f ((rd_T38 x0 x3).f4) 0 3).bind fun t268 => (if t268 = true then (if x3 > 0 then (if 0 ≤ (wrap64 (x3 - 1)) then (if (wrap64 (x3 - 1)) < (x0.length : Int) then (spec_AreClaims.j1 k x0 x3 (decide (((rd_T38 x0 (wrap64 (x3 - 1))).f0) ≥ ((rd_T38 x0 x3).f0))) ((rd_T38 x0 x3).f0) ((rd_T38 x0 x3).f1) ((rd_T38 x0 x3).f2) ((rd_T38 x0 x3).f3) ((rd_T38 x0 x3).f4)) else (none)) else (none)) else (spec_AreClaims.j1 k x0 x3 false ((rd_T38 x0 x3).f0) ((rd_T38 x0 x3).f1) ((rd_T38 x0 x3).f2) ((rd_T38 x0 x3).f3) ((rd_T38 x0 x3).f4))) else (spec_AreClaims.j1 k x0 x3 true ((rd_T38 x0 x3).f0) ((rd_T38 x0 x3).f1) ((rd_T38 x0 x3).f2) ((rd_T38 x0 x3).f3) ((rd_T38 x0 x3).f4)))) else (spec_AreClaims.j1 k x0 x3 true ((rd_T38 x0 x3).f0) ((rd_T38 x0 x3).f1) ((rd_T38 x0 x3).f2) ((rd_T38 x0 x3).f3) ((rd_T38 x0 x3).f4)))) else (spec_AreClaims.j1 k x0 x3 true ((rd_T38 x0 x3).f0) ((rd_T38 x0 x3).f1) ((rd_T38 x0 x3).f2) ((rd_T38 x0 x3).f3) ((rd_T38 x0 x3).f4)))) else (spec_AreClaims.j1 k x0 x3 true ((rd_T38 x0 x3).f0) ((rd_T38 x0 x3).f1) ((rd_T38 x0 x3).f2) ((rd_T38 x0 x3).f3) ((rd_T38 x0 x3).f4)))) else (spec_AreClaims.j1 k x0 x3 true ((rd_T38 x0 x3).f0) ((rd_T38 x0 x3).f1) ((rd_T38 x0 x3).f2) ((rd_T38 x0 x3).f3) ((rd_T38 x0 x3).f4)))) else (none)) else (some (decide ((x0.length : Int) ≤ 20)))
def spec_AreClaims.j1 : Nat → List (S38) → Int → Bool → Int → Int → Int → Int → Int → Option (Bool)
 | 0, _, _, _, _, _, _, _, _ => none
 | k + 1, x0, x3, x58, x264000, x264001, x264002, x264003, x264004 => if x58 = true then (some false) else (spec_AreClaims.l1 k x0 x3 0 x264000 x264001 x264002 x264003 x264004)
def spec_AreClaims.l1 : Nat → List (S38) → Int → Int → Int → Int → Int → Int → Int → Option (Bool)
 | 0, _, _, _, _, _, _, _, _ => none
 | k + 1, x0, x3, x5, x264000, x264001, x264002, x264003, x264004 => if x5 < x3 then (if x264004 = 3 then (if 0 ≤ x5 then (if x5 < (x0.length : Int) then (if ((rd_T38 x0 x5).f4) = 3 then (if ((rd_T38 x0 x5).f2) = x264002 then (some false) else (spec_AreClaims.l1 k x0 x3 (wrap64 (x5 + 1)) x264000 x264001 x264002 x264003 x264004)) else (spec_AreClaims.l1 k x0 x3 (wrap64 (x5 + 1)) x264000 x264001 x264002 x264003 x264004)) else (none)) else (none)) else (spec_AreClaims.l1 k x0 x3 (wrap64 (x5 + 1)) x264000 x264001 x264002 x264003 x264004)) else (spec_AreClaims.l0 k x0 (wrap64 (x3 + 1)))
end
def spec_AreClaims.f (k : Nat) (l0 : List (S38)) : Option (Bool) := spec_AreClaims.l0 k l0 0
def spec_AreClaims.T5 : Bool × List (List Nat × List Nat) := (true, [([], []), ([0], [0]), ([1], [1]), ([2], [2]), ([3, 2], [3]), ([4], [4]), ([5, 4], [4, 5]), ([6, 4, 4], [4, 6]), ([7, 4], [4, 7]), ([4, 8], [4, 8]), ([9, 7], [9]), ([10], [10]), ([11, 10], [10, 11]), ([12, 10, 10], [10, 12]), ([13, 10], [10, 13]), ([10, 14], [10, 14]), ([15, 13], [15]), ([16], [16]), ([17, 16], [16, 17]), ([18, 16, 16], [16, 18]), ([19, 16], [16, 19]), ([16, 20], [16, 20]), ([21, 19], [21]), ([22], [22]), ([23, 22], [22, 23]), ([24, 22, 22], [22, 24]), ([25, 22], [22, 25]), ([22, 26], [22, 26]), ([27, 25], [27]), ([28], [28]), ([29, 28], [28, 29]), ([30, 28, 28], [28, 30]), ([31], [31]), ([31], [31]), ([33, 31], [31, 33]), ([32, 34, 31], [31, 32, 34]), ([35, 31], [31, 35]), ([36, 31], [31, 36]), ([31], [31]), ([38, 31], [31, 38]), ([37, 39, 31], [31, 37, 39]), ([31, 40, 28], [28, 31, 40]), ([28, 41], [28, 41])])
def spec_AreClaims.B5 : List Nat := [0, 1, 3, 7, 15, 31, 63, 127, 255, 511, 1023, 2047, 4095, 8191, 16383, 32767, 65535, 131071, 262143, 524287, 1048575, 2097151, 4194303, 8388607, 16777215, 33554431, 67108863, 134217727, 268435455, 536870911, 1073741823, 2147483647, 4294967295, 4294967295, 12884901887, 34359738367, 68719476735, 137438953471, 4294967295, 279172874239, 1099511627775, 2199023255551, 4398046511103]
theorem spec_AreClaims.tab5 : rtab .any (opsOf Try.f42 5) = spec_AreClaims.T5 := by kernel_rfl
theorem spec_AreClaims.bits5 : waitsOk spec_AreClaims.T5.2 spec_AreClaims.B5 = true := by kernel_rfl
def spec_AreClaims.T10 : Bool × List (List Nat × List Nat) := (true, [([], []), ([0], [0]), ([1], [1]), ([2], [2]), ([3], [3]), ([3], [3]), ([4, 5, 3], [3, 4, 5]), ([6, 3], [3, 6]), ([7, 3], [3, 7]), ([8, 3], [3, 8]), ([3, 9], [3, 9]), ([10, 3], [10]), ([11], [11]), ([11], [11]), ([12, 13, 11], [11, 12, 13]), ([14, 11], [11, 14]), ([15, 11], [11, 15]), ([11], [11]), ([17, 11], [11, 17]), ([16, 18, 11], [11, 16, 18]), ([11, 19], [11, 19])])
def spec_AreClaims.B10 : List Nat := [0, 1, 3, 7, 15, 15, 63, 127, 255, 511, 1023, 2047, 4095, 4095, 16383, 32767, 65535, 4095, 135167, 524287, 1048575]
theorem spec_AreClaims.tab10 : rtab .any (opsOf Try.f42 10) = spec_AreClaims.T10 := by kernel_rfl
theorem spec_AreClaims.bits10 : waitsOk spec_AreClaims.T10.2 spec_AreClaims.B10 = true := by kernel_rfl
set_option maxHeartbeats 8000000 in
set_option maxRecDepth 100000 in
theorem spec_AreClaims.calls (k : Nat) (A0 : Option Addr) (c0 : Nat) (l0 : List (S38)) (r : Bool) (w : World) (hr0 : Kd.C k38 w A0 l0.length l0) (hc0 : l0.length ≤ c0) (h : spec_AreClaims.f k l0 = some r) :
  Calls Try.prog 42 #[.slice A0 l0.length c0] w fun e w' => e = .returned (.bool r) ∧ Below w.heap.size w w' := by
 have hu38 := Try.underlying38
 have HR0 := zK hr0
 have HC0 := zK hc0
 clear hr0 hc0
 have HB := zK (Below.refl w.heap.size w)
 have H : (spec_AreClaims.l0 k l0 0) = some r := h
 clear h
 have H' := zK H
 clear H
 go_enter Try.func42, Try.ntmps42
 go_wp2
 go_loopg [3] k (fun kq v3 w' => ∃ (x3_1 : Int), v3 = .int .i64 x3_1 ∧ Aside0 (spec_AreClaims.l0 kq l0 x3_1 = some r) ∧ Aside0 (kq ≤ k) ∧ Aside0 (Below w.heap.size w w'))
 case atStart => exact ⟨(0), m9, H', ⟨Nat.le_refl _⟩, ⟨by exact qB HB.out⟩⟩
 case round =>
  clear H'
  obtain ⟨x3_1, rfl, HA, HK1, HB⟩ := hrel
  cases gk with
  | zero => exact absurd HA.out (by simp [spec_AreClaims.l0])
  | succ k1 =>
   have H := HA.out
   clear HA
   simp only [spec_AreClaims.l0] at H
   by_cases c2 : x3_1 < (l0.length : Int)
   rotate_left
   ·rw [if_neg c2] at H
    have c2b0 : decide (x3_1 < (l0.length : Int)) = false := decide_eq_false c2
    clear c2
    obtain rfl := Option.some.inj H
    go_wp2
    go_ret
    exact ⟨by first | rfl | (simp [errW_none, errW_some] <;> rfl) | (simp [*, errW_none, errW_some] <;> rfl), by exact qB HB.out⟩

   rw [if_pos c2] at H
   have c2b0 : decide (x3_1 < (l0.length : Int)) = true := decide_eq_true c2
   clear c2
   by_cases c3 : 0 ≤ x3_1
   rotate_left
   ·rw [if_neg c3] at H
    exact absurd H (by simp)
   rw [if_pos c3] at H
   have c3b0 : decide (0 ≤ x3_1) = true := decide_eq_true c3
   clear c3
   have HC4 := zK H
   clear H
   have p262 : 0 ≤ (x3_1 : Int) := oD m2
   have q262 : x3_1 < (l0.length : Int) := oD m2
   obtain ⟨ad262, e262, hx262_0, hx262_1, hx262_2, hx262_3, hx262_4⟩ := at_T38 HR0.out x3_1 p262 q262
   cases e262
   replace hx262_0 := (HB.out.cell (bL w hx262_0)).trans hx262_0
   replace hx262_1 := (HB.out.cell (bL w hx262_1)).trans hx262_1
   replace hx262_2 := (HB.out.cell (bL w hx262_2)).trans hx262_2
   replace hx262_3 := (HB.out.cell (bL w hx262_3)).trans hx262_3
   replace hx262_4 := (HB.out.cell (bL w hx262_4)).trans hx262_4
   replace p262 := eq_true p262
   replace q262 := eq_true q262
   go_upto_region 5 with (first | ((with_reducible refine gate_dst (N := 4) rfl ?_); refine box_event ?hg (N := 4) ?hd (cs := #[.int .i64 0, .int .i64 0, .int .i64 0, .int .i64 0, .int .i64 0]) (t := 38) ?hr ?_; (case hd => rfl); (case hg => rfl); (case hr => first | (go_simp; done) | (go_simp; rfl)); intro gb263 hg w5 hbox hb; have n0_ := zK (bT (qB HB.out) hb); have n1_ := zK (hbox); have n2_ := zK ((by rw [hg]; exact (bZ (qB HB.out)) : w.heap.size ≤ gb263)); have n3_ := zK ((by rw [hg]; exact (bZ (qB HB.out)) : w.heap.size ≤ gb263)); clear HB; have HB := n0_; have BK263 := n1_; have GW263 := n2_; have GE263 := n3_; clear n0_ n1_ n2_ n3_; clear hb hbox hg; have hcz6_0 : w5.cell? ⟨gb263, 0, none⟩ = some (.int .i64 0) := (bc BK263.out 0).trans rfl; have hcz6_1 : w5.cell? ⟨gb263, 1, none⟩ = some (.int .i64 0) := (bc BK263.out 1).trans rfl; have hcz6_2 : w5.cell? ⟨gb263, 2, none⟩ = some (.int .i64 0) := (bc BK263.out 2).trans rfl; have hcz6_3 : w5.cell? ⟨gb263, 3, none⟩ = some (.int .i64 0) := (bc BK263.out 3).trans rfl; have hcz6_4 : w5.cell? ⟨gb263, 4, none⟩ = some (.int .i64 0) := (bc BK263.out 4).trans rfl; have hfz6_0 := bf BK263.out 0; have hfz6_1 := bf BK263.out 1; have hfz6_2 := bf BK263.out 2; have hfz6_3 := bf BK263.out 3; have hfz6_4 := bf BK263.out 4))
   (try simp only [Act.put, sA, sZ, sS])
   go_cut [58] (fun v58 wc => ∃ (kq : Nat) (x58_3 : Bool), v58 = .bool x58_3 ∧ Aside0 (spec_AreClaims.j1 kq l0 x3_1 x58_3 ((rd_T38 l0 x3_1).f0) ((rd_T38 l0 x3_1).f1) ((rd_T38 l0 x3_1).f2) ((rd_T38 l0 x3_1).f3) ((rd_T38 l0 x3_1).f4) = some r) ∧ Aside0 (kq ≤ k1) ∧ Aside0 (wc.heap[gb263]? = some (.cells #[.int .i64 ((rd_T38 l0 x3_1).f0), .int .i64 ((rd_T38 l0 x3_1).f1), .int .i64 ((rd_T38 l0 x3_1).f2), .int .i64 ((rd_T38 l0 x3_1).f3), .int .i64 ((rd_T38 l0 x3_1).f4)] 38 (0, 0))) ∧ Aside0 (Below w.heap.size w wc))
   case first =>
    have H := HC4.out
    clear HC4
    replace H := Option.bind_eq_some_iff.mp H
    obtain ⟨t264, A70, H⟩ := H
    replace H : (if t264 = true then ((spec_l1In.f ((rd_T38 l0 x3_1).f1) 1 999).bind fun t265 => (if t265 = true then ((spec_l1In.f ((rd_T38 l0 x3_1).f2) 1 999).bind fun t266 => (if t266 = true then ((spec_l1In.f ((rd_T38 l0 x3_1).f3) 0 100000).bind fun t267 => (if t267 = true then ((spec_l1In.f ((rd_T38 l0 x3_1).f4) 0 3).bind fun t268 => (if t268 = true then (if x3_1 > 0 then (if 0 ≤ (wrap64 (x3_1 - 1)) then (if (wrap64 (x3_1 - 1)) < (l0.length : Int) then (spec_AreClaims.j1 k1 l0 x3_1 (decide (((rd_T38 l0 (wrap64 (x3_1 - 1))).f0) ≥ ((rd_T38 l0 x3_1).f0))) ((rd_T38 l0 x3_1).f0) ((rd_T38 l0 x3_1).f1) ((rd_T38 l0 x3_1).f2) ((rd_T38 l0 x3_1).f3) ((rd_T38 l0 x3_1).f4)) else (none)) else (none)) else (spec_AreClaims.j1 k1 l0 x3_1 false ((rd_T38 l0 x3_1).f0) ((rd_T38 l0 x3_1).f1) ((rd_T38 l0 x3_1).f2) ((rd_T38 l0 x3_1).f3) ((rd_T38 l0 x3_1).f4))) else (spec_AreClaims.j1 k1 l0 x3_1 true ((rd_T38 l0 x3_1).f0) ((rd_T38 l0 x3_1).f1) ((rd_T38 l0 x3_1).f2) ((rd_T38 l0 x3_1).f3) ((rd_T38 l0 x3_1).f4)))) else (spec_AreClaims.j1 k1 l0 x3_1 true ((rd_T38 l0 x3_1).f0) ((rd_T38 l0 x3_1).f1) ((rd_T38 l0 x3_1).f2) ((rd_T38 l0 x3_1).f3) ((rd_T38 l0 x3_1).f4)))) else (spec_AreClaims.j1 k1 l0 x3_1 true ((rd_T38 l0 x3_1).f0) ((rd_T38 l0 x3_1).f1) ((rd_T38 l0 x3_1).f2) ((rd_T38 l0 x3_1).f3) ((rd_T38 l0 x3_1).f4)))) else (spec_AreClaims.j1 k1 l0 x3_1 true ((rd_T38 l0 x3_1).f0) ((rd_T38 l0 x3_1).f1) ((rd_T38 l0 x3_1).f2) ((rd_T38 l0 x3_1).f3) ((rd_T38 l0 x3_1).f4)))) else (spec_AreClaims.j1 k1 l0 x3_1 true ((rd_T38 l0 x3_1).f0) ((rd_T38 l0 x3_1).f1) ((rd_T38 l0 x3_1).f2) ((rd_T38 l0 x3_1).f3) ((rd_T38 l0 x3_1).f4))) = some r := H
    have A7 := zK A70
    clear A70
    by_cases c8 : t264 = true
    rotate_left
    ·replace c8 := Bool.eq_false_iff.mpr c8
     subst c8
     have H1 : (spec_AreClaims.j1 k1 l0 x3_1 true ((rd_T38 l0 x3_1).f0) ((rd_T38 l0 x3_1).f1) ((rd_T38 l0 x3_1).f2) ((rd_T38 l0 x3_1).f3) ((rd_T38 l0 x3_1).f4)) = some r := by rw [if_neg (show ¬ (false = true) by decide)] at H; exact H
     clear H
     have H := H1
     clear H1
     have H' := zK H
     clear H
     try go_wp2
     have n0_ : Aside0 ((((((w5.setCell ⟨gb263, 0, none⟩ (.int .i64 ((rd_T38 l0 x3_1).f0))).setCell ⟨gb263, 1, none⟩ (.int .i64 ((rd_T38 l0 x3_1).f1))).setCell ⟨gb263, 2, none⟩ (.int .i64 ((rd_T38 l0 x3_1).f2))).setCell ⟨gb263, 3, none⟩ (.int .i64 ((rd_T38 l0 x3_1).f3))).setCell ⟨gb263, 4, none⟩ (.int .i64 ((rd_T38 l0 x3_1).f4))).heap[gb263]? = some (.cells #[.int .i64 ((rd_T38 l0 x3_1).f0), .int .i64 ((rd_T38 l0 x3_1).f1), .int .i64 ((rd_T38 l0 x3_1).f2), .int .i64 ((rd_T38 l0 x3_1).f3), .int .i64 ((rd_T38 l0 x3_1).f4)] 38 (0, 0))) := ⟨by (with_reducible repeat (first | refine kN ?_ _ | refine kD ?_ | refine kA ?_ _)); refine blk_put (cs := #[.int .i64 ((rd_T38 l0 x3_1).f0), .int .i64 ((rd_T38 l0 x3_1).f1), .int .i64 ((rd_T38 l0 x3_1).f2), .int .i64 ((rd_T38 l0 x3_1).f3), .int .i64 0]) ?_ 4 _ rfl; (with_reducible repeat (first | refine kN ?_ _ | refine kD ?_ | refine kA ?_ _)); refine blk_put (cs := #[.int .i64 ((rd_T38 l0 x3_1).f0), .int .i64 ((rd_T38 l0 x3_1).f1), .int .i64 ((rd_T38 l0 x3_1).f2), .int .i64 0, .int .i64 0]) ?_ 3 _ rfl; (with_reducible repeat (first | refine kN ?_ _ | refine kD ?_ | refine kA ?_ _)); refine blk_put (cs := #[.int .i64 ((rd_T38 l0 x3_1).f0), .int .i64 ((rd_T38 l0 x3_1).f1), .int .i64 0, .int .i64 0, .int .i64 0]) ?_ 2 _ rfl; (with_reducible repeat (first | refine kN ?_ _ | refine kD ?_ | refine kA ?_ _)); refine blk_put (cs := #[.int .i64 ((rd_T38 l0 x3_1).f0), .int .i64 0, .int .i64 0, .int .i64 0, .int .i64 0]) ?_ 1 _ rfl; (with_reducible repeat (first | refine kN ?_ _ | refine kD ?_ | refine kA ?_ _)); refine blk_put (cs := #[.int .i64 0, .int .i64 0, .int .i64 0, .int .i64 0, .int .i64 0]) ?_ 0 _ rfl; exact qK BK263.out⟩
     have n1_ : Aside0 (Below w.heap.size w (((((w5.setCell ⟨gb263, 0, none⟩ (.int .i64 ((rd_T38 l0 x3_1).f0))).setCell ⟨gb263, 1, none⟩ (.int .i64 ((rd_T38 l0 x3_1).f1))).setCell ⟨gb263, 2, none⟩ (.int .i64 ((rd_T38 l0 x3_1).f2))).setCell ⟨gb263, 3, none⟩ (.int .i64 ((rd_T38 l0 x3_1).f3))).setCell ⟨gb263, 4, none⟩ (.int .i64 ((rd_T38 l0 x3_1).f4)))) := ⟨by repeat (first | (with_reducible first | exact HB.out | apply bA | apply bN | apply below_drew1 | refine bS ?_ GE263.out) | exact HB.out)⟩
     (try clear BK263)
     (try clear HB)
     generalize (((((w5.setCell ⟨gb263, 0, none⟩ (.int .i64 ((rd_T38 l0 x3_1).f0))).setCell ⟨gb263, 1, none⟩ (.int .i64 ((rd_T38 l0 x3_1).f1))).setCell ⟨gb263, 2, none⟩ (.int .i64 ((rd_T38 l0 x3_1).f2))).setCell ⟨gb263, 3, none⟩ (.int .i64 ((rd_T38 l0 x3_1).f3))).setCell ⟨gb263, 4, none⟩ (.int .i64 ((rd_T38 l0 x3_1).f4))) = w33 at n0_ n1_ ⊢
     have BK263 := n0_
     have HB := n1_
     clear n0_ n1_
     have n0_ := zK (kD BK263.out)
     have n1_ := zK (below_drew1 HB.out)
     clear BK263
     clear HB
     have BK263 := n0_
     have HB := n1_
     clear n0_ n1_
     refine start_ (n := 43) (S := fun w' => w'.cell? ⟨gb263, 0, none⟩ = some (.int .i64 ((rd_T38 l0 x3_1).f0)) ∧ w'.cell? ⟨gb263, 1, none⟩ = some (.int .i64 ((rd_T38 l0 x3_1).f1)) ∧ w'.cell? ⟨gb263, 2, none⟩ = some (.int .i64 ((rd_T38 l0 x3_1).f2)) ∧ w'.cell? ⟨gb263, 3, none⟩ = some (.int .i64 ((rd_T38 l0 x3_1).f3)) ∧ w'.cell? ⟨gb263, 4, none⟩ = some (.int .i64 ((rd_T38 l0 x3_1).f4))) (ds := []) b3A0 (by kernel_rfl) rfl rfl ⟨(bc BK263.out 0).trans rfl, (bc BK263.out 1).trans rfl, (bc BK263.out 2).trans rfl, (bc BK263.out 3).trans rfl, (bc BK263.out 4).trans rfl⟩ (fun hHeld => ?_); refine with_tabW spec_AreClaims.tab5 spec_AreClaims.bits5 (fun HT_ HW_ => ?_)
     generalize w33.drew = w34 at BK263 HB hHeld ⊢
     refine pI 0 (some 16) b3A1 HT_ ?_
     refine tI 1 (some 17) b3A2 HT_ HW_ hHeld rfl rfl (Or.inl ⟨by rfl, by rintro w' ⟨s0, s1, s2, s3, s4⟩; go_simp; with_reducible rfl⟩) ?_
     refine one_ (i := 2) (N := some 18) b3A3 rfl rfl (one_of HT_.out (by kernel_rfl)) (by decide) (fun K hK => ?_)
     refine goes_ Try.func16 (by kernel_rfl) rfl #[.int .i64 ((rd_T38 l0 x3_1).f0), .int .i64 1, .int .i64 999] (by rfl) rfl rfl m0 ?_
     with_reducible refine (spec_l1In.calls ((rd_T38 l0 x3_1).f0) 1 999 false _ A7.out).mono ?_
     rintro e w' ⟨rfl, ⟨nd, rfl⟩⟩
     refine ⟨_, rfl, ?_⟩
     refine hK.out _ _ ⟨(bc BK263.out 0).trans rfl, (bc BK263.out 1).trans rfl, (bc BK263.out 2).trans rfl, (bc BK263.out 3).trans rfl, (bc BK263.out 4).trans rfl⟩ (fun hHeld => ?_)
     clear hK K
     refine norm_ (a' := ?_) ?_ ?_
     rotate_left
     ·show Act.put _ (some 18) _ = _
      simp only [Act.put, sA, sZ, sS, i64_w, i32_w]
      rfl
     refine pI 3 (some 19) b3A4 HT_ ?_
     refine pI 4 (some 20) b3A5 HT_ ?_
     refine pU 5 (some 21) b3A6 HT_ ?_
     refine pU 6 (some 22) b3A7 HT_ ?_
     refine pU 7 (some 23) b3A8 HT_ ?_
     refine pU 8 (some 24) b3A9 HT_ ?_
     refine pI 9 (some 25) b3A10 HT_ ?_
     refine pI 10 (some 26) b3A11 HT_ ?_
     refine pU 11 (some 27) b3A12 HT_ ?_
     refine pU 12 (some 28) b3A13 HT_ ?_
     refine pU 13 (some 29) b3A14 HT_ ?_
     refine pU 14 (some 30) b3A15 HT_ ?_
     refine pI 15 (some 31) b3A16 HT_ ?_
     refine pI 16 (some 32) b3A17 HT_ ?_
     refine pU 17 (some 33) b3A18 HT_ ?_
     refine pU 18 (some 34) b3A19 HT_ ?_
     refine pU 19 (some 35) b3A20 HT_ ?_
     refine pU 20 (some 36) b3A21 HT_ ?_
     refine pI 21 (some 37) b3A22 HT_ ?_
     refine pI 22 (some 38) b3A23 HT_ ?_
     refine pU 23 (some 39) b3A24 HT_ ?_
     refine pU 24 (some 40) b3A25 HT_ ?_
     refine pU 25 (some 41) b3A26 HT_ ?_
     refine pU 26 (some 42) b3A27 HT_ ?_
     refine pI 27 (some 43) b3A28 HT_ ?_
     refine pI 28 (some 44) b3A29 HT_ ?_
     refine pU 29 (some 45) b3A30 HT_ ?_
     refine pU 30 (some 46) b3A31 HT_ ?_
     refine pU 31 (some 47) b3A32 HT_ ?_
     refine pU 32 (some 48) b3A33 HT_ ?_
     refine pU 33 (some 49) b3A34 HT_ ?_
     refine pU 34 (some 50) b3A35 HT_ ?_
     refine pU 35 (some 51) b3A36 HT_ ?_
     refine pU 36 (some 52) b3A37 HT_ ?_
     refine pU 37 (some 53) b3A44 HT_ ?_
     refine pU 38 (some 54) b3A39 HT_ ?_
     refine pU 39 (some 55) b3A40 HT_ ?_
     refine pU 40 (some 56) b3A41 HT_ ?_
     refine pU 41 (some 57) b3A42 HT_ ?_
     refine pI 42 (some 58) b3A43 HT_ ?_
     refine done_ (done_of HT_.out (by kernel_rfl)) ?_
     try go_wp2
     go_meet
     case rel => exact ⟨_, (true), m9, H', ⟨by have := HK1.out; first | omega | exact Nat.le_refl _⟩, ⟨by exact qK BK263.out⟩, ⟨by repeat (first | (with_reducible first | exact HB.out | apply bA | apply bN | apply below_drew1 | refine bS ?_ GE263.out) | exact HB.out)⟩⟩
    subst c8
    have H1 : ((spec_l1In.f ((rd_T38 l0 x3_1).f1) 1 999).bind fun t265 => (if t265 = true then ((spec_l1In.f ((rd_T38 l0 x3_1).f2) 1 999).bind fun t266 => (if t266 = true then ((spec_l1In.f ((rd_T38 l0 x3_1).f3) 0 100000).bind fun t267 => (if t267 = true then ((spec_l1In.f ((rd_T38 l0 x3_1).f4) 0 3).bind fun t268 => (if t268 = true then (if x3_1 > 0 then (if 0 ≤ (wrap64 (x3_1 - 1)) then (if (wrap64 (x3_1 - 1)) < (l0.length : Int) then (spec_AreClaims.j1 k1 l0 x3_1 (decide (((rd_T38 l0 (wrap64 (x3_1 - 1))).f0) ≥ ((rd_T38 l0 x3_1).f0))) ((rd_T38 l0 x3_1).f0) ((rd_T38 l0 x3_1).f1) ((rd_T38 l0 x3_1).f2) ((rd_T38 l0 x3_1).f3) ((rd_T38 l0 x3_1).f4)) else (none)) else (none)) else (spec_AreClaims.j1 k1 l0 x3_1 false ((rd_T38 l0 x3_1).f0) ((rd_T38 l0 x3_1).f1) ((rd_T38 l0 x3_1).f2) ((rd_T38 l0 x3_1).f3) ((rd_T38 l0 x3_1).f4))) else (spec_AreClaims.j1 k1 l0 x3_1 true ((rd_T38 l0 x3_1).f0) ((rd_T38 l0 x3_1).f1) ((rd_T38 l0 x3_1).f2) ((rd_T38 l0 x3_1).f3) ((rd_T38 l0 x3_1).f4)))) else (spec_AreClaims.j1 k1 l0 x3_1 true ((rd_T38 l0 x3_1).f0) ((rd_T38 l0 x3_1).f1) ((rd_T38 l0 x3_1).f2) ((rd_T38 l0 x3_1).f3) ((rd_T38 l0 x3_1).f4)))) else (spec_AreClaims.j1 k1 l0 x3_1 true ((rd_T38 l0 x3_1).f0) ((rd_T38 l0 x3_1).f1) ((rd_T38 l0 x3_1).f2) ((rd_T38 l0 x3_1).f3) ((rd_T38 l0 x3_1).f4)))) else (spec_AreClaims.j1 k1 l0 x3_1 true ((rd_T38 l0 x3_1).f0) ((rd_T38 l0 x3_1).f1) ((rd_T38 l0 x3_1).f2) ((rd_T38 l0 x3_1).f3) ((rd_T38 l0 x3_1).f4)))) = some r := by rw [if_pos rfl] at H; exact H
    clear H
    have H := H1
    clear H1
    replace H := Option.bind_eq_some_iff.mp H
    obtain ⟨t265, A90, H⟩ := H
    replace H : (if t265 = true then ((spec_l1In.f ((rd_T38 l0 x3_1).f2) 1 999).bind fun t266 => (if t266 = true then ((spec_l1In.f ((rd_T38 l0 x3_1).f3) 0 100000).bind fun t267 => (if t267 = true then ((spec_l1In.f ((rd_T38 l0 x3_1).f4) 0 3).bind fun t268 => (if t268 = true then (if x3_1 > 0 then (if 0 ≤ (wrap64 (x3_1 - 1)) then (if (wrap64 (x3_1 - 1)) < (l0.length : Int) then (spec_AreClaims.j1 k1 l0 x3_1 (decide (((rd_T38 l0 (wrap64 (x3_1 - 1))).f0) ≥ ((rd_T38 l0 x3_1).f0))) ((rd_T38 l0 x3_1).f0) ((rd_T38 l0 x3_1).f1) ((rd_T38 l0 x3_1).f2) ((rd_T38 l0 x3_1).f3) ((rd_T38 l0 x3_1).f4)) else (none)) else (none)) else (spec_AreClaims.j1 k1 l0 x3_1 false ((rd_T38 l0 x3_1).f0) ((rd_T38 l0 x3_1).f1) ((rd_T38 l0 x3_1).f2) ((rd_T38 l0 x3_1).f3) ((rd_T38 l0 x3_1).f4))) else (spec_AreClaims.j1 k1 l0 x3_1 true ((rd_T38 l0 x3_1).f0) ((rd_T38 l0 x3_1).f1) ((rd_T38 l0 x3_1).f2) ((rd_T38 l0 x3_1).f3) ((rd_T38 l0 x3_1).f4)))) else (spec_AreClaims.j1 k1 l0 x3_1 true ((rd_T38 l0 x3_1).f0) ((rd_T38 l0 x3_1).f1) ((rd_T38 l0 x3_1).f2) ((rd_T38 l0 x3_1).f3) ((rd_T38 l0 x3_1).f4)))) else (spec_AreClaims.j1 k1 l0 x3_1 true ((rd_T38 l0 x3_1).f0) ((rd_T38 l0 x3_1).f1) ((rd_T38 l0 x3_1).f2) ((rd_T38 l0 x3_1).f3) ((rd_T38 l0 x3_1).f4)))) else (spec_AreClaims.j1 k1 l0 x3_1 true ((rd_T38 l0 x3_1).f0) ((rd_T38 l0 x3_1).f1) ((rd_T38 l0 x3_1).f2) ((rd_T38 l0 x3_1).f3) ((rd_T38 l0 x3_1).f4))) = some r := H
    have A9 := zK A90
    clear A90
    by_cases c10 : t265 = true
    rotate_left
    ·replace c10 := Bool.eq_false_iff.mpr c10
     subst c10
     have H1 : (spec_AreClaims.j1 k1 l0 x3_1 true ((rd_T38 l0 x3_1).f0) ((rd_T38 l0 x3_1).f1) ((rd_T38 l0 x3_1).f2) ((rd_T38 l0 x3_1).f3) ((rd_T38 l0 x3_1).f4)) = some r := by rw [if_neg (show ¬ (false = true) by decide)] at H; exact H
     clear H
     have H := H1
     clear H1
     have H' := zK H
     clear H
     try go_wp2
     have n0_ : Aside0 ((((((w5.setCell ⟨gb263, 0, none⟩ (.int .i64 ((rd_T38 l0 x3_1).f0))).setCell ⟨gb263, 1, none⟩ (.int .i64 ((rd_T38 l0 x3_1).f1))).setCell ⟨gb263, 2, none⟩ (.int .i64 ((rd_T38 l0 x3_1).f2))).setCell ⟨gb263, 3, none⟩ (.int .i64 ((rd_T38 l0 x3_1).f3))).setCell ⟨gb263, 4, none⟩ (.int .i64 ((rd_T38 l0 x3_1).f4))).heap[gb263]? = some (.cells #[.int .i64 ((rd_T38 l0 x3_1).f0), .int .i64 ((rd_T38 l0 x3_1).f1), .int .i64 ((rd_T38 l0 x3_1).f2), .int .i64 ((rd_T38 l0 x3_1).f3), .int .i64 ((rd_T38 l0 x3_1).f4)] 38 (0, 0))) := ⟨by (with_reducible repeat (first | refine kN ?_ _ | refine kD ?_ | refine kA ?_ _)); refine blk_put (cs := #[.int .i64 ((rd_T38 l0 x3_1).f0), .int .i64 ((rd_T38 l0 x3_1).f1), .int .i64 ((rd_T38 l0 x3_1).f2), .int .i64 ((rd_T38 l0 x3_1).f3), .int .i64 0]) ?_ 4 _ rfl; (with_reducible repeat (first | refine kN ?_ _ | refine kD ?_ | refine kA ?_ _)); refine blk_put (cs := #[.int .i64 ((rd_T38 l0 x3_1).f0), .int .i64 ((rd_T38 l0 x3_1).f1), .int .i64 ((rd_T38 l0 x3_1).f2), .int .i64 0, .int .i64 0]) ?_ 3 _ rfl; (with_reducible repeat (first | refine kN ?_ _ | refine kD ?_ | refine kA ?_ _)); refine blk_put (cs := #[.int .i64 ((rd_T38 l0 x3_1).f0), .int .i64 ((rd_T38 l0 x3_1).f1), .int .i64 0, .int .i64 0, .int .i64 0]) ?_ 2 _ rfl; (with_reducible repeat (first | refine kN ?_ _ | refine kD ?_ | refine kA ?_ _)); refine blk_put (cs := #[.int .i64 ((rd_T38 l0 x3_1).f0), .int .i64 0, .int .i64 0, .int .i64 0, .int .i64 0]) ?_ 1 _ rfl; (with_reducible repeat (first | refine kN ?_ _ | refine kD ?_ | refine kA ?_ _)); refine blk_put (cs := #[.int .i64 0, .int .i64 0, .int .i64 0, .int .i64 0, .int .i64 0]) ?_ 0 _ rfl; exact qK BK263.out⟩
     have n1_ : Aside0 (Below w.heap.size w (((((w5.setCell ⟨gb263, 0, none⟩ (.int .i64 ((rd_T38 l0 x3_1).f0))).setCell ⟨gb263, 1, none⟩ (.int .i64 ((rd_T38 l0 x3_1).f1))).setCell ⟨gb263, 2, none⟩ (.int .i64 ((rd_T38 l0 x3_1).f2))).setCell ⟨gb263, 3, none⟩ (.int .i64 ((rd_T38 l0 x3_1).f3))).setCell ⟨gb263, 4, none⟩ (.int .i64 ((rd_T38 l0 x3_1).f4)))) := ⟨by repeat (first | (with_reducible first | exact HB.out | apply bA | apply bN | apply below_drew1 | refine bS ?_ GE263.out) | exact HB.out)⟩
     (try clear BK263)
     (try clear HB)
     generalize (((((w5.setCell ⟨gb263, 0, none⟩ (.int .i64 ((rd_T38 l0 x3_1).f0))).setCell ⟨gb263, 1, none⟩ (.int .i64 ((rd_T38 l0 x3_1).f1))).setCell ⟨gb263, 2, none⟩ (.int .i64 ((rd_T38 l0 x3_1).f2))).setCell ⟨gb263, 3, none⟩ (.int .i64 ((rd_T38 l0 x3_1).f3))).setCell ⟨gb263, 4, none⟩ (.int .i64 ((rd_T38 l0 x3_1).f4))) = w31 at n0_ n1_ ⊢
     have BK263 := n0_
     have HB := n1_
     clear n0_ n1_
     have n0_ := zK (kD BK263.out)
     have n1_ := zK (below_drew1 HB.out)
     clear BK263
     clear HB
     have BK263 := n0_
     have HB := n1_
     clear n0_ n1_
     refine start_ (n := 43) (S := fun w' => w'.cell? ⟨gb263, 0, none⟩ = some (.int .i64 ((rd_T38 l0 x3_1).f0)) ∧ w'.cell? ⟨gb263, 1, none⟩ = some (.int .i64 ((rd_T38 l0 x3_1).f1)) ∧ w'.cell? ⟨gb263, 2, none⟩ = some (.int .i64 ((rd_T38 l0 x3_1).f2)) ∧ w'.cell? ⟨gb263, 3, none⟩ = some (.int .i64 ((rd_T38 l0 x3_1).f3)) ∧ w'.cell? ⟨gb263, 4, none⟩ = some (.int .i64 ((rd_T38 l0 x3_1).f4))) (ds := []) b3A0 (by kernel_rfl) rfl rfl ⟨(bc BK263.out 0).trans rfl, (bc BK263.out 1).trans rfl, (bc BK263.out 2).trans rfl, (bc BK263.out 3).trans rfl, (bc BK263.out 4).trans rfl⟩ (fun hHeld => ?_); refine with_tabW spec_AreClaims.tab5 spec_AreClaims.bits5 (fun HT_ HW_ => ?_)
     generalize w31.drew = w32 at BK263 HB hHeld ⊢
     refine pI 0 (some 16) b3A1 HT_ ?_
     refine tI 1 (some 17) b3A2 HT_ HW_ hHeld rfl rfl (Or.inl ⟨by rfl, by rintro w' ⟨s0, s1, s2, s3, s4⟩; go_simp; with_reducible rfl⟩) ?_
     refine one_ (i := 2) (N := some 18) b3A3 rfl rfl (one_of HT_.out (by kernel_rfl)) (by decide) (fun K hK => ?_)
     refine goes_ Try.func16 (by kernel_rfl) rfl #[.int .i64 ((rd_T38 l0 x3_1).f0), .int .i64 1, .int .i64 999] (by rfl) rfl rfl m0 ?_
     with_reducible refine (spec_l1In.calls ((rd_T38 l0 x3_1).f0) 1 999 true _ A7.out).mono ?_
     rintro e w' ⟨rfl, ⟨nd, rfl⟩⟩
     refine ⟨_, rfl, ?_⟩
     refine hK.out _ _ ⟨(bc BK263.out 0).trans rfl, (bc BK263.out 1).trans rfl, (bc BK263.out 2).trans rfl, (bc BK263.out 3).trans rfl, (bc BK263.out 4).trans rfl⟩ (fun hHeld => ?_)
     clear hK K
     refine norm_ (a' := ?_) ?_ ?_
     rotate_left
     ·show Act.put _ (some 18) _ = _
      simp only [Act.put, sA, sZ, sS, i64_w, i32_w]
      rfl
     refine pI 3 (some 19) b3A4 HT_ ?_
     refine pI 4 (some 20) b3A5 HT_ ?_
     refine pI 5 (some 21) b3A6 HT_ ?_
     refine tI 6 (some 22) b3A7 HT_ HW_ hHeld rfl rfl (Or.inl ⟨by rfl, by rintro w' ⟨s0, s1, s2, s3, s4⟩; go_simp; with_reducible rfl⟩) ?_
     refine one_ (i := 7) (N := some 23) b3A8 rfl rfl (one_of HT_.out (by kernel_rfl)) (by decide) (fun K hK => ?_)
     refine goes_ Try.func16 (by kernel_rfl) rfl #[.int .i64 ((rd_T38 l0 x3_1).f1), .int .i64 1, .int .i64 999] (by rfl) rfl rfl m0 ?_
     with_reducible refine (spec_l1In.calls ((rd_T38 l0 x3_1).f1) 1 999 false _ A9.out).mono ?_
     rintro e w' ⟨rfl, ⟨nd, rfl⟩⟩
     refine ⟨_, rfl, ?_⟩
     refine hK.out _ _ ⟨(bc BK263.out 0).trans rfl, (bc BK263.out 1).trans rfl, (bc BK263.out 2).trans rfl, (bc BK263.out 3).trans rfl, (bc BK263.out 4).trans rfl⟩ (fun hHeld => ?_)
     clear hK K
     refine norm_ (a' := ?_) ?_ ?_
     rotate_left
     ·show Act.put _ (some 23) _ = _
      simp only [Act.put, sA, sZ, sS, i64_w, i32_w]
      rfl
     refine pI 8 (some 24) b3A9 HT_ ?_
     refine pI 9 (some 25) b3A10 HT_ ?_
     refine pI 10 (some 26) b3A11 HT_ ?_
     refine pU 11 (some 27) b3A12 HT_ ?_
     refine pU 12 (some 28) b3A13 HT_ ?_
     refine pU 13 (some 29) b3A14 HT_ ?_
     refine pU 14 (some 30) b3A15 HT_ ?_
     refine pI 15 (some 31) b3A16 HT_ ?_
     refine pI 16 (some 32) b3A17 HT_ ?_
     refine pU 17 (some 33) b3A18 HT_ ?_
     refine pU 18 (some 34) b3A19 HT_ ?_
     refine pU 19 (some 35) b3A20 HT_ ?_
     refine pU 20 (some 36) b3A21 HT_ ?_
     refine pI 21 (some 37) b3A22 HT_ ?_
     refine pI 22 (some 38) b3A23 HT_ ?_
     refine pU 23 (some 39) b3A24 HT_ ?_
     refine pU 24 (some 40) b3A25 HT_ ?_
     refine pU 25 (some 41) b3A26 HT_ ?_
     refine pU 26 (some 42) b3A27 HT_ ?_
     refine pI 27 (some 43) b3A28 HT_ ?_
     refine pI 28 (some 44) b3A29 HT_ ?_
     refine pU 29 (some 45) b3A30 HT_ ?_
     refine pU 30 (some 46) b3A31 HT_ ?_
     refine pU 31 (some 47) b3A32 HT_ ?_
     refine pU 32 (some 48) b3A33 HT_ ?_
     refine pU 33 (some 49) b3A34 HT_ ?_
     refine pU 34 (some 50) b3A35 HT_ ?_
     refine pU 35 (some 51) b3A36 HT_ ?_
     refine pU 36 (some 52) b3A37 HT_ ?_
     refine pU 37 (some 53) b3A44 HT_ ?_
     refine pU 38 (some 54) b3A39 HT_ ?_
     refine pU 39 (some 55) b3A40 HT_ ?_
     refine pU 40 (some 56) b3A41 HT_ ?_
     refine pU 41 (some 57) b3A42 HT_ ?_
     refine pI 42 (some 58) b3A43 HT_ ?_
     refine done_ (done_of HT_.out (by kernel_rfl)) ?_
     try go_wp2
     go_meet
     case rel => exact ⟨_, (true), m9, H', ⟨by have := HK1.out; first | omega | exact Nat.le_refl _⟩, ⟨by exact qK BK263.out⟩, ⟨by repeat (first | (with_reducible first | exact HB.out | apply bA | apply bN | apply below_drew1 | refine bS ?_ GE263.out) | exact HB.out)⟩⟩
    subst c10
    have H1 : ((spec_l1In.f ((rd_T38 l0 x3_1).f2) 1 999).bind fun t266 => (if t266 = true then ((spec_l1In.f ((rd_T38 l0 x3_1).f3) 0 100000).bind fun t267 => (if t267 = true then ((spec_l1In.f ((rd_T38 l0 x3_1).f4) 0 3).bind fun t268 => (if t268 = true then (if x3_1 > 0 then (if 0 ≤ (wrap64 (x3_1 - 1)) then (if (wrap64 (x3_1 - 1)) < (l0.length : Int) then (spec_AreClaims.j1 k1 l0 x3_1 (decide (((rd_T38 l0 (wrap64 (x3_1 - 1))).f0) ≥ ((rd_T38 l0 x3_1).f0))) ((rd_T38 l0 x3_1).f0) ((rd_T38 l0 x3_1).f1) ((rd_T38 l0 x3_1).f2) ((rd_T38 l0 x3_1).f3) ((rd_T38 l0 x3_1).f4)) else (none)) else (none)) else (spec_AreClaims.j1 k1 l0 x3_1 false ((rd_T38 l0 x3_1).f0) ((rd_T38 l0 x3_1).f1) ((rd_T38 l0 x3_1).f2) ((rd_T38 l0 x3_1).f3) ((rd_T38 l0 x3_1).f4))) else (spec_AreClaims.j1 k1 l0 x3_1 true ((rd_T38 l0 x3_1).f0) ((rd_T38 l0 x3_1).f1) ((rd_T38 l0 x3_1).f2) ((rd_T38 l0 x3_1).f3) ((rd_T38 l0 x3_1).f4)))) else (spec_AreClaims.j1 k1 l0 x3_1 true ((rd_T38 l0 x3_1).f0) ((rd_T38 l0 x3_1).f1) ((rd_T38 l0 x3_1).f2) ((rd_T38 l0 x3_1).f3) ((rd_T38 l0 x3_1).f4)))) else (spec_AreClaims.j1 k1 l0 x3_1 true ((rd_T38 l0 x3_1).f0) ((rd_T38 l0 x3_1).f1) ((rd_T38 l0 x3_1).f2) ((rd_T38 l0 x3_1).f3) ((rd_T38 l0 x3_1).f4)))) = some r := by rw [if_pos rfl] at H; exact H
    clear H
    have H := H1
    clear H1
    replace H := Option.bind_eq_some_iff.mp H
    obtain ⟨t266, A110, H⟩ := H
    replace H : (if t266 = true then ((spec_l1In.f ((rd_T38 l0 x3_1).f3) 0 100000).bind fun t267 => (if t267 = true then ((spec_l1In.f ((rd_T38 l0 x3_1).f4) 0 3).bind fun t268 => (if t268 = true then (if x3_1 > 0 then (if 0 ≤ (wrap64 (x3_1 - 1)) then (if (wrap64 (x3_1 - 1)) < (l0.length : Int) then (spec_AreClaims.j1 k1 l0 x3_1 (decide (((rd_T38 l0 (wrap64 (x3_1 - 1))).f0) ≥ ((rd_T38 l0 x3_1).f0))) ((rd_T38 l0 x3_1).f0) ((rd_T38 l0 x3_1).f1) ((rd_T38 l0 x3_1).f2) ((rd_T38 l0 x3_1).f3) ((rd_T38 l0 x3_1).f4)) else (none)) else (none)) else (spec_AreClaims.j1 k1 l0 x3_1 false ((rd_T38 l0 x3_1).f0) ((rd_T38 l0 x3_1).f1) ((rd_T38 l0 x3_1).f2) ((rd_T38 l0 x3_1).f3) ((rd_T38 l0 x3_1).f4))) else (spec_AreClaims.j1 k1 l0 x3_1 true ((rd_T38 l0 x3_1).f0) ((rd_T38 l0 x3_1).f1) ((rd_T38 l0 x3_1).f2) ((rd_T38 l0 x3_1).f3) ((rd_T38 l0 x3_1).f4)))) else (spec_AreClaims.j1 k1 l0 x3_1 true ((rd_T38 l0 x3_1).f0) ((rd_T38 l0 x3_1).f1) ((rd_T38 l0 x3_1).f2) ((rd_T38 l0 x3_1).f3) ((rd_T38 l0 x3_1).f4)))) else (spec_AreClaims.j1 k1 l0 x3_1 true ((rd_T38 l0 x3_1).f0) ((rd_T38 l0 x3_1).f1) ((rd_T38 l0 x3_1).f2) ((rd_T38 l0 x3_1).f3) ((rd_T38 l0 x3_1).f4))) = some r := H
    have A11 := zK A110
    clear A110
    by_cases c12 : t266 = true
    rotate_left
    ·replace c12 := Bool.eq_false_iff.mpr c12
     subst c12
     have H1 : (spec_AreClaims.j1 k1 l0 x3_1 true ((rd_T38 l0 x3_1).f0) ((rd_T38 l0 x3_1).f1) ((rd_T38 l0 x3_1).f2) ((rd_T38 l0 x3_1).f3) ((rd_T38 l0 x3_1).f4)) = some r := by rw [if_neg (show ¬ (false = true) by decide)] at H; exact H
     clear H
     have H := H1
     clear H1
     have H' := zK H
     clear H
     try go_wp2
     have n0_ : Aside0 ((((((w5.setCell ⟨gb263, 0, none⟩ (.int .i64 ((rd_T38 l0 x3_1).f0))).setCell ⟨gb263, 1, none⟩ (.int .i64 ((rd_T38 l0 x3_1).f1))).setCell ⟨gb263, 2, none⟩ (.int .i64 ((rd_T38 l0 x3_1).f2))).setCell ⟨gb263, 3, none⟩ (.int .i64 ((rd_T38 l0 x3_1).f3))).setCell ⟨gb263, 4, none⟩ (.int .i64 ((rd_T38 l0 x3_1).f4))).heap[gb263]? = some (.cells #[.int .i64 ((rd_T38 l0 x3_1).f0), .int .i64 ((rd_T38 l0 x3_1).f1), .int .i64 ((rd_T38 l0 x3_1).f2), .int .i64 ((rd_T38 l0 x3_1).f3), .int .i64 ((rd_T38 l0 x3_1).f4)] 38 (0, 0))) := ⟨by (with_reducible repeat (first | refine kN ?_ _ | refine kD ?_ | refine kA ?_ _)); refine blk_put (cs := #[.int .i64 ((rd_T38 l0 x3_1).f0), .int .i64 ((rd_T38 l0 x3_1).f1), .int .i64 ((rd_T38 l0 x3_1).f2), .int .i64 ((rd_T38 l0 x3_1).f3), .int .i64 0]) ?_ 4 _ rfl; (with_reducible repeat (first | refine kN ?_ _ | refine kD ?_ | refine kA ?_ _)); refine blk_put (cs := #[.int .i64 ((rd_T38 l0 x3_1).f0), .int .i64 ((rd_T38 l0 x3_1).f1), .int .i64 ((rd_T38 l0 x3_1).f2), .int .i64 0, .int .i64 0]) ?_ 3 _ rfl; (with_reducible repeat (first | refine kN ?_ _ | refine kD ?_ | refine kA ?_ _)); refine blk_put (cs := #[.int .i64 ((rd_T38 l0 x3_1).f0), .int .i64 ((rd_T38 l0 x3_1).f1), .int .i64 0, .int .i64 0, .int .i64 0]) ?_ 2 _ rfl; (with_reducible repeat (first | refine kN ?_ _ | refine kD ?_ | refine kA ?_ _)); refine blk_put (cs := #[.int .i64 ((rd_T38 l0 x3_1).f0), .int .i64 0, .int .i64 0, .int .i64 0, .int .i64 0]) ?_ 1 _ rfl; (with_reducible repeat (first | refine kN ?_ _ | refine kD ?_ | refine kA ?_ _)); refine blk_put (cs := #[.int .i64 0, .int .i64 0, .int .i64 0, .int .i64 0, .int .i64 0]) ?_ 0 _ rfl; exact qK BK263.out⟩
     have n1_ : Aside0 (Below w.heap.size w (((((w5.setCell ⟨gb263, 0, none⟩ (.int .i64 ((rd_T38 l0 x3_1).f0))).setCell ⟨gb263, 1, none⟩ (.int .i64 ((rd_T38 l0 x3_1).f1))).setCell ⟨gb263, 2, none⟩ (.int .i64 ((rd_T38 l0 x3_1).f2))).setCell ⟨gb263, 3, none⟩ (.int .i64 ((rd_T38 l0 x3_1).f3))).setCell ⟨gb263, 4, none⟩ (.int .i64 ((rd_T38 l0 x3_1).f4)))) := ⟨by repeat (first | (with_reducible first | exact HB.out | apply bA | apply bN | apply below_drew1 | refine bS ?_ GE263.out) | exact HB.out)⟩
     (try clear BK263)
     (try clear HB)
     generalize (((((w5.setCell ⟨gb263, 0, none⟩ (.int .i64 ((rd_T38 l0 x3_1).f0))).setCell ⟨gb263, 1, none⟩ (.int .i64 ((rd_T38 l0 x3_1).f1))).setCell ⟨gb263, 2, none⟩ (.int .i64 ((rd_T38 l0 x3_1).f2))).setCell ⟨gb263, 3, none⟩ (.int .i64 ((rd_T38 l0 x3_1).f3))).setCell ⟨gb263, 4, none⟩ (.int .i64 ((rd_T38 l0 x3_1).f4))) = w29 at n0_ n1_ ⊢
     have BK263 := n0_
     have HB := n1_
     clear n0_ n1_
     have n0_ := zK (kD BK263.out)
     have n1_ := zK (below_drew1 HB.out)
     clear BK263
     clear HB
     have BK263 := n0_
     have HB := n1_
     clear n0_ n1_
     refine start_ (n := 43) (S := fun w' => w'.cell? ⟨gb263, 0, none⟩ = some (.int .i64 ((rd_T38 l0 x3_1).f0)) ∧ w'.cell? ⟨gb263, 1, none⟩ = some (.int .i64 ((rd_T38 l0 x3_1).f1)) ∧ w'.cell? ⟨gb263, 2, none⟩ = some (.int .i64 ((rd_T38 l0 x3_1).f2)) ∧ w'.cell? ⟨gb263, 3, none⟩ = some (.int .i64 ((rd_T38 l0 x3_1).f3)) ∧ w'.cell? ⟨gb263, 4, none⟩ = some (.int .i64 ((rd_T38 l0 x3_1).f4))) (ds := []) b3A0 (by kernel_rfl) rfl rfl ⟨(bc BK263.out 0).trans rfl, (bc BK263.out 1).trans rfl, (bc BK263.out 2).trans rfl, (bc BK263.out 3).trans rfl, (bc BK263.out 4).trans rfl⟩ (fun hHeld => ?_); refine with_tabW spec_AreClaims.tab5 spec_AreClaims.bits5 (fun HT_ HW_ => ?_)
     generalize w29.drew = w30 at BK263 HB hHeld ⊢
     refine pI 0 (some 16) b3A1 HT_ ?_
     refine tI 1 (some 17) b3A2 HT_ HW_ hHeld rfl rfl (Or.inl ⟨by rfl, by rintro w' ⟨s0, s1, s2, s3, s4⟩; go_simp; with_reducible rfl⟩) ?_
     refine one_ (i := 2) (N := some 18) b3A3 rfl rfl (one_of HT_.out (by kernel_rfl)) (by decide) (fun K hK => ?_)
     refine goes_ Try.func16 (by kernel_rfl) rfl #[.int .i64 ((rd_T38 l0 x3_1).f0), .int .i64 1, .int .i64 999] (by rfl) rfl rfl m0 ?_
     with_reducible refine (spec_l1In.calls ((rd_T38 l0 x3_1).f0) 1 999 true _ A7.out).mono ?_
     rintro e w' ⟨rfl, ⟨nd, rfl⟩⟩
     refine ⟨_, rfl, ?_⟩
     refine hK.out _ _ ⟨(bc BK263.out 0).trans rfl, (bc BK263.out 1).trans rfl, (bc BK263.out 2).trans rfl, (bc BK263.out 3).trans rfl, (bc BK263.out 4).trans rfl⟩ (fun hHeld => ?_)
     clear hK K
     refine norm_ (a' := ?_) ?_ ?_
     rotate_left
     ·show Act.put _ (some 18) _ = _
      simp only [Act.put, sA, sZ, sS, i64_w, i32_w]
      rfl
     refine pI 3 (some 19) b3A4 HT_ ?_
     refine pI 4 (some 20) b3A5 HT_ ?_
     refine pI 5 (some 21) b3A6 HT_ ?_
     refine tI 6 (some 22) b3A7 HT_ HW_ hHeld rfl rfl (Or.inl ⟨by rfl, by rintro w' ⟨s0, s1, s2, s3, s4⟩; go_simp; with_reducible rfl⟩) ?_
     refine one_ (i := 7) (N := some 23) b3A8 rfl rfl (one_of HT_.out (by kernel_rfl)) (by decide) (fun K hK => ?_)
     refine goes_ Try.func16 (by kernel_rfl) rfl #[.int .i64 ((rd_T38 l0 x3_1).f1), .int .i64 1, .int .i64 999] (by rfl) rfl rfl m0 ?_
     with_reducible refine (spec_l1In.calls ((rd_T38 l0 x3_1).f1) 1 999 true _ A9.out).mono ?_
     rintro e w' ⟨rfl, ⟨nd, rfl⟩⟩
     refine ⟨_, rfl, ?_⟩
     refine hK.out _ _ ⟨(bc BK263.out 0).trans rfl, (bc BK263.out 1).trans rfl, (bc BK263.out 2).trans rfl, (bc BK263.out 3).trans rfl, (bc BK263.out 4).trans rfl⟩ (fun hHeld => ?_)
     clear hK K
     refine norm_ (a' := ?_) ?_ ?_
     rotate_left
     ·show Act.put _ (some 23) _ = _
      simp only [Act.put, sA, sZ, sS, i64_w, i32_w]
      rfl
     refine pI 8 (some 24) b3A9 HT_ ?_
     refine pI 9 (some 25) b3A10 HT_ ?_
     refine pI 10 (some 26) b3A11 HT_ ?_
     refine pI 11 (some 27) b3A12 HT_ ?_
     refine tI 12 (some 28) b3A13 HT_ HW_ hHeld rfl rfl (Or.inl ⟨by rfl, by rintro w' ⟨s0, s1, s2, s3, s4⟩; go_simp; with_reducible rfl⟩) ?_
     refine one_ (i := 13) (N := some 29) b3A14 rfl rfl (one_of HT_.out (by kernel_rfl)) (by decide) (fun K hK => ?_)
     refine goes_ Try.func16 (by kernel_rfl) rfl #[.int .i64 ((rd_T38 l0 x3_1).f2), .int .i64 1, .int .i64 999] (by rfl) rfl rfl m0 ?_
     with_reducible refine (spec_l1In.calls ((rd_T38 l0 x3_1).f2) 1 999 false _ A11.out).mono ?_
     rintro e w' ⟨rfl, ⟨nd, rfl⟩⟩
     refine ⟨_, rfl, ?_⟩
     refine hK.out _ _ ⟨(bc BK263.out 0).trans rfl, (bc BK263.out 1).trans rfl, (bc BK263.out 2).trans rfl, (bc BK263.out 3).trans rfl, (bc BK263.out 4).trans rfl⟩ (fun hHeld => ?_)
     clear hK K
     refine norm_ (a' := ?_) ?_ ?_
     rotate_left
     ·show Act.put _ (some 29) _ = _
      simp only [Act.put, sA, sZ, sS, i64_w, i32_w]
      rfl
     refine pI 14 (some 30) b3A15 HT_ ?_
     refine pI 15 (some 31) b3A16 HT_ ?_
     refine pI 16 (some 32) b3A17 HT_ ?_
     refine pU 17 (some 33) b3A18 HT_ ?_
     refine pU 18 (some 34) b3A19 HT_ ?_
     refine pU 19 (some 35) b3A20 HT_ ?_
     refine pU 20 (some 36) b3A21 HT_ ?_
     refine pI 21 (some 37) b3A22 HT_ ?_
     refine pI 22 (some 38) b3A23 HT_ ?_
     refine pU 23 (some 39) b3A24 HT_ ?_
     refine pU 24 (some 40) b3A25 HT_ ?_
     refine pU 25 (some 41) b3A26 HT_ ?_
     refine pU 26 (some 42) b3A27 HT_ ?_
     refine pI 27 (some 43) b3A28 HT_ ?_
     refine pI 28 (some 44) b3A29 HT_ ?_
     refine pU 29 (some 45) b3A30 HT_ ?_
     refine pU 30 (some 46) b3A31 HT_ ?_
     refine pU 31 (some 47) b3A32 HT_ ?_
     refine pU 32 (some 48) b3A33 HT_ ?_
     refine pU 33 (some 49) b3A34 HT_ ?_
     refine pU 34 (some 50) b3A35 HT_ ?_
     refine pU 35 (some 51) b3A36 HT_ ?_
     refine pU 36 (some 52) b3A37 HT_ ?_
     refine pU 37 (some 53) b3A44 HT_ ?_
     refine pU 38 (some 54) b3A39 HT_ ?_
     refine pU 39 (some 55) b3A40 HT_ ?_
     refine pU 40 (some 56) b3A41 HT_ ?_
     refine pU 41 (some 57) b3A42 HT_ ?_
     refine pI 42 (some 58) b3A43 HT_ ?_
     refine done_ (done_of HT_.out (by kernel_rfl)) ?_
     try go_wp2
     go_meet
     case rel => exact ⟨_, (true), m9, H', ⟨by have := HK1.out; first | omega | exact Nat.le_refl _⟩, ⟨by exact qK BK263.out⟩, ⟨by repeat (first | (with_reducible first | exact HB.out | apply bA | apply bN | apply below_drew1 | refine bS ?_ GE263.out) | exact HB.out)⟩⟩
    subst c12
    have H1 : ((spec_l1In.f ((rd_T38 l0 x3_1).f3) 0 100000).bind fun t267 => (if t267 = true then ((spec_l1In.f ((rd_T38 l0 x3_1).f4) 0 3).bind fun t268 => (if t268 = true then (if x3_1 > 0 then (if 0 ≤ (wrap64 (x3_1 - 1)) then (if (wrap64 (x3_1 - 1)) < (l0.length : Int) then (spec_AreClaims.j1 k1 l0 x3_1 (decide (((rd_T38 l0 (wrap64 (x3_1 - 1))).f0) ≥ ((rd_T38 l0 x3_1).f0))) ((rd_T38 l0 x3_1).f0) ((rd_T38 l0 x3_1).f1) ((rd_T38 l0 x3_1).f2) ((rd_T38 l0 x3_1).f3) ((rd_T38 l0 x3_1).f4)) else (none)) else (none)) else (spec_AreClaims.j1 k1 l0 x3_1 false ((rd_T38 l0 x3_1).f0) ((rd_T38 l0 x3_1).f1) ((rd_T38 l0 x3_1).f2) ((rd_T38 l0 x3_1).f3) ((rd_T38 l0 x3_1).f4))) else (spec_AreClaims.j1 k1 l0 x3_1 true ((rd_T38 l0 x3_1).f0) ((rd_T38 l0 x3_1).f1) ((rd_T38 l0 x3_1).f2) ((rd_T38 l0 x3_1).f3) ((rd_T38 l0 x3_1).f4)))) else (spec_AreClaims.j1 k1 l0 x3_1 true ((rd_T38 l0 x3_1).f0) ((rd_T38 l0 x3_1).f1) ((rd_T38 l0 x3_1).f2) ((rd_T38 l0 x3_1).f3) ((rd_T38 l0 x3_1).f4)))) = some r := by rw [if_pos rfl] at H; exact H
    clear H
    have H := H1
    clear H1
    replace H := Option.bind_eq_some_iff.mp H
    obtain ⟨t267, A130, H⟩ := H
    replace H : (if t267 = true then ((spec_l1In.f ((rd_T38 l0 x3_1).f4) 0 3).bind fun t268 => (if t268 = true then (if x3_1 > 0 then (if 0 ≤ (wrap64 (x3_1 - 1)) then (if (wrap64 (x3_1 - 1)) < (l0.length : Int) then (spec_AreClaims.j1 k1 l0 x3_1 (decide (((rd_T38 l0 (wrap64 (x3_1 - 1))).f0) ≥ ((rd_T38 l0 x3_1).f0))) ((rd_T38 l0 x3_1).f0) ((rd_T38 l0 x3_1).f1) ((rd_T38 l0 x3_1).f2) ((rd_T38 l0 x3_1).f3) ((rd_T38 l0 x3_1).f4)) else (none)) else (none)) else (spec_AreClaims.j1 k1 l0 x3_1 false ((rd_T38 l0 x3_1).f0) ((rd_T38 l0 x3_1).f1) ((rd_T38 l0 x3_1).f2) ((rd_T38 l0 x3_1).f3) ((rd_T38 l0 x3_1).f4))) else (spec_AreClaims.j1 k1 l0 x3_1 true ((rd_T38 l0 x3_1).f0) ((rd_T38 l0 x3_1).f1) ((rd_T38 l0 x3_1).f2) ((rd_T38 l0 x3_1).f3) ((rd_T38 l0 x3_1).f4)))) else (spec_AreClaims.j1 k1 l0 x3_1 true ((rd_T38 l0 x3_1).f0) ((rd_T38 l0 x3_1).f1) ((rd_T38 l0 x3_1).f2) ((rd_T38 l0 x3_1).f3) ((rd_T38 l0 x3_1).f4))) = some r := H
    have A13 := zK A130
    clear A130
    by_cases c14 : t267 = true
    rotate_left
    ·replace c14 := Bool.eq_false_iff.mpr c14
     subst c14
     have H1 : (spec_AreClaims.j1 k1 l0 x3_1 true ((rd_T38 l0 x3_1).f0) ((rd_T38 l0 x3_1).f1) ((rd_T38 l0 x3_1).f2) ((rd_T38 l0 x3_1).f3) ((rd_T38 l0 x3_1).f4)) = some r := by rw [if_neg (show ¬ (false = true) by decide)] at H; exact H
     clear H
     have H := H1
     clear H1
     have H' := zK H
     clear H
     try go_wp2
     have n0_ : Aside0 ((((((w5.setCell ⟨gb263, 0, none⟩ (.int .i64 ((rd_T38 l0 x3_1).f0))).setCell ⟨gb263, 1, none⟩ (.int .i64 ((rd_T38 l0 x3_1).f1))).setCell ⟨gb263, 2, none⟩ (.int .i64 ((rd_T38 l0 x3_1).f2))).setCell ⟨gb263, 3, none⟩ (.int .i64 ((rd_T38 l0 x3_1).f3))).setCell ⟨gb263, 4, none⟩ (.int .i64 ((rd_T38 l0 x3_1).f4))).heap[gb263]? = some (.cells #[.int .i64 ((rd_T38 l0 x3_1).f0), .int .i64 ((rd_T38 l0 x3_1).f1), .int .i64 ((rd_T38 l0 x3_1).f2), .int .i64 ((rd_T38 l0 x3_1).f3), .int .i64 ((rd_T38 l0 x3_1).f4)] 38 (0, 0))) := ⟨by (with_reducible repeat (first | refine kN ?_ _ | refine kD ?_ | refine kA ?_ _)); refine blk_put (cs := #[.int .i64 ((rd_T38 l0 x3_1).f0), .int .i64 ((rd_T38 l0 x3_1).f1), .int .i64 ((rd_T38 l0 x3_1).f2), .int .i64 ((rd_T38 l0 x3_1).f3), .int .i64 0]) ?_ 4 _ rfl; (with_reducible repeat (first | refine kN ?_ _ | refine kD ?_ | refine kA ?_ _)); refine blk_put (cs := #[.int .i64 ((rd_T38 l0 x3_1).f0), .int .i64 ((rd_T38 l0 x3_1).f1), .int .i64 ((rd_T38 l0 x3_1).f2), .int .i64 0, .int .i64 0]) ?_ 3 _ rfl; (with_reducible repeat (first | refine kN ?_ _ | refine kD ?_ | refine kA ?_ _)); refine blk_put (cs := #[.int .i64 ((rd_T38 l0 x3_1).f0), .int .i64 ((rd_T38 l0 x3_1).f1), .int .i64 0, .int .i64 0, .int .i64 0]) ?_ 2 _ rfl; (with_reducible repeat (first | refine kN ?_ _ | refine kD ?_ | refine kA ?_ _)); refine blk_put (cs := #[.int .i64 ((rd_T38 l0 x3_1).f0), .int .i64 0, .int .i64 0, .int .i64 0, .int .i64 0]) ?_ 1 _ rfl; (with_reducible repeat (first | refine kN ?_ _ | refine kD ?_ | refine kA ?_ _)); refine blk_put (cs := #[.int .i64 0, .int .i64 0, .int .i64 0, .int .i64 0, .int .i64 0]) ?_ 0 _ rfl; exact qK BK263.out⟩
     have n1_ : Aside0 (Below w.heap.size w (((((w5.setCell ⟨gb263, 0, none⟩ (.int .i64 ((rd_T38 l0 x3_1).f0))).setCell ⟨gb263, 1, none⟩ (.int .i64 ((rd_T38 l0 x3_1).f1))).setCell ⟨gb263, 2, none⟩ (.int .i64 ((rd_T38 l0 x3_1).f2))).setCell ⟨gb263, 3, none⟩ (.int .i64 ((rd_T38 l0 x3_1).f3))).setCell ⟨gb263, 4, none⟩ (.int .i64 ((rd_T38 l0 x3_1).f4)))) := ⟨by repeat (first | (with_reducible first | exact HB.out | apply bA | apply bN | apply below_drew1 | refine bS ?_ GE263.out) | exact HB.out)⟩
     (try clear BK263)
     (try clear HB)
     generalize (((((w5.setCell ⟨gb263, 0, none⟩ (.int .i64 ((rd_T38 l0 x3_1).f0))).setCell ⟨gb263, 1, none⟩ (.int .i64 ((rd_T38 l0 x3_1).f1))).setCell ⟨gb263, 2, none⟩ (.int .i64 ((rd_T38 l0 x3_1).f2))).setCell ⟨gb263, 3, none⟩ (.int .i64 ((rd_T38 l0 x3_1).f3))).setCell ⟨gb263, 4, none⟩ (.int .i64 ((rd_T38 l0 x3_1).f4))) = w27 at n0_ n1_ ⊢
     have BK263 := n0_
     have HB := n1_
     clear n0_ n1_
     have n0_ := zK (kD BK263.out)
     have n1_ := zK (below_drew1 HB.out)
     clear BK263
     clear HB
     have BK263 := n0_
     have HB := n1_
     clear n0_ n1_
     refine start_ (n := 43) (S := fun w' => w'.cell? ⟨gb263, 0, none⟩ = some (.int .i64 ((rd_T38 l0 x3_1).f0)) ∧ w'.cell? ⟨gb263, 1, none⟩ = some (.int .i64 ((rd_T38 l0 x3_1).f1)) ∧ w'.cell? ⟨gb263, 2, none⟩ = some (.int .i64 ((rd_T38 l0 x3_1).f2)) ∧ w'.cell? ⟨gb263, 3, none⟩ = some (.int .i64 ((rd_T38 l0 x3_1).f3)) ∧ w'.cell? ⟨gb263, 4, none⟩ = some (.int .i64 ((rd_T38 l0 x3_1).f4))) (ds := []) b3A0 (by kernel_rfl) rfl rfl ⟨(bc BK263.out 0).trans rfl, (bc BK263.out 1).trans rfl, (bc BK263.out 2).trans rfl, (bc BK263.out 3).trans rfl, (bc BK263.out 4).trans rfl⟩ (fun hHeld => ?_); refine with_tabW spec_AreClaims.tab5 spec_AreClaims.bits5 (fun HT_ HW_ => ?_)
     generalize w27.drew = w28 at BK263 HB hHeld ⊢
     refine pI 0 (some 16) b3A1 HT_ ?_
     refine tI 1 (some 17) b3A2 HT_ HW_ hHeld rfl rfl (Or.inl ⟨by rfl, by rintro w' ⟨s0, s1, s2, s3, s4⟩; go_simp; with_reducible rfl⟩) ?_
     refine one_ (i := 2) (N := some 18) b3A3 rfl rfl (one_of HT_.out (by kernel_rfl)) (by decide) (fun K hK => ?_)
     refine goes_ Try.func16 (by kernel_rfl) rfl #[.int .i64 ((rd_T38 l0 x3_1).f0), .int .i64 1, .int .i64 999] (by rfl) rfl rfl m0 ?_
     with_reducible refine (spec_l1In.calls ((rd_T38 l0 x3_1).f0) 1 999 true _ A7.out).mono ?_
     rintro e w' ⟨rfl, ⟨nd, rfl⟩⟩
     refine ⟨_, rfl, ?_⟩
     refine hK.out _ _ ⟨(bc BK263.out 0).trans rfl, (bc BK263.out 1).trans rfl, (bc BK263.out 2).trans rfl, (bc BK263.out 3).trans rfl, (bc BK263.out 4).trans rfl⟩ (fun hHeld => ?_)
     clear hK K
     refine norm_ (a' := ?_) ?_ ?_
     rotate_left
     ·show Act.put _ (some 18) _ = _
      simp only [Act.put, sA, sZ, sS, i64_w, i32_w]
      rfl
     refine pI 3 (some 19) b3A4 HT_ ?_
     refine pI 4 (some 20) b3A5 HT_ ?_
     refine pI 5 (some 21) b3A6 HT_ ?_
     refine tI 6 (some 22) b3A7 HT_ HW_ hHeld rfl rfl (Or.inl ⟨by rfl, by rintro w' ⟨s0, s1, s2, s3, s4⟩; go_simp; with_reducible rfl⟩) ?_
     refine one_ (i := 7) (N := some 23) b3A8 rfl rfl (one_of HT_.out (by kernel_rfl)) (by decide) (fun K hK => ?_)
     refine goes_ Try.func16 (by kernel_rfl) rfl #[.int .i64 ((rd_T38 l0 x3_1).f1), .int .i64 1, .int .i64 999] (by rfl) rfl rfl m0 ?_
     with_reducible refine (spec_l1In.calls ((rd_T38 l0 x3_1).f1) 1 999 true _ A9.out).mono ?_
     rintro e w' ⟨rfl, ⟨nd, rfl⟩⟩
     refine ⟨_, rfl, ?_⟩
     refine hK.out _ _ ⟨(bc BK263.out 0).trans rfl, (bc BK263.out 1).trans rfl, (bc BK263.out 2).trans rfl, (bc BK263.out 3).trans rfl, (bc BK263.out 4).trans rfl⟩ (fun hHeld => ?_)
     clear hK K
     refine norm_ (a' := ?_) ?_ ?_
     rotate_left
     ·show Act.put _ (some 23) _ = _
      simp only [Act.put, sA, sZ, sS, i64_w, i32_w]
      rfl
     refine pI 8 (some 24) b3A9 HT_ ?_
     refine pI 9 (some 25) b3A10 HT_ ?_
     refine pI 10 (some 26) b3A11 HT_ ?_
     refine pI 11 (some 27) b3A12 HT_ ?_
     refine tI 12 (some 28) b3A13 HT_ HW_ hHeld rfl rfl (Or.inl ⟨by rfl, by rintro w' ⟨s0, s1, s2, s3, s4⟩; go_simp; with_reducible rfl⟩) ?_
     refine one_ (i := 13) (N := some 29) b3A14 rfl rfl (one_of HT_.out (by kernel_rfl)) (by decide) (fun K hK => ?_)
     refine goes_ Try.func16 (by kernel_rfl) rfl #[.int .i64 ((rd_T38 l0 x3_1).f2), .int .i64 1, .int .i64 999] (by rfl) rfl rfl m0 ?_
     with_reducible refine (spec_l1In.calls ((rd_T38 l0 x3_1).f2) 1 999 true _ A11.out).mono ?_
     rintro e w' ⟨rfl, ⟨nd, rfl⟩⟩
     refine ⟨_, rfl, ?_⟩
     refine hK.out _ _ ⟨(bc BK263.out 0).trans rfl, (bc BK263.out 1).trans rfl, (bc BK263.out 2).trans rfl, (bc BK263.out 3).trans rfl, (bc BK263.out 4).trans rfl⟩ (fun hHeld => ?_)
     clear hK K
     refine norm_ (a' := ?_) ?_ ?_
     rotate_left
     ·show Act.put _ (some 29) _ = _
      simp only [Act.put, sA, sZ, sS, i64_w, i32_w]
      rfl
     refine pI 14 (some 30) b3A15 HT_ ?_
     refine pI 15 (some 31) b3A16 HT_ ?_
     refine pI 16 (some 32) b3A17 HT_ ?_
     refine pI 17 (some 33) b3A18 HT_ ?_
     refine tI 18 (some 34) b3A19 HT_ HW_ hHeld rfl rfl (Or.inl ⟨by rfl, by rintro w' ⟨s0, s1, s2, s3, s4⟩; go_simp; with_reducible rfl⟩) ?_
     refine one_ (i := 19) (N := some 35) b3A20 rfl rfl (one_of HT_.out (by kernel_rfl)) (by decide) (fun K hK => ?_)
     refine goes_ Try.func16 (by kernel_rfl) rfl #[.int .i64 ((rd_T38 l0 x3_1).f3), .int .i64 0, .int .i64 100000] (by rfl) rfl rfl m0 ?_
     with_reducible refine (spec_l1In.calls ((rd_T38 l0 x3_1).f3) 0 100000 false _ A13.out).mono ?_
     rintro e w' ⟨rfl, ⟨nd, rfl⟩⟩
     refine ⟨_, rfl, ?_⟩
     refine hK.out _ _ ⟨(bc BK263.out 0).trans rfl, (bc BK263.out 1).trans rfl, (bc BK263.out 2).trans rfl, (bc BK263.out 3).trans rfl, (bc BK263.out 4).trans rfl⟩ (fun hHeld => ?_)
     clear hK K
     refine norm_ (a' := ?_) ?_ ?_
     rotate_left
     ·show Act.put _ (some 35) _ = _
      simp only [Act.put, sA, sZ, sS, i64_w, i32_w]
      rfl
     refine pI 20 (some 36) b3A21 HT_ ?_
     refine pI 21 (some 37) b3A22 HT_ ?_
     refine pI 22 (some 38) b3A23 HT_ ?_
     refine pU 23 (some 39) b3A24 HT_ ?_
     refine pU 24 (some 40) b3A25 HT_ ?_
     refine pU 25 (some 41) b3A26 HT_ ?_
     refine pU 26 (some 42) b3A27 HT_ ?_
     refine pI 27 (some 43) b3A28 HT_ ?_
     refine pI 28 (some 44) b3A29 HT_ ?_
     refine pU 29 (some 45) b3A30 HT_ ?_
     refine pU 30 (some 46) b3A31 HT_ ?_
     refine pU 31 (some 47) b3A32 HT_ ?_
     refine pU 32 (some 48) b3A33 HT_ ?_
     refine pU 33 (some 49) b3A34 HT_ ?_
     refine pU 34 (some 50) b3A35 HT_ ?_
     refine pU 35 (some 51) b3A36 HT_ ?_
     refine pU 36 (some 52) b3A37 HT_ ?_
     refine pU 37 (some 53) b3A44 HT_ ?_
     refine pU 38 (some 54) b3A39 HT_ ?_
     refine pU 39 (some 55) b3A40 HT_ ?_
     refine pU 40 (some 56) b3A41 HT_ ?_
     refine pU 41 (some 57) b3A42 HT_ ?_
     refine pI 42 (some 58) b3A43 HT_ ?_
     refine done_ (done_of HT_.out (by kernel_rfl)) ?_
     try go_wp2
     go_meet
     case rel => exact ⟨_, (true), m9, H', ⟨by have := HK1.out; first | omega | exact Nat.le_refl _⟩, ⟨by exact qK BK263.out⟩, ⟨by repeat (first | (with_reducible first | exact HB.out | apply bA | apply bN | apply below_drew1 | refine bS ?_ GE263.out) | exact HB.out)⟩⟩
    subst c14
    have H1 : ((spec_l1In.f ((rd_T38 l0 x3_1).f4) 0 3).bind fun t268 => (if t268 = true then (if x3_1 > 0 then (if 0 ≤ (wrap64 (x3_1 - 1)) then (if (wrap64 (x3_1 - 1)) < (l0.length : Int) then (spec_AreClaims.j1 k1 l0 x3_1 (decide (((rd_T38 l0 (wrap64 (x3_1 - 1))).f0) ≥ ((rd_T38 l0 x3_1).f0))) ((rd_T38 l0 x3_1).f0) ((rd_T38 l0 x3_1).f1) ((rd_T38 l0 x3_1).f2) ((rd_T38 l0 x3_1).f3) ((rd_T38 l0 x3_1).f4)) else (none)) else (none)) else (spec_AreClaims.j1 k1 l0 x3_1 false ((rd_T38 l0 x3_1).f0) ((rd_T38 l0 x3_1).f1) ((rd_T38 l0 x3_1).f2) ((rd_T38 l0 x3_1).f3) ((rd_T38 l0 x3_1).f4))) else (spec_AreClaims.j1 k1 l0 x3_1 true ((rd_T38 l0 x3_1).f0) ((rd_T38 l0 x3_1).f1) ((rd_T38 l0 x3_1).f2) ((rd_T38 l0 x3_1).f3) ((rd_T38 l0 x3_1).f4)))) = some r := by rw [if_pos rfl] at H; exact H
    clear H
    have H := H1
    clear H1
    replace H := Option.bind_eq_some_iff.mp H
    obtain ⟨t268, A150, H⟩ := H
    replace H : (if t268 = true then (if x3_1 > 0 then (if 0 ≤ (wrap64 (x3_1 - 1)) then (if (wrap64 (x3_1 - 1)) < (l0.length : Int) then (spec_AreClaims.j1 k1 l0 x3_1 (decide (((rd_T38 l0 (wrap64 (x3_1 - 1))).f0) ≥ ((rd_T38 l0 x3_1).f0))) ((rd_T38 l0 x3_1).f0) ((rd_T38 l0 x3_1).f1) ((rd_T38 l0 x3_1).f2) ((rd_T38 l0 x3_1).f3) ((rd_T38 l0 x3_1).f4)) else (none)) else (none)) else (spec_AreClaims.j1 k1 l0 x3_1 false ((rd_T38 l0 x3_1).f0) ((rd_T38 l0 x3_1).f1) ((rd_T38 l0 x3_1).f2) ((rd_T38 l0 x3_1).f3) ((rd_T38 l0 x3_1).f4))) else (spec_AreClaims.j1 k1 l0 x3_1 true ((rd_T38 l0 x3_1).f0) ((rd_T38 l0 x3_1).f1) ((rd_T38 l0 x3_1).f2) ((rd_T38 l0 x3_1).f3) ((rd_T38 l0 x3_1).f4))) = some r := H
    have A15 := zK A150
    clear A150
    by_cases c16 : t268 = true
    rotate_left
    ·replace c16 := Bool.eq_false_iff.mpr c16
     subst c16
     have H1 : (spec_AreClaims.j1 k1 l0 x3_1 true ((rd_T38 l0 x3_1).f0) ((rd_T38 l0 x3_1).f1) ((rd_T38 l0 x3_1).f2) ((rd_T38 l0 x3_1).f3) ((rd_T38 l0 x3_1).f4)) = some r := by rw [if_neg (show ¬ (false = true) by decide)] at H; exact H
     clear H
     have H := H1
     clear H1
     have H' := zK H
     clear H
     try go_wp2
     have n0_ : Aside0 ((((((w5.setCell ⟨gb263, 0, none⟩ (.int .i64 ((rd_T38 l0 x3_1).f0))).setCell ⟨gb263, 1, none⟩ (.int .i64 ((rd_T38 l0 x3_1).f1))).setCell ⟨gb263, 2, none⟩ (.int .i64 ((rd_T38 l0 x3_1).f2))).setCell ⟨gb263, 3, none⟩ (.int .i64 ((rd_T38 l0 x3_1).f3))).setCell ⟨gb263, 4, none⟩ (.int .i64 ((rd_T38 l0 x3_1).f4))).heap[gb263]? = some (.cells #[.int .i64 ((rd_T38 l0 x3_1).f0), .int .i64 ((rd_T38 l0 x3_1).f1), .int .i64 ((rd_T38 l0 x3_1).f2), .int .i64 ((rd_T38 l0 x3_1).f3), .int .i64 ((rd_T38 l0 x3_1).f4)] 38 (0, 0))) := ⟨by (with_reducible repeat (first | refine kN ?_ _ | refine kD ?_ | refine kA ?_ _)); refine blk_put (cs := #[.int .i64 ((rd_T38 l0 x3_1).f0), .int .i64 ((rd_T38 l0 x3_1).f1), .int .i64 ((rd_T38 l0 x3_1).f2), .int .i64 ((rd_T38 l0 x3_1).f3), .int .i64 0]) ?_ 4 _ rfl; (with_reducible repeat (first | refine kN ?_ _ | refine kD ?_ | refine kA ?_ _)); refine blk_put (cs := #[.int .i64 ((rd_T38 l0 x3_1).f0), .int .i64 ((rd_T38 l0 x3_1).f1), .int .i64 ((rd_T38 l0 x3_1).f2), .int .i64 0, .int .i64 0]) ?_ 3 _ rfl; (with_reducible repeat (first | refine kN ?_ _ | refine kD ?_ | refine kA ?_ _)); refine blk_put (cs := #[.int .i64 ((rd_T38 l0 x3_1).f0), .int .i64 ((rd_T38 l0 x3_1).f1), .int .i64 0, .int .i64 0, .int .i64 0]) ?_ 2 _ rfl; (with_reducible repeat (first | refine kN ?_ _ | refine kD ?_ | refine kA ?_ _)); refine blk_put (cs := #[.int .i64 ((rd_T38 l0 x3_1).f0), .int .i64 0, .int .i64 0, .int .i64 0, .int .i64 0]) ?_ 1 _ rfl; (with_reducible repeat (first | refine kN ?_ _ | refine kD ?_ | refine kA ?_ _)); refine blk_put (cs := #[.int .i64 0, .int .i64 0, .int .i64 0, .int .i64 0, .int .i64 0]) ?_ 0 _ rfl; exact qK BK263.out⟩
     have n1_ : Aside0 (Below w.heap.size w (((((w5.setCell ⟨gb263, 0, none⟩ (.int .i64 ((rd_T38 l0 x3_1).f0))).setCell ⟨gb263, 1, none⟩ (.int .i64 ((rd_T38 l0 x3_1).f1))).setCell ⟨gb263, 2, none⟩ (.int .i64 ((rd_T38 l0 x3_1).f2))).setCell ⟨gb263, 3, none⟩ (.int .i64 ((rd_T38 l0 x3_1).f3))).setCell ⟨gb263, 4, none⟩ (.int .i64 ((rd_T38 l0 x3_1).f4)))) := ⟨by repeat (first | (with_reducible first | exact HB.out | apply bA | apply bN | apply below_drew1 | refine bS ?_ GE263.out) | exact HB.out)⟩
     (try clear BK263)
     (try clear HB)
     generalize (((((w5.setCell ⟨gb263, 0, none⟩ (.int .i64 ((rd_T38 l0 x3_1).f0))).setCell ⟨gb263, 1, none⟩ (.int .i64 ((rd_T38 l0 x3_1).f1))).setCell ⟨gb263, 2, none⟩ (.int .i64 ((rd_T38 l0 x3_1).f2))).setCell ⟨gb263, 3, none⟩ (.int .i64 ((rd_T38 l0 x3_1).f3))).setCell ⟨gb263, 4, none⟩ (.int .i64 ((rd_T38 l0 x3_1).f4))) = w25 at n0_ n1_ ⊢
     have BK263 := n0_
     have HB := n1_
     clear n0_ n1_
     have n0_ := zK (kD BK263.out)
     have n1_ := zK (below_drew1 HB.out)
     clear BK263
     clear HB
     have BK263 := n0_
     have HB := n1_
     clear n0_ n1_
     refine start_ (n := 43) (S := fun w' => w'.cell? ⟨gb263, 0, none⟩ = some (.int .i64 ((rd_T38 l0 x3_1).f0)) ∧ w'.cell? ⟨gb263, 1, none⟩ = some (.int .i64 ((rd_T38 l0 x3_1).f1)) ∧ w'.cell? ⟨gb263, 2, none⟩ = some (.int .i64 ((rd_T38 l0 x3_1).f2)) ∧ w'.cell? ⟨gb263, 3, none⟩ = some (.int .i64 ((rd_T38 l0 x3_1).f3)) ∧ w'.cell? ⟨gb263, 4, none⟩ = some (.int .i64 ((rd_T38 l0 x3_1).f4))) (ds := []) b3A0 (by kernel_rfl) rfl rfl ⟨(bc BK263.out 0).trans rfl, (bc BK263.out 1).trans rfl, (bc BK263.out 2).trans rfl, (bc BK263.out 3).trans rfl, (bc BK263.out 4).trans rfl⟩ (fun hHeld => ?_); refine with_tabW spec_AreClaims.tab5 spec_AreClaims.bits5 (fun HT_ HW_ => ?_)
     generalize w25.drew = w26 at BK263 HB hHeld ⊢
     refine pI 0 (some 16) b3A1 HT_ ?_
     refine tI 1 (some 17) b3A2 HT_ HW_ hHeld rfl rfl (Or.inl ⟨by rfl, by rintro w' ⟨s0, s1, s2, s3, s4⟩; go_simp; with_reducible rfl⟩) ?_
     refine one_ (i := 2) (N := some 18) b3A3 rfl rfl (one_of HT_.out (by kernel_rfl)) (by decide) (fun K hK => ?_)
     refine goes_ Try.func16 (by kernel_rfl) rfl #[.int .i64 ((rd_T38 l0 x3_1).f0), .int .i64 1, .int .i64 999] (by rfl) rfl rfl m0 ?_
     with_reducible refine (spec_l1In.calls ((rd_T38 l0 x3_1).f0) 1 999 true _ A7.out).mono ?_
     rintro e w' ⟨rfl, ⟨nd, rfl⟩⟩
     refine ⟨_, rfl, ?_⟩
     refine hK.out _ _ ⟨(bc BK263.out 0).trans rfl, (bc BK263.out 1).trans rfl, (bc BK263.out 2).trans rfl, (bc BK263.out 3).trans rfl, (bc BK263.out 4).trans rfl⟩ (fun hHeld => ?_)
     clear hK K
     refine norm_ (a' := ?_) ?_ ?_
     rotate_left
     ·show Act.put _ (some 18) _ = _
      simp only [Act.put, sA, sZ, sS, i64_w, i32_w]
      rfl
     refine pI 3 (some 19) b3A4 HT_ ?_
     refine pI 4 (some 20) b3A5 HT_ ?_
     refine pI 5 (some 21) b3A6 HT_ ?_
     refine tI 6 (some 22) b3A7 HT_ HW_ hHeld rfl rfl (Or.inl ⟨by rfl, by rintro w' ⟨s0, s1, s2, s3, s4⟩; go_simp; with_reducible rfl⟩) ?_
     refine one_ (i := 7) (N := some 23) b3A8 rfl rfl (one_of HT_.out (by kernel_rfl)) (by decide) (fun K hK => ?_)
     refine goes_ Try.func16 (by kernel_rfl) rfl #[.int .i64 ((rd_T38 l0 x3_1).f1), .int .i64 1, .int .i64 999] (by rfl) rfl rfl m0 ?_
     with_reducible refine (spec_l1In.calls ((rd_T38 l0 x3_1).f1) 1 999 true _ A9.out).mono ?_
     rintro e w' ⟨rfl, ⟨nd, rfl⟩⟩
     refine ⟨_, rfl, ?_⟩
     refine hK.out _ _ ⟨(bc BK263.out 0).trans rfl, (bc BK263.out 1).trans rfl, (bc BK263.out 2).trans rfl, (bc BK263.out 3).trans rfl, (bc BK263.out 4).trans rfl⟩ (fun hHeld => ?_)
     clear hK K
     refine norm_ (a' := ?_) ?_ ?_
     rotate_left
     ·show Act.put _ (some 23) _ = _
      simp only [Act.put, sA, sZ, sS, i64_w, i32_w]
      rfl
     refine pI 8 (some 24) b3A9 HT_ ?_
     refine pI 9 (some 25) b3A10 HT_ ?_
     refine pI 10 (some 26) b3A11 HT_ ?_
     refine pI 11 (some 27) b3A12 HT_ ?_
     refine tI 12 (some 28) b3A13 HT_ HW_ hHeld rfl rfl (Or.inl ⟨by rfl, by rintro w' ⟨s0, s1, s2, s3, s4⟩; go_simp; with_reducible rfl⟩) ?_
     refine one_ (i := 13) (N := some 29) b3A14 rfl rfl (one_of HT_.out (by kernel_rfl)) (by decide) (fun K hK => ?_)
     refine goes_ Try.func16 (by kernel_rfl) rfl #[.int .i64 ((rd_T38 l0 x3_1).f2), .int .i64 1, .int .i64 999] (by rfl) rfl rfl m0 ?_
     with_reducible refine (spec_l1In.calls ((rd_T38 l0 x3_1).f2) 1 999 true _ A11.out).mono ?_
     rintro e w' ⟨rfl, ⟨nd, rfl⟩⟩
     refine ⟨_, rfl, ?_⟩
     refine hK.out _ _ ⟨(bc BK263.out 0).trans rfl, (bc BK263.out 1).trans rfl, (bc BK263.out 2).trans rfl, (bc BK263.out 3).trans rfl, (bc BK263.out 4).trans rfl⟩ (fun hHeld => ?_)
     clear hK K
     refine norm_ (a' := ?_) ?_ ?_
     rotate_left
     ·show Act.put _ (some 29) _ = _
      simp only [Act.put, sA, sZ, sS, i64_w, i32_w]
      rfl
     refine pI 14 (some 30) b3A15 HT_ ?_
     refine pI 15 (some 31) b3A16 HT_ ?_
     refine pI 16 (some 32) b3A17 HT_ ?_
     refine pI 17 (some 33) b3A18 HT_ ?_
     refine tI 18 (some 34) b3A19 HT_ HW_ hHeld rfl rfl (Or.inl ⟨by rfl, by rintro w' ⟨s0, s1, s2, s3, s4⟩; go_simp; with_reducible rfl⟩) ?_
     refine one_ (i := 19) (N := some 35) b3A20 rfl rfl (one_of HT_.out (by kernel_rfl)) (by decide) (fun K hK => ?_)
     refine goes_ Try.func16 (by kernel_rfl) rfl #[.int .i64 ((rd_T38 l0 x3_1).f3), .int .i64 0, .int .i64 100000] (by rfl) rfl rfl m0 ?_
     with_reducible refine (spec_l1In.calls ((rd_T38 l0 x3_1).f3) 0 100000 true _ A13.out).mono ?_
     rintro e w' ⟨rfl, ⟨nd, rfl⟩⟩
     refine ⟨_, rfl, ?_⟩
     refine hK.out _ _ ⟨(bc BK263.out 0).trans rfl, (bc BK263.out 1).trans rfl, (bc BK263.out 2).trans rfl, (bc BK263.out 3).trans rfl, (bc BK263.out 4).trans rfl⟩ (fun hHeld => ?_)
     clear hK K
     refine norm_ (a' := ?_) ?_ ?_
     rotate_left
     ·show Act.put _ (some 35) _ = _
      simp only [Act.put, sA, sZ, sS, i64_w, i32_w]
      rfl
     refine pI 20 (some 36) b3A21 HT_ ?_
     refine pI 21 (some 37) b3A22 HT_ ?_
     refine pI 22 (some 38) b3A23 HT_ ?_
     refine pI 23 (some 39) b3A24 HT_ ?_
     refine tI 24 (some 40) b3A25 HT_ HW_ hHeld rfl rfl (Or.inl ⟨by rfl, by rintro w' ⟨s0, s1, s2, s3, s4⟩; go_simp; with_reducible rfl⟩) ?_
     refine one_ (i := 25) (N := some 41) b3A26 rfl rfl (one_of HT_.out (by kernel_rfl)) (by decide) (fun K hK => ?_)
     refine goes_ Try.func16 (by kernel_rfl) rfl #[.int .i64 ((rd_T38 l0 x3_1).f4), .int .i64 0, .int .i64 3] (by rfl) rfl rfl m0 ?_
     with_reducible refine (spec_l1In.calls ((rd_T38 l0 x3_1).f4) 0 3 false _ A15.out).mono ?_
     rintro e w' ⟨rfl, ⟨nd, rfl⟩⟩
     refine ⟨_, rfl, ?_⟩
     refine hK.out _ _ ⟨(bc BK263.out 0).trans rfl, (bc BK263.out 1).trans rfl, (bc BK263.out 2).trans rfl, (bc BK263.out 3).trans rfl, (bc BK263.out 4).trans rfl⟩ (fun hHeld => ?_)
     clear hK K
     refine norm_ (a' := ?_) ?_ ?_
     rotate_left
     ·show Act.put _ (some 41) _ = _
      simp only [Act.put, sA, sZ, sS, i64_w, i32_w]
      rfl
     refine pI 26 (some 42) b3A27 HT_ ?_
     refine pI 27 (some 43) b3A28 HT_ ?_
     refine pI 28 (some 44) b3A29 HT_ ?_
     refine pU 29 (some 45) b3A30 HT_ ?_
     refine pU 30 (some 46) b3A31 HT_ ?_
     refine pU 31 (some 47) b3A32 HT_ ?_
     refine pU 32 (some 48) b3A33 HT_ ?_
     refine pU 33 (some 49) b3A34 HT_ ?_
     refine pU 34 (some 50) b3A35 HT_ ?_
     refine pU 35 (some 51) b3A36 HT_ ?_
     refine pU 36 (some 52) b3A37 HT_ ?_
     refine pU 37 (some 53) b3A44 HT_ ?_
     refine pU 38 (some 54) b3A39 HT_ ?_
     refine pU 39 (some 55) b3A40 HT_ ?_
     refine pU 40 (some 56) b3A41 HT_ ?_
     refine pU 41 (some 57) b3A42 HT_ ?_
     refine pI 42 (some 58) b3A43 HT_ ?_
     refine done_ (done_of HT_.out (by kernel_rfl)) ?_
     try go_wp2
     go_meet
     case rel => exact ⟨_, (true), m9, H', ⟨by have := HK1.out; first | omega | exact Nat.le_refl _⟩, ⟨by exact qK BK263.out⟩, ⟨by repeat (first | (with_reducible first | exact HB.out | apply bA | apply bN | apply below_drew1 | refine bS ?_ GE263.out) | exact HB.out)⟩⟩
    subst c16
    have H1 : (if x3_1 > 0 then (if 0 ≤ (wrap64 (x3_1 - 1)) then (if (wrap64 (x3_1 - 1)) < (l0.length : Int) then (spec_AreClaims.j1 k1 l0 x3_1 (decide (((rd_T38 l0 (wrap64 (x3_1 - 1))).f0) ≥ ((rd_T38 l0 x3_1).f0))) ((rd_T38 l0 x3_1).f0) ((rd_T38 l0 x3_1).f1) ((rd_T38 l0 x3_1).f2) ((rd_T38 l0 x3_1).f3) ((rd_T38 l0 x3_1).f4)) else (none)) else (none)) else (spec_AreClaims.j1 k1 l0 x3_1 false ((rd_T38 l0 x3_1).f0) ((rd_T38 l0 x3_1).f1) ((rd_T38 l0 x3_1).f2) ((rd_T38 l0 x3_1).f3) ((rd_T38 l0 x3_1).f4))) = some r := by rw [if_pos rfl] at H; exact H
    clear H
    have H := H1
    clear H1
    by_cases c17 : x3_1 > 0
    rotate_left
    ·rw [if_neg c17] at H
     have c17b0 : decide (0 < x3_1) = false := decide_eq_false c17
     clear c17
     (first | rw [c17b0] | rw [c17b1] | (simp only [i64_w, i32_w]; rw [c17b0]) | skip)
     have H' := zK H
     clear H
     try go_wp2
     have n0_ : Aside0 ((((((w5.setCell ⟨gb263, 0, none⟩ (.int .i64 ((rd_T38 l0 x3_1).f0))).setCell ⟨gb263, 1, none⟩ (.int .i64 ((rd_T38 l0 x3_1).f1))).setCell ⟨gb263, 2, none⟩ (.int .i64 ((rd_T38 l0 x3_1).f2))).setCell ⟨gb263, 3, none⟩ (.int .i64 ((rd_T38 l0 x3_1).f3))).setCell ⟨gb263, 4, none⟩ (.int .i64 ((rd_T38 l0 x3_1).f4))).heap[gb263]? = some (.cells #[.int .i64 ((rd_T38 l0 x3_1).f0), .int .i64 ((rd_T38 l0 x3_1).f1), .int .i64 ((rd_T38 l0 x3_1).f2), .int .i64 ((rd_T38 l0 x3_1).f3), .int .i64 ((rd_T38 l0 x3_1).f4)] 38 (0, 0))) := ⟨by (with_reducible repeat (first | refine kN ?_ _ | refine kD ?_ | refine kA ?_ _)); refine blk_put (cs := #[.int .i64 ((rd_T38 l0 x3_1).f0), .int .i64 ((rd_T38 l0 x3_1).f1), .int .i64 ((rd_T38 l0 x3_1).f2), .int .i64 ((rd_T38 l0 x3_1).f3), .int .i64 0]) ?_ 4 _ rfl; (with_reducible repeat (first | refine kN ?_ _ | refine kD ?_ | refine kA ?_ _)); refine blk_put (cs := #[.int .i64 ((rd_T38 l0 x3_1).f0), .int .i64 ((rd_T38 l0 x3_1).f1), .int .i64 ((rd_T38 l0 x3_1).f2), .int .i64 0, .int .i64 0]) ?_ 3 _ rfl; (with_reducible repeat (first | refine kN ?_ _ | refine kD ?_ | refine kA ?_ _)); refine blk_put (cs := #[.int .i64 ((rd_T38 l0 x3_1).f0), .int .i64 ((rd_T38 l0 x3_1).f1), .int .i64 0, .int .i64 0, .int .i64 0]) ?_ 2 _ rfl; (with_reducible repeat (first | refine kN ?_ _ | refine kD ?_ | refine kA ?_ _)); refine blk_put (cs := #[.int .i64 ((rd_T38 l0 x3_1).f0), .int .i64 0, .int .i64 0, .int .i64 0, .int .i64 0]) ?_ 1 _ rfl; (with_reducible repeat (first | refine kN ?_ _ | refine kD ?_ | refine kA ?_ _)); refine blk_put (cs := #[.int .i64 0, .int .i64 0, .int .i64 0, .int .i64 0, .int .i64 0]) ?_ 0 _ rfl; exact qK BK263.out⟩
     have n1_ : Aside0 (Below w.heap.size w (((((w5.setCell ⟨gb263, 0, none⟩ (.int .i64 ((rd_T38 l0 x3_1).f0))).setCell ⟨gb263, 1, none⟩ (.int .i64 ((rd_T38 l0 x3_1).f1))).setCell ⟨gb263, 2, none⟩ (.int .i64 ((rd_T38 l0 x3_1).f2))).setCell ⟨gb263, 3, none⟩ (.int .i64 ((rd_T38 l0 x3_1).f3))).setCell ⟨gb263, 4, none⟩ (.int .i64 ((rd_T38 l0 x3_1).f4)))) := ⟨by repeat (first | (with_reducible first | exact HB.out | apply bA | apply bN | apply below_drew1 | refine bS ?_ GE263.out) | exact HB.out)⟩
     (try clear BK263)
     (try clear HB)
     generalize (((((w5.setCell ⟨gb263, 0, none⟩ (.int .i64 ((rd_T38 l0 x3_1).f0))).setCell ⟨gb263, 1, none⟩ (.int .i64 ((rd_T38 l0 x3_1).f1))).setCell ⟨gb263, 2, none⟩ (.int .i64 ((rd_T38 l0 x3_1).f2))).setCell ⟨gb263, 3, none⟩ (.int .i64 ((rd_T38 l0 x3_1).f3))).setCell ⟨gb263, 4, none⟩ (.int .i64 ((rd_T38 l0 x3_1).f4))) = w23 at n0_ n1_ ⊢
     have BK263 := n0_
     have HB := n1_
     clear n0_ n1_
     have n0_ := zK (kD BK263.out)
     have n1_ := zK (below_drew1 HB.out)
     clear BK263
     clear HB
     have BK263 := n0_
     have HB := n1_
     clear n0_ n1_
     refine start_ (n := 43) (S := fun w' => w'.cell? ⟨gb263, 0, none⟩ = some (.int .i64 ((rd_T38 l0 x3_1).f0)) ∧ w'.cell? ⟨gb263, 1, none⟩ = some (.int .i64 ((rd_T38 l0 x3_1).f1)) ∧ w'.cell? ⟨gb263, 2, none⟩ = some (.int .i64 ((rd_T38 l0 x3_1).f2)) ∧ w'.cell? ⟨gb263, 3, none⟩ = some (.int .i64 ((rd_T38 l0 x3_1).f3)) ∧ w'.cell? ⟨gb263, 4, none⟩ = some (.int .i64 ((rd_T38 l0 x3_1).f4))) (ds := []) b3A0 (by kernel_rfl) rfl rfl ⟨(bc BK263.out 0).trans rfl, (bc BK263.out 1).trans rfl, (bc BK263.out 2).trans rfl, (bc BK263.out 3).trans rfl, (bc BK263.out 4).trans rfl⟩ (fun hHeld => ?_); refine with_tabW spec_AreClaims.tab5 spec_AreClaims.bits5 (fun HT_ HW_ => ?_)
     generalize w23.drew = w24 at BK263 HB hHeld ⊢
     refine pI 0 (some 16) b3A1 HT_ ?_
     refine tI 1 (some 17) b3A2 HT_ HW_ hHeld rfl rfl (Or.inl ⟨by rfl, by rintro w' ⟨s0, s1, s2, s3, s4⟩; go_simp; with_reducible rfl⟩) ?_
     refine one_ (i := 2) (N := some 18) b3A3 rfl rfl (one_of HT_.out (by kernel_rfl)) (by decide) (fun K hK => ?_)
     refine goes_ Try.func16 (by kernel_rfl) rfl #[.int .i64 ((rd_T38 l0 x3_1).f0), .int .i64 1, .int .i64 999] (by rfl) rfl rfl m0 ?_
     with_reducible refine (spec_l1In.calls ((rd_T38 l0 x3_1).f0) 1 999 true _ A7.out).mono ?_
     rintro e w' ⟨rfl, ⟨nd, rfl⟩⟩
     refine ⟨_, rfl, ?_⟩
     refine hK.out _ _ ⟨(bc BK263.out 0).trans rfl, (bc BK263.out 1).trans rfl, (bc BK263.out 2).trans rfl, (bc BK263.out 3).trans rfl, (bc BK263.out 4).trans rfl⟩ (fun hHeld => ?_)
     clear hK K
     refine norm_ (a' := ?_) ?_ ?_
     rotate_left
     ·show Act.put _ (some 18) _ = _
      simp only [Act.put, sA, sZ, sS, i64_w, i32_w]
      rfl
     refine pI 3 (some 19) b3A4 HT_ ?_
     refine pI 4 (some 20) b3A5 HT_ ?_
     refine pI 5 (some 21) b3A6 HT_ ?_
     refine tI 6 (some 22) b3A7 HT_ HW_ hHeld rfl rfl (Or.inl ⟨by rfl, by rintro w' ⟨s0, s1, s2, s3, s4⟩; go_simp; with_reducible rfl⟩) ?_
     refine one_ (i := 7) (N := some 23) b3A8 rfl rfl (one_of HT_.out (by kernel_rfl)) (by decide) (fun K hK => ?_)
     refine goes_ Try.func16 (by kernel_rfl) rfl #[.int .i64 ((rd_T38 l0 x3_1).f1), .int .i64 1, .int .i64 999] (by rfl) rfl rfl m0 ?_
     with_reducible refine (spec_l1In.calls ((rd_T38 l0 x3_1).f1) 1 999 true _ A9.out).mono ?_
     rintro e w' ⟨rfl, ⟨nd, rfl⟩⟩
     refine ⟨_, rfl, ?_⟩
     refine hK.out _ _ ⟨(bc BK263.out 0).trans rfl, (bc BK263.out 1).trans rfl, (bc BK263.out 2).trans rfl, (bc BK263.out 3).trans rfl, (bc BK263.out 4).trans rfl⟩ (fun hHeld => ?_)
     clear hK K
     refine norm_ (a' := ?_) ?_ ?_
     rotate_left
     ·show Act.put _ (some 23) _ = _
      simp only [Act.put, sA, sZ, sS, i64_w, i32_w]
      rfl
     refine pI 8 (some 24) b3A9 HT_ ?_
     refine pI 9 (some 25) b3A10 HT_ ?_
     refine pI 10 (some 26) b3A11 HT_ ?_
     refine pI 11 (some 27) b3A12 HT_ ?_
     refine tI 12 (some 28) b3A13 HT_ HW_ hHeld rfl rfl (Or.inl ⟨by rfl, by rintro w' ⟨s0, s1, s2, s3, s4⟩; go_simp; with_reducible rfl⟩) ?_
     refine one_ (i := 13) (N := some 29) b3A14 rfl rfl (one_of HT_.out (by kernel_rfl)) (by decide) (fun K hK => ?_)
     refine goes_ Try.func16 (by kernel_rfl) rfl #[.int .i64 ((rd_T38 l0 x3_1).f2), .int .i64 1, .int .i64 999] (by rfl) rfl rfl m0 ?_
     with_reducible refine (spec_l1In.calls ((rd_T38 l0 x3_1).f2) 1 999 true _ A11.out).mono ?_
     rintro e w' ⟨rfl, ⟨nd, rfl⟩⟩
     refine ⟨_, rfl, ?_⟩
     refine hK.out _ _ ⟨(bc BK263.out 0).trans rfl, (bc BK263.out 1).trans rfl, (bc BK263.out 2).trans rfl, (bc BK263.out 3).trans rfl, (bc BK263.out 4).trans rfl⟩ (fun hHeld => ?_)
     clear hK K
     refine norm_ (a' := ?_) ?_ ?_
     rotate_left
     ·show Act.put _ (some 29) _ = _
      simp only [Act.put, sA, sZ, sS, i64_w, i32_w]
      rfl
     refine pI 14 (some 30) b3A15 HT_ ?_
     refine pI 15 (some 31) b3A16 HT_ ?_
     refine pI 16 (some 32) b3A17 HT_ ?_
     refine pI 17 (some 33) b3A18 HT_ ?_
     refine tI 18 (some 34) b3A19 HT_ HW_ hHeld rfl rfl (Or.inl ⟨by rfl, by rintro w' ⟨s0, s1, s2, s3, s4⟩; go_simp; with_reducible rfl⟩) ?_
     refine one_ (i := 19) (N := some 35) b3A20 rfl rfl (one_of HT_.out (by kernel_rfl)) (by decide) (fun K hK => ?_)
     refine goes_ Try.func16 (by kernel_rfl) rfl #[.int .i64 ((rd_T38 l0 x3_1).f3), .int .i64 0, .int .i64 100000] (by rfl) rfl rfl m0 ?_
     with_reducible refine (spec_l1In.calls ((rd_T38 l0 x3_1).f3) 0 100000 true _ A13.out).mono ?_
     rintro e w' ⟨rfl, ⟨nd, rfl⟩⟩
     refine ⟨_, rfl, ?_⟩
     refine hK.out _ _ ⟨(bc BK263.out 0).trans rfl, (bc BK263.out 1).trans rfl, (bc BK263.out 2).trans rfl, (bc BK263.out 3).trans rfl, (bc BK263.out 4).trans rfl⟩ (fun hHeld => ?_)
     clear hK K
     refine norm_ (a' := ?_) ?_ ?_
     rotate_left
     ·show Act.put _ (some 35) _ = _
      simp only [Act.put, sA, sZ, sS, i64_w, i32_w]
      rfl
     refine pI 20 (some 36) b3A21 HT_ ?_
     refine pI 21 (some 37) b3A22 HT_ ?_
     refine pI 22 (some 38) b3A23 HT_ ?_
     refine pI 23 (some 39) b3A24 HT_ ?_
     refine tI 24 (some 40) b3A25 HT_ HW_ hHeld rfl rfl (Or.inl ⟨by rfl, by rintro w' ⟨s0, s1, s2, s3, s4⟩; go_simp; with_reducible rfl⟩) ?_
     refine one_ (i := 25) (N := some 41) b3A26 rfl rfl (one_of HT_.out (by kernel_rfl)) (by decide) (fun K hK => ?_)
     refine goes_ Try.func16 (by kernel_rfl) rfl #[.int .i64 ((rd_T38 l0 x3_1).f4), .int .i64 0, .int .i64 3] (by rfl) rfl rfl m0 ?_
     with_reducible refine (spec_l1In.calls ((rd_T38 l0 x3_1).f4) 0 3 true _ A15.out).mono ?_
     rintro e w' ⟨rfl, ⟨nd, rfl⟩⟩
     refine ⟨_, rfl, ?_⟩
     refine hK.out _ _ ⟨(bc BK263.out 0).trans rfl, (bc BK263.out 1).trans rfl, (bc BK263.out 2).trans rfl, (bc BK263.out 3).trans rfl, (bc BK263.out 4).trans rfl⟩ (fun hHeld => ?_)
     clear hK K
     refine norm_ (a' := ?_) ?_ ?_
     rotate_left
     ·show Act.put _ (some 41) _ = _
      simp only [Act.put, sA, sZ, sS, i64_w, i32_w]
      rfl
     refine pI 26 (some 42) b3A27 HT_ ?_
     refine pI 27 (some 43) b3A28 HT_ ?_
     refine pI 28 (some 44) b3A29 HT_ ?_
     refine pI 29 (some 45) b3A30 HT_ ?_
     refine pI 30 (some 46) b3A31 HT_ ?_
     refine pI 31 (some 47) b3A32 HT_ ?_
     refine pU 32 (some 48) b3A33 HT_ ?_
     refine pU 33 (some 49) b3A34 HT_ ?_
     refine pU 34 (some 50) b3A35 HT_ ?_
     refine pU 35 (some 51) b3A36 HT_ ?_
     refine pU 36 (some 52) b3A37 HT_ ?_
     refine pU 37 (some 53) b3A44 HT_ ?_
     refine pU 38 (some 54) b3A39 HT_ ?_
     refine pU 39 (some 55) b3A40 HT_ ?_
     refine pU 40 (some 56) b3A41 HT_ ?_
     refine pI 41 (some 57) b3A42 HT_ ?_
     refine pI 42 (some 58) b3A43 HT_ ?_
     refine done_ (done_of HT_.out (by kernel_rfl)) ?_
     try go_wp2
     go_meet
     case rel => exact ⟨_, (false), m9, H', ⟨by have := HK1.out; first | omega | exact Nat.le_refl _⟩, ⟨by exact qK BK263.out⟩, ⟨by repeat (first | (with_reducible first | exact HB.out | apply bA | apply bN | apply below_drew1 | refine bS ?_ GE263.out) | exact HB.out)⟩⟩
    rw [if_pos c17] at H
    have c17b0 : decide (0 < x3_1) = true := decide_eq_true c17
    clear c17
    (first | rw [c17b0] | rw [c17b1] | (simp only [i64_w, i32_w]; rw [c17b0]) | skip)
    obtain ⟨ji18, hji18⟩ : ∃ j_ : Int, (wrap64 (x3_1 - 1)) = j_ := ⟨_, rfl⟩
    replace H : (if 0 ≤ (ji18) then (if (ji18) < (l0.length : Int) then (spec_AreClaims.j1 k1 l0 x3_1 (decide (((rd_T38 l0 (ji18)).f0) ≥ ((rd_T38 l0 x3_1).f0))) ((rd_T38 l0 x3_1).f0) ((rd_T38 l0 x3_1).f1) ((rd_T38 l0 x3_1).f2) ((rd_T38 l0 x3_1).f3) ((rd_T38 l0 x3_1).f4)) else (none)) else (none)) = some r := by first | (rw [hji18] at H; exact H) | (simp only [hji18] at H ⊢; exact H)
    (try rw [hji18] at A7)
    (try rw [hji18] at A9)
    (try rw [hji18] at A11)
    (try rw [hji18] at A13)
    (try rw [hji18] at A15)
    have hji18w : (IntKind.i64.wrap (x3_1 - 1)) = ji18 := (i64_w _).trans hji18
    by_cases c19 : 0 ≤ (ji18)
    rotate_left
    ·rw [if_neg c19] at H
     exact absurd H (by simp)
    rw [if_pos c19] at H
    have c19b0 : decide (0 ≤ (ji18)) = true := decide_eq_true c19
    clear c19
    by_cases c20 : (ji18) < (l0.length : Int)
    rotate_left
    ·rw [if_neg c20] at H
     exact absurd H (by simp)
    rw [if_pos c20] at H
    have c20b0 : decide ((ji18) < (l0.length : Int)) = true := decide_eq_true c20
    clear c20
    have H' := zK H
    clear H
    try go_wp2
    have n0_ : Aside0 ((((((w5.setCell ⟨gb263, 0, none⟩ (.int .i64 ((rd_T38 l0 x3_1).f0))).setCell ⟨gb263, 1, none⟩ (.int .i64 ((rd_T38 l0 x3_1).f1))).setCell ⟨gb263, 2, none⟩ (.int .i64 ((rd_T38 l0 x3_1).f2))).setCell ⟨gb263, 3, none⟩ (.int .i64 ((rd_T38 l0 x3_1).f3))).setCell ⟨gb263, 4, none⟩ (.int .i64 ((rd_T38 l0 x3_1).f4))).heap[gb263]? = some (.cells #[.int .i64 ((rd_T38 l0 x3_1).f0), .int .i64 ((rd_T38 l0 x3_1).f1), .int .i64 ((rd_T38 l0 x3_1).f2), .int .i64 ((rd_T38 l0 x3_1).f3), .int .i64 ((rd_T38 l0 x3_1).f4)] 38 (0, 0))) := ⟨by (with_reducible repeat (first | refine kN ?_ _ | refine kD ?_ | refine kA ?_ _)); refine blk_put (cs := #[.int .i64 ((rd_T38 l0 x3_1).f0), .int .i64 ((rd_T38 l0 x3_1).f1), .int .i64 ((rd_T38 l0 x3_1).f2), .int .i64 ((rd_T38 l0 x3_1).f3), .int .i64 0]) ?_ 4 _ rfl; (with_reducible repeat (first | refine kN ?_ _ | refine kD ?_ | refine kA ?_ _)); refine blk_put (cs := #[.int .i64 ((rd_T38 l0 x3_1).f0), .int .i64 ((rd_T38 l0 x3_1).f1), .int .i64 ((rd_T38 l0 x3_1).f2), .int .i64 0, .int .i64 0]) ?_ 3 _ rfl; (with_reducible repeat (first | refine kN ?_ _ | refine kD ?_ | refine kA ?_ _)); refine blk_put (cs := #[.int .i64 ((rd_T38 l0 x3_1).f0), .int .i64 ((rd_T38 l0 x3_1).f1), .int .i64 0, .int .i64 0, .int .i64 0]) ?_ 2 _ rfl; (with_reducible repeat (first | refine kN ?_ _ | refine kD ?_ | refine kA ?_ _)); refine blk_put (cs := #[.int .i64 ((rd_T38 l0 x3_1).f0), .int .i64 0, .int .i64 0, .int .i64 0, .int .i64 0]) ?_ 1 _ rfl; (with_reducible repeat (first | refine kN ?_ _ | refine kD ?_ | refine kA ?_ _)); refine blk_put (cs := #[.int .i64 0, .int .i64 0, .int .i64 0, .int .i64 0, .int .i64 0]) ?_ 0 _ rfl; exact qK BK263.out⟩
    have n1_ : Aside0 (Below w.heap.size w (((((w5.setCell ⟨gb263, 0, none⟩ (.int .i64 ((rd_T38 l0 x3_1).f0))).setCell ⟨gb263, 1, none⟩ (.int .i64 ((rd_T38 l0 x3_1).f1))).setCell ⟨gb263, 2, none⟩ (.int .i64 ((rd_T38 l0 x3_1).f2))).setCell ⟨gb263, 3, none⟩ (.int .i64 ((rd_T38 l0 x3_1).f3))).setCell ⟨gb263, 4, none⟩ (.int .i64 ((rd_T38 l0 x3_1).f4)))) := ⟨by repeat (first | (with_reducible first | exact HB.out | apply bA | apply bN | apply below_drew1 | refine bS ?_ GE263.out) | exact HB.out)⟩
    (try clear BK263)
    (try clear HB)
    generalize (((((w5.setCell ⟨gb263, 0, none⟩ (.int .i64 ((rd_T38 l0 x3_1).f0))).setCell ⟨gb263, 1, none⟩ (.int .i64 ((rd_T38 l0 x3_1).f1))).setCell ⟨gb263, 2, none⟩ (.int .i64 ((rd_T38 l0 x3_1).f2))).setCell ⟨gb263, 3, none⟩ (.int .i64 ((rd_T38 l0 x3_1).f3))).setCell ⟨gb263, 4, none⟩ (.int .i64 ((rd_T38 l0 x3_1).f4))) = w21 at n0_ n1_ ⊢
    have BK263 := n0_
    have HB := n1_
    clear n0_ n1_
    have n0_ := zK (kD BK263.out)
    have n1_ := zK (below_drew1 HB.out)
    clear BK263
    clear HB
    have BK263 := n0_
    have HB := n1_
    clear n0_ n1_
    have p269 : 0 ≤ ((ji18) : Int) := oD m2
    have q269 : (ji18) < (l0.length : Int) := oD m2
    obtain ⟨ad269, e269, hx269_0, hx269_1, hx269_2, hx269_3, hx269_4⟩ := at_T38 HR0.out (ji18) p269 q269
    have hw269_4 := hx269_4
    have hw269_3 := hx269_3
    have hw269_2 := hx269_2
    have hw269_1 := hx269_1
    have hw269_0 := hx269_0
    obtain rfl : ad262 = ad269 := (by injection e269)
    replace hx269_0 := (HB.out.cell (bL w hx269_0)).trans hx269_0
    replace hx269_1 := (HB.out.cell (bL w hx269_1)).trans hx269_1
    replace hx269_2 := (HB.out.cell (bL w hx269_2)).trans hx269_2
    replace hx269_3 := (HB.out.cell (bL w hx269_3)).trans hx269_3
    replace hx269_4 := (HB.out.cell (bL w hx269_4)).trans hx269_4
    replace p269 := eq_true p269
    replace q269 := eq_true q269
    refine start_ (n := 43) (S := fun w' => w'.cell? ⟨gb263, 0, none⟩ = some (.int .i64 ((rd_T38 l0 x3_1).f0)) ∧ w'.cell? ⟨gb263, 1, none⟩ = some (.int .i64 ((rd_T38 l0 x3_1).f1)) ∧ w'.cell? ⟨gb263, 2, none⟩ = some (.int .i64 ((rd_T38 l0 x3_1).f2)) ∧ w'.cell? ⟨gb263, 3, none⟩ = some (.int .i64 ((rd_T38 l0 x3_1).f3)) ∧ w'.cell? ⟨gb263, 4, none⟩ = some (.int .i64 ((rd_T38 l0 x3_1).f4)) ∧ w'.cell? (ad262.add (((ji18)).toNat * 5)) = some (.int .i64 ((rd_T38 l0 (ji18)).f0)) ∧ w'.cell? ⟨(ad262.add (((ji18)).toNat * 5)).block, (ad262.add (((ji18)).toNat * 5)).off + 1, none⟩ = some (.int .i64 ((rd_T38 l0 (ji18)).f1)) ∧ w'.cell? ⟨(ad262.add (((ji18)).toNat * 5)).block, (ad262.add (((ji18)).toNat * 5)).off + 2, none⟩ = some (.int .i64 ((rd_T38 l0 (ji18)).f2)) ∧ w'.cell? ⟨(ad262.add (((ji18)).toNat * 5)).block, (ad262.add (((ji18)).toNat * 5)).off + 3, none⟩ = some (.int .i64 ((rd_T38 l0 (ji18)).f3)) ∧ w'.cell? ⟨(ad262.add (((ji18)).toNat * 5)).block, (ad262.add (((ji18)).toNat * 5)).off + 4, none⟩ = some (.int .i64 ((rd_T38 l0 (ji18)).f4))) (ds := []) b3A0 (by kernel_rfl) rfl rfl ⟨(bc BK263.out 0).trans rfl, (bc BK263.out 1).trans rfl, (bc BK263.out 2).trans rfl, (bc BK263.out 3).trans rfl, (bc BK263.out 4).trans rfl, ((HB.out.cell (bL w hw269_0)).trans hw269_0), ((HB.out.cell (bL w hw269_1)).trans hw269_1), ((HB.out.cell (bL w hw269_2)).trans hw269_2), ((HB.out.cell (bL w hw269_3)).trans hw269_3), ((HB.out.cell (bL w hw269_4)).trans hw269_4)⟩ (fun hHeld => ?_); refine with_tabW spec_AreClaims.tab5 spec_AreClaims.bits5 (fun HT_ HW_ => ?_)
    generalize w21.drew = w22 at BK263 HB hx269_0 hx269_1 hx269_2 hx269_3 hx269_4 hHeld ⊢
    refine pI 0 (some 16) b3A1 HT_ ?_
    refine tI 1 (some 17) b3A2 HT_ HW_ hHeld rfl rfl (Or.inl ⟨by rfl, by rintro w' ⟨s0, s1, s2, s3, s4, s5, s6, s7, s8, s9⟩; go_simp; with_reducible rfl⟩) ?_
    refine one_ (i := 2) (N := some 18) b3A3 rfl rfl (one_of HT_.out (by kernel_rfl)) (by decide) (fun K hK => ?_)
    refine goes_ Try.func16 (by kernel_rfl) rfl #[.int .i64 ((rd_T38 l0 x3_1).f0), .int .i64 1, .int .i64 999] (by rfl) rfl rfl m0 ?_
    with_reducible refine (spec_l1In.calls ((rd_T38 l0 x3_1).f0) 1 999 true _ A7.out).mono ?_
    rintro e w' ⟨rfl, ⟨nd, rfl⟩⟩
    refine ⟨_, rfl, ?_⟩
    refine hK.out _ _ ⟨(bc BK263.out 0).trans rfl, (bc BK263.out 1).trans rfl, (bc BK263.out 2).trans rfl, (bc BK263.out 3).trans rfl, (bc BK263.out 4).trans rfl, ((HB.out.cell (bL w hw269_0)).trans hw269_0), ((HB.out.cell (bL w hw269_1)).trans hw269_1), ((HB.out.cell (bL w hw269_2)).trans hw269_2), ((HB.out.cell (bL w hw269_3)).trans hw269_3), ((HB.out.cell (bL w hw269_4)).trans hw269_4)⟩ (fun hHeld => ?_)
    clear hK K
    refine norm_ (a' := ?_) ?_ ?_
    rotate_left
    ·show Act.put _ (some 18) _ = _
     simp only [Act.put, sA, sZ, sS, i64_w, i32_w]
     rfl
    refine pI 3 (some 19) b3A4 HT_ ?_
    refine pI 4 (some 20) b3A5 HT_ ?_
    refine pI 5 (some 21) b3A6 HT_ ?_
    refine tI 6 (some 22) b3A7 HT_ HW_ hHeld rfl rfl (Or.inl ⟨by rfl, by rintro w' ⟨s0, s1, s2, s3, s4, s5, s6, s7, s8, s9⟩; go_simp; with_reducible rfl⟩) ?_
    refine one_ (i := 7) (N := some 23) b3A8 rfl rfl (one_of HT_.out (by kernel_rfl)) (by decide) (fun K hK => ?_)
    refine goes_ Try.func16 (by kernel_rfl) rfl #[.int .i64 ((rd_T38 l0 x3_1).f1), .int .i64 1, .int .i64 999] (by rfl) rfl rfl m0 ?_
    with_reducible refine (spec_l1In.calls ((rd_T38 l0 x3_1).f1) 1 999 true _ A9.out).mono ?_
    rintro e w' ⟨rfl, ⟨nd, rfl⟩⟩
    refine ⟨_, rfl, ?_⟩
    refine hK.out _ _ ⟨(bc BK263.out 0).trans rfl, (bc BK263.out 1).trans rfl, (bc BK263.out 2).trans rfl, (bc BK263.out 3).trans rfl, (bc BK263.out 4).trans rfl, ((HB.out.cell (bL w hw269_0)).trans hw269_0), ((HB.out.cell (bL w hw269_1)).trans hw269_1), ((HB.out.cell (bL w hw269_2)).trans hw269_2), ((HB.out.cell (bL w hw269_3)).trans hw269_3), ((HB.out.cell (bL w hw269_4)).trans hw269_4)⟩ (fun hHeld => ?_)
    clear hK K
    refine norm_ (a' := ?_) ?_ ?_
    rotate_left
    ·show Act.put _ (some 23) _ = _
     simp only [Act.put, sA, sZ, sS, i64_w, i32_w]
     rfl
    refine pI 8 (some 24) b3A9 HT_ ?_
    refine pI 9 (some 25) b3A10 HT_ ?_
    refine pI 10 (some 26) b3A11 HT_ ?_
    refine pI 11 (some 27) b3A12 HT_ ?_
    refine tI 12 (some 28) b3A13 HT_ HW_ hHeld rfl rfl (Or.inl ⟨by rfl, by rintro w' ⟨s0, s1, s2, s3, s4, s5, s6, s7, s8, s9⟩; go_simp; with_reducible rfl⟩) ?_
    refine one_ (i := 13) (N := some 29) b3A14 rfl rfl (one_of HT_.out (by kernel_rfl)) (by decide) (fun K hK => ?_)
    refine goes_ Try.func16 (by kernel_rfl) rfl #[.int .i64 ((rd_T38 l0 x3_1).f2), .int .i64 1, .int .i64 999] (by rfl) rfl rfl m0 ?_
    with_reducible refine (spec_l1In.calls ((rd_T38 l0 x3_1).f2) 1 999 true _ A11.out).mono ?_
    rintro e w' ⟨rfl, ⟨nd, rfl⟩⟩
    refine ⟨_, rfl, ?_⟩
    refine hK.out _ _ ⟨(bc BK263.out 0).trans rfl, (bc BK263.out 1).trans rfl, (bc BK263.out 2).trans rfl, (bc BK263.out 3).trans rfl, (bc BK263.out 4).trans rfl, ((HB.out.cell (bL w hw269_0)).trans hw269_0), ((HB.out.cell (bL w hw269_1)).trans hw269_1), ((HB.out.cell (bL w hw269_2)).trans hw269_2), ((HB.out.cell (bL w hw269_3)).trans hw269_3), ((HB.out.cell (bL w hw269_4)).trans hw269_4)⟩ (fun hHeld => ?_)
    clear hK K
    refine norm_ (a' := ?_) ?_ ?_
    rotate_left
    ·show Act.put _ (some 29) _ = _
     simp only [Act.put, sA, sZ, sS, i64_w, i32_w]
     rfl
    refine pI 14 (some 30) b3A15 HT_ ?_
    refine pI 15 (some 31) b3A16 HT_ ?_
    refine pI 16 (some 32) b3A17 HT_ ?_
    refine pI 17 (some 33) b3A18 HT_ ?_
    refine tI 18 (some 34) b3A19 HT_ HW_ hHeld rfl rfl (Or.inl ⟨by rfl, by rintro w' ⟨s0, s1, s2, s3, s4, s5, s6, s7, s8, s9⟩; go_simp; with_reducible rfl⟩) ?_
    refine one_ (i := 19) (N := some 35) b3A20 rfl rfl (one_of HT_.out (by kernel_rfl)) (by decide) (fun K hK => ?_)
    refine goes_ Try.func16 (by kernel_rfl) rfl #[.int .i64 ((rd_T38 l0 x3_1).f3), .int .i64 0, .int .i64 100000] (by rfl) rfl rfl m0 ?_
    with_reducible refine (spec_l1In.calls ((rd_T38 l0 x3_1).f3) 0 100000 true _ A13.out).mono ?_
    rintro e w' ⟨rfl, ⟨nd, rfl⟩⟩
    refine ⟨_, rfl, ?_⟩
    refine hK.out _ _ ⟨(bc BK263.out 0).trans rfl, (bc BK263.out 1).trans rfl, (bc BK263.out 2).trans rfl, (bc BK263.out 3).trans rfl, (bc BK263.out 4).trans rfl, ((HB.out.cell (bL w hw269_0)).trans hw269_0), ((HB.out.cell (bL w hw269_1)).trans hw269_1), ((HB.out.cell (bL w hw269_2)).trans hw269_2), ((HB.out.cell (bL w hw269_3)).trans hw269_3), ((HB.out.cell (bL w hw269_4)).trans hw269_4)⟩ (fun hHeld => ?_)
    clear hK K
    refine norm_ (a' := ?_) ?_ ?_
    rotate_left
    ·show Act.put _ (some 35) _ = _
     simp only [Act.put, sA, sZ, sS, i64_w, i32_w]
     rfl
    refine pI 20 (some 36) b3A21 HT_ ?_
    refine pI 21 (some 37) b3A22 HT_ ?_
    refine pI 22 (some 38) b3A23 HT_ ?_
    refine pI 23 (some 39) b3A24 HT_ ?_
    refine tI 24 (some 40) b3A25 HT_ HW_ hHeld rfl rfl (Or.inl ⟨by rfl, by rintro w' ⟨s0, s1, s2, s3, s4, s5, s6, s7, s8, s9⟩; go_simp; with_reducible rfl⟩) ?_
    refine one_ (i := 25) (N := some 41) b3A26 rfl rfl (one_of HT_.out (by kernel_rfl)) (by decide) (fun K hK => ?_)
    refine goes_ Try.func16 (by kernel_rfl) rfl #[.int .i64 ((rd_T38 l0 x3_1).f4), .int .i64 0, .int .i64 3] (by rfl) rfl rfl m0 ?_
    with_reducible refine (spec_l1In.calls ((rd_T38 l0 x3_1).f4) 0 3 true _ A15.out).mono ?_
    rintro e w' ⟨rfl, ⟨nd, rfl⟩⟩
    refine ⟨_, rfl, ?_⟩
    refine hK.out _ _ ⟨(bc BK263.out 0).trans rfl, (bc BK263.out 1).trans rfl, (bc BK263.out 2).trans rfl, (bc BK263.out 3).trans rfl, (bc BK263.out 4).trans rfl, ((HB.out.cell (bL w hw269_0)).trans hw269_0), ((HB.out.cell (bL w hw269_1)).trans hw269_1), ((HB.out.cell (bL w hw269_2)).trans hw269_2), ((HB.out.cell (bL w hw269_3)).trans hw269_3), ((HB.out.cell (bL w hw269_4)).trans hw269_4)⟩ (fun hHeld => ?_)
    clear hK K
    refine norm_ (a' := ?_) ?_ ?_
    rotate_left
    ·show Act.put _ (some 41) _ = _
     simp only [Act.put, sA, sZ, sS, i64_w, i32_w]
     rfl
    refine pI 26 (some 42) b3A27 HT_ ?_
    refine pI 27 (some 43) b3A28 HT_ ?_
    refine pI 28 (some 44) b3A29 HT_ ?_
    refine pI 29 (some 45) b3A30 HT_ ?_
    refine pI 30 (some 46) b3A31 HT_ ?_
    refine pI 31 (some 47) b3A32 HT_ ?_
    refine pI 32 (some 48) b3A33 HT_ ?_
    refine pI 33 (some 49) b3A34 HT_ ?_
    refine pI 34 (some 50) b3A35 HT_ ?_
    refine pI 35 (some 51) b3A36 HT_ ?_
    refine pI 36 (some 52) b3A37 HT_ ?_
    refine pI 38 (some 54) b3A38 HT_ ?_
    refine tI 37 (some 53) b3A39 HT_ HW_ hHeld rfl rfl (Or.inl ⟨by rfl, by rintro w' ⟨s0, s1, s2, s3, s4, s5, s6, s7, s8, s9⟩; go_simp; with_reducible rfl⟩) ?_
    refine tI 39 (some 55) b3A40 HT_ HW_ hHeld rfl rfl (Or.inl ⟨by rfl, by rintro w' ⟨s0, s1, s2, s3, s4, s5, s6, s7, s8, s9⟩; go_simp; with_reducible rfl⟩) ?_
    refine pI 40 (some 56) b3A41 HT_ ?_
    refine pI 41 (some 57) b3A42 HT_ ?_
    refine pI 42 (some 58) b3A43 HT_ ?_
    refine done_ (done_of HT_.out (by kernel_rfl)) ?_
    try go_wp2
    go_meet
    case rel => exact ⟨_, (decide (((rd_T38 l0 (ji18)).f0) ≥ ((rd_T38 l0 x3_1).f0))), (by first | rfl | (simp; done) | (simp only [← hji18] <;> (first | rfl | simp)) | (simp [*]; done)), H', ⟨by have := HK1.out; first | omega | exact Nat.le_refl _⟩, ⟨by exact qK BK263.out⟩, ⟨by repeat (first | (with_reducible first | exact HB.out | apply bA | apply bN | apply below_drew1 | refine bS ?_ GE263.out) | exact HB.out)⟩⟩
   case rest =>
    clear HC4
    try clear c1
    try clear p2
    try clear c8
    try clear c10
    try clear c16
    obtain ⟨kq, x58_3, rfl, HA, HJ3, BK263, HB⟩ := hcut
    cases kq with
    | zero => exact absurd HA.out (by simp [spec_AreClaims.j1])
    | succ kj3 =>
     have H := HA.out
     clear HA
     simp only [spec_AreClaims.j1] at H
     by_cases c35 : x58_3 = true
     ·subst c35
      have H1 : (some false) = some r := by rw [if_pos rfl] at H; exact H
      clear H
      have H := H1
      clear H1
      obtain rfl := Option.some.inj H
      go_wp2
      go_ret
      exact ⟨by first | rfl | (simp [errW_none, errW_some] <;> rfl) | (simp [*, errW_none, errW_some] <;> rfl), by repeat (first | (with_reducible first | exact HB.out | apply bA | apply bN | apply below_drew1 | refine bS ?_ GE263.out) | exact HB.out)⟩
     replace c35 := Bool.eq_false_iff.mpr c35
     subst c35
     have H1 : (spec_AreClaims.l1 kj3 l0 x3_1 0 ((rd_T38 l0 x3_1).f0) ((rd_T38 l0 x3_1).f1) ((rd_T38 l0 x3_1).f2) ((rd_T38 l0 x3_1).f3) ((rd_T38 l0 x3_1).f4)) = some r := by rw [if_neg (show ¬ (false = true) by decide)] at H; exact H
     clear H
     have H := H1
     clear H1
     have H' := zK H
     clear H
     go_wp2
     go_loopg [5] kj3 (fun kq v5 w' => ∃ (x5_3 : Int), v5 = .int .i64 x5_3 ∧ Aside0 (spec_AreClaims.l1 kq l0 x3_1 x5_3 ((rd_T38 l0 x3_1).f0) ((rd_T38 l0 x3_1).f1) ((rd_T38 l0 x3_1).f2) ((rd_T38 l0 x3_1).f3) ((rd_T38 l0 x3_1).f4) = some r) ∧ Aside0 (kq ≤ kj3) ∧ Aside0 (w'.heap[gb263]? = some (.cells #[.int .i64 ((rd_T38 l0 x3_1).f0), .int .i64 ((rd_T38 l0 x3_1).f1), .int .i64 ((rd_T38 l0 x3_1).f2), .int .i64 ((rd_T38 l0 x3_1).f3), .int .i64 ((rd_T38 l0 x3_1).f4)] 38 (0, 0))) ∧ Aside0 (Below w.heap.size w w'))
     case atStart => exact ⟨(0), m9, H', ⟨Nat.le_refl _⟩, ⟨by exact qK BK263.out⟩, ⟨by repeat (first | (with_reducible first | exact HB.out | apply bA | apply bN | apply below_drew1 | refine bS ?_ GE263.out) | exact HB.out)⟩⟩
     case round =>
      clear H'
      try clear c1
      try clear p2
      try clear c3
      try clear c8
      try clear c10
      try clear c16
      try clear c35
      try clear p2
      obtain ⟨x5_3, rfl, HA, HK3, BK263, HB⟩ := hrel
      cases gk with
      | zero => exact absurd HA.out (by simp [spec_AreClaims.l1])
      | succ k3 =>
       have H := HA.out
       clear HA
       simp only [spec_AreClaims.l1] at H
       by_cases c36 : x5_3 < x3_1
       rotate_left
       ·rw [if_neg c36] at H
        have c36b0 : decide (x5_3 < x3_1) = false := decide_eq_false c36
        clear c36
        have H' := zK H
        clear H
        go_wp2
        go_roundg k3
        case measure => have := HK1.out; have := HJ3.out; have := HK3.out; omega
        case rel => exact ⟨(wrap64 (x3_1 + 1)), m9, H', ⟨by have := HK1.out; have := HJ3.out; have := HK3.out; omega⟩, ⟨by repeat (first | (with_reducible first | exact HB.out | apply bA | apply bN | apply below_drew1 | refine bS ?_ GE263.out) | exact HB.out)⟩⟩
       rw [if_pos c36] at H
       have c36b0 : decide (x5_3 < x3_1) = true := decide_eq_true c36
       clear c36
       by_cases c37 : ((rd_T38 l0 x3_1).f4) = 3
       rotate_left
       ·rw [if_neg c37] at H
        have c37b0 : (((rd_T38 l0 x3_1).f4) == 3) = false := beq_eq_false_iff_ne.mpr c37
        have c37b1 : (((rd_T38 l0 x3_1).f4) != 3) = true := bne_iff_ne.mpr c37
        have H' := zK H
        clear H
        try go_wp2
        have n0_ := zK (kD BK263.out)
        have n1_ := zK (below_drew1 HB.out)
        clear BK263
        clear HB
        have BK263 := n0_
        have HB := n1_
        clear n0_ n1_
        refine start_ (n := 21) (S := fun w' => w'.cell? ⟨gb263, 0, none⟩ = some (.int .i64 ((rd_T38 l0 x3_1).f0)) ∧ w'.cell? ⟨gb263, 1, none⟩ = some (.int .i64 ((rd_T38 l0 x3_1).f1)) ∧ w'.cell? ⟨gb263, 2, none⟩ = some (.int .i64 ((rd_T38 l0 x3_1).f2)) ∧ w'.cell? ⟨gb263, 3, none⟩ = some (.int .i64 ((rd_T38 l0 x3_1).f3)) ∧ w'.cell? ⟨gb263, 4, none⟩ = some (.int .i64 ((rd_T38 l0 x3_1).f4))) (ds := []) b3A45 (by kernel_rfl) rfl rfl ⟨(bc BK263.out 0).trans rfl, (bc BK263.out 1).trans rfl, (bc BK263.out 2).trans rfl, (bc BK263.out 3).trans rfl, (bc BK263.out 4).trans rfl⟩ (fun hHeld => ?_); refine with_tabW spec_AreClaims.tab10 spec_AreClaims.bits10 (fun HT_ HW_ => ?_)
        generalize wr.drew = w45 at BK263 HB hHeld ⊢
        refine pI 0 (some 64) b3A46 HT_ ?_
        refine tI 1 (some 65) b3A47 HT_ HW_ hHeld rfl rfl (Or.inl ⟨by rfl, by rintro w' ⟨s0, s1, s2, s3, s4⟩; go_simp; with_reducible rfl⟩) ?_
        refine pI 2 (some 66) b3A48 HT_ ?_
        refine pI 3 (some 67) b3A49 HT_ ?_
        refine pU 4 (some 68) b3A50 HT_ ?_
        refine pU 5 (some 69) b3A51 HT_ ?_
        refine pU 6 (some 70) b3A52 HT_ ?_
        refine pU 7 (some 71) b3A53 HT_ ?_
        refine pU 8 (some 72) b3A54 HT_ ?_
        refine pU 9 (some 73) b3A55 HT_ ?_
        refine pI 10 (some 74) b3A56 HT_ ?_
        refine pI 11 (some 75) b3A57 HT_ ?_
        refine pU 12 (some 76) b3A58 HT_ ?_
        refine pU 13 (some 77) b3A59 HT_ ?_
        refine pU 14 (some 78) b3A60 HT_ ?_
        refine pU 15 (some 79) b3A61 HT_ ?_
        refine pU 16 (some 80) b3A67 HT_ ?_
        refine pU 17 (some 81) b3A63 HT_ ?_
        refine pU 18 (some 82) b3A64 HT_ ?_
        refine pU 19 (some 83) b3A65 HT_ ?_
        refine pI 20 (some 84) b3A66 HT_ ?_
        refine done_ (done_of HT_.out (by kernel_rfl)) ?_
        try go_wp2
        go_roundg k3
        case measure => have := HK1.out; have := HJ3.out; have := HK3.out; omega
        case rel => exact ⟨(wrap64 (x5_3 + 1)), m9, H', ⟨by have := HK1.out; have := HJ3.out; have := HK3.out; omega⟩, ⟨by exact qK BK263.out⟩, ⟨by repeat (first | (with_reducible first | exact HB.out | apply bA | apply bN | apply below_drew1 | refine bS ?_ GE263.out) | exact HB.out)⟩⟩
       rw [if_pos c37] at H
       have c37b0 : (((rd_T38 l0 x3_1).f4) == 3) = true := beq_iff_eq.mpr c37
       have c37b1 : (((rd_T38 l0 x3_1).f4) != 3) = false := bne_eq_false_iff_eq.mpr c37
       clear c37
       by_cases c38 : 0 ≤ x5_3
       rotate_left
       ·rw [if_neg c38] at H
        exact absurd H (by simp)
       rw [if_pos c38] at H
       have c38b0 : decide (0 ≤ x5_3) = true := decide_eq_true c38
       clear c38
       by_cases c39 : x5_3 < (l0.length : Int)
       rotate_left
       ·rw [if_neg c39] at H
        exact absurd H (by simp)
       rw [if_pos c39] at H
       have c39b0 : decide (x5_3 < (l0.length : Int)) = true := decide_eq_true c39
       clear c39
       by_cases c40 : ((rd_T38 l0 x5_3).f4) = 3
       rotate_left
       ·rw [if_neg c40] at H
        have c40b0 : (((rd_T38 l0 x5_3).f4) == 3) = false := beq_eq_false_iff_ne.mpr c40
        have c40b1 : (((rd_T38 l0 x5_3).f4) != 3) = true := bne_iff_ne.mpr c40
        have H' := zK H
        clear H
        try go_wp2
        have n0_ := zK (kD BK263.out)
        have n1_ := zK (below_drew1 HB.out)
        clear BK263
        clear HB
        have BK263 := n0_
        have HB := n1_
        clear n0_ n1_
        have p270 : 0 ≤ (x5_3 : Int) := oD m2
        have q270 : x5_3 < (l0.length : Int) := oD m2
        obtain ⟨ad270, e270, hx270_0, hx270_1, hx270_2, hx270_3, hx270_4⟩ := at_T38 HR0.out x5_3 p270 q270
        have hw270_4 := hx270_4
        have hw270_3 := hx270_3
        have hw270_2 := hx270_2
        have hw270_1 := hx270_1
        have hw270_0 := hx270_0
        obtain rfl : ad262 = ad270 := (by injection e270)
        replace hx270_0 := (HB.out.cell (bL w hx270_0)).trans hx270_0
        replace hx270_1 := (HB.out.cell (bL w hx270_1)).trans hx270_1
        replace hx270_2 := (HB.out.cell (bL w hx270_2)).trans hx270_2
        replace hx270_3 := (HB.out.cell (bL w hx270_3)).trans hx270_3
        replace hx270_4 := (HB.out.cell (bL w hx270_4)).trans hx270_4
        replace p270 := eq_true p270
        replace q270 := eq_true q270
        refine start_ (n := 21) (S := fun w' => w'.cell? ⟨gb263, 0, none⟩ = some (.int .i64 ((rd_T38 l0 x3_1).f0)) ∧ w'.cell? ⟨gb263, 1, none⟩ = some (.int .i64 ((rd_T38 l0 x3_1).f1)) ∧ w'.cell? ⟨gb263, 2, none⟩ = some (.int .i64 ((rd_T38 l0 x3_1).f2)) ∧ w'.cell? ⟨gb263, 3, none⟩ = some (.int .i64 ((rd_T38 l0 x3_1).f3)) ∧ w'.cell? ⟨gb263, 4, none⟩ = some (.int .i64 ((rd_T38 l0 x3_1).f4)) ∧ w'.cell? (ad262.add ((x5_3).toNat * 5)) = some (.int .i64 ((rd_T38 l0 x5_3).f0)) ∧ w'.cell? ⟨(ad262.add ((x5_3).toNat * 5)).block, (ad262.add ((x5_3).toNat * 5)).off + 1, none⟩ = some (.int .i64 ((rd_T38 l0 x5_3).f1)) ∧ w'.cell? ⟨(ad262.add ((x5_3).toNat * 5)).block, (ad262.add ((x5_3).toNat * 5)).off + 2, none⟩ = some (.int .i64 ((rd_T38 l0 x5_3).f2)) ∧ w'.cell? ⟨(ad262.add ((x5_3).toNat * 5)).block, (ad262.add ((x5_3).toNat * 5)).off + 3, none⟩ = some (.int .i64 ((rd_T38 l0 x5_3).f3)) ∧ w'.cell? ⟨(ad262.add ((x5_3).toNat * 5)).block, (ad262.add ((x5_3).toNat * 5)).off + 4, none⟩ = some (.int .i64 ((rd_T38 l0 x5_3).f4))) (ds := []) b3A45 (by kernel_rfl) rfl rfl ⟨(bc BK263.out 0).trans rfl, (bc BK263.out 1).trans rfl, (bc BK263.out 2).trans rfl, (bc BK263.out 3).trans rfl, (bc BK263.out 4).trans rfl, ((HB.out.cell (bL w hw270_0)).trans hw270_0), ((HB.out.cell (bL w hw270_1)).trans hw270_1), ((HB.out.cell (bL w hw270_2)).trans hw270_2), ((HB.out.cell (bL w hw270_3)).trans hw270_3), ((HB.out.cell (bL w hw270_4)).trans hw270_4)⟩ (fun hHeld => ?_); refine with_tabW spec_AreClaims.tab10 spec_AreClaims.bits10 (fun HT_ HW_ => ?_)
        generalize wr.drew = w44 at BK263 HB hx270_0 hx270_1 hx270_2 hx270_3 hx270_4 hHeld ⊢
        refine pI 0 (some 64) b3A46 HT_ ?_
        refine tI 1 (some 65) b3A47 HT_ HW_ hHeld rfl rfl (Or.inl ⟨by rfl, by rintro w' ⟨s0, s1, s2, s3, s4, s5, s6, s7, s8, s9⟩; go_simp; with_reducible rfl⟩) ?_
        refine pI 2 (some 66) b3A48 HT_ ?_
        refine pI 3 (some 67) b3A49 HT_ ?_
        refine pI 4 (some 68) b3A50 HT_ ?_
        refine pI 5 (some 69) b3A51 HT_ ?_
        refine pI 6 (some 70) b3A52 HT_ ?_
        refine pI 7 (some 71) b3A53 HT_ ?_
        refine tI 8 (some 72) b3A54 HT_ HW_ hHeld rfl rfl (Or.inl ⟨by rfl, by rintro w' ⟨s0, s1, s2, s3, s4, s5, s6, s7, s8, s9⟩; go_simp; with_reducible rfl⟩) ?_
        refine pI 9 (some 73) b3A55 HT_ ?_
        refine pI 10 (some 74) b3A56 HT_ ?_
        refine pI 11 (some 75) b3A57 HT_ ?_
        refine pU 12 (some 76) b3A58 HT_ ?_
        refine pU 13 (some 77) b3A59 HT_ ?_
        refine pU 14 (some 78) b3A60 HT_ ?_
        refine pU 15 (some 79) b3A61 HT_ ?_
        refine pU 16 (some 80) b3A67 HT_ ?_
        refine pU 17 (some 81) b3A63 HT_ ?_
        refine pU 18 (some 82) b3A64 HT_ ?_
        refine pU 19 (some 83) b3A65 HT_ ?_
        refine pI 20 (some 84) b3A66 HT_ ?_
        refine done_ (done_of HT_.out (by kernel_rfl)) ?_
        try go_wp2
        go_roundg k3
        case measure => have := HK1.out; have := HJ3.out; have := HK3.out; omega
        case rel => exact ⟨(wrap64 (x5_3 + 1)), m9, H', ⟨by have := HK1.out; have := HJ3.out; have := HK3.out; omega⟩, ⟨by exact qK BK263.out⟩, ⟨by repeat (first | (with_reducible first | exact HB.out | apply bA | apply bN | apply below_drew1 | refine bS ?_ GE263.out) | exact HB.out)⟩⟩
       rw [if_pos c40] at H
       have c40b0 : (((rd_T38 l0 x5_3).f4) == 3) = true := beq_iff_eq.mpr c40
       have c40b1 : (((rd_T38 l0 x5_3).f4) != 3) = false := bne_eq_false_iff_eq.mpr c40
       clear c40
       by_cases c41 : ((rd_T38 l0 x5_3).f2) = ((rd_T38 l0 x3_1).f2)
       ·rw [if_pos c41] at H
        have c41b0 : (((rd_T38 l0 x5_3).f2) == ((rd_T38 l0 x3_1).f2)) = true := beq_iff_eq.mpr c41
        have c41b1 : (((rd_T38 l0 x5_3).f2) != ((rd_T38 l0 x3_1).f2)) = false := bne_eq_false_iff_eq.mpr c41
        clear c41
        obtain rfl := Option.some.inj H
        try go_wp2
        have n0_ := zK (kD BK263.out)
        have n1_ := zK (below_drew1 HB.out)
        clear BK263
        clear HB
        have BK263 := n0_
        have HB := n1_
        clear n0_ n1_
        have p270 : 0 ≤ (x5_3 : Int) := oD m2
        have q270 : x5_3 < (l0.length : Int) := oD m2
        obtain ⟨ad270, e270, hx270_0, hx270_1, hx270_2, hx270_3, hx270_4⟩ := at_T38 HR0.out x5_3 p270 q270
        have hw270_4 := hx270_4
        have hw270_3 := hx270_3
        have hw270_2 := hx270_2
        have hw270_1 := hx270_1
        have hw270_0 := hx270_0
        obtain rfl : ad262 = ad270 := (by injection e270)
        replace hx270_0 := (HB.out.cell (bL w hx270_0)).trans hx270_0
        replace hx270_1 := (HB.out.cell (bL w hx270_1)).trans hx270_1
        replace hx270_2 := (HB.out.cell (bL w hx270_2)).trans hx270_2
        replace hx270_3 := (HB.out.cell (bL w hx270_3)).trans hx270_3
        replace hx270_4 := (HB.out.cell (bL w hx270_4)).trans hx270_4
        replace p270 := eq_true p270
        replace q270 := eq_true q270
        have p271 : 0 ≤ (x5_3 : Int) := oD m2
        have q271 : x5_3 < (l0.length : Int) := oD m2
        obtain ⟨ad271, e271, hx271_0, hx271_1, hx271_2, hx271_3, hx271_4⟩ := at_T38 HR0.out x5_3 p271 q271
        have hw271_4 := hx271_4
        have hw271_3 := hx271_3
        have hw271_2 := hx271_2
        have hw271_1 := hx271_1
        have hw271_0 := hx271_0
        obtain rfl : ad262 = ad271 := (by injection e271)
        replace hx271_0 := (HB.out.cell (bL w hx271_0)).trans hx271_0
        replace hx271_1 := (HB.out.cell (bL w hx271_1)).trans hx271_1
        replace hx271_2 := (HB.out.cell (bL w hx271_2)).trans hx271_2
        replace hx271_3 := (HB.out.cell (bL w hx271_3)).trans hx271_3
        replace hx271_4 := (HB.out.cell (bL w hx271_4)).trans hx271_4
        replace p271 := eq_true p271
        replace q271 := eq_true q271
        refine start_ (n := 21) (S := fun w' => w'.cell? ⟨gb263, 0, none⟩ = some (.int .i64 ((rd_T38 l0 x3_1).f0)) ∧ w'.cell? ⟨gb263, 1, none⟩ = some (.int .i64 ((rd_T38 l0 x3_1).f1)) ∧ w'.cell? ⟨gb263, 2, none⟩ = some (.int .i64 ((rd_T38 l0 x3_1).f2)) ∧ w'.cell? ⟨gb263, 3, none⟩ = some (.int .i64 ((rd_T38 l0 x3_1).f3)) ∧ w'.cell? ⟨gb263, 4, none⟩ = some (.int .i64 ((rd_T38 l0 x3_1).f4)) ∧ w'.cell? (ad262.add ((x5_3).toNat * 5)) = some (.int .i64 ((rd_T38 l0 x5_3).f0)) ∧ w'.cell? ⟨(ad262.add ((x5_3).toNat * 5)).block, (ad262.add ((x5_3).toNat * 5)).off + 1, none⟩ = some (.int .i64 ((rd_T38 l0 x5_3).f1)) ∧ w'.cell? ⟨(ad262.add ((x5_3).toNat * 5)).block, (ad262.add ((x5_3).toNat * 5)).off + 2, none⟩ = some (.int .i64 ((rd_T38 l0 x5_3).f2)) ∧ w'.cell? ⟨(ad262.add ((x5_3).toNat * 5)).block, (ad262.add ((x5_3).toNat * 5)).off + 3, none⟩ = some (.int .i64 ((rd_T38 l0 x5_3).f3)) ∧ w'.cell? ⟨(ad262.add ((x5_3).toNat * 5)).block, (ad262.add ((x5_3).toNat * 5)).off + 4, none⟩ = some (.int .i64 ((rd_T38 l0 x5_3).f4)) ∧ w'.cell? (ad262.add ((x5_3).toNat * 5)) = some (.int .i64 ((rd_T38 l0 x5_3).f0)) ∧ w'.cell? ⟨(ad262.add ((x5_3).toNat * 5)).block, (ad262.add ((x5_3).toNat * 5)).off + 1, none⟩ = some (.int .i64 ((rd_T38 l0 x5_3).f1)) ∧ w'.cell? ⟨(ad262.add ((x5_3).toNat * 5)).block, (ad262.add ((x5_3).toNat * 5)).off + 2, none⟩ = some (.int .i64 ((rd_T38 l0 x5_3).f2)) ∧ w'.cell? ⟨(ad262.add ((x5_3).toNat * 5)).block, (ad262.add ((x5_3).toNat * 5)).off + 3, none⟩ = some (.int .i64 ((rd_T38 l0 x5_3).f3)) ∧ w'.cell? ⟨(ad262.add ((x5_3).toNat * 5)).block, (ad262.add ((x5_3).toNat * 5)).off + 4, none⟩ = some (.int .i64 ((rd_T38 l0 x5_3).f4))) (ds := []) b3A45 (by kernel_rfl) rfl rfl ⟨(bc BK263.out 0).trans rfl, (bc BK263.out 1).trans rfl, (bc BK263.out 2).trans rfl, (bc BK263.out 3).trans rfl, (bc BK263.out 4).trans rfl, ((HB.out.cell (bL w hw270_0)).trans hw270_0), ((HB.out.cell (bL w hw270_1)).trans hw270_1), ((HB.out.cell (bL w hw270_2)).trans hw270_2), ((HB.out.cell (bL w hw270_3)).trans hw270_3), ((HB.out.cell (bL w hw270_4)).trans hw270_4), ((HB.out.cell (bL w hw271_0)).trans hw271_0), ((HB.out.cell (bL w hw271_1)).trans hw271_1), ((HB.out.cell (bL w hw271_2)).trans hw271_2), ((HB.out.cell (bL w hw271_3)).trans hw271_3), ((HB.out.cell (bL w hw271_4)).trans hw271_4)⟩ (fun hHeld => ?_); refine with_tabW spec_AreClaims.tab10 spec_AreClaims.bits10 (fun HT_ HW_ => ?_)
        generalize wr.drew = w42 at BK263 HB hx270_0 hx270_1 hx270_2 hx270_3 hx270_4 hx271_0 hx271_1 hx271_2 hx271_3 hx271_4 hHeld ⊢
        refine pI 0 (some 64) b3A46 HT_ ?_
        refine tI 1 (some 65) b3A47 HT_ HW_ hHeld rfl rfl (Or.inl ⟨by rfl, by rintro w' ⟨s0, s1, s2, s3, s4, s5, s6, s7, s8, s9, s10, s11, s12, s13, s14⟩; go_simp; with_reducible rfl⟩) ?_
        refine pI 2 (some 66) b3A48 HT_ ?_
        refine pI 3 (some 67) b3A49 HT_ ?_
        refine pI 4 (some 68) b3A50 HT_ ?_
        refine pI 5 (some 69) b3A51 HT_ ?_
        refine pI 6 (some 70) b3A52 HT_ ?_
        refine pI 7 (some 71) b3A53 HT_ ?_
        refine tI 8 (some 72) b3A54 HT_ HW_ hHeld rfl rfl (Or.inl ⟨by rfl, by rintro w' ⟨s0, s1, s2, s3, s4, s5, s6, s7, s8, s9, s10, s11, s12, s13, s14⟩; go_simp; with_reducible rfl⟩) ?_
        refine pI 9 (some 73) b3A55 HT_ ?_
        refine pI 10 (some 74) b3A56 HT_ ?_
        refine pI 11 (some 75) b3A57 HT_ ?_
        refine pI 12 (some 76) b3A58 HT_ ?_
        refine pI 13 (some 77) b3A59 HT_ ?_
        refine pI 14 (some 78) b3A60 HT_ ?_
        refine pI 15 (some 79) b3A61 HT_ ?_
        refine pI 17 (some 81) b3A62 HT_ ?_
        refine tI 16 (some 80) b3A63 HT_ HW_ hHeld rfl rfl (Or.inl ⟨by rfl, by rintro w' ⟨s0, s1, s2, s3, s4, s5, s6, s7, s8, s9, s10, s11, s12, s13, s14⟩; go_simp; with_reducible rfl⟩) ?_
        refine tI 18 (some 82) b3A64 HT_ HW_ hHeld rfl rfl (Or.inl ⟨by rfl, by rintro w' ⟨s0, s1, s2, s3, s4, s5, s6, s7, s8, s9, s10, s11, s12, s13, s14⟩; go_simp; with_reducible rfl⟩) ?_
        refine pI 19 (some 83) b3A65 HT_ ?_
        refine pI 20 (some 84) b3A66 HT_ ?_
        refine done_ (done_of HT_.out (by kernel_rfl)) ?_
        try go_wp2
        go_ret
        exact ⟨by first | rfl | (simp [errW_none, errW_some] <;> rfl) | (simp [*, errW_none, errW_some] <;> rfl), by repeat (first | (with_reducible first | exact HB.out | apply bA | apply bN | apply below_drew1 | refine bS ?_ GE263.out) | exact HB.out)⟩
       rw [if_neg c41] at H
       have c41b0 : (((rd_T38 l0 x5_3).f2) == ((rd_T38 l0 x3_1).f2)) = false := beq_eq_false_iff_ne.mpr c41
       have c41b1 : (((rd_T38 l0 x5_3).f2) != ((rd_T38 l0 x3_1).f2)) = true := bne_iff_ne.mpr c41
       have H' := zK H
       clear H
       try go_wp2
       have n0_ := zK (kD BK263.out)
       have n1_ := zK (below_drew1 HB.out)
       clear BK263
       clear HB
       have BK263 := n0_
       have HB := n1_
       clear n0_ n1_
       have p270 : 0 ≤ (x5_3 : Int) := oD m2
       have q270 : x5_3 < (l0.length : Int) := oD m2
       obtain ⟨ad270, e270, hx270_0, hx270_1, hx270_2, hx270_3, hx270_4⟩ := at_T38 HR0.out x5_3 p270 q270
       have hw270_4 := hx270_4
       have hw270_3 := hx270_3
       have hw270_2 := hx270_2
       have hw270_1 := hx270_1
       have hw270_0 := hx270_0
       obtain rfl : ad262 = ad270 := (by injection e270)
       replace hx270_0 := (HB.out.cell (bL w hx270_0)).trans hx270_0
       replace hx270_1 := (HB.out.cell (bL w hx270_1)).trans hx270_1
       replace hx270_2 := (HB.out.cell (bL w hx270_2)).trans hx270_2
       replace hx270_3 := (HB.out.cell (bL w hx270_3)).trans hx270_3
       replace hx270_4 := (HB.out.cell (bL w hx270_4)).trans hx270_4
       replace p270 := eq_true p270
       replace q270 := eq_true q270
       have p271 : 0 ≤ (x5_3 : Int) := oD m2
       have q271 : x5_3 < (l0.length : Int) := oD m2
       obtain ⟨ad271, e271, hx271_0, hx271_1, hx271_2, hx271_3, hx271_4⟩ := at_T38 HR0.out x5_3 p271 q271
       have hw271_4 := hx271_4
       have hw271_3 := hx271_3
       have hw271_2 := hx271_2
       have hw271_1 := hx271_1
       have hw271_0 := hx271_0
       obtain rfl : ad262 = ad271 := (by injection e271)
       replace hx271_0 := (HB.out.cell (bL w hx271_0)).trans hx271_0
       replace hx271_1 := (HB.out.cell (bL w hx271_1)).trans hx271_1
       replace hx271_2 := (HB.out.cell (bL w hx271_2)).trans hx271_2
       replace hx271_3 := (HB.out.cell (bL w hx271_3)).trans hx271_3
       replace hx271_4 := (HB.out.cell (bL w hx271_4)).trans hx271_4
       replace p271 := eq_true p271
       replace q271 := eq_true q271
       refine start_ (n := 21) (S := fun w' => w'.cell? ⟨gb263, 0, none⟩ = some (.int .i64 ((rd_T38 l0 x3_1).f0)) ∧ w'.cell? ⟨gb263, 1, none⟩ = some (.int .i64 ((rd_T38 l0 x3_1).f1)) ∧ w'.cell? ⟨gb263, 2, none⟩ = some (.int .i64 ((rd_T38 l0 x3_1).f2)) ∧ w'.cell? ⟨gb263, 3, none⟩ = some (.int .i64 ((rd_T38 l0 x3_1).f3)) ∧ w'.cell? ⟨gb263, 4, none⟩ = some (.int .i64 ((rd_T38 l0 x3_1).f4)) ∧ w'.cell? (ad262.add ((x5_3).toNat * 5)) = some (.int .i64 ((rd_T38 l0 x5_3).f0)) ∧ w'.cell? ⟨(ad262.add ((x5_3).toNat * 5)).block, (ad262.add ((x5_3).toNat * 5)).off + 1, none⟩ = some (.int .i64 ((rd_T38 l0 x5_3).f1)) ∧ w'.cell? ⟨(ad262.add ((x5_3).toNat * 5)).block, (ad262.add ((x5_3).toNat * 5)).off + 2, none⟩ = some (.int .i64 ((rd_T38 l0 x5_3).f2)) ∧ w'.cell? ⟨(ad262.add ((x5_3).toNat * 5)).block, (ad262.add ((x5_3).toNat * 5)).off + 3, none⟩ = some (.int .i64 ((rd_T38 l0 x5_3).f3)) ∧ w'.cell? ⟨(ad262.add ((x5_3).toNat * 5)).block, (ad262.add ((x5_3).toNat * 5)).off + 4, none⟩ = some (.int .i64 ((rd_T38 l0 x5_3).f4)) ∧ w'.cell? (ad262.add ((x5_3).toNat * 5)) = some (.int .i64 ((rd_T38 l0 x5_3).f0)) ∧ w'.cell? ⟨(ad262.add ((x5_3).toNat * 5)).block, (ad262.add ((x5_3).toNat * 5)).off + 1, none⟩ = some (.int .i64 ((rd_T38 l0 x5_3).f1)) ∧ w'.cell? ⟨(ad262.add ((x5_3).toNat * 5)).block, (ad262.add ((x5_3).toNat * 5)).off + 2, none⟩ = some (.int .i64 ((rd_T38 l0 x5_3).f2)) ∧ w'.cell? ⟨(ad262.add ((x5_3).toNat * 5)).block, (ad262.add ((x5_3).toNat * 5)).off + 3, none⟩ = some (.int .i64 ((rd_T38 l0 x5_3).f3)) ∧ w'.cell? ⟨(ad262.add ((x5_3).toNat * 5)).block, (ad262.add ((x5_3).toNat * 5)).off + 4, none⟩ = some (.int .i64 ((rd_T38 l0 x5_3).f4))) (ds := []) b3A45 (by kernel_rfl) rfl rfl ⟨(bc BK263.out 0).trans rfl, (bc BK263.out 1).trans rfl, (bc BK263.out 2).trans rfl, (bc BK263.out 3).trans rfl, (bc BK263.out 4).trans rfl, ((HB.out.cell (bL w hw270_0)).trans hw270_0), ((HB.out.cell (bL w hw270_1)).trans hw270_1), ((HB.out.cell (bL w hw270_2)).trans hw270_2), ((HB.out.cell (bL w hw270_3)).trans hw270_3), ((HB.out.cell (bL w hw270_4)).trans hw270_4), ((HB.out.cell (bL w hw271_0)).trans hw271_0), ((HB.out.cell (bL w hw271_1)).trans hw271_1), ((HB.out.cell (bL w hw271_2)).trans hw271_2), ((HB.out.cell (bL w hw271_3)).trans hw271_3), ((HB.out.cell (bL w hw271_4)).trans hw271_4)⟩ (fun hHeld => ?_); refine with_tabW spec_AreClaims.tab10 spec_AreClaims.bits10 (fun HT_ HW_ => ?_)
       generalize wr.drew = w43 at BK263 HB hx270_0 hx270_1 hx270_2 hx270_3 hx270_4 hx271_0 hx271_1 hx271_2 hx271_3 hx271_4 hHeld ⊢
       refine pI 0 (some 64) b3A46 HT_ ?_
       refine tI 1 (some 65) b3A47 HT_ HW_ hHeld rfl rfl (Or.inl ⟨by rfl, by rintro w' ⟨s0, s1, s2, s3, s4, s5, s6, s7, s8, s9, s10, s11, s12, s13, s14⟩; go_simp; with_reducible rfl⟩) ?_
       refine pI 2 (some 66) b3A48 HT_ ?_
       refine pI 3 (some 67) b3A49 HT_ ?_
       refine pI 4 (some 68) b3A50 HT_ ?_
       refine pI 5 (some 69) b3A51 HT_ ?_
       refine pI 6 (some 70) b3A52 HT_ ?_
       refine pI 7 (some 71) b3A53 HT_ ?_
       refine tI 8 (some 72) b3A54 HT_ HW_ hHeld rfl rfl (Or.inl ⟨by rfl, by rintro w' ⟨s0, s1, s2, s3, s4, s5, s6, s7, s8, s9, s10, s11, s12, s13, s14⟩; go_simp; with_reducible rfl⟩) ?_
       refine pI 9 (some 73) b3A55 HT_ ?_
       refine pI 10 (some 74) b3A56 HT_ ?_
       refine pI 11 (some 75) b3A57 HT_ ?_
       refine pI 12 (some 76) b3A58 HT_ ?_
       refine pI 13 (some 77) b3A59 HT_ ?_
       refine pI 14 (some 78) b3A60 HT_ ?_
       refine pI 15 (some 79) b3A61 HT_ ?_
       refine pI 17 (some 81) b3A62 HT_ ?_
       refine tI 16 (some 80) b3A63 HT_ HW_ hHeld rfl rfl (Or.inl ⟨by rfl, by rintro w' ⟨s0, s1, s2, s3, s4, s5, s6, s7, s8, s9, s10, s11, s12, s13, s14⟩; go_simp; with_reducible rfl⟩) ?_
       refine tI 18 (some 82) b3A64 HT_ HW_ hHeld rfl rfl (Or.inl ⟨by rfl, by rintro w' ⟨s0, s1, s2, s3, s4, s5, s6, s7, s8, s9, s10, s11, s12, s13, s14⟩; go_simp; with_reducible rfl⟩) ?_
       refine pI 19 (some 83) b3A65 HT_ ?_
       refine pI 20 (some 84) b3A66 HT_ ?_
       refine done_ (done_of HT_.out (by kernel_rfl)) ?_
       try go_wp2
       go_roundg k3
       case measure => have := HK1.out; have := HJ3.out; have := HK3.out; omega
       case rel => exact ⟨(wrap64 (x5_3 + 1)), m9, H', ⟨by have := HK1.out; have := HJ3.out; have := HK3.out; omega⟩, ⟨by exact qK BK263.out⟩, ⟨by repeat (first | (with_reducible first | exact HB.out | apply bA | apply bN | apply below_drew1 | refine bS ?_ GE263.out) | exact HB.out)⟩⟩
end Go.Proofs.Ytfoallhhdilgjaa.PFnFates
