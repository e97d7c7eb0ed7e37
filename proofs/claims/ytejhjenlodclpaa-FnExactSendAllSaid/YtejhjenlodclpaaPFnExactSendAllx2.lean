/- Walks of functions that FnExactSendAll reaches: written by a tool of the kit for this claim, then shortened by a program of ours. -/
import Derived.Test.YtejhjenlodclpaaPFnExactSendAllx0
import Derived.Test.YtejhjenlodclpaaPFnExactSendAllx1
/- narrow -/
namespace Go.Proofs.Ytejhjenlodclpaa.PFnExactSendAll
open Go.RowKit Go.Proofs.YtejhjenlodclpaaW.PrintWords Go.Proofs.YtejhjenlodclpaaW.PrintLast Go.Proofs.YtejhjenlodclpaaW.PrintMore
attribute [local go_sem] max2_int min2_int max_two min_two max_three min_three max_four min_four   -- for this text's walks alone
set_option linter.unusedVariables false
set_option linter.unusedSimpArgs false

abbrev b2A0 : Array Bool := #[bo, bo, bo, bo, bo, bo, bo, bo, bo, bo, bo, bo, bo, bo, bo, bo, bo, bo, bo, bo, bo, bo, bo, bo, bo, bo, bo, bo, bo, bo, bo, bo, bo, bo, bo, bo, bo, bo, bo, bo, bo, bo, bo, bo, bo]
abbrev b2A1 : Array Bool := #[bi, bo, bo, bo, bo, bo, bo, bo, bo, bo, bo, bo, bo, bo, bo, bo, bo, bo, bo, bo, bo, bo, bo, bo, bo, bo, bo, bo, bo, bo, bo, bo, bo, bo, bo, bo, bo, bo, bo, bo, bo, bo, bo, bo, bo]
abbrev b2A2 : Array Bool := #[bi, bi, bo, bo, bo, bo, bo, bo, bo, bo, bo, bo, bo, bo, bo, bo, bo, bo, bo, bo, bo, bo, bo, bo, bo, bo, bo, bo, bo, bo, bo, bo, bo, bo, bo, bo, bo, bo, bo, bo, bo, bo, bo, bo, bo]
abbrev b2A3 : Array Bool := #[bi, bi, bi, bo, bo, bo, bo, bo, bo, bo, bo, bo, bo, bo, bo, bo, bo, bo, bo, bo, bo, bo, bo, bo, bo, bo, bo, bo, bo, bo, bo, bo, bo, bo, bo, bo, bo, bo, bo, bo, bo, bo, bo, bo, bo]
abbrev b2A4 : Array Bool := #[bi, bi, bi, bi, bo, bo, bo, bo, bo, bo, bo, bo, bo, bo, bo, bo, bo, bo, bo, bo, bo, bo, bo, bo, bo, bo, bo, bo, bo, bo, bo, bo, bo, bo, bo, bo, bo, bo, bo, bo, bo, bo, bo, bo, bo]
abbrev b2A5 : Array Bool := #[bi, bi, bi, bi, bi, bo, bo, bo, bo, bo, bo, bo, bo, bo, bo, bo, bo, bo, bo, bo, bo, bo, bo, bo, bo, bo, bo, bo, bo, bo, bo, bo, bo, bo, bo, bo, bo, bo, bo, bo, bo, bo, bo, bo, bo]
abbrev b2A6 : Array Bool := #[bi, bi, bi, bi, bi, bi, bo, bo, bo, bo, bo, bo, bo, bo, bo, bo, bo, bo, bo, bo, bo, bo, bo, bo, bo, bo, bo, bo, bo, bo, bo, bo, bo, bo, bo, bo, bo, bo, bo, bo, bo, bo, bo, bo, bo]
abbrev b2A7 : Array Bool := #[bi, bi, bi, bi, bi, bi, bi, bo, bo, bo, bo, bo, bo, bo, bo, bo, bo, bo, bo, bo, bo, bo, bo, bo, bo, bo, bo, bo, bo, bo, bo, bo, bo, bo, bo, bo, bo, bo, bo, bo, bo, bo, bo, bo, bo]
abbrev b2A8 : Array Bool := #[bi, bi, bi, bi, bi, bi, bi, bi, bo, bo, bo, bo, bo, bo, bo, bo, bo, bo, bo, bo, bo, bo, bo, bo, bo, bo, bo, bo, bo, bo, bo, bo, bo, bo, bo, bo, bo, bo, bo, bo, bo, bo, bo, bo, bo]
abbrev b2A9 : Array Bool := #[bi, bi, bi, bi, bi, bi, bi, bi, bi, bo, bo, bo, bo, bo, bo, bo, bo, bo, bo, bo, bo, bo, bo, bo, bo, bo, bo, bo, bo, bo, bo, bo, bo, bo, bo, bo, bo, bo, bo, bo, bo, bo, bo, bo, bo]
abbrev b2A10 : Array Bool := #[bi, bi, bi, bi, bi, bi, bi, bi, bi, bi, bo, bo, bo, bo, bo, bo, bo, bo, bo, bo, bo, bo, bo, bo, bo, bo, bo, bo, bo, bo, bo, bo, bo, bo, bo, bo, bo, bo, bo, bo, bo, bo, bo, bo, bo]
abbrev b2A11 : Array Bool := #[bi, bi, bi, bi, bi, bi, bi, bi, bi, bi, bi, bo, bo, bo, bo, bo, bo, bo, bo, bo, bo, bo, bo, bo, bo, bo, bo, bo, bo, bo, bo, bo, bo, bo, bo, bo, bo, bo, bo, bo, bo, bo, bo, bo, bo]
abbrev b2A12 : Array Bool := #[bi, bi, bi, bi, bi, bi, bi, bi, bi, bi, bi, bi, bo, bo, bo, bo, bo, bo, bo, bo, bo, bo, bo, bo, bo, bo, bo, bo, bo, bo, bo, bo, bo, bo, bo, bo, bo, bo, bo, bo, bo, bo, bo, bo, bo]
abbrev b2A13 : Array Bool := #[bi, bi, bi, bi, bi, bi, bi, bi, bi, bi, bi, bi, bi, bo, bo, bo, bo, bo, bo, bo, bo, bo, bo, bo, bo, bo, bo, bo, bo, bo, bo, bo, bo, bo, bo, bo, bo, bo, bo, bo, bo, bo, bo, bo, bo]
abbrev b2A14 : Array Bool := #[bi, bi, bi, bi, bi, bi, bi, bi, bi, bi, bi, bi, bi, bi, bo, bo, bo, bo, bo, bo, bo, bo, bo, bo, bo, bo, bo, bo, bo, bo, bo, bo, bo, bo, bo, bo, bo, bo, bo, bo, bo, bo, bo, bo, bo]
abbrev b2A15 : Array Bool := #[bi, bi, bi, bi, bi, bi, bi, bi, bi, bi, bi, bi, bi, bi, bi, bo, bo, bo, bo, bo, bo, bo, bo, bo, bo, bo, bo, bo, bo, bo, bo, bo, bo, bo, bo, bo, bo, bo, bo, bo, bo, bo, bo, bo, bo]
abbrev b2A16 : Array Bool := #[bi, bi, bi, bi, bi, bi, bi, bi, bi, bi, bi, bi, bi, bi, bi, bi, bo, bo, bo, bo, bo, bo, bo, bo, bo, bo, bo, bo, bo, bo, bo, bo, bo, bo, bo, bo, bo, bo, bo, bo, bo, bo, bo, bo, bo]
abbrev b2A17 : Array Bool := #[bi, bi, bi, bi, bi, bi, bi, bi, bi, bi, bi, bi, bi, bi, bi, bi, bi, bo, bo, bo, bo, bo, bo, bo, bo, bo, bo, bo, bo, bo, bo, bo, bo, bo, bo, bo, bo, bo, bo, bo, bo, bo, bo, bo, bo]
abbrev b2A18 : Array Bool := #[bi, bi, bi, bi, bi, bi, bi, bi, bi, bi, bi, bi, bi, bi, bi, bi, bi, bi, bo, bo, bo, bo, bo, bo, bo, bo, bo, bo, bo, bo, bo, bo, bo, bo, bo, bo, bo, bo, bo, bo, bo, bo, bo, bo, bo]
abbrev b2A19 : Array Bool := #[bi, bi, bi, bi, bi, bi, bi, bi, bi, bi, bi, bi, bi, bi, bi, bi, bi, bi, bi, bo, bo, bo, bo, bo, bo, bo, bo, bo, bo, bo, bo, bo, bo, bo, bo, bo, bo, bo, bo, bo, bo, bo, bo, bo, bo]
abbrev b2A20 : Array Bool := #[bi, bi, bi, bi, bi, bi, bi, bi, bi, bi, bi, bi, bi, bi, bi, bi, bi, bi, bi, bi, bo, bo, bo, bo, bo, bo, bo, bo, bo, bo, bo, bo, bo, bo, bo, bo, bo, bo, bo, bo, bo, bo, bo, bo, bo]
abbrev b2A21 : Array Bool := #[bi, bi, bi, bi, bi, bi, bi, bi, bi, bi, bi, bi, bi, bi, bi, bi, bi, bi, bi, bi, bi, bo, bo, bo, bo, bo, bo, bo, bo, bo, bo, bo, bo, bo, bo, bo, bo, bo, bo, bo, bo, bo, bo, bo, bo]
abbrev b2A22 : Array Bool := #[bi, bi, bi, bi, bi, bi, bi, bi, bi, bi, bi, bi, bi, bi, bi, bi, bi, bi, bi, bi, bi, bi, bo, bo, bo, bo, bo, bo, bo, bo, bo, bo, bo, bo, bo, bo, bo, bo, bo, bo, bo, bo, bo, bo, bo]
abbrev b2A23 : Array Bool := #[bi, bi, bi, bi, bi, bi, bi, bi, bi, bi, bi, bi, bi, bi, bi, bi, bi, bi, bi, bi, bi, bi, bi, bo, bo, bo, bo, bo, bo, bo, bo, bo, bo, bo, bo, bo, bo, bo, bo, bo, bo, bo, bo, bo, bo]
abbrev b2A24 : Array Bool := #[bi, bi, bi, bi, bi, bi, bi, bi, bi, bi, bi, bi, bi, bi, bi, bi, bi, bi, bi, bi, bi, bi, bi, bi, bo, bo, bo, bo, bo, bo, bo, bo, bo, bo, bo, bo, bo, bo, bo, bo, bo, bo, bo, bo, bo]
abbrev b2A25 : Array Bool := #[bi, bi, bi, bi, bi, bi, bi, bi, bi, bi, bi, bi, bi, bi, bi, bi, bi, bi, bi, bi, bi, bi, bi, bi, bi, bo, bo, bo, bo, bo, bo, bo, bo, bo, bo, bo, bo, bo, bo, bo, bo, bo, bo, bo, bo]
abbrev b2A26 : Array Bool := #[bi, bi, bi, bi, bi, bi, bi, bi, bi, bi, bi, bi, bi, bi, bi, bi, bi, bi, bi, bi, bi, bi, bi, bi, bi, bi, bo, bo, bo, bo, bo, bo, bo, bo, bo, bo, bo, bo, bo, bo, bo, bo, bo, bo, bo]
abbrev b2A27 : Array Bool := #[bi, bi, bi, bi, bi, bi, bi, bi, bi, bi, bi, bi, bi, bi, bi, bi, bi, bi, bi, bi, bi, bi, bi, bi, bi, bi, bi, bo, bo, bo, bo, bo, bo, bo, bo, bo, bo, bo, bo, bo, bo, bo, bo, bo, bo]
abbrev b2A28 : Array Bool := #[bi, bi, bi, bi, bi, bi, bi, bi, bi, bi, bi, bi, bi, bi, bi, bi, bi, bi, bi, bi, bi, bi, bi, bi, bi, bi, bi, bo, bi, bo, bo, bo, bo, bo, bo, bo, bo, bo, bo, bo, bo, bo, bo, bo, bo]
abbrev b2A29 : Array Bool := #[bi, bi, bi, bi, bi, bi, bi, bi, bi, bi, bi, bi, bi, bi, bi, bi, bi, bi, bi, bi, bi, bi, bi, bi, bi, bi, bi, bo, bi, bi, bo, bo, bo, bo, bo, bo, bo, bo, bo, bo, bo, bo, bo, bo, bo]
abbrev b2A30 : Array Bool := #[bi, bi, bi, bi, bi, bi, bi, bi, bi, bi, bi, bi, bi, bi, bi, bi, bi, bi, bi, bi, bi, bi, bi, bi, bi, bi, bi, bo, bi, bi, bi, bo, bo, bo, bo, bo, bo, bo, bo, bo, bo, bo, bo, bo, bo]
abbrev b2A31 : Array Bool := #[bi, bi, bi, bi, bi, bi, bi, bi, bi, bi, bi, bi, bi, bi, bi, bi, bi, bi, bi, bi, bi, bi, bi, bi, bi, bi, bi, bo, bi, bi, bi, bi, bo, bo, bo, bo, bo, bo, bo, bo, bo, bo, bo, bo, bo]
abbrev b2A32 : Array Bool := #[bi, bi, bi, bi, bi, bi, bi, bi, bi, bi, bi, bi, bi, bi, bi, bi, bi, bi, bi, bi, bi, bi, bi, bi, bi, bi, bi, bo, bi, bi, bi, bi, bi, bo, bo, bo, bo, bo, bo, bo, bo, bo, bo, bo, bo]
abbrev b2A33 : Array Bool := #[bi, bi, bi, bi, bi, bi, bi, bi, bi, bi, bi, bi, bi, bi, bi, bi, bi, bi, bi, bi, bi, bi, bi, bi, bi, bi, bi, bi, bi, bi, bi, bi, bi, bo, bo, bo, bo, bo, bo, bo, bo, bo, bo, bo, bo]
abbrev b2A34 : Array Bool := #[bi, bi, bi, bi, bi, bi, bi, bi, bi, bi, bi, bi, bi, bi, bi, bi, bi, bi, bi, bi, bi, bi, bi, bi, bi, bi, bi, bi, bi, bi, bi, bi, bi, bi, bo, bo, bo, bo, bo, bo, bo, bo, bo, bo, bo]
abbrev b2A35 : Array Bool := #[bi, bi, bi, bi, bi, bi, bi, bi, bi, bi, bi, bi, bi, bi, bi, bi, bi, bi, bi, bi, bi, bi, bi, bi, bi, bi, bi, bi, bi, bi, bi, bi, bi, bi, bi, bo, bo, bo, bo, bo, bo, bo, bo, bo, bo]
abbrev b2A36 : Array Bool := #[bi, bi, bi, bi, bi, bi, bi, bi, bi, bi, bi, bi, bi, bi, bi, bi, bi, bi, bi, bi, bi, bi, bi, bi, bi, bi, bi, bi, bi, bi, bi, bi, bi, bi, bi, bi, bo, bo, bo, bo, bo, bo, bo, bo, bo]
abbrev b2A37 : Array Bool := #[bi, bi, bi, bi, bi, bi, bi, bi, bi, bi, bi, bi, bi, bi, bi, bi, bi, bi, bi, bi, bi, bi, bi, bi, bi, bi, bi, bi, bi, bi, bi, bi, bi, bi, bi, bi, bi, bo, bo, bo, bo, bo, bo, bo, bo]
abbrev b2A38 : Array Bool := #[bi, bi, bi, bi, bi, bi, bi, bi, bi, bi, bi, bi, bi, bi, bi, bi, bi, bi, bi, bi, bi, bi, bi, bi, bi, bi, bi, bi, bi, bi, bi, bi, bi, bi, bi, bi, bi, bi, bo, bo, bo, bo, bo, bo, bo]
abbrev b2A39 : Array Bool := #[bi, bi, bi, bi, bi, bi, bi, bi, bi, bi, bi, bi, bi, bi, bi, bi, bi, bi, bi, bi, bi, bi, bi, bi, bi, bi, bi, bi, bi, bi, bi, bi, bi, bi, bi, bi, bi, bi, bi, bo, bo, bo, bo, bo, bo]
abbrev b2A40 : Array Bool := #[bi, bi, bi, bi, bi, bi, bi, bi, bi, bi, bi, bi, bi, bi, bi, bi, bi, bi, bi, bi, bi, bi, bi, bi, bi, bi, bi, bi, bi, bi, bi, bi, bi, bi, bi, bi, bi, bi, bi, bi, bo, bo, bo, bo, bo]
abbrev b2A41 : Array Bool := #[bi, bi, bi, bi, bi, bi, bi, bi, bi, bi, bi, bi, bi, bi, bi, bi, bi, bi, bi, bi, bi, bi, bi, bi, bi, bi, bi, bi, bi, bi, bi, bi, bi, bi, bi, bi, bi, bi, bi, bi, bi, bo, bo, bo, bo]
abbrev b2A42 : Array Bool := #[bi, bi, bi, bi, bi, bi, bi, bi, bi, bi, bi, bi, bi, bi, bi, bi, bi, bi, bi, bi, bi, bi, bi, bi, bi, bi, bi, bi, bi, bi, bi, bi, bi, bi, bi, bi, bi, bi, bi, bi, bi, bi, bo, bo, bo]
abbrev b2A43 : Array Bool := #[bi, bi, bi, bi, bi, bi, bi, bi, bi, bi, bi, bi, bi, bi, bi, bi, bi, bi, bi, bi, bi, bi, bi, bi, bi, bi, bi, bi, bi, bi, bi, bi, bi, bi, bi, bi, bi, bi, bi, bi, bi, bi, bi, bo, bo]
abbrev b2A44 : Array Bool := #[bi, bi, bi, bi, bi, bi, bi, bi, bi, bi, bi, bi, bi, bi, bi, bi, bi, bi, bi, bi, bi, bi, bi, bi, bi, bi, bi, bi, bi, bi, bi, bi, bi, bi, bi, bi, bi, bi, bi, bi, bi, bi, bi, bi, bo]
abbrev b2A45 : Array Bool := #[bi, bi, bi, bi, bi, bi, bi, bi, bi, bi, bi, bi, bi, bi, bi, bi, bi, bi, bi, bi, bi, bi, bi, bi, bi, bi, bi, bi, bi, bi, bi, bi, bi, bi, bi, bi, bi, bi, bi, bi, bi, bi, bi, bi, bi]
abbrev b2A46 : Array Bool := #[bi, bi, bi, bi, bi, bi, bi, bi, bi, bi, bi, bi, bi, bi, bi, bi, bi, bi, bi, bi, bi, bi, bi, bi, bi, bi, bi, bi, bi, bi, bi, bi, bi, bi, bi, bi, bi, bi, bi, bo, bi, bo, bo, bo, bo]
abbrev b2A47 : Array Bool := #[bi, bi, bi, bi, bi, bi, bi, bi, bi, bi, bi, bi, bi, bi, bi, bi, bi, bi, bi, bi, bi, bi, bi, bi, bi, bi, bi, bi, bo, bo, bo, bo, bo, bo, bo, bo, bo, bo, bo, bo, bo, bo, bo, bo, bo]
abbrev b2A48 : Array Bool := #[bi, bi, bi, bi, bi, bi, bi, bi, bi, bi, bi, bi, bi, bi, bi, bi, bi, bi, bi, bi, bi, bi, bi, bi, bi, bi, bi, bi, bi, bo, bo, bo, bo, bo, bo, bo, bo, bo, bo, bo, bo, bo, bo, bo, bo]
abbrev b2A49 : Array Bool := #[bi, bi, bi, bi, bi, bi, bi, bi, bi, bi, bi, bi, bi, bi, bi, bi, bi, bi, bi, bi, bi, bi, bi, bi, bi, bi, bi, bi, bi, bi, bo, bo, bo, bo, bo, bo, bo, bo, bo, bo, bo, bo, bo, bo, bo]
abbrev b2A50 : Array Bool := #[bi, bi, bi, bi, bi, bi, bi, bi, bi, bi, bi, bi, bi, bi, bi, bi, bi, bi, bi, bi, bi, bi, bi, bi, bi, bi, bi, bi, bi, bi, bi, bo, bo, bo, bo, bo, bo, bo, bo, bo, bo, bo, bo, bo, bo]
abbrev b2A51 : Array Bool := #[bi, bi, bi, bi, bi, bi, bi, bi, bi, bi, bi, bi, bi, bi, bi, bi, bi, bi, bi, bi, bi, bi, bi, bi, bi, bi, bi, bi, bi, bi, bi, bi, bo, bo, bo, bo, bo, bo, bo, bo, bo, bo, bo, bo, bo]
abbrev b2A52 : Array Bool := #[bo, bo, bo, bo, bo, bo, bo]
abbrev b2A53 : Array Bool := #[bi, bo, bo, bo, bo, bo, bo]
abbrev b2A54 : Array Bool := #[bi, bi, bo, bo, bo, bo, bo]
abbrev b2A55 : Array Bool := #[bi, bi, bi, bo, bo, bo, bo]
abbrev b2A56 : Array Bool := #[bi, bi, bi, bi, bo, bo, bo]
abbrev b2A57 : Array Bool := #[bi, bi, bi, bi, bi, bo, bo]
abbrev b2A58 : Array Bool := #[bi, bi, bi, bi, bi, bi, bo]
abbrev b2A59 : Array Bool := #[bi, bi, bi, bi, bi, bi, bi]
/-! ### impl_IsChain: function 34 -/
mutual
def impl_IsChain.l0 : Nat → List (S138) → Int → List (S138) → Int → Int → Option (Bool)
 | 0, _, _, _, _, _ => none
 | k + 1, x0, x3, x10, x11, x12 => if x12 < x11 then (if 0 ≤ x12 then (if x12 < (x10.length : Int) then ((impl_InRange.f ((rd_T138 x10 x12).f0) 1 999).bind fun t113 => (if t113 = true then ((impl_InRange.f ((rd_T138 x10 x12).f1) 1 5).bind fun t114 => (if t114 = true then ((impl_InRange.f ((rd_T138 x10 x12).f2) 0 999).bind fun t115 => (if t115 = true then ((impl_InRange.f ((rd_T138 x10 x12).f3) 0 100000).bind fun t116 => (if t116 = true then (if x12 > 0 then (if 0 ≤ (wrap64 (x12 - 1)) then (if (wrap64 (x12 - 1)) < (x0.length : Int) then (if ((rd_T138 x10 x12).f3) < ((rd_T138 x0 (wrap64 (x12 - 1))).f3) then (impl_IsChain.j1 k x0 x12 x10 x11 x12 true ((rd_T138 x10 x12).f0) ((rd_T138 x10 x12).f1) ((rd_T138 x10 x12).f2) ((rd_T138 x10 x12).f3) ((rd_T138 x10 x12).f4)) else ((impl_HandSeal.f k x3 ((rd_T138 x10 x12).f0) ((rd_T138 x10 x12).f1) ((rd_T138 x10 x12).f2) ((rd_T138 x10 x12).f3) ((rd_T138 x10 x12).f4)).bind fun t118 => (impl_IsChain.j1 k x0 x12 x10 x11 x12 (((rd_T138 x10 x12).f4) != t118) ((rd_T138 x10 x12).f0) ((rd_T138 x10 x12).f1) ((rd_T138 x10 x12).f2) ((rd_T138 x10 x12).f3) ((rd_T138 x10 x12).f4)))) else (none)) else (none)) else ((impl_HandSeal.f k x3 ((rd_T138 x10 x12).f0) ((rd_T138 x10 x12).f1) ((rd_T138 x10 x12).f2) ((rd_T138 x10 x12).f3) ((rd_T138 x10 x12).f4)).bind fun t119 => (impl_IsChain.j1 k x0 x12 x10 x11 x12 (((rd_T138 x10 x12).f4) != t119) ((rd_T138 x10 x12).f0) ((rd_T138 x10 x12).f1) ((rd_T138 x10 x12).f2) ((rd_T138 x10 x12).f3) ((rd_T138 x10 x12).f4)))) else (impl_IsChain.j1 k x0 x12 x10 x11 x12 true ((rd_T138 x10 x12).f0) ((rd_T138 x10 x12).f1) ((rd_T138 x10 x12).f2) ((rd_T138 x10 x12).f3) ((rd_T138 x10 x12).f4)))) else (impl_IsChain.j1 k x0 x12 x10 x11 x12 true ((rd_T138 x10 x12).f0) ((rd_T138 x10 x12).f1) ((rd_T138 x10 x12).f2) ((rd_T138 x10 x12).f3) ((rd_T138 x10 x12).f4)))) else (impl_IsChain.j1 k x0 x12 x10 x11 x12 true ((rd_T138 x10 x12).f0) ((rd_T138 x10 x12).f1) ((rd_T138 x10 x12).f2) ((rd_T138 x10 x12).f3) ((rd_T138 x10 x12).f4)))) else (impl_IsChain.j1 k x0 x12 x10 x11 x12 true ((rd_T138 x10 x12).f0) ((rd_T138 x10 x12).f1) ((rd_T138 x10 x12).f2) ((rd_T138 x10 x12).f3) ((rd_T138 x10 x12).f4)))) else (none)) else (none)) else (some true)
def impl_IsChain.j1 : Nat → List (S138) → Int → List (S138) → Int → Int → Bool → Int → Int → Int → Int → Int → Option (Bool)
 | 0, _, _, _, _, _, _, _, _, _, _, _ => none
 | k + 1, x0, x4, x10, x11, x12, x61, x113000, x113001, x113002, x113003, x113004 => if x61 = true then (some false) else (if 0 ≤ x4 then (if x4 ≤ (x0.length : Int) then ((impl_lastHand.f k (x0.take (x4 : Int).toNat) x113000).bind fun t124 => (if t124 < 0 then (if x113001 > 2 then (some false) else (impl_IsChain.l0 k x0 x113004 x10 x11 (wrap64 (x12 + 1)))) else (if x113001 = 1 then (some false) else (if 0 ≤ t124 then (if t124 < (x0.length : Int) then (if ((rd_T138 x0 t124).f1) > 2 then (some false) else (impl_IsChain.l0 k x0 x113004 x10 x11 (wrap64 (x12 + 1)))) else (none)) else (none))))) else (none)) else (none))
end
def impl_IsChain.f (k : Nat) (l0 : List (S138)) : Option (Bool) := if (l0.length : Int) > 100 then (some false) else (impl_IsChain.l0 k l0 0 l0 (l0.length : Int) 0)
def impl_IsChain.T7 : Bool × List (List Nat × List Nat) := (true, [([], []), ([0], [0]), ([1], [1]), ([2], [2]), ([3, 2], [3]), ([4], [4]), ([5, 4], [4, 5]), ([6, 4, 4], [4, 6]), ([7, 4], [4, 7]), ([4, 8], [4, 8]), ([9, 7], [9]), ([10], [10]), ([11, 10], [10, 11]), ([12, 10, 10], [10, 12]), ([13, 10], [10, 13]), ([10, 14], [10, 14]), ([15, 13], [15]), ([16], [16]), ([17, 16], [16, 17]), ([18, 16, 16], [16, 18]), ([19, 16], [16, 19]), ([16, 20], [16, 20]), ([21, 19], [21]), ([22], [22]), ([23, 22], [22, 23]), ([24, 22, 22], [22, 24]), ([25], [25]), ([26, 25], [25, 26]), ([25], [25]), ([25], [25]), ([29, 25], [25, 29]), ([28, 30, 25], [25, 28, 30]), ([31, 25], [25, 31]), ([32, 25], [25, 32]), ([27, 33, 25], [25, 27, 33]), ([25, 34, 22], [22, 25, 34]), ([22, 35], [22, 35]), ([36, 25], [36]), ([37], [37]), ([38, 37], [37, 38]), ([37], [37]), ([37], [37]), ([40, 41, 37, 37], [37, 40, 41]), ([39, 42, 37], [37, 39, 42]), ([37, 43], [37, 43])])
def impl_IsChain.B7 : List Nat := [0, 1, 3, 7, 15, 31, 63, 127, 255, 511, 1023, 2047, 4095, 8191, 16383, 32767, 65535, 131071, 262143, 524287, 1048575, 2097151, 4194303, 8388607, 16777215, 33554431, 67108863, 134217727, 67108863, 67108863, 603979775, 1946157055, 4093640703, 8388607999, 17179869183, 34359738367, 68719476735, 137438953471, 274877906943, 549755813887, 274877906943, 274877906943, 3573412790271, 8796093022207, 17592186044415]
theorem impl_IsChain.tab7 : rtab .any (opsOf Try.f34 7) = impl_IsChain.T7 := by kernel_rfl
theorem impl_IsChain.bits7 : waitsOk impl_IsChain.T7.2 impl_IsChain.B7 = true := by kernel_rfl
set_option maxHeartbeats 8000000 in
set_option maxRecDepth 100000 in
theorem impl_IsChain.calls (k : Nat) (A0 : Option Addr) (c0 : Nat) (l0 : List (S138)) (r : Bool) (w : World) (hr0 : Kd.C k138 w A0 l0.length l0) (hc0 : l0.length ≤ c0) (h : impl_IsChain.f k l0 = some r) :
  Calls Try.prog 34 #[.slice A0 l0.length c0] w fun e w' => e = .returned (.bool r) ∧ Below w.heap.size w w' := by
 have hu138 := Try.underlying138
 have HR0 := zK hr0
 have HC0 := zK hc0
 clear hr0 hc0
 have HB := zK (Below.refl w.heap.size w)
 have H : (if (l0.length : Int) > 100 then (some false) else (impl_IsChain.l0 k l0 0 l0 (l0.length : Int) 0)) = some r := h
 clear h
 by_cases c2 : (l0.length : Int) > 100
 ·rw [if_pos c2] at H
  have c2b0 : decide (100 < (l0.length : Int)) = true := decide_eq_true c2
  have c2b1 : decide (100 < l0.length) = true := decide_eq_true (by omega)
  clear c2
  obtain rfl := Option.some.inj H
  go_enter Try.func34, Try.ntmps34
  go_wp2
  go_ret
  exact ⟨by first | rfl | (simp [errW_none, errW_some] <;> rfl) | (simp [*, errW_none, errW_some] <;> rfl), by exact qB HB.out⟩
 rw [if_neg c2] at H
 have c2b0 : decide (100 < (l0.length : Int)) = false := decide_eq_false c2
 have c2b1 : decide (100 < l0.length) = false := decide_eq_false (by omega)
 clear c2
 have H' := zK H
 clear H
 go_enter Try.func34, Try.ntmps34
 go_wp2
 go_loopg [3, 12] k (fun kq v3 v12 w' => ∃ (x3_1 : Int) (x12_1 : Int), v3 = .int .i64 x3_1 ∧ v12 = .int .i64 x12_1 ∧ Aside0 (impl_IsChain.l0 kq l0 x3_1 l0 (l0.length : Int) x12_1 = some r) ∧ Aside0 (kq ≤ k) ∧ Aside0 (Below w.heap.size w w'))
 case atStart => exact ⟨(0), (0), M3, M3, H', ⟨Nat.le_refl _⟩, ⟨by exact qB HB.out⟩⟩
 case round =>
  clear H'
  try clear c2
  try clear c2b0
  try clear c2b1
  try clear p2
  obtain ⟨x3_1, x12_1, rfl, rfl, HA, HK1, HB⟩ := hrel
  cases gk with
  | zero => exact absurd HA.out (by simp [impl_IsChain.l0])
  | succ k1 =>
   have H := HA.out
   clear HA
   simp only [impl_IsChain.l0] at H
   by_cases c3 : x12_1 < (l0.length : Int)
   rotate_left
   ·rw [if_neg c3] at H
    have c3b0 : decide (x12_1 < (l0.length : Int)) = false := decide_eq_false c3
    clear c3
    obtain rfl := Option.some.inj H
    go_wp2
    go_ret
    exact ⟨by first | rfl | (simp [errW_none, errW_some] <;> rfl) | (simp [*, errW_none, errW_some] <;> rfl), by exact qB HB.out⟩

   rw [if_pos c3] at H
   have c3b0 : decide (x12_1 < (l0.length : Int)) = true := decide_eq_true c3
   clear c3
   by_cases c4 : 0 ≤ x12_1
   rotate_left
   ·rw [if_neg c4] at H
    exact absurd H (by simp)
   rw [if_pos c4] at H
   have c4b0 : decide (0 ≤ x12_1) = true := decide_eq_true c4
   clear c4
   by_cases c5 : x12_1 < (l0.length : Int)
   rotate_left
   ·rw [if_neg c5] at H
    exact absurd H (by simp)
   rw [if_pos c5] at H
   have c5b0 : decide (x12_1 < (l0.length : Int)) = true := decide_eq_true c5
   clear c5
   have HC6 := zK H
   clear H
   have p111 : 0 ≤ (x12_1 : Int) := oD M1
   have q111 : x12_1 < (l0.length : Int) := oD M1
   obtain ⟨ad111, e111, hx111_0, hx111_1, hx111_2, hx111_3, hx111_4⟩ := at_T138 HR0.out x12_1 p111 q111
   cases e111
   replace hx111_0 := (HB.out.cell (bL w hx111_0)).trans hx111_0
   replace hx111_1 := (HB.out.cell (bL w hx111_1)).trans hx111_1
   replace hx111_2 := (HB.out.cell (bL w hx111_2)).trans hx111_2
   replace hx111_3 := (HB.out.cell (bL w hx111_3)).trans hx111_3
   replace hx111_4 := (HB.out.cell (bL w hx111_4)).trans hx111_4
   replace p111 := eq_true p111
   replace q111 := eq_true q111
   go_upto_region 7 with (first | ((with_reducible refine gate_dst (N := 5) rfl ?_); refine box_event ?hg (N := 5) ?hd (cs := #[.int .i64 0, .int .i64 0, .int .i64 0, .int .i64 0, .int .i64 0]) (t := 138) ?hr ?_; (case hd => rfl); (case hg => rfl); (case hr => first | (go_simp; done) | (go_simp; rfl)); intro gb112 hg w7 hbox hb; have n0_ := zK (bT (qB HB.out) hb); have n1_ := zK (hbox); have n2_ := zK ((by rw [hg]; exact (bZ (qB HB.out)) : w.heap.size ≤ gb112)); have n3_ := zK ((by rw [hg]; exact (bZ (qB HB.out)) : w.heap.size ≤ gb112)); clear HB; have HB := n0_; have BK112 := n1_; have GW112 := n2_; have GE112 := n3_; clear n0_ n1_ n2_ n3_; clear hb hbox hg; have hcz8_0 : w7.cell? ⟨gb112, 0, none⟩ = some (.int .i64 0) := (bc BK112.out 0).trans rfl; have hcz8_1 : w7.cell? ⟨gb112, 1, none⟩ = some (.int .i64 0) := (bc BK112.out 1).trans rfl; have hcz8_2 : w7.cell? ⟨gb112, 2, none⟩ = some (.int .i64 0) := (bc BK112.out 2).trans rfl; have hcz8_3 : w7.cell? ⟨gb112, 3, none⟩ = some (.int .i64 0) := (bc BK112.out 3).trans rfl; have hcz8_4 : w7.cell? ⟨gb112, 4, none⟩ = some (.int .i64 0) := (bc BK112.out 4).trans rfl; have hfz8_0 := bf BK112.out 0; have hfz8_1 := bf BK112.out 1; have hfz8_2 := bf BK112.out 2; have hfz8_3 := bf BK112.out 3; have hfz8_4 := bf BK112.out 4))
   (try simp only [Act.put, sA, sZ, sS])
   go_cut [61] (fun v61 wc => ∃ (kq : Nat) (x61_5 : Bool), v61 = .bool x61_5 ∧ Aside0 (impl_IsChain.j1 kq l0 x12_1 l0 (l0.length : Int) x12_1 x61_5 ((rd_T138 l0 x12_1).f0) ((rd_T138 l0 x12_1).f1) ((rd_T138 l0 x12_1).f2) ((rd_T138 l0 x12_1).f3) ((rd_T138 l0 x12_1).f4) = some r) ∧ Aside0 (kq ≤ k1) ∧ Aside0 (wc.heap[gb112]? = some (.cells #[.int .i64 ((rd_T138 l0 x12_1).f0), .int .i64 ((rd_T138 l0 x12_1).f1), .int .i64 ((rd_T138 l0 x12_1).f2), .int .i64 ((rd_T138 l0 x12_1).f3), .int .i64 ((rd_T138 l0 x12_1).f4)] 138 (0, 0))) ∧ Aside0 (Below w.heap.size w wc))
   case first =>
    have H := HC6.out
    clear HC6
    replace H := Option.bind_eq_some_iff.mp H
    obtain ⟨t113, A90, H⟩ := H
    replace H : (if t113 = true then ((impl_InRange.f ((rd_T138 l0 x12_1).f1) 1 5).bind fun t114 => (if t114 = true then ((impl_InRange.f ((rd_T138 l0 x12_1).f2) 0 999).bind fun t115 => (if t115 = true then ((impl_InRange.f ((rd_T138 l0 x12_1).f3) 0 100000).bind fun t116 => (if t116 = true then (if x12_1 > 0 then (if 0 ≤ (wrap64 (x12_1 - 1)) then (if (wrap64 (x12_1 - 1)) < (l0.length : Int) then (if ((rd_T138 l0 x12_1).f3) < ((rd_T138 l0 (wrap64 (x12_1 - 1))).f3) then (impl_IsChain.j1 k1 l0 x12_1 l0 (l0.length : Int) x12_1 true ((rd_T138 l0 x12_1).f0) ((rd_T138 l0 x12_1).f1) ((rd_T138 l0 x12_1).f2) ((rd_T138 l0 x12_1).f3) ((rd_T138 l0 x12_1).f4)) else ((impl_HandSeal.f k1 x3_1 ((rd_T138 l0 x12_1).f0) ((rd_T138 l0 x12_1).f1) ((rd_T138 l0 x12_1).f2) ((rd_T138 l0 x12_1).f3) ((rd_T138 l0 x12_1).f4)).bind fun t118 => (impl_IsChain.j1 k1 l0 x12_1 l0 (l0.length : Int) x12_1 (((rd_T138 l0 x12_1).f4) != t118) ((rd_T138 l0 x12_1).f0) ((rd_T138 l0 x12_1).f1) ((rd_T138 l0 x12_1).f2) ((rd_T138 l0 x12_1).f3) ((rd_T138 l0 x12_1).f4)))) else (none)) else (none)) else ((impl_HandSeal.f k1 x3_1 ((rd_T138 l0 x12_1).f0) ((rd_T138 l0 x12_1).f1) ((rd_T138 l0 x12_1).f2) ((rd_T138 l0 x12_1).f3) ((rd_T138 l0 x12_1).f4)).bind fun t119 => (impl_IsChain.j1 k1 l0 x12_1 l0 (l0.length : Int) x12_1 (((rd_T138 l0 x12_1).f4) != t119) ((rd_T138 l0 x12_1).f0) ((rd_T138 l0 x12_1).f1) ((rd_T138 l0 x12_1).f2) ((rd_T138 l0 x12_1).f3) ((rd_T138 l0 x12_1).f4)))) else (impl_IsChain.j1 k1 l0 x12_1 l0 (l0.length : Int) x12_1 true ((rd_T138 l0 x12_1).f0) ((rd_T138 l0 x12_1).f1) ((rd_T138 l0 x12_1).f2) ((rd_T138 l0 x12_1).f3) ((rd_T138 l0 x12_1).f4)))) else (impl_IsChain.j1 k1 l0 x12_1 l0 (l0.length : Int) x12_1 true ((rd_T138 l0 x12_1).f0) ((rd_T138 l0 x12_1).f1) ((rd_T138 l0 x12_1).f2) ((rd_T138 l0 x12_1).f3) ((rd_T138 l0 x12_1).f4)))) else (impl_IsChain.j1 k1 l0 x12_1 l0 (l0.length : Int) x12_1 true ((rd_T138 l0 x12_1).f0) ((rd_T138 l0 x12_1).f1) ((rd_T138 l0 x12_1).f2) ((rd_T138 l0 x12_1).f3) ((rd_T138 l0 x12_1).f4)))) else (impl_IsChain.j1 k1 l0 x12_1 l0 (l0.length : Int) x12_1 true ((rd_T138 l0 x12_1).f0) ((rd_T138 l0 x12_1).f1) ((rd_T138 l0 x12_1).f2) ((rd_T138 l0 x12_1).f3) ((rd_T138 l0 x12_1).f4))) = some r := H
    have A9 := zK A90
    clear A90
    by_cases c10 : t113 = true
    rotate_left
    ·replace c10 := Bool.eq_false_iff.mpr c10
     subst c10
     have H1 : (impl_IsChain.j1 k1 l0 x12_1 l0 (l0.length : Int) x12_1 true ((rd_T138 l0 x12_1).f0) ((rd_T138 l0 x12_1).f1) ((rd_T138 l0 x12_1).f2) ((rd_T138 l0 x12_1).f3) ((rd_T138 l0 x12_1).f4)) = some r := by rw [if_neg (show ¬ (false = true) by decide)] at H; exact H
     clear H
     have H := H1
     clear H1
     have H' := zK H
     clear H
     try go_wp2
     have n0_ : Aside0 ((((((w7.setCell ⟨gb112, 0, none⟩ (.int .i64 ((rd_T138 l0 x12_1).f0))).setCell ⟨gb112, 1, none⟩ (.int .i64 ((rd_T138 l0 x12_1).f1))).setCell ⟨gb112, 2, none⟩ (.int .i64 ((rd_T138 l0 x12_1).f2))).setCell ⟨gb112, 3, none⟩ (.int .i64 ((rd_T138 l0 x12_1).f3))).setCell ⟨gb112, 4, none⟩ (.int .i64 ((rd_T138 l0 x12_1).f4))).heap[gb112]? = some (.cells #[.int .i64 ((rd_T138 l0 x12_1).f0), .int .i64 ((rd_T138 l0 x12_1).f1), .int .i64 ((rd_T138 l0 x12_1).f2), .int .i64 ((rd_T138 l0 x12_1).f3), .int .i64 ((rd_T138 l0 x12_1).f4)] 138 (0, 0))) := ⟨by (with_reducible repeat (first | refine kN ?_ _ | refine kD ?_ | refine kA ?_ _)); refine blk_put (cs := #[.int .i64 ((rd_T138 l0 x12_1).f0), .int .i64 ((rd_T138 l0 x12_1).f1), .int .i64 ((rd_T138 l0 x12_1).f2), .int .i64 ((rd_T138 l0 x12_1).f3), .int .i64 0]) ?_ 4 _ rfl; (with_reducible repeat (first | refine kN ?_ _ | refine kD ?_ | refine kA ?_ _)); refine blk_put (cs := #[.int .i64 ((rd_T138 l0 x12_1).f0), .int .i64 ((rd_T138 l0 x12_1).f1), .int .i64 ((rd_T138 l0 x12_1).f2), .int .i64 0, .int .i64 0]) ?_ 3 _ rfl; (with_reducible repeat (first | refine kN ?_ _ | refine kD ?_ | refine kA ?_ _)); refine blk_put (cs := #[.int .i64 ((rd_T138 l0 x12_1).f0), .int .i64 ((rd_T138 l0 x12_1).f1), .int .i64 0, .int .i64 0, .int .i64 0]) ?_ 2 _ rfl; (with_reducible repeat (first | refine kN ?_ _ | refine kD ?_ | refine kA ?_ _)); refine blk_put (cs := #[.int .i64 ((rd_T138 l0 x12_1).f0), .int .i64 0, .int .i64 0, .int .i64 0, .int .i64 0]) ?_ 1 _ rfl; (with_reducible repeat (first | refine kN ?_ _ | refine kD ?_ | refine kA ?_ _)); refine blk_put (cs := #[.int .i64 0, .int .i64 0, .int .i64 0, .int .i64 0, .int .i64 0]) ?_ 0 _ rfl; exact qK BK112.out⟩
     have n1_ : Aside0 (Below w.heap.size w (((((w7.setCell ⟨gb112, 0, none⟩ (.int .i64 ((rd_T138 l0 x12_1).f0))).setCell ⟨gb112, 1, none⟩ (.int .i64 ((rd_T138 l0 x12_1).f1))).setCell ⟨gb112, 2, none⟩ (.int .i64 ((rd_T138 l0 x12_1).f2))).setCell ⟨gb112, 3, none⟩ (.int .i64 ((rd_T138 l0 x12_1).f3))).setCell ⟨gb112, 4, none⟩ (.int .i64 ((rd_T138 l0 x12_1).f4)))) := ⟨by repeat (first | (with_reducible first | exact HB.out | apply bA | apply bN | apply b1 | refine bS ?_ GE112.out) | exact HB.out)⟩
     (try clear BK112)
     (try clear HB)
     generalize (((((w7.setCell ⟨gb112, 0, none⟩ (.int .i64 ((rd_T138 l0 x12_1).f0))).setCell ⟨gb112, 1, none⟩ (.int .i64 ((rd_T138 l0 x12_1).f1))).setCell ⟨gb112, 2, none⟩ (.int .i64 ((rd_T138 l0 x12_1).f2))).setCell ⟨gb112, 3, none⟩ (.int .i64 ((rd_T138 l0 x12_1).f3))).setCell ⟨gb112, 4, none⟩ (.int .i64 ((rd_T138 l0 x12_1).f4))) = w38 at n0_ n1_ ⊢
     have BK112 := n0_
     have HB := n1_
     clear n0_ n1_
     have n0_ := zK (kD BK112.out)
     have n1_ := zK (b1 HB.out)
     clear BK112
     clear HB
     have BK112 := n0_
     have HB := n1_
     clear n0_ n1_
     refine start_ (n := 45) (S := fun w' => w'.cell? ⟨gb112, 0, none⟩ = some (.int .i64 ((rd_T138 l0 x12_1).f0)) ∧ w'.cell? ⟨gb112, 1, none⟩ = some (.int .i64 ((rd_T138 l0 x12_1).f1)) ∧ w'.cell? ⟨gb112, 2, none⟩ = some (.int .i64 ((rd_T138 l0 x12_1).f2)) ∧ w'.cell? ⟨gb112, 3, none⟩ = some (.int .i64 ((rd_T138 l0 x12_1).f3)) ∧ w'.cell? ⟨gb112, 4, none⟩ = some (.int .i64 ((rd_T138 l0 x12_1).f4))) (ds := []) b2A0 (by kernel_rfl) rfl rfl ⟨(bc BK112.out 0).trans rfl, (bc BK112.out 1).trans rfl, (bc BK112.out 2).trans rfl, (bc BK112.out 3).trans rfl, (bc BK112.out 4).trans rfl⟩ (fun hHeld => ?_); refine with_tabW impl_IsChain.tab7 impl_IsChain.bits7 (fun HT_ HW_ => ?_)
     generalize w38.drew = w39 at BK112 HB hHeld ⊢
     refine pI 0 (some 17) b2A1 HT_ ?_
     refine tI 1 (some 18) b2A2 HT_ HW_ hHeld rfl rfl (Or.inl ⟨by rfl, by rintro w' ⟨s0, s1, s2, s3, s4⟩; go_simp; with_reducible rfl⟩) ?_
     refine one_ (i := 2) (N := some 19) b2A3 rfl rfl (one_of HT_.out (by kernel_rfl)) (by decide) (fun K hK => ?_)
     refine goes_ Try.func106 (by kernel_rfl) rfl #[.int .i64 ((rd_T138 l0 x12_1).f0), .int .i64 1, .int .i64 999] (by rfl) rfl rfl M0 ?_
     with_reducible refine (impl_InRange.calls ((rd_T138 l0 x12_1).f0) 1 999 false _ A9.out).mono ?_
     rintro e w' ⟨rfl, ⟨nd, rfl⟩⟩
     refine ⟨_, rfl, ?_⟩
     refine hK.out _ _ ⟨(bc BK112.out 0).trans rfl, (bc BK112.out 1).trans rfl, (bc BK112.out 2).trans rfl, (bc BK112.out 3).trans rfl, (bc BK112.out 4).trans rfl⟩ (fun hHeld => ?_)
     clear hK K
     refine norm_ (a' := ?_) ?_ ?_
     rotate_left
     ·show Act.put _ (some 19) _ = _
      simp only [Act.put, sA, sZ, sS, i64_w, i32_w]
      rfl
     refine pI 3 (some 20) b2A4 HT_ ?_
     refine pI 4 (some 21) b2A5 HT_ ?_
     refine pU 5 (some 22) b2A6 HT_ ?_
     refine pU 6 (some 23) b2A7 HT_ ?_
     refine pU 7 (some 24) b2A8 HT_ ?_
     refine pU 8 (some 25) b2A9 HT_ ?_
     refine pI 9 (some 26) b2A10 HT_ ?_
     refine pI 10 (some 27) b2A11 HT_ ?_
     refine pU 11 (some 28) b2A12 HT_ ?_
     refine pU 12 (some 29) b2A13 HT_ ?_
     refine pU 13 (some 30) b2A14 HT_ ?_
     refine pU 14 (some 31) b2A15 HT_ ?_
     refine pI 15 (some 32) b2A16 HT_ ?_
     refine pI 16 (some 33) b2A17 HT_ ?_
     refine pU 17 (some 34) b2A18 HT_ ?_
     refine pU 18 (some 35) b2A19 HT_ ?_
     refine pU 19 (some 36) b2A20 HT_ ?_
     refine pU 20 (some 37) b2A21 HT_ ?_
     refine pI 21 (some 38) b2A22 HT_ ?_
     refine pI 22 (some 39) b2A23 HT_ ?_
     refine pU 23 (some 40) b2A24 HT_ ?_
     refine pU 24 (some 41) b2A25 HT_ ?_
     refine pU 25 (some 42) b2A26 HT_ ?_
     refine pU 26 (some 43) b2A27 HT_ ?_
     refine pU 27 (some 44) b2A47 HT_ ?_
     refine pU 28 (some 45) b2A48 HT_ ?_
     refine pU 29 (some 46) b2A49 HT_ ?_
     refine pU 30 (some 47) b2A50 HT_ ?_
     refine pU 31 (some 48) b2A51 HT_ ?_
     refine pU 32 (some 49) b2A33 HT_ ?_
     refine pU 33 (some 50) b2A34 HT_ ?_
     refine pU 34 (some 51) b2A35 HT_ ?_
     refine pU 35 (some 52) b2A36 HT_ ?_
     refine pI 36 (some 53) b2A37 HT_ ?_
     refine pI 37 (some 54) b2A38 HT_ ?_
     refine pU 38 (some 55) b2A39 HT_ ?_
     refine pU 39 (some 56) b2A40 HT_ ?_
     refine pU 40 (some 57) b2A41 HT_ ?_
     refine pU 41 (some 58) b2A42 HT_ ?_
     refine pU 42 (some 59) b2A43 HT_ ?_
     refine pU 43 (some 60) b2A44 HT_ ?_
     refine pI 44 (some 61) b2A45 HT_ ?_
     refine done_ (done_of HT_.out (by kernel_rfl)) ?_
     try go_wp2
     go_meet
     case rel => exact ⟨_, (true), M3, H', ⟨by have := HK1.out; first | omega | exact Nat.le_refl _⟩, ⟨by exact qK BK112.out⟩, ⟨by repeat (first | (with_reducible first | exact HB.out | apply bA | apply bN | apply b1 | refine bS ?_ GE112.out) | exact HB.out)⟩⟩
    subst c10
    have H1 : ((impl_InRange.f ((rd_T138 l0 x12_1).f1) 1 5).bind fun t114 => (if t114 = true then ((impl_InRange.f ((rd_T138 l0 x12_1).f2) 0 999).bind fun t115 => (if t115 = true then ((impl_InRange.f ((rd_T138 l0 x12_1).f3) 0 100000).bind fun t116 => (if t116 = true then (if x12_1 > 0 then (if 0 ≤ (wrap64 (x12_1 - 1)) then (if (wrap64 (x12_1 - 1)) < (l0.length : Int) then (if ((rd_T138 l0 x12_1).f3) < ((rd_T138 l0 (wrap64 (x12_1 - 1))).f3) then (impl_IsChain.j1 k1 l0 x12_1 l0 (l0.length : Int) x12_1 true ((rd_T138 l0 x12_1).f0) ((rd_T138 l0 x12_1).f1) ((rd_T138 l0 x12_1).f2) ((rd_T138 l0 x12_1).f3) ((rd_T138 l0 x12_1).f4)) else ((impl_HandSeal.f k1 x3_1 ((rd_T138 l0 x12_1).f0) ((rd_T138 l0 x12_1).f1) ((rd_T138 l0 x12_1).f2) ((rd_T138 l0 x12_1).f3) ((rd_T138 l0 x12_1).f4)).bind fun t118 => (impl_IsChain.j1 k1 l0 x12_1 l0 (l0.length : Int) x12_1 (((rd_T138 l0 x12_1).f4) != t118) ((rd_T138 l0 x12_1).f0) ((rd_T138 l0 x12_1).f1) ((rd_T138 l0 x12_1).f2) ((rd_T138 l0 x12_1).f3) ((rd_T138 l0 x12_1).f4)))) else (none)) else (none)) else ((impl_HandSeal.f k1 x3_1 ((rd_T138 l0 x12_1).f0) ((rd_T138 l0 x12_1).f1) ((rd_T138 l0 x12_1).f2) ((rd_T138 l0 x12_1).f3) ((rd_T138 l0 x12_1).f4)).bind fun t119 => (impl_IsChain.j1 k1 l0 x12_1 l0 (l0.length : Int) x12_1 (((rd_T138 l0 x12_1).f4) != t119) ((rd_T138 l0 x12_1).f0) ((rd_T138 l0 x12_1).f1) ((rd_T138 l0 x12_1).f2) ((rd_T138 l0 x12_1).f3) ((rd_T138 l0 x12_1).f4)))) else (impl_IsChain.j1 k1 l0 x12_1 l0 (l0.length : Int) x12_1 true ((rd_T138 l0 x12_1).f0) ((rd_T138 l0 x12_1).f1) ((rd_T138 l0 x12_1).f2) ((rd_T138 l0 x12_1).f3) ((rd_T138 l0 x12_1).f4)))) else (impl_IsChain.j1 k1 l0 x12_1 l0 (l0.length : Int) x12_1 true ((rd_T138 l0 x12_1).f0) ((rd_T138 l0 x12_1).f1) ((rd_T138 l0 x12_1).f2) ((rd_T138 l0 x12_1).f3) ((rd_T138 l0 x12_1).f4)))) else (impl_IsChain.j1 k1 l0 x12_1 l0 (l0.length : Int) x12_1 true ((rd_T138 l0 x12_1).f0) ((rd_T138 l0 x12_1).f1) ((rd_T138 l0 x12_1).f2) ((rd_T138 l0 x12_1).f3) ((rd_T138 l0 x12_1).f4)))) = some r := by rw [if_pos rfl] at H; exact H
    clear H
    have H := H1
    clear H1
    replace H := Option.bind_eq_some_iff.mp H
    obtain ⟨t114, A110, H⟩ := H
    replace H : (if t114 = true then ((impl_InRange.f ((rd_T138 l0 x12_1).f2) 0 999).bind fun t115 => (if t115 = true then ((impl_InRange.f ((rd_T138 l0 x12_1).f3) 0 100000).bind fun t116 => (if t116 = true then (if x12_1 > 0 then (if 0 ≤ (wrap64 (x12_1 - 1)) then (if (wrap64 (x12_1 - 1)) < (l0.length : Int) then (if ((rd_T138 l0 x12_1).f3) < ((rd_T138 l0 (wrap64 (x12_1 - 1))).f3) then (impl_IsChain.j1 k1 l0 x12_1 l0 (l0.length : Int) x12_1 true ((rd_T138 l0 x12_1).f0) ((rd_T138 l0 x12_1).f1) ((rd_T138 l0 x12_1).f2) ((rd_T138 l0 x12_1).f3) ((rd_T138 l0 x12_1).f4)) else ((impl_HandSeal.f k1 x3_1 ((rd_T138 l0 x12_1).f0) ((rd_T138 l0 x12_1).f1) ((rd_T138 l0 x12_1).f2) ((rd_T138 l0 x12_1).f3) ((rd_T138 l0 x12_1).f4)).bind fun t118 => (impl_IsChain.j1 k1 l0 x12_1 l0 (l0.length : Int) x12_1 (((rd_T138 l0 x12_1).f4) != t118) ((rd_T138 l0 x12_1).f0) ((rd_T138 l0 x12_1).f1) ((rd_T138 l0 x12_1).f2) ((rd_T138 l0 x12_1).f3) ((rd_T138 l0 x12_1).f4)))) else (none)) else (none)) else ((impl_HandSeal.f k1 x3_1 ((rd_T138 l0 x12_1).f0) ((rd_T138 l0 x12_1).f1) ((rd_T138 l0 x12_1).f2) ((rd_T138 l0 x12_1).f3) ((rd_T138 l0 x12_1).f4)).bind fun t119 => (impl_IsChain.j1 k1 l0 x12_1 l0 (l0.length : Int) x12_1 (((rd_T138 l0 x12_1).f4) != t119) ((rd_T138 l0 x12_1).f0) ((rd_T138 l0 x12_1).f1) ((rd_T138 l0 x12_1).f2) ((rd_T138 l0 x12_1).f3) ((rd_T138 l0 x12_1).f4)))) else (impl_IsChain.j1 k1 l0 x12_1 l0 (l0.length : Int) x12_1 true ((rd_T138 l0 x12_1).f0) ((rd_T138 l0 x12_1).f1) ((rd_T138 l0 x12_1).f2) ((rd_T138 l0 x12_1).f3) ((rd_T138 l0 x12_1).f4)))) else (impl_IsChain.j1 k1 l0 x12_1 l0 (l0.length : Int) x12_1 true ((rd_T138 l0 x12_1).f0) ((rd_T138 l0 x12_1).f1) ((rd_T138 l0 x12_1).f2) ((rd_T138 l0 x12_1).f3) ((rd_T138 l0 x12_1).f4)))) else (impl_IsChain.j1 k1 l0 x12_1 l0 (l0.length : Int) x12_1 true ((rd_T138 l0 x12_1).f0) ((rd_T138 l0 x12_1).f1) ((rd_T138 l0 x12_1).f2) ((rd_T138 l0 x12_1).f3) ((rd_T138 l0 x12_1).f4))) = some r := H
    have A11 := zK A110
    clear A110
    by_cases c12 : t114 = true
    rotate_left
    ·replace c12 := Bool.eq_false_iff.mpr c12
     subst c12
     have H1 : (impl_IsChain.j1 k1 l0 x12_1 l0 (l0.length : Int) x12_1 true ((rd_T138 l0 x12_1).f0) ((rd_T138 l0 x12_1).f1) ((rd_T138 l0 x12_1).f2) ((rd_T138 l0 x12_1).f3) ((rd_T138 l0 x12_1).f4)) = some r := by rw [if_neg (show ¬ (false = true) by decide)] at H; exact H
     clear H
     have H := H1
     clear H1
     have H' := zK H
     clear H
     try go_wp2
     have n0_ : Aside0 ((((((w7.setCell ⟨gb112, 0, none⟩ (.int .i64 ((rd_T138 l0 x12_1).f0))).setCell ⟨gb112, 1, none⟩ (.int .i64 ((rd_T138 l0 x12_1).f1))).setCell ⟨gb112, 2, none⟩ (.int .i64 ((rd_T138 l0 x12_1).f2))).setCell ⟨gb112, 3, none⟩ (.int .i64 ((rd_T138 l0 x12_1).f3))).setCell ⟨gb112, 4, none⟩ (.int .i64 ((rd_T138 l0 x12_1).f4))).heap[gb112]? = some (.cells #[.int .i64 ((rd_T138 l0 x12_1).f0), .int .i64 ((rd_T138 l0 x12_1).f1), .int .i64 ((rd_T138 l0 x12_1).f2), .int .i64 ((rd_T138 l0 x12_1).f3), .int .i64 ((rd_T138 l0 x12_1).f4)] 138 (0, 0))) := ⟨by (with_reducible repeat (first | refine kN ?_ _ | refine kD ?_ | refine kA ?_ _)); refine blk_put (cs := #[.int .i64 ((rd_T138 l0 x12_1).f0), .int .i64 ((rd_T138 l0 x12_1).f1), .int .i64 ((rd_T138 l0 x12_1).f2), .int .i64 ((rd_T138 l0 x12_1).f3), .int .i64 0]) ?_ 4 _ rfl; (with_reducible repeat (first | refine kN ?_ _ | refine kD ?_ | refine kA ?_ _)); refine blk_put (cs := #[.int .i64 ((rd_T138 l0 x12_1).f0), .int .i64 ((rd_T138 l0 x12_1).f1), .int .i64 ((rd_T138 l0 x12_1).f2), .int .i64 0, .int .i64 0]) ?_ 3 _ rfl; (with_reducible repeat (first | refine kN ?_ _ | refine kD ?_ | refine kA ?_ _)); refine blk_put (cs := #[.int .i64 ((rd_T138 l0 x12_1).f0), .int .i64 ((rd_T138 l0 x12_1).f1), .int .i64 0, .int .i64 0, .int .i64 0]) ?_ 2 _ rfl; (with_reducible repeat (first | refine kN ?_ _ | refine kD ?_ | refine kA ?_ _)); refine blk_put (cs := #[.int .i64 ((rd_T138 l0 x12_1).f0), .int .i64 0, .int .i64 0, .int .i64 0, .int .i64 0]) ?_ 1 _ rfl; (with_reducible repeat (first | refine kN ?_ _ | refine kD ?_ | refine kA ?_ _)); refine blk_put (cs := #[.int .i64 0, .int .i64 0, .int .i64 0, .int .i64 0, .int .i64 0]) ?_ 0 _ rfl; exact qK BK112.out⟩
     have n1_ : Aside0 (Below w.heap.size w (((((w7.setCell ⟨gb112, 0, none⟩ (.int .i64 ((rd_T138 l0 x12_1).f0))).setCell ⟨gb112, 1, none⟩ (.int .i64 ((rd_T138 l0 x12_1).f1))).setCell ⟨gb112, 2, none⟩ (.int .i64 ((rd_T138 l0 x12_1).f2))).setCell ⟨gb112, 3, none⟩ (.int .i64 ((rd_T138 l0 x12_1).f3))).setCell ⟨gb112, 4, none⟩ (.int .i64 ((rd_T138 l0 x12_1).f4)))) := ⟨by repeat (first | (with_reducible first | exact HB.out | apply bA | apply bN | apply b1 | refine bS ?_ GE112.out) | exact HB.out)⟩
     (try clear BK112)
     (try clear HB)
     generalize (((((w7.setCell ⟨gb112, 0, none⟩ (.int .i64 ((rd_T138 l0 x12_1).f0))).setCell ⟨gb112, 1, none⟩ (.int .i64 ((rd_T138 l0 x12_1).f1))).setCell ⟨gb112, 2, none⟩ (.int .i64 ((rd_T138 l0 x12_1).f2))).setCell ⟨gb112, 3, none⟩ (.int .i64 ((rd_T138 l0 x12_1).f3))).setCell ⟨gb112, 4, none⟩ (.int .i64 ((rd_T138 l0 x12_1).f4))) = w36 at n0_ n1_ ⊢
     have BK112 := n0_
     have HB := n1_
     clear n0_ n1_
     have n0_ := zK (kD BK112.out)
     have n1_ := zK (b1 HB.out)
     clear BK112
     clear HB
     have BK112 := n0_
     have HB := n1_
     clear n0_ n1_
     refine start_ (n := 45) (S := fun w' => w'.cell? ⟨gb112, 0, none⟩ = some (.int .i64 ((rd_T138 l0 x12_1).f0)) ∧ w'.cell? ⟨gb112, 1, none⟩ = some (.int .i64 ((rd_T138 l0 x12_1).f1)) ∧ w'.cell? ⟨gb112, 2, none⟩ = some (.int .i64 ((rd_T138 l0 x12_1).f2)) ∧ w'.cell? ⟨gb112, 3, none⟩ = some (.int .i64 ((rd_T138 l0 x12_1).f3)) ∧ w'.cell? ⟨gb112, 4, none⟩ = some (.int .i64 ((rd_T138 l0 x12_1).f4))) (ds := []) b2A0 (by kernel_rfl) rfl rfl ⟨(bc BK112.out 0).trans rfl, (bc BK112.out 1).trans rfl, (bc BK112.out 2).trans rfl, (bc BK112.out 3).trans rfl, (bc BK112.out 4).trans rfl⟩ (fun hHeld => ?_); refine with_tabW impl_IsChain.tab7 impl_IsChain.bits7 (fun HT_ HW_ => ?_)
     generalize w36.drew = w37 at BK112 HB hHeld ⊢
     refine pI 0 (some 17) b2A1 HT_ ?_
     refine tI 1 (some 18) b2A2 HT_ HW_ hHeld rfl rfl (Or.inl ⟨by rfl, by rintro w' ⟨s0, s1, s2, s3, s4⟩; go_simp; with_reducible rfl⟩) ?_
     refine one_ (i := 2) (N := some 19) b2A3 rfl rfl (one_of HT_.out (by kernel_rfl)) (by decide) (fun K hK => ?_)
     refine goes_ Try.func106 (by kernel_rfl) rfl #[.int .i64 ((rd_T138 l0 x12_1).f0), .int .i64 1, .int .i64 999] (by rfl) rfl rfl M0 ?_
     with_reducible refine (impl_InRange.calls ((rd_T138 l0 x12_1).f0) 1 999 true _ A9.out).mono ?_
     rintro e w' ⟨rfl, ⟨nd, rfl⟩⟩
     refine ⟨_, rfl, ?_⟩
     refine hK.out _ _ ⟨(bc BK112.out 0).trans rfl, (bc BK112.out 1).trans rfl, (bc BK112.out 2).trans rfl, (bc BK112.out 3).trans rfl, (bc BK112.out 4).trans rfl⟩ (fun hHeld => ?_)
     clear hK K
     refine norm_ (a' := ?_) ?_ ?_
     rotate_left
     ·show Act.put _ (some 19) _ = _
      simp only [Act.put, sA, sZ, sS, i64_w, i32_w]
      rfl
     refine pI 3 (some 20) b2A4 HT_ ?_
     refine pI 4 (some 21) b2A5 HT_ ?_
     refine pI 5 (some 22) b2A6 HT_ ?_
     refine tI 6 (some 23) b2A7 HT_ HW_ hHeld rfl rfl (Or.inl ⟨by rfl, by rintro w' ⟨s0, s1, s2, s3, s4⟩; go_simp; with_reducible rfl⟩) ?_
     refine one_ (i := 7) (N := some 24) b2A8 rfl rfl (one_of HT_.out (by kernel_rfl)) (by decide) (fun K hK => ?_)
     refine goes_ Try.func106 (by kernel_rfl) rfl #[.int .i64 ((rd_T138 l0 x12_1).f1), .int .i64 1, .int .i64 5] (by rfl) rfl rfl M0 ?_
     with_reducible refine (impl_InRange.calls ((rd_T138 l0 x12_1).f1) 1 5 false _ A11.out).mono ?_
     rintro e w' ⟨rfl, ⟨nd, rfl⟩⟩
     refine ⟨_, rfl, ?_⟩
     refine hK.out _ _ ⟨(bc BK112.out 0).trans rfl, (bc BK112.out 1).trans rfl, (bc BK112.out 2).trans rfl, (bc BK112.out 3).trans rfl, (bc BK112.out 4).trans rfl⟩ (fun hHeld => ?_)
     clear hK K
     refine norm_ (a' := ?_) ?_ ?_
     rotate_left
     ·show Act.put _ (some 24) _ = _
      simp only [Act.put, sA, sZ, sS, i64_w, i32_w]
      rfl
     refine pI 8 (some 25) b2A9 HT_ ?_
     refine pI 9 (some 26) b2A10 HT_ ?_
     refine pI 10 (some 27) b2A11 HT_ ?_
     refine pU 11 (some 28) b2A12 HT_ ?_
     refine pU 12 (some 29) b2A13 HT_ ?_
     refine pU 13 (some 30) b2A14 HT_ ?_
     refine pU 14 (some 31) b2A15 HT_ ?_
     refine pI 15 (some 32) b2A16 HT_ ?_
     refine pI 16 (some 33) b2A17 HT_ ?_
     refine pU 17 (some 34) b2A18 HT_ ?_
     refine pU 18 (some 35) b2A19 HT_ ?_
     refine pU 19 (some 36) b2A20 HT_ ?_
     refine pU 20 (some 37) b2A21 HT_ ?_
     refine pI 21 (some 38) b2A22 HT_ ?_
     refine pI 22 (some 39) b2A23 HT_ ?_
     refine pU 23 (some 40) b2A24 HT_ ?_
     refine pU 24 (some 41) b2A25 HT_ ?_
     refine pU 25 (some 42) b2A26 HT_ ?_
     refine pU 26 (some 43) b2A27 HT_ ?_
     refine pU 27 (some 44) b2A47 HT_ ?_
     refine pU 28 (some 45) b2A48 HT_ ?_
     refine pU 29 (some 46) b2A49 HT_ ?_
     refine pU 30 (some 47) b2A50 HT_ ?_
     refine pU 31 (some 48) b2A51 HT_ ?_
     refine pU 32 (some 49) b2A33 HT_ ?_
     refine pU 33 (some 50) b2A34 HT_ ?_
     refine pU 34 (some 51) b2A35 HT_ ?_
     refine pU 35 (some 52) b2A36 HT_ ?_
     refine pI 36 (some 53) b2A37 HT_ ?_
     refine pI 37 (some 54) b2A38 HT_ ?_
     refine pU 38 (some 55) b2A39 HT_ ?_
     refine pU 39 (some 56) b2A40 HT_ ?_
     refine pU 40 (some 57) b2A41 HT_ ?_
     refine pU 41 (some 58) b2A42 HT_ ?_
     refine pU 42 (some 59) b2A43 HT_ ?_
     refine pU 43 (some 60) b2A44 HT_ ?_
     refine pI 44 (some 61) b2A45 HT_ ?_
     refine done_ (done_of HT_.out (by kernel_rfl)) ?_
     try go_wp2
     go_meet
     case rel => exact ⟨_, (true), M3, H', ⟨by have := HK1.out; first | omega | exact Nat.le_refl _⟩, ⟨by exact qK BK112.out⟩, ⟨by repeat (first | (with_reducible first | exact HB.out | apply bA | apply bN | apply b1 | refine bS ?_ GE112.out) | exact HB.out)⟩⟩
    subst c12
    have H1 : ((impl_InRange.f ((rd_T138 l0 x12_1).f2) 0 999).bind fun t115 => (if t115 = true then ((impl_InRange.f ((rd_T138 l0 x12_1).f3) 0 100000).bind fun t116 => (if t116 = true then (if x12_1 > 0 then (if 0 ≤ (wrap64 (x12_1 - 1)) then (if (wrap64 (x12_1 - 1)) < (l0.length : Int) then (if ((rd_T138 l0 x12_1).f3) < ((rd_T138 l0 (wrap64 (x12_1 - 1))).f3) then (impl_IsChain.j1 k1 l0 x12_1 l0 (l0.length : Int) x12_1 true ((rd_T138 l0 x12_1).f0) ((rd_T138 l0 x12_1).f1) ((rd_T138 l0 x12_1).f2) ((rd_T138 l0 x12_1).f3) ((rd_T138 l0 x12_1).f4)) else ((impl_HandSeal.f k1 x3_1 ((rd_T138 l0 x12_1).f0) ((rd_T138 l0 x12_1).f1) ((rd_T138 l0 x12_1).f2) ((rd_T138 l0 x12_1).f3) ((rd_T138 l0 x12_1).f4)).bind fun t118 => (impl_IsChain.j1 k1 l0 x12_1 l0 (l0.length : Int) x12_1 (((rd_T138 l0 x12_1).f4) != t118) ((rd_T138 l0 x12_1).f0) ((rd_T138 l0 x12_1).f1) ((rd_T138 l0 x12_1).f2) ((rd_T138 l0 x12_1).f3) ((rd_T138 l0 x12_1).f4)))) else (none)) else (none)) else ((impl_HandSeal.f k1 x3_1 ((rd_T138 l0 x12_1).f0) ((rd_T138 l0 x12_1).f1) ((rd_T138 l0 x12_1).f2) ((rd_T138 l0 x12_1).f3) ((rd_T138 l0 x12_1).f4)).bind fun t119 => (impl_IsChain.j1 k1 l0 x12_1 l0 (l0.length : Int) x12_1 (((rd_T138 l0 x12_1).f4) != t119) ((rd_T138 l0 x12_1).f0) ((rd_T138 l0 x12_1).f1) ((rd_T138 l0 x12_1).f2) ((rd_T138 l0 x12_1).f3) ((rd_T138 l0 x12_1).f4)))) else (impl_IsChain.j1 k1 l0 x12_1 l0 (l0.length : Int) x12_1 true ((rd_T138 l0 x12_1).f0) ((rd_T138 l0 x12_1).f1) ((rd_T138 l0 x12_1).f2) ((rd_T138 l0 x12_1).f3) ((rd_T138 l0 x12_1).f4)))) else (impl_IsChain.j1 k1 l0 x12_1 l0 (l0.length : Int) x12_1 true ((rd_T138 l0 x12_1).f0) ((rd_T138 l0 x12_1).f1) ((rd_T138 l0 x12_1).f2) ((rd_T138 l0 x12_1).f3) ((rd_T138 l0 x12_1).f4)))) = some r := by rw [if_pos rfl] at H; exact H
    clear H
    have H := H1
    clear H1
    replace H := Option.bind_eq_some_iff.mp H
    obtain ⟨t115, A130, H⟩ := H
    replace H : (if t115 = true then ((impl_InRange.f ((rd_T138 l0 x12_1).f3) 0 100000).bind fun t116 => (if t116 = true then (if x12_1 > 0 then (if 0 ≤ (wrap64 (x12_1 - 1)) then (if (wrap64 (x12_1 - 1)) < (l0.length : Int) then (if ((rd_T138 l0 x12_1).f3) < ((rd_T138 l0 (wrap64 (x12_1 - 1))).f3) then (impl_IsChain.j1 k1 l0 x12_1 l0 (l0.length : Int) x12_1 true ((rd_T138 l0 x12_1).f0) ((rd_T138 l0 x12_1).f1) ((rd_T138 l0 x12_1).f2) ((rd_T138 l0 x12_1).f3) ((rd_T138 l0 x12_1).f4)) else ((impl_HandSeal.f k1 x3_1 ((rd_T138 l0 x12_1).f0) ((rd_T138 l0 x12_1).f1) ((rd_T138 l0 x12_1).f2) ((rd_T138 l0 x12_1).f3) ((rd_T138 l0 x12_1).f4)).bind fun t118 => (impl_IsChain.j1 k1 l0 x12_1 l0 (l0.length : Int) x12_1 (((rd_T138 l0 x12_1).f4) != t118) ((rd_T138 l0 x12_1).f0) ((rd_T138 l0 x12_1).f1) ((rd_T138 l0 x12_1).f2) ((rd_T138 l0 x12_1).f3) ((rd_T138 l0 x12_1).f4)))) else (none)) else (none)) else ((impl_HandSeal.f k1 x3_1 ((rd_T138 l0 x12_1).f0) ((rd_T138 l0 x12_1).f1) ((rd_T138 l0 x12_1).f2) ((rd_T138 l0 x12_1).f3) ((rd_T138 l0 x12_1).f4)).bind fun t119 => (impl_IsChain.j1 k1 l0 x12_1 l0 (l0.length : Int) x12_1 (((rd_T138 l0 x12_1).f4) != t119) ((rd_T138 l0 x12_1).f0) ((rd_T138 l0 x12_1).f1) ((rd_T138 l0 x12_1).f2) ((rd_T138 l0 x12_1).f3) ((rd_T138 l0 x12_1).f4)))) else (impl_IsChain.j1 k1 l0 x12_1 l0 (l0.length : Int) x12_1 true ((rd_T138 l0 x12_1).f0) ((rd_T138 l0 x12_1).f1) ((rd_T138 l0 x12_1).f2) ((rd_T138 l0 x12_1).f3) ((rd_T138 l0 x12_1).f4)))) else (impl_IsChain.j1 k1 l0 x12_1 l0 (l0.length : Int) x12_1 true ((rd_T138 l0 x12_1).f0) ((rd_T138 l0 x12_1).f1) ((rd_T138 l0 x12_1).f2) ((rd_T138 l0 x12_1).f3) ((rd_T138 l0 x12_1).f4))) = some r := H
    have A13 := zK A130
    clear A130
    by_cases c14 : t115 = true
    rotate_left
    ·replace c14 := Bool.eq_false_iff.mpr c14
     subst c14
     have H1 : (impl_IsChain.j1 k1 l0 x12_1 l0 (l0.length : Int) x12_1 true ((rd_T138 l0 x12_1).f0) ((rd_T138 l0 x12_1).f1) ((rd_T138 l0 x12_1).f2) ((rd_T138 l0 x12_1).f3) ((rd_T138 l0 x12_1).f4)) = some r := by rw [if_neg (show ¬ (false = true) by decide)] at H; exact H
     clear H
     have H := H1
     clear H1
     have H' := zK H
     clear H
     try go_wp2
     have n0_ : Aside0 ((((((w7.setCell ⟨gb112, 0, none⟩ (.int .i64 ((rd_T138 l0 x12_1).f0))).setCell ⟨gb112, 1, none⟩ (.int .i64 ((rd_T138 l0 x12_1).f1))).setCell ⟨gb112, 2, none⟩ (.int .i64 ((rd_T138 l0 x12_1).f2))).setCell ⟨gb112, 3, none⟩ (.int .i64 ((rd_T138 l0 x12_1).f3))).setCell ⟨gb112, 4, none⟩ (.int .i64 ((rd_T138 l0 x12_1).f4))).heap[gb112]? = some (.cells #[.int .i64 ((rd_T138 l0 x12_1).f0), .int .i64 ((rd_T138 l0 x12_1).f1), .int .i64 ((rd_T138 l0 x12_1).f2), .int .i64 ((rd_T138 l0 x12_1).f3), .int .i64 ((rd_T138 l0 x12_1).f4)] 138 (0, 0))) := ⟨by (with_reducible repeat (first | refine kN ?_ _ | refine kD ?_ | refine kA ?_ _)); refine blk_put (cs := #[.int .i64 ((rd_T138 l0 x12_1).f0), .int .i64 ((rd_T138 l0 x12_1).f1), .int .i64 ((rd_T138 l0 x12_1).f2), .int .i64 ((rd_T138 l0 x12_1).f3), .int .i64 0]) ?_ 4 _ rfl; (with_reducible repeat (first | refine kN ?_ _ | refine kD ?_ | refine kA ?_ _)); refine blk_put (cs := #[.int .i64 ((rd_T138 l0 x12_1).f0), .int .i64 ((rd_T138 l0 x12_1).f1), .int .i64 ((rd_T138 l0 x12_1).f2), .int .i64 0, .int .i64 0]) ?_ 3 _ rfl; (with_reducible repeat (first | refine kN ?_ _ | refine kD ?_ | refine kA ?_ _)); refine blk_put (cs := #[.int .i64 ((rd_T138 l0 x12_1).f0), .int .i64 ((rd_T138 l0 x12_1).f1), .int .i64 0, .int .i64 0, .int .i64 0]) ?_ 2 _ rfl; (with_reducible repeat (first | refine kN ?_ _ | refine kD ?_ | refine kA ?_ _)); refine blk_put (cs := #[.int .i64 ((rd_T138 l0 x12_1).f0), .int .i64 0, .int .i64 0, .int .i64 0, .int .i64 0]) ?_ 1 _ rfl; (with_reducible repeat (first | refine kN ?_ _ | refine kD ?_ | refine kA ?_ _)); refine blk_put (cs := #[.int .i64 0, .int .i64 0, .int .i64 0, .int .i64 0, .int .i64 0]) ?_ 0 _ rfl; exact qK BK112.out⟩
     have n1_ : Aside0 (Below w.heap.size w (((((w7.setCell ⟨gb112, 0, none⟩ (.int .i64 ((rd_T138 l0 x12_1).f0))).setCell ⟨gb112, 1, none⟩ (.int .i64 ((rd_T138 l0 x12_1).f1))).setCell ⟨gb112, 2, none⟩ (.int .i64 ((rd_T138 l0 x12_1).f2))).setCell ⟨gb112, 3, none⟩ (.int .i64 ((rd_T138 l0 x12_1).f3))).setCell ⟨gb112, 4, none⟩ (.int .i64 ((rd_T138 l0 x12_1).f4)))) := ⟨by repeat (first | (with_reducible first | exact HB.out | apply bA | apply bN | apply b1 | refine bS ?_ GE112.out) | exact HB.out)⟩
     (try clear BK112)
     (try clear HB)
     generalize (((((w7.setCell ⟨gb112, 0, none⟩ (.int .i64 ((rd_T138 l0 x12_1).f0))).setCell ⟨gb112, 1, none⟩ (.int .i64 ((rd_T138 l0 x12_1).f1))).setCell ⟨gb112, 2, none⟩ (.int .i64 ((rd_T138 l0 x12_1).f2))).setCell ⟨gb112, 3, none⟩ (.int .i64 ((rd_T138 l0 x12_1).f3))).setCell ⟨gb112, 4, none⟩ (.int .i64 ((rd_T138 l0 x12_1).f4))) = w34 at n0_ n1_ ⊢
     have BK112 := n0_
     have HB := n1_
     clear n0_ n1_
     have n0_ := zK (kD BK112.out)
     have n1_ := zK (b1 HB.out)
     clear BK112
     clear HB
     have BK112 := n0_
     have HB := n1_
     clear n0_ n1_
     refine start_ (n := 45) (S := fun w' => w'.cell? ⟨gb112, 0, none⟩ = some (.int .i64 ((rd_T138 l0 x12_1).f0)) ∧ w'.cell? ⟨gb112, 1, none⟩ = some (.int .i64 ((rd_T138 l0 x12_1).f1)) ∧ w'.cell? ⟨gb112, 2, none⟩ = some (.int .i64 ((rd_T138 l0 x12_1).f2)) ∧ w'.cell? ⟨gb112, 3, none⟩ = some (.int .i64 ((rd_T138 l0 x12_1).f3)) ∧ w'.cell? ⟨gb112, 4, none⟩ = some (.int .i64 ((rd_T138 l0 x12_1).f4))) (ds := []) b2A0 (by kernel_rfl) rfl rfl ⟨(bc BK112.out 0).trans rfl, (bc BK112.out 1).trans rfl, (bc BK112.out 2).trans rfl, (bc BK112.out 3).trans rfl, (bc BK112.out 4).trans rfl⟩ (fun hHeld => ?_); refine with_tabW impl_IsChain.tab7 impl_IsChain.bits7 (fun HT_ HW_ => ?_)
     generalize w34.drew = w35 at BK112 HB hHeld ⊢
     refine pI 0 (some 17) b2A1 HT_ ?_
     refine tI 1 (some 18) b2A2 HT_ HW_ hHeld rfl rfl (Or.inl ⟨by rfl, by rintro w' ⟨s0, s1, s2, s3, s4⟩; go_simp; with_reducible rfl⟩) ?_
     refine one_ (i := 2) (N := some 19) b2A3 rfl rfl (one_of HT_.out (by kernel_rfl)) (by decide) (fun K hK => ?_)
     refine goes_ Try.func106 (by kernel_rfl) rfl #[.int .i64 ((rd_T138 l0 x12_1).f0), .int .i64 1, .int .i64 999] (by rfl) rfl rfl M0 ?_
     with_reducible refine (impl_InRange.calls ((rd_T138 l0 x12_1).f0) 1 999 true _ A9.out).mono ?_
     rintro e w' ⟨rfl, ⟨nd, rfl⟩⟩
     refine ⟨_, rfl, ?_⟩
     refine hK.out _ _ ⟨(bc BK112.out 0).trans rfl, (bc BK112.out 1).trans rfl, (bc BK112.out 2).trans rfl, (bc BK112.out 3).trans rfl, (bc BK112.out 4).trans rfl⟩ (fun hHeld => ?_)
     clear hK K
     refine norm_ (a' := ?_) ?_ ?_
     rotate_left
     ·show Act.put _ (some 19) _ = _
      simp only [Act.put, sA, sZ, sS, i64_w, i32_w]
      rfl
     refine pI 3 (some 20) b2A4 HT_ ?_
     refine pI 4 (some 21) b2A5 HT_ ?_
     refine pI 5 (some 22) b2A6 HT_ ?_
     refine tI 6 (some 23) b2A7 HT_ HW_ hHeld rfl rfl (Or.inl ⟨by rfl, by rintro w' ⟨s0, s1, s2, s3, s4⟩; go_simp; with_reducible rfl⟩) ?_
     refine one_ (i := 7) (N := some 24) b2A8 rfl rfl (one_of HT_.out (by kernel_rfl)) (by decide) (fun K hK => ?_)
     refine goes_ Try.func106 (by kernel_rfl) rfl #[.int .i64 ((rd_T138 l0 x12_1).f1), .int .i64 1, .int .i64 5] (by rfl) rfl rfl M0 ?_
     with_reducible refine (impl_InRange.calls ((rd_T138 l0 x12_1).f1) 1 5 true _ A11.out).mono ?_
     rintro e w' ⟨rfl, ⟨nd, rfl⟩⟩
     refine ⟨_, rfl, ?_⟩
     refine hK.out _ _ ⟨(bc BK112.out 0).trans rfl, (bc BK112.out 1).trans rfl, (bc BK112.out 2).trans rfl, (bc BK112.out 3).trans rfl, (bc BK112.out 4).trans rfl⟩ (fun hHeld => ?_)
     clear hK K
     refine norm_ (a' := ?_) ?_ ?_
     rotate_left
     ·show Act.put _ (some 24) _ = _
      simp only [Act.put, sA, sZ, sS, i64_w, i32_w]
      rfl
     refine pI 8 (some 25) b2A9 HT_ ?_
     refine pI 9 (some 26) b2A10 HT_ ?_
     refine pI 10 (some 27) b2A11 HT_ ?_
     refine pI 11 (some 28) b2A12 HT_ ?_
     refine tI 12 (some 29) b2A13 HT_ HW_ hHeld rfl rfl (Or.inl ⟨by rfl, by rintro w' ⟨s0, s1, s2, s3, s4⟩; go_simp; with_reducible rfl⟩) ?_
     refine one_ (i := 13) (N := some 30) b2A14 rfl rfl (one_of HT_.out (by kernel_rfl)) (by decide) (fun K hK => ?_)
     refine goes_ Try.func106 (by kernel_rfl) rfl #[.int .i64 ((rd_T138 l0 x12_1).f2), .int .i64 0, .int .i64 999] (by rfl) rfl rfl M0 ?_
     with_reducible refine (impl_InRange.calls ((rd_T138 l0 x12_1).f2) 0 999 false _ A13.out).mono ?_
     rintro e w' ⟨rfl, ⟨nd, rfl⟩⟩
     refine ⟨_, rfl, ?_⟩
     refine hK.out _ _ ⟨(bc BK112.out 0).trans rfl, (bc BK112.out 1).trans rfl, (bc BK112.out 2).trans rfl, (bc BK112.out 3).trans rfl, (bc BK112.out 4).trans rfl⟩ (fun hHeld => ?_)
     clear hK K
     refine norm_ (a' := ?_) ?_ ?_
     rotate_left
     ·show Act.put _ (some 30) _ = _
      simp only [Act.put, sA, sZ, sS, i64_w, i32_w]
      rfl
     refine pI 14 (some 31) b2A15 HT_ ?_
     refine pI 15 (some 32) b2A16 HT_ ?_
     refine pI 16 (some 33) b2A17 HT_ ?_
     refine pU 17 (some 34) b2A18 HT_ ?_
     refine pU 18 (some 35) b2A19 HT_ ?_
     refine pU 19 (some 36) b2A20 HT_ ?_
     refine pU 20 (some 37) b2A21 HT_ ?_
     refine pI 21 (some 38) b2A22 HT_ ?_
     refine pI 22 (some 39) b2A23 HT_ ?_
     refine pU 23 (some 40) b2A24 HT_ ?_
     refine pU 24 (some 41) b2A25 HT_ ?_
     refine pU 25 (some 42) b2A26 HT_ ?_
     refine pU 26 (some 43) b2A27 HT_ ?_
     refine pU 27 (some 44) b2A47 HT_ ?_
     refine pU 28 (some 45) b2A48 HT_ ?_
     refine pU 29 (some 46) b2A49 HT_ ?_
     refine pU 30 (some 47) b2A50 HT_ ?_
     refine pU 31 (some 48) b2A51 HT_ ?_
     refine pU 32 (some 49) b2A33 HT_ ?_
     refine pU 33 (some 50) b2A34 HT_ ?_
     refine pU 34 (some 51) b2A35 HT_ ?_
     refine pU 35 (some 52) b2A36 HT_ ?_
     refine pI 36 (some 53) b2A37 HT_ ?_
     refine pI 37 (some 54) b2A38 HT_ ?_
     refine pU 38 (some 55) b2A39 HT_ ?_
     refine pU 39 (some 56) b2A40 HT_ ?_
     refine pU 40 (some 57) b2A41 HT_ ?_
     refine pU 41 (some 58) b2A42 HT_ ?_
     refine pU 42 (some 59) b2A43 HT_ ?_
     refine pU 43 (some 60) b2A44 HT_ ?_
     refine pI 44 (some 61) b2A45 HT_ ?_
     refine done_ (done_of HT_.out (by kernel_rfl)) ?_
     try go_wp2
     go_meet
     case rel => exact ⟨_, (true), M3, H', ⟨by have := HK1.out; first | omega | exact Nat.le_refl _⟩, ⟨by exact qK BK112.out⟩, ⟨by repeat (first | (with_reducible first | exact HB.out | apply bA | apply bN | apply b1 | refine bS ?_ GE112.out) | exact HB.out)⟩⟩
    subst c14
    have H1 : ((impl_InRange.f ((rd_T138 l0 x12_1).f3) 0 100000).bind fun t116 => (if t116 = true then (if x12_1 > 0 then (if 0 ≤ (wrap64 (x12_1 - 1)) then (if (wrap64 (x12_1 - 1)) < (l0.length : Int) then (if ((rd_T138 l0 x12_1).f3) < ((rd_T138 l0 (wrap64 (x12_1 - 1))).f3) then (impl_IsChain.j1 k1 l0 x12_1 l0 (l0.length : Int) x12_1 true ((rd_T138 l0 x12_1).f0) ((rd_T138 l0 x12_1).f1) ((rd_T138 l0 x12_1).f2) ((rd_T138 l0 x12_1).f3) ((rd_T138 l0 x12_1).f4)) else ((impl_HandSeal.f k1 x3_1 ((rd_T138 l0 x12_1).f0) ((rd_T138 l0 x12_1).f1) ((rd_T138 l0 x12_1).f2) ((rd_T138 l0 x12_1).f3) ((rd_T138 l0 x12_1).f4)).bind fun t118 => (impl_IsChain.j1 k1 l0 x12_1 l0 (l0.length : Int) x12_1 (((rd_T138 l0 x12_1).f4) != t118) ((rd_T138 l0 x12_1).f0) ((rd_T138 l0 x12_1).f1) ((rd_T138 l0 x12_1).f2) ((rd_T138 l0 x12_1).f3) ((rd_T138 l0 x12_1).f4)))) else (none)) else (none)) else ((impl_HandSeal.f k1 x3_1 ((rd_T138 l0 x12_1).f0) ((rd_T138 l0 x12_1).f1) ((rd_T138 l0 x12_1).f2) ((rd_T138 l0 x12_1).f3) ((rd_T138 l0 x12_1).f4)).bind fun t119 => (impl_IsChain.j1 k1 l0 x12_1 l0 (l0.length : Int) x12_1 (((rd_T138 l0 x12_1).f4) != t119) ((rd_T138 l0 x12_1).f0) ((rd_T138 l0 x12_1).f1) ((rd_T138 l0 x12_1).f2) ((rd_T138 l0 x12_1).f3) ((rd_T138 l0 x12_1).f4)))) else (impl_IsChain.j1 k1 l0 x12_1 l0 (l0.length : Int) x12_1 true ((rd_T138 l0 x12_1).f0) ((rd_T138 l0 x12_1).f1) ((rd_T138 l0 x12_1).f2) ((rd_T138 l0 x12_1).f3) ((rd_T138 l0 x12_1).f4)))) = some r := by rw [if_pos rfl] at H; exact H
    clear H
    have H := H1
    clear H1
    replace H := Option.bind_eq_some_iff.mp H
    obtain ⟨t116, A150, H⟩ := H
    replace H : (if t116 = true then (if x12_1 > 0 then (if 0 ≤ (wrap64 (x12_1 - 1)) then (if (wrap64 (x12_1 - 1)) < (l0.length : Int) then (if ((rd_T138 l0 x12_1).f3) < ((rd_T138 l0 (wrap64 (x12_1 - 1))).f3) then (impl_IsChain.j1 k1 l0 x12_1 l0 (l0.length : Int) x12_1 true ((rd_T138 l0 x12_1).f0) ((rd_T138 l0 x12_1).f1) ((rd_T138 l0 x12_1).f2) ((rd_T138 l0 x12_1).f3) ((rd_T138 l0 x12_1).f4)) else ((impl_HandSeal.f k1 x3_1 ((rd_T138 l0 x12_1).f0) ((rd_T138 l0 x12_1).f1) ((rd_T138 l0 x12_1).f2) ((rd_T138 l0 x12_1).f3) ((rd_T138 l0 x12_1).f4)).bind fun t118 => (impl_IsChain.j1 k1 l0 x12_1 l0 (l0.length : Int) x12_1 (((rd_T138 l0 x12_1).f4) != t118) ((rd_T138 l0 x12_1).f0) ((rd_T138 l0 x12_1).f1) ((rd_T138 l0 x12_1).f2) ((rd_T138 l0 x12_1).f3) ((rd_T138 l0 x12_1).f4)))) else (none)) else (none)) else ((impl_HandSeal.f k1 x3_1 ((rd_T138 l0 x12_1).f0) ((rd_T138 l0 x12_1).f1) ((rd_T138 l0 x12_1).f2) ((rd_T138 l0 x12_1).f3) ((rd_T138 l0 x12_1).f4)).bind fun t119 => (impl_IsChain.j1 k1 l0 x12_1 l0 (l0.length : Int) x12_1 (((rd_T138 l0 x12_1).f4) != t119) ((rd_T138 l0 x12_1).f0) ((rd_T138 l0 x12_1).f1) ((rd_T138 l0 x12_1).f2) ((rd_T138 l0 x12_1).f3) ((rd_T138 l0 x12_1).f4)))) else (impl_IsChain.j1 k1 l0 x12_1 l0 (l0.length : Int) x12_1 true ((rd_T138 l0 x12_1).f0) ((rd_T138 l0 x12_1).f1) ((rd_T138 l0 x12_1).f2) ((rd_T138 l0 x12_1).f3) ((rd_T138 l0 x12_1).f4))) = some r := H
    have A15 := zK A150
    clear A150
    by_cases c16 : t116 = true
    rotate_left
    ·replace c16 := Bool.eq_false_iff.mpr c16
     subst c16
     have H1 : (impl_IsChain.j1 k1 l0 x12_1 l0 (l0.length : Int) x12_1 true ((rd_T138 l0 x12_1).f0) ((rd_T138 l0 x12_1).f1) ((rd_T138 l0 x12_1).f2) ((rd_T138 l0 x12_1).f3) ((rd_T138 l0 x12_1).f4)) = some r := by rw [if_neg (show ¬ (false = true) by decide)] at H; exact H
     clear H
     have H := H1
     clear H1
     have H' := zK H
     clear H
     try go_wp2
     have n0_ : Aside0 ((((((w7.setCell ⟨gb112, 0, none⟩ (.int .i64 ((rd_T138 l0 x12_1).f0))).setCell ⟨gb112, 1, none⟩ (.int .i64 ((rd_T138 l0 x12_1).f1))).setCell ⟨gb112, 2, none⟩ (.int .i64 ((rd_T138 l0 x12_1).f2))).setCell ⟨gb112, 3, none⟩ (.int .i64 ((rd_T138 l0 x12_1).f3))).setCell ⟨gb112, 4, none⟩ (.int .i64 ((rd_T138 l0 x12_1).f4))).heap[gb112]? = some (.cells #[.int .i64 ((rd_T138 l0 x12_1).f0), .int .i64 ((rd_T138 l0 x12_1).f1), .int .i64 ((rd_T138 l0 x12_1).f2), .int .i64 ((rd_T138 l0 x12_1).f3), .int .i64 ((rd_T138 l0 x12_1).f4)] 138 (0, 0))) := ⟨by (with_reducible repeat (first | refine kN ?_ _ | refine kD ?_ | refine kA ?_ _)); refine blk_put (cs := #[.int .i64 ((rd_T138 l0 x12_1).f0), .int .i64 ((rd_T138 l0 x12_1).f1), .int .i64 ((rd_T138 l0 x12_1).f2), .int .i64 ((rd_T138 l0 x12_1).f3), .int .i64 0]) ?_ 4 _ rfl; (with_reducible repeat (first | refine kN ?_ _ | refine kD ?_ | refine kA ?_ _)); refine blk_put (cs := #[.int .i64 ((rd_T138 l0 x12_1).f0), .int .i64 ((rd_T138 l0 x12_1).f1), .int .i64 ((rd_T138 l0 x12_1).f2), .int .i64 0, .int .i64 0]) ?_ 3 _ rfl; (with_reducible repeat (first | refine kN ?_ _ | refine kD ?_ | refine kA ?_ _)); refine blk_put (cs := #[.int .i64 ((rd_T138 l0 x12_1).f0), .int .i64 ((rd_T138 l0 x12_1).f1), .int .i64 0, .int .i64 0, .int .i64 0]) ?_ 2 _ rfl; (with_reducible repeat (first | refine kN ?_ _ | refine kD ?_ | refine kA ?_ _)); refine blk_put (cs := #[.int .i64 ((rd_T138 l0 x12_1).f0), .int .i64 0, .int .i64 0, .int .i64 0, .int .i64 0]) ?_ 1 _ rfl; (with_reducible repeat (first | refine kN ?_ _ | refine kD ?_ | refine kA ?_ _)); refine blk_put (cs := #[.int .i64 0, .int .i64 0, .int .i64 0, .int .i64 0, .int .i64 0]) ?_ 0 _ rfl; exact qK BK112.out⟩
     have n1_ : Aside0 (Below w.heap.size w (((((w7.setCell ⟨gb112, 0, none⟩ (.int .i64 ((rd_T138 l0 x12_1).f0))).setCell ⟨gb112, 1, none⟩ (.int .i64 ((rd_T138 l0 x12_1).f1))).setCell ⟨gb112, 2, none⟩ (.int .i64 ((rd_T138 l0 x12_1).f2))).setCell ⟨gb112, 3, none⟩ (.int .i64 ((rd_T138 l0 x12_1).f3))).setCell ⟨gb112, 4, none⟩ (.int .i64 ((rd_T138 l0 x12_1).f4)))) := ⟨by repeat (first | (with_reducible first | exact HB.out | apply bA | apply bN | apply b1 | refine bS ?_ GE112.out) | exact HB.out)⟩
     (try clear BK112)
     (try clear HB)
     generalize (((((w7.setCell ⟨gb112, 0, none⟩ (.int .i64 ((rd_T138 l0 x12_1).f0))).setCell ⟨gb112, 1, none⟩ (.int .i64 ((rd_T138 l0 x12_1).f1))).setCell ⟨gb112, 2, none⟩ (.int .i64 ((rd_T138 l0 x12_1).f2))).setCell ⟨gb112, 3, none⟩ (.int .i64 ((rd_T138 l0 x12_1).f3))).setCell ⟨gb112, 4, none⟩ (.int .i64 ((rd_T138 l0 x12_1).f4))) = w32 at n0_ n1_ ⊢
     have BK112 := n0_
     have HB := n1_
     clear n0_ n1_
     have n0_ := zK (kD BK112.out)
     have n1_ := zK (b1 HB.out)
     clear BK112
     clear HB
     have BK112 := n0_
     have HB := n1_
     clear n0_ n1_
     refine start_ (n := 45) (S := fun w' => w'.cell? ⟨gb112, 0, none⟩ = some (.int .i64 ((rd_T138 l0 x12_1).f0)) ∧ w'.cell? ⟨gb112, 1, none⟩ = some (.int .i64 ((rd_T138 l0 x12_1).f1)) ∧ w'.cell? ⟨gb112, 2, none⟩ = some (.int .i64 ((rd_T138 l0 x12_1).f2)) ∧ w'.cell? ⟨gb112, 3, none⟩ = some (.int .i64 ((rd_T138 l0 x12_1).f3)) ∧ w'.cell? ⟨gb112, 4, none⟩ = some (.int .i64 ((rd_T138 l0 x12_1).f4))) (ds := []) b2A0 (by kernel_rfl) rfl rfl ⟨(bc BK112.out 0).trans rfl, (bc BK112.out 1).trans rfl, (bc BK112.out 2).trans rfl, (bc BK112.out 3).trans rfl, (bc BK112.out 4).trans rfl⟩ (fun hHeld => ?_); refine with_tabW impl_IsChain.tab7 impl_IsChain.bits7 (fun HT_ HW_ => ?_)
     generalize w32.drew = w33 at BK112 HB hHeld ⊢
     refine pI 0 (some 17) b2A1 HT_ ?_
     refine tI 1 (some 18) b2A2 HT_ HW_ hHeld rfl rfl (Or.inl ⟨by rfl, by rintro w' ⟨s0, s1, s2, s3, s4⟩; go_simp; with_reducible rfl⟩) ?_
     refine one_ (i := 2) (N := some 19) b2A3 rfl rfl (one_of HT_.out (by kernel_rfl)) (by decide) (fun K hK => ?_)
     refine goes_ Try.func106 (by kernel_rfl) rfl #[.int .i64 ((rd_T138 l0 x12_1).f0), .int .i64 1, .int .i64 999] (by rfl) rfl rfl M0 ?_
     with_reducible refine (impl_InRange.calls ((rd_T138 l0 x12_1).f0) 1 999 true _ A9.out).mono ?_
     rintro e w' ⟨rfl, ⟨nd, rfl⟩⟩
     refine ⟨_, rfl, ?_⟩
     refine hK.out _ _ ⟨(bc BK112.out 0).trans rfl, (bc BK112.out 1).trans rfl, (bc BK112.out 2).trans rfl, (bc BK112.out 3).trans rfl, (bc BK112.out 4).trans rfl⟩ (fun hHeld => ?_)
     clear hK K
     refine norm_ (a' := ?_) ?_ ?_
     rotate_left
     ·show Act.put _ (some 19) _ = _
      simp only [Act.put, sA, sZ, sS, i64_w, i32_w]
      rfl
     refine pI 3 (some 20) b2A4 HT_ ?_
     refine pI 4 (some 21) b2A5 HT_ ?_
     refine pI 5 (some 22) b2A6 HT_ ?_
     refine tI 6 (some 23) b2A7 HT_ HW_ hHeld rfl rfl (Or.inl ⟨by rfl, by rintro w' ⟨s0, s1, s2, s3, s4⟩; go_simp; with_reducible rfl⟩) ?_
     refine one_ (i := 7) (N := some 24) b2A8 rfl rfl (one_of HT_.out (by kernel_rfl)) (by decide) (fun K hK => ?_)
     refine goes_ Try.func106 (by kernel_rfl) rfl #[.int .i64 ((rd_T138 l0 x12_1).f1), .int .i64 1, .int .i64 5] (by rfl) rfl rfl M0 ?_
     with_reducible refine (impl_InRange.calls ((rd_T138 l0 x12_1).f1) 1 5 true _ A11.out).mono ?_
     rintro e w' ⟨rfl, ⟨nd, rfl⟩⟩
     refine ⟨_, rfl, ?_⟩
     refine hK.out _ _ ⟨(bc BK112.out 0).trans rfl, (bc BK112.out 1).trans rfl, (bc BK112.out 2).trans rfl, (bc BK112.out 3).trans rfl, (bc BK112.out 4).trans rfl⟩ (fun hHeld => ?_)
     clear hK K
     refine norm_ (a' := ?_) ?_ ?_
     rotate_left
     ·show Act.put _ (some 24) _ = _
      simp only [Act.put, sA, sZ, sS, i64_w, i32_w]
      rfl
     refine pI 8 (some 25) b2A9 HT_ ?_
     refine pI 9 (some 26) b2A10 HT_ ?_
     refine pI 10 (some 27) b2A11 HT_ ?_
     refine pI 11 (some 28) b2A12 HT_ ?_
     refine tI 12 (some 29) b2A13 HT_ HW_ hHeld rfl rfl (Or.inl ⟨by rfl, by rintro w' ⟨s0, s1, s2, s3, s4⟩; go_simp; with_reducible rfl⟩) ?_
     refine one_ (i := 13) (N := some 30) b2A14 rfl rfl (one_of HT_.out (by kernel_rfl)) (by decide) (fun K hK => ?_)
     refine goes_ Try.func106 (by kernel_rfl) rfl #[.int .i64 ((rd_T138 l0 x12_1).f2), .int .i64 0, .int .i64 999] (by rfl) rfl rfl M0 ?_
     with_reducible refine (impl_InRange.calls ((rd_T138 l0 x12_1).f2) 0 999 true _ A13.out).mono ?_
     rintro e w' ⟨rfl, ⟨nd, rfl⟩⟩
     refine ⟨_, rfl, ?_⟩
     refine hK.out _ _ ⟨(bc BK112.out 0).trans rfl, (bc BK112.out 1).trans rfl, (bc BK112.out 2).trans rfl, (bc BK112.out 3).trans rfl, (bc BK112.out 4).trans rfl⟩ (fun hHeld => ?_)
     clear hK K
     refine norm_ (a' := ?_) ?_ ?_
     rotate_left
     ·show Act.put _ (some 30) _ = _
      simp only [Act.put, sA, sZ, sS, i64_w, i32_w]
      rfl
     refine pI 14 (some 31) b2A15 HT_ ?_
     refine pI 15 (some 32) b2A16 HT_ ?_
     refine pI 16 (some 33) b2A17 HT_ ?_
     refine pI 17 (some 34) b2A18 HT_ ?_
     refine tI 18 (some 35) b2A19 HT_ HW_ hHeld rfl rfl (Or.inl ⟨by rfl, by rintro w' ⟨s0, s1, s2, s3, s4⟩; go_simp; with_reducible rfl⟩) ?_
     refine one_ (i := 19) (N := some 36) b2A20 rfl rfl (one_of HT_.out (by kernel_rfl)) (by decide) (fun K hK => ?_)
     refine goes_ Try.func106 (by kernel_rfl) rfl #[.int .i64 ((rd_T138 l0 x12_1).f3), .int .i64 0, .int .i64 100000] (by rfl) rfl rfl M0 ?_
     with_reducible refine (impl_InRange.calls ((rd_T138 l0 x12_1).f3) 0 100000 false _ A15.out).mono ?_
     rintro e w' ⟨rfl, ⟨nd, rfl⟩⟩
     refine ⟨_, rfl, ?_⟩
     refine hK.out _ _ ⟨(bc BK112.out 0).trans rfl, (bc BK112.out 1).trans rfl, (bc BK112.out 2).trans rfl, (bc BK112.out 3).trans rfl, (bc BK112.out 4).trans rfl⟩ (fun hHeld => ?_)
     clear hK K
     refine norm_ (a' := ?_) ?_ ?_
     rotate_left
     ·show Act.put _ (some 36) _ = _
      simp only [Act.put, sA, sZ, sS, i64_w, i32_w]
      rfl
     refine pI 20 (some 37) b2A21 HT_ ?_
     refine pI 21 (some 38) b2A22 HT_ ?_
     refine pI 22 (some 39) b2A23 HT_ ?_
     refine pU 23 (some 40) b2A24 HT_ ?_
     refine pU 24 (some 41) b2A25 HT_ ?_
     refine pU 25 (some 42) b2A26 HT_ ?_
     refine pU 26 (some 43) b2A27 HT_ ?_
     refine pU 27 (some 44) b2A47 HT_ ?_
     refine pU 28 (some 45) b2A48 HT_ ?_
     refine pU 29 (some 46) b2A49 HT_ ?_
     refine pU 30 (some 47) b2A50 HT_ ?_
     refine pU 31 (some 48) b2A51 HT_ ?_
     refine pU 32 (some 49) b2A33 HT_ ?_
     refine pU 33 (some 50) b2A34 HT_ ?_
     refine pU 34 (some 51) b2A35 HT_ ?_
     refine pU 35 (some 52) b2A36 HT_ ?_
     refine pI 36 (some 53) b2A37 HT_ ?_
     refine pI 37 (some 54) b2A38 HT_ ?_
     refine pU 38 (some 55) b2A39 HT_ ?_
     refine pU 39 (some 56) b2A40 HT_ ?_
     refine pU 40 (some 57) b2A41 HT_ ?_
     refine pU 41 (some 58) b2A42 HT_ ?_
     refine pU 42 (some 59) b2A43 HT_ ?_
     refine pU 43 (some 60) b2A44 HT_ ?_
     refine pI 44 (some 61) b2A45 HT_ ?_
     refine done_ (done_of HT_.out (by kernel_rfl)) ?_
     try go_wp2
     go_meet
     case rel => exact ⟨_, (true), M3, H', ⟨by have := HK1.out; first | omega | exact Nat.le_refl _⟩, ⟨by exact qK BK112.out⟩, ⟨by repeat (first | (with_reducible first | exact HB.out | apply bA | apply bN | apply b1 | refine bS ?_ GE112.out) | exact HB.out)⟩⟩
    subst c16
    have H1 : (if x12_1 > 0 then (if 0 ≤ (wrap64 (x12_1 - 1)) then (if (wrap64 (x12_1 - 1)) < (l0.length : Int) then (if ((rd_T138 l0 x12_1).f3) < ((rd_T138 l0 (wrap64 (x12_1 - 1))).f3) then (impl_IsChain.j1 k1 l0 x12_1 l0 (l0.length : Int) x12_1 true ((rd_T138 l0 x12_1).f0) ((rd_T138 l0 x12_1).f1) ((rd_T138 l0 x12_1).f2) ((rd_T138 l0 x12_1).f3) ((rd_T138 l0 x12_1).f4)) else ((impl_HandSeal.f k1 x3_1 ((rd_T138 l0 x12_1).f0) ((rd_T138 l0 x12_1).f1) ((rd_T138 l0 x12_1).f2) ((rd_T138 l0 x12_1).f3) ((rd_T138 l0 x12_1).f4)).bind fun t118 => (impl_IsChain.j1 k1 l0 x12_1 l0 (l0.length : Int) x12_1 (((rd_T138 l0 x12_1).f4) != t118) ((rd_T138 l0 x12_1).f0) ((rd_T138 l0 x12_1).f1) ((rd_T138 l0 x12_1).f2) ((rd_T138 l0 x12_1).f3) ((rd_T138 l0 x12_1).f4)))) else (none)) else (none)) else ((impl_HandSeal.f k1 x3_1 ((rd_T138 l0 x12_1).f0) ((rd_T138 l0 x12_1).f1) ((rd_T138 l0 x12_1).f2) ((rd_T138 l0 x12_1).f3) ((rd_T138 l0 x12_1).f4)).bind fun t119 => (impl_IsChain.j1 k1 l0 x12_1 l0 (l0.length : Int) x12_1 (((rd_T138 l0 x12_1).f4) != t119) ((rd_T138 l0 x12_1).f0) ((rd_T138 l0 x12_1).f1) ((rd_T138 l0 x12_1).f2) ((rd_T138 l0 x12_1).f3) ((rd_T138 l0 x12_1).f4)))) = some r := by rw [if_pos rfl] at H; exact H
    clear H
    have H := H1
    clear H1
    by_cases c17 : x12_1 > 0
    rotate_left
    ·rw [if_neg c17] at H
     have c17b0 : decide (0 < x12_1) = false := decide_eq_false c17
     clear c17
     (first | rw [c17b0] | rw [c17b1] | (simp only [i64_w, i32_w]; rw [c17b0]) | skip)
     replace H := Option.bind_eq_some_iff.mp H
     obtain ⟨t119, A280, H⟩ := H
     replace H : (impl_IsChain.j1 k1 l0 x12_1 l0 (l0.length : Int) x12_1 (((rd_T138 l0 x12_1).f4) != t119) ((rd_T138 l0 x12_1).f0) ((rd_T138 l0 x12_1).f1) ((rd_T138 l0 x12_1).f2) ((rd_T138 l0 x12_1).f3) ((rd_T138 l0 x12_1).f4)) = some r := H
     have A28 := zK A280
     clear A280
     have H' := zK H
     clear H
     try go_wp2
     have n0_ : Aside0 ((((((w7.setCell ⟨gb112, 0, none⟩ (.int .i64 ((rd_T138 l0 x12_1).f0))).setCell ⟨gb112, 1, none⟩ (.int .i64 ((rd_T138 l0 x12_1).f1))).setCell ⟨gb112, 2, none⟩ (.int .i64 ((rd_T138 l0 x12_1).f2))).setCell ⟨gb112, 3, none⟩ (.int .i64 ((rd_T138 l0 x12_1).f3))).setCell ⟨gb112, 4, none⟩ (.int .i64 ((rd_T138 l0 x12_1).f4))).heap[gb112]? = some (.cells #[.int .i64 ((rd_T138 l0 x12_1).f0), .int .i64 ((rd_T138 l0 x12_1).f1), .int .i64 ((rd_T138 l0 x12_1).f2), .int .i64 ((rd_T138 l0 x12_1).f3), .int .i64 ((rd_T138 l0 x12_1).f4)] 138 (0, 0))) := ⟨by (with_reducible repeat (first | refine kN ?_ _ | refine kD ?_ | refine kA ?_ _)); refine blk_put (cs := #[.int .i64 ((rd_T138 l0 x12_1).f0), .int .i64 ((rd_T138 l0 x12_1).f1), .int .i64 ((rd_T138 l0 x12_1).f2), .int .i64 ((rd_T138 l0 x12_1).f3), .int .i64 0]) ?_ 4 _ rfl; (with_reducible repeat (first | refine kN ?_ _ | refine kD ?_ | refine kA ?_ _)); refine blk_put (cs := #[.int .i64 ((rd_T138 l0 x12_1).f0), .int .i64 ((rd_T138 l0 x12_1).f1), .int .i64 ((rd_T138 l0 x12_1).f2), .int .i64 0, .int .i64 0]) ?_ 3 _ rfl; (with_reducible repeat (first | refine kN ?_ _ | refine kD ?_ | refine kA ?_ _)); refine blk_put (cs := #[.int .i64 ((rd_T138 l0 x12_1).f0), .int .i64 ((rd_T138 l0 x12_1).f1), .int .i64 0, .int .i64 0, .int .i64 0]) ?_ 2 _ rfl; (with_reducible repeat (first | refine kN ?_ _ | refine kD ?_ | refine kA ?_ _)); refine blk_put (cs := #[.int .i64 ((rd_T138 l0 x12_1).f0), .int .i64 0, .int .i64 0, .int .i64 0, .int .i64 0]) ?_ 1 _ rfl; (with_reducible repeat (first | refine kN ?_ _ | refine kD ?_ | refine kA ?_ _)); refine blk_put (cs := #[.int .i64 0, .int .i64 0, .int .i64 0, .int .i64 0, .int .i64 0]) ?_ 0 _ rfl; exact qK BK112.out⟩
     have n1_ : Aside0 (Below w.heap.size w (((((w7.setCell ⟨gb112, 0, none⟩ (.int .i64 ((rd_T138 l0 x12_1).f0))).setCell ⟨gb112, 1, none⟩ (.int .i64 ((rd_T138 l0 x12_1).f1))).setCell ⟨gb112, 2, none⟩ (.int .i64 ((rd_T138 l0 x12_1).f2))).setCell ⟨gb112, 3, none⟩ (.int .i64 ((rd_T138 l0 x12_1).f3))).setCell ⟨gb112, 4, none⟩ (.int .i64 ((rd_T138 l0 x12_1).f4)))) := ⟨by repeat (first | (with_reducible first | exact HB.out | apply bA | apply bN | apply b1 | refine bS ?_ GE112.out) | exact HB.out)⟩
     (try clear BK112)
     (try clear HB)
     generalize (((((w7.setCell ⟨gb112, 0, none⟩ (.int .i64 ((rd_T138 l0 x12_1).f0))).setCell ⟨gb112, 1, none⟩ (.int .i64 ((rd_T138 l0 x12_1).f1))).setCell ⟨gb112, 2, none⟩ (.int .i64 ((rd_T138 l0 x12_1).f2))).setCell ⟨gb112, 3, none⟩ (.int .i64 ((rd_T138 l0 x12_1).f3))).setCell ⟨gb112, 4, none⟩ (.int .i64 ((rd_T138 l0 x12_1).f4))) = w29 at n0_ n1_ ⊢
     have BK112 := n0_
     have HB := n1_
     clear n0_ n1_
     have n0_ := zK (kD BK112.out)
     have n1_ := zK (b1 HB.out)
     clear BK112
     clear HB
     have BK112 := n0_
     have HB := n1_
     clear n0_ n1_
     refine start_ (n := 45) (S := fun w' => w'.cell? ⟨gb112, 0, none⟩ = some (.int .i64 ((rd_T138 l0 x12_1).f0)) ∧ w'.cell? ⟨gb112, 1, none⟩ = some (.int .i64 ((rd_T138 l0 x12_1).f1)) ∧ w'.cell? ⟨gb112, 2, none⟩ = some (.int .i64 ((rd_T138 l0 x12_1).f2)) ∧ w'.cell? ⟨gb112, 3, none⟩ = some (.int .i64 ((rd_T138 l0 x12_1).f3)) ∧ w'.cell? ⟨gb112, 4, none⟩ = some (.int .i64 ((rd_T138 l0 x12_1).f4))) (ds := []) b2A0 (by kernel_rfl) rfl rfl ⟨(bc BK112.out 0).trans rfl, (bc BK112.out 1).trans rfl, (bc BK112.out 2).trans rfl, (bc BK112.out 3).trans rfl, (bc BK112.out 4).trans rfl⟩ (fun hHeld => ?_); refine with_tabW impl_IsChain.tab7 impl_IsChain.bits7 (fun HT_ HW_ => ?_)
     generalize w29.drew = w30 at BK112 HB hHeld ⊢
     refine pI 0 (some 17) b2A1 HT_ ?_
     refine tI 1 (some 18) b2A2 HT_ HW_ hHeld rfl rfl (Or.inl ⟨by rfl, by rintro w' ⟨s0, s1, s2, s3, s4⟩; go_simp; with_reducible rfl⟩) ?_
     refine one_ (i := 2) (N := some 19) b2A3 rfl rfl (one_of HT_.out (by kernel_rfl)) (by decide) (fun K hK => ?_)
     refine goes_ Try.func106 (by kernel_rfl) rfl #[.int .i64 ((rd_T138 l0 x12_1).f0), .int .i64 1, .int .i64 999] (by rfl) rfl rfl M0 ?_
     with_reducible refine (impl_InRange.calls ((rd_T138 l0 x12_1).f0) 1 999 true _ A9.out).mono ?_
     rintro e w' ⟨rfl, ⟨nd, rfl⟩⟩
     refine ⟨_, rfl, ?_⟩
     refine hK.out _ _ ⟨(bc BK112.out 0).trans rfl, (bc BK112.out 1).trans rfl, (bc BK112.out 2).trans rfl, (bc BK112.out 3).trans rfl, (bc BK112.out 4).trans rfl⟩ (fun hHeld => ?_)
     clear hK K
     refine norm_ (a' := ?_) ?_ ?_
     rotate_left
     ·show Act.put _ (some 19) _ = _
      simp only [Act.put, sA, sZ, sS, i64_w, i32_w]
      rfl
     refine pI 3 (some 20) b2A4 HT_ ?_
     refine pI 4 (some 21) b2A5 HT_ ?_
     refine pI 5 (some 22) b2A6 HT_ ?_
     refine tI 6 (some 23) b2A7 HT_ HW_ hHeld rfl rfl (Or.inl ⟨by rfl, by rintro w' ⟨s0, s1, s2, s3, s4⟩; go_simp; with_reducible rfl⟩) ?_
     refine one_ (i := 7) (N := some 24) b2A8 rfl rfl (one_of HT_.out (by kernel_rfl)) (by decide) (fun K hK => ?_)
     refine goes_ Try.func106 (by kernel_rfl) rfl #[.int .i64 ((rd_T138 l0 x12_1).f1), .int .i64 1, .int .i64 5] (by rfl) rfl rfl M0 ?_
     with_reducible refine (impl_InRange.calls ((rd_T138 l0 x12_1).f1) 1 5 true _ A11.out).mono ?_
     rintro e w' ⟨rfl, ⟨nd, rfl⟩⟩
     refine ⟨_, rfl, ?_⟩
     refine hK.out _ _ ⟨(bc BK112.out 0).trans rfl, (bc BK112.out 1).trans rfl, (bc BK112.out 2).trans rfl, (bc BK112.out 3).trans rfl, (bc BK112.out 4).trans rfl⟩ (fun hHeld => ?_)
     clear hK K
     refine norm_ (a' := ?_) ?_ ?_
     rotate_left
     ·show Act.put _ (some 24) _ = _
      simp only [Act.put, sA, sZ, sS, i64_w, i32_w]
      rfl
     refine pI 8 (some 25) b2A9 HT_ ?_
     refine pI 9 (some 26) b2A10 HT_ ?_
     refine pI 10 (some 27) b2A11 HT_ ?_
     refine pI 11 (some 28) b2A12 HT_ ?_
     refine tI 12 (some 29) b2A13 HT_ HW_ hHeld rfl rfl (Or.inl ⟨by rfl, by rintro w' ⟨s0, s1, s2, s3, s4⟩; go_simp; with_reducible rfl⟩) ?_
     refine one_ (i := 13) (N := some 30) b2A14 rfl rfl (one_of HT_.out (by kernel_rfl)) (by decide) (fun K hK => ?_)
     refine goes_ Try.func106 (by kernel_rfl) rfl #[.int .i64 ((rd_T138 l0 x12_1).f2), .int .i64 0, .int .i64 999] (by rfl) rfl rfl M0 ?_
     with_reducible refine (impl_InRange.calls ((rd_T138 l0 x12_1).f2) 0 999 true _ A13.out).mono ?_
     rintro e w' ⟨rfl, ⟨nd, rfl⟩⟩
     refine ⟨_, rfl, ?_⟩
     refine hK.out _ _ ⟨(bc BK112.out 0).trans rfl, (bc BK112.out 1).trans rfl, (bc BK112.out 2).trans rfl, (bc BK112.out 3).trans rfl, (bc BK112.out 4).trans rfl⟩ (fun hHeld => ?_)
     clear hK K
     refine norm_ (a' := ?_) ?_ ?_
     rotate_left
     ·show Act.put _ (some 30) _ = _
      simp only [Act.put, sA, sZ, sS, i64_w, i32_w]
      rfl
     refine pI 14 (some 31) b2A15 HT_ ?_
     refine pI 15 (some 32) b2A16 HT_ ?_
     refine pI 16 (some 33) b2A17 HT_ ?_
     refine pI 17 (some 34) b2A18 HT_ ?_
     refine tI 18 (some 35) b2A19 HT_ HW_ hHeld rfl rfl (Or.inl ⟨by rfl, by rintro w' ⟨s0, s1, s2, s3, s4⟩; go_simp; with_reducible rfl⟩) ?_
     refine one_ (i := 19) (N := some 36) b2A20 rfl rfl (one_of HT_.out (by kernel_rfl)) (by decide) (fun K hK => ?_)
     refine goes_ Try.func106 (by kernel_rfl) rfl #[.int .i64 ((rd_T138 l0 x12_1).f3), .int .i64 0, .int .i64 100000] (by rfl) rfl rfl M0 ?_
     with_reducible refine (impl_InRange.calls ((rd_T138 l0 x12_1).f3) 0 100000 true _ A15.out).mono ?_
     rintro e w' ⟨rfl, ⟨nd, rfl⟩⟩
     refine ⟨_, rfl, ?_⟩
     refine hK.out _ _ ⟨(bc BK112.out 0).trans rfl, (bc BK112.out 1).trans rfl, (bc BK112.out 2).trans rfl, (bc BK112.out 3).trans rfl, (bc BK112.out 4).trans rfl⟩ (fun hHeld => ?_)
     clear hK K
     refine norm_ (a' := ?_) ?_ ?_
     rotate_left
     ·show Act.put _ (some 36) _ = _
      simp only [Act.put, sA, sZ, sS, i64_w, i32_w]
      rfl
     refine pI 20 (some 37) b2A21 HT_ ?_
     refine pI 21 (some 38) b2A22 HT_ ?_
     refine pI 22 (some 39) b2A23 HT_ ?_
     refine pI 23 (some 40) b2A24 HT_ ?_
     refine pI 24 (some 41) b2A25 HT_ ?_
     refine pI 25 (some 42) b2A26 HT_ ?_
     refine pU 26 (some 43) b2A27 HT_ ?_
     refine pU 27 (some 44) b2A47 HT_ ?_
     refine pU 28 (some 45) b2A48 HT_ ?_
     refine pU 29 (some 46) b2A49 HT_ ?_
     refine pU 30 (some 47) b2A50 HT_ ?_
     refine pU 31 (some 48) b2A51 HT_ ?_
     refine pU 32 (some 49) b2A33 HT_ ?_
     refine pU 33 (some 50) b2A34 HT_ ?_
     refine pU 34 (some 51) b2A35 HT_ ?_
     refine pI 35 (some 52) b2A36 HT_ ?_
     refine pI 36 (some 53) b2A37 HT_ ?_
     refine pI 37 (some 54) b2A38 HT_ ?_
     refine pI 38 (some 55) b2A39 HT_ ?_
     refine pI 40 (some 57) b2A46 HT_ ?_
     refine tI 39 (some 56) b2A41 HT_ HW_ hHeld rfl rfl (Or.inl ⟨by rfl, by rintro w' ⟨s0, s1, s2, s3, s4⟩; go_simp; with_reducible rfl⟩) ?_
     refine tI 41 (some 58) b2A42 HT_ HW_ hHeld rfl rfl (Or.inl ⟨by rfl, by rintro w' ⟨s0, s1, s2, s3, s4⟩; go_simp; with_reducible rfl⟩) ?_
     refine one_ (i := 42) (N := some 59) b2A43 rfl rfl (one_of HT_.out (by kernel_rfl)) (by decide) (fun K hK => ?_)
     refine goes_ Try.func107 (by kernel_rfl) rfl #[.int .i64 x3_1, .agg #[.int .i64 ((rd_T138 l0 x12_1).f0), .int .i64 ((rd_T138 l0 x12_1).f1), .int .i64 ((rd_T138 l0 x12_1).f2), .int .i64 ((rd_T138 l0 x12_1).f3), .int .i64 ((rd_T138 l0 x12_1).f4)]] (by rfl) rfl rfl M0 ?_
     with_reducible refine (impl_HandSeal.calls k1 x3_1 ((rd_T138 l0 x12_1).f0) ((rd_T138 l0 x12_1).f1) ((rd_T138 l0 x12_1).f2) ((rd_T138 l0 x12_1).f3) ((rd_T138 l0 x12_1).f4) t119 _ A28.out).mono ?_
     rintro e w31 ⟨rfl, hb⟩
     refine ⟨_, rfl, ?_⟩
     have n0_ := zK (bB (g := gb112) (o := .cells #[.int .i64 ((rd_T138 l0 x12_1).f0), .int .i64 ((rd_T138 l0 x12_1).f1), .int .i64 ((rd_T138 l0 x12_1).f2), .int .i64 ((rd_T138 l0 x12_1).f3), .int .i64 ((rd_T138 l0 x12_1).f4)] 138 (0, 0)) (qK BK112.out) hb)
     have n1_ := zK (bT (by repeat (first | (with_reducible first | exact HB.out | apply bA | apply bN | apply b1 | refine bS ?_ GE112.out) | exact HB.out)) hb)
     clear BK112
     clear HB
     have BK112 := n0_
     have HB := n1_
     clear n0_ n1_
     (try clear hb)
     (try clear hb2)
     (try clear hk)
     (try clear hi)
     refine hK.out _ _ ⟨(bc BK112.out 0).trans rfl, (bc BK112.out 1).trans rfl, (bc BK112.out 2).trans rfl, (bc BK112.out 3).trans rfl, (bc BK112.out 4).trans rfl⟩ (fun hHeld => ?_)
     clear hK K
     refine norm_ (a' := ?_) ?_ ?_
     rotate_left
     ·show Act.put _ (some 59) _ = _
      simp only [Act.put, sA, sZ, sS, i64_w, i32_w]
      rfl
     refine pI 43 (some 60) b2A44 HT_ ?_
     refine pI 44 (some 61) b2A45 HT_ ?_
     refine done_ (done_of HT_.out (by kernel_rfl)) ?_
     try go_wp2
     go_meet
     case rel => exact ⟨_, ((((rd_T138 l0 x12_1).f4) != t119)), M3, H', ⟨by have := HK1.out; first | omega | exact Nat.le_refl _⟩, ⟨by exact qK BK112.out⟩, ⟨by repeat (first | (with_reducible first | exact HB.out | apply bA | apply bN | apply b1 | refine bS ?_ GE112.out) | exact HB.out)⟩⟩
    rw [if_pos c17] at H
    have c17b0 : decide (0 < x12_1) = true := decide_eq_true c17
    clear c17
    (first | rw [c17b0] | rw [c17b1] | (simp only [i64_w, i32_w]; rw [c17b0]) | skip)
    obtain ⟨ji18, hji18⟩ : ∃ j_ : Int, (wrap64 (x12_1 - 1)) = j_ := ⟨_, rfl⟩
    replace H : (if 0 ≤ (ji18) then (if (ji18) < (l0.length : Int) then (if ((rd_T138 l0 x12_1).f3) < ((rd_T138 l0 (ji18)).f3) then (impl_IsChain.j1 k1 l0 x12_1 l0 (l0.length : Int) x12_1 true ((rd_T138 l0 x12_1).f0) ((rd_T138 l0 x12_1).f1) ((rd_T138 l0 x12_1).f2) ((rd_T138 l0 x12_1).f3) ((rd_T138 l0 x12_1).f4)) else ((impl_HandSeal.f k1 x3_1 ((rd_T138 l0 x12_1).f0) ((rd_T138 l0 x12_1).f1) ((rd_T138 l0 x12_1).f2) ((rd_T138 l0 x12_1).f3) ((rd_T138 l0 x12_1).f4)).bind fun t118 => (impl_IsChain.j1 k1 l0 x12_1 l0 (l0.length : Int) x12_1 (((rd_T138 l0 x12_1).f4) != t118) ((rd_T138 l0 x12_1).f0) ((rd_T138 l0 x12_1).f1) ((rd_T138 l0 x12_1).f2) ((rd_T138 l0 x12_1).f3) ((rd_T138 l0 x12_1).f4)))) else (none)) else (none)) = some r := by first | (rw [hji18] at H; exact H) | (simp only [hji18] at H ⊢; exact H)
    (try rw [hji18] at A9)
    (try rw [hji18] at A11)
    (try rw [hji18] at A13)
    (try rw [hji18] at A15)
    have hji18w : (IntKind.i64.wrap (x12_1 - 1)) = ji18 := (i64_w _).trans hji18
    by_cases c19 : 0 ≤ (ji18)
    rotate_left
    ·rw [if_neg c19] at H
     exact absurd H (by simp)
    rw [if_pos c19] at H
    have c19b0 : decide (0 ≤ (ji18)) = true := decide_eq_true c19
    clear c19
    by_cases c20 : (ji18) < (l0.length : Int)
    rotate_left
    ·rw [if_neg c20] at H
     exact absurd H (by simp)
    rw [if_pos c20] at H
    have c20b0 : decide ((ji18) < (l0.length : Int)) = true := decide_eq_true c20
    clear c20
    by_cases c21 : ((rd_T138 l0 x12_1).f3) < ((rd_T138 l0 (ji18)).f3)
    ·rw [if_pos c21] at H
     have c21b0 : decide (((rd_T138 l0 x12_1).f3) < ((rd_T138 l0 (ji18)).f3)) = true := decide_eq_true c21
     clear c21
     have H' := zK H
     clear H
     try go_wp2
     have n0_ : Aside0 ((((((w7.setCell ⟨gb112, 0, none⟩ (.int .i64 ((rd_T138 l0 x12_1).f0))).setCell ⟨gb112, 1, none⟩ (.int .i64 ((rd_T138 l0 x12_1).f1))).setCell ⟨gb112, 2, none⟩ (.int .i64 ((rd_T138 l0 x12_1).f2))).setCell ⟨gb112, 3, none⟩ (.int .i64 ((rd_T138 l0 x12_1).f3))).setCell ⟨gb112, 4, none⟩ (.int .i64 ((rd_T138 l0 x12_1).f4))).heap[gb112]? = some (.cells #[.int .i64 ((rd_T138 l0 x12_1).f0), .int .i64 ((rd_T138 l0 x12_1).f1), .int .i64 ((rd_T138 l0 x12_1).f2), .int .i64 ((rd_T138 l0 x12_1).f3), .int .i64 ((rd_T138 l0 x12_1).f4)] 138 (0, 0))) := ⟨by (with_reducible repeat (first | refine kN ?_ _ | refine kD ?_ | refine kA ?_ _)); refine blk_put (cs := #[.int .i64 ((rd_T138 l0 x12_1).f0), .int .i64 ((rd_T138 l0 x12_1).f1), .int .i64 ((rd_T138 l0 x12_1).f2), .int .i64 ((rd_T138 l0 x12_1).f3), .int .i64 0]) ?_ 4 _ rfl; (with_reducible repeat (first | refine kN ?_ _ | refine kD ?_ | refine kA ?_ _)); refine blk_put (cs := #[.int .i64 ((rd_T138 l0 x12_1).f0), .int .i64 ((rd_T138 l0 x12_1).f1), .int .i64 ((rd_T138 l0 x12_1).f2), .int .i64 0, .int .i64 0]) ?_ 3 _ rfl; (with_reducible repeat (first | refine kN ?_ _ | refine kD ?_ | refine kA ?_ _)); refine blk_put (cs := #[.int .i64 ((rd_T138 l0 x12_1).f0), .int .i64 ((rd_T138 l0 x12_1).f1), .int .i64 0, .int .i64 0, .int .i64 0]) ?_ 2 _ rfl; (with_reducible repeat (first | refine kN ?_ _ | refine kD ?_ | refine kA ?_ _)); refine blk_put (cs := #[.int .i64 ((rd_T138 l0 x12_1).f0), .int .i64 0, .int .i64 0, .int .i64 0, .int .i64 0]) ?_ 1 _ rfl; (with_reducible repeat (first | refine kN ?_ _ | refine kD ?_ | refine kA ?_ _)); refine blk_put (cs := #[.int .i64 0, .int .i64 0, .int .i64 0, .int .i64 0, .int .i64 0]) ?_ 0 _ rfl; exact qK BK112.out⟩
     have n1_ : Aside0 (Below w.heap.size w (((((w7.setCell ⟨gb112, 0, none⟩ (.int .i64 ((rd_T138 l0 x12_1).f0))).setCell ⟨gb112, 1, none⟩ (.int .i64 ((rd_T138 l0 x12_1).f1))).setCell ⟨gb112, 2, none⟩ (.int .i64 ((rd_T138 l0 x12_1).f2))).setCell ⟨gb112, 3, none⟩ (.int .i64 ((rd_T138 l0 x12_1).f3))).setCell ⟨gb112, 4, none⟩ (.int .i64 ((rd_T138 l0 x12_1).f4)))) := ⟨by repeat (first | (with_reducible first | exact HB.out | apply bA | apply bN | apply b1 | refine bS ?_ GE112.out) | exact HB.out)⟩
     (try clear BK112)
     (try clear HB)
     generalize (((((w7.setCell ⟨gb112, 0, none⟩ (.int .i64 ((rd_T138 l0 x12_1).f0))).setCell ⟨gb112, 1, none⟩ (.int .i64 ((rd_T138 l0 x12_1).f1))).setCell ⟨gb112, 2, none⟩ (.int .i64 ((rd_T138 l0 x12_1).f2))).setCell ⟨gb112, 3, none⟩ (.int .i64 ((rd_T138 l0 x12_1).f3))).setCell ⟨gb112, 4, none⟩ (.int .i64 ((rd_T138 l0 x12_1).f4))) = w22 at n0_ n1_ ⊢
     have BK112 := n0_
     have HB := n1_
     clear n0_ n1_
     have n0_ := zK (kD BK112.out)
     have n1_ := zK (b1 HB.out)
     clear BK112
     clear HB
     have BK112 := n0_
     have HB := n1_
     clear n0_ n1_
     have p117 : 0 ≤ ((ji18) : Int) := oD M1
     have q117 : (ji18) < (l0.length : Int) := oD M1
     obtain ⟨ad117, e117, hx117_0, hx117_1, hx117_2, hx117_3, hx117_4⟩ := at_T138 HR0.out (ji18) p117 q117
     have hw117_4 := hx117_4
     have hw117_3 := hx117_3
     have hw117_2 := hx117_2
     have hw117_1 := hx117_1
     have hw117_0 := hx117_0
     obtain rfl : ad111 = ad117 := (by injection e117)
     replace hx117_0 := (HB.out.cell (bL w hx117_0)).trans hx117_0
     replace hx117_1 := (HB.out.cell (bL w hx117_1)).trans hx117_1
     replace hx117_2 := (HB.out.cell (bL w hx117_2)).trans hx117_2
     replace hx117_3 := (HB.out.cell (bL w hx117_3)).trans hx117_3
     replace hx117_4 := (HB.out.cell (bL w hx117_4)).trans hx117_4
     replace p117 := eq_true p117
     replace q117 := eq_true q117
     refine start_ (n := 45) (S := fun w' => w'.cell? ⟨gb112, 0, none⟩ = some (.int .i64 ((rd_T138 l0 x12_1).f0)) ∧ w'.cell? ⟨gb112, 1, none⟩ = some (.int .i64 ((rd_T138 l0 x12_1).f1)) ∧ w'.cell? ⟨gb112, 2, none⟩ = some (.int .i64 ((rd_T138 l0 x12_1).f2)) ∧ w'.cell? ⟨gb112, 3, none⟩ = some (.int .i64 ((rd_T138 l0 x12_1).f3)) ∧ w'.cell? ⟨gb112, 4, none⟩ = some (.int .i64 ((rd_T138 l0 x12_1).f4)) ∧ w'.cell? (ad111.add (((ji18)).toNat * 5)) = some (.int .i64 ((rd_T138 l0 (ji18)).f0)) ∧ w'.cell? ⟨(ad111.add (((ji18)).toNat * 5)).block, (ad111.add (((ji18)).toNat * 5)).off + 1, none⟩ = some (.int .i64 ((rd_T138 l0 (ji18)).f1)) ∧ w'.cell? ⟨(ad111.add (((ji18)).toNat * 5)).block, (ad111.add (((ji18)).toNat * 5)).off + 2, none⟩ = some (.int .i64 ((rd_T138 l0 (ji18)).f2)) ∧ w'.cell? ⟨(ad111.add (((ji18)).toNat * 5)).block, (ad111.add (((ji18)).toNat * 5)).off + 3, none⟩ = some (.int .i64 ((rd_T138 l0 (ji18)).f3)) ∧ w'.cell? ⟨(ad111.add (((ji18)).toNat * 5)).block, (ad111.add (((ji18)).toNat * 5)).off + 4, none⟩ = some (.int .i64 ((rd_T138 l0 (ji18)).f4))) (ds := []) b2A0 (by kernel_rfl) rfl rfl ⟨(bc BK112.out 0).trans rfl, (bc BK112.out 1).trans rfl, (bc BK112.out 2).trans rfl, (bc BK112.out 3).trans rfl, (bc BK112.out 4).trans rfl, ((HB.out.cell (bL w hw117_0)).trans hw117_0), ((HB.out.cell (bL w hw117_1)).trans hw117_1), ((HB.out.cell (bL w hw117_2)).trans hw117_2), ((HB.out.cell (bL w hw117_3)).trans hw117_3), ((HB.out.cell (bL w hw117_4)).trans hw117_4)⟩ (fun hHeld => ?_); refine with_tabW impl_IsChain.tab7 impl_IsChain.bits7 (fun HT_ HW_ => ?_)
     generalize w22.drew = w23 at BK112 HB hx117_0 hx117_1 hx117_2 hx117_3 hx117_4 hHeld ⊢
     refine pI 0 (some 17) b2A1 HT_ ?_
     refine tI 1 (some 18) b2A2 HT_ HW_ hHeld rfl rfl (Or.inl ⟨by rfl, by rintro w' ⟨s0, s1, s2, s3, s4, s5, s6, s7, s8, s9⟩; go_simp; with_reducible rfl⟩) ?_
     refine one_ (i := 2) (N := some 19) b2A3 rfl rfl (one_of HT_.out (by kernel_rfl)) (by decide) (fun K hK => ?_)
     refine goes_ Try.func106 (by kernel_rfl) rfl #[.int .i64 ((rd_T138 l0 x12_1).f0), .int .i64 1, .int .i64 999] (by rfl) rfl rfl M0 ?_
     with_reducible refine (impl_InRange.calls ((rd_T138 l0 x12_1).f0) 1 999 true _ A9.out).mono ?_
     rintro e w' ⟨rfl, ⟨nd, rfl⟩⟩
     refine ⟨_, rfl, ?_⟩
     refine hK.out _ _ ⟨(bc BK112.out 0).trans rfl, (bc BK112.out 1).trans rfl, (bc BK112.out 2).trans rfl, (bc BK112.out 3).trans rfl, (bc BK112.out 4).trans rfl, ((HB.out.cell (bL w hw117_0)).trans hw117_0), ((HB.out.cell (bL w hw117_1)).trans hw117_1), ((HB.out.cell (bL w hw117_2)).trans hw117_2), ((HB.out.cell (bL w hw117_3)).trans hw117_3), ((HB.out.cell (bL w hw117_4)).trans hw117_4)⟩ (fun hHeld => ?_)
     clear hK K
     refine norm_ (a' := ?_) ?_ ?_
     rotate_left
     ·show Act.put _ (some 19) _ = _
      simp only [Act.put, sA, sZ, sS, i64_w, i32_w]
      rfl
     refine pI 3 (some 20) b2A4 HT_ ?_
     refine pI 4 (some 21) b2A5 HT_ ?_
     refine pI 5 (some 22) b2A6 HT_ ?_
     refine tI 6 (some 23) b2A7 HT_ HW_ hHeld rfl rfl (Or.inl ⟨by rfl, by rintro w' ⟨s0, s1, s2, s3, s4, s5, s6, s7, s8, s9⟩; go_simp; with_reducible rfl⟩) ?_
     refine one_ (i := 7) (N := some 24) b2A8 rfl rfl (one_of HT_.out (by kernel_rfl)) (by decide) (fun K hK => ?_)
     refine goes_ Try.func106 (by kernel_rfl) rfl #[.int .i64 ((rd_T138 l0 x12_1).f1), .int .i64 1, .int .i64 5] (by rfl) rfl rfl M0 ?_
     with_reducible refine (impl_InRange.calls ((rd_T138 l0 x12_1).f1) 1 5 true _ A11.out).mono ?_
     rintro e w' ⟨rfl, ⟨nd, rfl⟩⟩
     refine ⟨_, rfl, ?_⟩
     refine hK.out _ _ ⟨(bc BK112.out 0).trans rfl, (bc BK112.out 1).trans rfl, (bc BK112.out 2).trans rfl, (bc BK112.out 3).trans rfl, (bc BK112.out 4).trans rfl, ((HB.out.cell (bL w hw117_0)).trans hw117_0), ((HB.out.cell (bL w hw117_1)).trans hw117_1), ((HB.out.cell (bL w hw117_2)).trans hw117_2), ((HB.out.cell (bL w hw117_3)).trans hw117_3), ((HB.out.cell (bL w hw117_4)).trans hw117_4)⟩ (fun hHeld => ?_)
     clear hK K
     refine norm_ (a' := ?_) ?_ ?_
     rotate_left
     ·show Act.put _ (some 24) _ = _
      simp only [Act.put, sA, sZ, sS, i64_w, i32_w]
      rfl
     refine pI 8 (some 25) b2A9 HT_ ?_
     refine pI 9 (some 26) b2A10 HT_ ?_
     refine pI 10 (some 27) b2A11 HT_ ?_
     refine pI 11 (some 28) b2A12 HT_ ?_
     refine tI 12 (some 29) b2A13 HT_ HW_ hHeld rfl rfl (Or.inl ⟨by rfl, by rintro w' ⟨s0, s1, s2, s3, s4, s5, s6, s7, s8, s9⟩; go_simp; with_reducible rfl⟩) ?_
     refine one_ (i := 13) (N := some 30) b2A14 rfl rfl (one_of HT_.out (by kernel_rfl)) (by decide) (fun K hK => ?_)
     refine goes_ Try.func106 (by kernel_rfl) rfl #[.int .i64 ((rd_T138 l0 x12_1).f2), .int .i64 0, .int .i64 999] (by rfl) rfl rfl M0 ?_
     with_reducible refine (impl_InRange.calls ((rd_T138 l0 x12_1).f2) 0 999 true _ A13.out).mono ?_
     rintro e w' ⟨rfl, ⟨nd, rfl⟩⟩
     refine ⟨_, rfl, ?_⟩
     refine hK.out _ _ ⟨(bc BK112.out 0).trans rfl, (bc BK112.out 1).trans rfl, (bc BK112.out 2).trans rfl, (bc BK112.out 3).trans rfl, (bc BK112.out 4).trans rfl, ((HB.out.cell (bL w hw117_0)).trans hw117_0), ((HB.out.cell (bL w hw117_1)).trans hw117_1), ((HB.out.cell (bL w hw117_2)).trans hw117_2), ((HB.out.cell (bL w hw117_3)).trans hw117_3), ((HB.out.cell (bL w hw117_4)).trans hw117_4)⟩ (fun hHeld => ?_)
     clear hK K
     refine norm_ (a' := ?_) ?_ ?_
     rotate_left
     ·show Act.put _ (some 30) _ = _
      simp only [Act.put, sA, sZ, sS, i64_w, i32_w]
      rfl
     refine pI 14 (some 31) b2A15 HT_ ?_
     refine pI 15 (some 32) b2A16 HT_ ?_
     refine pI 16 (some 33) b2A17 HT_ ?_
     refine pI 17 (some 34) b2A18 HT_ ?_
     refine tI 18 (some 35) b2A19 HT_ HW_ hHeld rfl rfl (Or.inl ⟨by rfl, by rintro w' ⟨s0, s1, s2, s3, s4, s5, s6, s7, s8, s9⟩; go_simp; with_reducible rfl⟩) ?_
     refine one_ (i := 19) (N := some 36) b2A20 rfl rfl (one_of HT_.out (by kernel_rfl)) (by decide) (fun K hK => ?_)
     refine goes_ Try.func106 (by kernel_rfl) rfl #[.int .i64 ((rd_T138 l0 x12_1).f3), .int .i64 0, .int .i64 100000] (by rfl) rfl rfl M0 ?_
     with_reducible refine (impl_InRange.calls ((rd_T138 l0 x12_1).f3) 0 100000 true _ A15.out).mono ?_
     rintro e w' ⟨rfl, ⟨nd, rfl⟩⟩
     refine ⟨_, rfl, ?_⟩
     refine hK.out _ _ ⟨(bc BK112.out 0).trans rfl, (bc BK112.out 1).trans rfl, (bc BK112.out 2).trans rfl, (bc BK112.out 3).trans rfl, (bc BK112.out 4).trans rfl, ((HB.out.cell (bL w hw117_0)).trans hw117_0), ((HB.out.cell (bL w hw117_1)).trans hw117_1), ((HB.out.cell (bL w hw117_2)).trans hw117_2), ((HB.out.cell (bL w hw117_3)).trans hw117_3), ((HB.out.cell (bL w hw117_4)).trans hw117_4)⟩ (fun hHeld => ?_)
     clear hK K
     refine norm_ (a' := ?_) ?_ ?_
     rotate_left
     ·show Act.put _ (some 36) _ = _
      simp only [Act.put, sA, sZ, sS, i64_w, i32_w]
      rfl
     refine pI 20 (some 37) b2A21 HT_ ?_
     refine pI 21 (some 38) b2A22 HT_ ?_
     refine pI 22 (some 39) b2A23 HT_ ?_
     refine pI 23 (some 40) b2A24 HT_ ?_
     refine pI 24 (some 41) b2A25 HT_ ?_
     refine pI 25 (some 42) b2A26 HT_ ?_
     refine pI 26 (some 43) b2A27 HT_ ?_
     refine pI 28 (some 45) b2A28 HT_ ?_
     refine pI 29 (some 46) b2A29 HT_ ?_
     refine pI 30 (some 47) b2A30 HT_ ?_
     refine pI 31 (some 48) b2A31 HT_ ?_
     refine pI 32 (some 49) b2A32 HT_ ?_
     refine tI 27 (some 44) b2A33 HT_ HW_ hHeld rfl rfl (Or.inl ⟨by rfl, by rintro w' ⟨s0, s1, s2, s3, s4, s5, s6, s7, s8, s9⟩; go_simp; with_reducible rfl⟩) ?_
     refine tI 33 (some 50) b2A34 HT_ HW_ hHeld rfl rfl (Or.inl ⟨by rfl, by rintro w' ⟨s0, s1, s2, s3, s4, s5, s6, s7, s8, s9⟩; go_simp; with_reducible rfl⟩) ?_
     refine pI 34 (some 51) b2A35 HT_ ?_
     refine pI 35 (some 52) b2A36 HT_ ?_
     refine pI 36 (some 53) b2A37 HT_ ?_
     refine pI 37 (some 54) b2A38 HT_ ?_
     refine pU 38 (some 55) b2A39 HT_ ?_
     refine pU 39 (some 56) b2A40 HT_ ?_
     refine pU 40 (some 57) b2A41 HT_ ?_
     refine pU 41 (some 58) b2A42 HT_ ?_
     refine pU 42 (some 59) b2A43 HT_ ?_
     refine pU 43 (some 60) b2A44 HT_ ?_
     refine pI 44 (some 61) b2A45 HT_ ?_
     refine done_ (done_of HT_.out (by kernel_rfl)) ?_
     try go_wp2
     go_meet
     case rel => exact ⟨_, (true), M3, H', ⟨by have := HK1.out; first | omega | exact Nat.le_refl _⟩, ⟨by exact qK BK112.out⟩, ⟨by repeat (first | (with_reducible first | exact HB.out | apply bA | apply bN | apply b1 | refine bS ?_ GE112.out) | exact HB.out)⟩⟩
    rw [if_neg c21] at H
    have c21b0 : decide (((rd_T138 l0 x12_1).f3) < ((rd_T138 l0 (ji18)).f3)) = false := decide_eq_false c21
    clear c21
    replace H := Option.bind_eq_some_iff.mp H
    obtain ⟨t118, A240, H⟩ := H
    replace H : (impl_IsChain.j1 k1 l0 x12_1 l0 (l0.length : Int) x12_1 (((rd_T138 l0 x12_1).f4) != t118) ((rd_T138 l0 x12_1).f0) ((rd_T138 l0 x12_1).f1) ((rd_T138 l0 x12_1).f2) ((rd_T138 l0 x12_1).f3) ((rd_T138 l0 x12_1).f4)) = some r := H
    have A24 := zK A240
    clear A240
    have H' := zK H
    clear H
    try go_wp2
    have n0_ : Aside0 ((((((w7.setCell ⟨gb112, 0, none⟩ (.int .i64 ((rd_T138 l0 x12_1).f0))).setCell ⟨gb112, 1, none⟩ (.int .i64 ((rd_T138 l0 x12_1).f1))).setCell ⟨gb112, 2, none⟩ (.int .i64 ((rd_T138 l0 x12_1).f2))).setCell ⟨gb112, 3, none⟩ (.int .i64 ((rd_T138 l0 x12_1).f3))).setCell ⟨gb112, 4, none⟩ (.int .i64 ((rd_T138 l0 x12_1).f4))).heap[gb112]? = some (.cells #[.int .i64 ((rd_T138 l0 x12_1).f0), .int .i64 ((rd_T138 l0 x12_1).f1), .int .i64 ((rd_T138 l0 x12_1).f2), .int .i64 ((rd_T138 l0 x12_1).f3), .int .i64 ((rd_T138 l0 x12_1).f4)] 138 (0, 0))) := ⟨by (with_reducible repeat (first | refine kN ?_ _ | refine kD ?_ | refine kA ?_ _)); refine blk_put (cs := #[.int .i64 ((rd_T138 l0 x12_1).f0), .int .i64 ((rd_T138 l0 x12_1).f1), .int .i64 ((rd_T138 l0 x12_1).f2), .int .i64 ((rd_T138 l0 x12_1).f3), .int .i64 0]) ?_ 4 _ rfl; (with_reducible repeat (first | refine kN ?_ _ | refine kD ?_ | refine kA ?_ _)); refine blk_put (cs := #[.int .i64 ((rd_T138 l0 x12_1).f0), .int .i64 ((rd_T138 l0 x12_1).f1), .int .i64 ((rd_T138 l0 x12_1).f2), .int .i64 0, .int .i64 0]) ?_ 3 _ rfl; (with_reducible repeat (first | refine kN ?_ _ | refine kD ?_ | refine kA ?_ _)); refine blk_put (cs := #[.int .i64 ((rd_T138 l0 x12_1).f0), .int .i64 ((rd_T138 l0 x12_1).f1), .int .i64 0, .int .i64 0, .int .i64 0]) ?_ 2 _ rfl; (with_reducible repeat (first | refine kN ?_ _ | refine kD ?_ | refine kA ?_ _)); refine blk_put (cs := #[.int .i64 ((rd_T138 l0 x12_1).f0), .int .i64 0, .int .i64 0, .int .i64 0, .int .i64 0]) ?_ 1 _ rfl; (with_reducible repeat (first | refine kN ?_ _ | refine kD ?_ | refine kA ?_ _)); refine blk_put (cs := #[.int .i64 0, .int .i64 0, .int .i64 0, .int .i64 0, .int .i64 0]) ?_ 0 _ rfl; exact qK BK112.out⟩
    have n1_ : Aside0 (Below w.heap.size w (((((w7.setCell ⟨gb112, 0, none⟩ (.int .i64 ((rd_T138 l0 x12_1).f0))).setCell ⟨gb112, 1, none⟩ (.int .i64 ((rd_T138 l0 x12_1).f1))).setCell ⟨gb112, 2, none⟩ (.int .i64 ((rd_T138 l0 x12_1).f2))).setCell ⟨gb112, 3, none⟩ (.int .i64 ((rd_T138 l0 x12_1).f3))).setCell ⟨gb112, 4, none⟩ (.int .i64 ((rd_T138 l0 x12_1).f4)))) := ⟨by repeat (first | (with_reducible first | exact HB.out | apply bA | apply bN | apply b1 | refine bS ?_ GE112.out) | exact HB.out)⟩
    (try clear BK112)
    (try clear HB)
    generalize (((((w7.setCell ⟨gb112, 0, none⟩ (.int .i64 ((rd_T138 l0 x12_1).f0))).setCell ⟨gb112, 1, none⟩ (.int .i64 ((rd_T138 l0 x12_1).f1))).setCell ⟨gb112, 2, none⟩ (.int .i64 ((rd_T138 l0 x12_1).f2))).setCell ⟨gb112, 3, none⟩ (.int .i64 ((rd_T138 l0 x12_1).f3))).setCell ⟨gb112, 4, none⟩ (.int .i64 ((rd_T138 l0 x12_1).f4))) = w25 at n0_ n1_ ⊢
    have BK112 := n0_
    have HB := n1_
    clear n0_ n1_
    have n0_ := zK (kD BK112.out)
    have n1_ := zK (b1 HB.out)
    clear BK112
    clear HB
    have BK112 := n0_
    have HB := n1_
    clear n0_ n1_
    have p117 : 0 ≤ ((ji18) : Int) := oD M1
    have q117 : (ji18) < (l0.length : Int) := oD M1
    obtain ⟨ad117, e117, hx117_0, hx117_1, hx117_2, hx117_3, hx117_4⟩ := at_T138 HR0.out (ji18) p117 q117
    have hw117_4 := hx117_4
    have hw117_3 := hx117_3
    have hw117_2 := hx117_2
    have hw117_1 := hx117_1
    have hw117_0 := hx117_0
    obtain rfl : ad111 = ad117 := (by injection e117)
    replace hx117_0 := (HB.out.cell (bL w hx117_0)).trans hx117_0
    replace hx117_1 := (HB.out.cell (bL w hx117_1)).trans hx117_1
    replace hx117_2 := (HB.out.cell (bL w hx117_2)).trans hx117_2
    replace hx117_3 := (HB.out.cell (bL w hx117_3)).trans hx117_3
    replace hx117_4 := (HB.out.cell (bL w hx117_4)).trans hx117_4
    replace p117 := eq_true p117
    replace q117 := eq_true q117
    refine start_ (n := 45) (S := fun w' => w'.cell? ⟨gb112, 0, none⟩ = some (.int .i64 ((rd_T138 l0 x12_1).f0)) ∧ w'.cell? ⟨gb112, 1, none⟩ = some (.int .i64 ((rd_T138 l0 x12_1).f1)) ∧ w'.cell? ⟨gb112, 2, none⟩ = some (.int .i64 ((rd_T138 l0 x12_1).f2)) ∧ w'.cell? ⟨gb112, 3, none⟩ = some (.int .i64 ((rd_T138 l0 x12_1).f3)) ∧ w'.cell? ⟨gb112, 4, none⟩ = some (.int .i64 ((rd_T138 l0 x12_1).f4)) ∧ w'.cell? (ad111.add (((ji18)).toNat * 5)) = some (.int .i64 ((rd_T138 l0 (ji18)).f0)) ∧ w'.cell? ⟨(ad111.add (((ji18)).toNat * 5)).block, (ad111.add (((ji18)).toNat * 5)).off + 1, none⟩ = some (.int .i64 ((rd_T138 l0 (ji18)).f1)) ∧ w'.cell? ⟨(ad111.add (((ji18)).toNat * 5)).block, (ad111.add (((ji18)).toNat * 5)).off + 2, none⟩ = some (.int .i64 ((rd_T138 l0 (ji18)).f2)) ∧ w'.cell? ⟨(ad111.add (((ji18)).toNat * 5)).block, (ad111.add (((ji18)).toNat * 5)).off + 3, none⟩ = some (.int .i64 ((rd_T138 l0 (ji18)).f3)) ∧ w'.cell? ⟨(ad111.add (((ji18)).toNat * 5)).block, (ad111.add (((ji18)).toNat * 5)).off + 4, none⟩ = some (.int .i64 ((rd_T138 l0 (ji18)).f4))) (ds := []) b2A0 (by kernel_rfl) rfl rfl ⟨(bc BK112.out 0).trans rfl, (bc BK112.out 1).trans rfl, (bc BK112.out 2).trans rfl, (bc BK112.out 3).trans rfl, (bc BK112.out 4).trans rfl, ((HB.out.cell (bL w hw117_0)).trans hw117_0), ((HB.out.cell (bL w hw117_1)).trans hw117_1), ((HB.out.cell (bL w hw117_2)).trans hw117_2), ((HB.out.cell (bL w hw117_3)).trans hw117_3), ((HB.out.cell (bL w hw117_4)).trans hw117_4)⟩ (fun hHeld => ?_); refine with_tabW impl_IsChain.tab7 impl_IsChain.bits7 (fun HT_ HW_ => ?_)
    generalize w25.drew = w26 at BK112 HB hx117_0 hx117_1 hx117_2 hx117_3 hx117_4 hHeld ⊢
    refine pI 0 (some 17) b2A1 HT_ ?_
    refine tI 1 (some 18) b2A2 HT_ HW_ hHeld rfl rfl (Or.inl ⟨by rfl, by rintro w' ⟨s0, s1, s2, s3, s4, s5, s6, s7, s8, s9⟩; go_simp; with_reducible rfl⟩) ?_
    refine one_ (i := 2) (N := some 19) b2A3 rfl rfl (one_of HT_.out (by kernel_rfl)) (by decide) (fun K hK => ?_)
    refine goes_ Try.func106 (by kernel_rfl) rfl #[.int .i64 ((rd_T138 l0 x12_1).f0), .int .i64 1, .int .i64 999] (by rfl) rfl rfl M0 ?_
    with_reducible refine (impl_InRange.calls ((rd_T138 l0 x12_1).f0) 1 999 true _ A9.out).mono ?_
    rintro e w' ⟨rfl, ⟨nd, rfl⟩⟩
    refine ⟨_, rfl, ?_⟩
    refine hK.out _ _ ⟨(bc BK112.out 0).trans rfl, (bc BK112.out 1).trans rfl, (bc BK112.out 2).trans rfl, (bc BK112.out 3).trans rfl, (bc BK112.out 4).trans rfl, ((HB.out.cell (bL w hw117_0)).trans hw117_0), ((HB.out.cell (bL w hw117_1)).trans hw117_1), ((HB.out.cell (bL w hw117_2)).trans hw117_2), ((HB.out.cell (bL w hw117_3)).trans hw117_3), ((HB.out.cell (bL w hw117_4)).trans hw117_4)⟩ (fun hHeld => ?_)
    clear hK K
    refine norm_ (a' := ?_) ?_ ?_
    rotate_left
    ·show Act.put _ (some 19) _ = _
     simp only [Act.put, sA, sZ, sS, i64_w, i32_w]
     rfl
    refine pI 3 (some 20) b2A4 HT_ ?_
    refine pI 4 (some 21) b2A5 HT_ ?_
    refine pI 5 (some 22) b2A6 HT_ ?_
    refine tI 6 (some 23) b2A7 HT_ HW_ hHeld rfl rfl (Or.inl ⟨by rfl, by rintro w' ⟨s0, s1, s2, s3, s4, s5, s6, s7, s8, s9⟩; go_simp; with_reducible rfl⟩) ?_
    refine one_ (i := 7) (N := some 24) b2A8 rfl rfl (one_of HT_.out (by kernel_rfl)) (by decide) (fun K hK => ?_)
    refine goes_ Try.func106 (by kernel_rfl) rfl #[.int .i64 ((rd_T138 l0 x12_1).f1), .int .i64 1, .int .i64 5] (by rfl) rfl rfl M0 ?_
    with_reducible refine (impl_InRange.calls ((rd_T138 l0 x12_1).f1) 1 5 true _ A11.out).mono ?_
    rintro e w' ⟨rfl, ⟨nd, rfl⟩⟩
    refine ⟨_, rfl, ?_⟩
    refine hK.out _ _ ⟨(bc BK112.out 0).trans rfl, (bc BK112.out 1).trans rfl, (bc BK112.out 2).trans rfl, (bc BK112.out 3).trans rfl, (bc BK112.out 4).trans rfl, ((HB.out.cell (bL w hw117_0)).trans hw117_0), ((HB.out.cell (bL w hw117_1)).trans hw117_1), ((HB.out.cell (bL w hw117_2)).trans hw117_2), ((HB.out.cell (bL w hw117_3)).trans hw117_3), ((HB.out.cell (bL w hw117_4)).trans hw117_4)⟩ (fun hHeld => ?_)
    clear hK K
    refine norm_ (a' := ?_) ?_ ?_
    rotate_left
    ·show Act.put _ (some 24) _ = _
     simp only [Act.put, sA, sZ, sS, i64_w, i32_w]
     rfl
    refine pI 8 (some 25) b2A9 HT_ ?_
    refine pI 9 (some 26) b2A10 HT_ ?_
    refine pI 10 (some 27) b2A11 HT_ ?_
    refine pI 11 (some 28) b2A12 HT_ ?_
    refine tI 12 (some 29) b2A13 HT_ HW_ hHeld rfl rfl (Or.inl ⟨by rfl, by rintro w' ⟨s0, s1, s2, s3, s4, s5, s6, s7, s8, s9⟩; go_simp; with_reducible rfl⟩) ?_
    refine one_ (i := 13) (N := some 30) b2A14 rfl rfl (one_of HT_.out (by kernel_rfl)) (by decide) (fun K hK => ?_)
    refine goes_ Try.func106 (by kernel_rfl) rfl #[.int .i64 ((rd_T138 l0 x12_1).f2), .int .i64 0, .int .i64 999] (by rfl) rfl rfl M0 ?_
    with_reducible refine (impl_InRange.calls ((rd_T138 l0 x12_1).f2) 0 999 true _ A13.out).mono ?_
    rintro e w' ⟨rfl, ⟨nd, rfl⟩⟩
    refine ⟨_, rfl, ?_⟩
    refine hK.out _ _ ⟨(bc BK112.out 0).trans rfl, (bc BK112.out 1).trans rfl, (bc BK112.out 2).trans rfl, (bc BK112.out 3).trans rfl, (bc BK112.out 4).trans rfl, ((HB.out.cell (bL w hw117_0)).trans hw117_0), ((HB.out.cell (bL w hw117_1)).trans hw117_1), ((HB.out.cell (bL w hw117_2)).trans hw117_2), ((HB.out.cell (bL w hw117_3)).trans hw117_3), ((HB.out.cell (bL w hw117_4)).trans hw117_4)⟩ (fun hHeld => ?_)
    clear hK K
    refine norm_ (a' := ?_) ?_ ?_
    rotate_left
    ·show Act.put _ (some 30) _ = _
     simp only [Act.put, sA, sZ, sS, i64_w, i32_w]
     rfl
    refine pI 14 (some 31) b2A15 HT_ ?_
    refine pI 15 (some 32) b2A16 HT_ ?_
    refine pI 16 (some 33) b2A17 HT_ ?_
    refine pI 17 (some 34) b2A18 HT_ ?_
    refine tI 18 (some 35) b2A19 HT_ HW_ hHeld rfl rfl (Or.inl ⟨by rfl, by rintro w' ⟨s0, s1, s2, s3, s4, s5, s6, s7, s8, s9⟩; go_simp; with_reducible rfl⟩) ?_
    refine one_ (i := 19) (N := some 36) b2A20 rfl rfl (one_of HT_.out (by kernel_rfl)) (by decide) (fun K hK => ?_)
    refine goes_ Try.func106 (by kernel_rfl) rfl #[.int .i64 ((rd_T138 l0 x12_1).f3), .int .i64 0, .int .i64 100000] (by rfl) rfl rfl M0 ?_
    with_reducible refine (impl_InRange.calls ((rd_T138 l0 x12_1).f3) 0 100000 true _ A15.out).mono ?_
    rintro e w' ⟨rfl, ⟨nd, rfl⟩⟩
    refine ⟨_, rfl, ?_⟩
    refine hK.out _ _ ⟨(bc BK112.out 0).trans rfl, (bc BK112.out 1).trans rfl, (bc BK112.out 2).trans rfl, (bc BK112.out 3).trans rfl, (bc BK112.out 4).trans rfl, ((HB.out.cell (bL w hw117_0)).trans hw117_0), ((HB.out.cell (bL w hw117_1)).trans hw117_1), ((HB.out.cell (bL w hw117_2)).trans hw117_2), ((HB.out.cell (bL w hw117_3)).trans hw117_3), ((HB.out.cell (bL w hw117_4)).trans hw117_4)⟩ (fun hHeld => ?_)
    clear hK K
    refine norm_ (a' := ?_) ?_ ?_
    rotate_left
    ·show Act.put _ (some 36) _ = _
     simp only [Act.put, sA, sZ, sS, i64_w, i32_w]
     rfl
    refine pI 20 (some 37) b2A21 HT_ ?_
    refine pI 21 (some 38) b2A22 HT_ ?_
    refine pI 22 (some 39) b2A23 HT_ ?_
    refine pI 23 (some 40) b2A24 HT_ ?_
    refine pI 24 (some 41) b2A25 HT_ ?_
    refine pI 25 (some 42) b2A26 HT_ ?_
    refine pI 26 (some 43) b2A27 HT_ ?_
    refine pI 28 (some 45) b2A28 HT_ ?_
    refine pI 29 (some 46) b2A29 HT_ ?_
    refine pI 30 (some 47) b2A30 HT_ ?_
    refine pI 31 (some 48) b2A31 HT_ ?_
    refine pI 32 (some 49) b2A32 HT_ ?_
    refine tI 27 (some 44) b2A33 HT_ HW_ hHeld rfl rfl (Or.inl ⟨by rfl, by rintro w' ⟨s0, s1, s2, s3, s4, s5, s6, s7, s8, s9⟩; go_simp; with_reducible rfl⟩) ?_
    refine tI 33 (some 50) b2A34 HT_ HW_ hHeld rfl rfl (Or.inl ⟨by rfl, by rintro w' ⟨s0, s1, s2, s3, s4, s5, s6, s7, s8, s9⟩; go_simp; with_reducible rfl⟩) ?_
    refine pI 34 (some 51) b2A35 HT_ ?_
    refine pI 35 (some 52) b2A36 HT_ ?_
    refine pI 36 (some 53) b2A37 HT_ ?_
    refine pI 37 (some 54) b2A38 HT_ ?_
    refine pI 38 (some 55) b2A39 HT_ ?_
    refine pI 40 (some 57) b2A46 HT_ ?_
    refine tI 39 (some 56) b2A41 HT_ HW_ hHeld rfl rfl (Or.inl ⟨by rfl, by rintro w' ⟨s0, s1, s2, s3, s4, s5, s6, s7, s8, s9⟩; go_simp; with_reducible rfl⟩) ?_
    refine tI 41 (some 58) b2A42 HT_ HW_ hHeld rfl rfl (Or.inl ⟨by rfl, by rintro w' ⟨s0, s1, s2, s3, s4, s5, s6, s7, s8, s9⟩; go_simp; with_reducible rfl⟩) ?_
    refine one_ (i := 42) (N := some 59) b2A43 rfl rfl (one_of HT_.out (by kernel_rfl)) (by decide) (fun K hK => ?_)
    refine goes_ Try.func107 (by kernel_rfl) rfl #[.int .i64 x3_1, .agg #[.int .i64 ((rd_T138 l0 x12_1).f0), .int .i64 ((rd_T138 l0 x12_1).f1), .int .i64 ((rd_T138 l0 x12_1).f2), .int .i64 ((rd_T138 l0 x12_1).f3), .int .i64 ((rd_T138 l0 x12_1).f4)]] (by rfl) rfl rfl M0 ?_
    with_reducible refine (impl_HandSeal.calls k1 x3_1 ((rd_T138 l0 x12_1).f0) ((rd_T138 l0 x12_1).f1) ((rd_T138 l0 x12_1).f2) ((rd_T138 l0 x12_1).f3) ((rd_T138 l0 x12_1).f4) t118 _ A24.out).mono ?_
    rintro e w27 ⟨rfl, hb⟩
    refine ⟨_, rfl, ?_⟩
    have n0_ := zK (bB (g := gb112) (o := .cells #[.int .i64 ((rd_T138 l0 x12_1).f0), .int .i64 ((rd_T138 l0 x12_1).f1), .int .i64 ((rd_T138 l0 x12_1).f2), .int .i64 ((rd_T138 l0 x12_1).f3), .int .i64 ((rd_T138 l0 x12_1).f4)] 138 (0, 0)) (qK BK112.out) hb)
    have n1_ := zK (bT (by repeat (first | (with_reducible first | exact HB.out | apply bA | apply bN | apply b1 | refine bS ?_ GE112.out) | exact HB.out)) hb)
    clear BK112
    clear HB
    have BK112 := n0_
    have HB := n1_
    clear n0_ n1_
    (try clear hb)
    (try clear hb2)
    (try clear hk)
    (try clear hi)
    refine hK.out _ _ ⟨(bc BK112.out 0).trans rfl, (bc BK112.out 1).trans rfl, (bc BK112.out 2).trans rfl, (bc BK112.out 3).trans rfl, (bc BK112.out 4).trans rfl, ((HB.out.cell (bL w hw117_0)).trans hw117_0), ((HB.out.cell (bL w hw117_1)).trans hw117_1), ((HB.out.cell (bL w hw117_2)).trans hw117_2), ((HB.out.cell (bL w hw117_3)).trans hw117_3), ((HB.out.cell (bL w hw117_4)).trans hw117_4)⟩ (fun hHeld => ?_)
    clear hK K
    refine norm_ (a' := ?_) ?_ ?_
    rotate_left
    ·show Act.put _ (some 59) _ = _
     simp only [Act.put, sA, sZ, sS, i64_w, i32_w]
     rfl
    refine pI 43 (some 60) b2A44 HT_ ?_
    refine pI 44 (some 61) b2A45 HT_ ?_
    refine done_ (done_of HT_.out (by kernel_rfl)) ?_
    try go_wp2
    go_meet
    case rel => exact ⟨_, ((((rd_T138 l0 x12_1).f4) != t118)), M3, H', ⟨by have := HK1.out; first | omega | exact Nat.le_refl _⟩, ⟨by exact qK BK112.out⟩, ⟨by repeat (first | (with_reducible first | exact HB.out | apply bA | apply bN | apply b1 | refine bS ?_ GE112.out) | exact HB.out)⟩⟩
   case rest =>
    clear HC6
    try clear c1
    try clear p2
    try clear c10
    try clear c12
    obtain ⟨kq, x61_5, rfl, HA, HJ5, BK112, HB⟩ := hcut
    cases kq with
    | zero => exact absurd HA.out (by simp [impl_IsChain.j1])
    | succ kj5 =>
     have H := HA.out
     clear HA
     simp only [impl_IsChain.j1] at H
     by_cases c40 : x61_5 = true
     ·subst c40
      have H1 : (some false) = some r := by rw [if_pos rfl] at H; exact H
      clear H
      have H := H1
      clear H1
      obtain rfl := Option.some.inj H
      go_wp2
      go_ret
      exact ⟨by first | rfl | (simp [errW_none, errW_some] <;> rfl) | (simp [*, errW_none, errW_some] <;> rfl), by repeat (first | (with_reducible first | exact HB.out | apply bA | apply bN | apply b1 | refine bS ?_ GE112.out) | exact HB.out)⟩
     replace c40 := Bool.eq_false_iff.mpr c40
     subst c40
     have H1 : (if 0 ≤ x12_1 then (if x12_1 ≤ (l0.length : Int) then ((impl_lastHand.f kj5 (l0.take (x12_1 : Int).toNat) ((rd_T138 l0 x12_1).f0)).bind fun t124 => (if t124 < 0 then (if ((rd_T138 l0 x12_1).f1) > 2 then (some false) else (impl_IsChain.l0 kj5 l0 ((rd_T138 l0 x12_1).f4) l0 (l0.length : Int) (wrap64 (x12_1 + 1)))) else (if ((rd_T138 l0 x12_1).f1) = 1 then (some false) else (if 0 ≤ t124 then (if t124 < (l0.length : Int) then (if ((rd_T138 l0 t124).f1) > 2 then (some false) else (impl_IsChain.l0 kj5 l0 ((rd_T138 l0 x12_1).f4) l0 (l0.length : Int) (wrap64 (x12_1 + 1)))) else (none)) else (none))))) else (none)) else (none)) = some r := by rw [if_neg (show ¬ (false = true) by decide)] at H; exact H
     clear H
     have H := H1
     clear H1
     by_cases c41 : 0 ≤ x12_1
     rotate_left
     ·rw [if_neg c41] at H
      exact absurd H (by simp)
     rw [if_pos c41] at H
     have c41b0 := eq_true c41
     have c41b1 : decide (0 ≤ x12_1) = true := decide_eq_true c41
     clear c41
     by_cases c42 : x12_1 ≤ (l0.length : Int)
     rotate_left
     ·rw [if_neg c42] at H
      exact absurd H (by simp)
     rw [if_pos c42] at H
     have c42b0 := eq_true c42
     have c42b1 : decide (x12_1 ≤ (l0.length : Int)) = true := decide_eq_true c42
     clear c42
     obtain ⟨y120, hy120⟩ : ∃ y_ : List (S138), y_ = (l0.take (x12_1 : Int).toNat) := ⟨_, rfl⟩
     replace H : ((impl_lastHand.f kj5 y120 ((rd_T138 l0 x12_1).f0)).bind fun t124 => (if t124 < 0 then (if ((rd_T138 l0 x12_1).f1) > 2 then (some false) else (impl_IsChain.l0 kj5 l0 ((rd_T138 l0 x12_1).f4) l0 (l0.length : Int) (wrap64 (x12_1 + 1)))) else (if ((rd_T138 l0 x12_1).f1) = 1 then (some false) else (if 0 ≤ t124 then (if t124 < (l0.length : Int) then (if ((rd_T138 l0 t124).f1) > 2 then (some false) else (impl_IsChain.l0 kj5 l0 ((rd_T138 l0 x12_1).f4) l0 (l0.length : Int) (wrap64 (x12_1 + 1)))) else (none)) else (none))))) = some r := by first | (rw [hy120]; with_reducible exact H) | (have H2_ := (Option.bind_some _ _).symm.trans H; rw [hy120]; with_reducible exact H2_) | (have H2_ := (Option.bind_some _ _).symm.trans H; with_reducible exact H2_) | with_reducible exact H | (rw [hy120]; exact H) | exact H
     have Ny120 := zK hy120
     clear hy120
     replace H := Option.bind_eq_some_iff.mp H
     obtain ⟨t124, A430, H⟩ := H
     replace H : (if t124 < 0 then (if ((rd_T138 l0 x12_1).f1) > 2 then (some false) else (impl_IsChain.l0 kj5 l0 ((rd_T138 l0 x12_1).f4) l0 (l0.length : Int) (wrap64 (x12_1 + 1)))) else (if ((rd_T138 l0 x12_1).f1) = 1 then (some false) else (if 0 ≤ t124 then (if t124 < (l0.length : Int) then (if ((rd_T138 l0 t124).f1) > 2 then (some false) else (impl_IsChain.l0 kj5 l0 ((rd_T138 l0 x12_1).f4) l0 (l0.length : Int) (wrap64 (x12_1 + 1)))) else (none)) else (none)))) = some r := H
     have A43 := zK A430
     clear A430
     by_cases c44 : t124 < 0
     ·rw [if_pos c44] at H
      have c44b0 : decide (t124 < 0) = true := decide_eq_true c44
      clear c44
      by_cases c45 : ((rd_T138 l0 x12_1).f1) > 2
      ·rw [if_pos c45] at H
       have c45b0 : decide (2 < ((rd_T138 l0 x12_1).f1)) = true := decide_eq_true c45
       clear c45
       obtain rfl := Option.some.inj H
       try go_wp2
       have n0_ := zK (kD BK112.out)
       have n1_ := zK (b1 HB.out)
       clear BK112
       clear HB
       have BK112 := n0_
       have HB := n1_
       clear n0_ n1_
       have q47 : (x12_1 : Int) ≤ ((l0.length : Int) : Int) := oD M1
       obtain ⟨i047, hi047, _, hsz47, _⟩ := info_parts info138
       have hroom47 : l0.length ≤ c0 := HC0.out
       have hC47 : Kd.C k138 _ (some ad111) l0.length l0 := HR0.out
       have hcut47 := cut_to (P := Try.prog) 51 138 .i64 Try.underlying51 hi047 (some ad111) l0.length c0 x12_1 (oD M1) q47 hroom47
       have hr47 := Kd.C_take (m := (x12_1 : Int).toNat) hC47 (by omega)
       have hy47 : y120.length = (x12_1 : Int).toNat := (by rw [Ny120.out, List.length_take]; omega)
       rw [← Ny120.out] at hr47
       rw [← hy47] at hcut47
       have HR123 := zK hr47
       have HC123 := zK (show y120.length ≤ c0 from by omega)
       clear hr47 hC47 hroom47 hi047 hsz47
       have KY47 := zK hy47
       clear hy47
       replace q47 := eq_true q47
       refine start_ (n := 7) (S := fun w' => w'.cell? ⟨gb112, 0, none⟩ = some (.int .i64 ((rd_T138 l0 x12_1).f0)) ∧ w'.cell? ⟨gb112, 1, none⟩ = some (.int .i64 ((rd_T138 l0 x12_1).f1)) ∧ w'.cell? ⟨gb112, 2, none⟩ = some (.int .i64 ((rd_T138 l0 x12_1).f2)) ∧ w'.cell? ⟨gb112, 3, none⟩ = some (.int .i64 ((rd_T138 l0 x12_1).f3)) ∧ w'.cell? ⟨gb112, 4, none⟩ = some (.int .i64 ((rd_T138 l0 x12_1).f4))) (ds := []) b2A52 (by kernel_rfl) rfl rfl ⟨(bc BK112.out 0).trans rfl, (bc BK112.out 1).trans rfl, (bc BK112.out 2).trans rfl, (bc BK112.out 3).trans rfl, (bc BK112.out 4).trans rfl⟩ (fun hHeld => ?_)
       generalize wc.drew = w46 at BK112 HB HR123 hHeld ⊢
       refine pure_ (i := 0) (N := some 62) (v := ?_) (a' := ?_) b2A53 rfl rfl (by kernel_rfl) (fun _ _ _ h => h) (Or.inl ⟨by rfl, ?_⟩) ?_ ?_
       rotate_left
       ·intro w'
        go_simp
        with_reducible rfl
       rotate_left
       ·simp only [Act.put, sA, sZ, sS, i64_w, i32_w]
        rfl
       refine pure_ (i := 1) (N := some 63) (v := ?_) (a' := ?_) b2A54 rfl rfl (by kernel_rfl) (fun _ _ _ h => h) (Or.inl ⟨by rfl, ?_⟩) ?_ ?_
       rotate_left
       ·intro w'
        go_simp
        with_reducible rfl
       rotate_left
       ·simp only [Act.put, sA, sZ, sS, i64_w, i32_w]
        rfl
       refine pure_ (i := 2) (N := some 64) (v := ?_) (a' := ?_) b2A55 rfl rfl (by kernel_rfl) (fun _ _ _ h => h) (Or.inl ⟨by rfl, ?_⟩) ?_ ?_
       rotate_left
       ·intro w'
        go_simp
        with_reducible rfl
       rotate_left
       ·simp only [Act.put, sA, sZ, sS, i64_w, i32_w]
        rfl
       refine pure_ (i := 3) (N := some 65) (v := ?_) (a' := ?_) b2A56 rfl rfl (by kernel_rfl) (fun _ _ _ h => h) (Or.inl ⟨by rfl, ?_⟩) ?_ ?_
       rotate_left
       ·intro w'
        go_simp
        with_reducible rfl
       rotate_left
       ·simp only [Act.put, sA, sZ, sS, i64_w, i32_w]
        rfl
       refine take_ (i := 4) (N := some 66) (v := ?_) (a' := ?_) b2A57 rfl rfl (by kernel_rfl) (fun _ _ _ h => h) (Or.inl ⟨by rfl, ?_⟩) hHeld ?_ ?_
       rotate_left
       ·rintro w' ⟨s0, s1, s2, s3, s4⟩
        go_simp
        with_reducible rfl
       rotate_left
       ·simp only [Act.put, sA, sZ, sS, i64_w, i32_w]
        rfl
       refine one_ (i := 5) (N := some 67) b2A58 rfl rfl (by kernel_rfl) (by decide) (fun K hK => ?_)
       refine goes_ Try.func104 (by kernel_rfl) rfl #[.slice (some ad111) y120.length c0, .int .i64 ((rd_T138 l0 x12_1).f0)] (by rfl) rfl rfl M0 ?_
       with_reducible refine (impl_lastHand.calls kj5 _ _ y120 ((rd_T138 l0 x12_1).f0) t124 _ ?side1 ?side2 A43.out).mono ?_
       (case side1 => exact Kd.qC (Kd.C_below HR123.out HB.out))
       (case side2 => exact HC123.out)
       rintro e w' ⟨rfl, ⟨nd, rfl⟩⟩
       refine ⟨_, rfl, ?_⟩
       refine hK.out _ _ ⟨(bc BK112.out 0).trans rfl, (bc BK112.out 1).trans rfl, (bc BK112.out 2).trans rfl, (bc BK112.out 3).trans rfl, (bc BK112.out 4).trans rfl⟩ (fun hHeld => ?_)
       clear hK K
       refine norm_ (a' := ?_) ?_ ?_
       rotate_left
       ·show Act.put _ (some 67) _ = _
        simp only [Act.put, sA, sZ, sS, i64_w, i32_w]
        rfl
       refine pure_ (i := 6) (N := some 6) (v := ?_) (a' := ?_) b2A59 rfl rfl (by kernel_rfl) (fun _ _ _ h => h) (Or.inl ⟨by rfl, ?_⟩) ?_ ?_
       rotate_left
       ·intro w'
        go_simp
        with_reducible rfl
       rotate_left
       ·simp only [Act.put, sA, sZ, sS, i64_w, i32_w]
        rfl
       refine done_ (by kernel_rfl) ?_
       have hcz48_0 : w46.cell? ⟨gb112, 0, none⟩ = some (.int .i64 ((rd_T138 l0 x12_1).f0)) := (bc BK112.out 0).trans rfl
       have hcz48_1 : w46.cell? ⟨gb112, 1, none⟩ = some (.int .i64 ((rd_T138 l0 x12_1).f1)) := (bc BK112.out 1).trans rfl
       have hcz48_2 : w46.cell? ⟨gb112, 2, none⟩ = some (.int .i64 ((rd_T138 l0 x12_1).f2)) := (bc BK112.out 2).trans rfl
       have hcz48_3 : w46.cell? ⟨gb112, 3, none⟩ = some (.int .i64 ((rd_T138 l0 x12_1).f3)) := (bc BK112.out 3).trans rfl
       have hcz48_4 : w46.cell? ⟨gb112, 4, none⟩ = some (.int .i64 ((rd_T138 l0 x12_1).f4)) := (bc BK112.out 4).trans rfl
       have hfz48_0 := bf BK112.out 0
       have hfz48_1 := bf BK112.out 1
       have hfz48_2 := bf BK112.out 2
       have hfz48_3 := bf BK112.out 3
       have hfz48_4 := bf BK112.out 4
       try go_wp2
       go_ret
       exact ⟨by first | rfl | (simp [errW_none, errW_some] <;> rfl) | (simp [*, errW_none, errW_some] <;> rfl), by repeat (first | (with_reducible first | exact HB.out | apply bA | apply bN | apply b1 | refine bS ?_ GE112.out) | exact HB.out)⟩
      rw [if_neg c45] at H
      have c45b0 : decide (2 < ((rd_T138 l0 x12_1).f1)) = false := decide_eq_false c45
      clear c45
      have H' := zK H
      clear H
      try go_wp2
      have n0_ := zK (kD BK112.out)
      have n1_ := zK (b1 HB.out)
      clear BK112
      clear HB
      have BK112 := n0_
      have HB := n1_
      clear n0_ n1_
      have q50 : (x12_1 : Int) ≤ ((l0.length : Int) : Int) := oD M1
      obtain ⟨i050, hi050, _, hsz50, _⟩ := info_parts info138
      have hroom50 : l0.length ≤ c0 := HC0.out
      have hC50 : Kd.C k138 _ (some ad111) l0.length l0 := HR0.out
      have hcut50 := cut_to (P := Try.prog) 51 138 .i64 Try.underlying51 hi050 (some ad111) l0.length c0 x12_1 (oD M1) q50 hroom50
      have hr50 := Kd.C_take (m := (x12_1 : Int).toNat) hC50 (by omega)
      have hy50 : y120.length = (x12_1 : Int).toNat := (by rw [Ny120.out, List.length_take]; omega)
      rw [← Ny120.out] at hr50
      rw [← hy50] at hcut50
      have HR123 := zK hr50
      have HC123 := zK (show y120.length ≤ c0 from by omega)
      clear hr50 hC50 hroom50 hi050 hsz50
      have KY50 := zK hy50
      clear hy50
      replace q50 := eq_true q50
      refine start_ (n := 7) (S := fun w' => w'.cell? ⟨gb112, 0, none⟩ = some (.int .i64 ((rd_T138 l0 x12_1).f0)) ∧ w'.cell? ⟨gb112, 1, none⟩ = some (.int .i64 ((rd_T138 l0 x12_1).f1)) ∧ w'.cell? ⟨gb112, 2, none⟩ = some (.int .i64 ((rd_T138 l0 x12_1).f2)) ∧ w'.cell? ⟨gb112, 3, none⟩ = some (.int .i64 ((rd_T138 l0 x12_1).f3)) ∧ w'.cell? ⟨gb112, 4, none⟩ = some (.int .i64 ((rd_T138 l0 x12_1).f4))) (ds := []) b2A52 (by kernel_rfl) rfl rfl ⟨(bc BK112.out 0).trans rfl, (bc BK112.out 1).trans rfl, (bc BK112.out 2).trans rfl, (bc BK112.out 3).trans rfl, (bc BK112.out 4).trans rfl⟩ (fun hHeld => ?_)
      generalize wc.drew = w49 at BK112 HB HR123 hHeld ⊢
      refine pure_ (i := 0) (N := some 62) (v := ?_) (a' := ?_) b2A53 rfl rfl (by kernel_rfl) (fun _ _ _ h => h) (Or.inl ⟨by rfl, ?_⟩) ?_ ?_
      rotate_left
      ·intro w'
       go_simp
       with_reducible rfl
      rotate_left
      ·simp only [Act.put, sA, sZ, sS, i64_w, i32_w]
       rfl
      refine pure_ (i := 1) (N := some 63) (v := ?_) (a' := ?_) b2A54 rfl rfl (by kernel_rfl) (fun _ _ _ h => h) (Or.inl ⟨by rfl, ?_⟩) ?_ ?_
      rotate_left
      ·intro w'
       go_simp
       with_reducible rfl
      rotate_left
      ·simp only [Act.put, sA, sZ, sS, i64_w, i32_w]
       rfl
      refine pure_ (i := 2) (N := some 64) (v := ?_) (a' := ?_) b2A55 rfl rfl (by kernel_rfl) (fun _ _ _ h => h) (Or.inl ⟨by rfl, ?_⟩) ?_ ?_
      rotate_left
      ·intro w'
       go_simp
       with_reducible rfl
      rotate_left
      ·simp only [Act.put, sA, sZ, sS, i64_w, i32_w]
       rfl
      refine pure_ (i := 3) (N := some 65) (v := ?_) (a' := ?_) b2A56 rfl rfl (by kernel_rfl) (fun _ _ _ h => h) (Or.inl ⟨by rfl, ?_⟩) ?_ ?_
      rotate_left
      ·intro w'
       go_simp
       with_reducible rfl
      rotate_left
      ·simp only [Act.put, sA, sZ, sS, i64_w, i32_w]
       rfl
      refine take_ (i := 4) (N := some 66) (v := ?_) (a' := ?_) b2A57 rfl rfl (by kernel_rfl) (fun _ _ _ h => h) (Or.inl ⟨by rfl, ?_⟩) hHeld ?_ ?_
      rotate_left
      ·rintro w' ⟨s0, s1, s2, s3, s4⟩
       go_simp
       with_reducible rfl
      rotate_left
      ·simp only [Act.put, sA, sZ, sS, i64_w, i32_w]
       rfl
      refine one_ (i := 5) (N := some 67) b2A58 rfl rfl (by kernel_rfl) (by decide) (fun K hK => ?_)
      refine goes_ Try.func104 (by kernel_rfl) rfl #[.slice (some ad111) y120.length c0, .int .i64 ((rd_T138 l0 x12_1).f0)] (by rfl) rfl rfl M0 ?_
      with_reducible refine (impl_lastHand.calls kj5 _ _ y120 ((rd_T138 l0 x12_1).f0) t124 _ ?side1 ?side2 A43.out).mono ?_
      (case side1 => exact Kd.qC (Kd.C_below HR123.out HB.out))
      (case side2 => exact HC123.out)
      rintro e w' ⟨rfl, ⟨nd, rfl⟩⟩
      refine ⟨_, rfl, ?_⟩
      refine hK.out _ _ ⟨(bc BK112.out 0).trans rfl, (bc BK112.out 1).trans rfl, (bc BK112.out 2).trans rfl, (bc BK112.out 3).trans rfl, (bc BK112.out 4).trans rfl⟩ (fun hHeld => ?_)
      clear hK K
      refine norm_ (a' := ?_) ?_ ?_
      rotate_left
      ·show Act.put _ (some 67) _ = _
       simp only [Act.put, sA, sZ, sS, i64_w, i32_w]
       rfl
      refine pure_ (i := 6) (N := some 6) (v := ?_) (a' := ?_) b2A59 rfl rfl (by kernel_rfl) (fun _ _ _ h => h) (Or.inl ⟨by rfl, ?_⟩) ?_ ?_
      rotate_left
      ·intro w'
       go_simp
       with_reducible rfl
      rotate_left
      ·simp only [Act.put, sA, sZ, sS, i64_w, i32_w]
       rfl
      refine done_ (by kernel_rfl) ?_
      have hcz51_0 : w49.cell? ⟨gb112, 0, none⟩ = some (.int .i64 ((rd_T138 l0 x12_1).f0)) := (bc BK112.out 0).trans rfl
      have hcz51_1 : w49.cell? ⟨gb112, 1, none⟩ = some (.int .i64 ((rd_T138 l0 x12_1).f1)) := (bc BK112.out 1).trans rfl
      have hcz51_2 : w49.cell? ⟨gb112, 2, none⟩ = some (.int .i64 ((rd_T138 l0 x12_1).f2)) := (bc BK112.out 2).trans rfl
      have hcz51_3 : w49.cell? ⟨gb112, 3, none⟩ = some (.int .i64 ((rd_T138 l0 x12_1).f3)) := (bc BK112.out 3).trans rfl
      have hcz51_4 : w49.cell? ⟨gb112, 4, none⟩ = some (.int .i64 ((rd_T138 l0 x12_1).f4)) := (bc BK112.out 4).trans rfl
      have hfz51_0 := bf BK112.out 0
      have hfz51_1 := bf BK112.out 1
      have hfz51_2 := bf BK112.out 2
      have hfz51_3 := bf BK112.out 3
      have hfz51_4 := bf BK112.out 4
      try go_wp2
      go_roundg kj5
      case measure => have := HK1.out; have := HJ5.out; omega
      case rel => exact ⟨(((rd_T138 l0 x12_1).f4)), (wrap64 (x12_1 + 1)), M3, M3, H', ⟨by have := HK1.out; have := HJ5.out; omega⟩, ⟨by repeat (first | (with_reducible first | exact HB.out | apply bA | apply bN | apply b1 | refine bS ?_ GE112.out) | exact HB.out)⟩⟩
     rw [if_neg c44] at H
     have c44b0 : decide (t124 < 0) = false := decide_eq_false c44
     clear c44
     by_cases c52 : ((rd_T138 l0 x12_1).f1) = 1
     ·rw [if_pos c52] at H
      have c52b0 : (((rd_T138 l0 x12_1).f1) == 1) = true := beq_iff_eq.mpr c52
      have c52b1 : (((rd_T138 l0 x12_1).f1) != 1) = false := bne_eq_false_iff_eq.mpr c52
      clear c52
      obtain rfl := Option.some.inj H
      try go_wp2
      have n0_ := zK (kD BK112.out)
      have n1_ := zK (b1 HB.out)
      clear BK112
      clear HB
      have BK112 := n0_
      have HB := n1_
      clear n0_ n1_
      have q54 : (x12_1 : Int) ≤ ((l0.length : Int) : Int) := oD M1
      obtain ⟨i054, hi054, _, hsz54, _⟩ := info_parts info138
      have hroom54 : l0.length ≤ c0 := HC0.out
      have hC54 : Kd.C k138 _ (some ad111) l0.length l0 := HR0.out
      have hcut54 := cut_to (P := Try.prog) 51 138 .i64 Try.underlying51 hi054 (some ad111) l0.length c0 x12_1 (oD M1) q54 hroom54
      have hr54 := Kd.C_take (m := (x12_1 : Int).toNat) hC54 (by omega)
      have hy54 : y120.length = (x12_1 : Int).toNat := (by rw [Ny120.out, List.length_take]; omega)
      rw [← Ny120.out] at hr54
      rw [← hy54] at hcut54
      have HR123 := zK hr54
      have HC123 := zK (show y120.length ≤ c0 from by omega)
      clear hr54 hC54 hroom54 hi054 hsz54
      have KY54 := zK hy54
      clear hy54
      replace q54 := eq_true q54
      refine start_ (n := 7) (S := fun w' => w'.cell? ⟨gb112, 0, none⟩ = some (.int .i64 ((rd_T138 l0 x12_1).f0)) ∧ w'.cell? ⟨gb112, 1, none⟩ = some (.int .i64 ((rd_T138 l0 x12_1).f1)) ∧ w'.cell? ⟨gb112, 2, none⟩ = some (.int .i64 ((rd_T138 l0 x12_1).f2)) ∧ w'.cell? ⟨gb112, 3, none⟩ = some (.int .i64 ((rd_T138 l0 x12_1).f3)) ∧ w'.cell? ⟨gb112, 4, none⟩ = some (.int .i64 ((rd_T138 l0 x12_1).f4))) (ds := []) b2A52 (by kernel_rfl) rfl rfl ⟨(bc BK112.out 0).trans rfl, (bc BK112.out 1).trans rfl, (bc BK112.out 2).trans rfl, (bc BK112.out 3).trans rfl, (bc BK112.out 4).trans rfl⟩ (fun hHeld => ?_)
      generalize wc.drew = w53 at BK112 HB HR123 hHeld ⊢
      refine pure_ (i := 0) (N := some 62) (v := ?_) (a' := ?_) b2A53 rfl rfl (by kernel_rfl) (fun _ _ _ h => h) (Or.inl ⟨by rfl, ?_⟩) ?_ ?_
      rotate_left
      ·intro w'
       go_simp
       with_reducible rfl
      rotate_left
      ·simp only [Act.put, sA, sZ, sS, i64_w, i32_w]
       rfl
      refine pure_ (i := 1) (N := some 63) (v := ?_) (a' := ?_) b2A54 rfl rfl (by kernel_rfl) (fun _ _ _ h => h) (Or.inl ⟨by rfl, ?_⟩) ?_ ?_
      rotate_left
      ·intro w'
       go_simp
       with_reducible rfl
      rotate_left
      ·simp only [Act.put, sA, sZ, sS, i64_w, i32_w]
       rfl
      refine pure_ (i := 2) (N := some 64) (v := ?_) (a' := ?_) b2A55 rfl rfl (by kernel_rfl) (fun _ _ _ h => h) (Or.inl ⟨by rfl, ?_⟩) ?_ ?_
      rotate_left
      ·intro w'
       go_simp
       with_reducible rfl
      rotate_left
      ·simp only [Act.put, sA, sZ, sS, i64_w, i32_w]
       rfl
      refine pure_ (i := 3) (N := some 65) (v := ?_) (a' := ?_) b2A56 rfl rfl (by kernel_rfl) (fun _ _ _ h => h) (Or.inl ⟨by rfl, ?_⟩) ?_ ?_
      rotate_left
      ·intro w'
       go_simp
       with_reducible rfl
      rotate_left
      ·simp only [Act.put, sA, sZ, sS, i64_w, i32_w]
       rfl
      refine take_ (i := 4) (N := some 66) (v := ?_) (a' := ?_) b2A57 rfl rfl (by kernel_rfl) (fun _ _ _ h => h) (Or.inl ⟨by rfl, ?_⟩) hHeld ?_ ?_
      rotate_left
      ·rintro w' ⟨s0, s1, s2, s3, s4⟩
       go_simp
       with_reducible rfl
      rotate_left
      ·simp only [Act.put, sA, sZ, sS, i64_w, i32_w]
       rfl
      refine one_ (i := 5) (N := some 67) b2A58 rfl rfl (by kernel_rfl) (by decide) (fun K hK => ?_)
      refine goes_ Try.func104 (by kernel_rfl) rfl #[.slice (some ad111) y120.length c0, .int .i64 ((rd_T138 l0 x12_1).f0)] (by rfl) rfl rfl M0 ?_
      with_reducible refine (impl_lastHand.calls kj5 _ _ y120 ((rd_T138 l0 x12_1).f0) t124 _ ?side1 ?side2 A43.out).mono ?_
      (case side1 => exact Kd.qC (Kd.C_below HR123.out HB.out))
      (case side2 => exact HC123.out)
      rintro e w' ⟨rfl, ⟨nd, rfl⟩⟩
      refine ⟨_, rfl, ?_⟩
      refine hK.out _ _ ⟨(bc BK112.out 0).trans rfl, (bc BK112.out 1).trans rfl, (bc BK112.out 2).trans rfl, (bc BK112.out 3).trans rfl, (bc BK112.out 4).trans rfl⟩ (fun hHeld => ?_)
      clear hK K
      refine norm_ (a' := ?_) ?_ ?_
      rotate_left
      ·show Act.put _ (some 67) _ = _
       simp only [Act.put, sA, sZ, sS, i64_w, i32_w]
       rfl
      refine pure_ (i := 6) (N := some 6) (v := ?_) (a' := ?_) b2A59 rfl rfl (by kernel_rfl) (fun _ _ _ h => h) (Or.inl ⟨by rfl, ?_⟩) ?_ ?_
      rotate_left
      ·intro w'
       go_simp
       with_reducible rfl
      rotate_left
      ·simp only [Act.put, sA, sZ, sS, i64_w, i32_w]
       rfl
      refine done_ (by kernel_rfl) ?_
      have hcz55_0 : w53.cell? ⟨gb112, 0, none⟩ = some (.int .i64 ((rd_T138 l0 x12_1).f0)) := (bc BK112.out 0).trans rfl
      have hcz55_1 : w53.cell? ⟨gb112, 1, none⟩ = some (.int .i64 ((rd_T138 l0 x12_1).f1)) := (bc BK112.out 1).trans rfl
      have hcz55_2 : w53.cell? ⟨gb112, 2, none⟩ = some (.int .i64 ((rd_T138 l0 x12_1).f2)) := (bc BK112.out 2).trans rfl
      have hcz55_3 : w53.cell? ⟨gb112, 3, none⟩ = some (.int .i64 ((rd_T138 l0 x12_1).f3)) := (bc BK112.out 3).trans rfl
      have hcz55_4 : w53.cell? ⟨gb112, 4, none⟩ = some (.int .i64 ((rd_T138 l0 x12_1).f4)) := (bc BK112.out 4).trans rfl
      have hfz55_0 := bf BK112.out 0
      have hfz55_1 := bf BK112.out 1
      have hfz55_2 := bf BK112.out 2
      have hfz55_3 := bf BK112.out 3
      have hfz55_4 := bf BK112.out 4
      try go_wp2
      go_ret
      exact ⟨by first | rfl | (simp [errW_none, errW_some] <;> rfl) | (simp [*, errW_none, errW_some] <;> rfl), by repeat (first | (with_reducible first | exact HB.out | apply bA | apply bN | apply b1 | refine bS ?_ GE112.out) | exact HB.out)⟩
     rw [if_neg c52] at H
     have c52b0 : (((rd_T138 l0 x12_1).f1) == 1) = false := beq_eq_false_iff_ne.mpr c52
     have c52b1 : (((rd_T138 l0 x12_1).f1) != 1) = true := bne_iff_ne.mpr c52
     by_cases c56 : 0 ≤ t124
     rotate_left
     ·rw [if_neg c56] at H
      exact absurd H (by simp)
     rw [if_pos c56] at H
     have c56b0 : decide (0 ≤ t124) = true := decide_eq_true c56
     clear c56
     by_cases c57 : t124 < (l0.length : Int)
     rotate_left
     ·rw [if_neg c57] at H
      exact absurd H (by simp)
     rw [if_pos c57] at H
     have c57b0 : decide (t124 < (l0.length : Int)) = true := decide_eq_true c57
     clear c57
     by_cases c58 : ((rd_T138 l0 t124).f1) > 2
     ·rw [if_pos c58] at H
      have c58b0 : decide (2 < ((rd_T138 l0 t124).f1)) = true := decide_eq_true c58
      clear c58
      obtain rfl := Option.some.inj H
      try go_wp2
      have n0_ := zK (kD BK112.out)
      have n1_ := zK (b1 HB.out)
      clear BK112
      clear HB
      have BK112 := n0_
      have HB := n1_
      clear n0_ n1_
      have q60 : (x12_1 : Int) ≤ ((l0.length : Int) : Int) := oD M1
      obtain ⟨i060, hi060, _, hsz60, _⟩ := info_parts info138
      have hroom60 : l0.length ≤ c0 := HC0.out
      have hC60 : Kd.C k138 _ (some ad111) l0.length l0 := HR0.out
      have hcut60 := cut_to (P := Try.prog) 51 138 .i64 Try.underlying51 hi060 (some ad111) l0.length c0 x12_1 (oD M1) q60 hroom60
      have hr60 := Kd.C_take (m := (x12_1 : Int).toNat) hC60 (by omega)
      have hy60 : y120.length = (x12_1 : Int).toNat := (by rw [Ny120.out, List.length_take]; omega)
      rw [← Ny120.out] at hr60
      rw [← hy60] at hcut60
      have HR123 := zK hr60
      have HC123 := zK (show y120.length ≤ c0 from by omega)
      clear hr60 hC60 hroom60 hi060 hsz60
      have KY60 := zK hy60
      clear hy60
      replace q60 := eq_true q60
      refine start_ (n := 7) (S := fun w' => w'.cell? ⟨gb112, 0, none⟩ = some (.int .i64 ((rd_T138 l0 x12_1).f0)) ∧ w'.cell? ⟨gb112, 1, none⟩ = some (.int .i64 ((rd_T138 l0 x12_1).f1)) ∧ w'.cell? ⟨gb112, 2, none⟩ = some (.int .i64 ((rd_T138 l0 x12_1).f2)) ∧ w'.cell? ⟨gb112, 3, none⟩ = some (.int .i64 ((rd_T138 l0 x12_1).f3)) ∧ w'.cell? ⟨gb112, 4, none⟩ = some (.int .i64 ((rd_T138 l0 x12_1).f4))) (ds := []) b2A52 (by kernel_rfl) rfl rfl ⟨(bc BK112.out 0).trans rfl, (bc BK112.out 1).trans rfl, (bc BK112.out 2).trans rfl, (bc BK112.out 3).trans rfl, (bc BK112.out 4).trans rfl⟩ (fun hHeld => ?_)
      generalize wc.drew = w59 at BK112 HB HR123 hHeld ⊢
      refine pure_ (i := 0) (N := some 62) (v := ?_) (a' := ?_) b2A53 rfl rfl (by kernel_rfl) (fun _ _ _ h => h) (Or.inl ⟨by rfl, ?_⟩) ?_ ?_
      rotate_left
      ·intro w'
       go_simp
       with_reducible rfl
      rotate_left
      ·simp only [Act.put, sA, sZ, sS, i64_w, i32_w]
       rfl
      refine pure_ (i := 1) (N := some 63) (v := ?_) (a' := ?_) b2A54 rfl rfl (by kernel_rfl) (fun _ _ _ h => h) (Or.inl ⟨by rfl, ?_⟩) ?_ ?_
      rotate_left
      ·intro w'
       go_simp
       with_reducible rfl
      rotate_left
      ·simp only [Act.put, sA, sZ, sS, i64_w, i32_w]
       rfl
      refine pure_ (i := 2) (N := some 64) (v := ?_) (a' := ?_) b2A55 rfl rfl (by kernel_rfl) (fun _ _ _ h => h) (Or.inl ⟨by rfl, ?_⟩) ?_ ?_
      rotate_left
      ·intro w'
       go_simp
       with_reducible rfl
      rotate_left
      ·simp only [Act.put, sA, sZ, sS, i64_w, i32_w]
       rfl
      refine pure_ (i := 3) (N := some 65) (v := ?_) (a' := ?_) b2A56 rfl rfl (by kernel_rfl) (fun _ _ _ h => h) (Or.inl ⟨by rfl, ?_⟩) ?_ ?_
      rotate_left
      ·intro w'
       go_simp
       with_reducible rfl
      rotate_left
      ·simp only [Act.put, sA, sZ, sS, i64_w, i32_w]
       rfl
      refine take_ (i := 4) (N := some 66) (v := ?_) (a' := ?_) b2A57 rfl rfl (by kernel_rfl) (fun _ _ _ h => h) (Or.inl ⟨by rfl, ?_⟩) hHeld ?_ ?_
      rotate_left
      ·rintro w' ⟨s0, s1, s2, s3, s4⟩
       go_simp
       with_reducible rfl
      rotate_left
      ·simp only [Act.put, sA, sZ, sS, i64_w, i32_w]
       rfl
      refine one_ (i := 5) (N := some 67) b2A58 rfl rfl (by kernel_rfl) (by decide) (fun K hK => ?_)
      refine goes_ Try.func104 (by kernel_rfl) rfl #[.slice (some ad111) y120.length c0, .int .i64 ((rd_T138 l0 x12_1).f0)] (by rfl) rfl rfl M0 ?_
      with_reducible refine (impl_lastHand.calls kj5 _ _ y120 ((rd_T138 l0 x12_1).f0) t124 _ ?side1 ?side2 A43.out).mono ?_
      (case side1 => exact Kd.qC (Kd.C_below HR123.out HB.out))
      (case side2 => exact HC123.out)
      rintro e w' ⟨rfl, ⟨nd, rfl⟩⟩
      refine ⟨_, rfl, ?_⟩
      refine hK.out _ _ ⟨(bc BK112.out 0).trans rfl, (bc BK112.out 1).trans rfl, (bc BK112.out 2).trans rfl, (bc BK112.out 3).trans rfl, (bc BK112.out 4).trans rfl⟩ (fun hHeld => ?_)
      clear hK K
      refine norm_ (a' := ?_) ?_ ?_
      rotate_left
      ·show Act.put _ (some 67) _ = _
       simp only [Act.put, sA, sZ, sS, i64_w, i32_w]
       rfl
      refine pure_ (i := 6) (N := some 6) (v := ?_) (a' := ?_) b2A59 rfl rfl (by kernel_rfl) (fun _ _ _ h => h) (Or.inl ⟨by rfl, ?_⟩) ?_ ?_
      rotate_left
      ·intro w'
       go_simp
       with_reducible rfl
      rotate_left
      ·simp only [Act.put, sA, sZ, sS, i64_w, i32_w]
       rfl
      refine done_ (by kernel_rfl) ?_
      have hcz61_0 : w59.cell? ⟨gb112, 0, none⟩ = some (.int .i64 ((rd_T138 l0 x12_1).f0)) := (bc BK112.out 0).trans rfl
      have hcz61_1 : w59.cell? ⟨gb112, 1, none⟩ = some (.int .i64 ((rd_T138 l0 x12_1).f1)) := (bc BK112.out 1).trans rfl
      have hcz61_2 : w59.cell? ⟨gb112, 2, none⟩ = some (.int .i64 ((rd_T138 l0 x12_1).f2)) := (bc BK112.out 2).trans rfl
      have hcz61_3 : w59.cell? ⟨gb112, 3, none⟩ = some (.int .i64 ((rd_T138 l0 x12_1).f3)) := (bc BK112.out 3).trans rfl
      have hcz61_4 : w59.cell? ⟨gb112, 4, none⟩ = some (.int .i64 ((rd_T138 l0 x12_1).f4)) := (bc BK112.out 4).trans rfl
      have hfz61_0 := bf BK112.out 0
      have hfz61_1 := bf BK112.out 1
      have hfz61_2 := bf BK112.out 2
      have hfz61_3 := bf BK112.out 3
      have hfz61_4 := bf BK112.out 4
      have p125 : 0 ≤ (t124 : Int) := oD M1
      have q125 : t124 < (l0.length : Int) := oD M1
      obtain ⟨ad125, e125, hx125_0, hx125_1, hx125_2, hx125_3, hx125_4⟩ := at_T138 HR0.out t124 p125 q125
      obtain rfl : ad111 = ad125 := (by injection e125)
      replace hx125_0 := (HB.out.cell (bL w hx125_0)).trans hx125_0
      replace hx125_1 := (HB.out.cell (bL w hx125_1)).trans hx125_1
      replace hx125_2 := (HB.out.cell (bL w hx125_2)).trans hx125_2
      replace hx125_3 := (HB.out.cell (bL w hx125_3)).trans hx125_3
      replace hx125_4 := (HB.out.cell (bL w hx125_4)).trans hx125_4
      replace p125 := eq_true p125
      replace q125 := eq_true q125
      try go_wp2
      go_ret
      exact ⟨by first | rfl | (simp [errW_none, errW_some] <;> rfl) | (simp [*, errW_none, errW_some] <;> rfl), by repeat (first | (with_reducible first | exact HB.out | apply bA | apply bN | apply b1 | refine bS ?_ GE112.out) | exact HB.out)⟩
     rw [if_neg c58] at H
     have c58b0 : decide (2 < ((rd_T138 l0 t124).f1)) = false := decide_eq_false c58
     clear c58
     have H' := zK H
     clear H
     try go_wp2
     have n0_ := zK (kD BK112.out)
     have n1_ := zK (b1 HB.out)
     clear BK112
     clear HB
     have BK112 := n0_
     have HB := n1_
     clear n0_ n1_
     have q63 : (x12_1 : Int) ≤ ((l0.length : Int) : Int) := oD M1
     obtain ⟨i063, hi063, _, hsz63, _⟩ := info_parts info138
     have hroom63 : l0.length ≤ c0 := HC0.out
     have hC63 : Kd.C k138 _ (some ad111) l0.length l0 := HR0.out
     have hcut63 := cut_to (P := Try.prog) 51 138 .i64 Try.underlying51 hi063 (some ad111) l0.length c0 x12_1 (oD M1) q63 hroom63
     have hr63 := Kd.C_take (m := (x12_1 : Int).toNat) hC63 (by omega)
     have hy63 : y120.length = (x12_1 : Int).toNat := (by rw [Ny120.out, List.length_take]; omega)
     rw [← Ny120.out] at hr63
     rw [← hy63] at hcut63
     have HR123 := zK hr63
     have HC123 := zK (show y120.length ≤ c0 from by omega)
     clear hr63 hC63 hroom63 hi063 hsz63
     have KY63 := zK hy63
     clear hy63
     replace q63 := eq_true q63
     refine start_ (n := 7) (S := fun w' => w'.cell? ⟨gb112, 0, none⟩ = some (.int .i64 ((rd_T138 l0 x12_1).f0)) ∧ w'.cell? ⟨gb112, 1, none⟩ = some (.int .i64 ((rd_T138 l0 x12_1).f1)) ∧ w'.cell? ⟨gb112, 2, none⟩ = some (.int .i64 ((rd_T138 l0 x12_1).f2)) ∧ w'.cell? ⟨gb112, 3, none⟩ = some (.int .i64 ((rd_T138 l0 x12_1).f3)) ∧ w'.cell? ⟨gb112, 4, none⟩ = some (.int .i64 ((rd_T138 l0 x12_1).f4))) (ds := []) b2A52 (by kernel_rfl) rfl rfl ⟨(bc BK112.out 0).trans rfl, (bc BK112.out 1).trans rfl, (bc BK112.out 2).trans rfl, (bc BK112.out 3).trans rfl, (bc BK112.out 4).trans rfl⟩ (fun hHeld => ?_)
     generalize wc.drew = w62 at BK112 HB HR123 hHeld ⊢
     refine pure_ (i := 0) (N := some 62) (v := ?_) (a' := ?_) b2A53 rfl rfl (by kernel_rfl) (fun _ _ _ h => h) (Or.inl ⟨by rfl, ?_⟩) ?_ ?_
     rotate_left
     ·intro w'
      go_simp
      with_reducible rfl
     rotate_left
     ·simp only [Act.put, sA, sZ, sS, i64_w, i32_w]
      rfl
     refine pure_ (i := 1) (N := some 63) (v := ?_) (a' := ?_) b2A54 rfl rfl (by kernel_rfl) (fun _ _ _ h => h) (Or.inl ⟨by rfl, ?_⟩) ?_ ?_
     rotate_left
     ·intro w'
      go_simp
      with_reducible rfl
     rotate_left
     ·simp only [Act.put, sA, sZ, sS, i64_w, i32_w]
      rfl
     refine pure_ (i := 2) (N := some 64) (v := ?_) (a' := ?_) b2A55 rfl rfl (by kernel_rfl) (fun _ _ _ h => h) (Or.inl ⟨by rfl, ?_⟩) ?_ ?_
     rotate_left
     ·intro w'
      go_simp
      with_reducible rfl
     rotate_left
     ·simp only [Act.put, sA, sZ, sS, i64_w, i32_w]
      rfl
     refine pure_ (i := 3) (N := some 65) (v := ?_) (a' := ?_) b2A56 rfl rfl (by kernel_rfl) (fun _ _ _ h => h) (Or.inl ⟨by rfl, ?_⟩) ?_ ?_
     rotate_left
     ·intro w'
      go_simp
      with_reducible rfl
     rotate_left
     ·simp only [Act.put, sA, sZ, sS, i64_w, i32_w]
      rfl
     refine take_ (i := 4) (N := some 66) (v := ?_) (a' := ?_) b2A57 rfl rfl (by kernel_rfl) (fun _ _ _ h => h) (Or.inl ⟨by rfl, ?_⟩) hHeld ?_ ?_
     rotate_left
     ·rintro w' ⟨s0, s1, s2, s3, s4⟩
      go_simp
      with_reducible rfl
     rotate_left
     ·simp only [Act.put, sA, sZ, sS, i64_w, i32_w]
      rfl
     refine one_ (i := 5) (N := some 67) b2A58 rfl rfl (by kernel_rfl) (by decide) (fun K hK => ?_)
     refine goes_ Try.func104 (by kernel_rfl) rfl #[.slice (some ad111) y120.length c0, .int .i64 ((rd_T138 l0 x12_1).f0)] (by rfl) rfl rfl M0 ?_
     with_reducible refine (impl_lastHand.calls kj5 _ _ y120 ((rd_T138 l0 x12_1).f0) t124 _ ?side1 ?side2 A43.out).mono ?_
     (case side1 => exact Kd.qC (Kd.C_below HR123.out HB.out))
     (case side2 => exact HC123.out)
     rintro e w' ⟨rfl, ⟨nd, rfl⟩⟩
     refine ⟨_, rfl, ?_⟩
     refine hK.out _ _ ⟨(bc BK112.out 0).trans rfl, (bc BK112.out 1).trans rfl, (bc BK112.out 2).trans rfl, (bc BK112.out 3).trans rfl, (bc BK112.out 4).trans rfl⟩ (fun hHeld => ?_)
     clear hK K
     refine norm_ (a' := ?_) ?_ ?_
     rotate_left
     ·show Act.put _ (some 67) _ = _
      simp only [Act.put, sA, sZ, sS, i64_w, i32_w]
      rfl
     refine pure_ (i := 6) (N := some 6) (v := ?_) (a' := ?_) b2A59 rfl rfl (by kernel_rfl) (fun _ _ _ h => h) (Or.inl ⟨by rfl, ?_⟩) ?_ ?_
     rotate_left
     ·intro w'
      go_simp
      with_reducible rfl
     rotate_left
     ·simp only [Act.put, sA, sZ, sS, i64_w, i32_w]
      rfl
     refine done_ (by kernel_rfl) ?_
     have hcz64_0 : w62.cell? ⟨gb112, 0, none⟩ = some (.int .i64 ((rd_T138 l0 x12_1).f0)) := (bc BK112.out 0).trans rfl
     have hcz64_1 : w62.cell? ⟨gb112, 1, none⟩ = some (.int .i64 ((rd_T138 l0 x12_1).f1)) := (bc BK112.out 1).trans rfl
     have hcz64_2 : w62.cell? ⟨gb112, 2, none⟩ = some (.int .i64 ((rd_T138 l0 x12_1).f2)) := (bc BK112.out 2).trans rfl
     have hcz64_3 : w62.cell? ⟨gb112, 3, none⟩ = some (.int .i64 ((rd_T138 l0 x12_1).f3)) := (bc BK112.out 3).trans rfl
     have hcz64_4 : w62.cell? ⟨gb112, 4, none⟩ = some (.int .i64 ((rd_T138 l0 x12_1).f4)) := (bc BK112.out 4).trans rfl
     have hfz64_0 := bf BK112.out 0
     have hfz64_1 := bf BK112.out 1
     have hfz64_2 := bf BK112.out 2
     have hfz64_3 := bf BK112.out 3
     have hfz64_4 := bf BK112.out 4
     have p125 : 0 ≤ (t124 : Int) := oD M1
     have q125 : t124 < (l0.length : Int) := oD M1
     obtain ⟨ad125, e125, hx125_0, hx125_1, hx125_2, hx125_3, hx125_4⟩ := at_T138 HR0.out t124 p125 q125
     obtain rfl : ad111 = ad125 := (by injection e125)
     replace hx125_0 := (HB.out.cell (bL w hx125_0)).trans hx125_0
     replace hx125_1 := (HB.out.cell (bL w hx125_1)).trans hx125_1
     replace hx125_2 := (HB.out.cell (bL w hx125_2)).trans hx125_2
     replace hx125_3 := (HB.out.cell (bL w hx125_3)).trans hx125_3
     replace hx125_4 := (HB.out.cell (bL w hx125_4)).trans hx125_4
     replace p125 := eq_true p125
     replace q125 := eq_true q125
     try go_wp2
     go_roundg kj5
     case measure => have := HK1.out; have := HJ5.out; omega
     case rel => exact ⟨(((rd_T138 l0 x12_1).f4)), (wrap64 (x12_1 + 1)), M3, M3, H', ⟨by have := HK1.out; have := HJ5.out; omega⟩, ⟨by repeat (first | (with_reducible first | exact HB.out | apply bA | apply bN | apply b1 | refine bS ?_ GE112.out) | exact HB.out)⟩⟩
end Go.Proofs.Ytejhjenlodclpaa.PFnExactSendAll
