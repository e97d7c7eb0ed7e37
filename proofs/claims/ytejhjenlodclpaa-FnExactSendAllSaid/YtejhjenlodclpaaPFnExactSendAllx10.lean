/- Walks of functions that FnExactSendAll reaches: written by a tool of the kit for this claim, then shortened by a program of ours. -/
import Derived.Test.YtejhjenlodclpaaPFnExactSendAllx0
import Derived.Test.YtejhjenlodclpaaPFnExactSendAllx7
import Derived.Test.YtejhjenlodclpaaPFnExactSendAllx9
/- narrow -/
namespace Go.Proofs.Ytejhjenlodclpaa.PFnExactSendAll
open Go.RowKit Go.Proofs.YtejhjenlodclpaaW.PrintWords Go.Proofs.YtejhjenlodclpaaW.PrintLast Go.Proofs.YtejhjenlodclpaaW.PrintMore
attribute [local go_sem] max2_int min2_int max_two min_two max_three min_three max_four min_four   -- for this text's walks alone
set_option linter.unusedVariables false
set_option linter.unusedSimpArgs false

abbrev b10A0 : Array Bool := #[bo, bo, bo, bo, bo, bo, bo, bo, bo, bo, bo, bo, bo, bo, bo, bo, bo, bo, bo, bo, bo, bo, bo, bo, bo, bo, bo, bo, bo, bo, bo, bo, bo, bo, bo, bo, bo, bo, bo, bo, bo, bo, bo]
abbrev b10A1 : Array Bool := #[bi, bo, bo, bo, bo, bo, bo, bo, bo, bo, bo, bo, bo, bo, bo, bo, bo, bo, bo, bo, bo, bo, bo, bo, bo, bo, bo, bo, bo, bo, bo, bo, bo, bo, bo, bo, bo, bo, bo, bo, bo, bo, bo]
abbrev b10A2 : Array Bool := #[bi, bi, bo, bo, bo, bo, bo, bo, bo, bo, bo, bo, bo, bo, bo, bo, bo, bo, bo, bo, bo, bo, bo, bo, bo, bo, bo, bo, bo, bo, bo, bo, bo, bo, bo, bo, bo, bo, bo, bo, bo, bo, bo]
abbrev b10A3 : Array Bool := #[bi, bi, bi, bo, bo, bo, bo, bo, bo, bo, bo, bo, bo, bo, bo, bo, bo, bo, bo, bo, bo, bo, bo, bo, bo, bo, bo, bo, bo, bo, bo, bo, bo, bo, bo, bo, bo, bo, bo, bo, bo, bo, bo]
abbrev b10A4 : Array Bool := #[bi, bi, bi, bi, bo, bo, bo, bo, bo, bo, bo, bo, bo, bo, bo, bo, bo, bo, bo, bo, bo, bo, bo, bo, bo, bo, bo, bo, bo, bo, bo, bo, bo, bo, bo, bo, bo, bo, bo, bo, bo, bo, bo]
abbrev b10A5 : Array Bool := #[bi, bi, bi, bi, bi, bo, bo, bo, bo, bo, bo, bo, bo, bo, bo, bo, bo, bo, bo, bo, bo, bo, bo, bo, bo, bo, bo, bo, bo, bo, bo, bo, bo, bo, bo, bo, bo, bo, bo, bo, bo, bo, bo]
abbrev b10A6 : Array Bool := #[bi, bi, bi, bi, bi, bi, bo, bo, bo, bo, bo, bo, bo, bo, bo, bo, bo, bo, bo, bo, bo, bo, bo, bo, bo, bo, bo, bo, bo, bo, bo, bo, bo, bo, bo, bo, bo, bo, bo, bo, bo, bo, bo]
abbrev b10A7 : Array Bool := #[bi, bi, bi, bi, bi, bi, bi, bo, bo, bo, bo, bo, bo, bo, bo, bo, bo, bo, bo, bo, bo, bo, bo, bo, bo, bo, bo, bo, bo, bo, bo, bo, bo, bo, bo, bo, bo, bo, bo, bo, bo, bo, bo]
abbrev b10A8 : Array Bool := #[bi, bi, bi, bi, bi, bi, bi, bi, bo, bo, bo, bo, bo, bo, bo, bo, bo, bo, bo, bo, bo, bo, bo, bo, bo, bo, bo, bo, bo, bo, bo, bo, bo, bo, bo, bo, bo, bo, bo, bo, bo, bo, bo]
abbrev b10A9 : Array Bool := #[bi, bi, bi, bi, bi, bi, bi, bi, bi, bo, bo, bo, bo, bo, bo, bo, bo, bo, bo, bo, bo, bo, bo, bo, bo, bo, bo, bo, bo, bo, bo, bo, bo, bo, bo, bo, bo, bo, bo, bo, bo, bo, bo]
abbrev b10A10 : Array Bool := #[bi, bi, bi, bi, bi, bi, bi, bi, bi, bi, bo, bo, bo, bo, bo, bo, bo, bo, bo, bo, bo, bo, bo, bo, bo, bo, bo, bo, bo, bo, bo, bo, bo, bo, bo, bo, bo, bo, bo, bo, bo, bo, bo]
abbrev b10A11 : Array Bool := #[bi, bi, bi, bi, bi, bi, bi, bi, bi, bi, bi, bo, bo, bo, bo, bo, bo, bo, bo, bo, bo, bo, bo, bo, bo, bo, bo, bo, bo, bo, bo, bo, bo, bo, bo, bo, bo, bo, bo, bo, bo, bo, bo]
abbrev b10A12 : Array Bool := #[bi, bi, bi, bi, bi, bi, bi, bi, bi, bi, bi, bi, bo, bo, bo, bo, bo, bo, bo, bo, bo, bo, bo, bo, bo, bo, bo, bo, bo, bo, bo, bo, bo, bo, bo, bo, bo, bo, bo, bo, bo, bo, bo]
abbrev b10A13 : Array Bool := #[bi, bi, bi, bi, bi, bi, bi, bi, bi, bi, bi, bi, bi, bo, bo, bo, bo, bo, bo, bo, bo, bo, bo, bo, bo, bo, bo, bo, bo, bo, bo, bo, bo, bo, bo, bo, bo, bo, bo, bo, bo, bo, bo]
abbrev b10A14 : Array Bool := #[bi, bi, bi, bi, bi, bi, bi, bi, bi, bi, bi, bi, bi, bi, bo, bo, bo, bo, bo, bo, bo, bo, bo, bo, bo, bo, bo, bo, bo, bo, bo, bo, bo, bo, bo, bo, bo, bo, bo, bo, bo, bo, bo]
abbrev b10A15 : Array Bool := #[bi, bi, bi, bi, bi, bi, bi, bi, bi, bi, bi, bi, bi, bi, bi, bo, bo, bo, bo, bo, bo, bo, bo, bo, bo, bo, bo, bo, bo, bo, bo, bo, bo, bo, bo, bo, bo, bo, bo, bo, bo, bo, bo]
abbrev b10A16 : Array Bool := #[bi, bi, bi, bi, bi, bi, bi, bi, bi, bi, bi, bi, bi, bi, bi, bi, bo, bo, bo, bo, bo, bo, bo, bo, bo, bo, bo, bo, bo, bo, bo, bo, bo, bo, bo, bo, bo, bo, bo, bo, bo, bo, bo]
abbrev b10A17 : Array Bool := #[bi, bi, bi, bi, bi, bi, bi, bi, bi, bi, bi, bi, bi, bi, bi, bi, bi, bo, bo, bo, bo, bo, bo, bo, bo, bo, bo, bo, bo, bo, bo, bo, bo, bo, bo, bo, bo, bo, bo, bo, bo, bo, bo]
abbrev b10A18 : Array Bool := #[bi, bi, bi, bi, bi, bi, bi, bi, bi, bi, bi, bi, bi, bi, bi, bi, bi, bi, bo, bo, bo, bo, bo, bo, bo, bo, bo, bo, bo, bo, bo, bo, bo, bo, bo, bo, bo, bo, bo, bo, bo, bo, bo]
abbrev b10A19 : Array Bool := #[bi, bi, bi, bi, bi, bi, bi, bi, bi, bi, bi, bi, bi, bi, bi, bi, bi, bi, bi, bo, bo, bo, bo, bo, bo, bo, bo, bo, bo, bo, bo, bo, bo, bo, bo, bo, bo, bo, bo, bo, bo, bo, bo]
abbrev b10A20 : Array Bool := #[bi, bi, bi, bi, bi, bi, bi, bi, bi, bi, bi, bi, bi, bi, bi, bi, bi, bi, bi, bi, bo, bo, bo, bo, bo, bo, bo, bo, bo, bo, bo, bo, bo, bo, bo, bo, bo, bo, bo, bo, bo, bo, bo]
abbrev b10A21 : Array Bool := #[bi, bi, bi, bi, bi, bi, bi, bi, bi, bi, bi, bi, bi, bi, bi, bi, bi, bi, bi, bi, bi, bo, bo, bo, bo, bo, bo, bo, bo, bo, bo, bo, bo, bo, bo, bo, bo, bo, bo, bo, bo, bo, bo]
abbrev b10A22 : Array Bool := #[bi, bi, bi, bi, bi, bi, bi, bi, bi, bi, bi, bi, bi, bi, bi, bi, bi, bi, bi, bi, bi, bi, bo, bo, bo, bo, bo, bo, bo, bo, bo, bo, bo, bo, bo, bo, bo, bo, bo, bo, bo, bo, bo]
abbrev b10A23 : Array Bool := #[bi, bi, bi, bi, bi, bi, bi, bi, bi, bi, bi, bi, bi, bi, bi, bi, bi, bi, bi, bi, bi, bi, bi, bo, bo, bo, bo, bo, bo, bo, bo, bo, bo, bo, bo, bo, bo, bo, bo, bo, bo, bo, bo]
abbrev b10A24 : Array Bool := #[bi, bi, bi, bi, bi, bi, bi, bi, bi, bi, bi, bi, bi, bi, bi, bi, bi, bi, bi, bi, bi, bi, bi, bi, bo, bo, bo, bo, bo, bo, bo, bo, bo, bo, bo, bo, bo, bo, bo, bo, bo, bo, bo]
abbrev b10A25 : Array Bool := #[bi, bi, bi, bi, bi, bi, bi, bi, bi, bi, bi, bi, bi, bi, bi, bi, bi, bi, bi, bi, bi, bi, bi, bi, bo, bi, bo, bo, bo, bo, bo, bo, bo, bo, bo, bo, bo, bo, bo, bo, bo, bo, bo]
abbrev b10A26 : Array Bool := #[bi, bi, bi, bi, bi, bi, bi, bi, bi, bi, bi, bi, bi, bi, bi, bi, bi, bi, bi, bi, bi, bi, bi, bi, bi, bi, bo, bo, bo, bo, bo, bo, bo, bo, bo, bo, bo, bo, bo, bo, bo, bo, bo]
abbrev b10A27 : Array Bool := #[bi, bi, bi, bi, bi, bi, bi, bi, bi, bi, bi, bi, bi, bi, bi, bi, bi, bi, bi, bi, bi, bi, bi, bi, bi, bi, bi, bo, bo, bo, bo, bo, bo, bo, bo, bo, bo, bo, bo, bo, bo, bo, bo]
abbrev b10A28 : Array Bool := #[bi, bi, bi, bi, bi, bi, bi, bi, bi, bi, bi, bi, bi, bi, bi, bi, bi, bi, bi, bi, bi, bi, bi, bi, bi, bi, bi, bi, bo, bo, bo, bo, bo, bo, bo, bo, bo, bo, bo, bo, bo, bo, bo]
abbrev b10A29 : Array Bool := #[bi, bi, bi, bi, bi, bi, bi, bi, bi, bi, bi, bi, bi, bi, bi, bi, bi, bi, bi, bi, bi, bi, bi, bi, bi, bi, bi, bi, bi, bo, bo, bo, bo, bo, bo, bo, bo, bo, bo, bo, bo, bo, bo]
abbrev b10A30 : Array Bool := #[bi, bi, bi, bi, bi, bi, bi, bi, bi, bi, bi, bi, bi, bi, bi, bi, bi, bi, bi, bi, bi, bi, bi, bi, bi, bi, bi, bi, bi, bi, bo, bo, bo, bo, bo, bo, bo, bo, bo, bo, bo, bo, bo]
abbrev b10A31 : Array Bool := #[bi, bi, bi, bi, bi, bi, bi, bi, bi, bi, bi, bi, bi, bi, bi, bi, bi, bi, bi, bi, bi, bi, bi, bi, bi, bi, bi, bi, bi, bi, bi, bo, bo, bo, bo, bo, bo, bo, bo, bo, bo, bo, bo]
abbrev b10A32 : Array Bool := #[bi, bi, bi, bi, bi, bi, bi, bi, bi, bi, bi, bi, bi, bi, bi, bi, bi, bi, bi, bi, bi, bi, bi, bi, bi, bi, bi, bi, bi, bi, bi, bi, bo, bo, bo, bo, bo, bo, bo, bo, bo, bo, bo]
abbrev b10A33 : Array Bool := #[bi, bi, bi, bi, bi, bi, bi, bi, bi, bi, bi, bi, bi, bi, bi, bi, bi, bi, bi, bi, bi, bi, bi, bi, bi, bi, bi, bi, bi, bi, bi, bi, bi, bo, bo, bo, bo, bo, bo, bo, bo, bo, bo]
abbrev b10A34 : Array Bool := #[bi, bi, bi, bi, bi, bi, bi, bi, bi, bi, bi, bi, bi, bi, bi, bi, bi, bi, bi, bi, bi, bi, bi, bi, bi, bi, bi, bi, bi, bi, bi, bi, bi, bi, bo, bo, bo, bo, bo, bo, bo, bo, bo]
abbrev b10A35 : Array Bool := #[bi, bi, bi, bi, bi, bi, bi, bi, bi, bi, bi, bi, bi, bi, bi, bi, bi, bi, bi, bi, bi, bi, bi, bi, bi, bi, bi, bi, bi, bi, bi, bi, bi, bi, bi, bo, bo, bo, bo, bo, bo, bo, bo]
abbrev b10A36 : Array Bool := #[bi, bi, bi, bi, bi, bi, bi, bi, bi, bi, bi, bi, bi, bi, bi, bi, bi, bi, bi, bi, bi, bi, bi, bi, bi, bi, bi, bi, bi, bi, bi, bi, bi, bi, bi, bi, bo, bo, bo, bo, bo, bo, bo]
abbrev b10A37 : Array Bool := #[bi, bi, bi, bi, bi, bi, bi, bi, bi, bi, bi, bi, bi, bi, bi, bi, bi, bi, bi, bi, bi, bi, bi, bi, bi, bi, bi, bi, bi, bi, bi, bi, bi, bi, bi, bi, bi, bo, bo, bo, bo, bo, bo]
abbrev b10A38 : Array Bool := #[bi, bi, bi, bi, bi, bi, bi, bi, bi, bi, bi, bi, bi, bi, bi, bi, bi, bi, bi, bi, bi, bi, bi, bi, bi, bi, bi, bi, bi, bi, bi, bi, bi, bi, bi, bi, bi, bo, bi, bo, bo, bo, bo]
abbrev b10A39 : Array Bool := #[bi, bi, bi, bi, bi, bi, bi, bi, bi, bi, bi, bi, bi, bi, bi, bi, bi, bi, bi, bi, bi, bi, bi, bi, bi, bi, bi, bi, bi, bi, bi, bi, bi, bi, bi, bi, bi, bi, bi, bo, bo, bo, bo]
abbrev b10A40 : Array Bool := #[bi, bi, bi, bi, bi, bi, bi, bi, bi, bi, bi, bi, bi, bi, bi, bi, bi, bi, bi, bi, bi, bi, bi, bi, bi, bi, bi, bi, bi, bi, bi, bi, bi, bi, bi, bi, bi, bi, bi, bi, bo, bo, bo]
abbrev b10A41 : Array Bool := #[bi, bi, bi, bi, bi, bi, bi, bi, bi, bi, bi, bi, bi, bi, bi, bi, bi, bi, bi, bi, bi, bi, bi, bi, bi, bi, bi, bi, bi, bi, bi, bi, bi, bi, bi, bi, bi, bi, bi, bi, bi, bo, bo]
abbrev b10A42 : Array Bool := #[bi, bi, bi, bi, bi, bi, bi, bi, bi, bi, bi, bi, bi, bi, bi, bi, bi, bi, bi, bi, bi, bi, bi, bi, bi, bi, bi, bi, bi, bi, bi, bi, bi, bi, bi, bi, bi, bi, bi, bi, bi, bi, bo]
abbrev b10A43 : Array Bool := #[bi, bi, bi, bi, bi, bi, bi, bi, bi, bi, bi, bi, bi, bi, bi, bi, bi, bi, bi, bi, bi, bi, bi, bi, bi, bi, bi, bi, bi, bi, bi, bi, bi, bi, bi, bi, bi, bi, bi, bi, bi, bi, bi]
abbrev b10A44 : Array Bool := #[bi, bi, bi, bi, bi, bi, bi, bi, bi, bi, bi, bi, bi, bi, bi, bi, bi, bi, bi, bi, bi, bi, bi, bi, bi, bi, bi, bi, bi, bi, bi, bi, bi, bi, bi, bi, bi, bi, bo, bo, bo, bo, bo]
abbrev b10A45 : Array Bool := #[bi, bi, bi, bi, bi, bi, bi, bi, bi, bi, bi, bi, bi, bi, bi, bi, bi, bi, bi, bi, bi, bi, bi, bi, bi, bo, bo, bo, bo, bo, bo, bo, bo, bo, bo, bo, bo, bo, bo, bo, bo, bo, bo]
/-! ### spec_IsChain: function 152 -/
mutual
def spec_IsChain.l0 : Nat → List (S138) → Int → Int → Option (Bool)
 | 0, _, _, _ => none
 | k + 1, x0, x3, x4 => if x4 < (x0.length : Int) then (spec_IsChain.j1 k x0 x3 x4 (decide ((x0.length : Int) ≤ 100))) else (spec_IsChain.j1 k x0 x3 x4 false)
def spec_IsChain.j1 : Nat → List (S138) → Int → Int → Bool → Option (Bool)
 | 0, _, _, _, _ => none
 | k + 1, x0, x3, x4, x15 => if x15 = true then (if 0 ≤ x4 then (if x4 < (x0.length : Int) then ((spec_HandSeal.f k x3 ((rd_T138 x0 x4).f0) ((rd_T138 x0 x4).f1) ((rd_T138 x0 x4).f2) ((rd_T138 x0 x4).f3) ((rd_T138 x0 x4).f4)).bind fun t298 => ((spec_l1In.f ((rd_T138 x0 x4).f0) 1 999).bind fun t299 => (if t299 = true then ((spec_l1In.f ((rd_T138 x0 x4).f1) 1 5).bind fun t300 => (if t300 = true then ((spec_l1In.f ((rd_T138 x0 x4).f2) 0 999).bind fun t301 => (if t301 = true then ((spec_l1In.f ((rd_T138 x0 x4).f3) 0 100000).bind fun t302 => (if t302 = true then (if ((rd_T138 x0 x4).f4) = t298 then (if x4 > 0 then (if 0 ≤ (wrap64 (x4 - 1)) then (if (wrap64 (x4 - 1)) < (x0.length : Int) then (spec_IsChain.j2 k x0 t298 x4 (decide (((rd_T138 x0 (wrap64 (x4 - 1))).f3) > ((rd_T138 x0 x4).f3))) ((rd_T138 x0 x4).f0) ((rd_T138 x0 x4).f1) ((rd_T138 x0 x4).f2) ((rd_T138 x0 x4).f3) ((rd_T138 x0 x4).f4)) else (none)) else (none)) else (spec_IsChain.j2 k x0 t298 x4 false ((rd_T138 x0 x4).f0) ((rd_T138 x0 x4).f1) ((rd_T138 x0 x4).f2) ((rd_T138 x0 x4).f3) ((rd_T138 x0 x4).f4))) else (spec_IsChain.j2 k x0 t298 x4 true ((rd_T138 x0 x4).f0) ((rd_T138 x0 x4).f1) ((rd_T138 x0 x4).f2) ((rd_T138 x0 x4).f3) ((rd_T138 x0 x4).f4))) else (spec_IsChain.j2 k x0 t298 x4 true ((rd_T138 x0 x4).f0) ((rd_T138 x0 x4).f1) ((rd_T138 x0 x4).f2) ((rd_T138 x0 x4).f3) ((rd_T138 x0 x4).f4)))) else (spec_IsChain.j2 k x0 t298 x4 true ((rd_T138 x0 x4).f0) ((rd_T138 x0 x4).f1) ((rd_T138 x0 x4).f2) ((rd_T138 x0 x4).f3) ((rd_T138 x0 x4).f4)))) else (spec_IsChain.j2 k x0 t298 x4 true ((rd_T138 x0 x4).f0) ((rd_T138 x0 x4).f1) ((rd_T138 x0 x4).f2) ((rd_T138 x0 x4).f3) ((rd_T138 x0 x4).f4)))) else (spec_IsChain.j2 k x0 t298 x4 true ((rd_T138 x0 x4).f0) ((rd_T138 x0 x4).f1) ((rd_T138 x0 x4).f2) ((rd_T138 x0 x4).f3) ((rd_T138 x0 x4).f4))))) else (none)) else (none)) else (some (decide ((x0.length : Int) ≤ 100)))
def spec_IsChain.j2 : Nat → List (S138) → Int → Int → Bool → Int → Int → Int → Int → Int → Option (Bool)
 | 0, _, _, _, _, _, _, _, _, _ => none
 | k + 1, x0, x3, x4, x67, x298000, x298001, x298002, x298003, x298004 => if x67 = true then (some false) else ((spec_l16Last.f k x0 x298000 x4).bind fun t304 => (if t304 < 0 then (if x298001 > 2 then (some false) else (if t304 ≥ 0 then (if x298001 = 1 then (some false) else (if 0 ≤ t304 then (if t304 < (x0.length : Int) then (if ((rd_T138 x0 t304).f1) ≥ 3 then (some false) else (spec_IsChain.l0 k x0 x3 (wrap64 (x4 + 1)))) else (none)) else (none))) else (spec_IsChain.l0 k x0 x3 (wrap64 (x4 + 1))))) else (if t304 ≥ 0 then (if x298001 = 1 then (some false) else (if 0 ≤ t304 then (if t304 < (x0.length : Int) then (if ((rd_T138 x0 t304).f1) ≥ 3 then (some false) else (spec_IsChain.l0 k x0 x3 (wrap64 (x4 + 1)))) else (none)) else (none))) else (spec_IsChain.l0 k x0 x3 (wrap64 (x4 + 1))))))
end
def spec_IsChain.f (k : Nat) (l0 : List (S138)) : Option (Bool) := spec_IsChain.l0 k l0 0 0
def spec_IsChain.T7 : Bool × List (List Nat × List Nat) := (true, [([], []), ([0], [0]), ([1], [1]), ([2], [2]), ([3, 2], [3]), ([4], [4]), ([5, 4], [4, 5]), ([6, 4, 4], [4, 6]), ([7, 4], [4, 7]), ([4, 8], [4, 8]), ([9, 7], [9]), ([10], [10]), ([11, 10], [10, 11]), ([12, 10, 10], [10, 12]), ([13, 10], [10, 13]), ([10, 14], [10, 14]), ([15, 13], [15]), ([16], [16]), ([17, 16], [16, 17]), ([18, 16, 16], [16, 18]), ([19, 16], [16, 19]), ([16, 20], [16, 20]), ([21, 19], [21]), ([22], [22]), ([23, 22], [22, 23]), ([22], [22]), ([24, 25, 22], [22, 24, 25]), ([22, 26], [22, 26]), ([27, 22], [27]), ([28], [28]), ([29, 28], [28, 29]), ([30, 28, 28], [28, 30]), ([31], [31]), ([31], [31]), ([33, 31], [31, 33]), ([32, 34, 31], [31, 32, 34]), ([35, 31], [31, 35]), ([36, 31], [31, 36]), ([31], [31]), ([38, 31], [31, 38]), ([37, 39, 31], [31, 37, 39]), ([31, 40, 28], [28, 31, 40]), ([28, 41], [28, 41])])
def spec_IsChain.B7 : List Nat := [0, 1, 3, 7, 15, 31, 63, 127, 255, 511, 1023, 2047, 4095, 8191, 16383, 32767, 65535, 131071, 262143, 524287, 1048575, 2097151, 4194303, 8388607, 16777215, 8388607, 67108863, 134217727, 268435455, 536870911, 1073741823, 2147483647, 4294967295, 4294967295, 12884901887, 34359738367, 68719476735, 137438953471, 4294967295, 279172874239, 1099511627775, 2199023255551, 4398046511103]
theorem spec_IsChain.tab7 : rtab .any (opsOf Try.f152 7) = spec_IsChain.T7 := by kernel_rfl
theorem spec_IsChain.bits7 : waitsOk spec_IsChain.T7.2 spec_IsChain.B7 = true := by kernel_rfl
set_option maxHeartbeats 8000000 in
set_option maxRecDepth 100000 in
theorem spec_IsChain.calls (k : Nat) (A0 : Option Addr) (c0 : Nat) (l0 : List (S138)) (r : Bool) (w : World) (hr0 : Kd.C k138 w A0 l0.length l0) (hc0 : l0.length ≤ c0) (h : spec_IsChain.f k l0 = some r) :
  Calls Try.prog 152 #[.slice A0 l0.length c0] w fun e w' => e = .returned (.bool r) ∧ Below w.heap.size w w' := by
 have hu138 := Try.underlying138
 have HR0 := zK hr0
 have HC0 := zK hc0
 clear hr0 hc0
 have HB := zK (Below.refl w.heap.size w)
 have H : (spec_IsChain.l0 k l0 0 0) = some r := h
 clear h
 have H' := zK H
 clear H
 go_enter Try.func152, Try.ntmps152
 go_wp2
 go_loopg [3, 4] k (fun kq v3 v4 w' => ∃ (x3_1 : Int) (x4_1 : Int), v3 = .int .i64 x3_1 ∧ v4 = .int .i64 x4_1 ∧ Aside0 (spec_IsChain.l0 kq l0 x3_1 x4_1 = some r) ∧ Aside0 (kq ≤ k) ∧ Aside0 (Below w.heap.size w w'))
 case atStart => exact ⟨(0), (0), M3, M3, H', ⟨Nat.le_refl _⟩, ⟨by exact qB HB.out⟩⟩
 case round =>
  clear H'
  try clear c1
  obtain ⟨x3_1, x4_1, rfl, rfl, HA, HK1, HB⟩ := hrel
  cases gk with
  | zero => exact absurd HA.out (by simp [spec_IsChain.l0])
  | succ k1 =>
   have H := HA.out
   clear HA
   simp only [spec_IsChain.l0] at H
   have HC2 := zK H
   clear H
   go_upto_region 3 with (fail)
   go_cut [15] (fun v15 wc => ∃ (kq : Nat) (x15_1 : Bool), v15 = .bool x15_1 ∧ Aside0 (spec_IsChain.j1 kq l0 x3_1 x4_1 x15_1 = some r) ∧ Aside0 (kq ≤ k1) ∧ Aside0 (Below w.heap.size w wc))
   case first =>
    have H := HC2.out
    clear HC2
    by_cases c3 : x4_1 < (l0.length : Int)
    rotate_left
    ·rw [if_neg c3] at H
     have c3b0 : decide (x4_1 < (l0.length : Int)) = false := decide_eq_false c3
     clear c3
     (first | rw [c3b0] | rw [c3b1] | (simp only [i64_w, i32_w]; rw [c3b0]) | skip)
     have H' := zK H
     clear H
     go_wp2
     go_meet
     case rel => exact ⟨_, (false), M3, H', ⟨by have := HK1.out; first | omega | exact Nat.le_refl _⟩, ⟨by exact qB HB.out⟩⟩
    rw [if_pos c3] at H
    have c3b0 : decide (x4_1 < (l0.length : Int)) = true := decide_eq_true c3
    clear c3
    (first | rw [c3b0] | rw [c3b1] | (simp only [i64_w, i32_w]; rw [c3b0]) | skip)
    have H' := zK H
    clear H
    go_wp2
    go_meet
    case rel => exact ⟨_, (decide ((l0.length : Int) ≤ 100)), M3, H', ⟨by have := HK1.out; first | omega | exact Nat.le_refl _⟩, ⟨by exact qB HB.out⟩⟩
   case rest =>
    clear HC2
    try clear c1
    try clear p2
    try clear c3
    try clear c3b0
    obtain ⟨kq, x15_1, rfl, HA, HJ1, HB⟩ := hcut
    cases kq with
    | zero => exact absurd HA.out (by simp [spec_IsChain.j1])
    | succ kj1 =>
     have H := HA.out
     clear HA
     simp only [spec_IsChain.j1] at H
     by_cases c4 : x15_1 = true
     rotate_left
     ·replace c4 := Bool.eq_false_iff.mpr c4
      subst c4
      have H1 : (some (decide ((l0.length : Int) ≤ 100))) = some r := by rw [if_neg (show ¬ (false = true) by decide)] at H; exact H
      clear H
      have H := H1
      clear H1
      obtain rfl := Option.some.inj H
      go_wp2
      go_ret
      exact ⟨by first | rfl | (simp [errW_none, errW_some] <;> rfl) | (simp [*, errW_none, errW_some] <;> rfl), by exact qB HB.out⟩

     subst c4
     have H1 : (if 0 ≤ x4_1 then (if x4_1 < (l0.length : Int) then ((spec_HandSeal.f kj1 x3_1 ((rd_T138 l0 x4_1).f0) ((rd_T138 l0 x4_1).f1) ((rd_T138 l0 x4_1).f2) ((rd_T138 l0 x4_1).f3) ((rd_T138 l0 x4_1).f4)).bind fun t298 => ((spec_l1In.f ((rd_T138 l0 x4_1).f0) 1 999).bind fun t299 => (if t299 = true then ((spec_l1In.f ((rd_T138 l0 x4_1).f1) 1 5).bind fun t300 => (if t300 = true then ((spec_l1In.f ((rd_T138 l0 x4_1).f2) 0 999).bind fun t301 => (if t301 = true then ((spec_l1In.f ((rd_T138 l0 x4_1).f3) 0 100000).bind fun t302 => (if t302 = true then (if ((rd_T138 l0 x4_1).f4) = t298 then (if x4_1 > 0 then (if 0 ≤ (wrap64 (x4_1 - 1)) then (if (wrap64 (x4_1 - 1)) < (l0.length : Int) then (spec_IsChain.j2 kj1 l0 t298 x4_1 (decide (((rd_T138 l0 (wrap64 (x4_1 - 1))).f3) > ((rd_T138 l0 x4_1).f3))) ((rd_T138 l0 x4_1).f0) ((rd_T138 l0 x4_1).f1) ((rd_T138 l0 x4_1).f2) ((rd_T138 l0 x4_1).f3) ((rd_T138 l0 x4_1).f4)) else (none)) else (none)) else (spec_IsChain.j2 kj1 l0 t298 x4_1 false ((rd_T138 l0 x4_1).f0) ((rd_T138 l0 x4_1).f1) ((rd_T138 l0 x4_1).f2) ((rd_T138 l0 x4_1).f3) ((rd_T138 l0 x4_1).f4))) else (spec_IsChain.j2 kj1 l0 t298 x4_1 true ((rd_T138 l0 x4_1).f0) ((rd_T138 l0 x4_1).f1) ((rd_T138 l0 x4_1).f2) ((rd_T138 l0 x4_1).f3) ((rd_T138 l0 x4_1).f4))) else (spec_IsChain.j2 kj1 l0 t298 x4_1 true ((rd_T138 l0 x4_1).f0) ((rd_T138 l0 x4_1).f1) ((rd_T138 l0 x4_1).f2) ((rd_T138 l0 x4_1).f3) ((rd_T138 l0 x4_1).f4)))) else (spec_IsChain.j2 kj1 l0 t298 x4_1 true ((rd_T138 l0 x4_1).f0) ((rd_T138 l0 x4_1).f1) ((rd_T138 l0 x4_1).f2) ((rd_T138 l0 x4_1).f3) ((rd_T138 l0 x4_1).f4)))) else (spec_IsChain.j2 kj1 l0 t298 x4_1 true ((rd_T138 l0 x4_1).f0) ((rd_T138 l0 x4_1).f1) ((rd_T138 l0 x4_1).f2) ((rd_T138 l0 x4_1).f3) ((rd_T138 l0 x4_1).f4)))) else (spec_IsChain.j2 kj1 l0 t298 x4_1 true ((rd_T138 l0 x4_1).f0) ((rd_T138 l0 x4_1).f1) ((rd_T138 l0 x4_1).f2) ((rd_T138 l0 x4_1).f3) ((rd_T138 l0 x4_1).f4))))) else (none)) else (none)) = some r := by rw [if_pos rfl] at H; exact H
     clear H
     have H := H1
     clear H1
     by_cases c5 : 0 ≤ x4_1
     rotate_left
     ·rw [if_neg c5] at H
      exact absurd H (by simp)
     rw [if_pos c5] at H
     have c5b0 : decide (0 ≤ x4_1) = true := decide_eq_true c5
     clear c5
     by_cases c6 : x4_1 < (l0.length : Int)
     rotate_left
     ·rw [if_neg c6] at H
      exact absurd H (by simp)
     rw [if_pos c6] at H
     have c6b0 : decide (x4_1 < (l0.length : Int)) = true := decide_eq_true c6
     clear c6
     replace H := Option.bind_eq_some_iff.mp H
     obtain ⟨t298, A70, H⟩ := H
     replace H : ((spec_l1In.f ((rd_T138 l0 x4_1).f0) 1 999).bind fun t299 => (if t299 = true then ((spec_l1In.f ((rd_T138 l0 x4_1).f1) 1 5).bind fun t300 => (if t300 = true then ((spec_l1In.f ((rd_T138 l0 x4_1).f2) 0 999).bind fun t301 => (if t301 = true then ((spec_l1In.f ((rd_T138 l0 x4_1).f3) 0 100000).bind fun t302 => (if t302 = true then (if ((rd_T138 l0 x4_1).f4) = t298 then (if x4_1 > 0 then (if 0 ≤ (wrap64 (x4_1 - 1)) then (if (wrap64 (x4_1 - 1)) < (l0.length : Int) then (spec_IsChain.j2 kj1 l0 t298 x4_1 (decide (((rd_T138 l0 (wrap64 (x4_1 - 1))).f3) > ((rd_T138 l0 x4_1).f3))) ((rd_T138 l0 x4_1).f0) ((rd_T138 l0 x4_1).f1) ((rd_T138 l0 x4_1).f2) ((rd_T138 l0 x4_1).f3) ((rd_T138 l0 x4_1).f4)) else (none)) else (none)) else (spec_IsChain.j2 kj1 l0 t298 x4_1 false ((rd_T138 l0 x4_1).f0) ((rd_T138 l0 x4_1).f1) ((rd_T138 l0 x4_1).f2) ((rd_T138 l0 x4_1).f3) ((rd_T138 l0 x4_1).f4))) else (spec_IsChain.j2 kj1 l0 t298 x4_1 true ((rd_T138 l0 x4_1).f0) ((rd_T138 l0 x4_1).f1) ((rd_T138 l0 x4_1).f2) ((rd_T138 l0 x4_1).f3) ((rd_T138 l0 x4_1).f4))) else (spec_IsChain.j2 kj1 l0 t298 x4_1 true ((rd_T138 l0 x4_1).f0) ((rd_T138 l0 x4_1).f1) ((rd_T138 l0 x4_1).f2) ((rd_T138 l0 x4_1).f3) ((rd_T138 l0 x4_1).f4)))) else (spec_IsChain.j2 kj1 l0 t298 x4_1 true ((rd_T138 l0 x4_1).f0) ((rd_T138 l0 x4_1).f1) ((rd_T138 l0 x4_1).f2) ((rd_T138 l0 x4_1).f3) ((rd_T138 l0 x4_1).f4)))) else (spec_IsChain.j2 kj1 l0 t298 x4_1 true ((rd_T138 l0 x4_1).f0) ((rd_T138 l0 x4_1).f1) ((rd_T138 l0 x4_1).f2) ((rd_T138 l0 x4_1).f3) ((rd_T138 l0 x4_1).f4)))) else (spec_IsChain.j2 kj1 l0 t298 x4_1 true ((rd_T138 l0 x4_1).f0) ((rd_T138 l0 x4_1).f1) ((rd_T138 l0 x4_1).f2) ((rd_T138 l0 x4_1).f3) ((rd_T138 l0 x4_1).f4)))) = some r := H
     have A7 := zK A70
     clear A70
     have HC8 := zK H
     clear H
     have p296 : 0 ≤ (x4_1 : Int) := oD M1
     have q296 : x4_1 < (l0.length : Int) := oD M1
     obtain ⟨ad296, e296, hx296_0, hx296_1, hx296_2, hx296_3, hx296_4⟩ := at_T138 HR0.out x4_1 p296 q296
     cases e296
     replace hx296_0 := (HB.out.cell (bL w hx296_0)).trans hx296_0
     replace hx296_1 := (HB.out.cell (bL w hx296_1)).trans hx296_1
     replace hx296_2 := (HB.out.cell (bL w hx296_2)).trans hx296_2
     replace hx296_3 := (HB.out.cell (bL w hx296_3)).trans hx296_3
     replace hx296_4 := (HB.out.cell (bL w hx296_4)).trans hx296_4
     replace p296 := eq_true p296
     replace q296 := eq_true q296
     go_upto_region 7 with (first | ((with_reducible refine gate_dst (N := 5) rfl ?_); (try (refine gate_guard (by rfl) ?_; dsimp only)); refine box_event ?hg (N := 5) ?hd (cs := #[.int .i64 0, .int .i64 0, .int .i64 0, .int .i64 0, .int .i64 0]) (t := 138) ?hr ?_; (case hd => rfl); (case hg => rfl); (case hr => first | (go_simp; done) | (go_simp; rfl)); intro gb297 hg w9 hbox hb; have n0_ := zK (bT (qB HB.out) hb); have n1_ := zK (hbox); have n2_ := zK ((by rw [hg]; exact (bZ (qB HB.out)) : w.heap.size ≤ gb297)); have n3_ := zK ((by rw [hg]; exact (bZ (qB HB.out)) : w.heap.size ≤ gb297)); clear HB; have HB := n0_; have BK297 := n1_; have GW297 := n2_; have GE297 := n3_; clear n0_ n1_ n2_ n3_; clear hb hbox hg; have hcz10_0 : w9.cell? ⟨gb297, 0, none⟩ = some (.int .i64 0) := (bc BK297.out 0).trans rfl; have hcz10_1 : w9.cell? ⟨gb297, 1, none⟩ = some (.int .i64 0) := (bc BK297.out 1).trans rfl; have hcz10_2 : w9.cell? ⟨gb297, 2, none⟩ = some (.int .i64 0) := (bc BK297.out 2).trans rfl; have hcz10_3 : w9.cell? ⟨gb297, 3, none⟩ = some (.int .i64 0) := (bc BK297.out 3).trans rfl; have hcz10_4 : w9.cell? ⟨gb297, 4, none⟩ = some (.int .i64 0) := (bc BK297.out 4).trans rfl; have hfz10_0 := bf BK297.out 0; have hfz10_1 := bf BK297.out 1; have hfz10_2 := bf BK297.out 2; have hfz10_3 := bf BK297.out 3; have hfz10_4 := bf BK297.out 4) | ((with_reducible refine gate_callee (f := 154) rfl ?_); refine goesL_ (some 24) rfl rfl Try.func154 (by kernel_rfl) rfl #[.int .i64 x3_1, .agg #[.int .i64 ((rd_T138 l0 x4_1).f0), .int .i64 ((rd_T138 l0 x4_1).f1), .int .i64 ((rd_T138 l0 x4_1).f2), .int .i64 ((rd_T138 l0 x4_1).f3), .int .i64 ((rd_T138 l0 x4_1).f4)]] rfl M0 ?_; (with_reducible refine (spec_HandSeal.calls kj1 x3_1 ((rd_T138 l0 x4_1).f0) ((rd_T138 l0 x4_1).f1) ((rd_T138 l0 x4_1).f2) ((rd_T138 l0 x4_1).f3) ((rd_T138 l0 x4_1).f4) t298 _ A7.out).mono ?_); rintro e w11 ⟨rfl, hb⟩; refine ⟨_, rfl, ?_⟩; have n0_ := zK (bB (g := gb297) (o := .cells #[.int .i64 ((rd_T138 l0 x4_1).f0), .int .i64 ((rd_T138 l0 x4_1).f1), .int .i64 ((rd_T138 l0 x4_1).f2), .int .i64 ((rd_T138 l0 x4_1).f3), .int .i64 ((rd_T138 l0 x4_1).f4)] 138 (0, 0)) (by (with_reducible repeat (first | refine kN ?_ _ | refine kD ?_ | refine kA ?_ _)); refine blk_put (cs := #[.int .i64 ((rd_T138 l0 x4_1).f0), .int .i64 ((rd_T138 l0 x4_1).f1), .int .i64 ((rd_T138 l0 x4_1).f2), .int .i64 ((rd_T138 l0 x4_1).f3), .int .i64 0]) ?_ 4 _ rfl; (with_reducible repeat (first | refine kN ?_ _ | refine kD ?_ | refine kA ?_ _)); refine blk_put (cs := #[.int .i64 ((rd_T138 l0 x4_1).f0), .int .i64 ((rd_T138 l0 x4_1).f1), .int .i64 ((rd_T138 l0 x4_1).f2), .int .i64 0, .int .i64 0]) ?_ 3 _ rfl; (with_reducible repeat (first | refine kN ?_ _ | refine kD ?_ | refine kA ?_ _)); refine blk_put (cs := #[.int .i64 ((rd_T138 l0 x4_1).f0), .int .i64 ((rd_T138 l0 x4_1).f1), .int .i64 0, .int .i64 0, .int .i64 0]) ?_ 2 _ rfl; (with_reducible repeat (first | refine kN ?_ _ | refine kD ?_ | refine kA ?_ _)); refine blk_put (cs := #[.int .i64 ((rd_T138 l0 x4_1).f0), .int .i64 0, .int .i64 0, .int .i64 0, .int .i64 0]) ?_ 1 _ rfl; (with_reducible repeat (first | refine kN ?_ _ | refine kD ?_ | refine kA ?_ _)); refine blk_put (cs := #[.int .i64 0, .int .i64 0, .int .i64 0, .int .i64 0, .int .i64 0]) ?_ 0 _ rfl; exact qK BK297.out) hb); have n1_ := zK (bT (by repeat (first | (with_reducible first | exact HB.out | apply bA | apply bN | apply b1 | refine bS ?_ GE297.out) | exact HB.out)) hb); clear BK297 HB; have BK297 := n0_; have HB := n1_; clear n0_ n1_; (try clear hb); (try clear hb2); (try clear hk); (try clear hi)))
     (try simp only [Act.put, sA, sZ, sS])
     go_cut [67] (fun v67 wc => ∃ (kq : Nat) (x67_7 : Bool), v67 = .bool x67_7 ∧ Aside0 (spec_IsChain.j2 kq l0 t298 x4_1 x67_7 ((rd_T138 l0 x4_1).f0) ((rd_T138 l0 x4_1).f1) ((rd_T138 l0 x4_1).f2) ((rd_T138 l0 x4_1).f3) ((rd_T138 l0 x4_1).f4) = some r) ∧ Aside0 (kq ≤ kj1) ∧ Aside0 (wc.heap[gb297]? = some (.cells #[.int .i64 ((rd_T138 l0 x4_1).f0), .int .i64 ((rd_T138 l0 x4_1).f1), .int .i64 ((rd_T138 l0 x4_1).f2), .int .i64 ((rd_T138 l0 x4_1).f3), .int .i64 ((rd_T138 l0 x4_1).f4)] 138 (0, 0))) ∧ Aside0 (Below w.heap.size w wc))
     case first =>
      have H := HC8.out
      clear HC8
      replace H := Option.bind_eq_some_iff.mp H
      obtain ⟨t299, A120, H⟩ := H
      replace H : (if t299 = true then ((spec_l1In.f ((rd_T138 l0 x4_1).f1) 1 5).bind fun t300 => (if t300 = true then ((spec_l1In.f ((rd_T138 l0 x4_1).f2) 0 999).bind fun t301 => (if t301 = true then ((spec_l1In.f ((rd_T138 l0 x4_1).f3) 0 100000).bind fun t302 => (if t302 = true then (if ((rd_T138 l0 x4_1).f4) = t298 then (if x4_1 > 0 then (if 0 ≤ (wrap64 (x4_1 - 1)) then (if (wrap64 (x4_1 - 1)) < (l0.length : Int) then (spec_IsChain.j2 kj1 l0 t298 x4_1 (decide (((rd_T138 l0 (wrap64 (x4_1 - 1))).f3) > ((rd_T138 l0 x4_1).f3))) ((rd_T138 l0 x4_1).f0) ((rd_T138 l0 x4_1).f1) ((rd_T138 l0 x4_1).f2) ((rd_T138 l0 x4_1).f3) ((rd_T138 l0 x4_1).f4)) else (none)) else (none)) else (spec_IsChain.j2 kj1 l0 t298 x4_1 false ((rd_T138 l0 x4_1).f0) ((rd_T138 l0 x4_1).f1) ((rd_T138 l0 x4_1).f2) ((rd_T138 l0 x4_1).f3) ((rd_T138 l0 x4_1).f4))) else (spec_IsChain.j2 kj1 l0 t298 x4_1 true ((rd_T138 l0 x4_1).f0) ((rd_T138 l0 x4_1).f1) ((rd_T138 l0 x4_1).f2) ((rd_T138 l0 x4_1).f3) ((rd_T138 l0 x4_1).f4))) else (spec_IsChain.j2 kj1 l0 t298 x4_1 true ((rd_T138 l0 x4_1).f0) ((rd_T138 l0 x4_1).f1) ((rd_T138 l0 x4_1).f2) ((rd_T138 l0 x4_1).f3) ((rd_T138 l0 x4_1).f4)))) else (spec_IsChain.j2 kj1 l0 t298 x4_1 true ((rd_T138 l0 x4_1).f0) ((rd_T138 l0 x4_1).f1) ((rd_T138 l0 x4_1).f2) ((rd_T138 l0 x4_1).f3) ((rd_T138 l0 x4_1).f4)))) else (spec_IsChain.j2 kj1 l0 t298 x4_1 true ((rd_T138 l0 x4_1).f0) ((rd_T138 l0 x4_1).f1) ((rd_T138 l0 x4_1).f2) ((rd_T138 l0 x4_1).f3) ((rd_T138 l0 x4_1).f4)))) else (spec_IsChain.j2 kj1 l0 t298 x4_1 true ((rd_T138 l0 x4_1).f0) ((rd_T138 l0 x4_1).f1) ((rd_T138 l0 x4_1).f2) ((rd_T138 l0 x4_1).f3) ((rd_T138 l0 x4_1).f4))) = some r := H
      have A12 := zK A120
      clear A120
      by_cases c13 : t299 = true
      rotate_left
      ·replace c13 := Bool.eq_false_iff.mpr c13
       subst c13
       have H1 : (spec_IsChain.j2 kj1 l0 t298 x4_1 true ((rd_T138 l0 x4_1).f0) ((rd_T138 l0 x4_1).f1) ((rd_T138 l0 x4_1).f2) ((rd_T138 l0 x4_1).f3) ((rd_T138 l0 x4_1).f4)) = some r := by rw [if_neg (show ¬ (false = true) by decide)] at H; exact H
       clear H
       have H := H1
       clear H1
       have H' := zK H
       clear H
       try go_wp2
       have n0_ := zK (kD BK297.out)
       have n1_ := zK (b1 HB.out)
       clear BK297
       clear HB
       have BK297 := n0_
       have HB := n1_
       clear n0_ n1_
       refine start_ (n := 43) (S := fun w' => w'.cell? ⟨gb297, 0, none⟩ = some (.int .i64 ((rd_T138 l0 x4_1).f0)) ∧ w'.cell? ⟨gb297, 1, none⟩ = some (.int .i64 ((rd_T138 l0 x4_1).f1)) ∧ w'.cell? ⟨gb297, 2, none⟩ = some (.int .i64 ((rd_T138 l0 x4_1).f2)) ∧ w'.cell? ⟨gb297, 3, none⟩ = some (.int .i64 ((rd_T138 l0 x4_1).f3)) ∧ w'.cell? ⟨gb297, 4, none⟩ = some (.int .i64 ((rd_T138 l0 x4_1).f4))) (ds := []) b10A0 (by kernel_rfl) rfl rfl ⟨(bc BK297.out 0).trans rfl, (bc BK297.out 1).trans rfl, (bc BK297.out 2).trans rfl, (bc BK297.out 3).trans rfl, (bc BK297.out 4).trans rfl⟩ (fun hHeld => ?_); refine with_tabW spec_IsChain.tab7 spec_IsChain.bits7 (fun HT_ HW_ => ?_)
       generalize w11.drew = w31 at BK297 HB hHeld ⊢
       refine pI 0 (some 25) b10A1 HT_ ?_
       refine tI 1 (some 26) b10A2 HT_ HW_ hHeld rfl rfl (Or.inl ⟨by rfl, by rintro w' ⟨s0, s1, s2, s3, s4⟩; go_simp; with_reducible rfl⟩) ?_
       refine one_ (i := 2) (N := some 27) b10A3 rfl rfl (one_of HT_.out (by kernel_rfl)) (by decide) (fun K hK => ?_)
       refine goes_ Try.func138 (by kernel_rfl) rfl #[.int .i64 ((rd_T138 l0 x4_1).f0), .int .i64 1, .int .i64 999] (by rfl) rfl rfl M0 ?_
       with_reducible refine (spec_l1In.calls ((rd_T138 l0 x4_1).f0) 1 999 false _ A12.out).mono ?_
       rintro e w' ⟨rfl, ⟨nd, rfl⟩⟩
       refine ⟨_, rfl, ?_⟩
       refine hK.out _ _ ⟨(bc BK297.out 0).trans rfl, (bc BK297.out 1).trans rfl, (bc BK297.out 2).trans rfl, (bc BK297.out 3).trans rfl, (bc BK297.out 4).trans rfl⟩ (fun hHeld => ?_)
       clear hK K
       refine norm_ (a' := ?_) ?_ ?_
       rotate_left
       ·show Act.put _ (some 27) _ = _
        simp only [Act.put, sA, sZ, sS, i64_w, i32_w]
        rfl
       refine pI 3 (some 28) b10A4 HT_ ?_
       refine pI 4 (some 29) b10A5 HT_ ?_
       refine pU 5 (some 30) b10A6 HT_ ?_
       refine pU 6 (some 31) b10A7 HT_ ?_
       refine pU 7 (some 32) b10A8 HT_ ?_
       refine pU 8 (some 33) b10A9 HT_ ?_
       refine pI 9 (some 34) b10A10 HT_ ?_
       refine pI 10 (some 35) b10A11 HT_ ?_
       refine pU 11 (some 36) b10A12 HT_ ?_
       refine pU 12 (some 37) b10A13 HT_ ?_
       refine pU 13 (some 38) b10A14 HT_ ?_
       refine pU 14 (some 39) b10A15 HT_ ?_
       refine pI 15 (some 40) b10A16 HT_ ?_
       refine pI 16 (some 41) b10A17 HT_ ?_
       refine pU 17 (some 42) b10A18 HT_ ?_
       refine pU 18 (some 43) b10A19 HT_ ?_
       refine pU 19 (some 44) b10A20 HT_ ?_
       refine pU 20 (some 45) b10A21 HT_ ?_
       refine pI 21 (some 46) b10A22 HT_ ?_
       refine pI 22 (some 47) b10A23 HT_ ?_
       refine pU 23 (some 48) b10A24 HT_ ?_
       refine pU 24 (some 49) b10A45 HT_ ?_
       refine pU 25 (some 50) b10A26 HT_ ?_
       refine pU 26 (some 51) b10A27 HT_ ?_
       refine pI 27 (some 52) b10A28 HT_ ?_
       refine pI 28 (some 53) b10A29 HT_ ?_
       refine pU 29 (some 54) b10A30 HT_ ?_
       refine pU 30 (some 55) b10A31 HT_ ?_
       refine pU 31 (some 56) b10A32 HT_ ?_
       refine pU 32 (some 57) b10A33 HT_ ?_
       refine pU 33 (some 58) b10A34 HT_ ?_
       refine pU 34 (some 59) b10A35 HT_ ?_
       refine pU 35 (some 60) b10A36 HT_ ?_
       refine pU 36 (some 61) b10A37 HT_ ?_
       refine pU 37 (some 62) b10A44 HT_ ?_
       refine pU 38 (some 63) b10A39 HT_ ?_
       refine pU 39 (some 64) b10A40 HT_ ?_
       refine pU 40 (some 65) b10A41 HT_ ?_
       refine pU 41 (some 66) b10A42 HT_ ?_
       refine pI 42 (some 67) b10A43 HT_ ?_
       refine done_ (done_of HT_.out (by kernel_rfl)) ?_
       try go_wp2
       go_meet
       case rel => exact ⟨_, (true), M3, H', ⟨by have := HK1.out; have := HJ1.out; first | omega | exact Nat.le_refl _⟩, ⟨by exact qK BK297.out⟩, ⟨by repeat (first | (with_reducible first | exact HB.out | apply bA | apply bN | apply b1 | refine bS ?_ GE297.out) | exact HB.out)⟩⟩
      subst c13
      have H1 : ((spec_l1In.f ((rd_T138 l0 x4_1).f1) 1 5).bind fun t300 => (if t300 = true then ((spec_l1In.f ((rd_T138 l0 x4_1).f2) 0 999).bind fun t301 => (if t301 = true then ((spec_l1In.f ((rd_T138 l0 x4_1).f3) 0 100000).bind fun t302 => (if t302 = true then (if ((rd_T138 l0 x4_1).f4) = t298 then (if x4_1 > 0 then (if 0 ≤ (wrap64 (x4_1 - 1)) then (if (wrap64 (x4_1 - 1)) < (l0.length : Int) then (spec_IsChain.j2 kj1 l0 t298 x4_1 (decide (((rd_T138 l0 (wrap64 (x4_1 - 1))).f3) > ((rd_T138 l0 x4_1).f3))) ((rd_T138 l0 x4_1).f0) ((rd_T138 l0 x4_1).f1) ((rd_T138 l0 x4_1).f2) ((rd_T138 l0 x4_1).f3) ((rd_T138 l0 x4_1).f4)) else (none)) else (none)) else (spec_IsChain.j2 kj1 l0 t298 x4_1 false ((rd_T138 l0 x4_1).f0) ((rd_T138 l0 x4_1).f1) ((rd_T138 l0 x4_1).f2) ((rd_T138 l0 x4_1).f3) ((rd_T138 l0 x4_1).f4))) else (spec_IsChain.j2 kj1 l0 t298 x4_1 true ((rd_T138 l0 x4_1).f0) ((rd_T138 l0 x4_1).f1) ((rd_T138 l0 x4_1).f2) ((rd_T138 l0 x4_1).f3) ((rd_T138 l0 x4_1).f4))) else (spec_IsChain.j2 kj1 l0 t298 x4_1 true ((rd_T138 l0 x4_1).f0) ((rd_T138 l0 x4_1).f1) ((rd_T138 l0 x4_1).f2) ((rd_T138 l0 x4_1).f3) ((rd_T138 l0 x4_1).f4)))) else (spec_IsChain.j2 kj1 l0 t298 x4_1 true ((rd_T138 l0 x4_1).f0) ((rd_T138 l0 x4_1).f1) ((rd_T138 l0 x4_1).f2) ((rd_T138 l0 x4_1).f3) ((rd_T138 l0 x4_1).f4)))) else (spec_IsChain.j2 kj1 l0 t298 x4_1 true ((rd_T138 l0 x4_1).f0) ((rd_T138 l0 x4_1).f1) ((rd_T138 l0 x4_1).f2) ((rd_T138 l0 x4_1).f3) ((rd_T138 l0 x4_1).f4)))) = some r := by rw [if_pos rfl] at H; exact H
      clear H
      have H := H1
      clear H1
      replace H := Option.bind_eq_some_iff.mp H
      obtain ⟨t300, A140, H⟩ := H
      replace H : (if t300 = true then ((spec_l1In.f ((rd_T138 l0 x4_1).f2) 0 999).bind fun t301 => (if t301 = true then ((spec_l1In.f ((rd_T138 l0 x4_1).f3) 0 100000).bind fun t302 => (if t302 = true then (if ((rd_T138 l0 x4_1).f4) = t298 then (if x4_1 > 0 then (if 0 ≤ (wrap64 (x4_1 - 1)) then (if (wrap64 (x4_1 - 1)) < (l0.length : Int) then (spec_IsChain.j2 kj1 l0 t298 x4_1 (decide (((rd_T138 l0 (wrap64 (x4_1 - 1))).f3) > ((rd_T138 l0 x4_1).f3))) ((rd_T138 l0 x4_1).f0) ((rd_T138 l0 x4_1).f1) ((rd_T138 l0 x4_1).f2) ((rd_T138 l0 x4_1).f3) ((rd_T138 l0 x4_1).f4)) else (none)) else (none)) else (spec_IsChain.j2 kj1 l0 t298 x4_1 false ((rd_T138 l0 x4_1).f0) ((rd_T138 l0 x4_1).f1) ((rd_T138 l0 x4_1).f2) ((rd_T138 l0 x4_1).f3) ((rd_T138 l0 x4_1).f4))) else (spec_IsChain.j2 kj1 l0 t298 x4_1 true ((rd_T138 l0 x4_1).f0) ((rd_T138 l0 x4_1).f1) ((rd_T138 l0 x4_1).f2) ((rd_T138 l0 x4_1).f3) ((rd_T138 l0 x4_1).f4))) else (spec_IsChain.j2 kj1 l0 t298 x4_1 true ((rd_T138 l0 x4_1).f0) ((rd_T138 l0 x4_1).f1) ((rd_T138 l0 x4_1).f2) ((rd_T138 l0 x4_1).f3) ((rd_T138 l0 x4_1).f4)))) else (spec_IsChain.j2 kj1 l0 t298 x4_1 true ((rd_T138 l0 x4_1).f0) ((rd_T138 l0 x4_1).f1) ((rd_T138 l0 x4_1).f2) ((rd_T138 l0 x4_1).f3) ((rd_T138 l0 x4_1).f4)))) else (spec_IsChain.j2 kj1 l0 t298 x4_1 true ((rd_T138 l0 x4_1).f0) ((rd_T138 l0 x4_1).f1) ((rd_T138 l0 x4_1).f2) ((rd_T138 l0 x4_1).f3) ((rd_T138 l0 x4_1).f4))) = some r := H
      have A14 := zK A140
      clear A140
      by_cases c15 : t300 = true
      rotate_left
      ·replace c15 := Bool.eq_false_iff.mpr c15
       subst c15
       have H1 : (spec_IsChain.j2 kj1 l0 t298 x4_1 true ((rd_T138 l0 x4_1).f0) ((rd_T138 l0 x4_1).f1) ((rd_T138 l0 x4_1).f2) ((rd_T138 l0 x4_1).f3) ((rd_T138 l0 x4_1).f4)) = some r := by rw [if_neg (show ¬ (false = true) by decide)] at H; exact H
       clear H
       have H := H1
       clear H1
       have H' := zK H
       clear H
       try go_wp2
       have n0_ := zK (kD BK297.out)
       have n1_ := zK (b1 HB.out)
       clear BK297
       clear HB
       have BK297 := n0_
       have HB := n1_
       clear n0_ n1_
       refine start_ (n := 43) (S := fun w' => w'.cell? ⟨gb297, 0, none⟩ = some (.int .i64 ((rd_T138 l0 x4_1).f0)) ∧ w'.cell? ⟨gb297, 1, none⟩ = some (.int .i64 ((rd_T138 l0 x4_1).f1)) ∧ w'.cell? ⟨gb297, 2, none⟩ = some (.int .i64 ((rd_T138 l0 x4_1).f2)) ∧ w'.cell? ⟨gb297, 3, none⟩ = some (.int .i64 ((rd_T138 l0 x4_1).f3)) ∧ w'.cell? ⟨gb297, 4, none⟩ = some (.int .i64 ((rd_T138 l0 x4_1).f4))) (ds := []) b10A0 (by kernel_rfl) rfl rfl ⟨(bc BK297.out 0).trans rfl, (bc BK297.out 1).trans rfl, (bc BK297.out 2).trans rfl, (bc BK297.out 3).trans rfl, (bc BK297.out 4).trans rfl⟩ (fun hHeld => ?_); refine with_tabW spec_IsChain.tab7 spec_IsChain.bits7 (fun HT_ HW_ => ?_)
       generalize w11.drew = w30 at BK297 HB hHeld ⊢
       refine pI 0 (some 25) b10A1 HT_ ?_
       refine tI 1 (some 26) b10A2 HT_ HW_ hHeld rfl rfl (Or.inl ⟨by rfl, by rintro w' ⟨s0, s1, s2, s3, s4⟩; go_simp; with_reducible rfl⟩) ?_
       refine one_ (i := 2) (N := some 27) b10A3 rfl rfl (one_of HT_.out (by kernel_rfl)) (by decide) (fun K hK => ?_)
       refine goes_ Try.func138 (by kernel_rfl) rfl #[.int .i64 ((rd_T138 l0 x4_1).f0), .int .i64 1, .int .i64 999] (by rfl) rfl rfl M0 ?_
       with_reducible refine (spec_l1In.calls ((rd_T138 l0 x4_1).f0) 1 999 true _ A12.out).mono ?_
       rintro e w' ⟨rfl, ⟨nd, rfl⟩⟩
       refine ⟨_, rfl, ?_⟩
       refine hK.out _ _ ⟨(bc BK297.out 0).trans rfl, (bc BK297.out 1).trans rfl, (bc BK297.out 2).trans rfl, (bc BK297.out 3).trans rfl, (bc BK297.out 4).trans rfl⟩ (fun hHeld => ?_)
       clear hK K
       refine norm_ (a' := ?_) ?_ ?_
       rotate_left
       ·show Act.put _ (some 27) _ = _
        simp only [Act.put, sA, sZ, sS, i64_w, i32_w]
        rfl
       refine pI 3 (some 28) b10A4 HT_ ?_
       refine pI 4 (some 29) b10A5 HT_ ?_
       refine pI 5 (some 30) b10A6 HT_ ?_
       refine tI 6 (some 31) b10A7 HT_ HW_ hHeld rfl rfl (Or.inl ⟨by rfl, by rintro w' ⟨s0, s1, s2, s3, s4⟩; go_simp; with_reducible rfl⟩) ?_
       refine one_ (i := 7) (N := some 32) b10A8 rfl rfl (one_of HT_.out (by kernel_rfl)) (by decide) (fun K hK => ?_)
       refine goes_ Try.func138 (by kernel_rfl) rfl #[.int .i64 ((rd_T138 l0 x4_1).f1), .int .i64 1, .int .i64 5] (by rfl) rfl rfl M0 ?_
       with_reducible refine (spec_l1In.calls ((rd_T138 l0 x4_1).f1) 1 5 false _ A14.out).mono ?_
       rintro e w' ⟨rfl, ⟨nd, rfl⟩⟩
       refine ⟨_, rfl, ?_⟩
       refine hK.out _ _ ⟨(bc BK297.out 0).trans rfl, (bc BK297.out 1).trans rfl, (bc BK297.out 2).trans rfl, (bc BK297.out 3).trans rfl, (bc BK297.out 4).trans rfl⟩ (fun hHeld => ?_)
       clear hK K
       refine norm_ (a' := ?_) ?_ ?_
       rotate_left
       ·show Act.put _ (some 32) _ = _
        simp only [Act.put, sA, sZ, sS, i64_w, i32_w]
        rfl
       refine pI 8 (some 33) b10A9 HT_ ?_
       refine pI 9 (some 34) b10A10 HT_ ?_
       refine pI 10 (some 35) b10A11 HT_ ?_
       refine pU 11 (some 36) b10A12 HT_ ?_
       refine pU 12 (some 37) b10A13 HT_ ?_
       refine pU 13 (some 38) b10A14 HT_ ?_
       refine pU 14 (some 39) b10A15 HT_ ?_
       refine pI 15 (some 40) b10A16 HT_ ?_
       refine pI 16 (some 41) b10A17 HT_ ?_
       refine pU 17 (some 42) b10A18 HT_ ?_
       refine pU 18 (some 43) b10A19 HT_ ?_
       refine pU 19 (some 44) b10A20 HT_ ?_
       refine pU 20 (some 45) b10A21 HT_ ?_
       refine pI 21 (some 46) b10A22 HT_ ?_
       refine pI 22 (some 47) b10A23 HT_ ?_
       refine pU 23 (some 48) b10A24 HT_ ?_
       refine pU 24 (some 49) b10A45 HT_ ?_
       refine pU 25 (some 50) b10A26 HT_ ?_
       refine pU 26 (some 51) b10A27 HT_ ?_
       refine pI 27 (some 52) b10A28 HT_ ?_
       refine pI 28 (some 53) b10A29 HT_ ?_
       refine pU 29 (some 54) b10A30 HT_ ?_
       refine pU 30 (some 55) b10A31 HT_ ?_
       refine pU 31 (some 56) b10A32 HT_ ?_
       refine pU 32 (some 57) b10A33 HT_ ?_
       refine pU 33 (some 58) b10A34 HT_ ?_
       refine pU 34 (some 59) b10A35 HT_ ?_
       refine pU 35 (some 60) b10A36 HT_ ?_
       refine pU 36 (some 61) b10A37 HT_ ?_
       refine pU 37 (some 62) b10A44 HT_ ?_
       refine pU 38 (some 63) b10A39 HT_ ?_
       refine pU 39 (some 64) b10A40 HT_ ?_
       refine pU 40 (some 65) b10A41 HT_ ?_
       refine pU 41 (some 66) b10A42 HT_ ?_
       refine pI 42 (some 67) b10A43 HT_ ?_
       refine done_ (done_of HT_.out (by kernel_rfl)) ?_
       try go_wp2
       go_meet
       case rel => exact ⟨_, (true), M3, H', ⟨by have := HK1.out; have := HJ1.out; first | omega | exact Nat.le_refl _⟩, ⟨by exact qK BK297.out⟩, ⟨by repeat (first | (with_reducible first | exact HB.out | apply bA | apply bN | apply b1 | refine bS ?_ GE297.out) | exact HB.out)⟩⟩
      subst c15
      have H1 : ((spec_l1In.f ((rd_T138 l0 x4_1).f2) 0 999).bind fun t301 => (if t301 = true then ((spec_l1In.f ((rd_T138 l0 x4_1).f3) 0 100000).bind fun t302 => (if t302 = true then (if ((rd_T138 l0 x4_1).f4) = t298 then (if x4_1 > 0 then (if 0 ≤ (wrap64 (x4_1 - 1)) then (if (wrap64 (x4_1 - 1)) < (l0.length : Int) then (spec_IsChain.j2 kj1 l0 t298 x4_1 (decide (((rd_T138 l0 (wrap64 (x4_1 - 1))).f3) > ((rd_T138 l0 x4_1).f3))) ((rd_T138 l0 x4_1).f0) ((rd_T138 l0 x4_1).f1) ((rd_T138 l0 x4_1).f2) ((rd_T138 l0 x4_1).f3) ((rd_T138 l0 x4_1).f4)) else (none)) else (none)) else (spec_IsChain.j2 kj1 l0 t298 x4_1 false ((rd_T138 l0 x4_1).f0) ((rd_T138 l0 x4_1).f1) ((rd_T138 l0 x4_1).f2) ((rd_T138 l0 x4_1).f3) ((rd_T138 l0 x4_1).f4))) else (spec_IsChain.j2 kj1 l0 t298 x4_1 true ((rd_T138 l0 x4_1).f0) ((rd_T138 l0 x4_1).f1) ((rd_T138 l0 x4_1).f2) ((rd_T138 l0 x4_1).f3) ((rd_T138 l0 x4_1).f4))) else (spec_IsChain.j2 kj1 l0 t298 x4_1 true ((rd_T138 l0 x4_1).f0) ((rd_T138 l0 x4_1).f1) ((rd_T138 l0 x4_1).f2) ((rd_T138 l0 x4_1).f3) ((rd_T138 l0 x4_1).f4)))) else (spec_IsChain.j2 kj1 l0 t298 x4_1 true ((rd_T138 l0 x4_1).f0) ((rd_T138 l0 x4_1).f1) ((rd_T138 l0 x4_1).f2) ((rd_T138 l0 x4_1).f3) ((rd_T138 l0 x4_1).f4)))) = some r := by rw [if_pos rfl] at H; exact H
      clear H
      have H := H1
      clear H1
      replace H := Option.bind_eq_some_iff.mp H
      obtain ⟨t301, A160, H⟩ := H
      replace H : (if t301 = true then ((spec_l1In.f ((rd_T138 l0 x4_1).f3) 0 100000).bind fun t302 => (if t302 = true then (if ((rd_T138 l0 x4_1).f4) = t298 then (if x4_1 > 0 then (if 0 ≤ (wrap64 (x4_1 - 1)) then (if (wrap64 (x4_1 - 1)) < (l0.length : Int) then (spec_IsChain.j2 kj1 l0 t298 x4_1 (decide (((rd_T138 l0 (wrap64 (x4_1 - 1))).f3) > ((rd_T138 l0 x4_1).f3))) ((rd_T138 l0 x4_1).f0) ((rd_T138 l0 x4_1).f1) ((rd_T138 l0 x4_1).f2) ((rd_T138 l0 x4_1).f3) ((rd_T138 l0 x4_1).f4)) else (none)) else (none)) else (spec_IsChain.j2 kj1 l0 t298 x4_1 false ((rd_T138 l0 x4_1).f0) ((rd_T138 l0 x4_1).f1) ((rd_T138 l0 x4_1).f2) ((rd_T138 l0 x4_1).f3) ((rd_T138 l0 x4_1).f4))) else (spec_IsChain.j2 kj1 l0 t298 x4_1 true ((rd_T138 l0 x4_1).f0) ((rd_T138 l0 x4_1).f1) ((rd_T138 l0 x4_1).f2) ((rd_T138 l0 x4_1).f3) ((rd_T138 l0 x4_1).f4))) else (spec_IsChain.j2 kj1 l0 t298 x4_1 true ((rd_T138 l0 x4_1).f0) ((rd_T138 l0 x4_1).f1) ((rd_T138 l0 x4_1).f2) ((rd_T138 l0 x4_1).f3) ((rd_T138 l0 x4_1).f4)))) else (spec_IsChain.j2 kj1 l0 t298 x4_1 true ((rd_T138 l0 x4_1).f0) ((rd_T138 l0 x4_1).f1) ((rd_T138 l0 x4_1).f2) ((rd_T138 l0 x4_1).f3) ((rd_T138 l0 x4_1).f4))) = some r := H
      have A16 := zK A160
      clear A160
      by_cases c17 : t301 = true
      rotate_left
      ·replace c17 := Bool.eq_false_iff.mpr c17
       subst c17
       have H1 : (spec_IsChain.j2 kj1 l0 t298 x4_1 true ((rd_T138 l0 x4_1).f0) ((rd_T138 l0 x4_1).f1) ((rd_T138 l0 x4_1).f2) ((rd_T138 l0 x4_1).f3) ((rd_T138 l0 x4_1).f4)) = some r := by rw [if_neg (show ¬ (false = true) by decide)] at H; exact H
       clear H
       have H := H1
       clear H1
       have H' := zK H
       clear H
       try go_wp2
       have n0_ := zK (kD BK297.out)
       have n1_ := zK (b1 HB.out)
       clear BK297
       clear HB
       have BK297 := n0_
       have HB := n1_
       clear n0_ n1_
       refine start_ (n := 43) (S := fun w' => w'.cell? ⟨gb297, 0, none⟩ = some (.int .i64 ((rd_T138 l0 x4_1).f0)) ∧ w'.cell? ⟨gb297, 1, none⟩ = some (.int .i64 ((rd_T138 l0 x4_1).f1)) ∧ w'.cell? ⟨gb297, 2, none⟩ = some (.int .i64 ((rd_T138 l0 x4_1).f2)) ∧ w'.cell? ⟨gb297, 3, none⟩ = some (.int .i64 ((rd_T138 l0 x4_1).f3)) ∧ w'.cell? ⟨gb297, 4, none⟩ = some (.int .i64 ((rd_T138 l0 x4_1).f4))) (ds := []) b10A0 (by kernel_rfl) rfl rfl ⟨(bc BK297.out 0).trans rfl, (bc BK297.out 1).trans rfl, (bc BK297.out 2).trans rfl, (bc BK297.out 3).trans rfl, (bc BK297.out 4).trans rfl⟩ (fun hHeld => ?_); refine with_tabW spec_IsChain.tab7 spec_IsChain.bits7 (fun HT_ HW_ => ?_)
       generalize w11.drew = w29 at BK297 HB hHeld ⊢
       refine pI 0 (some 25) b10A1 HT_ ?_
       refine tI 1 (some 26) b10A2 HT_ HW_ hHeld rfl rfl (Or.inl ⟨by rfl, by rintro w' ⟨s0, s1, s2, s3, s4⟩; go_simp; with_reducible rfl⟩) ?_
       refine one_ (i := 2) (N := some 27) b10A3 rfl rfl (one_of HT_.out (by kernel_rfl)) (by decide) (fun K hK => ?_)
       refine goes_ Try.func138 (by kernel_rfl) rfl #[.int .i64 ((rd_T138 l0 x4_1).f0), .int .i64 1, .int .i64 999] (by rfl) rfl rfl M0 ?_
       with_reducible refine (spec_l1In.calls ((rd_T138 l0 x4_1).f0) 1 999 true _ A12.out).mono ?_
       rintro e w' ⟨rfl, ⟨nd, rfl⟩⟩
       refine ⟨_, rfl, ?_⟩
       refine hK.out _ _ ⟨(bc BK297.out 0).trans rfl, (bc BK297.out 1).trans rfl, (bc BK297.out 2).trans rfl, (bc BK297.out 3).trans rfl, (bc BK297.out 4).trans rfl⟩ (fun hHeld => ?_)
       clear hK K
       refine norm_ (a' := ?_) ?_ ?_
       rotate_left
       ·show Act.put _ (some 27) _ = _
        simp only [Act.put, sA, sZ, sS, i64_w, i32_w]
        rfl
       refine pI 3 (some 28) b10A4 HT_ ?_
       refine pI 4 (some 29) b10A5 HT_ ?_
       refine pI 5 (some 30) b10A6 HT_ ?_
       refine tI 6 (some 31) b10A7 HT_ HW_ hHeld rfl rfl (Or.inl ⟨by rfl, by rintro w' ⟨s0, s1, s2, s3, s4⟩; go_simp; with_reducible rfl⟩) ?_
       refine one_ (i := 7) (N := some 32) b10A8 rfl rfl (one_of HT_.out (by kernel_rfl)) (by decide) (fun K hK => ?_)
       refine goes_ Try.func138 (by kernel_rfl) rfl #[.int .i64 ((rd_T138 l0 x4_1).f1), .int .i64 1, .int .i64 5] (by rfl) rfl rfl M0 ?_
       with_reducible refine (spec_l1In.calls ((rd_T138 l0 x4_1).f1) 1 5 true _ A14.out).mono ?_
       rintro e w' ⟨rfl, ⟨nd, rfl⟩⟩
       refine ⟨_, rfl, ?_⟩
       refine hK.out _ _ ⟨(bc BK297.out 0).trans rfl, (bc BK297.out 1).trans rfl, (bc BK297.out 2).trans rfl, (bc BK297.out 3).trans rfl, (bc BK297.out 4).trans rfl⟩ (fun hHeld => ?_)
       clear hK K
       refine norm_ (a' := ?_) ?_ ?_
       rotate_left
       ·show Act.put _ (some 32) _ = _
        simp only [Act.put, sA, sZ, sS, i64_w, i32_w]
        rfl
       refine pI 8 (some 33) b10A9 HT_ ?_
       refine pI 9 (some 34) b10A10 HT_ ?_
       refine pI 10 (some 35) b10A11 HT_ ?_
       refine pI 11 (some 36) b10A12 HT_ ?_
       refine tI 12 (some 37) b10A13 HT_ HW_ hHeld rfl rfl (Or.inl ⟨by rfl, by rintro w' ⟨s0, s1, s2, s3, s4⟩; go_simp; with_reducible rfl⟩) ?_
       refine one_ (i := 13) (N := some 38) b10A14 rfl rfl (one_of HT_.out (by kernel_rfl)) (by decide) (fun K hK => ?_)
       refine goes_ Try.func138 (by kernel_rfl) rfl #[.int .i64 ((rd_T138 l0 x4_1).f2), .int .i64 0, .int .i64 999] (by rfl) rfl rfl M0 ?_
       with_reducible refine (spec_l1In.calls ((rd_T138 l0 x4_1).f2) 0 999 false _ A16.out).mono ?_
       rintro e w' ⟨rfl, ⟨nd, rfl⟩⟩
       refine ⟨_, rfl, ?_⟩
       refine hK.out _ _ ⟨(bc BK297.out 0).trans rfl, (bc BK297.out 1).trans rfl, (bc BK297.out 2).trans rfl, (bc BK297.out 3).trans rfl, (bc BK297.out 4).trans rfl⟩ (fun hHeld => ?_)
       clear hK K
       refine norm_ (a' := ?_) ?_ ?_
       rotate_left
       ·show Act.put _ (some 38) _ = _
        simp only [Act.put, sA, sZ, sS, i64_w, i32_w]
        rfl
       refine pI 14 (some 39) b10A15 HT_ ?_
       refine pI 15 (some 40) b10A16 HT_ ?_
       refine pI 16 (some 41) b10A17 HT_ ?_
       refine pU 17 (some 42) b10A18 HT_ ?_
       refine pU 18 (some 43) b10A19 HT_ ?_
       refine pU 19 (some 44) b10A20 HT_ ?_
       refine pU 20 (some 45) b10A21 HT_ ?_
       refine pI 21 (some 46) b10A22 HT_ ?_
       refine pI 22 (some 47) b10A23 HT_ ?_
       refine pU 23 (some 48) b10A24 HT_ ?_
       refine pU 24 (some 49) b10A45 HT_ ?_
       refine pU 25 (some 50) b10A26 HT_ ?_
       refine pU 26 (some 51) b10A27 HT_ ?_
       refine pI 27 (some 52) b10A28 HT_ ?_
       refine pI 28 (some 53) b10A29 HT_ ?_
       refine pU 29 (some 54) b10A30 HT_ ?_
       refine pU 30 (some 55) b10A31 HT_ ?_
       refine pU 31 (some 56) b10A32 HT_ ?_
       refine pU 32 (some 57) b10A33 HT_ ?_
       refine pU 33 (some 58) b10A34 HT_ ?_
       refine pU 34 (some 59) b10A35 HT_ ?_
       refine pU 35 (some 60) b10A36 HT_ ?_
       refine pU 36 (some 61) b10A37 HT_ ?_
       refine pU 37 (some 62) b10A44 HT_ ?_
       refine pU 38 (some 63) b10A39 HT_ ?_
       refine pU 39 (some 64) b10A40 HT_ ?_
       refine pU 40 (some 65) b10A41 HT_ ?_
       refine pU 41 (some 66) b10A42 HT_ ?_
       refine pI 42 (some 67) b10A43 HT_ ?_
       refine done_ (done_of HT_.out (by kernel_rfl)) ?_
       try go_wp2
       go_meet
       case rel => exact ⟨_, (true), M3, H', ⟨by have := HK1.out; have := HJ1.out; first | omega | exact Nat.le_refl _⟩, ⟨by exact qK BK297.out⟩, ⟨by repeat (first | (with_reducible first | exact HB.out | apply bA | apply bN | apply b1 | refine bS ?_ GE297.out) | exact HB.out)⟩⟩
      subst c17
      have H1 : ((spec_l1In.f ((rd_T138 l0 x4_1).f3) 0 100000).bind fun t302 => (if t302 = true then (if ((rd_T138 l0 x4_1).f4) = t298 then (if x4_1 > 0 then (if 0 ≤ (wrap64 (x4_1 - 1)) then (if (wrap64 (x4_1 - 1)) < (l0.length : Int) then (spec_IsChain.j2 kj1 l0 t298 x4_1 (decide (((rd_T138 l0 (wrap64 (x4_1 - 1))).f3) > ((rd_T138 l0 x4_1).f3))) ((rd_T138 l0 x4_1).f0) ((rd_T138 l0 x4_1).f1) ((rd_T138 l0 x4_1).f2) ((rd_T138 l0 x4_1).f3) ((rd_T138 l0 x4_1).f4)) else (none)) else (none)) else (spec_IsChain.j2 kj1 l0 t298 x4_1 false ((rd_T138 l0 x4_1).f0) ((rd_T138 l0 x4_1).f1) ((rd_T138 l0 x4_1).f2) ((rd_T138 l0 x4_1).f3) ((rd_T138 l0 x4_1).f4))) else (spec_IsChain.j2 kj1 l0 t298 x4_1 true ((rd_T138 l0 x4_1).f0) ((rd_T138 l0 x4_1).f1) ((rd_T138 l0 x4_1).f2) ((rd_T138 l0 x4_1).f3) ((rd_T138 l0 x4_1).f4))) else (spec_IsChain.j2 kj1 l0 t298 x4_1 true ((rd_T138 l0 x4_1).f0) ((rd_T138 l0 x4_1).f1) ((rd_T138 l0 x4_1).f2) ((rd_T138 l0 x4_1).f3) ((rd_T138 l0 x4_1).f4)))) = some r := by rw [if_pos rfl] at H; exact H
      clear H
      have H := H1
      clear H1
      replace H := Option.bind_eq_some_iff.mp H
      obtain ⟨t302, A180, H⟩ := H
      replace H : (if t302 = true then (if ((rd_T138 l0 x4_1).f4) = t298 then (if x4_1 > 0 then (if 0 ≤ (wrap64 (x4_1 - 1)) then (if (wrap64 (x4_1 - 1)) < (l0.length : Int) then (spec_IsChain.j2 kj1 l0 t298 x4_1 (decide (((rd_T138 l0 (wrap64 (x4_1 - 1))).f3) > ((rd_T138 l0 x4_1).f3))) ((rd_T138 l0 x4_1).f0) ((rd_T138 l0 x4_1).f1) ((rd_T138 l0 x4_1).f2) ((rd_T138 l0 x4_1).f3) ((rd_T138 l0 x4_1).f4)) else (none)) else (none)) else (spec_IsChain.j2 kj1 l0 t298 x4_1 false ((rd_T138 l0 x4_1).f0) ((rd_T138 l0 x4_1).f1) ((rd_T138 l0 x4_1).f2) ((rd_T138 l0 x4_1).f3) ((rd_T138 l0 x4_1).f4))) else (spec_IsChain.j2 kj1 l0 t298 x4_1 true ((rd_T138 l0 x4_1).f0) ((rd_T138 l0 x4_1).f1) ((rd_T138 l0 x4_1).f2) ((rd_T138 l0 x4_1).f3) ((rd_T138 l0 x4_1).f4))) else (spec_IsChain.j2 kj1 l0 t298 x4_1 true ((rd_T138 l0 x4_1).f0) ((rd_T138 l0 x4_1).f1) ((rd_T138 l0 x4_1).f2) ((rd_T138 l0 x4_1).f3) ((rd_T138 l0 x4_1).f4))) = some r := H
      have A18 := zK A180
      clear A180
      by_cases c19 : t302 = true
      rotate_left
      ·replace c19 := Bool.eq_false_iff.mpr c19
       subst c19
       have H1 : (spec_IsChain.j2 kj1 l0 t298 x4_1 true ((rd_T138 l0 x4_1).f0) ((rd_T138 l0 x4_1).f1) ((rd_T138 l0 x4_1).f2) ((rd_T138 l0 x4_1).f3) ((rd_T138 l0 x4_1).f4)) = some r := by rw [if_neg (show ¬ (false = true) by decide)] at H; exact H
       clear H
       have H := H1
       clear H1
       have H' := zK H
       clear H
       try go_wp2
       have n0_ := zK (kD BK297.out)
       have n1_ := zK (b1 HB.out)
       clear BK297
       clear HB
       have BK297 := n0_
       have HB := n1_
       clear n0_ n1_
       refine start_ (n := 43) (S := fun w' => w'.cell? ⟨gb297, 0, none⟩ = some (.int .i64 ((rd_T138 l0 x4_1).f0)) ∧ w'.cell? ⟨gb297, 1, none⟩ = some (.int .i64 ((rd_T138 l0 x4_1).f1)) ∧ w'.cell? ⟨gb297, 2, none⟩ = some (.int .i64 ((rd_T138 l0 x4_1).f2)) ∧ w'.cell? ⟨gb297, 3, none⟩ = some (.int .i64 ((rd_T138 l0 x4_1).f3)) ∧ w'.cell? ⟨gb297, 4, none⟩ = some (.int .i64 ((rd_T138 l0 x4_1).f4))) (ds := []) b10A0 (by kernel_rfl) rfl rfl ⟨(bc BK297.out 0).trans rfl, (bc BK297.out 1).trans rfl, (bc BK297.out 2).trans rfl, (bc BK297.out 3).trans rfl, (bc BK297.out 4).trans rfl⟩ (fun hHeld => ?_); refine with_tabW spec_IsChain.tab7 spec_IsChain.bits7 (fun HT_ HW_ => ?_)
       generalize w11.drew = w28 at BK297 HB hHeld ⊢
       refine pI 0 (some 25) b10A1 HT_ ?_
       refine tI 1 (some 26) b10A2 HT_ HW_ hHeld rfl rfl (Or.inl ⟨by rfl, by rintro w' ⟨s0, s1, s2, s3, s4⟩; go_simp; with_reducible rfl⟩) ?_
       refine one_ (i := 2) (N := some 27) b10A3 rfl rfl (one_of HT_.out (by kernel_rfl)) (by decide) (fun K hK => ?_)
       refine goes_ Try.func138 (by kernel_rfl) rfl #[.int .i64 ((rd_T138 l0 x4_1).f0), .int .i64 1, .int .i64 999] (by rfl) rfl rfl M0 ?_
       with_reducible refine (spec_l1In.calls ((rd_T138 l0 x4_1).f0) 1 999 true _ A12.out).mono ?_
       rintro e w' ⟨rfl, ⟨nd, rfl⟩⟩
       refine ⟨_, rfl, ?_⟩
       refine hK.out _ _ ⟨(bc BK297.out 0).trans rfl, (bc BK297.out 1).trans rfl, (bc BK297.out 2).trans rfl, (bc BK297.out 3).trans rfl, (bc BK297.out 4).trans rfl⟩ (fun hHeld => ?_)
       clear hK K
       refine norm_ (a' := ?_) ?_ ?_
       rotate_left
       ·show Act.put _ (some 27) _ = _
        simp only [Act.put, sA, sZ, sS, i64_w, i32_w]
        rfl
       refine pI 3 (some 28) b10A4 HT_ ?_
       refine pI 4 (some 29) b10A5 HT_ ?_
       refine pI 5 (some 30) b10A6 HT_ ?_
       refine tI 6 (some 31) b10A7 HT_ HW_ hHeld rfl rfl (Or.inl ⟨by rfl, by rintro w' ⟨s0, s1, s2, s3, s4⟩; go_simp; with_reducible rfl⟩) ?_
       refine one_ (i := 7) (N := some 32) b10A8 rfl rfl (one_of HT_.out (by kernel_rfl)) (by decide) (fun K hK => ?_)
       refine goes_ Try.func138 (by kernel_rfl) rfl #[.int .i64 ((rd_T138 l0 x4_1).f1), .int .i64 1, .int .i64 5] (by rfl) rfl rfl M0 ?_
       with_reducible refine (spec_l1In.calls ((rd_T138 l0 x4_1).f1) 1 5 true _ A14.out).mono ?_
       rintro e w' ⟨rfl, ⟨nd, rfl⟩⟩
       refine ⟨_, rfl, ?_⟩
       refine hK.out _ _ ⟨(bc BK297.out 0).trans rfl, (bc BK297.out 1).trans rfl, (bc BK297.out 2).trans rfl, (bc BK297.out 3).trans rfl, (bc BK297.out 4).trans rfl⟩ (fun hHeld => ?_)
       clear hK K
       refine norm_ (a' := ?_) ?_ ?_
       rotate_left
       ·show Act.put _ (some 32) _ = _
        simp only [Act.put, sA, sZ, sS, i64_w, i32_w]
        rfl
       refine pI 8 (some 33) b10A9 HT_ ?_
       refine pI 9 (some 34) b10A10 HT_ ?_
       refine pI 10 (some 35) b10A11 HT_ ?_
       refine pI 11 (some 36) b10A12 HT_ ?_
       refine tI 12 (some 37) b10A13 HT_ HW_ hHeld rfl rfl (Or.inl ⟨by rfl, by rintro w' ⟨s0, s1, s2, s3, s4⟩; go_simp; with_reducible rfl⟩) ?_
       refine one_ (i := 13) (N := some 38) b10A14 rfl rfl (one_of HT_.out (by kernel_rfl)) (by decide) (fun K hK => ?_)
       refine goes_ Try.func138 (by kernel_rfl) rfl #[.int .i64 ((rd_T138 l0 x4_1).f2), .int .i64 0, .int .i64 999] (by rfl) rfl rfl M0 ?_
       with_reducible refine (spec_l1In.calls ((rd_T138 l0 x4_1).f2) 0 999 true _ A16.out).mono ?_
       rintro e w' ⟨rfl, ⟨nd, rfl⟩⟩
       refine ⟨_, rfl, ?_⟩
       refine hK.out _ _ ⟨(bc BK297.out 0).trans rfl, (bc BK297.out 1).trans rfl, (bc BK297.out 2).trans rfl, (bc BK297.out 3).trans rfl, (bc BK297.out 4).trans rfl⟩ (fun hHeld => ?_)
       clear hK K
       refine norm_ (a' := ?_) ?_ ?_
       rotate_left
       ·show Act.put _ (some 38) _ = _
        simp only [Act.put, sA, sZ, sS, i64_w, i32_w]
        rfl
       refine pI 14 (some 39) b10A15 HT_ ?_
       refine pI 15 (some 40) b10A16 HT_ ?_
       refine pI 16 (some 41) b10A17 HT_ ?_
       refine pI 17 (some 42) b10A18 HT_ ?_
       refine tI 18 (some 43) b10A19 HT_ HW_ hHeld rfl rfl (Or.inl ⟨by rfl, by rintro w' ⟨s0, s1, s2, s3, s4⟩; go_simp; with_reducible rfl⟩) ?_
       refine one_ (i := 19) (N := some 44) b10A20 rfl rfl (one_of HT_.out (by kernel_rfl)) (by decide) (fun K hK => ?_)
       refine goes_ Try.func138 (by kernel_rfl) rfl #[.int .i64 ((rd_T138 l0 x4_1).f3), .int .i64 0, .int .i64 100000] (by rfl) rfl rfl M0 ?_
       with_reducible refine (spec_l1In.calls ((rd_T138 l0 x4_1).f3) 0 100000 false _ A18.out).mono ?_
       rintro e w' ⟨rfl, ⟨nd, rfl⟩⟩
       refine ⟨_, rfl, ?_⟩
       refine hK.out _ _ ⟨(bc BK297.out 0).trans rfl, (bc BK297.out 1).trans rfl, (bc BK297.out 2).trans rfl, (bc BK297.out 3).trans rfl, (bc BK297.out 4).trans rfl⟩ (fun hHeld => ?_)
       clear hK K
       refine norm_ (a' := ?_) ?_ ?_
       rotate_left
       ·show Act.put _ (some 44) _ = _
        simp only [Act.put, sA, sZ, sS, i64_w, i32_w]
        rfl
       refine pI 20 (some 45) b10A21 HT_ ?_
       refine pI 21 (some 46) b10A22 HT_ ?_
       refine pI 22 (some 47) b10A23 HT_ ?_
       refine pU 23 (some 48) b10A24 HT_ ?_
       refine pU 24 (some 49) b10A45 HT_ ?_
       refine pU 25 (some 50) b10A26 HT_ ?_
       refine pU 26 (some 51) b10A27 HT_ ?_
       refine pI 27 (some 52) b10A28 HT_ ?_
       refine pI 28 (some 53) b10A29 HT_ ?_
       refine pU 29 (some 54) b10A30 HT_ ?_
       refine pU 30 (some 55) b10A31 HT_ ?_
       refine pU 31 (some 56) b10A32 HT_ ?_
       refine pU 32 (some 57) b10A33 HT_ ?_
       refine pU 33 (some 58) b10A34 HT_ ?_
       refine pU 34 (some 59) b10A35 HT_ ?_
       refine pU 35 (some 60) b10A36 HT_ ?_
       refine pU 36 (some 61) b10A37 HT_ ?_
       refine pU 37 (some 62) b10A44 HT_ ?_
       refine pU 38 (some 63) b10A39 HT_ ?_
       refine pU 39 (some 64) b10A40 HT_ ?_
       refine pU 40 (some 65) b10A41 HT_ ?_
       refine pU 41 (some 66) b10A42 HT_ ?_
       refine pI 42 (some 67) b10A43 HT_ ?_
       refine done_ (done_of HT_.out (by kernel_rfl)) ?_
       try go_wp2
       go_meet
       case rel => exact ⟨_, (true), M3, H', ⟨by have := HK1.out; have := HJ1.out; first | omega | exact Nat.le_refl _⟩, ⟨by exact qK BK297.out⟩, ⟨by repeat (first | (with_reducible first | exact HB.out | apply bA | apply bN | apply b1 | refine bS ?_ GE297.out) | exact HB.out)⟩⟩
      subst c19
      have H1 : (if ((rd_T138 l0 x4_1).f4) = t298 then (if x4_1 > 0 then (if 0 ≤ (wrap64 (x4_1 - 1)) then (if (wrap64 (x4_1 - 1)) < (l0.length : Int) then (spec_IsChain.j2 kj1 l0 t298 x4_1 (decide (((rd_T138 l0 (wrap64 (x4_1 - 1))).f3) > ((rd_T138 l0 x4_1).f3))) ((rd_T138 l0 x4_1).f0) ((rd_T138 l0 x4_1).f1) ((rd_T138 l0 x4_1).f2) ((rd_T138 l0 x4_1).f3) ((rd_T138 l0 x4_1).f4)) else (none)) else (none)) else (spec_IsChain.j2 kj1 l0 t298 x4_1 false ((rd_T138 l0 x4_1).f0) ((rd_T138 l0 x4_1).f1) ((rd_T138 l0 x4_1).f2) ((rd_T138 l0 x4_1).f3) ((rd_T138 l0 x4_1).f4))) else (spec_IsChain.j2 kj1 l0 t298 x4_1 true ((rd_T138 l0 x4_1).f0) ((rd_T138 l0 x4_1).f1) ((rd_T138 l0 x4_1).f2) ((rd_T138 l0 x4_1).f3) ((rd_T138 l0 x4_1).f4))) = some r := by rw [if_pos rfl] at H; exact H
      clear H
      have H := H1
      clear H1
      by_cases c20 : ((rd_T138 l0 x4_1).f4) = t298
      rotate_left
      ·rw [if_neg c20] at H
       have c20b0 : (((rd_T138 l0 x4_1).f4) == t298) = false := beq_eq_false_iff_ne.mpr c20
       have c20b1 : (((rd_T138 l0 x4_1).f4) != t298) = true := bne_iff_ne.mpr c20
       (first | rw [c20b0] | rw [c20b1] | (simp only [i64_w, i32_w]; rw [c20b0]) | skip)
       have H' := zK H
       clear H
       try go_wp2
       have n0_ := zK (kD BK297.out)
       have n1_ := zK (b1 HB.out)
       clear BK297
       clear HB
       have BK297 := n0_
       have HB := n1_
       clear n0_ n1_
       refine start_ (n := 43) (S := fun w' => w'.cell? ⟨gb297, 0, none⟩ = some (.int .i64 ((rd_T138 l0 x4_1).f0)) ∧ w'.cell? ⟨gb297, 1, none⟩ = some (.int .i64 ((rd_T138 l0 x4_1).f1)) ∧ w'.cell? ⟨gb297, 2, none⟩ = some (.int .i64 ((rd_T138 l0 x4_1).f2)) ∧ w'.cell? ⟨gb297, 3, none⟩ = some (.int .i64 ((rd_T138 l0 x4_1).f3)) ∧ w'.cell? ⟨gb297, 4, none⟩ = some (.int .i64 ((rd_T138 l0 x4_1).f4))) (ds := []) b10A0 (by kernel_rfl) rfl rfl ⟨(bc BK297.out 0).trans rfl, (bc BK297.out 1).trans rfl, (bc BK297.out 2).trans rfl, (bc BK297.out 3).trans rfl, (bc BK297.out 4).trans rfl⟩ (fun hHeld => ?_); refine with_tabW spec_IsChain.tab7 spec_IsChain.bits7 (fun HT_ HW_ => ?_)
       generalize w11.drew = w27 at BK297 HB hHeld ⊢
       refine pI 0 (some 25) b10A1 HT_ ?_
       refine tI 1 (some 26) b10A2 HT_ HW_ hHeld rfl rfl (Or.inl ⟨by rfl, by rintro w' ⟨s0, s1, s2, s3, s4⟩; go_simp; with_reducible rfl⟩) ?_
       refine one_ (i := 2) (N := some 27) b10A3 rfl rfl (one_of HT_.out (by kernel_rfl)) (by decide) (fun K hK => ?_)
       refine goes_ Try.func138 (by kernel_rfl) rfl #[.int .i64 ((rd_T138 l0 x4_1).f0), .int .i64 1, .int .i64 999] (by rfl) rfl rfl M0 ?_
       with_reducible refine (spec_l1In.calls ((rd_T138 l0 x4_1).f0) 1 999 true _ A12.out).mono ?_
       rintro e w' ⟨rfl, ⟨nd, rfl⟩⟩
       refine ⟨_, rfl, ?_⟩
       refine hK.out _ _ ⟨(bc BK297.out 0).trans rfl, (bc BK297.out 1).trans rfl, (bc BK297.out 2).trans rfl, (bc BK297.out 3).trans rfl, (bc BK297.out 4).trans rfl⟩ (fun hHeld => ?_)
       clear hK K
       refine norm_ (a' := ?_) ?_ ?_
       rotate_left
       ·show Act.put _ (some 27) _ = _
        simp only [Act.put, sA, sZ, sS, i64_w, i32_w]
        rfl
       refine pI 3 (some 28) b10A4 HT_ ?_
       refine pI 4 (some 29) b10A5 HT_ ?_
       refine pI 5 (some 30) b10A6 HT_ ?_
       refine tI 6 (some 31) b10A7 HT_ HW_ hHeld rfl rfl (Or.inl ⟨by rfl, by rintro w' ⟨s0, s1, s2, s3, s4⟩; go_simp; with_reducible rfl⟩) ?_
       refine one_ (i := 7) (N := some 32) b10A8 rfl rfl (one_of HT_.out (by kernel_rfl)) (by decide) (fun K hK => ?_)
       refine goes_ Try.func138 (by kernel_rfl) rfl #[.int .i64 ((rd_T138 l0 x4_1).f1), .int .i64 1, .int .i64 5] (by rfl) rfl rfl M0 ?_
       with_reducible refine (spec_l1In.calls ((rd_T138 l0 x4_1).f1) 1 5 true _ A14.out).mono ?_
       rintro e w' ⟨rfl, ⟨nd, rfl⟩⟩
       refine ⟨_, rfl, ?_⟩
       refine hK.out _ _ ⟨(bc BK297.out 0).trans rfl, (bc BK297.out 1).trans rfl, (bc BK297.out 2).trans rfl, (bc BK297.out 3).trans rfl, (bc BK297.out 4).trans rfl⟩ (fun hHeld => ?_)
       clear hK K
       refine norm_ (a' := ?_) ?_ ?_
       rotate_left
       ·show Act.put _ (some 32) _ = _
        simp only [Act.put, sA, sZ, sS, i64_w, i32_w]
        rfl
       refine pI 8 (some 33) b10A9 HT_ ?_
       refine pI 9 (some 34) b10A10 HT_ ?_
       refine pI 10 (some 35) b10A11 HT_ ?_
       refine pI 11 (some 36) b10A12 HT_ ?_
       refine tI 12 (some 37) b10A13 HT_ HW_ hHeld rfl rfl (Or.inl ⟨by rfl, by rintro w' ⟨s0, s1, s2, s3, s4⟩; go_simp; with_reducible rfl⟩) ?_
       refine one_ (i := 13) (N := some 38) b10A14 rfl rfl (one_of HT_.out (by kernel_rfl)) (by decide) (fun K hK => ?_)
       refine goes_ Try.func138 (by kernel_rfl) rfl #[.int .i64 ((rd_T138 l0 x4_1).f2), .int .i64 0, .int .i64 999] (by rfl) rfl rfl M0 ?_
       with_reducible refine (spec_l1In.calls ((rd_T138 l0 x4_1).f2) 0 999 true _ A16.out).mono ?_
       rintro e w' ⟨rfl, ⟨nd, rfl⟩⟩
       refine ⟨_, rfl, ?_⟩
       refine hK.out _ _ ⟨(bc BK297.out 0).trans rfl, (bc BK297.out 1).trans rfl, (bc BK297.out 2).trans rfl, (bc BK297.out 3).trans rfl, (bc BK297.out 4).trans rfl⟩ (fun hHeld => ?_)
       clear hK K
       refine norm_ (a' := ?_) ?_ ?_
       rotate_left
       ·show Act.put _ (some 38) _ = _
        simp only [Act.put, sA, sZ, sS, i64_w, i32_w]
        rfl
       refine pI 14 (some 39) b10A15 HT_ ?_
       refine pI 15 (some 40) b10A16 HT_ ?_
       refine pI 16 (some 41) b10A17 HT_ ?_
       refine pI 17 (some 42) b10A18 HT_ ?_
       refine tI 18 (some 43) b10A19 HT_ HW_ hHeld rfl rfl (Or.inl ⟨by rfl, by rintro w' ⟨s0, s1, s2, s3, s4⟩; go_simp; with_reducible rfl⟩) ?_
       refine one_ (i := 19) (N := some 44) b10A20 rfl rfl (one_of HT_.out (by kernel_rfl)) (by decide) (fun K hK => ?_)
       refine goes_ Try.func138 (by kernel_rfl) rfl #[.int .i64 ((rd_T138 l0 x4_1).f3), .int .i64 0, .int .i64 100000] (by rfl) rfl rfl M0 ?_
       with_reducible refine (spec_l1In.calls ((rd_T138 l0 x4_1).f3) 0 100000 true _ A18.out).mono ?_
       rintro e w' ⟨rfl, ⟨nd, rfl⟩⟩
       refine ⟨_, rfl, ?_⟩
       refine hK.out _ _ ⟨(bc BK297.out 0).trans rfl, (bc BK297.out 1).trans rfl, (bc BK297.out 2).trans rfl, (bc BK297.out 3).trans rfl, (bc BK297.out 4).trans rfl⟩ (fun hHeld => ?_)
       clear hK K
       refine norm_ (a' := ?_) ?_ ?_
       rotate_left
       ·show Act.put _ (some 44) _ = _
        simp only [Act.put, sA, sZ, sS, i64_w, i32_w]
        rfl
       refine pI 20 (some 45) b10A21 HT_ ?_
       refine pI 21 (some 46) b10A22 HT_ ?_
       refine pI 22 (some 47) b10A23 HT_ ?_
       refine pI 23 (some 48) b10A24 HT_ ?_
       refine pI 25 (some 50) b10A25 HT_ ?_
       refine tI 24 (some 49) b10A26 HT_ HW_ hHeld rfl rfl (Or.inl ⟨by rfl, by rintro w' ⟨s0, s1, s2, s3, s4⟩; go_simp; with_reducible rfl⟩) ?_
       refine pI 26 (some 51) b10A27 HT_ ?_
       refine pI 27 (some 52) b10A28 HT_ ?_
       refine pI 28 (some 53) b10A29 HT_ ?_
       refine pU 29 (some 54) b10A30 HT_ ?_
       refine pU 30 (some 55) b10A31 HT_ ?_
       refine pU 31 (some 56) b10A32 HT_ ?_
       refine pU 32 (some 57) b10A33 HT_ ?_
       refine pU 33 (some 58) b10A34 HT_ ?_
       refine pU 34 (some 59) b10A35 HT_ ?_
       refine pU 35 (some 60) b10A36 HT_ ?_
       refine pU 36 (some 61) b10A37 HT_ ?_
       refine pU 37 (some 62) b10A44 HT_ ?_
       refine pU 38 (some 63) b10A39 HT_ ?_
       refine pU 39 (some 64) b10A40 HT_ ?_
       refine pU 40 (some 65) b10A41 HT_ ?_
       refine pU 41 (some 66) b10A42 HT_ ?_
       refine pI 42 (some 67) b10A43 HT_ ?_
       refine done_ (done_of HT_.out (by kernel_rfl)) ?_
       try go_wp2
       go_meet
       case rel => exact ⟨_, (true), M3, H', ⟨by have := HK1.out; have := HJ1.out; first | omega | exact Nat.le_refl _⟩, ⟨by exact qK BK297.out⟩, ⟨by repeat (first | (with_reducible first | exact HB.out | apply bA | apply bN | apply b1 | refine bS ?_ GE297.out) | exact HB.out)⟩⟩
      rw [if_pos c20] at H
      have c20b0 : (((rd_T138 l0 x4_1).f4) == t298) = true := beq_iff_eq.mpr c20
      have c20b1 : (((rd_T138 l0 x4_1).f4) != t298) = false := bne_eq_false_iff_eq.mpr c20
      clear c20
      (first | rw [c20b0] | rw [c20b1] | (simp only [i64_w, i32_w]; rw [c20b0]) | skip)
      by_cases c21 : x4_1 > 0
      rotate_left
      ·rw [if_neg c21] at H
       have c21b0 : decide (0 < x4_1) = false := decide_eq_false c21
       clear c21
       have H' := zK H
       clear H
       try go_wp2
       have n0_ := zK (kD BK297.out)
       have n1_ := zK (b1 HB.out)
       clear BK297
       clear HB
       have BK297 := n0_
       have HB := n1_
       clear n0_ n1_
       refine start_ (n := 43) (S := fun w' => w'.cell? ⟨gb297, 0, none⟩ = some (.int .i64 ((rd_T138 l0 x4_1).f0)) ∧ w'.cell? ⟨gb297, 1, none⟩ = some (.int .i64 ((rd_T138 l0 x4_1).f1)) ∧ w'.cell? ⟨gb297, 2, none⟩ = some (.int .i64 ((rd_T138 l0 x4_1).f2)) ∧ w'.cell? ⟨gb297, 3, none⟩ = some (.int .i64 ((rd_T138 l0 x4_1).f3)) ∧ w'.cell? ⟨gb297, 4, none⟩ = some (.int .i64 ((rd_T138 l0 x4_1).f4))) (ds := []) b10A0 (by kernel_rfl) rfl rfl ⟨(bc BK297.out 0).trans rfl, (bc BK297.out 1).trans rfl, (bc BK297.out 2).trans rfl, (bc BK297.out 3).trans rfl, (bc BK297.out 4).trans rfl⟩ (fun hHeld => ?_); refine with_tabW spec_IsChain.tab7 spec_IsChain.bits7 (fun HT_ HW_ => ?_)
       generalize w11.drew = w26 at BK297 HB hHeld ⊢
       refine pI 0 (some 25) b10A1 HT_ ?_
       refine tI 1 (some 26) b10A2 HT_ HW_ hHeld rfl rfl (Or.inl ⟨by rfl, by rintro w' ⟨s0, s1, s2, s3, s4⟩; go_simp; with_reducible rfl⟩) ?_
       refine one_ (i := 2) (N := some 27) b10A3 rfl rfl (one_of HT_.out (by kernel_rfl)) (by decide) (fun K hK => ?_)
       refine goes_ Try.func138 (by kernel_rfl) rfl #[.int .i64 ((rd_T138 l0 x4_1).f0), .int .i64 1, .int .i64 999] (by rfl) rfl rfl M0 ?_
       with_reducible refine (spec_l1In.calls ((rd_T138 l0 x4_1).f0) 1 999 true _ A12.out).mono ?_
       rintro e w' ⟨rfl, ⟨nd, rfl⟩⟩
       refine ⟨_, rfl, ?_⟩
       refine hK.out _ _ ⟨(bc BK297.out 0).trans rfl, (bc BK297.out 1).trans rfl, (bc BK297.out 2).trans rfl, (bc BK297.out 3).trans rfl, (bc BK297.out 4).trans rfl⟩ (fun hHeld => ?_)
       clear hK K
       refine norm_ (a' := ?_) ?_ ?_
       rotate_left
       ·show Act.put _ (some 27) _ = _
        simp only [Act.put, sA, sZ, sS, i64_w, i32_w]
        rfl
       refine pI 3 (some 28) b10A4 HT_ ?_
       refine pI 4 (some 29) b10A5 HT_ ?_
       refine pI 5 (some 30) b10A6 HT_ ?_
       refine tI 6 (some 31) b10A7 HT_ HW_ hHeld rfl rfl (Or.inl ⟨by rfl, by rintro w' ⟨s0, s1, s2, s3, s4⟩; go_simp; with_reducible rfl⟩) ?_
       refine one_ (i := 7) (N := some 32) b10A8 rfl rfl (one_of HT_.out (by kernel_rfl)) (by decide) (fun K hK => ?_)
       refine goes_ Try.func138 (by kernel_rfl) rfl #[.int .i64 ((rd_T138 l0 x4_1).f1), .int .i64 1, .int .i64 5] (by rfl) rfl rfl M0 ?_
       with_reducible refine (spec_l1In.calls ((rd_T138 l0 x4_1).f1) 1 5 true _ A14.out).mono ?_
       rintro e w' ⟨rfl, ⟨nd, rfl⟩⟩
       refine ⟨_, rfl, ?_⟩
       refine hK.out _ _ ⟨(bc BK297.out 0).trans rfl, (bc BK297.out 1).trans rfl, (bc BK297.out 2).trans rfl, (bc BK297.out 3).trans rfl, (bc BK297.out 4).trans rfl⟩ (fun hHeld => ?_)
       clear hK K
       refine norm_ (a' := ?_) ?_ ?_
       rotate_left
       ·show Act.put _ (some 32) _ = _
        simp only [Act.put, sA, sZ, sS, i64_w, i32_w]
        rfl
       refine pI 8 (some 33) b10A9 HT_ ?_
       refine pI 9 (some 34) b10A10 HT_ ?_
       refine pI 10 (some 35) b10A11 HT_ ?_
       refine pI 11 (some 36) b10A12 HT_ ?_
       refine tI 12 (some 37) b10A13 HT_ HW_ hHeld rfl rfl (Or.inl ⟨by rfl, by rintro w' ⟨s0, s1, s2, s3, s4⟩; go_simp; with_reducible rfl⟩) ?_
       refine one_ (i := 13) (N := some 38) b10A14 rfl rfl (one_of HT_.out (by kernel_rfl)) (by decide) (fun K hK => ?_)
       refine goes_ Try.func138 (by kernel_rfl) rfl #[.int .i64 ((rd_T138 l0 x4_1).f2), .int .i64 0, .int .i64 999] (by rfl) rfl rfl M0 ?_
       with_reducible refine (spec_l1In.calls ((rd_T138 l0 x4_1).f2) 0 999 true _ A16.out).mono ?_
       rintro e w' ⟨rfl, ⟨nd, rfl⟩⟩
       refine ⟨_, rfl, ?_⟩
       refine hK.out _ _ ⟨(bc BK297.out 0).trans rfl, (bc BK297.out 1).trans rfl, (bc BK297.out 2).trans rfl, (bc BK297.out 3).trans rfl, (bc BK297.out 4).trans rfl⟩ (fun hHeld => ?_)
       clear hK K
       refine norm_ (a' := ?_) ?_ ?_
       rotate_left
       ·show Act.put _ (some 38) _ = _
        simp only [Act.put, sA, sZ, sS, i64_w, i32_w]
        rfl
       refine pI 14 (some 39) b10A15 HT_ ?_
       refine pI 15 (some 40) b10A16 HT_ ?_
       refine pI 16 (some 41) b10A17 HT_ ?_
       refine pI 17 (some 42) b10A18 HT_ ?_
       refine tI 18 (some 43) b10A19 HT_ HW_ hHeld rfl rfl (Or.inl ⟨by rfl, by rintro w' ⟨s0, s1, s2, s3, s4⟩; go_simp; with_reducible rfl⟩) ?_
       refine one_ (i := 19) (N := some 44) b10A20 rfl rfl (one_of HT_.out (by kernel_rfl)) (by decide) (fun K hK => ?_)
       refine goes_ Try.func138 (by kernel_rfl) rfl #[.int .i64 ((rd_T138 l0 x4_1).f3), .int .i64 0, .int .i64 100000] (by rfl) rfl rfl M0 ?_
       with_reducible refine (spec_l1In.calls ((rd_T138 l0 x4_1).f3) 0 100000 true _ A18.out).mono ?_
       rintro e w' ⟨rfl, ⟨nd, rfl⟩⟩
       refine ⟨_, rfl, ?_⟩
       refine hK.out _ _ ⟨(bc BK297.out 0).trans rfl, (bc BK297.out 1).trans rfl, (bc BK297.out 2).trans rfl, (bc BK297.out 3).trans rfl, (bc BK297.out 4).trans rfl⟩ (fun hHeld => ?_)
       clear hK K
       refine norm_ (a' := ?_) ?_ ?_
       rotate_left
       ·show Act.put _ (some 44) _ = _
        simp only [Act.put, sA, sZ, sS, i64_w, i32_w]
        rfl
       refine pI 20 (some 45) b10A21 HT_ ?_
       refine pI 21 (some 46) b10A22 HT_ ?_
       refine pI 22 (some 47) b10A23 HT_ ?_
       refine pI 23 (some 48) b10A24 HT_ ?_
       refine pI 25 (some 50) b10A25 HT_ ?_
       refine tI 24 (some 49) b10A26 HT_ HW_ hHeld rfl rfl (Or.inl ⟨by rfl, by rintro w' ⟨s0, s1, s2, s3, s4⟩; go_simp; with_reducible rfl⟩) ?_
       refine pI 26 (some 51) b10A27 HT_ ?_
       refine pI 27 (some 52) b10A28 HT_ ?_
       refine pI 28 (some 53) b10A29 HT_ ?_
       refine pI 29 (some 54) b10A30 HT_ ?_
       refine pI 30 (some 55) b10A31 HT_ ?_
       refine pI 31 (some 56) b10A32 HT_ ?_
       refine pU 32 (some 57) b10A33 HT_ ?_
       refine pU 33 (some 58) b10A34 HT_ ?_
       refine pU 34 (some 59) b10A35 HT_ ?_
       refine pU 35 (some 60) b10A36 HT_ ?_
       refine pU 36 (some 61) b10A37 HT_ ?_
       refine pU 37 (some 62) b10A44 HT_ ?_
       refine pU 38 (some 63) b10A39 HT_ ?_
       refine pU 39 (some 64) b10A40 HT_ ?_
       refine pU 40 (some 65) b10A41 HT_ ?_
       refine pI 41 (some 66) b10A42 HT_ ?_
       refine pI 42 (some 67) b10A43 HT_ ?_
       refine done_ (done_of HT_.out (by kernel_rfl)) ?_
       try go_wp2
       go_meet
       case rel => exact ⟨_, (false), M3, H', ⟨by have := HK1.out; have := HJ1.out; first | omega | exact Nat.le_refl _⟩, ⟨by exact qK BK297.out⟩, ⟨by repeat (first | (with_reducible first | exact HB.out | apply bA | apply bN | apply b1 | refine bS ?_ GE297.out) | exact HB.out)⟩⟩
      rw [if_pos c21] at H
      have c21b0 : decide (0 < x4_1) = true := decide_eq_true c21
      clear c21
      obtain ⟨ji22, hji22⟩ : ∃ j_ : Int, (wrap64 (x4_1 - 1)) = j_ := ⟨_, rfl⟩
      replace H : (if 0 ≤ (ji22) then (if (ji22) < (l0.length : Int) then (spec_IsChain.j2 kj1 l0 t298 x4_1 (decide (((rd_T138 l0 (ji22)).f3) > ((rd_T138 l0 x4_1).f3))) ((rd_T138 l0 x4_1).f0) ((rd_T138 l0 x4_1).f1) ((rd_T138 l0 x4_1).f2) ((rd_T138 l0 x4_1).f3) ((rd_T138 l0 x4_1).f4)) else (none)) else (none)) = some r := by first | (rw [hji22] at H; exact H) | (simp only [hji22] at H ⊢; exact H)
      (try rw [hji22] at A12)
      (try rw [hji22] at A14)
      (try rw [hji22] at A16)
      (try rw [hji22] at A18)
      have hji22w : (IntKind.i64.wrap (x4_1 - 1)) = ji22 := (i64_w _).trans hji22
      by_cases c23 : 0 ≤ (ji22)
      rotate_left
      ·rw [if_neg c23] at H
       exact absurd H (by simp)
      rw [if_pos c23] at H
      have c23b0 : decide (0 ≤ (ji22)) = true := decide_eq_true c23
      clear c23
      by_cases c24 : (ji22) < (l0.length : Int)
      rotate_left
      ·rw [if_neg c24] at H
       exact absurd H (by simp)
      rw [if_pos c24] at H
      have c24b0 : decide ((ji22) < (l0.length : Int)) = true := decide_eq_true c24
      clear c24
      have H' := zK H
      clear H
      try go_wp2
      have n0_ := zK (kD BK297.out)
      have n1_ := zK (b1 HB.out)
      clear BK297
      clear HB
      have BK297 := n0_
      have HB := n1_
      clear n0_ n1_
      have p303 : 0 ≤ ((ji22) : Int) := oD M1
      have q303 : (ji22) < (l0.length : Int) := oD M1
      obtain ⟨ad303, e303, hx303_0, hx303_1, hx303_2, hx303_3, hx303_4⟩ := at_T138 HR0.out (ji22) p303 q303
      have hw303_4 := hx303_4
      have hw303_3 := hx303_3
      have hw303_2 := hx303_2
      have hw303_1 := hx303_1
      have hw303_0 := hx303_0
      obtain rfl : ad296 = ad303 := (by injection e303)
      replace hx303_0 := (HB.out.cell (bL w hx303_0)).trans hx303_0
      replace hx303_1 := (HB.out.cell (bL w hx303_1)).trans hx303_1
      replace hx303_2 := (HB.out.cell (bL w hx303_2)).trans hx303_2
      replace hx303_3 := (HB.out.cell (bL w hx303_3)).trans hx303_3
      replace hx303_4 := (HB.out.cell (bL w hx303_4)).trans hx303_4
      replace p303 := eq_true p303
      replace q303 := eq_true q303
      refine start_ (n := 43) (S := fun w' => w'.cell? ⟨gb297, 0, none⟩ = some (.int .i64 ((rd_T138 l0 x4_1).f0)) ∧ w'.cell? ⟨gb297, 1, none⟩ = some (.int .i64 ((rd_T138 l0 x4_1).f1)) ∧ w'.cell? ⟨gb297, 2, none⟩ = some (.int .i64 ((rd_T138 l0 x4_1).f2)) ∧ w'.cell? ⟨gb297, 3, none⟩ = some (.int .i64 ((rd_T138 l0 x4_1).f3)) ∧ w'.cell? ⟨gb297, 4, none⟩ = some (.int .i64 ((rd_T138 l0 x4_1).f4)) ∧ w'.cell? (ad296.add (((ji22)).toNat * 5)) = some (.int .i64 ((rd_T138 l0 (ji22)).f0)) ∧ w'.cell? ⟨(ad296.add (((ji22)).toNat * 5)).block, (ad296.add (((ji22)).toNat * 5)).off + 1, none⟩ = some (.int .i64 ((rd_T138 l0 (ji22)).f1)) ∧ w'.cell? ⟨(ad296.add (((ji22)).toNat * 5)).block, (ad296.add (((ji22)).toNat * 5)).off + 2, none⟩ = some (.int .i64 ((rd_T138 l0 (ji22)).f2)) ∧ w'.cell? ⟨(ad296.add (((ji22)).toNat * 5)).block, (ad296.add (((ji22)).toNat * 5)).off + 3, none⟩ = some (.int .i64 ((rd_T138 l0 (ji22)).f3)) ∧ w'.cell? ⟨(ad296.add (((ji22)).toNat * 5)).block, (ad296.add (((ji22)).toNat * 5)).off + 4, none⟩ = some (.int .i64 ((rd_T138 l0 (ji22)).f4))) (ds := []) b10A0 (by kernel_rfl) rfl rfl ⟨(bc BK297.out 0).trans rfl, (bc BK297.out 1).trans rfl, (bc BK297.out 2).trans rfl, (bc BK297.out 3).trans rfl, (bc BK297.out 4).trans rfl, ((HB.out.cell (bL w hw303_0)).trans hw303_0), ((HB.out.cell (bL w hw303_1)).trans hw303_1), ((HB.out.cell (bL w hw303_2)).trans hw303_2), ((HB.out.cell (bL w hw303_3)).trans hw303_3), ((HB.out.cell (bL w hw303_4)).trans hw303_4)⟩ (fun hHeld => ?_); refine with_tabW spec_IsChain.tab7 spec_IsChain.bits7 (fun HT_ HW_ => ?_)
      generalize w11.drew = w25 at BK297 HB hx303_0 hx303_1 hx303_2 hx303_3 hx303_4 hHeld ⊢
      refine pI 0 (some 25) b10A1 HT_ ?_
      refine tI 1 (some 26) b10A2 HT_ HW_ hHeld rfl rfl (Or.inl ⟨by rfl, by rintro w' ⟨s0, s1, s2, s3, s4, s5, s6, s7, s8, s9⟩; go_simp; with_reducible rfl⟩) ?_
      refine one_ (i := 2) (N := some 27) b10A3 rfl rfl (one_of HT_.out (by kernel_rfl)) (by decide) (fun K hK => ?_)
      refine goes_ Try.func138 (by kernel_rfl) rfl #[.int .i64 ((rd_T138 l0 x4_1).f0), .int .i64 1, .int .i64 999] (by rfl) rfl rfl M0 ?_
      with_reducible refine (spec_l1In.calls ((rd_T138 l0 x4_1).f0) 1 999 true _ A12.out).mono ?_
      rintro e w' ⟨rfl, ⟨nd, rfl⟩⟩
      refine ⟨_, rfl, ?_⟩
      refine hK.out _ _ ⟨(bc BK297.out 0).trans rfl, (bc BK297.out 1).trans rfl, (bc BK297.out 2).trans rfl, (bc BK297.out 3).trans rfl, (bc BK297.out 4).trans rfl, ((HB.out.cell (bL w hw303_0)).trans hw303_0), ((HB.out.cell (bL w hw303_1)).trans hw303_1), ((HB.out.cell (bL w hw303_2)).trans hw303_2), ((HB.out.cell (bL w hw303_3)).trans hw303_3), ((HB.out.cell (bL w hw303_4)).trans hw303_4)⟩ (fun hHeld => ?_)
      clear hK K
      refine norm_ (a' := ?_) ?_ ?_
      rotate_left
      ·show Act.put _ (some 27) _ = _
       simp only [Act.put, sA, sZ, sS, i64_w, i32_w]
       rfl
      refine pI 3 (some 28) b10A4 HT_ ?_
      refine pI 4 (some 29) b10A5 HT_ ?_
      refine pI 5 (some 30) b10A6 HT_ ?_
      refine tI 6 (some 31) b10A7 HT_ HW_ hHeld rfl rfl (Or.inl ⟨by rfl, by rintro w' ⟨s0, s1, s2, s3, s4, s5, s6, s7, s8, s9⟩; go_simp; with_reducible rfl⟩) ?_
      refine one_ (i := 7) (N := some 32) b10A8 rfl rfl (one_of HT_.out (by kernel_rfl)) (by decide) (fun K hK => ?_)
      refine goes_ Try.func138 (by kernel_rfl) rfl #[.int .i64 ((rd_T138 l0 x4_1).f1), .int .i64 1, .int .i64 5] (by rfl) rfl rfl M0 ?_
      with_reducible refine (spec_l1In.calls ((rd_T138 l0 x4_1).f1) 1 5 true _ A14.out).mono ?_
      rintro e w' ⟨rfl, ⟨nd, rfl⟩⟩
      refine ⟨_, rfl, ?_⟩
      refine hK.out _ _ ⟨(bc BK297.out 0).trans rfl, (bc BK297.out 1).trans rfl, (bc BK297.out 2).trans rfl, (bc BK297.out 3).trans rfl, (bc BK297.out 4).trans rfl, ((HB.out.cell (bL w hw303_0)).trans hw303_0), ((HB.out.cell (bL w hw303_1)).trans hw303_1), ((HB.out.cell (bL w hw303_2)).trans hw303_2), ((HB.out.cell (bL w hw303_3)).trans hw303_3), ((HB.out.cell (bL w hw303_4)).trans hw303_4)⟩ (fun hHeld => ?_)
      clear hK K
      refine norm_ (a' := ?_) ?_ ?_
      rotate_left
      ·show Act.put _ (some 32) _ = _
       simp only [Act.put, sA, sZ, sS, i64_w, i32_w]
       rfl
      refine pI 8 (some 33) b10A9 HT_ ?_
      refine pI 9 (some 34) b10A10 HT_ ?_
      refine pI 10 (some 35) b10A11 HT_ ?_
      refine pI 11 (some 36) b10A12 HT_ ?_
      refine tI 12 (some 37) b10A13 HT_ HW_ hHeld rfl rfl (Or.inl ⟨by rfl, by rintro w' ⟨s0, s1, s2, s3, s4, s5, s6, s7, s8, s9⟩; go_simp; with_reducible rfl⟩) ?_
      refine one_ (i := 13) (N := some 38) b10A14 rfl rfl (one_of HT_.out (by kernel_rfl)) (by decide) (fun K hK => ?_)
      refine goes_ Try.func138 (by kernel_rfl) rfl #[.int .i64 ((rd_T138 l0 x4_1).f2), .int .i64 0, .int .i64 999] (by rfl) rfl rfl M0 ?_
      with_reducible refine (spec_l1In.calls ((rd_T138 l0 x4_1).f2) 0 999 true _ A16.out).mono ?_
      rintro e w' ⟨rfl, ⟨nd, rfl⟩⟩
      refine ⟨_, rfl, ?_⟩
      refine hK.out _ _ ⟨(bc BK297.out 0).trans rfl, (bc BK297.out 1).trans rfl, (bc BK297.out 2).trans rfl, (bc BK297.out 3).trans rfl, (bc BK297.out 4).trans rfl, ((HB.out.cell (bL w hw303_0)).trans hw303_0), ((HB.out.cell (bL w hw303_1)).trans hw303_1), ((HB.out.cell (bL w hw303_2)).trans hw303_2), ((HB.out.cell (bL w hw303_3)).trans hw303_3), ((HB.out.cell (bL w hw303_4)).trans hw303_4)⟩ (fun hHeld => ?_)
      clear hK K
      refine norm_ (a' := ?_) ?_ ?_
      rotate_left
      ·show Act.put _ (some 38) _ = _
       simp only [Act.put, sA, sZ, sS, i64_w, i32_w]
       rfl
      refine pI 14 (some 39) b10A15 HT_ ?_
      refine pI 15 (some 40) b10A16 HT_ ?_
      refine pI 16 (some 41) b10A17 HT_ ?_
      refine pI 17 (some 42) b10A18 HT_ ?_
      refine tI 18 (some 43) b10A19 HT_ HW_ hHeld rfl rfl (Or.inl ⟨by rfl, by rintro w' ⟨s0, s1, s2, s3, s4, s5, s6, s7, s8, s9⟩; go_simp; with_reducible rfl⟩) ?_
      refine one_ (i := 19) (N := some 44) b10A20 rfl rfl (one_of HT_.out (by kernel_rfl)) (by decide) (fun K hK => ?_)
      refine goes_ Try.func138 (by kernel_rfl) rfl #[.int .i64 ((rd_T138 l0 x4_1).f3), .int .i64 0, .int .i64 100000] (by rfl) rfl rfl M0 ?_
      with_reducible refine (spec_l1In.calls ((rd_T138 l0 x4_1).f3) 0 100000 true _ A18.out).mono ?_
      rintro e w' ⟨rfl, ⟨nd, rfl⟩⟩
      refine ⟨_, rfl, ?_⟩
      refine hK.out _ _ ⟨(bc BK297.out 0).trans rfl, (bc BK297.out 1).trans rfl, (bc BK297.out 2).trans rfl, (bc BK297.out 3).trans rfl, (bc BK297.out 4).trans rfl, ((HB.out.cell (bL w hw303_0)).trans hw303_0), ((HB.out.cell (bL w hw303_1)).trans hw303_1), ((HB.out.cell (bL w hw303_2)).trans hw303_2), ((HB.out.cell (bL w hw303_3)).trans hw303_3), ((HB.out.cell (bL w hw303_4)).trans hw303_4)⟩ (fun hHeld => ?_)
      clear hK K
      refine norm_ (a' := ?_) ?_ ?_
      rotate_left
      ·show Act.put _ (some 44) _ = _
       simp only [Act.put, sA, sZ, sS, i64_w, i32_w]
       rfl
      refine pI 20 (some 45) b10A21 HT_ ?_
      refine pI 21 (some 46) b10A22 HT_ ?_
      refine pI 22 (some 47) b10A23 HT_ ?_
      refine pI 23 (some 48) b10A24 HT_ ?_
      refine pI 25 (some 50) b10A25 HT_ ?_
      refine tI 24 (some 49) b10A26 HT_ HW_ hHeld rfl rfl (Or.inl ⟨by rfl, by rintro w' ⟨s0, s1, s2, s3, s4, s5, s6, s7, s8, s9⟩; go_simp; with_reducible rfl⟩) ?_
      refine pI 26 (some 51) b10A27 HT_ ?_
      refine pI 27 (some 52) b10A28 HT_ ?_
      refine pI 28 (some 53) b10A29 HT_ ?_
      refine pI 29 (some 54) b10A30 HT_ ?_
      refine pI 30 (some 55) b10A31 HT_ ?_
      refine pI 31 (some 56) b10A32 HT_ ?_
      refine pI 32 (some 57) b10A33 HT_ ?_
      refine pI 33 (some 58) b10A34 HT_ ?_
      refine pI 34 (some 59) b10A35 HT_ ?_
      refine pI 35 (some 60) b10A36 HT_ ?_
      refine pI 36 (some 61) b10A37 HT_ ?_
      refine pI 38 (some 63) b10A38 HT_ ?_
      refine tI 37 (some 62) b10A39 HT_ HW_ hHeld rfl rfl (Or.inl ⟨by rfl, by rintro w' ⟨s0, s1, s2, s3, s4, s5, s6, s7, s8, s9⟩; go_simp; with_reducible rfl⟩) ?_
      refine tI 39 (some 64) b10A40 HT_ HW_ hHeld rfl rfl (Or.inl ⟨by rfl, by rintro w' ⟨s0, s1, s2, s3, s4, s5, s6, s7, s8, s9⟩; go_simp; with_reducible rfl⟩) ?_
      refine pI 40 (some 65) b10A41 HT_ ?_
      refine pI 41 (some 66) b10A42 HT_ ?_
      refine pI 42 (some 67) b10A43 HT_ ?_
      refine done_ (done_of HT_.out (by kernel_rfl)) ?_
      try go_wp2
      go_meet
      case rel => exact ⟨_, (decide (((rd_T138 l0 (ji22)).f3) > ((rd_T138 l0 x4_1).f3))), (by first | rfl | (simp; done) | (simp only [← hji22] <;> (first | rfl | simp)) | (simp [*]; done)), H', ⟨by have := HK1.out; have := HJ1.out; first | omega | exact Nat.le_refl _⟩, ⟨by exact qK BK297.out⟩, ⟨by repeat (first | (with_reducible first | exact HB.out | apply bA | apply bN | apply b1 | refine bS ?_ GE297.out) | exact HB.out)⟩⟩
     case rest =>
      clear HC8
      try clear c1
      try clear p2
      try clear c13
      try clear c15
      obtain ⟨kq, x67_7, rfl, HA, HJ7, BK297, HB⟩ := hcut
      cases kq with
      | zero => exact absurd HA.out (by simp [spec_IsChain.j2])
      | succ kj7 =>
       have H := HA.out
       clear HA
       simp only [spec_IsChain.j2] at H
       by_cases c32 : x67_7 = true
       ·subst c32
        have H1 : (some false) = some r := by rw [if_pos rfl] at H; exact H
        clear H
        have H := H1
        clear H1
        obtain rfl := Option.some.inj H
        go_wp2
        go_ret
        exact ⟨by first | rfl | (simp [errW_none, errW_some] <;> rfl) | (simp [*, errW_none, errW_some] <;> rfl), by repeat (first | (with_reducible first | exact HB.out | apply bA | apply bN | apply b1 | refine bS ?_ GE297.out) | exact HB.out)⟩
       replace c32 := Bool.eq_false_iff.mpr c32
       subst c32
       have H1 : ((spec_l16Last.f kj7 l0 ((rd_T138 l0 x4_1).f0) x4_1).bind fun t304 => (if t304 < 0 then (if ((rd_T138 l0 x4_1).f1) > 2 then (some false) else (if t304 ≥ 0 then (if ((rd_T138 l0 x4_1).f1) = 1 then (some false) else (if 0 ≤ t304 then (if t304 < (l0.length : Int) then (if ((rd_T138 l0 t304).f1) ≥ 3 then (some false) else (spec_IsChain.l0 kj7 l0 t298 (wrap64 (x4_1 + 1)))) else (none)) else (none))) else (spec_IsChain.l0 kj7 l0 t298 (wrap64 (x4_1 + 1))))) else (if t304 ≥ 0 then (if ((rd_T138 l0 x4_1).f1) = 1 then (some false) else (if 0 ≤ t304 then (if t304 < (l0.length : Int) then (if ((rd_T138 l0 t304).f1) ≥ 3 then (some false) else (spec_IsChain.l0 kj7 l0 t298 (wrap64 (x4_1 + 1)))) else (none)) else (none))) else (spec_IsChain.l0 kj7 l0 t298 (wrap64 (x4_1 + 1)))))) = some r := by rw [if_neg (show ¬ (false = true) by decide)] at H; exact H
       clear H
       have H := H1
       clear H1
       replace H := Option.bind_eq_some_iff.mp H
       obtain ⟨t304, A330, H⟩ := H
       replace H : (if t304 < 0 then (if ((rd_T138 l0 x4_1).f1) > 2 then (some false) else (if t304 ≥ 0 then (if ((rd_T138 l0 x4_1).f1) = 1 then (some false) else (if 0 ≤ t304 then (if t304 < (l0.length : Int) then (if ((rd_T138 l0 t304).f1) ≥ 3 then (some false) else (spec_IsChain.l0 kj7 l0 t298 (wrap64 (x4_1 + 1)))) else (none)) else (none))) else (spec_IsChain.l0 kj7 l0 t298 (wrap64 (x4_1 + 1))))) else (if t304 ≥ 0 then (if ((rd_T138 l0 x4_1).f1) = 1 then (some false) else (if 0 ≤ t304 then (if t304 < (l0.length : Int) then (if ((rd_T138 l0 t304).f1) ≥ 3 then (some false) else (spec_IsChain.l0 kj7 l0 t298 (wrap64 (x4_1 + 1)))) else (none)) else (none))) else (spec_IsChain.l0 kj7 l0 t298 (wrap64 (x4_1 + 1))))) = some r := H
       have A33 := zK A330
       clear A330
       by_cases c34 : t304 < 0
       rotate_left
       ·rw [if_neg c34] at H
        have c34b0 : decide (t304 < 0) = false := decide_eq_false c34
        clear c34
        by_cases c46 : t304 ≥ 0
        rotate_left
        ·rw [if_neg c46] at H
         have c46b0 : decide (0 ≤ t304) = false := decide_eq_false c46
         clear c46
         have H' := zK H
         clear H
         have hcz54_0 : wc.cell? ⟨gb297, 0, none⟩ = some (.int .i64 ((rd_T138 l0 x4_1).f0)) := (bc BK297.out 0).trans rfl
         have hcz54_1 : wc.cell? ⟨gb297, 1, none⟩ = some (.int .i64 ((rd_T138 l0 x4_1).f1)) := (bc BK297.out 1).trans rfl
         have hcz54_2 : wc.cell? ⟨gb297, 2, none⟩ = some (.int .i64 ((rd_T138 l0 x4_1).f2)) := (bc BK297.out 2).trans rfl
         have hcz54_3 : wc.cell? ⟨gb297, 3, none⟩ = some (.int .i64 ((rd_T138 l0 x4_1).f3)) := (bc BK297.out 3).trans rfl
         have hcz54_4 : wc.cell? ⟨gb297, 4, none⟩ = some (.int .i64 ((rd_T138 l0 x4_1).f4)) := (bc BK297.out 4).trans rfl
         have hfz54_0 := bf BK297.out 0
         have hfz54_1 := bf BK297.out 1
         have hfz54_2 := bf BK297.out 2
         have hfz54_3 := bf BK297.out 3
         have hfz54_4 := bf BK297.out 4
         go_wp2_with (first | ((with_reducible refine gate_callee (f := 153) rfl ?_); refine goesL_ (some 72) rfl rfl Try.func153 (by kernel_rfl) rfl #[.slice (some ad296) l0.length c0, .int .i64 ((rd_T138 l0 x4_1).f0), .int .i64 x4_1] rfl M0 ?_; (with_reducible refine (spec_l16Last.calls kj7 _ _ l0 ((rd_T138 l0 x4_1).f0) x4_1 t304 _ ?side1 ?side2 A33.out).mono ?_); (case side1 => exact Kd.qC (Kd.C_below HR0.out HB.out)); (case side2 => exact HC0.out); rintro e w' ⟨rfl, ⟨nd, rfl⟩⟩; refine ⟨_, rfl, ?_⟩))
         go_roundg kj7
         case measure => have := HK1.out; have := HJ1.out; have := HJ7.out; omega
         case rel => exact ⟨(t298), (wrap64 (x4_1 + 1)), M3, M3, H', ⟨by have := HK1.out; have := HJ1.out; have := HJ7.out; omega⟩, ⟨by repeat (first | (with_reducible first | exact HB.out | apply bA | apply bN | apply b1 | refine bS ?_ GE297.out) | exact HB.out)⟩⟩
        rw [if_pos c46] at H
        have c46b0 : decide (0 ≤ t304) = true := decide_eq_true c46
        clear c46
        by_cases c47 : ((rd_T138 l0 x4_1).f1) = 1
        ·rw [if_pos c47] at H
         have c47b0 : (((rd_T138 l0 x4_1).f1) == 1) = true := beq_iff_eq.mpr c47
         have c47b1 : (((rd_T138 l0 x4_1).f1) != 1) = false := bne_eq_false_iff_eq.mpr c47
         clear c47
         obtain rfl := Option.some.inj H
         have hcz48_0 : wc.cell? ⟨gb297, 0, none⟩ = some (.int .i64 ((rd_T138 l0 x4_1).f0)) := (bc BK297.out 0).trans rfl
         have hcz48_1 : wc.cell? ⟨gb297, 1, none⟩ = some (.int .i64 ((rd_T138 l0 x4_1).f1)) := (bc BK297.out 1).trans rfl
         have hcz48_2 : wc.cell? ⟨gb297, 2, none⟩ = some (.int .i64 ((rd_T138 l0 x4_1).f2)) := (bc BK297.out 2).trans rfl
         have hcz48_3 : wc.cell? ⟨gb297, 3, none⟩ = some (.int .i64 ((rd_T138 l0 x4_1).f3)) := (bc BK297.out 3).trans rfl
         have hcz48_4 : wc.cell? ⟨gb297, 4, none⟩ = some (.int .i64 ((rd_T138 l0 x4_1).f4)) := (bc BK297.out 4).trans rfl
         have hfz48_0 := bf BK297.out 0
         have hfz48_1 := bf BK297.out 1
         have hfz48_2 := bf BK297.out 2
         have hfz48_3 := bf BK297.out 3
         have hfz48_4 := bf BK297.out 4
         go_wp2_with (first | ((with_reducible refine gate_callee (f := 153) rfl ?_); refine goesL_ (some 72) rfl rfl Try.func153 (by kernel_rfl) rfl #[.slice (some ad296) l0.length c0, .int .i64 ((rd_T138 l0 x4_1).f0), .int .i64 x4_1] rfl M0 ?_; (with_reducible refine (spec_l16Last.calls kj7 _ _ l0 ((rd_T138 l0 x4_1).f0) x4_1 t304 _ ?side1 ?side2 A33.out).mono ?_); (case side1 => exact Kd.qC (Kd.C_below HR0.out HB.out)); (case side2 => exact HC0.out); rintro e w' ⟨rfl, ⟨nd, rfl⟩⟩; refine ⟨_, rfl, ?_⟩))
         go_ret
         exact ⟨by first | rfl | (simp [errW_none, errW_some] <;> rfl) | (simp [*, errW_none, errW_some] <;> rfl), by repeat (first | (with_reducible first | exact HB.out | apply bA | apply bN | apply b1 | refine bS ?_ GE297.out) | exact HB.out)⟩
        rw [if_neg c47] at H
        have c47b0 : (((rd_T138 l0 x4_1).f1) == 1) = false := beq_eq_false_iff_ne.mpr c47
        have c47b1 : (((rd_T138 l0 x4_1).f1) != 1) = true := bne_iff_ne.mpr c47
        by_cases c49 : 0 ≤ t304
        rotate_left
        ·rw [if_neg c49] at H
         exact absurd H (by simp)
        rw [if_pos c49] at H
        have c49b0 : decide (0 ≤ t304) = true := decide_eq_true c49
        clear c49
        by_cases c50 : t304 < (l0.length : Int)
        rotate_left
        ·rw [if_neg c50] at H
         exact absurd H (by simp)
        rw [if_pos c50] at H
        have c50b0 : decide (t304 < (l0.length : Int)) = true := decide_eq_true c50
        clear c50
        by_cases c51 : ((rd_T138 l0 t304).f1) ≥ 3
        ·rw [if_pos c51] at H
         have c51b0 : decide (3 ≤ ((rd_T138 l0 t304).f1)) = true := decide_eq_true c51
         clear c51
         obtain rfl := Option.some.inj H
         have hcz52_0 : wc.cell? ⟨gb297, 0, none⟩ = some (.int .i64 ((rd_T138 l0 x4_1).f0)) := (bc BK297.out 0).trans rfl
         have hcz52_1 : wc.cell? ⟨gb297, 1, none⟩ = some (.int .i64 ((rd_T138 l0 x4_1).f1)) := (bc BK297.out 1).trans rfl
         have hcz52_2 : wc.cell? ⟨gb297, 2, none⟩ = some (.int .i64 ((rd_T138 l0 x4_1).f2)) := (bc BK297.out 2).trans rfl
         have hcz52_3 : wc.cell? ⟨gb297, 3, none⟩ = some (.int .i64 ((rd_T138 l0 x4_1).f3)) := (bc BK297.out 3).trans rfl
         have hcz52_4 : wc.cell? ⟨gb297, 4, none⟩ = some (.int .i64 ((rd_T138 l0 x4_1).f4)) := (bc BK297.out 4).trans rfl
         have hfz52_0 := bf BK297.out 0
         have hfz52_1 := bf BK297.out 1
         have hfz52_2 := bf BK297.out 2
         have hfz52_3 := bf BK297.out 3
         have hfz52_4 := bf BK297.out 4
         go_wp2_with (first | ((with_reducible refine gate_callee (f := 153) rfl ?_); refine goesL_ (some 72) rfl rfl Try.func153 (by kernel_rfl) rfl #[.slice (some ad296) l0.length c0, .int .i64 ((rd_T138 l0 x4_1).f0), .int .i64 x4_1] rfl M0 ?_; (with_reducible refine (spec_l16Last.calls kj7 _ _ l0 ((rd_T138 l0 x4_1).f0) x4_1 t304 _ ?side1 ?side2 A33.out).mono ?_); (case side1 => exact Kd.qC (Kd.C_below HR0.out HB.out)); (case side2 => exact HC0.out); rintro e w' ⟨rfl, ⟨nd, rfl⟩⟩; refine ⟨_, rfl, ?_⟩; have p306 : 0 ≤ (t304 : Int) := oD M1; have q306 : t304 < (l0.length : Int) := oD M1; obtain ⟨ad306, e306, hx306_0, hx306_1, hx306_2, hx306_3, hx306_4⟩ := at_T138 HR0.out t304 p306 q306; obtain rfl : ad296 = ad306 := (by injection e306); replace hx306_0 := (HB.out.cell (bL w hx306_0)).trans hx306_0; replace hx306_1 := (HB.out.cell (bL w hx306_1)).trans hx306_1; replace hx306_2 := (HB.out.cell (bL w hx306_2)).trans hx306_2; replace hx306_3 := (HB.out.cell (bL w hx306_3)).trans hx306_3; replace hx306_4 := (HB.out.cell (bL w hx306_4)).trans hx306_4; replace p306 := eq_true p306; replace q306 := eq_true q306))
         go_ret
         exact ⟨by first | rfl | (simp [errW_none, errW_some] <;> rfl) | (simp [*, errW_none, errW_some] <;> rfl), by repeat (first | (with_reducible first | exact HB.out | apply bA | apply bN | apply b1 | refine bS ?_ GE297.out) | exact HB.out)⟩
        rw [if_neg c51] at H
        have c51b0 : decide (3 ≤ ((rd_T138 l0 t304).f1)) = false := decide_eq_false c51
        clear c51
        have H' := zK H
        clear H
        have hcz53_0 : wc.cell? ⟨gb297, 0, none⟩ = some (.int .i64 ((rd_T138 l0 x4_1).f0)) := (bc BK297.out 0).trans rfl
        have hcz53_1 : wc.cell? ⟨gb297, 1, none⟩ = some (.int .i64 ((rd_T138 l0 x4_1).f1)) := (bc BK297.out 1).trans rfl
        have hcz53_2 : wc.cell? ⟨gb297, 2, none⟩ = some (.int .i64 ((rd_T138 l0 x4_1).f2)) := (bc BK297.out 2).trans rfl
        have hcz53_3 : wc.cell? ⟨gb297, 3, none⟩ = some (.int .i64 ((rd_T138 l0 x4_1).f3)) := (bc BK297.out 3).trans rfl
        have hcz53_4 : wc.cell? ⟨gb297, 4, none⟩ = some (.int .i64 ((rd_T138 l0 x4_1).f4)) := (bc BK297.out 4).trans rfl
        have hfz53_0 := bf BK297.out 0
        have hfz53_1 := bf BK297.out 1
        have hfz53_2 := bf BK297.out 2
        have hfz53_3 := bf BK297.out 3
        have hfz53_4 := bf BK297.out 4
        go_wp2_with (first | ((with_reducible refine gate_callee (f := 153) rfl ?_); refine goesL_ (some 72) rfl rfl Try.func153 (by kernel_rfl) rfl #[.slice (some ad296) l0.length c0, .int .i64 ((rd_T138 l0 x4_1).f0), .int .i64 x4_1] rfl M0 ?_; (with_reducible refine (spec_l16Last.calls kj7 _ _ l0 ((rd_T138 l0 x4_1).f0) x4_1 t304 _ ?side1 ?side2 A33.out).mono ?_); (case side1 => exact Kd.qC (Kd.C_below HR0.out HB.out)); (case side2 => exact HC0.out); rintro e w' ⟨rfl, ⟨nd, rfl⟩⟩; refine ⟨_, rfl, ?_⟩; have p306 : 0 ≤ (t304 : Int) := oD M1; have q306 : t304 < (l0.length : Int) := oD M1; obtain ⟨ad306, e306, hx306_0, hx306_1, hx306_2, hx306_3, hx306_4⟩ := at_T138 HR0.out t304 p306 q306; obtain rfl : ad296 = ad306 := (by injection e306); replace hx306_0 := (HB.out.cell (bL w hx306_0)).trans hx306_0; replace hx306_1 := (HB.out.cell (bL w hx306_1)).trans hx306_1; replace hx306_2 := (HB.out.cell (bL w hx306_2)).trans hx306_2; replace hx306_3 := (HB.out.cell (bL w hx306_3)).trans hx306_3; replace hx306_4 := (HB.out.cell (bL w hx306_4)).trans hx306_4; replace p306 := eq_true p306; replace q306 := eq_true q306))
        go_roundg kj7
        case measure => have := HK1.out; have := HJ1.out; have := HJ7.out; omega
        case rel => exact ⟨(t298), (wrap64 (x4_1 + 1)), M3, M3, H', ⟨by have := HK1.out; have := HJ1.out; have := HJ7.out; omega⟩, ⟨by repeat (first | (with_reducible first | exact HB.out | apply bA | apply bN | apply b1 | refine bS ?_ GE297.out) | exact HB.out)⟩⟩
       rw [if_pos c34] at H
       have c34b0 : decide (t304 < 0) = true := decide_eq_true c34
       clear c34
       by_cases c35 : ((rd_T138 l0 x4_1).f1) > 2
       ·rw [if_pos c35] at H
        have c35b0 : decide (2 < ((rd_T138 l0 x4_1).f1)) = true := decide_eq_true c35
        clear c35
        obtain rfl := Option.some.inj H
        have hcz36_0 : wc.cell? ⟨gb297, 0, none⟩ = some (.int .i64 ((rd_T138 l0 x4_1).f0)) := (bc BK297.out 0).trans rfl
        have hcz36_1 : wc.cell? ⟨gb297, 1, none⟩ = some (.int .i64 ((rd_T138 l0 x4_1).f1)) := (bc BK297.out 1).trans rfl
        have hcz36_2 : wc.cell? ⟨gb297, 2, none⟩ = some (.int .i64 ((rd_T138 l0 x4_1).f2)) := (bc BK297.out 2).trans rfl
        have hcz36_3 : wc.cell? ⟨gb297, 3, none⟩ = some (.int .i64 ((rd_T138 l0 x4_1).f3)) := (bc BK297.out 3).trans rfl
        have hcz36_4 : wc.cell? ⟨gb297, 4, none⟩ = some (.int .i64 ((rd_T138 l0 x4_1).f4)) := (bc BK297.out 4).trans rfl
        have hfz36_0 := bf BK297.out 0
        have hfz36_1 := bf BK297.out 1
        have hfz36_2 := bf BK297.out 2
        have hfz36_3 := bf BK297.out 3
        have hfz36_4 := bf BK297.out 4
        go_wp2_with (first | ((with_reducible refine gate_callee (f := 153) rfl ?_); refine goesL_ (some 72) rfl rfl Try.func153 (by kernel_rfl) rfl #[.slice (some ad296) l0.length c0, .int .i64 ((rd_T138 l0 x4_1).f0), .int .i64 x4_1] rfl M0 ?_; (with_reducible refine (spec_l16Last.calls kj7 _ _ l0 ((rd_T138 l0 x4_1).f0) x4_1 t304 _ ?side1 ?side2 A33.out).mono ?_); (case side1 => exact Kd.qC (Kd.C_below HR0.out HB.out)); (case side2 => exact HC0.out); rintro e w' ⟨rfl, ⟨nd, rfl⟩⟩; refine ⟨_, rfl, ?_⟩))
        go_ret
        exact ⟨by first | rfl | (simp [errW_none, errW_some] <;> rfl) | (simp [*, errW_none, errW_some] <;> rfl), by repeat (first | (with_reducible first | exact HB.out | apply bA | apply bN | apply b1 | refine bS ?_ GE297.out) | exact HB.out)⟩
       rw [if_neg c35] at H
       have c35b0 : decide (2 < ((rd_T138 l0 x4_1).f1)) = false := decide_eq_false c35
       clear c35
       by_cases c37 : t304 ≥ 0
       rotate_left
       ·rw [if_neg c37] at H
        have c37b0 : decide (0 ≤ t304) = false := decide_eq_false c37
        clear c37
        have H' := zK H
        clear H
        have hcz45_0 : wc.cell? ⟨gb297, 0, none⟩ = some (.int .i64 ((rd_T138 l0 x4_1).f0)) := (bc BK297.out 0).trans rfl
        have hcz45_1 : wc.cell? ⟨gb297, 1, none⟩ = some (.int .i64 ((rd_T138 l0 x4_1).f1)) := (bc BK297.out 1).trans rfl
        have hcz45_2 : wc.cell? ⟨gb297, 2, none⟩ = some (.int .i64 ((rd_T138 l0 x4_1).f2)) := (bc BK297.out 2).trans rfl
        have hcz45_3 : wc.cell? ⟨gb297, 3, none⟩ = some (.int .i64 ((rd_T138 l0 x4_1).f3)) := (bc BK297.out 3).trans rfl
        have hcz45_4 : wc.cell? ⟨gb297, 4, none⟩ = some (.int .i64 ((rd_T138 l0 x4_1).f4)) := (bc BK297.out 4).trans rfl
        have hfz45_0 := bf BK297.out 0
        have hfz45_1 := bf BK297.out 1
        have hfz45_2 := bf BK297.out 2
        have hfz45_3 := bf BK297.out 3
        have hfz45_4 := bf BK297.out 4
        go_wp2_with (first | ((with_reducible refine gate_callee (f := 153) rfl ?_); refine goesL_ (some 72) rfl rfl Try.func153 (by kernel_rfl) rfl #[.slice (some ad296) l0.length c0, .int .i64 ((rd_T138 l0 x4_1).f0), .int .i64 x4_1] rfl M0 ?_; (with_reducible refine (spec_l16Last.calls kj7 _ _ l0 ((rd_T138 l0 x4_1).f0) x4_1 t304 _ ?side1 ?side2 A33.out).mono ?_); (case side1 => exact Kd.qC (Kd.C_below HR0.out HB.out)); (case side2 => exact HC0.out); rintro e w' ⟨rfl, ⟨nd, rfl⟩⟩; refine ⟨_, rfl, ?_⟩))
        go_roundg kj7
        case measure => have := HK1.out; have := HJ1.out; have := HJ7.out; omega
        case rel => exact ⟨(t298), (wrap64 (x4_1 + 1)), M3, M3, H', ⟨by have := HK1.out; have := HJ1.out; have := HJ7.out; omega⟩, ⟨by repeat (first | (with_reducible first | exact HB.out | apply bA | apply bN | apply b1 | refine bS ?_ GE297.out) | exact HB.out)⟩⟩
       rw [if_pos c37] at H
       have c37b0 : decide (0 ≤ t304) = true := decide_eq_true c37
       clear c37
       by_cases c38 : ((rd_T138 l0 x4_1).f1) = 1
       ·rw [if_pos c38] at H
        have c38b0 : (((rd_T138 l0 x4_1).f1) == 1) = true := beq_iff_eq.mpr c38
        have c38b1 : (((rd_T138 l0 x4_1).f1) != 1) = false := bne_eq_false_iff_eq.mpr c38
        clear c38
        obtain rfl := Option.some.inj H
        have hcz39_0 : wc.cell? ⟨gb297, 0, none⟩ = some (.int .i64 ((rd_T138 l0 x4_1).f0)) := (bc BK297.out 0).trans rfl
        have hcz39_1 : wc.cell? ⟨gb297, 1, none⟩ = some (.int .i64 ((rd_T138 l0 x4_1).f1)) := (bc BK297.out 1).trans rfl
        have hcz39_2 : wc.cell? ⟨gb297, 2, none⟩ = some (.int .i64 ((rd_T138 l0 x4_1).f2)) := (bc BK297.out 2).trans rfl
        have hcz39_3 : wc.cell? ⟨gb297, 3, none⟩ = some (.int .i64 ((rd_T138 l0 x4_1).f3)) := (bc BK297.out 3).trans rfl
        have hcz39_4 : wc.cell? ⟨gb297, 4, none⟩ = some (.int .i64 ((rd_T138 l0 x4_1).f4)) := (bc BK297.out 4).trans rfl
        have hfz39_0 := bf BK297.out 0
        have hfz39_1 := bf BK297.out 1
        have hfz39_2 := bf BK297.out 2
        have hfz39_3 := bf BK297.out 3
        have hfz39_4 := bf BK297.out 4
        go_wp2_with (first | ((with_reducible refine gate_callee (f := 153) rfl ?_); refine goesL_ (some 72) rfl rfl Try.func153 (by kernel_rfl) rfl #[.slice (some ad296) l0.length c0, .int .i64 ((rd_T138 l0 x4_1).f0), .int .i64 x4_1] rfl M0 ?_; (with_reducible refine (spec_l16Last.calls kj7 _ _ l0 ((rd_T138 l0 x4_1).f0) x4_1 t304 _ ?side1 ?side2 A33.out).mono ?_); (case side1 => exact Kd.qC (Kd.C_below HR0.out HB.out)); (case side2 => exact HC0.out); rintro e w' ⟨rfl, ⟨nd, rfl⟩⟩; refine ⟨_, rfl, ?_⟩))
        go_ret
        exact ⟨by first | rfl | (simp [errW_none, errW_some] <;> rfl) | (simp [*, errW_none, errW_some] <;> rfl), by repeat (first | (with_reducible first | exact HB.out | apply bA | apply bN | apply b1 | refine bS ?_ GE297.out) | exact HB.out)⟩
       rw [if_neg c38] at H
       have c38b0 : (((rd_T138 l0 x4_1).f1) == 1) = false := beq_eq_false_iff_ne.mpr c38
       have c38b1 : (((rd_T138 l0 x4_1).f1) != 1) = true := bne_iff_ne.mpr c38
       by_cases c40 : 0 ≤ t304
       rotate_left
       ·rw [if_neg c40] at H
        exact absurd H (by simp)
       rw [if_pos c40] at H
       have c40b0 : decide (0 ≤ t304) = true := decide_eq_true c40
       clear c40
       by_cases c41 : t304 < (l0.length : Int)
       rotate_left
       ·rw [if_neg c41] at H
        exact absurd H (by simp)
       rw [if_pos c41] at H
       have c41b0 : decide (t304 < (l0.length : Int)) = true := decide_eq_true c41
       clear c41
       by_cases c42 : ((rd_T138 l0 t304).f1) ≥ 3
       ·rw [if_pos c42] at H
        have c42b0 : decide (3 ≤ ((rd_T138 l0 t304).f1)) = true := decide_eq_true c42
        clear c42
        obtain rfl := Option.some.inj H
        have hcz43_0 : wc.cell? ⟨gb297, 0, none⟩ = some (.int .i64 ((rd_T138 l0 x4_1).f0)) := (bc BK297.out 0).trans rfl
        have hcz43_1 : wc.cell? ⟨gb297, 1, none⟩ = some (.int .i64 ((rd_T138 l0 x4_1).f1)) := (bc BK297.out 1).trans rfl
        have hcz43_2 : wc.cell? ⟨gb297, 2, none⟩ = some (.int .i64 ((rd_T138 l0 x4_1).f2)) := (bc BK297.out 2).trans rfl
        have hcz43_3 : wc.cell? ⟨gb297, 3, none⟩ = some (.int .i64 ((rd_T138 l0 x4_1).f3)) := (bc BK297.out 3).trans rfl
        have hcz43_4 : wc.cell? ⟨gb297, 4, none⟩ = some (.int .i64 ((rd_T138 l0 x4_1).f4)) := (bc BK297.out 4).trans rfl
        have hfz43_0 := bf BK297.out 0
        have hfz43_1 := bf BK297.out 1
        have hfz43_2 := bf BK297.out 2
        have hfz43_3 := bf BK297.out 3
        have hfz43_4 := bf BK297.out 4
        go_wp2_with (first | ((with_reducible refine gate_callee (f := 153) rfl ?_); refine goesL_ (some 72) rfl rfl Try.func153 (by kernel_rfl) rfl #[.slice (some ad296) l0.length c0, .int .i64 ((rd_T138 l0 x4_1).f0), .int .i64 x4_1] rfl M0 ?_; (with_reducible refine (spec_l16Last.calls kj7 _ _ l0 ((rd_T138 l0 x4_1).f0) x4_1 t304 _ ?side1 ?side2 A33.out).mono ?_); (case side1 => exact Kd.qC (Kd.C_below HR0.out HB.out)); (case side2 => exact HC0.out); rintro e w' ⟨rfl, ⟨nd, rfl⟩⟩; refine ⟨_, rfl, ?_⟩; have p305 : 0 ≤ (t304 : Int) := oD M1; have q305 : t304 < (l0.length : Int) := oD M1; obtain ⟨ad305, e305, hx305_0, hx305_1, hx305_2, hx305_3, hx305_4⟩ := at_T138 HR0.out t304 p305 q305; obtain rfl : ad296 = ad305 := (by injection e305); replace hx305_0 := (HB.out.cell (bL w hx305_0)).trans hx305_0; replace hx305_1 := (HB.out.cell (bL w hx305_1)).trans hx305_1; replace hx305_2 := (HB.out.cell (bL w hx305_2)).trans hx305_2; replace hx305_3 := (HB.out.cell (bL w hx305_3)).trans hx305_3; replace hx305_4 := (HB.out.cell (bL w hx305_4)).trans hx305_4; replace p305 := eq_true p305; replace q305 := eq_true q305))
        go_ret
        exact ⟨by first | rfl | (simp [errW_none, errW_some] <;> rfl) | (simp [*, errW_none, errW_some] <;> rfl), by repeat (first | (with_reducible first | exact HB.out | apply bA | apply bN | apply b1 | refine bS ?_ GE297.out) | exact HB.out)⟩
       rw [if_neg c42] at H
       have c42b0 : decide (3 ≤ ((rd_T138 l0 t304).f1)) = false := decide_eq_false c42
       clear c42
       have H' := zK H
       clear H
       have hcz44_0 : wc.cell? ⟨gb297, 0, none⟩ = some (.int .i64 ((rd_T138 l0 x4_1).f0)) := (bc BK297.out 0).trans rfl
       have hcz44_1 : wc.cell? ⟨gb297, 1, none⟩ = some (.int .i64 ((rd_T138 l0 x4_1).f1)) := (bc BK297.out 1).trans rfl
       have hcz44_2 : wc.cell? ⟨gb297, 2, none⟩ = some (.int .i64 ((rd_T138 l0 x4_1).f2)) := (bc BK297.out 2).trans rfl
       have hcz44_3 : wc.cell? ⟨gb297, 3, none⟩ = some (.int .i64 ((rd_T138 l0 x4_1).f3)) := (bc BK297.out 3).trans rfl
       have hcz44_4 : wc.cell? ⟨gb297, 4, none⟩ = some (.int .i64 ((rd_T138 l0 x4_1).f4)) := (bc BK297.out 4).trans rfl
       have hfz44_0 := bf BK297.out 0
       have hfz44_1 := bf BK297.out 1
       have hfz44_2 := bf BK297.out 2
       have hfz44_3 := bf BK297.out 3
       have hfz44_4 := bf BK297.out 4
       go_wp2_with (first | ((with_reducible refine gate_callee (f := 153) rfl ?_); refine goesL_ (some 72) rfl rfl Try.func153 (by kernel_rfl) rfl #[.slice (some ad296) l0.length c0, .int .i64 ((rd_T138 l0 x4_1).f0), .int .i64 x4_1] rfl M0 ?_; (with_reducible refine (spec_l16Last.calls kj7 _ _ l0 ((rd_T138 l0 x4_1).f0) x4_1 t304 _ ?side1 ?side2 A33.out).mono ?_); (case side1 => exact Kd.qC (Kd.C_below HR0.out HB.out)); (case side2 => exact HC0.out); rintro e w' ⟨rfl, ⟨nd, rfl⟩⟩; refine ⟨_, rfl, ?_⟩; have p305 : 0 ≤ (t304 : Int) := oD M1; have q305 : t304 < (l0.length : Int) := oD M1; obtain ⟨ad305, e305, hx305_0, hx305_1, hx305_2, hx305_3, hx305_4⟩ := at_T138 HR0.out t304 p305 q305; obtain rfl : ad296 = ad305 := (by injection e305); replace hx305_0 := (HB.out.cell (bL w hx305_0)).trans hx305_0; replace hx305_1 := (HB.out.cell (bL w hx305_1)).trans hx305_1; replace hx305_2 := (HB.out.cell (bL w hx305_2)).trans hx305_2; replace hx305_3 := (HB.out.cell (bL w hx305_3)).trans hx305_3; replace hx305_4 := (HB.out.cell (bL w hx305_4)).trans hx305_4; replace p305 := eq_true p305; replace q305 := eq_true q305))
       go_roundg kj7
       case measure => have := HK1.out; have := HJ1.out; have := HJ7.out; omega
       case rel => exact ⟨(t298), (wrap64 (x4_1 + 1)), M3, M3, H', ⟨by have := HK1.out; have := HJ1.out; have := HJ7.out; omega⟩, ⟨by repeat (first | (with_reducible first | exact HB.out | apply bA | apply bN | apply b1 | refine bS ?_ GE297.out) | exact HB.out)⟩⟩
end Go.Proofs.Ytejhjenlodclpaa.PFnExactSendAll
