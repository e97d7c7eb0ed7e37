/- Walks of functions that FnExactTighten reaches: written by a tool of the kit for this claim, then shortened by a program of ours. -/
import Derived.Test.YtejhjenlodclpaaPFnExactTightenx0
import Derived.Test.YtejhjenlodclpaaPFnExactTightenx10
/- narrow -/
namespace Go.Proofs.Ytejhjenlodclpaa.PFnExactTighten
open Go.RowKit Go.Proofs.YtejhjenlodclpaaW.PrintWords Go.Proofs.YtejhjenlodclpaaW.PrintLast Go.Proofs.YtejhjenlodclpaaW.PrintMore
attribute [local go_sem] max2_int min2_int max_two min_two max_three min_three max_four min_four   -- for this text's walks alone
set_option linter.unusedVariables false
set_option linter.unusedSimpArgs false

abbrev b11A0 : Array Bool := #[bo, bo, bo, bo, bo, bo, bo, bo, bo, bo, bo, bo, bo, bo, bo, bo, bo, bo, bo, bo, bo, bo, bo, bo, bo, bo, bo, bo, bo, bo, bo, bo, bo, bo, bo, bo, bo, bo, bo, bo]
abbrev b11A1 : Array Bool := #[bi, bo, bo, bo, bo, bo, bo, bo, bo, bo, bo, bo, bo, bo, bo, bo, bo, bo, bo, bo, bo, bo, bo, bo, bo, bo, bo, bo, bo, bo, bo, bo, bo, bo, bo, bo, bo, bo, bo, bo]
abbrev b11A2 : Array Bool := #[bi, bi, bo, bo, bo, bo, bo, bo, bo, bo, bo, bo, bo, bo, bo, bo, bo, bo, bo, bo, bo, bo, bo, bo, bo, bo, bo, bo, bo, bo, bo, bo, bo, bo, bo, bo, bo, bo, bo, bo]
abbrev b11A3 : Array Bool := #[bi, bi, bi, bo, bo, bo, bo, bo, bo, bo, bo, bo, bo, bo, bo, bo, bo, bo, bo, bo, bo, bo, bo, bo, bo, bo, bo, bo, bo, bo, bo, bo, bo, bo, bo, bo, bo, bo, bo, bo]
abbrev b11A4 : Array Bool := #[bi, bi, bi, bi, bo, bo, bo, bo, bo, bo, bo, bo, bo, bo, bo, bo, bo, bo, bo, bo, bo, bo, bo, bo, bo, bo, bo, bo, bo, bo, bo, bo, bo, bo, bo, bo, bo, bo, bo, bo]
abbrev b11A5 : Array Bool := #[bi, bi, bi, bi, bi, bo, bo, bo, bo, bo, bo, bo, bo, bo, bo, bo, bo, bo, bo, bo, bo, bo, bo, bo, bo, bo, bo, bo, bo, bo, bo, bo, bo, bo, bo, bo, bo, bo, bo, bo]
abbrev b11A6 : Array Bool := #[bi, bi, bi, bi, bi, bi, bo, bo, bo, bo, bo, bo, bo, bo, bo, bo, bo, bo, bo, bo, bo, bo, bo, bo, bo, bo, bo, bo, bo, bo, bo, bo, bo, bo, bo, bo, bo, bo, bo, bo]
abbrev b11A7 : Array Bool := #[bi, bi, bi, bi, bi, bi, bi, bo, bo, bo, bo, bo, bo, bo, bo, bo, bo, bo, bo, bo, bo, bo, bo, bo, bo, bo, bo, bo, bo, bo, bo, bo, bo, bo, bo, bo, bo, bo, bo, bo]
abbrev b11A8 : Array Bool := #[bi, bi, bi, bi, bi, bi, bi, bi, bo, bo, bo, bo, bo, bo, bo, bo, bo, bo, bo, bo, bo, bo, bo, bo, bo, bo, bo, bo, bo, bo, bo, bo, bo, bo, bo, bo, bo, bo, bo, bo]
abbrev b11A9 : Array Bool := #[bi, bi, bi, bi, bi, bi, bi, bi, bi, bo, bo, bo, bo, bo, bo, bo, bo, bo, bo, bo, bo, bo, bo, bo, bo, bo, bo, bo, bo, bo, bo, bo, bo, bo, bo, bo, bo, bo, bo, bo]
abbrev b11A10 : Array Bool := #[bi, bi, bi, bi, bi, bi, bi, bi, bi, bo, bi, bo, bo, bo, bo, bo, bo, bo, bo, bo, bo, bo, bo, bo, bo, bo, bo, bo, bo, bo, bo, bo, bo, bo, bo, bo, bo, bo, bo, bo]
abbrev b11A11 : Array Bool := #[bi, bi, bi, bi, bi, bi, bi, bi, bi, bo, bi, bi, bo, bo, bo, bo, bo, bo, bo, bo, bo, bo, bo, bo, bo, bo, bo, bo, bo, bo, bo, bo, bo, bo, bo, bo, bo, bo, bo, bo]
abbrev b11A12 : Array Bool := #[bi, bi, bi, bi, bi, bi, bi, bi, bi, bo, bi, bi, bi, bo, bo, bo, bo, bo, bo, bo, bo, bo, bo, bo, bo, bo, bo, bo, bo, bo, bo, bo, bo, bo, bo, bo, bo, bo, bo, bo]
abbrev b11A13 : Array Bool := #[bi, bi, bi, bi, bi, bi, bi, bi, bi, bo, bi, bi, bi, bi, bo, bo, bo, bo, bo, bo, bo, bo, bo, bo, bo, bo, bo, bo, bo, bo, bo, bo, bo, bo, bo, bo, bo, bo, bo, bo]
abbrev b11A14 : Array Bool := #[bi, bi, bi, bi, bi, bi, bi, bi, bi, bo, bi, bi, bi, bi, bi, bo, bo, bo, bo, bo, bo, bo, bo, bo, bo, bo, bo, bo, bo, bo, bo, bo, bo, bo, bo, bo, bo, bo, bo, bo]
abbrev b11A15 : Array Bool := #[bi, bi, bi, bi, bi, bi, bi, bi, bi, bi, bi, bi, bi, bi, bi, bo, bo, bo, bo, bo, bo, bo, bo, bo, bo, bo, bo, bo, bo, bo, bo, bo, bo, bo, bo, bo, bo, bo, bo, bo]
abbrev b11A16 : Array Bool := #[bi, bi, bi, bi, bi, bi, bi, bi, bi, bi, bi, bi, bi, bi, bi, bi, bo, bo, bo, bo, bo, bo, bo, bo, bo, bo, bo, bo, bo, bo, bo, bo, bo, bo, bo, bo, bo, bo, bo, bo]
abbrev b11A17 : Array Bool := #[bi, bi, bi, bi, bi, bi, bi, bi, bi, bi, bi, bi, bi, bi, bi, bi, bi, bo, bo, bo, bo, bo, bo, bo, bo, bo, bo, bo, bo, bo, bo, bo, bo, bo, bo, bo, bo, bo, bo, bo]
abbrev b11A18 : Array Bool := #[bi, bi, bi, bi, bi, bi, bi, bi, bi, bi, bi, bi, bi, bi, bi, bi, bi, bi, bo, bo, bo, bo, bo, bo, bo, bo, bo, bo, bo, bo, bo, bo, bo, bo, bo, bo, bo, bo, bo, bo]
abbrev b11A19 : Array Bool := #[bi, bi, bi, bi, bi, bi, bi, bi, bi, bi, bi, bi, bi, bi, bi, bi, bi, bi, bi, bo, bo, bo, bo, bo, bo, bo, bo, bo, bo, bo, bo, bo, bo, bo, bo, bo, bo, bo, bo, bo]
abbrev b11A20 : Array Bool := #[bi, bi, bi, bi, bi, bi, bi, bi, bi, bi, bi, bi, bi, bi, bi, bi, bi, bi, bi, bi, bo, bo, bo, bo, bo, bo, bo, bo, bo, bo, bo, bo, bo, bo, bo, bo, bo, bo, bo, bo]
abbrev b11A21 : Array Bool := #[bi, bi, bi, bi, bi, bi, bi, bi, bi, bi, bi, bi, bi, bi, bi, bi, bi, bi, bi, bi, bi, bo, bo, bo, bo, bo, bo, bo, bo, bo, bo, bo, bo, bo, bo, bo, bo, bo, bo, bo]
abbrev b11A22 : Array Bool := #[bi, bi, bi, bi, bi, bi, bi, bi, bi, bi, bi, bi, bi, bi, bi, bi, bi, bi, bi, bi, bi, bi, bo, bo, bo, bo, bo, bo, bo, bo, bo, bo, bo, bo, bo, bo, bo, bo, bo, bo]
abbrev b11A23 : Array Bool := #[bi, bi, bi, bi, bi, bi, bi, bi, bi, bi, bi, bi, bi, bi, bi, bi, bi, bi, bi, bi, bi, bi, bi, bo, bo, bo, bo, bo, bo, bo, bo, bo, bo, bo, bo, bo, bo, bo, bo, bo]
abbrev b11A24 : Array Bool := #[bi, bi, bi, bi, bi, bi, bi, bi, bi, bi, bi, bi, bi, bi, bi, bi, bi, bi, bi, bi, bi, bi, bi, bi, bo, bo, bo, bo, bo, bo, bo, bo, bo, bo, bo, bo, bo, bo, bo, bo]
abbrev b11A25 : Array Bool := #[bi, bi, bi, bi, bi, bi, bi, bi, bi, bi, bi, bi, bi, bi, bi, bi, bi, bi, bi, bi, bi, bi, bi, bi, bi, bo, bo, bo, bo, bo, bo, bo, bo, bo, bo, bo, bo, bo, bo, bo]
abbrev b11A26 : Array Bool := #[bi, bi, bi, bi, bi, bi, bi, bi, bi, bi, bi, bi, bi, bi, bi, bi, bi, bi, bi, bi, bi, bi, bi, bi, bi, bi, bo, bo, bo, bo, bo, bo, bo, bo, bo, bo, bo, bo, bo, bo]
abbrev b11A27 : Array Bool := #[bi, bi, bi, bi, bi, bi, bi, bi, bi, bi, bi, bi, bi, bi, bi, bi, bi, bi, bi, bi, bi, bi, bi, bi, bi, bi, bi, bo, bo, bo, bo, bo, bo, bo, bo, bo, bo, bo, bo, bo]
abbrev b11A28 : Array Bool := #[bi, bi, bi, bi, bi, bi, bi, bi, bi, bi, bi, bi, bi, bi, bi, bi, bi, bi, bi, bi, bi, bi, bi, bi, bi, bi, bi, bi, bo, bo, bo, bo, bo, bo, bo, bo, bo, bo, bo, bo]
abbrev b11A29 : Array Bool := #[bi, bi, bi, bi, bi, bi, bi, bi, bi, bi, bi, bi, bi, bi, bi, bi, bi, bi, bi, bi, bi, bi, bi, bi, bi, bi, bi, bi, bi, bo, bo, bo, bo, bo, bo, bo, bo, bo, bo, bo]
abbrev b11A30 : Array Bool := #[bi, bi, bi, bi, bi, bi, bi, bi, bi, bi, bi, bi, bi, bi, bi, bi, bi, bi, bi, bi, bi, bi, bi, bi, bi, bi, bi, bi, bi, bi, bo, bo, bo, bo, bo, bo, bo, bo, bo, bo]
abbrev b11A31 : Array Bool := #[bi, bi, bi, bi, bi, bi, bi, bi, bi, bi, bi, bi, bi, bi, bi, bi, bi, bi, bi, bi, bi, bi, bi, bi, bi, bi, bi, bi, bi, bi, bi, bo, bo, bo, bo, bo, bo, bo, bo, bo]
abbrev b11A32 : Array Bool := #[bi, bi, bi, bi, bi, bi, bi, bi, bi, bi, bi, bi, bi, bi, bi, bi, bi, bi, bi, bi, bi, bi, bi, bi, bi, bi, bi, bi, bi, bi, bi, bi, bo, bo, bo, bo, bo, bo, bo, bo]
abbrev b11A33 : Array Bool := #[bi, bi, bi, bi, bi, bi, bi, bi, bi, bi, bi, bi, bi, bi, bi, bi, bi, bi, bi, bi, bi, bi, bi, bi, bi, bi, bi, bi, bi, bi, bi, bi, bi, bo, bo, bo, bo, bo, bo, bo]
abbrev b11A34 : Array Bool := #[bi, bi, bi, bi, bi, bi, bi, bi, bi, bi, bi, bi, bi, bi, bi, bi, bi, bi, bi, bi, bi, bi, bi, bi, bi, bi, bi, bi, bi, bi, bi, bi, bi, bi, bo, bo, bo, bo, bo, bo]
abbrev b11A35 : Array Bool := #[bi, bi, bi, bi, bi, bi, bi, bi, bi, bi, bi, bi, bi, bi, bi, bi, bi, bi, bi, bi, bi, bi, bi, bi, bi, bi, bi, bi, bi, bi, bi, bi, bi, bi, bi, bo, bo, bo, bo, bo]
abbrev b11A36 : Array Bool := #[bi, bi, bi, bi, bi, bi, bi, bi, bi, bi, bi, bi, bi, bi, bi, bi, bi, bi, bi, bi, bi, bi, bi, bi, bi, bi, bi, bi, bi, bi, bi, bi, bi, bi, bi, bi, bo, bo, bo, bo]
abbrev b11A37 : Array Bool := #[bi, bi, bi, bi, bi, bi, bi, bi, bi, bi, bi, bi, bi, bi, bi, bi, bi, bi, bi, bi, bi, bi, bi, bi, bi, bi, bi, bi, bi, bi, bi, bi, bi, bi, bi, bi, bi, bo, bo, bo]
abbrev b11A38 : Array Bool := #[bi, bi, bi, bi, bi, bi, bi, bi, bi, bi, bi, bi, bi, bi, bi, bi, bi, bi, bi, bi, bi, bi, bi, bi, bi, bi, bi, bi, bi, bi, bi, bi, bi, bi, bi, bi, bi, bi, bo, bo]
abbrev b11A39 : Array Bool := #[bi, bi, bi, bi, bi, bi, bi, bi, bi, bi, bi, bi, bi, bi, bi, bi, bi, bi, bi, bi, bi, bi, bi, bi, bi, bi, bi, bi, bi, bi, bi, bi, bi, bi, bi, bi, bi, bi, bi, bo]
abbrev b11A40 : Array Bool := #[bi, bi, bi, bi, bi, bi, bi, bi, bi, bi, bi, bi, bi, bi, bi, bi, bi, bi, bi, bi, bi, bi, bi, bi, bi, bi, bi, bi, bi, bi, bi, bi, bi, bi, bi, bi, bi, bi, bi, bi]
abbrev b11A41 : Array Bool := #[bi, bi, bi, bi, bi, bi, bi, bi, bi, bi, bo, bo, bo, bo, bo, bo, bo, bo, bo, bo, bo, bo, bo, bo, bo, bo, bo, bo, bo, bo, bo, bo, bo, bo, bo, bo, bo, bo, bo, bo]
abbrev b11A42 : Array Bool := #[bi, bi, bi, bi, bi, bi, bi, bi, bi, bi, bi, bo, bo, bo, bo, bo, bo, bo, bo, bo, bo, bo, bo, bo, bo, bo, bo, bo, bo, bo, bo, bo, bo, bo, bo, bo, bo, bo, bo, bo]
abbrev b11A43 : Array Bool := #[bi, bi, bi, bi, bi, bi, bi, bi, bi, bi, bi, bi, bo, bo, bo, bo, bo, bo, bo, bo, bo, bo, bo, bo, bo, bo, bo, bo, bo, bo, bo, bo, bo, bo, bo, bo, bo, bo, bo, bo]
abbrev b11A44 : Array Bool := #[bi, bi, bi, bi, bi, bi, bi, bi, bi, bi, bi, bi, bi, bo, bo, bo, bo, bo, bo, bo, bo, bo, bo, bo, bo, bo, bo, bo, bo, bo, bo, bo, bo, bo, bo, bo, bo, bo, bo, bo]
abbrev b11A45 : Array Bool := #[bi, bi, bi, bi, bi, bi, bi, bi, bi, bi, bi, bi, bi, bi, bo, bo, bo, bo, bo, bo, bo, bo, bo, bo, bo, bo, bo, bo, bo, bo, bo, bo, bo, bo, bo, bo, bo, bo, bo, bo]
/-! ### impl_AreSlots: function 120 -/
def impl_AreSlots.l0 : Nat → List (S154) → List (S154) → Int → Int → Option (Bool)
 | 0, _, _, _, _ => none
 | k + 1, x0, x8, x9, x10 => if x10 < x9 then (if 0 ≤ x10 then (if x10 < (x8.length : Int) then ((impl_InRange.f ((rd_T154 x8 x10).f0) 1 99).bind fun t277 => (if t277 = true then (if x10 > 0 then (if 0 ≤ (wrap64 (x10 - 1)) then (if (wrap64 (x10 - 1)) < (x0.length : Int) then (if ((rd_T154 x8 x10).f0) ≤ ((rd_T154 x0 (wrap64 (x10 - 1))).f0) then (some false) else ((impl_InRange.f ((rd_T154 x8 x10).f1) 1 50).bind fun t279 => (if t279 = true then ((impl_InRange.f ((rd_T154 x8 x10).f2) 0 999).bind fun t280 => (if t280 = true then (if x10 ≤ (x0.length : Int) then ((impl_SlotOf.f (x0.take (x10 : Int).toNat) ((rd_T154 x8 x10).f2)).bind fun t285 => (if t285 = 0 then (impl_AreSlots.l0 k x0 x8 x9 (wrap64 (x10 + 1))) else (some false))) else (none)) else (some false))) else (some false)))) else (none)) else (none)) else ((impl_InRange.f ((rd_T154 x8 x10).f1) 1 50).bind fun t286 => (if t286 = true then ((impl_InRange.f ((rd_T154 x8 x10).f2) 0 999).bind fun t287 => (if t287 = true then (if x10 ≤ (x0.length : Int) then ((impl_SlotOf.f (x0.take (x10 : Int).toNat) ((rd_T154 x8 x10).f2)).bind fun t292 => (if t292 = 0 then (impl_AreSlots.l0 k x0 x8 x9 (wrap64 (x10 + 1))) else (some false))) else (none)) else (some false))) else (some false)))) else (some false))) else (none)) else (none)) else (some true)
def impl_AreSlots.f (k : Nat) (l0 : List (S154)) : Option (Bool) := if (l0.length : Int) > 30 then (some false) else (impl_AreSlots.l0 k l0 l0 (l0.length : Int) 0)
def impl_AreSlots.T6 : Bool × List (List Nat × List Nat) := (true, [([], []), ([0], [0]), ([1], [1]), ([2], [2]), ([3, 2], [3]), ([4], [4]), ([5, 4], [4, 5]), ([6, 4, 4], [4, 6]), ([7], [7]), ([8, 7], [7, 8]), ([7], [7]), ([7], [7]), ([11, 7], [7, 11]), ([10, 12, 7], [7, 10, 12]), ([13, 7], [7, 13]), ([14, 7], [7, 14]), ([9, 15, 7], [7, 9, 15]), ([7, 16, 4], [4, 7, 16]), ([4, 17], [4, 17]), ([18, 7], [18]), ([19], [19]), ([20, 19], [19, 20]), ([21, 19, 19], [19, 21]), ([22, 19], [19, 22]), ([19, 23], [19, 23]), ([24, 22], [24]), ([25], [25]), ([26, 25], [25, 26]), ([27, 25, 25], [25, 27]), ([28, 25], [25, 28]), ([25, 29], [25, 29]), ([30, 28], [30]), ([31], [31]), ([31], [31]), ([32, 33, 31], [31, 32, 33]), ([31], [31]), ([35, 31], [31, 35]), ([34, 36, 31, 31], [31, 34, 36]), ([37, 31], [31, 37]), ([31, 38], [31, 38])])
def impl_AreSlots.B6 : List Nat := [0, 1, 3, 7, 15, 31, 63, 127, 255, 511, 255, 255, 2303, 7423, 15615, 31999, 65535, 131071, 262143, 524287, 1048575, 2097151, 4194303, 8388607, 16777215, 33554431, 67108863, 134217727, 268435455, 536870911, 1073741823, 2147483647, 4294967295, 4294967295, 17179869183, 4294967295, 38654705663, 137438953471, 274877906943, 549755813887]
theorem impl_AreSlots.tab6 : rtab .any (opsOf Try.f120 6) = impl_AreSlots.T6 := by kernel_rfl
theorem impl_AreSlots.bits6 : waitsOk impl_AreSlots.T6.2 impl_AreSlots.B6 = true := by kernel_rfl
set_option maxHeartbeats 8000000 in
set_option maxRecDepth 100000 in
theorem impl_AreSlots.calls (k : Nat) (A0 : Option Addr) (c0 : Nat) (l0 : List (S154)) (r : Bool) (w : World) (hr0 : Kd.C k154 w A0 l0.length l0) (hc0 : l0.length ≤ c0) (h : impl_AreSlots.f k l0 = some r) :
  Calls Try.prog 120 #[.slice A0 l0.length c0] w fun e w' => e = .returned (.bool r) ∧ Below w.heap.size w w' := by
 have hu154 := Try.underlying154
 have HR0 := zK hr0
 have HC0 := zK hc0
 clear hr0 hc0
 have HB := zK (Below.refl w.heap.size w)
 have H : (if (l0.length : Int) > 30 then (some false) else (impl_AreSlots.l0 k l0 l0 (l0.length : Int) 0)) = some r := h
 clear h
 by_cases c2 : (l0.length : Int) > 30
 ·rw [if_pos c2] at H
  have c2b0 : decide (30 < (l0.length : Int)) = true := decide_eq_true c2
  have c2b1 : decide (30 < l0.length) = true := decide_eq_true (by omega)
  clear c2
  obtain rfl := Option.some.inj H
  go_enter Try.func120, Try.ntmps120
  go_wp2
  go_ret
  exact ⟨by first | rfl | (simp [errW_none, errW_some] <;> rfl) | (simp [*, errW_none, errW_some] <;> rfl), by exact qB HB.out⟩
 rw [if_neg c2] at H
 have c2b0 : decide (30 < (l0.length : Int)) = false := decide_eq_false c2
 have c2b1 : decide (30 < l0.length) = false := decide_eq_false (by omega)
 clear c2
 have H' := zK H
 clear H
 go_enter Try.func120, Try.ntmps120
 go_wp2
 go_loopg [10] k (fun kq v10 w' => ∃ (x10_1 : Int), v10 = .int .i64 x10_1 ∧ Aside0 (impl_AreSlots.l0 kq l0 l0 (l0.length : Int) x10_1 = some r) ∧ Aside0 (kq ≤ k) ∧ Aside0 (Below w.heap.size w w'))
 case atStart => exact ⟨(0), (by first | rfl | (simp; done) | (simp [*]; done)), H', ⟨Nat.le_refl _⟩, ⟨by exact qB HB.out⟩⟩
 case round =>
  clear H'
  try clear c1
  try clear c2
  try clear c2b0
  try clear c2b1
  try clear p2
  obtain ⟨x10_1, rfl, HA, HK1, HB⟩ := hrel
  cases gk with
  | zero => exact absurd HA.out (by simp [impl_AreSlots.l0])
  | succ k1 =>
   have H := HA.out
   clear HA
   simp only [impl_AreSlots.l0] at H
   by_cases c3 : x10_1 < (l0.length : Int)
   rotate_left
   ·rw [if_neg c3] at H
    have c3b0 : decide (x10_1 < (l0.length : Int)) = false := decide_eq_false c3
    clear c3
    obtain rfl := Option.some.inj H
    go_wp2
    go_ret
    exact ⟨by first | rfl | (simp [errW_none, errW_some] <;> rfl) | (simp [*, errW_none, errW_some] <;> rfl), by exact qB HB.out⟩

   rw [if_pos c3] at H
   have c3b0 : decide (x10_1 < (l0.length : Int)) = true := decide_eq_true c3
   clear c3
   by_cases c4 : 0 ≤ x10_1
   rotate_left
   ·rw [if_neg c4] at H
    exact absurd H (by simp)
   rw [if_pos c4] at H
   have c4b0 : decide (0 ≤ x10_1) = true := decide_eq_true c4
   clear c4
   by_cases c5 : x10_1 < (l0.length : Int)
   rotate_left
   ·rw [if_neg c5] at H
    exact absurd H (by simp)
   rw [if_pos c5] at H
   have c5b0 : decide (x10_1 < (l0.length : Int)) = true := decide_eq_true c5
   clear c5
   replace H := Option.bind_eq_some_iff.mp H
   obtain ⟨t277, A60, H⟩ := H
   replace H : (if t277 = true then (if x10_1 > 0 then (if 0 ≤ (wrap64 (x10_1 - 1)) then (if (wrap64 (x10_1 - 1)) < (l0.length : Int) then (if ((rd_T154 l0 x10_1).f0) ≤ ((rd_T154 l0 (wrap64 (x10_1 - 1))).f0) then (some false) else ((impl_InRange.f ((rd_T154 l0 x10_1).f1) 1 50).bind fun t279 => (if t279 = true then ((impl_InRange.f ((rd_T154 l0 x10_1).f2) 0 999).bind fun t280 => (if t280 = true then (if x10_1 ≤ (l0.length : Int) then ((impl_SlotOf.f (l0.take (x10_1 : Int).toNat) ((rd_T154 l0 x10_1).f2)).bind fun t285 => (if t285 = 0 then (impl_AreSlots.l0 k1 l0 l0 (l0.length : Int) (wrap64 (x10_1 + 1))) else (some false))) else (none)) else (some false))) else (some false)))) else (none)) else (none)) else ((impl_InRange.f ((rd_T154 l0 x10_1).f1) 1 50).bind fun t286 => (if t286 = true then ((impl_InRange.f ((rd_T154 l0 x10_1).f2) 0 999).bind fun t287 => (if t287 = true then (if x10_1 ≤ (l0.length : Int) then ((impl_SlotOf.f (l0.take (x10_1 : Int).toNat) ((rd_T154 l0 x10_1).f2)).bind fun t292 => (if t292 = 0 then (impl_AreSlots.l0 k1 l0 l0 (l0.length : Int) (wrap64 (x10_1 + 1))) else (some false))) else (none)) else (some false))) else (some false)))) else (some false)) = some r := H
   have A6 := zK A60
   clear A60
   by_cases c7 : t277 = true
   rotate_left
   ·replace c7 := Bool.eq_false_iff.mpr c7
    subst c7
    have H1 : (some false) = some r := by rw [if_neg (show ¬ (false = true) by decide)] at H; exact H
    clear H
    have H := H1
    clear H1
    obtain rfl := Option.some.inj H
    have p275 : 0 ≤ (x10_1 : Int) := oD (by first | (with_reducible assumption) | assumption)
    have q275 : x10_1 < (l0.length : Int) := oD (by first | (with_reducible assumption) | assumption)
    obtain ⟨ad275, e275, hx275_0, hx275_1, hx275_2⟩ := at_T154 HR0.out x10_1 p275 q275
    cases e275
    replace hx275_0 := (HB.out.cell (bL w hx275_0)).trans hx275_0
    replace hx275_1 := (HB.out.cell (bL w hx275_1)).trans hx275_1
    replace hx275_2 := (HB.out.cell (bL w hx275_2)).trans hx275_2
    replace p275 := eq_true p275
    replace q275 := eq_true q275
    try go_wp2_with (first | ((with_reducible refine gate_dst (N := 4) rfl ?_); refine box_event ?hg (N := 4) ?hd (cs := #[.int .i64 0, .int .i64 0, .int .i64 0]) (t := 154) ?hr ?_; (case hd => rfl); (case hg => rfl); (case hr => first | (go_simp; done) | (go_simp; rfl)); intro gb276 hg w73 hbox hb; have n0_ := zK (bT (qB HB.out) hb); have n1_ := zK (hbox); have n2_ := zK ((by rw [hg]; exact (bZ (qB HB.out)) : w.heap.size ≤ gb276)); have n3_ := zK ((by rw [hg]; exact (bZ (qB HB.out)) : w.heap.size ≤ gb276)); clear HB; have HB := n0_; have BK276 := n1_; have GW276 := n2_; have GE276 := n3_; clear n0_ n1_ n2_ n3_; clear hb hbox hg; have hcz74_0 : w73.cell? ⟨gb276, 0, none⟩ = some (.int .i64 0) := (bc BK276.out 0).trans rfl; have hcz74_1 : w73.cell? ⟨gb276, 1, none⟩ = some (.int .i64 0) := (bc BK276.out 1).trans rfl; have hcz74_2 : w73.cell? ⟨gb276, 2, none⟩ = some (.int .i64 0) := (bc BK276.out 2).trans rfl; have hfz74_0 := bf BK276.out 0; have hfz74_1 := bf BK276.out 1; have hfz74_2 := bf BK276.out 2))
    have n0_ : Aside0 ((((w73.setCell ⟨gb276, 0, none⟩ (.int .i64 ((rd_T154 l0 x10_1).f0))).setCell ⟨gb276, 1, none⟩ (.int .i64 ((rd_T154 l0 x10_1).f1))).setCell ⟨gb276, 2, none⟩ (.int .i64 ((rd_T154 l0 x10_1).f2))).heap[gb276]? = some (.cells #[.int .i64 ((rd_T154 l0 x10_1).f0), .int .i64 ((rd_T154 l0 x10_1).f1), .int .i64 ((rd_T154 l0 x10_1).f2)] 154 (0, 0))) := ⟨by (with_reducible repeat (first | refine kN ?_ _ | refine kD ?_ | refine kA ?_ _)); refine blk_put (cs := #[.int .i64 ((rd_T154 l0 x10_1).f0), .int .i64 ((rd_T154 l0 x10_1).f1), .int .i64 0]) ?_ 2 _ rfl; (with_reducible repeat (first | refine kN ?_ _ | refine kD ?_ | refine kA ?_ _)); refine blk_put (cs := #[.int .i64 ((rd_T154 l0 x10_1).f0), .int .i64 0, .int .i64 0]) ?_ 1 _ rfl; (with_reducible repeat (first | refine kN ?_ _ | refine kD ?_ | refine kA ?_ _)); refine blk_put (cs := #[.int .i64 0, .int .i64 0, .int .i64 0]) ?_ 0 _ rfl; exact qK BK276.out⟩
    have n1_ : Aside0 (Below w.heap.size w (((w73.setCell ⟨gb276, 0, none⟩ (.int .i64 ((rd_T154 l0 x10_1).f0))).setCell ⟨gb276, 1, none⟩ (.int .i64 ((rd_T154 l0 x10_1).f1))).setCell ⟨gb276, 2, none⟩ (.int .i64 ((rd_T154 l0 x10_1).f2)))) := ⟨by repeat (first | (with_reducible first | exact HB.out | apply bA | apply bN | apply b1 | refine bS ?_ GE276.out) | exact HB.out)⟩
    (try clear BK276)
    (try clear HB)
    generalize (((w73.setCell ⟨gb276, 0, none⟩ (.int .i64 ((rd_T154 l0 x10_1).f0))).setCell ⟨gb276, 1, none⟩ (.int .i64 ((rd_T154 l0 x10_1).f1))).setCell ⟨gb276, 2, none⟩ (.int .i64 ((rd_T154 l0 x10_1).f2))) = w75 at n0_ n1_ ⊢
    have BK276 := n0_
    have HB := n1_
    clear n0_ n1_
    have n0_ := zK (kD BK276.out)
    have n1_ := zK (b1 HB.out)
    clear BK276
    clear HB
    have BK276 := n0_
    have HB := n1_
    clear n0_ n1_
    refine start_ (n := 40) (S := fun w' => w'.cell? ⟨gb276, 0, none⟩ = some (.int .i64 ((rd_T154 l0 x10_1).f0)) ∧ w'.cell? ⟨gb276, 1, none⟩ = some (.int .i64 ((rd_T154 l0 x10_1).f1)) ∧ w'.cell? ⟨gb276, 2, none⟩ = some (.int .i64 ((rd_T154 l0 x10_1).f2))) (ds := []) b11A0 (by kernel_rfl) rfl rfl ⟨(bc BK276.out 0).trans rfl, (bc BK276.out 1).trans rfl, (bc BK276.out 2).trans rfl⟩ (fun hHeld => ?_); refine with_tabW impl_AreSlots.tab6 impl_AreSlots.bits6 (fun HT_ HW_ => ?_)
    generalize w75.drew = w76 at BK276 HB hHeld ⊢
    refine pI 0 (some 15) b11A1 HT_ ?_
    refine tI 1 (some 16) b11A2 HT_ HW_ hHeld rfl rfl (Or.inl ⟨by rfl, by rintro w' ⟨s0, s1, s2⟩; go_simp; with_reducible rfl⟩) ?_
    refine one_ (i := 2) (N := some 17) b11A3 rfl rfl (one_of HT_.out (by kernel_rfl)) (by decide) (fun K hK => ?_)
    refine goes_ Try.func106 (by kernel_rfl) rfl #[.int .i64 ((rd_T154 l0 x10_1).f0), .int .i64 1, .int .i64 99] (by rfl) rfl rfl (by (try simp only [List.map_toArray, List.map_cons, List.map_nil]); first | done | rfl | (simp only [List.length_drop, List.length_take]; rfl)) ?_
    with_reducible refine (impl_InRange.calls ((rd_T154 l0 x10_1).f0) 1 99 false _ A6.out).mono ?_
    rintro e w' ⟨rfl, ⟨nd, rfl⟩⟩
    refine ⟨_, rfl, ?_⟩
    refine hK.out _ _ ⟨(bc BK276.out 0).trans rfl, (bc BK276.out 1).trans rfl, (bc BK276.out 2).trans rfl⟩ (fun hHeld => ?_)
    clear hK K
    refine norm_ (a' := ?_) ?_ ?_
    rotate_left
    ·show Act.put _ (some 17) _ = _
     simp only [Act.put, sA, sZ, sS, i64_w, i32_w]
     rfl
    refine pI 3 (some 18) b11A4 HT_ ?_
    refine pI 4 (some 19) b11A5 HT_ ?_
    refine pU 5 (some 20) b11A6 HT_ ?_
    refine pU 6 (some 21) b11A7 HT_ ?_
    refine pU 7 (some 22) b11A8 HT_ ?_
    refine pU 8 (some 23) b11A9 HT_ ?_
    refine pU 9 (some 24) b11A41 HT_ ?_
    refine pU 10 (some 25) b11A42 HT_ ?_
    refine pU 11 (some 26) b11A43 HT_ ?_
    refine pU 12 (some 27) b11A44 HT_ ?_
    refine pU 13 (some 28) b11A45 HT_ ?_
    refine pU 14 (some 29) b11A15 HT_ ?_
    refine pU 15 (some 30) b11A16 HT_ ?_
    refine pU 16 (some 31) b11A17 HT_ ?_
    refine pU 17 (some 32) b11A18 HT_ ?_
    refine pI 18 (some 33) b11A19 HT_ ?_
    refine pI 19 (some 34) b11A20 HT_ ?_
    refine pU 20 (some 35) b11A21 HT_ ?_
    refine pU 21 (some 36) b11A22 HT_ ?_
    refine pU 22 (some 37) b11A23 HT_ ?_
    refine pU 23 (some 38) b11A24 HT_ ?_
    refine pI 24 (some 39) b11A25 HT_ ?_
    refine pI 25 (some 40) b11A26 HT_ ?_
    refine pU 26 (some 41) b11A27 HT_ ?_
    refine pU 27 (some 42) b11A28 HT_ ?_
    refine pU 28 (some 43) b11A29 HT_ ?_
    refine pU 29 (some 44) b11A30 HT_ ?_
    refine pI 30 (some 45) b11A31 HT_ ?_
    refine pI 31 (some 46) b11A32 HT_ ?_
    refine pU 32 (some 47) b11A33 HT_ ?_
    refine pU 33 (some 48) b11A34 HT_ ?_
    refine pU 34 (some 49) b11A35 HT_ ?_
    refine pU 35 (some 50) b11A36 HT_ ?_
    refine pU 36 (some 51) b11A37 HT_ ?_
    refine pU 37 (some 52) b11A38 HT_ ?_
    refine pU 38 (some 53) b11A39 HT_ ?_
    refine pI 39 (some 54) b11A40 HT_ ?_
    refine done_ (done_of HT_.out (by kernel_rfl)) ?_
    try go_wp2
    go_ret
    exact ⟨by first | rfl | (simp [errW_none, errW_some] <;> rfl) | (simp [*, errW_none, errW_some] <;> rfl), by repeat (first | (with_reducible first | exact HB.out | apply bA | apply bN | apply b1 | refine bS ?_ GE276.out) | exact HB.out)⟩
   subst c7
   have H1 : (if x10_1 > 0 then (if 0 ≤ (wrap64 (x10_1 - 1)) then (if (wrap64 (x10_1 - 1)) < (l0.length : Int) then (if ((rd_T154 l0 x10_1).f0) ≤ ((rd_T154 l0 (wrap64 (x10_1 - 1))).f0) then (some false) else ((impl_InRange.f ((rd_T154 l0 x10_1).f1) 1 50).bind fun t279 => (if t279 = true then ((impl_InRange.f ((rd_T154 l0 x10_1).f2) 0 999).bind fun t280 => (if t280 = true then (if x10_1 ≤ (l0.length : Int) then ((impl_SlotOf.f (l0.take (x10_1 : Int).toNat) ((rd_T154 l0 x10_1).f2)).bind fun t285 => (if t285 = 0 then (impl_AreSlots.l0 k1 l0 l0 (l0.length : Int) (wrap64 (x10_1 + 1))) else (some false))) else (none)) else (some false))) else (some false)))) else (none)) else (none)) else ((impl_InRange.f ((rd_T154 l0 x10_1).f1) 1 50).bind fun t286 => (if t286 = true then ((impl_InRange.f ((rd_T154 l0 x10_1).f2) 0 999).bind fun t287 => (if t287 = true then (if x10_1 ≤ (l0.length : Int) then ((impl_SlotOf.f (l0.take (x10_1 : Int).toNat) ((rd_T154 l0 x10_1).f2)).bind fun t292 => (if t292 = 0 then (impl_AreSlots.l0 k1 l0 l0 (l0.length : Int) (wrap64 (x10_1 + 1))) else (some false))) else (none)) else (some false))) else (some false)))) = some r := by rw [if_pos rfl] at H; exact H
   clear H
   have H := H1
   clear H1
   by_cases c8 : x10_1 > 0
   rotate_left
   ·rw [if_neg c8] at H
    have c8b0 : decide (0 < x10_1) = false := decide_eq_false c8
    clear c8
    replace H := Option.bind_eq_some_iff.mp H
    obtain ⟨t286, A450, H⟩ := H
    replace H : (if t286 = true then ((impl_InRange.f ((rd_T154 l0 x10_1).f2) 0 999).bind fun t287 => (if t287 = true then (if x10_1 ≤ (l0.length : Int) then ((impl_SlotOf.f (l0.take (x10_1 : Int).toNat) ((rd_T154 l0 x10_1).f2)).bind fun t292 => (if t292 = 0 then (impl_AreSlots.l0 k1 l0 l0 (l0.length : Int) (wrap64 (x10_1 + 1))) else (some false))) else (none)) else (some false))) else (some false)) = some r := H
    have A45 := zK A450
    clear A450
    by_cases c46 : t286 = true
    rotate_left
    ·replace c46 := Bool.eq_false_iff.mpr c46
     subst c46
     have H1 : (some false) = some r := by rw [if_neg (show ¬ (false = true) by decide)] at H; exact H
     clear H
     have H := H1
     clear H1
     obtain rfl := Option.some.inj H
     have p275 : 0 ≤ (x10_1 : Int) := oD (by first | (with_reducible assumption) | assumption)
     have q275 : x10_1 < (l0.length : Int) := oD (by first | (with_reducible assumption) | assumption)
     obtain ⟨ad275, e275, hx275_0, hx275_1, hx275_2⟩ := at_T154 HR0.out x10_1 p275 q275
     cases e275
     replace hx275_0 := (HB.out.cell (bL w hx275_0)).trans hx275_0
     replace hx275_1 := (HB.out.cell (bL w hx275_1)).trans hx275_1
     replace hx275_2 := (HB.out.cell (bL w hx275_2)).trans hx275_2
     replace p275 := eq_true p275
     replace q275 := eq_true q275
     try go_wp2_with (first | ((with_reducible refine gate_dst (N := 4) rfl ?_); refine box_event ?hg (N := 4) ?hd (cs := #[.int .i64 0, .int .i64 0, .int .i64 0]) (t := 154) ?hr ?_; (case hd => rfl); (case hg => rfl); (case hr => first | (go_simp; done) | (go_simp; rfl)); intro gb276 hg w69 hbox hb; have n0_ := zK (bT (qB HB.out) hb); have n1_ := zK (hbox); have n2_ := zK ((by rw [hg]; exact (bZ (qB HB.out)) : w.heap.size ≤ gb276)); have n3_ := zK ((by rw [hg]; exact (bZ (qB HB.out)) : w.heap.size ≤ gb276)); clear HB; have HB := n0_; have BK276 := n1_; have GW276 := n2_; have GE276 := n3_; clear n0_ n1_ n2_ n3_; clear hb hbox hg; have hcz70_0 : w69.cell? ⟨gb276, 0, none⟩ = some (.int .i64 0) := (bc BK276.out 0).trans rfl; have hcz70_1 : w69.cell? ⟨gb276, 1, none⟩ = some (.int .i64 0) := (bc BK276.out 1).trans rfl; have hcz70_2 : w69.cell? ⟨gb276, 2, none⟩ = some (.int .i64 0) := (bc BK276.out 2).trans rfl; have hfz70_0 := bf BK276.out 0; have hfz70_1 := bf BK276.out 1; have hfz70_2 := bf BK276.out 2))
     have n0_ : Aside0 ((((w69.setCell ⟨gb276, 0, none⟩ (.int .i64 ((rd_T154 l0 x10_1).f0))).setCell ⟨gb276, 1, none⟩ (.int .i64 ((rd_T154 l0 x10_1).f1))).setCell ⟨gb276, 2, none⟩ (.int .i64 ((rd_T154 l0 x10_1).f2))).heap[gb276]? = some (.cells #[.int .i64 ((rd_T154 l0 x10_1).f0), .int .i64 ((rd_T154 l0 x10_1).f1), .int .i64 ((rd_T154 l0 x10_1).f2)] 154 (0, 0))) := ⟨by (with_reducible repeat (first | refine kN ?_ _ | refine kD ?_ | refine kA ?_ _)); refine blk_put (cs := #[.int .i64 ((rd_T154 l0 x10_1).f0), .int .i64 ((rd_T154 l0 x10_1).f1), .int .i64 0]) ?_ 2 _ rfl; (with_reducible repeat (first | refine kN ?_ _ | refine kD ?_ | refine kA ?_ _)); refine blk_put (cs := #[.int .i64 ((rd_T154 l0 x10_1).f0), .int .i64 0, .int .i64 0]) ?_ 1 _ rfl; (with_reducible repeat (first | refine kN ?_ _ | refine kD ?_ | refine kA ?_ _)); refine blk_put (cs := #[.int .i64 0, .int .i64 0, .int .i64 0]) ?_ 0 _ rfl; exact qK BK276.out⟩
     have n1_ : Aside0 (Below w.heap.size w (((w69.setCell ⟨gb276, 0, none⟩ (.int .i64 ((rd_T154 l0 x10_1).f0))).setCell ⟨gb276, 1, none⟩ (.int .i64 ((rd_T154 l0 x10_1).f1))).setCell ⟨gb276, 2, none⟩ (.int .i64 ((rd_T154 l0 x10_1).f2)))) := ⟨by repeat (first | (with_reducible first | exact HB.out | apply bA | apply bN | apply b1 | refine bS ?_ GE276.out) | exact HB.out)⟩
     (try clear BK276)
     (try clear HB)
     generalize (((w69.setCell ⟨gb276, 0, none⟩ (.int .i64 ((rd_T154 l0 x10_1).f0))).setCell ⟨gb276, 1, none⟩ (.int .i64 ((rd_T154 l0 x10_1).f1))).setCell ⟨gb276, 2, none⟩ (.int .i64 ((rd_T154 l0 x10_1).f2))) = w71 at n0_ n1_ ⊢
     have BK276 := n0_
     have HB := n1_
     clear n0_ n1_
     have n0_ := zK (kD BK276.out)
     have n1_ := zK (b1 HB.out)
     clear BK276
     clear HB
     have BK276 := n0_
     have HB := n1_
     clear n0_ n1_
     refine start_ (n := 40) (S := fun w' => w'.cell? ⟨gb276, 0, none⟩ = some (.int .i64 ((rd_T154 l0 x10_1).f0)) ∧ w'.cell? ⟨gb276, 1, none⟩ = some (.int .i64 ((rd_T154 l0 x10_1).f1)) ∧ w'.cell? ⟨gb276, 2, none⟩ = some (.int .i64 ((rd_T154 l0 x10_1).f2))) (ds := []) b11A0 (by kernel_rfl) rfl rfl ⟨(bc BK276.out 0).trans rfl, (bc BK276.out 1).trans rfl, (bc BK276.out 2).trans rfl⟩ (fun hHeld => ?_); refine with_tabW impl_AreSlots.tab6 impl_AreSlots.bits6 (fun HT_ HW_ => ?_)
     generalize w71.drew = w72 at BK276 HB hHeld ⊢
     refine pI 0 (some 15) b11A1 HT_ ?_
     refine tI 1 (some 16) b11A2 HT_ HW_ hHeld rfl rfl (Or.inl ⟨by rfl, by rintro w' ⟨s0, s1, s2⟩; go_simp; with_reducible rfl⟩) ?_
     refine one_ (i := 2) (N := some 17) b11A3 rfl rfl (one_of HT_.out (by kernel_rfl)) (by decide) (fun K hK => ?_)
     refine goes_ Try.func106 (by kernel_rfl) rfl #[.int .i64 ((rd_T154 l0 x10_1).f0), .int .i64 1, .int .i64 99] (by rfl) rfl rfl (by (try simp only [List.map_toArray, List.map_cons, List.map_nil]); first | done | rfl | (simp only [List.length_drop, List.length_take]; rfl)) ?_
     with_reducible refine (impl_InRange.calls ((rd_T154 l0 x10_1).f0) 1 99 true _ A6.out).mono ?_
     rintro e w' ⟨rfl, ⟨nd, rfl⟩⟩
     refine ⟨_, rfl, ?_⟩
     refine hK.out _ _ ⟨(bc BK276.out 0).trans rfl, (bc BK276.out 1).trans rfl, (bc BK276.out 2).trans rfl⟩ (fun hHeld => ?_)
     clear hK K
     refine norm_ (a' := ?_) ?_ ?_
     rotate_left
     ·show Act.put _ (some 17) _ = _
      simp only [Act.put, sA, sZ, sS, i64_w, i32_w]
      rfl
     refine pI 3 (some 18) b11A4 HT_ ?_
     refine pI 4 (some 19) b11A5 HT_ ?_
     refine pI 5 (some 20) b11A6 HT_ ?_
     refine pI 6 (some 21) b11A7 HT_ ?_
     refine pI 7 (some 22) b11A8 HT_ ?_
     refine pU 8 (some 23) b11A9 HT_ ?_
     refine pU 9 (some 24) b11A41 HT_ ?_
     refine pU 10 (some 25) b11A42 HT_ ?_
     refine pU 11 (some 26) b11A43 HT_ ?_
     refine pU 12 (some 27) b11A44 HT_ ?_
     refine pU 13 (some 28) b11A45 HT_ ?_
     refine pU 14 (some 29) b11A15 HT_ ?_
     refine pU 15 (some 30) b11A16 HT_ ?_
     refine pU 16 (some 31) b11A17 HT_ ?_
     refine pI 17 (some 32) b11A18 HT_ ?_
     refine pI 18 (some 33) b11A19 HT_ ?_
     refine pI 19 (some 34) b11A20 HT_ ?_
     refine pI 20 (some 35) b11A21 HT_ ?_
     refine tI 21 (some 36) b11A22 HT_ HW_ hHeld rfl rfl (Or.inl ⟨by rfl, by rintro w' ⟨s0, s1, s2⟩; go_simp; with_reducible rfl⟩) ?_
     refine one_ (i := 22) (N := some 37) b11A23 rfl rfl (one_of HT_.out (by kernel_rfl)) (by decide) (fun K hK => ?_)
     refine goes_ Try.func106 (by kernel_rfl) rfl #[.int .i64 ((rd_T154 l0 x10_1).f1), .int .i64 1, .int .i64 50] (by rfl) rfl rfl (by (try simp only [List.map_toArray, List.map_cons, List.map_nil]); first | done | rfl | (simp only [List.length_drop, List.length_take]; rfl)) ?_
     with_reducible refine (impl_InRange.calls ((rd_T154 l0 x10_1).f1) 1 50 false _ A45.out).mono ?_
     rintro e w' ⟨rfl, ⟨nd, rfl⟩⟩
     refine ⟨_, rfl, ?_⟩
     refine hK.out _ _ ⟨(bc BK276.out 0).trans rfl, (bc BK276.out 1).trans rfl, (bc BK276.out 2).trans rfl⟩ (fun hHeld => ?_)
     clear hK K
     refine norm_ (a' := ?_) ?_ ?_
     rotate_left
     ·show Act.put _ (some 37) _ = _
      simp only [Act.put, sA, sZ, sS, i64_w, i32_w]
      rfl
     refine pI 23 (some 38) b11A24 HT_ ?_
     refine pI 24 (some 39) b11A25 HT_ ?_
     refine pI 25 (some 40) b11A26 HT_ ?_
     refine pU 26 (some 41) b11A27 HT_ ?_
     refine pU 27 (some 42) b11A28 HT_ ?_
     refine pU 28 (some 43) b11A29 HT_ ?_
     refine pU 29 (some 44) b11A30 HT_ ?_
     refine pI 30 (some 45) b11A31 HT_ ?_
     refine pI 31 (some 46) b11A32 HT_ ?_
     refine pU 32 (some 47) b11A33 HT_ ?_
     refine pU 33 (some 48) b11A34 HT_ ?_
     refine pU 34 (some 49) b11A35 HT_ ?_
     refine pU 35 (some 50) b11A36 HT_ ?_
     refine pU 36 (some 51) b11A37 HT_ ?_
     refine pU 37 (some 52) b11A38 HT_ ?_
     refine pU 38 (some 53) b11A39 HT_ ?_
     refine pI 39 (some 54) b11A40 HT_ ?_
     refine done_ (done_of HT_.out (by kernel_rfl)) ?_
     try go_wp2
     go_ret
     exact ⟨by first | rfl | (simp [errW_none, errW_some] <;> rfl) | (simp [*, errW_none, errW_some] <;> rfl), by repeat (first | (with_reducible first | exact HB.out | apply bA | apply bN | apply b1 | refine bS ?_ GE276.out) | exact HB.out)⟩
    subst c46
    have H1 : ((impl_InRange.f ((rd_T154 l0 x10_1).f2) 0 999).bind fun t287 => (if t287 = true then (if x10_1 ≤ (l0.length : Int) then ((impl_SlotOf.f (l0.take (x10_1 : Int).toNat) ((rd_T154 l0 x10_1).f2)).bind fun t292 => (if t292 = 0 then (impl_AreSlots.l0 k1 l0 l0 (l0.length : Int) (wrap64 (x10_1 + 1))) else (some false))) else (none)) else (some false))) = some r := by rw [if_pos rfl] at H; exact H
    clear H
    have H := H1
    clear H1
    replace H := Option.bind_eq_some_iff.mp H
    obtain ⟨t287, A470, H⟩ := H
    replace H : (if t287 = true then (if x10_1 ≤ (l0.length : Int) then ((impl_SlotOf.f (l0.take (x10_1 : Int).toNat) ((rd_T154 l0 x10_1).f2)).bind fun t292 => (if t292 = 0 then (impl_AreSlots.l0 k1 l0 l0 (l0.length : Int) (wrap64 (x10_1 + 1))) else (some false))) else (none)) else (some false)) = some r := H
    have A47 := zK A470
    clear A470
    by_cases c48 : t287 = true
    rotate_left
    ·replace c48 := Bool.eq_false_iff.mpr c48
     subst c48
     have H1 : (some false) = some r := by rw [if_neg (show ¬ (false = true) by decide)] at H; exact H
     clear H
     have H := H1
     clear H1
     obtain rfl := Option.some.inj H
     have p275 : 0 ≤ (x10_1 : Int) := oD (by first | (with_reducible assumption) | assumption)
     have q275 : x10_1 < (l0.length : Int) := oD (by first | (with_reducible assumption) | assumption)
     obtain ⟨ad275, e275, hx275_0, hx275_1, hx275_2⟩ := at_T154 HR0.out x10_1 p275 q275
     cases e275
     replace hx275_0 := (HB.out.cell (bL w hx275_0)).trans hx275_0
     replace hx275_1 := (HB.out.cell (bL w hx275_1)).trans hx275_1
     replace hx275_2 := (HB.out.cell (bL w hx275_2)).trans hx275_2
     replace p275 := eq_true p275
     replace q275 := eq_true q275
     try go_wp2_with (first | ((with_reducible refine gate_dst (N := 4) rfl ?_); refine box_event ?hg (N := 4) ?hd (cs := #[.int .i64 0, .int .i64 0, .int .i64 0]) (t := 154) ?hr ?_; (case hd => rfl); (case hg => rfl); (case hr => first | (go_simp; done) | (go_simp; rfl)); intro gb276 hg w65 hbox hb; have n0_ := zK (bT (qB HB.out) hb); have n1_ := zK (hbox); have n2_ := zK ((by rw [hg]; exact (bZ (qB HB.out)) : w.heap.size ≤ gb276)); have n3_ := zK ((by rw [hg]; exact (bZ (qB HB.out)) : w.heap.size ≤ gb276)); clear HB; have HB := n0_; have BK276 := n1_; have GW276 := n2_; have GE276 := n3_; clear n0_ n1_ n2_ n3_; clear hb hbox hg; have hcz66_0 : w65.cell? ⟨gb276, 0, none⟩ = some (.int .i64 0) := (bc BK276.out 0).trans rfl; have hcz66_1 : w65.cell? ⟨gb276, 1, none⟩ = some (.int .i64 0) := (bc BK276.out 1).trans rfl; have hcz66_2 : w65.cell? ⟨gb276, 2, none⟩ = some (.int .i64 0) := (bc BK276.out 2).trans rfl; have hfz66_0 := bf BK276.out 0; have hfz66_1 := bf BK276.out 1; have hfz66_2 := bf BK276.out 2))
     have n0_ : Aside0 ((((w65.setCell ⟨gb276, 0, none⟩ (.int .i64 ((rd_T154 l0 x10_1).f0))).setCell ⟨gb276, 1, none⟩ (.int .i64 ((rd_T154 l0 x10_1).f1))).setCell ⟨gb276, 2, none⟩ (.int .i64 ((rd_T154 l0 x10_1).f2))).heap[gb276]? = some (.cells #[.int .i64 ((rd_T154 l0 x10_1).f0), .int .i64 ((rd_T154 l0 x10_1).f1), .int .i64 ((rd_T154 l0 x10_1).f2)] 154 (0, 0))) := ⟨by (with_reducible repeat (first | refine kN ?_ _ | refine kD ?_ | refine kA ?_ _)); refine blk_put (cs := #[.int .i64 ((rd_T154 l0 x10_1).f0), .int .i64 ((rd_T154 l0 x10_1).f1), .int .i64 0]) ?_ 2 _ rfl; (with_reducible repeat (first | refine kN ?_ _ | refine kD ?_ | refine kA ?_ _)); refine blk_put (cs := #[.int .i64 ((rd_T154 l0 x10_1).f0), .int .i64 0, .int .i64 0]) ?_ 1 _ rfl; (with_reducible repeat (first | refine kN ?_ _ | refine kD ?_ | refine kA ?_ _)); refine blk_put (cs := #[.int .i64 0, .int .i64 0, .int .i64 0]) ?_ 0 _ rfl; exact qK BK276.out⟩
     have n1_ : Aside0 (Below w.heap.size w (((w65.setCell ⟨gb276, 0, none⟩ (.int .i64 ((rd_T154 l0 x10_1).f0))).setCell ⟨gb276, 1, none⟩ (.int .i64 ((rd_T154 l0 x10_1).f1))).setCell ⟨gb276, 2, none⟩ (.int .i64 ((rd_T154 l0 x10_1).f2)))) := ⟨by repeat (first | (with_reducible first | exact HB.out | apply bA | apply bN | apply b1 | refine bS ?_ GE276.out) | exact HB.out)⟩
     (try clear BK276)
     (try clear HB)
     generalize (((w65.setCell ⟨gb276, 0, none⟩ (.int .i64 ((rd_T154 l0 x10_1).f0))).setCell ⟨gb276, 1, none⟩ (.int .i64 ((rd_T154 l0 x10_1).f1))).setCell ⟨gb276, 2, none⟩ (.int .i64 ((rd_T154 l0 x10_1).f2))) = w67 at n0_ n1_ ⊢
     have BK276 := n0_
     have HB := n1_
     clear n0_ n1_
     have n0_ := zK (kD BK276.out)
     have n1_ := zK (b1 HB.out)
     clear BK276
     clear HB
     have BK276 := n0_
     have HB := n1_
     clear n0_ n1_
     refine start_ (n := 40) (S := fun w' => w'.cell? ⟨gb276, 0, none⟩ = some (.int .i64 ((rd_T154 l0 x10_1).f0)) ∧ w'.cell? ⟨gb276, 1, none⟩ = some (.int .i64 ((rd_T154 l0 x10_1).f1)) ∧ w'.cell? ⟨gb276, 2, none⟩ = some (.int .i64 ((rd_T154 l0 x10_1).f2))) (ds := []) b11A0 (by kernel_rfl) rfl rfl ⟨(bc BK276.out 0).trans rfl, (bc BK276.out 1).trans rfl, (bc BK276.out 2).trans rfl⟩ (fun hHeld => ?_); refine with_tabW impl_AreSlots.tab6 impl_AreSlots.bits6 (fun HT_ HW_ => ?_)
     generalize w67.drew = w68 at BK276 HB hHeld ⊢
     refine pI 0 (some 15) b11A1 HT_ ?_
     refine tI 1 (some 16) b11A2 HT_ HW_ hHeld rfl rfl (Or.inl ⟨by rfl, by rintro w' ⟨s0, s1, s2⟩; go_simp; with_reducible rfl⟩) ?_
     refine one_ (i := 2) (N := some 17) b11A3 rfl rfl (one_of HT_.out (by kernel_rfl)) (by decide) (fun K hK => ?_)
     refine goes_ Try.func106 (by kernel_rfl) rfl #[.int .i64 ((rd_T154 l0 x10_1).f0), .int .i64 1, .int .i64 99] (by rfl) rfl rfl (by (try simp only [List.map_toArray, List.map_cons, List.map_nil]); first | done | rfl | (simp only [List.length_drop, List.length_take]; rfl)) ?_
     with_reducible refine (impl_InRange.calls ((rd_T154 l0 x10_1).f0) 1 99 true _ A6.out).mono ?_
     rintro e w' ⟨rfl, ⟨nd, rfl⟩⟩
     refine ⟨_, rfl, ?_⟩
     refine hK.out _ _ ⟨(bc BK276.out 0).trans rfl, (bc BK276.out 1).trans rfl, (bc BK276.out 2).trans rfl⟩ (fun hHeld => ?_)
     clear hK K
     refine norm_ (a' := ?_) ?_ ?_
     rotate_left
     ·show Act.put _ (some 17) _ = _
      simp only [Act.put, sA, sZ, sS, i64_w, i32_w]
      rfl
     refine pI 3 (some 18) b11A4 HT_ ?_
     refine pI 4 (some 19) b11A5 HT_ ?_
     refine pI 5 (some 20) b11A6 HT_ ?_
     refine pI 6 (some 21) b11A7 HT_ ?_
     refine pI 7 (some 22) b11A8 HT_ ?_
     refine pU 8 (some 23) b11A9 HT_ ?_
     refine pU 9 (some 24) b11A41 HT_ ?_
     refine pU 10 (some 25) b11A42 HT_ ?_
     refine pU 11 (some 26) b11A43 HT_ ?_
     refine pU 12 (some 27) b11A44 HT_ ?_
     refine pU 13 (some 28) b11A45 HT_ ?_
     refine pU 14 (some 29) b11A15 HT_ ?_
     refine pU 15 (some 30) b11A16 HT_ ?_
     refine pU 16 (some 31) b11A17 HT_ ?_
     refine pI 17 (some 32) b11A18 HT_ ?_
     refine pI 18 (some 33) b11A19 HT_ ?_
     refine pI 19 (some 34) b11A20 HT_ ?_
     refine pI 20 (some 35) b11A21 HT_ ?_
     refine tI 21 (some 36) b11A22 HT_ HW_ hHeld rfl rfl (Or.inl ⟨by rfl, by rintro w' ⟨s0, s1, s2⟩; go_simp; with_reducible rfl⟩) ?_
     refine one_ (i := 22) (N := some 37) b11A23 rfl rfl (one_of HT_.out (by kernel_rfl)) (by decide) (fun K hK => ?_)
     refine goes_ Try.func106 (by kernel_rfl) rfl #[.int .i64 ((rd_T154 l0 x10_1).f1), .int .i64 1, .int .i64 50] (by rfl) rfl rfl (by (try simp only [List.map_toArray, List.map_cons, List.map_nil]); first | done | rfl | (simp only [List.length_drop, List.length_take]; rfl)) ?_
     with_reducible refine (impl_InRange.calls ((rd_T154 l0 x10_1).f1) 1 50 true _ A45.out).mono ?_
     rintro e w' ⟨rfl, ⟨nd, rfl⟩⟩
     refine ⟨_, rfl, ?_⟩
     refine hK.out _ _ ⟨(bc BK276.out 0).trans rfl, (bc BK276.out 1).trans rfl, (bc BK276.out 2).trans rfl⟩ (fun hHeld => ?_)
     clear hK K
     refine norm_ (a' := ?_) ?_ ?_
     rotate_left
     ·show Act.put _ (some 37) _ = _
      simp only [Act.put, sA, sZ, sS, i64_w, i32_w]
      rfl
     refine pI 23 (some 38) b11A24 HT_ ?_
     refine pI 24 (some 39) b11A25 HT_ ?_
     refine pI 25 (some 40) b11A26 HT_ ?_
     refine pI 26 (some 41) b11A27 HT_ ?_
     refine tI 27 (some 42) b11A28 HT_ HW_ hHeld rfl rfl (Or.inl ⟨by rfl, by rintro w' ⟨s0, s1, s2⟩; go_simp; with_reducible rfl⟩) ?_
     refine one_ (i := 28) (N := some 43) b11A29 rfl rfl (one_of HT_.out (by kernel_rfl)) (by decide) (fun K hK => ?_)
     refine goes_ Try.func106 (by kernel_rfl) rfl #[.int .i64 ((rd_T154 l0 x10_1).f2), .int .i64 0, .int .i64 999] (by rfl) rfl rfl (by (try simp only [List.map_toArray, List.map_cons, List.map_nil]); first | done | rfl | (simp only [List.length_drop, List.length_take]; rfl)) ?_
     with_reducible refine (impl_InRange.calls ((rd_T154 l0 x10_1).f2) 0 999 false _ A47.out).mono ?_
     rintro e w' ⟨rfl, ⟨nd, rfl⟩⟩
     refine ⟨_, rfl, ?_⟩
     refine hK.out _ _ ⟨(bc BK276.out 0).trans rfl, (bc BK276.out 1).trans rfl, (bc BK276.out 2).trans rfl⟩ (fun hHeld => ?_)
     clear hK K
     refine norm_ (a' := ?_) ?_ ?_
     rotate_left
     ·show Act.put _ (some 43) _ = _
      simp only [Act.put, sA, sZ, sS, i64_w, i32_w]
      rfl
     refine pI 29 (some 44) b11A30 HT_ ?_
     refine pI 30 (some 45) b11A31 HT_ ?_
     refine pI 31 (some 46) b11A32 HT_ ?_
     refine pU 32 (some 47) b11A33 HT_ ?_
     refine pU 33 (some 48) b11A34 HT_ ?_
     refine pU 34 (some 49) b11A35 HT_ ?_
     refine pU 35 (some 50) b11A36 HT_ ?_
     refine pU 36 (some 51) b11A37 HT_ ?_
     refine pU 37 (some 52) b11A38 HT_ ?_
     refine pU 38 (some 53) b11A39 HT_ ?_
     refine pI 39 (some 54) b11A40 HT_ ?_
     refine done_ (done_of HT_.out (by kernel_rfl)) ?_
     try go_wp2
     go_ret
     exact ⟨by first | rfl | (simp [errW_none, errW_some] <;> rfl) | (simp [*, errW_none, errW_some] <;> rfl), by repeat (first | (with_reducible first | exact HB.out | apply bA | apply bN | apply b1 | refine bS ?_ GE276.out) | exact HB.out)⟩
    subst c48
    have H1 : (if x10_1 ≤ (l0.length : Int) then ((impl_SlotOf.f (l0.take (x10_1 : Int).toNat) ((rd_T154 l0 x10_1).f2)).bind fun t292 => (if t292 = 0 then (impl_AreSlots.l0 k1 l0 l0 (l0.length : Int) (wrap64 (x10_1 + 1))) else (some false))) else (none)) = some r := by rw [if_pos rfl] at H; exact H
    clear H
    have H := H1
    clear H1
    have c49b0 := eq_true (oD (by first | (with_reducible assumption) | assumption) : 0 ≤ x10_1)
    by_cases c50 : x10_1 ≤ (l0.length : Int)
    rotate_left
    ·rw [if_neg c50] at H
     exact absurd H (by simp)
    rw [if_pos c50] at H
    have c50b0 := eq_true c50
    have c50b1 : decide (x10_1 ≤ (l0.length : Int)) = true := decide_eq_true c50
    clear c50
    obtain ⟨y288, hy288⟩ : ∃ y_ : List (S154), y_ = (l0.take (x10_1 : Int).toNat) := ⟨_, rfl⟩
    replace H : ((impl_SlotOf.f y288 ((rd_T154 l0 x10_1).f2)).bind fun t292 => (if t292 = 0 then (impl_AreSlots.l0 k1 l0 l0 (l0.length : Int) (wrap64 (x10_1 + 1))) else (some false))) = some r := by first | (rw [hy288]; with_reducible exact H) | (have H2_ := (Option.bind_some _ _).symm.trans H; rw [hy288]; with_reducible exact H2_) | (have H2_ := (Option.bind_some _ _).symm.trans H; with_reducible exact H2_) | with_reducible exact H | (rw [hy288]; exact H) | exact H
    have Ny288 := zK hy288
    clear hy288
    replace H := Option.bind_eq_some_iff.mp H
    obtain ⟨t292, A510, H⟩ := H
    replace H : (if t292 = 0 then (impl_AreSlots.l0 k1 l0 l0 (l0.length : Int) (wrap64 (x10_1 + 1))) else (some false)) = some r := H
    have A51 := zK A510
    clear A510
    by_cases c52 : t292 = 0
    rotate_left
    ·rw [if_neg c52] at H
     have c52b0 : (t292 == 0) = false := beq_eq_false_iff_ne.mpr c52
     have c52b1 : (t292 != 0) = true := bne_iff_ne.mpr c52
     obtain rfl := Option.some.inj H
     have p275 : 0 ≤ (x10_1 : Int) := oD (by first | (with_reducible assumption) | assumption)
     have q275 : x10_1 < (l0.length : Int) := oD (by first | (with_reducible assumption) | assumption)
     obtain ⟨ad275, e275, hx275_0, hx275_1, hx275_2⟩ := at_T154 HR0.out x10_1 p275 q275
     cases e275
     replace hx275_0 := (HB.out.cell (bL w hx275_0)).trans hx275_0
     replace hx275_1 := (HB.out.cell (bL w hx275_1)).trans hx275_1
     replace hx275_2 := (HB.out.cell (bL w hx275_2)).trans hx275_2
     replace p275 := eq_true p275
     replace q275 := eq_true q275
     try go_wp2_with (first | ((with_reducible refine gate_dst (N := 4) rfl ?_); refine box_event ?hg (N := 4) ?hd (cs := #[.int .i64 0, .int .i64 0, .int .i64 0]) (t := 154) ?hr ?_; (case hd => rfl); (case hg => rfl); (case hr => first | (go_simp; done) | (go_simp; rfl)); intro gb276 hg w59 hbox hb; have n0_ := zK (bT (qB HB.out) hb); have n1_ := zK (hbox); have n2_ := zK ((by rw [hg]; exact (bZ (qB HB.out)) : w.heap.size ≤ gb276)); have n3_ := zK ((by rw [hg]; exact (bZ (qB HB.out)) : w.heap.size ≤ gb276)); clear HB; have HB := n0_; have BK276 := n1_; have GW276 := n2_; have GE276 := n3_; clear n0_ n1_ n2_ n3_; clear hb hbox hg; have hcz60_0 : w59.cell? ⟨gb276, 0, none⟩ = some (.int .i64 0) := (bc BK276.out 0).trans rfl; have hcz60_1 : w59.cell? ⟨gb276, 1, none⟩ = some (.int .i64 0) := (bc BK276.out 1).trans rfl; have hcz60_2 : w59.cell? ⟨gb276, 2, none⟩ = some (.int .i64 0) := (bc BK276.out 2).trans rfl; have hfz60_0 := bf BK276.out 0; have hfz60_1 := bf BK276.out 1; have hfz60_2 := bf BK276.out 2))
     have n0_ : Aside0 ((((w59.setCell ⟨gb276, 0, none⟩ (.int .i64 ((rd_T154 l0 x10_1).f0))).setCell ⟨gb276, 1, none⟩ (.int .i64 ((rd_T154 l0 x10_1).f1))).setCell ⟨gb276, 2, none⟩ (.int .i64 ((rd_T154 l0 x10_1).f2))).heap[gb276]? = some (.cells #[.int .i64 ((rd_T154 l0 x10_1).f0), .int .i64 ((rd_T154 l0 x10_1).f1), .int .i64 ((rd_T154 l0 x10_1).f2)] 154 (0, 0))) := ⟨by (with_reducible repeat (first | refine kN ?_ _ | refine kD ?_ | refine kA ?_ _)); refine blk_put (cs := #[.int .i64 ((rd_T154 l0 x10_1).f0), .int .i64 ((rd_T154 l0 x10_1).f1), .int .i64 0]) ?_ 2 _ rfl; (with_reducible repeat (first | refine kN ?_ _ | refine kD ?_ | refine kA ?_ _)); refine blk_put (cs := #[.int .i64 ((rd_T154 l0 x10_1).f0), .int .i64 0, .int .i64 0]) ?_ 1 _ rfl; (with_reducible repeat (first | refine kN ?_ _ | refine kD ?_ | refine kA ?_ _)); refine blk_put (cs := #[.int .i64 0, .int .i64 0, .int .i64 0]) ?_ 0 _ rfl; exact qK BK276.out⟩
     have n1_ : Aside0 (Below w.heap.size w (((w59.setCell ⟨gb276, 0, none⟩ (.int .i64 ((rd_T154 l0 x10_1).f0))).setCell ⟨gb276, 1, none⟩ (.int .i64 ((rd_T154 l0 x10_1).f1))).setCell ⟨gb276, 2, none⟩ (.int .i64 ((rd_T154 l0 x10_1).f2)))) := ⟨by repeat (first | (with_reducible first | exact HB.out | apply bA | apply bN | apply b1 | refine bS ?_ GE276.out) | exact HB.out)⟩
     (try clear BK276)
     (try clear HB)
     generalize (((w59.setCell ⟨gb276, 0, none⟩ (.int .i64 ((rd_T154 l0 x10_1).f0))).setCell ⟨gb276, 1, none⟩ (.int .i64 ((rd_T154 l0 x10_1).f1))).setCell ⟨gb276, 2, none⟩ (.int .i64 ((rd_T154 l0 x10_1).f2))) = w61 at n0_ n1_ ⊢
     have BK276 := n0_
     have HB := n1_
     clear n0_ n1_
     have n0_ := zK (kD BK276.out)
     have n1_ := zK (b1 HB.out)
     clear BK276
     clear HB
     have BK276 := n0_
     have HB := n1_
     clear n0_ n1_
     refine start_ (n := 40) (S := fun w' => w'.cell? ⟨gb276, 0, none⟩ = some (.int .i64 ((rd_T154 l0 x10_1).f0)) ∧ w'.cell? ⟨gb276, 1, none⟩ = some (.int .i64 ((rd_T154 l0 x10_1).f1)) ∧ w'.cell? ⟨gb276, 2, none⟩ = some (.int .i64 ((rd_T154 l0 x10_1).f2))) (ds := []) b11A0 (by kernel_rfl) rfl rfl ⟨(bc BK276.out 0).trans rfl, (bc BK276.out 1).trans rfl, (bc BK276.out 2).trans rfl⟩ (fun hHeld => ?_); refine with_tabW impl_AreSlots.tab6 impl_AreSlots.bits6 (fun HT_ HW_ => ?_)
     generalize w61.drew = w62 at BK276 HB hHeld ⊢
     refine pI 0 (some 15) b11A1 HT_ ?_
     refine tI 1 (some 16) b11A2 HT_ HW_ hHeld rfl rfl (Or.inl ⟨by rfl, by rintro w' ⟨s0, s1, s2⟩; go_simp; with_reducible rfl⟩) ?_
     refine one_ (i := 2) (N := some 17) b11A3 rfl rfl (one_of HT_.out (by kernel_rfl)) (by decide) (fun K hK => ?_)
     refine goes_ Try.func106 (by kernel_rfl) rfl #[.int .i64 ((rd_T154 l0 x10_1).f0), .int .i64 1, .int .i64 99] (by rfl) rfl rfl (by (try simp only [List.map_toArray, List.map_cons, List.map_nil]); first | done | rfl | (simp only [List.length_drop, List.length_take]; rfl)) ?_
     with_reducible refine (impl_InRange.calls ((rd_T154 l0 x10_1).f0) 1 99 true _ A6.out).mono ?_
     rintro e w' ⟨rfl, ⟨nd, rfl⟩⟩
     refine ⟨_, rfl, ?_⟩
     refine hK.out _ _ ⟨(bc BK276.out 0).trans rfl, (bc BK276.out 1).trans rfl, (bc BK276.out 2).trans rfl⟩ (fun hHeld => ?_)
     clear hK K
     refine norm_ (a' := ?_) ?_ ?_
     rotate_left
     ·show Act.put _ (some 17) _ = _
      simp only [Act.put, sA, sZ, sS, i64_w, i32_w]
      rfl
     refine pI 3 (some 18) b11A4 HT_ ?_
     refine pI 4 (some 19) b11A5 HT_ ?_
     refine pI 5 (some 20) b11A6 HT_ ?_
     refine pI 6 (some 21) b11A7 HT_ ?_
     refine pI 7 (some 22) b11A8 HT_ ?_
     refine pU 8 (some 23) b11A9 HT_ ?_
     refine pU 9 (some 24) b11A41 HT_ ?_
     refine pU 10 (some 25) b11A42 HT_ ?_
     refine pU 11 (some 26) b11A43 HT_ ?_
     refine pU 12 (some 27) b11A44 HT_ ?_
     refine pU 13 (some 28) b11A45 HT_ ?_
     refine pU 14 (some 29) b11A15 HT_ ?_
     refine pU 15 (some 30) b11A16 HT_ ?_
     refine pU 16 (some 31) b11A17 HT_ ?_
     refine pI 17 (some 32) b11A18 HT_ ?_
     refine pI 18 (some 33) b11A19 HT_ ?_
     refine pI 19 (some 34) b11A20 HT_ ?_
     refine pI 20 (some 35) b11A21 HT_ ?_
     refine tI 21 (some 36) b11A22 HT_ HW_ hHeld rfl rfl (Or.inl ⟨by rfl, by rintro w' ⟨s0, s1, s2⟩; go_simp; with_reducible rfl⟩) ?_
     refine one_ (i := 22) (N := some 37) b11A23 rfl rfl (one_of HT_.out (by kernel_rfl)) (by decide) (fun K hK => ?_)
     refine goes_ Try.func106 (by kernel_rfl) rfl #[.int .i64 ((rd_T154 l0 x10_1).f1), .int .i64 1, .int .i64 50] (by rfl) rfl rfl (by (try simp only [List.map_toArray, List.map_cons, List.map_nil]); first | done | rfl | (simp only [List.length_drop, List.length_take]; rfl)) ?_
     with_reducible refine (impl_InRange.calls ((rd_T154 l0 x10_1).f1) 1 50 true _ A45.out).mono ?_
     rintro e w' ⟨rfl, ⟨nd, rfl⟩⟩
     refine ⟨_, rfl, ?_⟩
     refine hK.out _ _ ⟨(bc BK276.out 0).trans rfl, (bc BK276.out 1).trans rfl, (bc BK276.out 2).trans rfl⟩ (fun hHeld => ?_)
     clear hK K
     refine norm_ (a' := ?_) ?_ ?_
     rotate_left
     ·show Act.put _ (some 37) _ = _
      simp only [Act.put, sA, sZ, sS, i64_w, i32_w]
      rfl
     refine pI 23 (some 38) b11A24 HT_ ?_
     refine pI 24 (some 39) b11A25 HT_ ?_
     refine pI 25 (some 40) b11A26 HT_ ?_
     refine pI 26 (some 41) b11A27 HT_ ?_
     refine tI 27 (some 42) b11A28 HT_ HW_ hHeld rfl rfl (Or.inl ⟨by rfl, by rintro w' ⟨s0, s1, s2⟩; go_simp; with_reducible rfl⟩) ?_
     refine one_ (i := 28) (N := some 43) b11A29 rfl rfl (one_of HT_.out (by kernel_rfl)) (by decide) (fun K hK => ?_)
     refine goes_ Try.func106 (by kernel_rfl) rfl #[.int .i64 ((rd_T154 l0 x10_1).f2), .int .i64 0, .int .i64 999] (by rfl) rfl rfl (by (try simp only [List.map_toArray, List.map_cons, List.map_nil]); first | done | rfl | (simp only [List.length_drop, List.length_take]; rfl)) ?_
     with_reducible refine (impl_InRange.calls ((rd_T154 l0 x10_1).f2) 0 999 true _ A47.out).mono ?_
     rintro e w' ⟨rfl, ⟨nd, rfl⟩⟩
     refine ⟨_, rfl, ?_⟩
     have q63 : (x10_1 : Int) ≤ ((l0.length : Int) : Int) := oD (by first | (with_reducible assumption) | assumption)
     obtain ⟨i063, hi063, _, hsz63, _⟩ := info_parts info154
     have hroom63 : l0.length ≤ c0 := HC0.out
     have hC63 : Kd.C k154 _ (some ad275) l0.length l0 := HR0.out
     have hcut63 := cut_to (P := Try.prog) 94 154 .i64 Try.underlying94 hi063 (some ad275) l0.length c0 x10_1 (oD (by first | (with_reducible assumption) | assumption)) q63 hroom63
     have hr63 := Kd.C_take (m := (x10_1 : Int).toNat) hC63 (by omega)
     have hy63 : y288.length = (x10_1 : Int).toNat := (by rw [Ny288.out, List.length_take]; omega)
     rw [← Ny288.out] at hr63
     rw [← hy63] at hcut63
     have HR291 := zK hr63
     have HC291 := zK (show y288.length ≤ c0 from by omega)
     clear hr63 hC63 hroom63 hi063 hsz63
     have KY63 := zK hy63
     clear hy63
     replace q63 := eq_true q63
     refine hK.out _ _ ⟨(bc BK276.out 0).trans rfl, (bc BK276.out 1).trans rfl, (bc BK276.out 2).trans rfl⟩ (fun hHeld => ?_)
     clear hK K
     refine norm_ (a' := ?_) ?_ ?_
     rotate_left
     ·show Act.put _ (some 43) _ = _
      simp only [Act.put, sA, sZ, sS, i64_w, i32_w]
      rfl
     refine pI 29 (some 44) b11A30 HT_ ?_
     refine pI 30 (some 45) b11A31 HT_ ?_
     refine pI 31 (some 46) b11A32 HT_ ?_
     refine pI 32 (some 47) b11A33 HT_ ?_
     refine pI 33 (some 48) b11A34 HT_ ?_
     refine pI 34 (some 49) b11A35 HT_ ?_
     refine pI 35 (some 50) b11A36 HT_ ?_
     refine tI 36 (some 51) b11A37 HT_ HW_ hHeld rfl rfl (Or.inl ⟨by rfl, by rintro w' ⟨s0, s1, s2⟩; go_simp; with_reducible rfl⟩) ?_
     refine one_ (i := 37) (N := some 52) b11A38 rfl rfl (one_of HT_.out (by kernel_rfl)) (by decide) (fun K hK => ?_)
     refine goes_ Try.func159 (by kernel_rfl) rfl #[.slice (some ad275) y288.length c0, .int .i64 ((rd_T154 l0 x10_1).f2)] (by rfl) rfl rfl (by (try simp only [List.map_toArray, List.map_cons, List.map_nil]); first | done | rfl | (simp only [List.length_drop, List.length_take]; rfl)) ?_
     with_reducible refine (impl_SlotOf.calls _ _ y288 ((rd_T154 l0 x10_1).f2) t292 _ ?side1 ?side2 A51.out).mono ?_
     (case side1 => repeat (first | exact (Kd.C_below HR291.out (by repeat (first | (with_reducible first | exact HB.out | apply bA | apply bN | apply b1 | refine bS ?_ GE276.out) | exact HB.out))) | (with_reducible refine Kd.CA ?_ _) | (with_reducible refine Kd.CN ?_ _) | (with_reducible refine Kd.CD ?_)))
     (case side2 => exact HC291.out)
     rintro e w64 ⟨rfl, hb⟩
     refine ⟨_, rfl, ?_⟩
     have n0_ := zK (bB (g := gb276) (o := .cells #[.int .i64 ((rd_T154 l0 x10_1).f0), .int .i64 ((rd_T154 l0 x10_1).f1), .int .i64 ((rd_T154 l0 x10_1).f2)] 154 (0, 0)) (qK BK276.out) hb)
     have n1_ := zK (bT (by repeat (first | (with_reducible first | exact HB.out | apply bA | apply bN | apply b1 | refine bS ?_ GE276.out) | exact HB.out)) hb)
     clear BK276
     clear HB
     have BK276 := n0_
     have HB := n1_
     clear n0_ n1_
     (try clear hb)
     (try clear hb2)
     (try clear hk)
     (try clear hi)
     refine hK.out _ _ ⟨(bc BK276.out 0).trans rfl, (bc BK276.out 1).trans rfl, (bc BK276.out 2).trans rfl⟩ (fun hHeld => ?_)
     clear hK K
     refine norm_ (a' := ?_) ?_ ?_
     rotate_left
     ·show Act.put _ (some 52) _ = _
      simp only [Act.put, sA, sZ, sS, i64_w, i32_w]
      rfl
     refine pI 38 (some 53) b11A39 HT_ ?_
     refine pI 39 (some 54) b11A40 HT_ ?_
     refine done_ (done_of HT_.out (by kernel_rfl)) ?_
     try go_wp2
     go_ret
     exact ⟨by first | rfl | (simp [errW_none, errW_some] <;> rfl) | (simp [*, errW_none, errW_some] <;> rfl), by repeat (first | (with_reducible first | exact HB.out | apply bA | apply bN | apply b1 | refine bS ?_ GE276.out) | exact HB.out)⟩
    rw [if_pos c52] at H
    have c52b0 : (t292 == 0) = true := beq_iff_eq.mpr c52
    have c52b1 : (t292 != 0) = false := bne_eq_false_iff_eq.mpr c52
    clear c52
    have H' := zK H
    clear H
    have p275 : 0 ≤ (x10_1 : Int) := oD (by first | (with_reducible assumption) | assumption)
    have q275 : x10_1 < (l0.length : Int) := oD (by first | (with_reducible assumption) | assumption)
    obtain ⟨ad275, e275, hx275_0, hx275_1, hx275_2⟩ := at_T154 HR0.out x10_1 p275 q275
    cases e275
    replace hx275_0 := (HB.out.cell (bL w hx275_0)).trans hx275_0
    replace hx275_1 := (HB.out.cell (bL w hx275_1)).trans hx275_1
    replace hx275_2 := (HB.out.cell (bL w hx275_2)).trans hx275_2
    replace p275 := eq_true p275
    replace q275 := eq_true q275
    try go_wp2_with (first | ((with_reducible refine gate_dst (N := 4) rfl ?_); refine box_event ?hg (N := 4) ?hd (cs := #[.int .i64 0, .int .i64 0, .int .i64 0]) (t := 154) ?hr ?_; (case hd => rfl); (case hg => rfl); (case hr => first | (go_simp; done) | (go_simp; rfl)); intro gb276 hg w53 hbox hb; have n0_ := zK (bT (qB HB.out) hb); have n1_ := zK (hbox); have n2_ := zK ((by rw [hg]; exact (bZ (qB HB.out)) : w.heap.size ≤ gb276)); have n3_ := zK ((by rw [hg]; exact (bZ (qB HB.out)) : w.heap.size ≤ gb276)); clear HB; have HB := n0_; have BK276 := n1_; have GW276 := n2_; have GE276 := n3_; clear n0_ n1_ n2_ n3_; clear hb hbox hg; have hcz54_0 : w53.cell? ⟨gb276, 0, none⟩ = some (.int .i64 0) := (bc BK276.out 0).trans rfl; have hcz54_1 : w53.cell? ⟨gb276, 1, none⟩ = some (.int .i64 0) := (bc BK276.out 1).trans rfl; have hcz54_2 : w53.cell? ⟨gb276, 2, none⟩ = some (.int .i64 0) := (bc BK276.out 2).trans rfl; have hfz54_0 := bf BK276.out 0; have hfz54_1 := bf BK276.out 1; have hfz54_2 := bf BK276.out 2))
    have n0_ : Aside0 ((((w53.setCell ⟨gb276, 0, none⟩ (.int .i64 ((rd_T154 l0 x10_1).f0))).setCell ⟨gb276, 1, none⟩ (.int .i64 ((rd_T154 l0 x10_1).f1))).setCell ⟨gb276, 2, none⟩ (.int .i64 ((rd_T154 l0 x10_1).f2))).heap[gb276]? = some (.cells #[.int .i64 ((rd_T154 l0 x10_1).f0), .int .i64 ((rd_T154 l0 x10_1).f1), .int .i64 ((rd_T154 l0 x10_1).f2)] 154 (0, 0))) := ⟨by (with_reducible repeat (first | refine kN ?_ _ | refine kD ?_ | refine kA ?_ _)); refine blk_put (cs := #[.int .i64 ((rd_T154 l0 x10_1).f0), .int .i64 ((rd_T154 l0 x10_1).f1), .int .i64 0]) ?_ 2 _ rfl; (with_reducible repeat (first | refine kN ?_ _ | refine kD ?_ | refine kA ?_ _)); refine blk_put (cs := #[.int .i64 ((rd_T154 l0 x10_1).f0), .int .i64 0, .int .i64 0]) ?_ 1 _ rfl; (with_reducible repeat (first | refine kN ?_ _ | refine kD ?_ | refine kA ?_ _)); refine blk_put (cs := #[.int .i64 0, .int .i64 0, .int .i64 0]) ?_ 0 _ rfl; exact qK BK276.out⟩
    have n1_ : Aside0 (Below w.heap.size w (((w53.setCell ⟨gb276, 0, none⟩ (.int .i64 ((rd_T154 l0 x10_1).f0))).setCell ⟨gb276, 1, none⟩ (.int .i64 ((rd_T154 l0 x10_1).f1))).setCell ⟨gb276, 2, none⟩ (.int .i64 ((rd_T154 l0 x10_1).f2)))) := ⟨by repeat (first | (with_reducible first | exact HB.out | apply bA | apply bN | apply b1 | refine bS ?_ GE276.out) | exact HB.out)⟩
    (try clear BK276)
    (try clear HB)
    generalize (((w53.setCell ⟨gb276, 0, none⟩ (.int .i64 ((rd_T154 l0 x10_1).f0))).setCell ⟨gb276, 1, none⟩ (.int .i64 ((rd_T154 l0 x10_1).f1))).setCell ⟨gb276, 2, none⟩ (.int .i64 ((rd_T154 l0 x10_1).f2))) = w55 at n0_ n1_ ⊢
    have BK276 := n0_
    have HB := n1_
    clear n0_ n1_
    have n0_ := zK (kD BK276.out)
    have n1_ := zK (b1 HB.out)
    clear BK276
    clear HB
    have BK276 := n0_
    have HB := n1_
    clear n0_ n1_
    refine start_ (n := 40) (S := fun w' => w'.cell? ⟨gb276, 0, none⟩ = some (.int .i64 ((rd_T154 l0 x10_1).f0)) ∧ w'.cell? ⟨gb276, 1, none⟩ = some (.int .i64 ((rd_T154 l0 x10_1).f1)) ∧ w'.cell? ⟨gb276, 2, none⟩ = some (.int .i64 ((rd_T154 l0 x10_1).f2))) (ds := []) b11A0 (by kernel_rfl) rfl rfl ⟨(bc BK276.out 0).trans rfl, (bc BK276.out 1).trans rfl, (bc BK276.out 2).trans rfl⟩ (fun hHeld => ?_); refine with_tabW impl_AreSlots.tab6 impl_AreSlots.bits6 (fun HT_ HW_ => ?_)
    generalize w55.drew = w56 at BK276 HB hHeld ⊢
    refine pI 0 (some 15) b11A1 HT_ ?_
    refine tI 1 (some 16) b11A2 HT_ HW_ hHeld rfl rfl (Or.inl ⟨by rfl, by rintro w' ⟨s0, s1, s2⟩; go_simp; with_reducible rfl⟩) ?_
    refine one_ (i := 2) (N := some 17) b11A3 rfl rfl (one_of HT_.out (by kernel_rfl)) (by decide) (fun K hK => ?_)
    refine goes_ Try.func106 (by kernel_rfl) rfl #[.int .i64 ((rd_T154 l0 x10_1).f0), .int .i64 1, .int .i64 99] (by rfl) rfl rfl (by (try simp only [List.map_toArray, List.map_cons, List.map_nil]); first | done | rfl | (simp only [List.length_drop, List.length_take]; rfl)) ?_
    with_reducible refine (impl_InRange.calls ((rd_T154 l0 x10_1).f0) 1 99 true _ A6.out).mono ?_
    rintro e w' ⟨rfl, ⟨nd, rfl⟩⟩
    refine ⟨_, rfl, ?_⟩
    refine hK.out _ _ ⟨(bc BK276.out 0).trans rfl, (bc BK276.out 1).trans rfl, (bc BK276.out 2).trans rfl⟩ (fun hHeld => ?_)
    clear hK K
    refine norm_ (a' := ?_) ?_ ?_
    rotate_left
    ·show Act.put _ (some 17) _ = _
     simp only [Act.put, sA, sZ, sS, i64_w, i32_w]
     rfl
    refine pI 3 (some 18) b11A4 HT_ ?_
    refine pI 4 (some 19) b11A5 HT_ ?_
    refine pI 5 (some 20) b11A6 HT_ ?_
    refine pI 6 (some 21) b11A7 HT_ ?_
    refine pI 7 (some 22) b11A8 HT_ ?_
    refine pU 8 (some 23) b11A9 HT_ ?_
    refine pU 9 (some 24) b11A41 HT_ ?_
    refine pU 10 (some 25) b11A42 HT_ ?_
    refine pU 11 (some 26) b11A43 HT_ ?_
    refine pU 12 (some 27) b11A44 HT_ ?_
    refine pU 13 (some 28) b11A45 HT_ ?_
    refine pU 14 (some 29) b11A15 HT_ ?_
    refine pU 15 (some 30) b11A16 HT_ ?_
    refine pU 16 (some 31) b11A17 HT_ ?_
    refine pI 17 (some 32) b11A18 HT_ ?_
    refine pI 18 (some 33) b11A19 HT_ ?_
    refine pI 19 (some 34) b11A20 HT_ ?_
    refine pI 20 (some 35) b11A21 HT_ ?_
    refine tI 21 (some 36) b11A22 HT_ HW_ hHeld rfl rfl (Or.inl ⟨by rfl, by rintro w' ⟨s0, s1, s2⟩; go_simp; with_reducible rfl⟩) ?_
    refine one_ (i := 22) (N := some 37) b11A23 rfl rfl (one_of HT_.out (by kernel_rfl)) (by decide) (fun K hK => ?_)
    refine goes_ Try.func106 (by kernel_rfl) rfl #[.int .i64 ((rd_T154 l0 x10_1).f1), .int .i64 1, .int .i64 50] (by rfl) rfl rfl (by (try simp only [List.map_toArray, List.map_cons, List.map_nil]); first | done | rfl | (simp only [List.length_drop, List.length_take]; rfl)) ?_
    with_reducible refine (impl_InRange.calls ((rd_T154 l0 x10_1).f1) 1 50 true _ A45.out).mono ?_
    rintro e w' ⟨rfl, ⟨nd, rfl⟩⟩
    refine ⟨_, rfl, ?_⟩
    refine hK.out _ _ ⟨(bc BK276.out 0).trans rfl, (bc BK276.out 1).trans rfl, (bc BK276.out 2).trans rfl⟩ (fun hHeld => ?_)
    clear hK K
    refine norm_ (a' := ?_) ?_ ?_
    rotate_left
    ·show Act.put _ (some 37) _ = _
     simp only [Act.put, sA, sZ, sS, i64_w, i32_w]
     rfl
    refine pI 23 (some 38) b11A24 HT_ ?_
    refine pI 24 (some 39) b11A25 HT_ ?_
    refine pI 25 (some 40) b11A26 HT_ ?_
    refine pI 26 (some 41) b11A27 HT_ ?_
    refine tI 27 (some 42) b11A28 HT_ HW_ hHeld rfl rfl (Or.inl ⟨by rfl, by rintro w' ⟨s0, s1, s2⟩; go_simp; with_reducible rfl⟩) ?_
    refine one_ (i := 28) (N := some 43) b11A29 rfl rfl (one_of HT_.out (by kernel_rfl)) (by decide) (fun K hK => ?_)
    refine goes_ Try.func106 (by kernel_rfl) rfl #[.int .i64 ((rd_T154 l0 x10_1).f2), .int .i64 0, .int .i64 999] (by rfl) rfl rfl (by (try simp only [List.map_toArray, List.map_cons, List.map_nil]); first | done | rfl | (simp only [List.length_drop, List.length_take]; rfl)) ?_
    with_reducible refine (impl_InRange.calls ((rd_T154 l0 x10_1).f2) 0 999 true _ A47.out).mono ?_
    rintro e w' ⟨rfl, ⟨nd, rfl⟩⟩
    refine ⟨_, rfl, ?_⟩
    have q57 : (x10_1 : Int) ≤ ((l0.length : Int) : Int) := oD (by first | (with_reducible assumption) | assumption)
    obtain ⟨i057, hi057, _, hsz57, _⟩ := info_parts info154
    have hroom57 : l0.length ≤ c0 := HC0.out
    have hC57 : Kd.C k154 _ (some ad275) l0.length l0 := HR0.out
    have hcut57 := cut_to (P := Try.prog) 94 154 .i64 Try.underlying94 hi057 (some ad275) l0.length c0 x10_1 (oD (by first | (with_reducible assumption) | assumption)) q57 hroom57
    have hr57 := Kd.C_take (m := (x10_1 : Int).toNat) hC57 (by omega)
    have hy57 : y288.length = (x10_1 : Int).toNat := (by rw [Ny288.out, List.length_take]; omega)
    rw [← Ny288.out] at hr57
    rw [← hy57] at hcut57
    have HR291 := zK hr57
    have HC291 := zK (show y288.length ≤ c0 from by omega)
    clear hr57 hC57 hroom57 hi057 hsz57
    have KY57 := zK hy57
    clear hy57
    replace q57 := eq_true q57
    refine hK.out _ _ ⟨(bc BK276.out 0).trans rfl, (bc BK276.out 1).trans rfl, (bc BK276.out 2).trans rfl⟩ (fun hHeld => ?_)
    clear hK K
    refine norm_ (a' := ?_) ?_ ?_
    rotate_left
    ·show Act.put _ (some 43) _ = _
     simp only [Act.put, sA, sZ, sS, i64_w, i32_w]
     rfl
    refine pI 29 (some 44) b11A30 HT_ ?_
    refine pI 30 (some 45) b11A31 HT_ ?_
    refine pI 31 (some 46) b11A32 HT_ ?_
    refine pI 32 (some 47) b11A33 HT_ ?_
    refine pI 33 (some 48) b11A34 HT_ ?_
    refine pI 34 (some 49) b11A35 HT_ ?_
    refine pI 35 (some 50) b11A36 HT_ ?_
    refine tI 36 (some 51) b11A37 HT_ HW_ hHeld rfl rfl (Or.inl ⟨by rfl, by rintro w' ⟨s0, s1, s2⟩; go_simp; with_reducible rfl⟩) ?_
    refine one_ (i := 37) (N := some 52) b11A38 rfl rfl (one_of HT_.out (by kernel_rfl)) (by decide) (fun K hK => ?_)
    refine goes_ Try.func159 (by kernel_rfl) rfl #[.slice (some ad275) y288.length c0, .int .i64 ((rd_T154 l0 x10_1).f2)] (by rfl) rfl rfl (by (try simp only [List.map_toArray, List.map_cons, List.map_nil]); first | done | rfl | (simp only [List.length_drop, List.length_take]; rfl)) ?_
    with_reducible refine (impl_SlotOf.calls _ _ y288 ((rd_T154 l0 x10_1).f2) t292 _ ?side1 ?side2 A51.out).mono ?_
    (case side1 => repeat (first | exact (Kd.C_below HR291.out (by repeat (first | (with_reducible first | exact HB.out | apply bA | apply bN | apply b1 | refine bS ?_ GE276.out) | exact HB.out))) | (with_reducible refine Kd.CA ?_ _) | (with_reducible refine Kd.CN ?_ _) | (with_reducible refine Kd.CD ?_)))
    (case side2 => exact HC291.out)
    rintro e w58 ⟨rfl, hb⟩
    refine ⟨_, rfl, ?_⟩
    have n0_ := zK (bB (g := gb276) (o := .cells #[.int .i64 ((rd_T154 l0 x10_1).f0), .int .i64 ((rd_T154 l0 x10_1).f1), .int .i64 ((rd_T154 l0 x10_1).f2)] 154 (0, 0)) (qK BK276.out) hb)
    have n1_ := zK (bT (by repeat (first | (with_reducible first | exact HB.out | apply bA | apply bN | apply b1 | refine bS ?_ GE276.out) | exact HB.out)) hb)
    clear BK276
    clear HB
    have BK276 := n0_
    have HB := n1_
    clear n0_ n1_
    (try clear hb)
    (try clear hb2)
    (try clear hk)
    (try clear hi)
    refine hK.out _ _ ⟨(bc BK276.out 0).trans rfl, (bc BK276.out 1).trans rfl, (bc BK276.out 2).trans rfl⟩ (fun hHeld => ?_)
    clear hK K
    refine norm_ (a' := ?_) ?_ ?_
    rotate_left
    ·show Act.put _ (some 52) _ = _
     simp only [Act.put, sA, sZ, sS, i64_w, i32_w]
     rfl
    refine pI 38 (some 53) b11A39 HT_ ?_
    refine pI 39 (some 54) b11A40 HT_ ?_
    refine done_ (done_of HT_.out (by kernel_rfl)) ?_
    try go_wp2
    go_roundg k1
    case measure => have := HK1.out; omega
    case rel => exact ⟨(wrap64 (x10_1 + 1)), (by first | rfl | (simp; done) | (simp [*]; done)), H', ⟨by have := HK1.out; omega⟩, ⟨by repeat (first | (with_reducible first | exact HB.out | apply bA | apply bN | apply b1 | refine bS ?_ GE276.out) | exact HB.out)⟩⟩
   rw [if_pos c8] at H
   have c8b0 : decide (0 < x10_1) = true := decide_eq_true c8
   clear c8
   obtain ⟨ji9, hji9⟩ : ∃ j_ : Int, (wrap64 (x10_1 - 1)) = j_ := ⟨_, rfl⟩
   replace H : (if 0 ≤ (ji9) then (if (ji9) < (l0.length : Int) then (if ((rd_T154 l0 x10_1).f0) ≤ ((rd_T154 l0 (ji9)).f0) then (some false) else ((impl_InRange.f ((rd_T154 l0 x10_1).f1) 1 50).bind fun t279 => (if t279 = true then ((impl_InRange.f ((rd_T154 l0 x10_1).f2) 0 999).bind fun t280 => (if t280 = true then (if x10_1 ≤ (l0.length : Int) then ((impl_SlotOf.f (l0.take (x10_1 : Int).toNat) ((rd_T154 l0 x10_1).f2)).bind fun t285 => (if t285 = 0 then (impl_AreSlots.l0 k1 l0 l0 (l0.length : Int) (wrap64 (x10_1 + 1))) else (some false))) else (none)) else (some false))) else (some false)))) else (none)) else (none)) = some r := by first | (rw [hji9] at H; exact H) | (simp only [hji9] at H ⊢; exact H)
   (try rw [hji9] at A6)
   have hji9w : (IntKind.i64.wrap (x10_1 - 1)) = ji9 := (i64_w _).trans hji9
   by_cases c10 : 0 ≤ (ji9)
   rotate_left
   ·rw [if_neg c10] at H
    exact absurd H (by simp)
   rw [if_pos c10] at H
   have c10b0 : decide (0 ≤ (ji9)) = true := decide_eq_true c10
   clear c10
   by_cases c11 : (ji9) < (l0.length : Int)
   rotate_left
   ·rw [if_neg c11] at H
    exact absurd H (by simp)
   rw [if_pos c11] at H
   have c11b0 : decide ((ji9) < (l0.length : Int)) = true := decide_eq_true c11
   clear c11
   by_cases c12 : ((rd_T154 l0 x10_1).f0) ≤ ((rd_T154 l0 (ji9)).f0)
   ·rw [if_pos c12] at H
    have c12b0 : decide (((rd_T154 l0 x10_1).f0) ≤ ((rd_T154 l0 (ji9)).f0)) = true := decide_eq_true c12
    clear c12
    obtain rfl := Option.some.inj H
    have p275 : 0 ≤ (x10_1 : Int) := oD (by first | (with_reducible assumption) | assumption)
    have q275 : x10_1 < (l0.length : Int) := oD (by first | (with_reducible assumption) | assumption)
    obtain ⟨ad275, e275, hx275_0, hx275_1, hx275_2⟩ := at_T154 HR0.out x10_1 p275 q275
    cases e275
    replace hx275_0 := (HB.out.cell (bL w hx275_0)).trans hx275_0
    replace hx275_1 := (HB.out.cell (bL w hx275_1)).trans hx275_1
    replace hx275_2 := (HB.out.cell (bL w hx275_2)).trans hx275_2
    replace p275 := eq_true p275
    replace q275 := eq_true q275
    try go_wp2_with (first | ((with_reducible refine gate_dst (N := 4) rfl ?_); refine box_event ?hg (N := 4) ?hd (cs := #[.int .i64 0, .int .i64 0, .int .i64 0]) (t := 154) ?hr ?_; (case hd => rfl); (case hg => rfl); (case hr => first | (go_simp; done) | (go_simp; rfl)); intro gb276 hg w13 hbox hb; have n0_ := zK (bT (qB HB.out) hb); have n1_ := zK (hbox); have n2_ := zK ((by rw [hg]; exact (bZ (qB HB.out)) : w.heap.size ≤ gb276)); have n3_ := zK ((by rw [hg]; exact (bZ (qB HB.out)) : w.heap.size ≤ gb276)); clear HB; have HB := n0_; have BK276 := n1_; have GW276 := n2_; have GE276 := n3_; clear n0_ n1_ n2_ n3_; clear hb hbox hg; have hcz14_0 : w13.cell? ⟨gb276, 0, none⟩ = some (.int .i64 0) := (bc BK276.out 0).trans rfl; have hcz14_1 : w13.cell? ⟨gb276, 1, none⟩ = some (.int .i64 0) := (bc BK276.out 1).trans rfl; have hcz14_2 : w13.cell? ⟨gb276, 2, none⟩ = some (.int .i64 0) := (bc BK276.out 2).trans rfl; have hfz14_0 := bf BK276.out 0; have hfz14_1 := bf BK276.out 1; have hfz14_2 := bf BK276.out 2))
    have n0_ : Aside0 ((((w13.setCell ⟨gb276, 0, none⟩ (.int .i64 ((rd_T154 l0 x10_1).f0))).setCell ⟨gb276, 1, none⟩ (.int .i64 ((rd_T154 l0 x10_1).f1))).setCell ⟨gb276, 2, none⟩ (.int .i64 ((rd_T154 l0 x10_1).f2))).heap[gb276]? = some (.cells #[.int .i64 ((rd_T154 l0 x10_1).f0), .int .i64 ((rd_T154 l0 x10_1).f1), .int .i64 ((rd_T154 l0 x10_1).f2)] 154 (0, 0))) := ⟨by (with_reducible repeat (first | refine kN ?_ _ | refine kD ?_ | refine kA ?_ _)); refine blk_put (cs := #[.int .i64 ((rd_T154 l0 x10_1).f0), .int .i64 ((rd_T154 l0 x10_1).f1), .int .i64 0]) ?_ 2 _ rfl; (with_reducible repeat (first | refine kN ?_ _ | refine kD ?_ | refine kA ?_ _)); refine blk_put (cs := #[.int .i64 ((rd_T154 l0 x10_1).f0), .int .i64 0, .int .i64 0]) ?_ 1 _ rfl; (with_reducible repeat (first | refine kN ?_ _ | refine kD ?_ | refine kA ?_ _)); refine blk_put (cs := #[.int .i64 0, .int .i64 0, .int .i64 0]) ?_ 0 _ rfl; exact qK BK276.out⟩
    have n1_ : Aside0 (Below w.heap.size w (((w13.setCell ⟨gb276, 0, none⟩ (.int .i64 ((rd_T154 l0 x10_1).f0))).setCell ⟨gb276, 1, none⟩ (.int .i64 ((rd_T154 l0 x10_1).f1))).setCell ⟨gb276, 2, none⟩ (.int .i64 ((rd_T154 l0 x10_1).f2)))) := ⟨by repeat (first | (with_reducible first | exact HB.out | apply bA | apply bN | apply b1 | refine bS ?_ GE276.out) | exact HB.out)⟩
    (try clear BK276)
    (try clear HB)
    generalize (((w13.setCell ⟨gb276, 0, none⟩ (.int .i64 ((rd_T154 l0 x10_1).f0))).setCell ⟨gb276, 1, none⟩ (.int .i64 ((rd_T154 l0 x10_1).f1))).setCell ⟨gb276, 2, none⟩ (.int .i64 ((rd_T154 l0 x10_1).f2))) = w15 at n0_ n1_ ⊢
    have BK276 := n0_
    have HB := n1_
    clear n0_ n1_
    have n0_ := zK (kD BK276.out)
    have n1_ := zK (b1 HB.out)
    clear BK276
    clear HB
    have BK276 := n0_
    have HB := n1_
    clear n0_ n1_
    have p278 : 0 ≤ ((ji9) : Int) := oD (by first | (with_reducible assumption) | assumption)
    have q278 : (ji9) < (l0.length : Int) := oD (by first | (with_reducible assumption) | assumption)
    obtain ⟨ad278, e278, hx278_0, hx278_1, hx278_2⟩ := at_T154 HR0.out (ji9) p278 q278
    have hw278_2 := hx278_2
    have hw278_1 := hx278_1
    have hw278_0 := hx278_0
    obtain rfl : ad275 = ad278 := (by injection e278)
    replace hx278_0 := (HB.out.cell (bL w hx278_0)).trans hx278_0
    replace hx278_1 := (HB.out.cell (bL w hx278_1)).trans hx278_1
    replace hx278_2 := (HB.out.cell (bL w hx278_2)).trans hx278_2
    replace p278 := eq_true p278
    replace q278 := eq_true q278
    refine start_ (n := 40) (S := fun w' => w'.cell? ⟨gb276, 0, none⟩ = some (.int .i64 ((rd_T154 l0 x10_1).f0)) ∧ w'.cell? ⟨gb276, 1, none⟩ = some (.int .i64 ((rd_T154 l0 x10_1).f1)) ∧ w'.cell? ⟨gb276, 2, none⟩ = some (.int .i64 ((rd_T154 l0 x10_1).f2)) ∧ w'.cell? (ad275.add (((ji9)).toNat * 3)) = some (.int .i64 ((rd_T154 l0 (ji9)).f0)) ∧ w'.cell? ⟨(ad275.add (((ji9)).toNat * 3)).block, (ad275.add (((ji9)).toNat * 3)).off + 1, none⟩ = some (.int .i64 ((rd_T154 l0 (ji9)).f1)) ∧ w'.cell? ⟨(ad275.add (((ji9)).toNat * 3)).block, (ad275.add (((ji9)).toNat * 3)).off + 2, none⟩ = some (.int .i64 ((rd_T154 l0 (ji9)).f2))) (ds := []) b11A0 (by kernel_rfl) rfl rfl ⟨(bc BK276.out 0).trans rfl, (bc BK276.out 1).trans rfl, (bc BK276.out 2).trans rfl, ((HB.out.cell (bL w hw278_0)).trans hw278_0), ((HB.out.cell (bL w hw278_1)).trans hw278_1), ((HB.out.cell (bL w hw278_2)).trans hw278_2)⟩ (fun hHeld => ?_); refine with_tabW impl_AreSlots.tab6 impl_AreSlots.bits6 (fun HT_ HW_ => ?_)
    generalize w15.drew = w16 at BK276 HB hx278_0 hx278_1 hx278_2 hHeld ⊢
    refine pI 0 (some 15) b11A1 HT_ ?_
    refine tI 1 (some 16) b11A2 HT_ HW_ hHeld rfl rfl (Or.inl ⟨by rfl, by rintro w' ⟨s0, s1, s2, s3, s4, s5⟩; go_simp; with_reducible rfl⟩) ?_
    refine one_ (i := 2) (N := some 17) b11A3 rfl rfl (one_of HT_.out (by kernel_rfl)) (by decide) (fun K hK => ?_)
    refine goes_ Try.func106 (by kernel_rfl) rfl #[.int .i64 ((rd_T154 l0 x10_1).f0), .int .i64 1, .int .i64 99] (by rfl) rfl rfl (by (try simp only [List.map_toArray, List.map_cons, List.map_nil]); first | done | rfl | (simp only [List.length_drop, List.length_take]; rfl)) ?_
    with_reducible refine (impl_InRange.calls ((rd_T154 l0 x10_1).f0) 1 99 true _ A6.out).mono ?_
    rintro e w' ⟨rfl, ⟨nd, rfl⟩⟩
    refine ⟨_, rfl, ?_⟩
    refine hK.out _ _ ⟨(bc BK276.out 0).trans rfl, (bc BK276.out 1).trans rfl, (bc BK276.out 2).trans rfl, ((HB.out.cell (bL w hw278_0)).trans hw278_0), ((HB.out.cell (bL w hw278_1)).trans hw278_1), ((HB.out.cell (bL w hw278_2)).trans hw278_2)⟩ (fun hHeld => ?_)
    clear hK K
    refine norm_ (a' := ?_) ?_ ?_
    rotate_left
    ·show Act.put _ (some 17) _ = _
     simp only [Act.put, sA, sZ, sS, i64_w, i32_w]
     rfl
    refine pI 3 (some 18) b11A4 HT_ ?_
    refine pI 4 (some 19) b11A5 HT_ ?_
    refine pI 5 (some 20) b11A6 HT_ ?_
    refine pI 6 (some 21) b11A7 HT_ ?_
    refine pI 7 (some 22) b11A8 HT_ ?_
    refine pI 8 (some 23) b11A9 HT_ ?_
    refine pI 10 (some 25) b11A10 HT_ ?_
    refine pI 11 (some 26) b11A11 HT_ ?_
    refine pI 12 (some 27) b11A12 HT_ ?_
    refine pI 13 (some 28) b11A13 HT_ ?_
    refine pI 14 (some 29) b11A14 HT_ ?_
    refine tI 9 (some 24) b11A15 HT_ HW_ hHeld rfl rfl (Or.inl ⟨by rfl, by rintro w' ⟨s0, s1, s2, s3, s4, s5⟩; go_simp; with_reducible rfl⟩) ?_
    refine tI 15 (some 30) b11A16 HT_ HW_ hHeld rfl rfl (Or.inl ⟨by rfl, by rintro w' ⟨s0, s1, s2, s3, s4, s5⟩; go_simp; with_reducible rfl⟩) ?_
    refine pI 16 (some 31) b11A17 HT_ ?_
    refine pI 17 (some 32) b11A18 HT_ ?_
    refine pI 18 (some 33) b11A19 HT_ ?_
    refine pI 19 (some 34) b11A20 HT_ ?_
    refine pU 20 (some 35) b11A21 HT_ ?_
    refine pU 21 (some 36) b11A22 HT_ ?_
    refine pU 22 (some 37) b11A23 HT_ ?_
    refine pU 23 (some 38) b11A24 HT_ ?_
    refine pI 24 (some 39) b11A25 HT_ ?_
    refine pI 25 (some 40) b11A26 HT_ ?_
    refine pU 26 (some 41) b11A27 HT_ ?_
    refine pU 27 (some 42) b11A28 HT_ ?_
    refine pU 28 (some 43) b11A29 HT_ ?_
    refine pU 29 (some 44) b11A30 HT_ ?_
    refine pI 30 (some 45) b11A31 HT_ ?_
    refine pI 31 (some 46) b11A32 HT_ ?_
    refine pU 32 (some 47) b11A33 HT_ ?_
    refine pU 33 (some 48) b11A34 HT_ ?_
    refine pU 34 (some 49) b11A35 HT_ ?_
    refine pU 35 (some 50) b11A36 HT_ ?_
    refine pU 36 (some 51) b11A37 HT_ ?_
    refine pU 37 (some 52) b11A38 HT_ ?_
    refine pU 38 (some 53) b11A39 HT_ ?_
    refine pI 39 (some 54) b11A40 HT_ ?_
    refine done_ (done_of HT_.out (by kernel_rfl)) ?_
    try go_wp2
    go_ret
    exact ⟨by first | rfl | (simp [errW_none, errW_some] <;> rfl) | (simp only [← hji9]; first | rfl | (simp [errW_none, errW_some] <;> rfl)) | (simp [*, errW_none, errW_some] <;> rfl), by repeat (first | (with_reducible first | exact HB.out | apply bA | apply bN | apply b1 | refine bS ?_ GE276.out) | exact HB.out)⟩
   rw [if_neg c12] at H
   have c12b0 : decide (((rd_T154 l0 x10_1).f0) ≤ ((rd_T154 l0 (ji9)).f0)) = false := decide_eq_false c12
   clear c12
   replace H := Option.bind_eq_some_iff.mp H
   obtain ⟨t279, A170, H⟩ := H
   replace H : (if t279 = true then ((impl_InRange.f ((rd_T154 l0 x10_1).f2) 0 999).bind fun t280 => (if t280 = true then (if x10_1 ≤ (l0.length : Int) then ((impl_SlotOf.f (l0.take (x10_1 : Int).toNat) ((rd_T154 l0 x10_1).f2)).bind fun t285 => (if t285 = 0 then (impl_AreSlots.l0 k1 l0 l0 (l0.length : Int) (wrap64 (x10_1 + 1))) else (some false))) else (none)) else (some false))) else (some false)) = some r := H
   have A17 := zK A170
   clear A170
   by_cases c18 : t279 = true
   rotate_left
   ·replace c18 := Bool.eq_false_iff.mpr c18
    subst c18
    have H1 : (some false) = some r := by rw [if_neg (show ¬ (false = true) by decide)] at H; exact H
    clear H
    have H := H1
    clear H1
    obtain rfl := Option.some.inj H
    have p275 : 0 ≤ (x10_1 : Int) := oD (by first | (with_reducible assumption) | assumption)
    have q275 : x10_1 < (l0.length : Int) := oD (by first | (with_reducible assumption) | assumption)
    obtain ⟨ad275, e275, hx275_0, hx275_1, hx275_2⟩ := at_T154 HR0.out x10_1 p275 q275
    cases e275
    replace hx275_0 := (HB.out.cell (bL w hx275_0)).trans hx275_0
    replace hx275_1 := (HB.out.cell (bL w hx275_1)).trans hx275_1
    replace hx275_2 := (HB.out.cell (bL w hx275_2)).trans hx275_2
    replace p275 := eq_true p275
    replace q275 := eq_true q275
    try go_wp2_with (first | ((with_reducible refine gate_dst (N := 4) rfl ?_); refine box_event ?hg (N := 4) ?hd (cs := #[.int .i64 0, .int .i64 0, .int .i64 0]) (t := 154) ?hr ?_; (case hd => rfl); (case hg => rfl); (case hr => first | (go_simp; done) | (go_simp; rfl)); intro gb276 hg w41 hbox hb; have n0_ := zK (bT (qB HB.out) hb); have n1_ := zK (hbox); have n2_ := zK ((by rw [hg]; exact (bZ (qB HB.out)) : w.heap.size ≤ gb276)); have n3_ := zK ((by rw [hg]; exact (bZ (qB HB.out)) : w.heap.size ≤ gb276)); clear HB; have HB := n0_; have BK276 := n1_; have GW276 := n2_; have GE276 := n3_; clear n0_ n1_ n2_ n3_; clear hb hbox hg; have hcz42_0 : w41.cell? ⟨gb276, 0, none⟩ = some (.int .i64 0) := (bc BK276.out 0).trans rfl; have hcz42_1 : w41.cell? ⟨gb276, 1, none⟩ = some (.int .i64 0) := (bc BK276.out 1).trans rfl; have hcz42_2 : w41.cell? ⟨gb276, 2, none⟩ = some (.int .i64 0) := (bc BK276.out 2).trans rfl; have hfz42_0 := bf BK276.out 0; have hfz42_1 := bf BK276.out 1; have hfz42_2 := bf BK276.out 2))
    have n0_ : Aside0 ((((w41.setCell ⟨gb276, 0, none⟩ (.int .i64 ((rd_T154 l0 x10_1).f0))).setCell ⟨gb276, 1, none⟩ (.int .i64 ((rd_T154 l0 x10_1).f1))).setCell ⟨gb276, 2, none⟩ (.int .i64 ((rd_T154 l0 x10_1).f2))).heap[gb276]? = some (.cells #[.int .i64 ((rd_T154 l0 x10_1).f0), .int .i64 ((rd_T154 l0 x10_1).f1), .int .i64 ((rd_T154 l0 x10_1).f2)] 154 (0, 0))) := ⟨by (with_reducible repeat (first | refine kN ?_ _ | refine kD ?_ | refine kA ?_ _)); refine blk_put (cs := #[.int .i64 ((rd_T154 l0 x10_1).f0), .int .i64 ((rd_T154 l0 x10_1).f1), .int .i64 0]) ?_ 2 _ rfl; (with_reducible repeat (first | refine kN ?_ _ | refine kD ?_ | refine kA ?_ _)); refine blk_put (cs := #[.int .i64 ((rd_T154 l0 x10_1).f0), .int .i64 0, .int .i64 0]) ?_ 1 _ rfl; (with_reducible repeat (first | refine kN ?_ _ | refine kD ?_ | refine kA ?_ _)); refine blk_put (cs := #[.int .i64 0, .int .i64 0, .int .i64 0]) ?_ 0 _ rfl; exact qK BK276.out⟩
    have n1_ : Aside0 (Below w.heap.size w (((w41.setCell ⟨gb276, 0, none⟩ (.int .i64 ((rd_T154 l0 x10_1).f0))).setCell ⟨gb276, 1, none⟩ (.int .i64 ((rd_T154 l0 x10_1).f1))).setCell ⟨gb276, 2, none⟩ (.int .i64 ((rd_T154 l0 x10_1).f2)))) := ⟨by repeat (first | (with_reducible first | exact HB.out | apply bA | apply bN | apply b1 | refine bS ?_ GE276.out) | exact HB.out)⟩
    (try clear BK276)
    (try clear HB)
    generalize (((w41.setCell ⟨gb276, 0, none⟩ (.int .i64 ((rd_T154 l0 x10_1).f0))).setCell ⟨gb276, 1, none⟩ (.int .i64 ((rd_T154 l0 x10_1).f1))).setCell ⟨gb276, 2, none⟩ (.int .i64 ((rd_T154 l0 x10_1).f2))) = w43 at n0_ n1_ ⊢
    have BK276 := n0_
    have HB := n1_
    clear n0_ n1_
    have n0_ := zK (kD BK276.out)
    have n1_ := zK (b1 HB.out)
    clear BK276
    clear HB
    have BK276 := n0_
    have HB := n1_
    clear n0_ n1_
    have p278 : 0 ≤ ((ji9) : Int) := oD (by first | (with_reducible assumption) | assumption)
    have q278 : (ji9) < (l0.length : Int) := oD (by first | (with_reducible assumption) | assumption)
    obtain ⟨ad278, e278, hx278_0, hx278_1, hx278_2⟩ := at_T154 HR0.out (ji9) p278 q278
    have hw278_2 := hx278_2
    have hw278_1 := hx278_1
    have hw278_0 := hx278_0
    obtain rfl : ad275 = ad278 := (by injection e278)
    replace hx278_0 := (HB.out.cell (bL w hx278_0)).trans hx278_0
    replace hx278_1 := (HB.out.cell (bL w hx278_1)).trans hx278_1
    replace hx278_2 := (HB.out.cell (bL w hx278_2)).trans hx278_2
    replace p278 := eq_true p278
    replace q278 := eq_true q278
    refine start_ (n := 40) (S := fun w' => w'.cell? ⟨gb276, 0, none⟩ = some (.int .i64 ((rd_T154 l0 x10_1).f0)) ∧ w'.cell? ⟨gb276, 1, none⟩ = some (.int .i64 ((rd_T154 l0 x10_1).f1)) ∧ w'.cell? ⟨gb276, 2, none⟩ = some (.int .i64 ((rd_T154 l0 x10_1).f2)) ∧ w'.cell? (ad275.add (((ji9)).toNat * 3)) = some (.int .i64 ((rd_T154 l0 (ji9)).f0)) ∧ w'.cell? ⟨(ad275.add (((ji9)).toNat * 3)).block, (ad275.add (((ji9)).toNat * 3)).off + 1, none⟩ = some (.int .i64 ((rd_T154 l0 (ji9)).f1)) ∧ w'.cell? ⟨(ad275.add (((ji9)).toNat * 3)).block, (ad275.add (((ji9)).toNat * 3)).off + 2, none⟩ = some (.int .i64 ((rd_T154 l0 (ji9)).f2))) (ds := []) b11A0 (by kernel_rfl) rfl rfl ⟨(bc BK276.out 0).trans rfl, (bc BK276.out 1).trans rfl, (bc BK276.out 2).trans rfl, ((HB.out.cell (bL w hw278_0)).trans hw278_0), ((HB.out.cell (bL w hw278_1)).trans hw278_1), ((HB.out.cell (bL w hw278_2)).trans hw278_2)⟩ (fun hHeld => ?_); refine with_tabW impl_AreSlots.tab6 impl_AreSlots.bits6 (fun HT_ HW_ => ?_)
    generalize w43.drew = w44 at BK276 HB hx278_0 hx278_1 hx278_2 hHeld ⊢
    refine pI 0 (some 15) b11A1 HT_ ?_
    refine tI 1 (some 16) b11A2 HT_ HW_ hHeld rfl rfl (Or.inl ⟨by rfl, by rintro w' ⟨s0, s1, s2, s3, s4, s5⟩; go_simp; with_reducible rfl⟩) ?_
    refine one_ (i := 2) (N := some 17) b11A3 rfl rfl (one_of HT_.out (by kernel_rfl)) (by decide) (fun K hK => ?_)
    refine goes_ Try.func106 (by kernel_rfl) rfl #[.int .i64 ((rd_T154 l0 x10_1).f0), .int .i64 1, .int .i64 99] (by rfl) rfl rfl (by (try simp only [List.map_toArray, List.map_cons, List.map_nil]); first | done | rfl | (simp only [List.length_drop, List.length_take]; rfl)) ?_
    with_reducible refine (impl_InRange.calls ((rd_T154 l0 x10_1).f0) 1 99 true _ A6.out).mono ?_
    rintro e w' ⟨rfl, ⟨nd, rfl⟩⟩
    refine ⟨_, rfl, ?_⟩
    refine hK.out _ _ ⟨(bc BK276.out 0).trans rfl, (bc BK276.out 1).trans rfl, (bc BK276.out 2).trans rfl, ((HB.out.cell (bL w hw278_0)).trans hw278_0), ((HB.out.cell (bL w hw278_1)).trans hw278_1), ((HB.out.cell (bL w hw278_2)).trans hw278_2)⟩ (fun hHeld => ?_)
    clear hK K
    refine norm_ (a' := ?_) ?_ ?_
    rotate_left
    ·show Act.put _ (some 17) _ = _
     simp only [Act.put, sA, sZ, sS, i64_w, i32_w]
     rfl
    refine pI 3 (some 18) b11A4 HT_ ?_
    refine pI 4 (some 19) b11A5 HT_ ?_
    refine pI 5 (some 20) b11A6 HT_ ?_
    refine pI 6 (some 21) b11A7 HT_ ?_
    refine pI 7 (some 22) b11A8 HT_ ?_
    refine pI 8 (some 23) b11A9 HT_ ?_
    refine pI 10 (some 25) b11A10 HT_ ?_
    refine pI 11 (some 26) b11A11 HT_ ?_
    refine pI 12 (some 27) b11A12 HT_ ?_
    refine pI 13 (some 28) b11A13 HT_ ?_
    refine pI 14 (some 29) b11A14 HT_ ?_
    refine tI 9 (some 24) b11A15 HT_ HW_ hHeld rfl rfl (Or.inl ⟨by rfl, by rintro w' ⟨s0, s1, s2, s3, s4, s5⟩; go_simp; with_reducible rfl⟩) ?_
    refine tI 15 (some 30) b11A16 HT_ HW_ hHeld rfl rfl (Or.inl ⟨by rfl, by rintro w' ⟨s0, s1, s2, s3, s4, s5⟩; go_simp; with_reducible rfl⟩) ?_
    refine pI 16 (some 31) b11A17 HT_ ?_
    refine pI 17 (some 32) b11A18 HT_ ?_
    refine pI 18 (some 33) b11A19 HT_ ?_
    refine pI 19 (some 34) b11A20 HT_ ?_
    refine pI 20 (some 35) b11A21 HT_ ?_
    refine tI 21 (some 36) b11A22 HT_ HW_ hHeld rfl rfl (Or.inl ⟨by rfl, by rintro w' ⟨s0, s1, s2, s3, s4, s5⟩; go_simp; with_reducible rfl⟩) ?_
    refine one_ (i := 22) (N := some 37) b11A23 rfl rfl (one_of HT_.out (by kernel_rfl)) (by decide) (fun K hK => ?_)
    refine goes_ Try.func106 (by kernel_rfl) rfl #[.int .i64 ((rd_T154 l0 x10_1).f1), .int .i64 1, .int .i64 50] (by rfl) rfl rfl (by (try simp only [List.map_toArray, List.map_cons, List.map_nil]); first | done | rfl | (simp only [List.length_drop, List.length_take]; rfl)) ?_
    with_reducible refine (impl_InRange.calls ((rd_T154 l0 x10_1).f1) 1 50 false _ A17.out).mono ?_
    rintro e w' ⟨rfl, ⟨nd, rfl⟩⟩
    refine ⟨_, rfl, ?_⟩
    refine hK.out _ _ ⟨(bc BK276.out 0).trans rfl, (bc BK276.out 1).trans rfl, (bc BK276.out 2).trans rfl, ((HB.out.cell (bL w hw278_0)).trans hw278_0), ((HB.out.cell (bL w hw278_1)).trans hw278_1), ((HB.out.cell (bL w hw278_2)).trans hw278_2)⟩ (fun hHeld => ?_)
    clear hK K
    refine norm_ (a' := ?_) ?_ ?_
    rotate_left
    ·show Act.put _ (some 37) _ = _
     simp only [Act.put, sA, sZ, sS, i64_w, i32_w]
     rfl
    refine pI 23 (some 38) b11A24 HT_ ?_
    refine pI 24 (some 39) b11A25 HT_ ?_
    refine pI 25 (some 40) b11A26 HT_ ?_
    refine pU 26 (some 41) b11A27 HT_ ?_
    refine pU 27 (some 42) b11A28 HT_ ?_
    refine pU 28 (some 43) b11A29 HT_ ?_
    refine pU 29 (some 44) b11A30 HT_ ?_
    refine pI 30 (some 45) b11A31 HT_ ?_
    refine pI 31 (some 46) b11A32 HT_ ?_
    refine pU 32 (some 47) b11A33 HT_ ?_
    refine pU 33 (some 48) b11A34 HT_ ?_
    refine pU 34 (some 49) b11A35 HT_ ?_
    refine pU 35 (some 50) b11A36 HT_ ?_
    refine pU 36 (some 51) b11A37 HT_ ?_
    refine pU 37 (some 52) b11A38 HT_ ?_
    refine pU 38 (some 53) b11A39 HT_ ?_
    refine pI 39 (some 54) b11A40 HT_ ?_
    refine done_ (done_of HT_.out (by kernel_rfl)) ?_
    try go_wp2
    go_ret
    exact ⟨by first | rfl | (simp [errW_none, errW_some] <;> rfl) | (simp only [← hji9]; first | rfl | (simp [errW_none, errW_some] <;> rfl)) | (simp [*, errW_none, errW_some] <;> rfl), by repeat (first | (with_reducible first | exact HB.out | apply bA | apply bN | apply b1 | refine bS ?_ GE276.out) | exact HB.out)⟩
   subst c18
   have H1 : ((impl_InRange.f ((rd_T154 l0 x10_1).f2) 0 999).bind fun t280 => (if t280 = true then (if x10_1 ≤ (l0.length : Int) then ((impl_SlotOf.f (l0.take (x10_1 : Int).toNat) ((rd_T154 l0 x10_1).f2)).bind fun t285 => (if t285 = 0 then (impl_AreSlots.l0 k1 l0 l0 (l0.length : Int) (wrap64 (x10_1 + 1))) else (some false))) else (none)) else (some false))) = some r := by rw [if_pos rfl] at H; exact H
   clear H
   have H := H1
   clear H1
   replace H := Option.bind_eq_some_iff.mp H
   obtain ⟨t280, A190, H⟩ := H
   replace H : (if t280 = true then (if x10_1 ≤ (l0.length : Int) then ((impl_SlotOf.f (l0.take (x10_1 : Int).toNat) ((rd_T154 l0 x10_1).f2)).bind fun t285 => (if t285 = 0 then (impl_AreSlots.l0 k1 l0 l0 (l0.length : Int) (wrap64 (x10_1 + 1))) else (some false))) else (none)) else (some false)) = some r := H
   have A19 := zK A190
   clear A190
   by_cases c20 : t280 = true
   rotate_left
   ·replace c20 := Bool.eq_false_iff.mpr c20
    subst c20
    have H1 : (some false) = some r := by rw [if_neg (show ¬ (false = true) by decide)] at H; exact H
    clear H
    have H := H1
    clear H1
    obtain rfl := Option.some.inj H
    have p275 : 0 ≤ (x10_1 : Int) := oD (by first | (with_reducible assumption) | assumption)
    have q275 : x10_1 < (l0.length : Int) := oD (by first | (with_reducible assumption) | assumption)
    obtain ⟨ad275, e275, hx275_0, hx275_1, hx275_2⟩ := at_T154 HR0.out x10_1 p275 q275
    cases e275
    replace hx275_0 := (HB.out.cell (bL w hx275_0)).trans hx275_0
    replace hx275_1 := (HB.out.cell (bL w hx275_1)).trans hx275_1
    replace hx275_2 := (HB.out.cell (bL w hx275_2)).trans hx275_2
    replace p275 := eq_true p275
    replace q275 := eq_true q275
    try go_wp2_with (first | ((with_reducible refine gate_dst (N := 4) rfl ?_); refine box_event ?hg (N := 4) ?hd (cs := #[.int .i64 0, .int .i64 0, .int .i64 0]) (t := 154) ?hr ?_; (case hd => rfl); (case hg => rfl); (case hr => first | (go_simp; done) | (go_simp; rfl)); intro gb276 hg w37 hbox hb; have n0_ := zK (bT (qB HB.out) hb); have n1_ := zK (hbox); have n2_ := zK ((by rw [hg]; exact (bZ (qB HB.out)) : w.heap.size ≤ gb276)); have n3_ := zK ((by rw [hg]; exact (bZ (qB HB.out)) : w.heap.size ≤ gb276)); clear HB; have HB := n0_; have BK276 := n1_; have GW276 := n2_; have GE276 := n3_; clear n0_ n1_ n2_ n3_; clear hb hbox hg; have hcz38_0 : w37.cell? ⟨gb276, 0, none⟩ = some (.int .i64 0) := (bc BK276.out 0).trans rfl; have hcz38_1 : w37.cell? ⟨gb276, 1, none⟩ = some (.int .i64 0) := (bc BK276.out 1).trans rfl; have hcz38_2 : w37.cell? ⟨gb276, 2, none⟩ = some (.int .i64 0) := (bc BK276.out 2).trans rfl; have hfz38_0 := bf BK276.out 0; have hfz38_1 := bf BK276.out 1; have hfz38_2 := bf BK276.out 2))
    have n0_ : Aside0 ((((w37.setCell ⟨gb276, 0, none⟩ (.int .i64 ((rd_T154 l0 x10_1).f0))).setCell ⟨gb276, 1, none⟩ (.int .i64 ((rd_T154 l0 x10_1).f1))).setCell ⟨gb276, 2, none⟩ (.int .i64 ((rd_T154 l0 x10_1).f2))).heap[gb276]? = some (.cells #[.int .i64 ((rd_T154 l0 x10_1).f0), .int .i64 ((rd_T154 l0 x10_1).f1), .int .i64 ((rd_T154 l0 x10_1).f2)] 154 (0, 0))) := ⟨by (with_reducible repeat (first | refine kN ?_ _ | refine kD ?_ | refine kA ?_ _)); refine blk_put (cs := #[.int .i64 ((rd_T154 l0 x10_1).f0), .int .i64 ((rd_T154 l0 x10_1).f1), .int .i64 0]) ?_ 2 _ rfl; (with_reducible repeat (first | refine kN ?_ _ | refine kD ?_ | refine kA ?_ _)); refine blk_put (cs := #[.int .i64 ((rd_T154 l0 x10_1).f0), .int .i64 0, .int .i64 0]) ?_ 1 _ rfl; (with_reducible repeat (first | refine kN ?_ _ | refine kD ?_ | refine kA ?_ _)); refine blk_put (cs := #[.int .i64 0, .int .i64 0, .int .i64 0]) ?_ 0 _ rfl; exact qK BK276.out⟩
    have n1_ : Aside0 (Below w.heap.size w (((w37.setCell ⟨gb276, 0, none⟩ (.int .i64 ((rd_T154 l0 x10_1).f0))).setCell ⟨gb276, 1, none⟩ (.int .i64 ((rd_T154 l0 x10_1).f1))).setCell ⟨gb276, 2, none⟩ (.int .i64 ((rd_T154 l0 x10_1).f2)))) := ⟨by repeat (first | (with_reducible first | exact HB.out | apply bA | apply bN | apply b1 | refine bS ?_ GE276.out) | exact HB.out)⟩
    (try clear BK276)
    (try clear HB)
    generalize (((w37.setCell ⟨gb276, 0, none⟩ (.int .i64 ((rd_T154 l0 x10_1).f0))).setCell ⟨gb276, 1, none⟩ (.int .i64 ((rd_T154 l0 x10_1).f1))).setCell ⟨gb276, 2, none⟩ (.int .i64 ((rd_T154 l0 x10_1).f2))) = w39 at n0_ n1_ ⊢
    have BK276 := n0_
    have HB := n1_
    clear n0_ n1_
    have n0_ := zK (kD BK276.out)
    have n1_ := zK (b1 HB.out)
    clear BK276
    clear HB
    have BK276 := n0_
    have HB := n1_
    clear n0_ n1_
    have p278 : 0 ≤ ((ji9) : Int) := oD (by first | (with_reducible assumption) | assumption)
    have q278 : (ji9) < (l0.length : Int) := oD (by first | (with_reducible assumption) | assumption)
    obtain ⟨ad278, e278, hx278_0, hx278_1, hx278_2⟩ := at_T154 HR0.out (ji9) p278 q278
    have hw278_2 := hx278_2
    have hw278_1 := hx278_1
    have hw278_0 := hx278_0
    obtain rfl : ad275 = ad278 := (by injection e278)
    replace hx278_0 := (HB.out.cell (bL w hx278_0)).trans hx278_0
    replace hx278_1 := (HB.out.cell (bL w hx278_1)).trans hx278_1
    replace hx278_2 := (HB.out.cell (bL w hx278_2)).trans hx278_2
    replace p278 := eq_true p278
    replace q278 := eq_true q278
    refine start_ (n := 40) (S := fun w' => w'.cell? ⟨gb276, 0, none⟩ = some (.int .i64 ((rd_T154 l0 x10_1).f0)) ∧ w'.cell? ⟨gb276, 1, none⟩ = some (.int .i64 ((rd_T154 l0 x10_1).f1)) ∧ w'.cell? ⟨gb276, 2, none⟩ = some (.int .i64 ((rd_T154 l0 x10_1).f2)) ∧ w'.cell? (ad275.add (((ji9)).toNat * 3)) = some (.int .i64 ((rd_T154 l0 (ji9)).f0)) ∧ w'.cell? ⟨(ad275.add (((ji9)).toNat * 3)).block, (ad275.add (((ji9)).toNat * 3)).off + 1, none⟩ = some (.int .i64 ((rd_T154 l0 (ji9)).f1)) ∧ w'.cell? ⟨(ad275.add (((ji9)).toNat * 3)).block, (ad275.add (((ji9)).toNat * 3)).off + 2, none⟩ = some (.int .i64 ((rd_T154 l0 (ji9)).f2))) (ds := []) b11A0 (by kernel_rfl) rfl rfl ⟨(bc BK276.out 0).trans rfl, (bc BK276.out 1).trans rfl, (bc BK276.out 2).trans rfl, ((HB.out.cell (bL w hw278_0)).trans hw278_0), ((HB.out.cell (bL w hw278_1)).trans hw278_1), ((HB.out.cell (bL w hw278_2)).trans hw278_2)⟩ (fun hHeld => ?_); refine with_tabW impl_AreSlots.tab6 impl_AreSlots.bits6 (fun HT_ HW_ => ?_)
    generalize w39.drew = w40 at BK276 HB hx278_0 hx278_1 hx278_2 hHeld ⊢
    refine pI 0 (some 15) b11A1 HT_ ?_
    refine tI 1 (some 16) b11A2 HT_ HW_ hHeld rfl rfl (Or.inl ⟨by rfl, by rintro w' ⟨s0, s1, s2, s3, s4, s5⟩; go_simp; with_reducible rfl⟩) ?_
    refine one_ (i := 2) (N := some 17) b11A3 rfl rfl (one_of HT_.out (by kernel_rfl)) (by decide) (fun K hK => ?_)
    refine goes_ Try.func106 (by kernel_rfl) rfl #[.int .i64 ((rd_T154 l0 x10_1).f0), .int .i64 1, .int .i64 99] (by rfl) rfl rfl (by (try simp only [List.map_toArray, List.map_cons, List.map_nil]); first | done | rfl | (simp only [List.length_drop, List.length_take]; rfl)) ?_
    with_reducible refine (impl_InRange.calls ((rd_T154 l0 x10_1).f0) 1 99 true _ A6.out).mono ?_
    rintro e w' ⟨rfl, ⟨nd, rfl⟩⟩
    refine ⟨_, rfl, ?_⟩
    refine hK.out _ _ ⟨(bc BK276.out 0).trans rfl, (bc BK276.out 1).trans rfl, (bc BK276.out 2).trans rfl, ((HB.out.cell (bL w hw278_0)).trans hw278_0), ((HB.out.cell (bL w hw278_1)).trans hw278_1), ((HB.out.cell (bL w hw278_2)).trans hw278_2)⟩ (fun hHeld => ?_)
    clear hK K
    refine norm_ (a' := ?_) ?_ ?_
    rotate_left
    ·show Act.put _ (some 17) _ = _
     simp only [Act.put, sA, sZ, sS, i64_w, i32_w]
     rfl
    refine pI 3 (some 18) b11A4 HT_ ?_
    refine pI 4 (some 19) b11A5 HT_ ?_
    refine pI 5 (some 20) b11A6 HT_ ?_
    refine pI 6 (some 21) b11A7 HT_ ?_
    refine pI 7 (some 22) b11A8 HT_ ?_
    refine pI 8 (some 23) b11A9 HT_ ?_
    refine pI 10 (some 25) b11A10 HT_ ?_
    refine pI 11 (some 26) b11A11 HT_ ?_
    refine pI 12 (some 27) b11A12 HT_ ?_
    refine pI 13 (some 28) b11A13 HT_ ?_
    refine pI 14 (some 29) b11A14 HT_ ?_
    refine tI 9 (some 24) b11A15 HT_ HW_ hHeld rfl rfl (Or.inl ⟨by rfl, by rintro w' ⟨s0, s1, s2, s3, s4, s5⟩; go_simp; with_reducible rfl⟩) ?_
    refine tI 15 (some 30) b11A16 HT_ HW_ hHeld rfl rfl (Or.inl ⟨by rfl, by rintro w' ⟨s0, s1, s2, s3, s4, s5⟩; go_simp; with_reducible rfl⟩) ?_
    refine pI 16 (some 31) b11A17 HT_ ?_
    refine pI 17 (some 32) b11A18 HT_ ?_
    refine pI 18 (some 33) b11A19 HT_ ?_
    refine pI 19 (some 34) b11A20 HT_ ?_
    refine pI 20 (some 35) b11A21 HT_ ?_
    refine tI 21 (some 36) b11A22 HT_ HW_ hHeld rfl rfl (Or.inl ⟨by rfl, by rintro w' ⟨s0, s1, s2, s3, s4, s5⟩; go_simp; with_reducible rfl⟩) ?_
    refine one_ (i := 22) (N := some 37) b11A23 rfl rfl (one_of HT_.out (by kernel_rfl)) (by decide) (fun K hK => ?_)
    refine goes_ Try.func106 (by kernel_rfl) rfl #[.int .i64 ((rd_T154 l0 x10_1).f1), .int .i64 1, .int .i64 50] (by rfl) rfl rfl (by (try simp only [List.map_toArray, List.map_cons, List.map_nil]); first | done | rfl | (simp only [List.length_drop, List.length_take]; rfl)) ?_
    with_reducible refine (impl_InRange.calls ((rd_T154 l0 x10_1).f1) 1 50 true _ A17.out).mono ?_
    rintro e w' ⟨rfl, ⟨nd, rfl⟩⟩
    refine ⟨_, rfl, ?_⟩
    refine hK.out _ _ ⟨(bc BK276.out 0).trans rfl, (bc BK276.out 1).trans rfl, (bc BK276.out 2).trans rfl, ((HB.out.cell (bL w hw278_0)).trans hw278_0), ((HB.out.cell (bL w hw278_1)).trans hw278_1), ((HB.out.cell (bL w hw278_2)).trans hw278_2)⟩ (fun hHeld => ?_)
    clear hK K
    refine norm_ (a' := ?_) ?_ ?_
    rotate_left
    ·show Act.put _ (some 37) _ = _
     simp only [Act.put, sA, sZ, sS, i64_w, i32_w]
     rfl
    refine pI 23 (some 38) b11A24 HT_ ?_
    refine pI 24 (some 39) b11A25 HT_ ?_
    refine pI 25 (some 40) b11A26 HT_ ?_
    refine pI 26 (some 41) b11A27 HT_ ?_
    refine tI 27 (some 42) b11A28 HT_ HW_ hHeld rfl rfl (Or.inl ⟨by rfl, by rintro w' ⟨s0, s1, s2, s3, s4, s5⟩; go_simp; with_reducible rfl⟩) ?_
    refine one_ (i := 28) (N := some 43) b11A29 rfl rfl (one_of HT_.out (by kernel_rfl)) (by decide) (fun K hK => ?_)
    refine goes_ Try.func106 (by kernel_rfl) rfl #[.int .i64 ((rd_T154 l0 x10_1).f2), .int .i64 0, .int .i64 999] (by rfl) rfl rfl (by (try simp only [List.map_toArray, List.map_cons, List.map_nil]); first | done | rfl | (simp only [List.length_drop, List.length_take]; rfl)) ?_
    with_reducible refine (impl_InRange.calls ((rd_T154 l0 x10_1).f2) 0 999 false _ A19.out).mono ?_
    rintro e w' ⟨rfl, ⟨nd, rfl⟩⟩
    refine ⟨_, rfl, ?_⟩
    refine hK.out _ _ ⟨(bc BK276.out 0).trans rfl, (bc BK276.out 1).trans rfl, (bc BK276.out 2).trans rfl, ((HB.out.cell (bL w hw278_0)).trans hw278_0), ((HB.out.cell (bL w hw278_1)).trans hw278_1), ((HB.out.cell (bL w hw278_2)).trans hw278_2)⟩ (fun hHeld => ?_)
    clear hK K
    refine norm_ (a' := ?_) ?_ ?_
    rotate_left
    ·show Act.put _ (some 43) _ = _
     simp only [Act.put, sA, sZ, sS, i64_w, i32_w]
     rfl
    refine pI 29 (some 44) b11A30 HT_ ?_
    refine pI 30 (some 45) b11A31 HT_ ?_
    refine pI 31 (some 46) b11A32 HT_ ?_
    refine pU 32 (some 47) b11A33 HT_ ?_
    refine pU 33 (some 48) b11A34 HT_ ?_
    refine pU 34 (some 49) b11A35 HT_ ?_
    refine pU 35 (some 50) b11A36 HT_ ?_
    refine pU 36 (some 51) b11A37 HT_ ?_
    refine pU 37 (some 52) b11A38 HT_ ?_
    refine pU 38 (some 53) b11A39 HT_ ?_
    refine pI 39 (some 54) b11A40 HT_ ?_
    refine done_ (done_of HT_.out (by kernel_rfl)) ?_
    try go_wp2
    go_ret
    exact ⟨by first | rfl | (simp [errW_none, errW_some] <;> rfl) | (simp only [← hji9]; first | rfl | (simp [errW_none, errW_some] <;> rfl)) | (simp [*, errW_none, errW_some] <;> rfl), by repeat (first | (with_reducible first | exact HB.out | apply bA | apply bN | apply b1 | refine bS ?_ GE276.out) | exact HB.out)⟩
   subst c20
   have H1 : (if x10_1 ≤ (l0.length : Int) then ((impl_SlotOf.f (l0.take (x10_1 : Int).toNat) ((rd_T154 l0 x10_1).f2)).bind fun t285 => (if t285 = 0 then (impl_AreSlots.l0 k1 l0 l0 (l0.length : Int) (wrap64 (x10_1 + 1))) else (some false))) else (none)) = some r := by rw [if_pos rfl] at H; exact H
   clear H
   have H := H1
   clear H1
   have c21b0 := eq_true (oD (by first | (with_reducible assumption) | assumption) : 0 ≤ x10_1)
   by_cases c22 : x10_1 ≤ (l0.length : Int)
   rotate_left
   ·rw [if_neg c22] at H
    exact absurd H (by simp)
   rw [if_pos c22] at H
   have c22b0 := eq_true c22
   have c22b1 : decide (x10_1 ≤ (l0.length : Int)) = true := decide_eq_true c22
   clear c22
   obtain ⟨y281, hy281⟩ : ∃ y_ : List (S154), y_ = (l0.take (x10_1 : Int).toNat) := ⟨_, rfl⟩
   replace H : ((impl_SlotOf.f y281 ((rd_T154 l0 x10_1).f2)).bind fun t285 => (if t285 = 0 then (impl_AreSlots.l0 k1 l0 l0 (l0.length : Int) (wrap64 (x10_1 + 1))) else (some false))) = some r := by first | (rw [hy281]; with_reducible exact H) | (have H2_ := (Option.bind_some _ _).symm.trans H; rw [hy281]; with_reducible exact H2_) | (have H2_ := (Option.bind_some _ _).symm.trans H; with_reducible exact H2_) | with_reducible exact H | (rw [hy281]; exact H) | exact H
   have Ny281 := zK hy281
   clear hy281
   replace H := Option.bind_eq_some_iff.mp H
   obtain ⟨t285, A230, H⟩ := H
   replace H : (if t285 = 0 then (impl_AreSlots.l0 k1 l0 l0 (l0.length : Int) (wrap64 (x10_1 + 1))) else (some false)) = some r := H
   have A23 := zK A230
   clear A230
   by_cases c24 : t285 = 0
   rotate_left
   ·rw [if_neg c24] at H
    have c24b0 : (t285 == 0) = false := beq_eq_false_iff_ne.mpr c24
    have c24b1 : (t285 != 0) = true := bne_iff_ne.mpr c24
    obtain rfl := Option.some.inj H
    have p275 : 0 ≤ (x10_1 : Int) := oD (by first | (with_reducible assumption) | assumption)
    have q275 : x10_1 < (l0.length : Int) := oD (by first | (with_reducible assumption) | assumption)
    obtain ⟨ad275, e275, hx275_0, hx275_1, hx275_2⟩ := at_T154 HR0.out x10_1 p275 q275
    cases e275
    replace hx275_0 := (HB.out.cell (bL w hx275_0)).trans hx275_0
    replace hx275_1 := (HB.out.cell (bL w hx275_1)).trans hx275_1
    replace hx275_2 := (HB.out.cell (bL w hx275_2)).trans hx275_2
    replace p275 := eq_true p275
    replace q275 := eq_true q275
    try go_wp2_with (first | ((with_reducible refine gate_dst (N := 4) rfl ?_); refine box_event ?hg (N := 4) ?hd (cs := #[.int .i64 0, .int .i64 0, .int .i64 0]) (t := 154) ?hr ?_; (case hd => rfl); (case hg => rfl); (case hr => first | (go_simp; done) | (go_simp; rfl)); intro gb276 hg w31 hbox hb; have n0_ := zK (bT (qB HB.out) hb); have n1_ := zK (hbox); have n2_ := zK ((by rw [hg]; exact (bZ (qB HB.out)) : w.heap.size ≤ gb276)); have n3_ := zK ((by rw [hg]; exact (bZ (qB HB.out)) : w.heap.size ≤ gb276)); clear HB; have HB := n0_; have BK276 := n1_; have GW276 := n2_; have GE276 := n3_; clear n0_ n1_ n2_ n3_; clear hb hbox hg; have hcz32_0 : w31.cell? ⟨gb276, 0, none⟩ = some (.int .i64 0) := (bc BK276.out 0).trans rfl; have hcz32_1 : w31.cell? ⟨gb276, 1, none⟩ = some (.int .i64 0) := (bc BK276.out 1).trans rfl; have hcz32_2 : w31.cell? ⟨gb276, 2, none⟩ = some (.int .i64 0) := (bc BK276.out 2).trans rfl; have hfz32_0 := bf BK276.out 0; have hfz32_1 := bf BK276.out 1; have hfz32_2 := bf BK276.out 2))
    have n0_ : Aside0 ((((w31.setCell ⟨gb276, 0, none⟩ (.int .i64 ((rd_T154 l0 x10_1).f0))).setCell ⟨gb276, 1, none⟩ (.int .i64 ((rd_T154 l0 x10_1).f1))).setCell ⟨gb276, 2, none⟩ (.int .i64 ((rd_T154 l0 x10_1).f2))).heap[gb276]? = some (.cells #[.int .i64 ((rd_T154 l0 x10_1).f0), .int .i64 ((rd_T154 l0 x10_1).f1), .int .i64 ((rd_T154 l0 x10_1).f2)] 154 (0, 0))) := ⟨by (with_reducible repeat (first | refine kN ?_ _ | refine kD ?_ | refine kA ?_ _)); refine blk_put (cs := #[.int .i64 ((rd_T154 l0 x10_1).f0), .int .i64 ((rd_T154 l0 x10_1).f1), .int .i64 0]) ?_ 2 _ rfl; (with_reducible repeat (first | refine kN ?_ _ | refine kD ?_ | refine kA ?_ _)); refine blk_put (cs := #[.int .i64 ((rd_T154 l0 x10_1).f0), .int .i64 0, .int .i64 0]) ?_ 1 _ rfl; (with_reducible repeat (first | refine kN ?_ _ | refine kD ?_ | refine kA ?_ _)); refine blk_put (cs := #[.int .i64 0, .int .i64 0, .int .i64 0]) ?_ 0 _ rfl; exact qK BK276.out⟩
    have n1_ : Aside0 (Below w.heap.size w (((w31.setCell ⟨gb276, 0, none⟩ (.int .i64 ((rd_T154 l0 x10_1).f0))).setCell ⟨gb276, 1, none⟩ (.int .i64 ((rd_T154 l0 x10_1).f1))).setCell ⟨gb276, 2, none⟩ (.int .i64 ((rd_T154 l0 x10_1).f2)))) := ⟨by repeat (first | (with_reducible first | exact HB.out | apply bA | apply bN | apply b1 | refine bS ?_ GE276.out) | exact HB.out)⟩
    (try clear BK276)
    (try clear HB)
    generalize (((w31.setCell ⟨gb276, 0, none⟩ (.int .i64 ((rd_T154 l0 x10_1).f0))).setCell ⟨gb276, 1, none⟩ (.int .i64 ((rd_T154 l0 x10_1).f1))).setCell ⟨gb276, 2, none⟩ (.int .i64 ((rd_T154 l0 x10_1).f2))) = w33 at n0_ n1_ ⊢
    have BK276 := n0_
    have HB := n1_
    clear n0_ n1_
    have n0_ := zK (kD BK276.out)
    have n1_ := zK (b1 HB.out)
    clear BK276
    clear HB
    have BK276 := n0_
    have HB := n1_
    clear n0_ n1_
    have p278 : 0 ≤ ((ji9) : Int) := oD (by first | (with_reducible assumption) | assumption)
    have q278 : (ji9) < (l0.length : Int) := oD (by first | (with_reducible assumption) | assumption)
    obtain ⟨ad278, e278, hx278_0, hx278_1, hx278_2⟩ := at_T154 HR0.out (ji9) p278 q278
    have hw278_2 := hx278_2
    have hw278_1 := hx278_1
    have hw278_0 := hx278_0
    obtain rfl : ad275 = ad278 := (by injection e278)
    replace hx278_0 := (HB.out.cell (bL w hx278_0)).trans hx278_0
    replace hx278_1 := (HB.out.cell (bL w hx278_1)).trans hx278_1
    replace hx278_2 := (HB.out.cell (bL w hx278_2)).trans hx278_2
    replace p278 := eq_true p278
    replace q278 := eq_true q278
    refine start_ (n := 40) (S := fun w' => w'.cell? ⟨gb276, 0, none⟩ = some (.int .i64 ((rd_T154 l0 x10_1).f0)) ∧ w'.cell? ⟨gb276, 1, none⟩ = some (.int .i64 ((rd_T154 l0 x10_1).f1)) ∧ w'.cell? ⟨gb276, 2, none⟩ = some (.int .i64 ((rd_T154 l0 x10_1).f2)) ∧ w'.cell? (ad275.add (((ji9)).toNat * 3)) = some (.int .i64 ((rd_T154 l0 (ji9)).f0)) ∧ w'.cell? ⟨(ad275.add (((ji9)).toNat * 3)).block, (ad275.add (((ji9)).toNat * 3)).off + 1, none⟩ = some (.int .i64 ((rd_T154 l0 (ji9)).f1)) ∧ w'.cell? ⟨(ad275.add (((ji9)).toNat * 3)).block, (ad275.add (((ji9)).toNat * 3)).off + 2, none⟩ = some (.int .i64 ((rd_T154 l0 (ji9)).f2))) (ds := []) b11A0 (by kernel_rfl) rfl rfl ⟨(bc BK276.out 0).trans rfl, (bc BK276.out 1).trans rfl, (bc BK276.out 2).trans rfl, ((HB.out.cell (bL w hw278_0)).trans hw278_0), ((HB.out.cell (bL w hw278_1)).trans hw278_1), ((HB.out.cell (bL w hw278_2)).trans hw278_2)⟩ (fun hHeld => ?_); refine with_tabW impl_AreSlots.tab6 impl_AreSlots.bits6 (fun HT_ HW_ => ?_)
    generalize w33.drew = w34 at BK276 HB hx278_0 hx278_1 hx278_2 hHeld ⊢
    refine pI 0 (some 15) b11A1 HT_ ?_
    refine tI 1 (some 16) b11A2 HT_ HW_ hHeld rfl rfl (Or.inl ⟨by rfl, by rintro w' ⟨s0, s1, s2, s3, s4, s5⟩; go_simp; with_reducible rfl⟩) ?_
    refine one_ (i := 2) (N := some 17) b11A3 rfl rfl (one_of HT_.out (by kernel_rfl)) (by decide) (fun K hK => ?_)
    refine goes_ Try.func106 (by kernel_rfl) rfl #[.int .i64 ((rd_T154 l0 x10_1).f0), .int .i64 1, .int .i64 99] (by rfl) rfl rfl (by (try simp only [List.map_toArray, List.map_cons, List.map_nil]); first | done | rfl | (simp only [List.length_drop, List.length_take]; rfl)) ?_
    with_reducible refine (impl_InRange.calls ((rd_T154 l0 x10_1).f0) 1 99 true _ A6.out).mono ?_
    rintro e w' ⟨rfl, ⟨nd, rfl⟩⟩
    refine ⟨_, rfl, ?_⟩
    refine hK.out _ _ ⟨(bc BK276.out 0).trans rfl, (bc BK276.out 1).trans rfl, (bc BK276.out 2).trans rfl, ((HB.out.cell (bL w hw278_0)).trans hw278_0), ((HB.out.cell (bL w hw278_1)).trans hw278_1), ((HB.out.cell (bL w hw278_2)).trans hw278_2)⟩ (fun hHeld => ?_)
    clear hK K
    refine norm_ (a' := ?_) ?_ ?_
    rotate_left
    ·show Act.put _ (some 17) _ = _
     simp only [Act.put, sA, sZ, sS, i64_w, i32_w]
     rfl
    refine pI 3 (some 18) b11A4 HT_ ?_
    refine pI 4 (some 19) b11A5 HT_ ?_
    refine pI 5 (some 20) b11A6 HT_ ?_
    refine pI 6 (some 21) b11A7 HT_ ?_
    refine pI 7 (some 22) b11A8 HT_ ?_
    refine pI 8 (some 23) b11A9 HT_ ?_
    refine pI 10 (some 25) b11A10 HT_ ?_
    refine pI 11 (some 26) b11A11 HT_ ?_
    refine pI 12 (some 27) b11A12 HT_ ?_
    refine pI 13 (some 28) b11A13 HT_ ?_
    refine pI 14 (some 29) b11A14 HT_ ?_
    refine tI 9 (some 24) b11A15 HT_ HW_ hHeld rfl rfl (Or.inl ⟨by rfl, by rintro w' ⟨s0, s1, s2, s3, s4, s5⟩; go_simp; with_reducible rfl⟩) ?_
    refine tI 15 (some 30) b11A16 HT_ HW_ hHeld rfl rfl (Or.inl ⟨by rfl, by rintro w' ⟨s0, s1, s2, s3, s4, s5⟩; go_simp; with_reducible rfl⟩) ?_
    refine pI 16 (some 31) b11A17 HT_ ?_
    refine pI 17 (some 32) b11A18 HT_ ?_
    refine pI 18 (some 33) b11A19 HT_ ?_
    refine pI 19 (some 34) b11A20 HT_ ?_
    refine pI 20 (some 35) b11A21 HT_ ?_
    refine tI 21 (some 36) b11A22 HT_ HW_ hHeld rfl rfl (Or.inl ⟨by rfl, by rintro w' ⟨s0, s1, s2, s3, s4, s5⟩; go_simp; with_reducible rfl⟩) ?_
    refine one_ (i := 22) (N := some 37) b11A23 rfl rfl (one_of HT_.out (by kernel_rfl)) (by decide) (fun K hK => ?_)
    refine goes_ Try.func106 (by kernel_rfl) rfl #[.int .i64 ((rd_T154 l0 x10_1).f1), .int .i64 1, .int .i64 50] (by rfl) rfl rfl (by (try simp only [List.map_toArray, List.map_cons, List.map_nil]); first | done | rfl | (simp only [List.length_drop, List.length_take]; rfl)) ?_
    with_reducible refine (impl_InRange.calls ((rd_T154 l0 x10_1).f1) 1 50 true _ A17.out).mono ?_
    rintro e w' ⟨rfl, ⟨nd, rfl⟩⟩
    refine ⟨_, rfl, ?_⟩
    refine hK.out _ _ ⟨(bc BK276.out 0).trans rfl, (bc BK276.out 1).trans rfl, (bc BK276.out 2).trans rfl, ((HB.out.cell (bL w hw278_0)).trans hw278_0), ((HB.out.cell (bL w hw278_1)).trans hw278_1), ((HB.out.cell (bL w hw278_2)).trans hw278_2)⟩ (fun hHeld => ?_)
    clear hK K
    refine norm_ (a' := ?_) ?_ ?_
    rotate_left
    ·show Act.put _ (some 37) _ = _
     simp only [Act.put, sA, sZ, sS, i64_w, i32_w]
     rfl
    refine pI 23 (some 38) b11A24 HT_ ?_
    refine pI 24 (some 39) b11A25 HT_ ?_
    refine pI 25 (some 40) b11A26 HT_ ?_
    refine pI 26 (some 41) b11A27 HT_ ?_
    refine tI 27 (some 42) b11A28 HT_ HW_ hHeld rfl rfl (Or.inl ⟨by rfl, by rintro w' ⟨s0, s1, s2, s3, s4, s5⟩; go_simp; with_reducible rfl⟩) ?_
    refine one_ (i := 28) (N := some 43) b11A29 rfl rfl (one_of HT_.out (by kernel_rfl)) (by decide) (fun K hK => ?_)
    refine goes_ Try.func106 (by kernel_rfl) rfl #[.int .i64 ((rd_T154 l0 x10_1).f2), .int .i64 0, .int .i64 999] (by rfl) rfl rfl (by (try simp only [List.map_toArray, List.map_cons, List.map_nil]); first | done | rfl | (simp only [List.length_drop, List.length_take]; rfl)) ?_
    with_reducible refine (impl_InRange.calls ((rd_T154 l0 x10_1).f2) 0 999 true _ A19.out).mono ?_
    rintro e w' ⟨rfl, ⟨nd, rfl⟩⟩
    refine ⟨_, rfl, ?_⟩
    have q35 : (x10_1 : Int) ≤ ((l0.length : Int) : Int) := oD (by first | (with_reducible assumption) | assumption)
    obtain ⟨i035, hi035, _, hsz35, _⟩ := info_parts info154
    have hroom35 : l0.length ≤ c0 := HC0.out
    have hC35 : Kd.C k154 _ (some ad275) l0.length l0 := HR0.out
    have hcut35 := cut_to (P := Try.prog) 94 154 .i64 Try.underlying94 hi035 (some ad275) l0.length c0 x10_1 (oD (by first | (with_reducible assumption) | assumption)) q35 hroom35
    have hr35 := Kd.C_take (m := (x10_1 : Int).toNat) hC35 (by omega)
    have hy35 : y281.length = (x10_1 : Int).toNat := (by rw [Ny281.out, List.length_take]; omega)
    rw [← Ny281.out] at hr35
    rw [← hy35] at hcut35
    have HR284 := zK hr35
    have HC284 := zK (show y281.length ≤ c0 from by omega)
    clear hr35 hC35 hroom35 hi035 hsz35
    have KY35 := zK hy35
    clear hy35
    replace q35 := eq_true q35
    refine hK.out _ _ ⟨(bc BK276.out 0).trans rfl, (bc BK276.out 1).trans rfl, (bc BK276.out 2).trans rfl, ((HB.out.cell (bL w hw278_0)).trans hw278_0), ((HB.out.cell (bL w hw278_1)).trans hw278_1), ((HB.out.cell (bL w hw278_2)).trans hw278_2)⟩ (fun hHeld => ?_)
    clear hK K
    refine norm_ (a' := ?_) ?_ ?_
    rotate_left
    ·show Act.put _ (some 43) _ = _
     simp only [Act.put, sA, sZ, sS, i64_w, i32_w]
     rfl
    refine pI 29 (some 44) b11A30 HT_ ?_
    refine pI 30 (some 45) b11A31 HT_ ?_
    refine pI 31 (some 46) b11A32 HT_ ?_
    refine pI 32 (some 47) b11A33 HT_ ?_
    refine pI 33 (some 48) b11A34 HT_ ?_
    refine pI 34 (some 49) b11A35 HT_ ?_
    refine pI 35 (some 50) b11A36 HT_ ?_
    refine tI 36 (some 51) b11A37 HT_ HW_ hHeld rfl rfl (Or.inl ⟨by rfl, by rintro w' ⟨s0, s1, s2, s3, s4, s5⟩; go_simp; with_reducible rfl⟩) ?_
    refine one_ (i := 37) (N := some 52) b11A38 rfl rfl (one_of HT_.out (by kernel_rfl)) (by decide) (fun K hK => ?_)
    refine goes_ Try.func159 (by kernel_rfl) rfl #[.slice (some ad275) y281.length c0, .int .i64 ((rd_T154 l0 x10_1).f2)] (by rfl) rfl rfl (by (try simp only [List.map_toArray, List.map_cons, List.map_nil]); first | done | rfl | (simp only [List.length_drop, List.length_take]; rfl)) ?_
    with_reducible refine (impl_SlotOf.calls _ _ y281 ((rd_T154 l0 x10_1).f2) t285 _ ?side1 ?side2 A23.out).mono ?_
    (case side1 => repeat (first | exact (Kd.C_below HR284.out (by repeat (first | (with_reducible first | exact HB.out | apply bA | apply bN | apply b1 | refine bS ?_ GE276.out) | exact HB.out))) | (with_reducible refine Kd.CA ?_ _) | (with_reducible refine Kd.CN ?_ _) | (with_reducible refine Kd.CD ?_)))
    (case side2 => exact HC284.out)
    rintro e w36 ⟨rfl, hb⟩
    refine ⟨_, rfl, ?_⟩
    have n0_ := zK (bB (g := gb276) (o := .cells #[.int .i64 ((rd_T154 l0 x10_1).f0), .int .i64 ((rd_T154 l0 x10_1).f1), .int .i64 ((rd_T154 l0 x10_1).f2)] 154 (0, 0)) (qK BK276.out) hb)
    have n1_ := zK (bT (by repeat (first | (with_reducible first | exact HB.out | apply bA | apply bN | apply b1 | refine bS ?_ GE276.out) | exact HB.out)) hb)
    clear BK276
    clear HB
    have BK276 := n0_
    have HB := n1_
    clear n0_ n1_
    (try clear hb)
    (try clear hb2)
    (try clear hk)
    (try clear hi)
    refine hK.out _ _ ⟨(bc BK276.out 0).trans rfl, (bc BK276.out 1).trans rfl, (bc BK276.out 2).trans rfl, ((HB.out.cell (bL w hw278_0)).trans hw278_0), ((HB.out.cell (bL w hw278_1)).trans hw278_1), ((HB.out.cell (bL w hw278_2)).trans hw278_2)⟩ (fun hHeld => ?_)
    clear hK K
    refine norm_ (a' := ?_) ?_ ?_
    rotate_left
    ·show Act.put _ (some 52) _ = _
     simp only [Act.put, sA, sZ, sS, i64_w, i32_w]
     rfl
    refine pI 38 (some 53) b11A39 HT_ ?_
    refine pI 39 (some 54) b11A40 HT_ ?_
    refine done_ (done_of HT_.out (by kernel_rfl)) ?_
    try go_wp2
    go_ret
    exact ⟨by first | rfl | (simp [errW_none, errW_some] <;> rfl) | (simp only [← hji9]; first | rfl | (simp [errW_none, errW_some] <;> rfl)) | (simp [*, errW_none, errW_some] <;> rfl), by repeat (first | (with_reducible first | exact HB.out | apply bA | apply bN | apply b1 | refine bS ?_ GE276.out) | exact HB.out)⟩
   rw [if_pos c24] at H
   have c24b0 : (t285 == 0) = true := beq_iff_eq.mpr c24
   have c24b1 : (t285 != 0) = false := bne_eq_false_iff_eq.mpr c24
   clear c24
   have H' := zK H
   clear H
   have p275 : 0 ≤ (x10_1 : Int) := oD (by first | (with_reducible assumption) | assumption)
   have q275 : x10_1 < (l0.length : Int) := oD (by first | (with_reducible assumption) | assumption)
   obtain ⟨ad275, e275, hx275_0, hx275_1, hx275_2⟩ := at_T154 HR0.out x10_1 p275 q275
   cases e275
   replace hx275_0 := (HB.out.cell (bL w hx275_0)).trans hx275_0
   replace hx275_1 := (HB.out.cell (bL w hx275_1)).trans hx275_1
   replace hx275_2 := (HB.out.cell (bL w hx275_2)).trans hx275_2
   replace p275 := eq_true p275
   replace q275 := eq_true q275
   try go_wp2_with (first | ((with_reducible refine gate_dst (N := 4) rfl ?_); refine box_event ?hg (N := 4) ?hd (cs := #[.int .i64 0, .int .i64 0, .int .i64 0]) (t := 154) ?hr ?_; (case hd => rfl); (case hg => rfl); (case hr => first | (go_simp; done) | (go_simp; rfl)); intro gb276 hg w25 hbox hb; have n0_ := zK (bT (qB HB.out) hb); have n1_ := zK (hbox); have n2_ := zK ((by rw [hg]; exact (bZ (qB HB.out)) : w.heap.size ≤ gb276)); have n3_ := zK ((by rw [hg]; exact (bZ (qB HB.out)) : w.heap.size ≤ gb276)); clear HB; have HB := n0_; have BK276 := n1_; have GW276 := n2_; have GE276 := n3_; clear n0_ n1_ n2_ n3_; clear hb hbox hg; have hcz26_0 : w25.cell? ⟨gb276, 0, none⟩ = some (.int .i64 0) := (bc BK276.out 0).trans rfl; have hcz26_1 : w25.cell? ⟨gb276, 1, none⟩ = some (.int .i64 0) := (bc BK276.out 1).trans rfl; have hcz26_2 : w25.cell? ⟨gb276, 2, none⟩ = some (.int .i64 0) := (bc BK276.out 2).trans rfl; have hfz26_0 := bf BK276.out 0; have hfz26_1 := bf BK276.out 1; have hfz26_2 := bf BK276.out 2))
   have n0_ : Aside0 ((((w25.setCell ⟨gb276, 0, none⟩ (.int .i64 ((rd_T154 l0 x10_1).f0))).setCell ⟨gb276, 1, none⟩ (.int .i64 ((rd_T154 l0 x10_1).f1))).setCell ⟨gb276, 2, none⟩ (.int .i64 ((rd_T154 l0 x10_1).f2))).heap[gb276]? = some (.cells #[.int .i64 ((rd_T154 l0 x10_1).f0), .int .i64 ((rd_T154 l0 x10_1).f1), .int .i64 ((rd_T154 l0 x10_1).f2)] 154 (0, 0))) := ⟨by (with_reducible repeat (first | refine kN ?_ _ | refine kD ?_ | refine kA ?_ _)); refine blk_put (cs := #[.int .i64 ((rd_T154 l0 x10_1).f0), .int .i64 ((rd_T154 l0 x10_1).f1), .int .i64 0]) ?_ 2 _ rfl; (with_reducible repeat (first | refine kN ?_ _ | refine kD ?_ | refine kA ?_ _)); refine blk_put (cs := #[.int .i64 ((rd_T154 l0 x10_1).f0), .int .i64 0, .int .i64 0]) ?_ 1 _ rfl; (with_reducible repeat (first | refine kN ?_ _ | refine kD ?_ | refine kA ?_ _)); refine blk_put (cs := #[.int .i64 0, .int .i64 0, .int .i64 0]) ?_ 0 _ rfl; exact qK BK276.out⟩
   have n1_ : Aside0 (Below w.heap.size w (((w25.setCell ⟨gb276, 0, none⟩ (.int .i64 ((rd_T154 l0 x10_1).f0))).setCell ⟨gb276, 1, none⟩ (.int .i64 ((rd_T154 l0 x10_1).f1))).setCell ⟨gb276, 2, none⟩ (.int .i64 ((rd_T154 l0 x10_1).f2)))) := ⟨by repeat (first | (with_reducible first | exact HB.out | apply bA | apply bN | apply b1 | refine bS ?_ GE276.out) | exact HB.out)⟩
   (try clear BK276)
   (try clear HB)
   generalize (((w25.setCell ⟨gb276, 0, none⟩ (.int .i64 ((rd_T154 l0 x10_1).f0))).setCell ⟨gb276, 1, none⟩ (.int .i64 ((rd_T154 l0 x10_1).f1))).setCell ⟨gb276, 2, none⟩ (.int .i64 ((rd_T154 l0 x10_1).f2))) = w27 at n0_ n1_ ⊢
   have BK276 := n0_
   have HB := n1_
   clear n0_ n1_
   have n0_ := zK (kD BK276.out)
   have n1_ := zK (b1 HB.out)
   clear BK276
   clear HB
   have BK276 := n0_
   have HB := n1_
   clear n0_ n1_
   have p278 : 0 ≤ ((ji9) : Int) := oD (by first | (with_reducible assumption) | assumption)
   have q278 : (ji9) < (l0.length : Int) := oD (by first | (with_reducible assumption) | assumption)
   obtain ⟨ad278, e278, hx278_0, hx278_1, hx278_2⟩ := at_T154 HR0.out (ji9) p278 q278
   have hw278_2 := hx278_2
   have hw278_1 := hx278_1
   have hw278_0 := hx278_0
   obtain rfl : ad275 = ad278 := (by injection e278)
   replace hx278_0 := (HB.out.cell (bL w hx278_0)).trans hx278_0
   replace hx278_1 := (HB.out.cell (bL w hx278_1)).trans hx278_1
   replace hx278_2 := (HB.out.cell (bL w hx278_2)).trans hx278_2
   replace p278 := eq_true p278
   replace q278 := eq_true q278
   refine start_ (n := 40) (S := fun w' => w'.cell? ⟨gb276, 0, none⟩ = some (.int .i64 ((rd_T154 l0 x10_1).f0)) ∧ w'.cell? ⟨gb276, 1, none⟩ = some (.int .i64 ((rd_T154 l0 x10_1).f1)) ∧ w'.cell? ⟨gb276, 2, none⟩ = some (.int .i64 ((rd_T154 l0 x10_1).f2)) ∧ w'.cell? (ad275.add (((ji9)).toNat * 3)) = some (.int .i64 ((rd_T154 l0 (ji9)).f0)) ∧ w'.cell? ⟨(ad275.add (((ji9)).toNat * 3)).block, (ad275.add (((ji9)).toNat * 3)).off + 1, none⟩ = some (.int .i64 ((rd_T154 l0 (ji9)).f1)) ∧ w'.cell? ⟨(ad275.add (((ji9)).toNat * 3)).block, (ad275.add (((ji9)).toNat * 3)).off + 2, none⟩ = some (.int .i64 ((rd_T154 l0 (ji9)).f2))) (ds := []) b11A0 (by kernel_rfl) rfl rfl ⟨(bc BK276.out 0).trans rfl, (bc BK276.out 1).trans rfl, (bc BK276.out 2).trans rfl, ((HB.out.cell (bL w hw278_0)).trans hw278_0), ((HB.out.cell (bL w hw278_1)).trans hw278_1), ((HB.out.cell (bL w hw278_2)).trans hw278_2)⟩ (fun hHeld => ?_); refine with_tabW impl_AreSlots.tab6 impl_AreSlots.bits6 (fun HT_ HW_ => ?_)
   generalize w27.drew = w28 at BK276 HB hx278_0 hx278_1 hx278_2 hHeld ⊢
   refine pI 0 (some 15) b11A1 HT_ ?_
   refine tI 1 (some 16) b11A2 HT_ HW_ hHeld rfl rfl (Or.inl ⟨by rfl, by rintro w' ⟨s0, s1, s2, s3, s4, s5⟩; go_simp; with_reducible rfl⟩) ?_
   refine one_ (i := 2) (N := some 17) b11A3 rfl rfl (one_of HT_.out (by kernel_rfl)) (by decide) (fun K hK => ?_)
   refine goes_ Try.func106 (by kernel_rfl) rfl #[.int .i64 ((rd_T154 l0 x10_1).f0), .int .i64 1, .int .i64 99] (by rfl) rfl rfl (by (try simp only [List.map_toArray, List.map_cons, List.map_nil]); first | done | rfl | (simp only [List.length_drop, List.length_take]; rfl)) ?_
   with_reducible refine (impl_InRange.calls ((rd_T154 l0 x10_1).f0) 1 99 true _ A6.out).mono ?_
   rintro e w' ⟨rfl, ⟨nd, rfl⟩⟩
   refine ⟨_, rfl, ?_⟩
   refine hK.out _ _ ⟨(bc BK276.out 0).trans rfl, (bc BK276.out 1).trans rfl, (bc BK276.out 2).trans rfl, ((HB.out.cell (bL w hw278_0)).trans hw278_0), ((HB.out.cell (bL w hw278_1)).trans hw278_1), ((HB.out.cell (bL w hw278_2)).trans hw278_2)⟩ (fun hHeld => ?_)
   clear hK K
   refine norm_ (a' := ?_) ?_ ?_
   rotate_left
   ·show Act.put _ (some 17) _ = _
    simp only [Act.put, sA, sZ, sS, i64_w, i32_w]
    rfl
   refine pI 3 (some 18) b11A4 HT_ ?_
   refine pI 4 (some 19) b11A5 HT_ ?_
   refine pI 5 (some 20) b11A6 HT_ ?_
   refine pI 6 (some 21) b11A7 HT_ ?_
   refine pI 7 (some 22) b11A8 HT_ ?_
   refine pI 8 (some 23) b11A9 HT_ ?_
   refine pI 10 (some 25) b11A10 HT_ ?_
   refine pI 11 (some 26) b11A11 HT_ ?_
   refine pI 12 (some 27) b11A12 HT_ ?_
   refine pI 13 (some 28) b11A13 HT_ ?_
   refine pI 14 (some 29) b11A14 HT_ ?_
   refine tI 9 (some 24) b11A15 HT_ HW_ hHeld rfl rfl (Or.inl ⟨by rfl, by rintro w' ⟨s0, s1, s2, s3, s4, s5⟩; go_simp; with_reducible rfl⟩) ?_
   refine tI 15 (some 30) b11A16 HT_ HW_ hHeld rfl rfl (Or.inl ⟨by rfl, by rintro w' ⟨s0, s1, s2, s3, s4, s5⟩; go_simp; with_reducible rfl⟩) ?_
   refine pI 16 (some 31) b11A17 HT_ ?_
   refine pI 17 (some 32) b11A18 HT_ ?_
   refine pI 18 (some 33) b11A19 HT_ ?_
   refine pI 19 (some 34) b11A20 HT_ ?_
   refine pI 20 (some 35) b11A21 HT_ ?_
   refine tI 21 (some 36) b11A22 HT_ HW_ hHeld rfl rfl (Or.inl ⟨by rfl, by rintro w' ⟨s0, s1, s2, s3, s4, s5⟩; go_simp; with_reducible rfl⟩) ?_
   refine one_ (i := 22) (N := some 37) b11A23 rfl rfl (one_of HT_.out (by kernel_rfl)) (by decide) (fun K hK => ?_)
   refine goes_ Try.func106 (by kernel_rfl) rfl #[.int .i64 ((rd_T154 l0 x10_1).f1), .int .i64 1, .int .i64 50] (by rfl) rfl rfl (by (try simp only [List.map_toArray, List.map_cons, List.map_nil]); first | done | rfl | (simp only [List.length_drop, List.length_take]; rfl)) ?_
   with_reducible refine (impl_InRange.calls ((rd_T154 l0 x10_1).f1) 1 50 true _ A17.out).mono ?_
   rintro e w' ⟨rfl, ⟨nd, rfl⟩⟩
   refine ⟨_, rfl, ?_⟩
   refine hK.out _ _ ⟨(bc BK276.out 0).trans rfl, (bc BK276.out 1).trans rfl, (bc BK276.out 2).trans rfl, ((HB.out.cell (bL w hw278_0)).trans hw278_0), ((HB.out.cell (bL w hw278_1)).trans hw278_1), ((HB.out.cell (bL w hw278_2)).trans hw278_2)⟩ (fun hHeld => ?_)
   clear hK K
   refine norm_ (a' := ?_) ?_ ?_
   rotate_left
   ·show Act.put _ (some 37) _ = _
    simp only [Act.put, sA, sZ, sS, i64_w, i32_w]
    rfl
   refine pI 23 (some 38) b11A24 HT_ ?_
   refine pI 24 (some 39) b11A25 HT_ ?_
   refine pI 25 (some 40) b11A26 HT_ ?_
   refine pI 26 (some 41) b11A27 HT_ ?_
   refine tI 27 (some 42) b11A28 HT_ HW_ hHeld rfl rfl (Or.inl ⟨by rfl, by rintro w' ⟨s0, s1, s2, s3, s4, s5⟩; go_simp; with_reducible rfl⟩) ?_
   refine one_ (i := 28) (N := some 43) b11A29 rfl rfl (one_of HT_.out (by kernel_rfl)) (by decide) (fun K hK => ?_)
   refine goes_ Try.func106 (by kernel_rfl) rfl #[.int .i64 ((rd_T154 l0 x10_1).f2), .int .i64 0, .int .i64 999] (by rfl) rfl rfl (by (try simp only [List.map_toArray, List.map_cons, List.map_nil]); first | done | rfl | (simp only [List.length_drop, List.length_take]; rfl)) ?_
   with_reducible refine (impl_InRange.calls ((rd_T154 l0 x10_1).f2) 0 999 true _ A19.out).mono ?_
   rintro e w' ⟨rfl, ⟨nd, rfl⟩⟩
   refine ⟨_, rfl, ?_⟩
   have q29 : (x10_1 : Int) ≤ ((l0.length : Int) : Int) := oD (by first | (with_reducible assumption) | assumption)
   obtain ⟨i029, hi029, _, hsz29, _⟩ := info_parts info154
   have hroom29 : l0.length ≤ c0 := HC0.out
   have hC29 : Kd.C k154 _ (some ad275) l0.length l0 := HR0.out
   have hcut29 := cut_to (P := Try.prog) 94 154 .i64 Try.underlying94 hi029 (some ad275) l0.length c0 x10_1 (oD (by first | (with_reducible assumption) | assumption)) q29 hroom29
   have hr29 := Kd.C_take (m := (x10_1 : Int).toNat) hC29 (by omega)
   have hy29 : y281.length = (x10_1 : Int).toNat := (by rw [Ny281.out, List.length_take]; omega)
   rw [← Ny281.out] at hr29
   rw [← hy29] at hcut29
   have HR284 := zK hr29
   have HC284 := zK (show y281.length ≤ c0 from by omega)
   clear hr29 hC29 hroom29 hi029 hsz29
   have KY29 := zK hy29
   clear hy29
   replace q29 := eq_true q29
   refine hK.out _ _ ⟨(bc BK276.out 0).trans rfl, (bc BK276.out 1).trans rfl, (bc BK276.out 2).trans rfl, ((HB.out.cell (bL w hw278_0)).trans hw278_0), ((HB.out.cell (bL w hw278_1)).trans hw278_1), ((HB.out.cell (bL w hw278_2)).trans hw278_2)⟩ (fun hHeld => ?_)
   clear hK K
   refine norm_ (a' := ?_) ?_ ?_
   rotate_left
   ·show Act.put _ (some 43) _ = _
    simp only [Act.put, sA, sZ, sS, i64_w, i32_w]
    rfl
   refine pI 29 (some 44) b11A30 HT_ ?_
   refine pI 30 (some 45) b11A31 HT_ ?_
   refine pI 31 (some 46) b11A32 HT_ ?_
   refine pI 32 (some 47) b11A33 HT_ ?_
   refine pI 33 (some 48) b11A34 HT_ ?_
   refine pI 34 (some 49) b11A35 HT_ ?_
   refine pI 35 (some 50) b11A36 HT_ ?_
   refine tI 36 (some 51) b11A37 HT_ HW_ hHeld rfl rfl (Or.inl ⟨by rfl, by rintro w' ⟨s0, s1, s2, s3, s4, s5⟩; go_simp; with_reducible rfl⟩) ?_
   refine one_ (i := 37) (N := some 52) b11A38 rfl rfl (one_of HT_.out (by kernel_rfl)) (by decide) (fun K hK => ?_)
   refine goes_ Try.func159 (by kernel_rfl) rfl #[.slice (some ad275) y281.length c0, .int .i64 ((rd_T154 l0 x10_1).f2)] (by rfl) rfl rfl (by (try simp only [List.map_toArray, List.map_cons, List.map_nil]); first | done | rfl | (simp only [List.length_drop, List.length_take]; rfl)) ?_
   with_reducible refine (impl_SlotOf.calls _ _ y281 ((rd_T154 l0 x10_1).f2) t285 _ ?side1 ?side2 A23.out).mono ?_
   (case side1 => repeat (first | exact (Kd.C_below HR284.out (by repeat (first | (with_reducible first | exact HB.out | apply bA | apply bN | apply b1 | refine bS ?_ GE276.out) | exact HB.out))) | (with_reducible refine Kd.CA ?_ _) | (with_reducible refine Kd.CN ?_ _) | (with_reducible refine Kd.CD ?_)))
   (case side2 => exact HC284.out)
   rintro e w30 ⟨rfl, hb⟩
   refine ⟨_, rfl, ?_⟩
   have n0_ := zK (bB (g := gb276) (o := .cells #[.int .i64 ((rd_T154 l0 x10_1).f0), .int .i64 ((rd_T154 l0 x10_1).f1), .int .i64 ((rd_T154 l0 x10_1).f2)] 154 (0, 0)) (qK BK276.out) hb)
   have n1_ := zK (bT (by repeat (first | (with_reducible first | exact HB.out | apply bA | apply bN | apply b1 | refine bS ?_ GE276.out) | exact HB.out)) hb)
   clear BK276
   clear HB
   have BK276 := n0_
   have HB := n1_
   clear n0_ n1_
   (try clear hb)
   (try clear hb2)
   (try clear hk)
   (try clear hi)
   refine hK.out _ _ ⟨(bc BK276.out 0).trans rfl, (bc BK276.out 1).trans rfl, (bc BK276.out 2).trans rfl, ((HB.out.cell (bL w hw278_0)).trans hw278_0), ((HB.out.cell (bL w hw278_1)).trans hw278_1), ((HB.out.cell (bL w hw278_2)).trans hw278_2)⟩ (fun hHeld => ?_)
   clear hK K
   refine norm_ (a' := ?_) ?_ ?_
   rotate_left
   ·show Act.put _ (some 52) _ = _
    simp only [Act.put, sA, sZ, sS, i64_w, i32_w]
    rfl
   refine pI 38 (some 53) b11A39 HT_ ?_
   refine pI 39 (some 54) b11A40 HT_ ?_
   refine done_ (done_of HT_.out (by kernel_rfl)) ?_
   try go_wp2
   go_roundg k1
   case measure => have := HK1.out; omega
   case rel => exact ⟨(wrap64 (x10_1 + 1)), (by first | rfl | (simp; done) | (simp [*]; done)), H', ⟨by have := HK1.out; omega⟩, ⟨by repeat (first | (with_reducible first | exact HB.out | apply bA | apply bN | apply b1 | refine bS ?_ GE276.out) | exact HB.out)⟩⟩
end Go.Proofs.Ytejhjenlodclpaa.PFnExactTighten
