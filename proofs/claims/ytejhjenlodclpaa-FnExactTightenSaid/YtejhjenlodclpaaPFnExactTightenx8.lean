/- Walks of functions that FnExactTighten reaches: written by a tool of the kit for this claim, then shortened by a program of ours. -/
import Derived.Test.YtejhjenlodclpaaPFnExactTightenx0
import Derived.Test.YtejhjenlodclpaaPFnExactTightenx2
import Derived.Test.YtejhjenlodclpaaPFnExactTightenx3
import Derived.Test.YtejhjenlodclpaaPFnExactTightenx5
/- narrow -/
namespace Go.Proofs.Ytejhjenlodclpaa.PFnExactTighten
open Go.RowKit Go.Proofs.YtejhjenlodclpaaW.PrintWords Go.Proofs.YtejhjenlodclpaaW.PrintLast Go.Proofs.YtejhjenlodclpaaW.PrintMore
attribute [local go_sem] max2_int min2_int max_two min_two max_three min_three max_four min_four   -- for this text's walks alone
set_option linter.unusedVariables false
set_option linter.unusedSimpArgs false

/-! ### spec_SmallestFree: function 189 -/
def spec_SmallestFree.l0 : Nat → List (S154) → Int → Int → Int → Option (Int)
 | 0, _, _, _, _ => none
 | k + 1, x0, x1, x5, x6 => if x6 < (x0.length : Int) then (if 0 ≤ x6 then (if ((rd_T154 x0 x6).f2) = 0 then (if ((rd_T154 x0 x6).f1) ≥ x1 then (if x5 < 0 then (spec_SmallestFree.l0 k x0 x1 x6 (wrap64 (x6 + 1))) else (if 0 ≤ x5 then (if x5 < (x0.length : Int) then (if ((rd_T154 x0 x6).f1) < ((rd_T154 x0 x5).f1) then (spec_SmallestFree.l0 k x0 x1 x6 (wrap64 (x6 + 1))) else (spec_SmallestFree.l0 k x0 x1 x5 (wrap64 (x6 + 1)))) else (none)) else (none))) else (spec_SmallestFree.l0 k x0 x1 x5 (wrap64 (x6 + 1)))) else (spec_SmallestFree.l0 k x0 x1 x5 (wrap64 (x6 + 1)))) else (none)) else (if x5 < 0 then (some 0) else (if 0 ≤ x5 then (if x5 < (x0.length : Int) then (some ((rd_T154 x0 x5).f0)) else (none)) else (none)))
def spec_SmallestFree.f (k : Nat) (l0 : List (S154)) (a1 : Int) : Option (Int) := spec_SmallestFree.l0 k l0 a1 (-1) 0
set_option maxHeartbeats 8000000 in
set_option maxRecDepth 100000 in
theorem spec_SmallestFree.calls (k : Nat) (A0 : Option Addr) (c0 : Nat) (l0 : List (S154)) (a1 : Int) (r : Int) (w : World) (hr0 : Kd.C k154 w A0 l0.length l0) (hc0 : l0.length ≤ c0) (h : spec_SmallestFree.f k l0 a1 = some r) :
  Calls Try.prog 189 #[.slice A0 l0.length c0, .int .i64 a1] w fun e w' => e = .returned (.int .i64 r) ∧ Drawn0 w w' := by
 have HR0 := zK hr0
 have HC0 := zK hc0
 clear hr0 hc0
 have H : (spec_SmallestFree.l0 k l0 a1 (-1) 0) = some r := h
 clear h
 have H' := zK H
 clear H
 go_enter Try.func189, Try.ntmps189
 go_wp2
 repeat (go_quiet (fail); try go_wp2)
 go_loopg [5, 6] k (fun kq v5 v6 w' => ∃ (x5_1 : Int) (x6_1 : Int), v5 = .int .i64 x5_1 ∧ v6 = .int .i64 x6_1 ∧ Aside0 (spec_SmallestFree.l0 kq l0 a1 x5_1 x6_1 = some r) ∧ Aside0 (kq ≤ k) ∧ Drawn0 w w')
 case atStart => exact ⟨((-1)), (0), (by first | rfl | (simp; done) | (simp [*]; done)), (by first | rfl | (simp; done) | (simp [*]; done)), H', ⟨Nat.le_refl _⟩, by repeat (first | exact Drawn0.refl _ | apply Drawn0.step)⟩
 case round =>
  clear H'
  try clear c1
  try clear p2
  obtain ⟨x5_1, x6_1, rfl, rfl, HA, HK1, ⟨m1, rfl⟩⟩ := hrel
  cases gk with
  | zero => exact absurd HA.out (by simp [spec_SmallestFree.l0])
  | succ k1 =>
   have H := HA.out
   clear HA
   simp only [spec_SmallestFree.l0] at H
   by_cases c3 : x6_1 < (l0.length : Int)
   rotate_left
   ·rw [if_neg c3] at H
    have c3b0 : decide (x6_1 < (l0.length : Int)) = false := decide_eq_false c3
    clear c3
    by_cases c11 : x5_1 < 0
    ·rw [if_pos c11] at H
     have c11b0 : decide (x5_1 < 0) = true := decide_eq_true c11
     clear c11
     obtain rfl := Option.some.inj H
     go_wp2
     repeat (go_quiet (fail); try go_wp2)
     go_ret
     exact ⟨by first | rfl | (simp; done) | (simp [*]; done), by repeat (first | exact Drawn0.refl _ | apply Drawn0.step)⟩
    rw [if_neg c11] at H
    have c11b0 : decide (x5_1 < 0) = false := decide_eq_false c11
    clear c11
    by_cases c12 : 0 ≤ x5_1
    rotate_left
    ·rw [if_neg c12] at H
     exact absurd H (by simp)
    rw [if_pos c12] at H
    have c12b0 : decide (0 ≤ x5_1) = true := decide_eq_true c12
    clear c12
    by_cases c13 : x5_1 < (l0.length : Int)
    rotate_left
    ·rw [if_neg c13] at H
     exact absurd H (by simp)
    rw [if_pos c13] at H
    have c13b0 : decide (x5_1 < (l0.length : Int)) = true := decide_eq_true c13
    clear c13
    obtain rfl := Option.some.inj H
    have p180 : 0 ≤ (x5_1 : Int) := oD (by first | (with_reducible assumption) | assumption)
    have q180 : x5_1 < (l0.length : Int) := oD (by first | (with_reducible assumption) | assumption)
    obtain ⟨ad180, e180, hx180_0, hx180_1, hx180_2⟩ := at_T154 HR0.out x5_1 p180 q180
    cases e180
    replace p180 := eq_true p180
    replace q180 := eq_true q180
    go_wp2
    repeat (go_quiet (fail); try go_wp2)
    go_ret
    exact ⟨by first | rfl | (simp; done) | (simp [*]; done), by repeat (first | exact Drawn0.refl _ | apply Drawn0.step)⟩
   rw [if_pos c3] at H
   have c3b0 : decide (x6_1 < (l0.length : Int)) = true := decide_eq_true c3
   clear c3
   by_cases c4 : 0 ≤ x6_1
   rotate_left
   ·rw [if_neg c4] at H
    exact absurd H (by simp)
   rw [if_pos c4] at H
   have c4b0 : decide (0 ≤ x6_1) = true := decide_eq_true c4
   clear c4
   by_cases c5 : ((rd_T154 l0 x6_1).f2) = 0
   rotate_left
   ·rw [if_neg c5] at H
    have c5b0 : (((rd_T154 l0 x6_1).f2) == 0) = false := beq_eq_false_iff_ne.mpr c5
    have c5b1 : (((rd_T154 l0 x6_1).f2) != 0) = true := bne_iff_ne.mpr c5
    have H' := zK H
    clear H
    have p176 : 0 ≤ (x6_1 : Int) := oD (by first | (with_reducible assumption) | assumption)
    have q176 : x6_1 < (l0.length : Int) := oD (by first | (with_reducible assumption) | assumption)
    obtain ⟨ad176, e176, hx176_0, hx176_1, hx176_2⟩ := at_T154 HR0.out x6_1 p176 q176
    cases e176
    replace p176 := eq_true p176
    replace q176 := eq_true q176
    go_wp2
    repeat (go_quiet (fail); try go_wp2)
    go_roundg k1
    case measure => have := HK1.out; omega
    case rel => exact ⟨(x5_1), (wrap64 (x6_1 + 1)), (by first | rfl | (simp; done) | (simp [*]; done)), (by first | rfl | (simp; done) | (simp [*]; done)), H', ⟨by have := HK1.out; omega⟩, by repeat (first | exact Drawn0.refl _ | apply Drawn0.step)⟩
   rw [if_pos c5] at H
   have c5b0 : (((rd_T154 l0 x6_1).f2) == 0) = true := beq_iff_eq.mpr c5
   have c5b1 : (((rd_T154 l0 x6_1).f2) != 0) = false := bne_eq_false_iff_eq.mpr c5
   clear c5
   by_cases c6 : ((rd_T154 l0 x6_1).f1) ≥ a1
   rotate_left
   ·rw [if_neg c6] at H
    have c6b0 : decide (a1 ≤ ((rd_T154 l0 x6_1).f1)) = false := decide_eq_false c6
    clear c6
    have H' := zK H
    clear H
    have p176 : 0 ≤ (x6_1 : Int) := oD (by first | (with_reducible assumption) | assumption)
    have q176 : x6_1 < (l0.length : Int) := oD (by first | (with_reducible assumption) | assumption)
    obtain ⟨ad176, e176, hx176_0, hx176_1, hx176_2⟩ := at_T154 HR0.out x6_1 p176 q176
    cases e176
    replace p176 := eq_true p176
    replace q176 := eq_true q176
    have p177 : 0 ≤ (x6_1 : Int) := oD (by first | (with_reducible assumption) | assumption)
    have q177 : x6_1 < (l0.length : Int) := oD (by first | (with_reducible assumption) | assumption)
    obtain ⟨ad177, e177, hx177_0, hx177_1, hx177_2⟩ := at_T154 HR0.out x6_1 p177 q177
    obtain rfl : ad176 = ad177 := (by injection e177)
    replace p177 := eq_true p177
    replace q177 := eq_true q177
    go_wp2
    repeat (go_quiet (fail); try go_wp2)
    go_roundg k1
    case measure => have := HK1.out; omega
    case rel => exact ⟨(x5_1), (wrap64 (x6_1 + 1)), (by first | rfl | (simp; done) | (simp [*]; done)), (by first | rfl | (simp; done) | (simp [*]; done)), H', ⟨by have := HK1.out; omega⟩, by repeat (first | exact Drawn0.refl _ | apply Drawn0.step)⟩
   rw [if_pos c6] at H
   have c6b0 : decide (a1 ≤ ((rd_T154 l0 x6_1).f1)) = true := decide_eq_true c6
   clear c6
   by_cases c7 : x5_1 < 0
   ·rw [if_pos c7] at H
    have c7b0 : decide (x5_1 < 0) = true := decide_eq_true c7
    clear c7
    have H' := zK H
    clear H
    have p176 : 0 ≤ (x6_1 : Int) := oD (by first | (with_reducible assumption) | assumption)
    have q176 : x6_1 < (l0.length : Int) := oD (by first | (with_reducible assumption) | assumption)
    obtain ⟨ad176, e176, hx176_0, hx176_1, hx176_2⟩ := at_T154 HR0.out x6_1 p176 q176
    cases e176
    replace p176 := eq_true p176
    replace q176 := eq_true q176
    have p177 : 0 ≤ (x6_1 : Int) := oD (by first | (with_reducible assumption) | assumption)
    have q177 : x6_1 < (l0.length : Int) := oD (by first | (with_reducible assumption) | assumption)
    obtain ⟨ad177, e177, hx177_0, hx177_1, hx177_2⟩ := at_T154 HR0.out x6_1 p177 q177
    obtain rfl : ad176 = ad177 := (by injection e177)
    replace p177 := eq_true p177
    replace q177 := eq_true q177
    go_wp2
    repeat (go_quiet (fail); try go_wp2)
    go_roundg k1
    case measure => have := HK1.out; omega
    case rel => exact ⟨(x6_1), (wrap64 (x6_1 + 1)), (by first | rfl | (simp; done) | (simp [*]; done)), (by first | rfl | (simp; done) | (simp [*]; done)), H', ⟨by have := HK1.out; omega⟩, by repeat (first | exact Drawn0.refl _ | apply Drawn0.step)⟩
   rw [if_neg c7] at H
   have c7b0 : decide (x5_1 < 0) = false := decide_eq_false c7
   clear c7
   by_cases c8 : 0 ≤ x5_1
   rotate_left
   ·rw [if_neg c8] at H
    exact absurd H (by simp)
   rw [if_pos c8] at H
   have c8b0 : decide (0 ≤ x5_1) = true := decide_eq_true c8
   clear c8
   by_cases c9 : x5_1 < (l0.length : Int)
   rotate_left
   ·rw [if_neg c9] at H
    exact absurd H (by simp)
   rw [if_pos c9] at H
   have c9b0 : decide (x5_1 < (l0.length : Int)) = true := decide_eq_true c9
   clear c9
   by_cases c10 : ((rd_T154 l0 x6_1).f1) < ((rd_T154 l0 x5_1).f1)
   ·rw [if_pos c10] at H
    have c10b0 : decide (((rd_T154 l0 x6_1).f1) < ((rd_T154 l0 x5_1).f1)) = true := decide_eq_true c10
    clear c10
    have H' := zK H
    clear H
    have p176 : 0 ≤ (x6_1 : Int) := oD (by first | (with_reducible assumption) | assumption)
    have q176 : x6_1 < (l0.length : Int) := oD (by first | (with_reducible assumption) | assumption)
    obtain ⟨ad176, e176, hx176_0, hx176_1, hx176_2⟩ := at_T154 HR0.out x6_1 p176 q176
    cases e176
    replace p176 := eq_true p176
    replace q176 := eq_true q176
    have p177 : 0 ≤ (x6_1 : Int) := oD (by first | (with_reducible assumption) | assumption)
    have q177 : x6_1 < (l0.length : Int) := oD (by first | (with_reducible assumption) | assumption)
    obtain ⟨ad177, e177, hx177_0, hx177_1, hx177_2⟩ := at_T154 HR0.out x6_1 p177 q177
    obtain rfl : ad176 = ad177 := (by injection e177)
    replace p177 := eq_true p177
    replace q177 := eq_true q177
    have p178 : 0 ≤ (x6_1 : Int) := oD (by first | (with_reducible assumption) | assumption)
    have q178 : x6_1 < (l0.length : Int) := oD (by first | (with_reducible assumption) | assumption)
    obtain ⟨ad178, e178, hx178_0, hx178_1, hx178_2⟩ := at_T154 HR0.out x6_1 p178 q178
    obtain rfl : ad176 = ad178 := (by injection e178)
    replace p178 := eq_true p178
    replace q178 := eq_true q178
    have p179 : 0 ≤ (x5_1 : Int) := oD (by first | (with_reducible assumption) | assumption)
    have q179 : x5_1 < (l0.length : Int) := oD (by first | (with_reducible assumption) | assumption)
    obtain ⟨ad179, e179, hx179_0, hx179_1, hx179_2⟩ := at_T154 HR0.out x5_1 p179 q179
    obtain rfl : ad176 = ad179 := (by injection e179)
    replace p179 := eq_true p179
    replace q179 := eq_true q179
    go_wp2
    repeat (go_quiet (fail); try go_wp2)
    go_roundg k1
    case measure => have := HK1.out; omega
    case rel => exact ⟨(x6_1), (wrap64 (x6_1 + 1)), (by first | rfl | (simp; done) | (simp [*]; done)), (by first | rfl | (simp; done) | (simp [*]; done)), H', ⟨by have := HK1.out; omega⟩, by repeat (first | exact Drawn0.refl _ | apply Drawn0.step)⟩
   rw [if_neg c10] at H
   have c10b0 : decide (((rd_T154 l0 x6_1).f1) < ((rd_T154 l0 x5_1).f1)) = false := decide_eq_false c10
   clear c10
   have H' := zK H
   clear H
   have p176 : 0 ≤ (x6_1 : Int) := oD (by first | (with_reducible assumption) | assumption)
   have q176 : x6_1 < (l0.length : Int) := oD (by first | (with_reducible assumption) | assumption)
   obtain ⟨ad176, e176, hx176_0, hx176_1, hx176_2⟩ := at_T154 HR0.out x6_1 p176 q176
   cases e176
   replace p176 := eq_true p176
   replace q176 := eq_true q176
   have p177 : 0 ≤ (x6_1 : Int) := oD (by first | (with_reducible assumption) | assumption)
   have q177 : x6_1 < (l0.length : Int) := oD (by first | (with_reducible assumption) | assumption)
   obtain ⟨ad177, e177, hx177_0, hx177_1, hx177_2⟩ := at_T154 HR0.out x6_1 p177 q177
   obtain rfl : ad176 = ad177 := (by injection e177)
   replace p177 := eq_true p177
   replace q177 := eq_true q177
   have p178 : 0 ≤ (x6_1 : Int) := oD (by first | (with_reducible assumption) | assumption)
   have q178 : x6_1 < (l0.length : Int) := oD (by first | (with_reducible assumption) | assumption)
   obtain ⟨ad178, e178, hx178_0, hx178_1, hx178_2⟩ := at_T154 HR0.out x6_1 p178 q178
   obtain rfl : ad176 = ad178 := (by injection e178)
   replace p178 := eq_true p178
   replace q178 := eq_true q178
   have p179 : 0 ≤ (x5_1 : Int) := oD (by first | (with_reducible assumption) | assumption)
   have q179 : x5_1 < (l0.length : Int) := oD (by first | (with_reducible assumption) | assumption)
   obtain ⟨ad179, e179, hx179_0, hx179_1, hx179_2⟩ := at_T154 HR0.out x5_1 p179 q179
   obtain rfl : ad176 = ad179 := (by injection e179)
   replace p179 := eq_true p179
   replace q179 := eq_true q179
   go_wp2
   repeat (go_quiet (fail); try go_wp2)
   go_roundg k1
   case measure => have := HK1.out; omega
   case rel => exact ⟨(x5_1), (wrap64 (x6_1 + 1)), (by first | rfl | (simp; done) | (simp [*]; done)), (by first | rfl | (simp; done) | (simp [*]; done)), H', ⟨by have := HK1.out; omega⟩, by repeat (first | exact Drawn0.refl _ | apply Drawn0.step)⟩
/-! ### spec_PutAway: function 158 -/
mutual
def spec_PutAway.j0 : Nat → List (S154) → Int → Bool → Int → Int → Int → Int → Int → Option ((List (S154)) × Bool)
 | 0, _, _, _, _, _, _, _, _ => none
 | k + 1, x6, x7, x34, x182000, x182001, x182002, x182003, x182004 => if x34 = true then (some (x6, false)) else (spec_PutAway.l0 k x6 x7 0 x182000 x182001 x182002 x182003 x182004)
def spec_PutAway.l0 : Nat → List (S154) → Int → Int → Int → Int → Int → Int → Int → Option ((List (S154)) × Bool)
 | 0, _, _, _, _, _, _, _, _ => none
 | k + 1, x6, x7, x8, x182000, x182001, x182002, x182003, x182004 => if x8 < (x6.length : Int) then (if 0 ≤ x8 then (if ((rd_T154 x6 x8).f0) = x7 then (spec_PutAway.l0 k (x6.set (x8 : Int).toNat (⟨(rd_T154 x6 x8).f0, (rd_T154 x6 x8).f1, x182000⟩ : S154)) x7 (wrap64 (x8 + 1)) x182000 x182001 x182002 x182003 x182004) else (spec_PutAway.l0 k x6 x7 (wrap64 (x8 + 1)) x182000 x182001 x182002 x182003 x182004)) else (none)) else (some (x6, true))
end
def spec_PutAway.f (k : Nat) (l0 : List (S154)) (a1_0 : Int) (a1_1 : Int) (a1_2 : Int) (a1_3 : Int) (a1_4 : Int) : Option ((List (S154)) × Bool) := (some (([] : List (S154)) : List (S154))).bind fun y182 => (if y182.length + l0.length < 5864062014805 then ((some (y182 ++ l0 : List (S154))).bind fun y185 => ((spec_SmallestFree.f k l0 a1_3).bind fun t188 => ((spec_AreSlots.f k l0).bind fun t189 => (if t189 = true then ((spec_IsThing.f a1_0 a1_1 a1_2 a1_3 a1_4).bind fun t190 => (if t190 = true then (if t188 = 0 then (spec_PutAway.j0 k y185 t188 true a1_0 a1_1 a1_2 a1_3 a1_4) else ((spec_SlotOf.f k l0 a1_0).bind fun t191 => (spec_PutAway.j0 k y185 t188 (t191 != 0) a1_0 a1_1 a1_2 a1_3 a1_4))) else (spec_PutAway.j0 k y185 t188 true a1_0 a1_1 a1_2 a1_3 a1_4))) else (spec_PutAway.j0 k y185 t188 true a1_0 a1_1 a1_2 a1_3 a1_4))))) else (none))
set_option maxHeartbeats 8000000 in
set_option maxRecDepth 100000 in
theorem spec_PutAway.calls (k : Nat) (A0 : Option Addr) (c0 : Nat) (l0 : List (S154)) (a1_0 : Int) (a1_1 : Int) (a1_2 : Int) (a1_3 : Int) (a1_4 : Int) (r1 : List (S154)) (r2 : Bool) (w : World) (hr0 : Kd.C k154 w A0 l0.length l0) (hc0 : l0.length ≤ c0) (h : spec_PutAway.f k l0 a1_0 a1_1 a1_2 a1_3 a1_4 = some (r1, r2)) :
  Calls Try.prog 158 #[.slice A0 l0.length c0, .agg #[.int .i64 a1_0, .int .i64 a1_1, .int .i64 a1_2, .int .i64 a1_3, .int .i64 a1_4]] w fun e w' => ∃ v0_ : Value, e = .returned (.tuple #[v0_, .bool r2]) ∧ Kd.R k154 154 w' w.heap.size (fun _ => True) v0_ r1 ∧ Below w.heap.size w w' := by
 have hu111 := Try.underlying111
 have HR0 := zK hr0
 have HC0 := zK hc0
 clear hr0 hc0
 have HB := zK (Below.refl w.heap.size w)
 have H : ((some (([] : List (S154)) : List (S154))).bind fun y182 => (if y182.length + l0.length < 5864062014805 then ((some (y182 ++ l0 : List (S154))).bind fun y185 => ((spec_SmallestFree.f k l0 a1_3).bind fun t188 => ((spec_AreSlots.f k l0).bind fun t189 => (if t189 = true then ((spec_IsThing.f a1_0 a1_1 a1_2 a1_3 a1_4).bind fun t190 => (if t190 = true then (if t188 = 0 then (spec_PutAway.j0 k y185 t188 true a1_0 a1_1 a1_2 a1_3 a1_4) else ((spec_SlotOf.f k l0 a1_0).bind fun t191 => (spec_PutAway.j0 k y185 t188 (t191 != 0) a1_0 a1_1 a1_2 a1_3 a1_4))) else (spec_PutAway.j0 k y185 t188 true a1_0 a1_1 a1_2 a1_3 a1_4))) else (spec_PutAway.j0 k y185 t188 true a1_0 a1_1 a1_2 a1_3 a1_4))))) else (none))) = some (r1, r2) := h
 clear h
 obtain ⟨y182, hy182⟩ : ∃ y_ : List (S154), y_ = (([] : List (S154))) := ⟨_, rfl⟩
 replace H : (if y182.length + l0.length < 5864062014805 then ((some (y182 ++ l0 : List (S154))).bind fun y185 => ((spec_SmallestFree.f k l0 a1_3).bind fun t188 => ((spec_AreSlots.f k l0).bind fun t189 => (if t189 = true then ((spec_IsThing.f a1_0 a1_1 a1_2 a1_3 a1_4).bind fun t190 => (if t190 = true then (if t188 = 0 then (spec_PutAway.j0 k y185 t188 true a1_0 a1_1 a1_2 a1_3 a1_4) else ((spec_SlotOf.f k l0 a1_0).bind fun t191 => (spec_PutAway.j0 k y185 t188 (t191 != 0) a1_0 a1_1 a1_2 a1_3 a1_4))) else (spec_PutAway.j0 k y185 t188 true a1_0 a1_1 a1_2 a1_3 a1_4))) else (spec_PutAway.j0 k y185 t188 true a1_0 a1_1 a1_2 a1_3 a1_4))))) else (none)) = some (r1, r2) := by first | (rw [hy182]; with_reducible exact H) | (have H2_ := (Option.bind_some _ _).symm.trans H; rw [hy182]; with_reducible exact H2_) | (have H2_ := (Option.bind_some _ _).symm.trans H; with_reducible exact H2_) | with_reducible exact H | (rw [hy182]; exact H) | exact H
 have Ny182 := zK hy182
 clear hy182
 by_cases c3 : y182.length + l0.length < 5864062014805
 rotate_left
 ·rw [if_neg c3] at H
  exact absurd H (by simp)

 rw [if_pos c3] at H
 have LMc3 := zK c3
 clear c3
 obtain ⟨y185, hy185⟩ : ∃ y_ : List (S154), y_ = (y182 ++ l0) := ⟨_, rfl⟩
 replace H : ((spec_SmallestFree.f k l0 a1_3).bind fun t188 => ((spec_AreSlots.f k l0).bind fun t189 => (if t189 = true then ((spec_IsThing.f a1_0 a1_1 a1_2 a1_3 a1_4).bind fun t190 => (if t190 = true then (if t188 = 0 then (spec_PutAway.j0 k y185 t188 true a1_0 a1_1 a1_2 a1_3 a1_4) else ((spec_SlotOf.f k l0 a1_0).bind fun t191 => (spec_PutAway.j0 k y185 t188 (t191 != 0) a1_0 a1_1 a1_2 a1_3 a1_4))) else (spec_PutAway.j0 k y185 t188 true a1_0 a1_1 a1_2 a1_3 a1_4))) else (spec_PutAway.j0 k y185 t188 true a1_0 a1_1 a1_2 a1_3 a1_4)))) = some (r1, r2) := by first | (rw [hy185]; with_reducible exact H) | (have H2_ := (Option.bind_some _ _).symm.trans H; rw [hy185]; with_reducible exact H2_) | (have H2_ := (Option.bind_some _ _).symm.trans H; with_reducible exact H2_) | with_reducible exact H | (rw [hy185]; exact H) | exact H
 have Ny185 := zK hy185
 clear hy185
 replace H := Option.bind_eq_some_iff.mp H
 obtain ⟨t188, A40, H⟩ := H
 replace H : ((spec_AreSlots.f k l0).bind fun t189 => (if t189 = true then ((spec_IsThing.f a1_0 a1_1 a1_2 a1_3 a1_4).bind fun t190 => (if t190 = true then (if t188 = 0 then (spec_PutAway.j0 k y185 t188 true a1_0 a1_1 a1_2 a1_3 a1_4) else ((spec_SlotOf.f k l0 a1_0).bind fun t191 => (spec_PutAway.j0 k y185 t188 (t191 != 0) a1_0 a1_1 a1_2 a1_3 a1_4))) else (spec_PutAway.j0 k y185 t188 true a1_0 a1_1 a1_2 a1_3 a1_4))) else (spec_PutAway.j0 k y185 t188 true a1_0 a1_1 a1_2 a1_3 a1_4))) = some (r1, r2) := H
 have A4 := zK A40
 clear A40
 have HC5 := zK H
 clear H
 go_enter Try.func158, Try.ntmps158
 go_upto_region 3 with (first | ((with_reducible refine gate_dst (N := 3) rfl ?_); refine box_event ?hg (N := 3) ?hd (cs := #[.int .i64 a1_0, .int .i64 a1_1, .int .i64 a1_2, .int .i64 a1_3, .int .i64 a1_4]) (t := 111) ?hr ?_; (case hd => rfl); (case hg => rfl); (case hr => first | (go_simp; done) | (go_simp; rfl)); intro gb181 hg w6 hbox hb; have n0_ := zK (bT (qB HB.out) hb); have n1_ := zK (hbox); have n2_ := zK ((by rw [hg]; exact (bZ (qB HB.out)) : w.heap.size ≤ gb181)); have n3_ := zK ((by rw [hg]; exact (bZ (qB HB.out)) : w.heap.size ≤ gb181)); clear HB; have HB := n0_; have BK181 := n1_; have GW181 := n2_; have GE181 := n3_; clear n0_ n1_ n2_ n3_; clear hb hbox hg) | ((with_reducible refine gate_dst (N := 9) rfl ?_); refine Kd.R_lit k154 _ 154 ?hg (N := 9) ?hd (xs := ([] : List (S154))) (inner := []) (ok := fun _ => True) (okp := fun _ => True) ?hr ?hp (fun _ hk => hk) trivial (Below.refl _ _) (Nat.le_refl _) (by simp) ?_; (case hd => rfl); (case hg => rfl); (case hr => first | (go_simp; done) | (go_simp; rfl)); (case hp => exact (Reps.none _ _)); intro v183 w7 ho8 hb hg_ hnew_; clear hg_ hnew_; (first | rw [← Ny182.out] at ho8 | (simp only [Int.reduceToNat] at ho8; rw [← Ny182.out] at ho8)); have n0_ := zK (Kd.R_lower ho8 (bZ (by repeat (first | (with_reducible first | exact HB.out | apply bA | apply bN | apply b1 | refine bS ?_ GE181.out) | exact HB.out)))); have n1_ := zK (bB (g := gb181) (o := .cells #[.int .i64 a1_0, .int .i64 a1_1, .int .i64 a1_2, .int .i64 a1_3, .int .i64 a1_4] 111 (0, 0)) (qK BK181.out) hb); have n2_ := zK (bT (by repeat (first | (with_reducible first | exact HB.out | apply bA | apply bN | apply b1 | refine bS ?_ GE181.out) | exact HB.out)) hb); clear BK181; clear HB; have HO184 := n0_; have BK181 := n1_; have HB := n2_; clear n0_ n1_ n2_; clear hb ho8) | ((with_reducible refine gate_builtin (b := .append) (xs := #[.tmp 9, .tmp 10]) rfl ?_); at_builtin; refine Kd.R_append_rows k154 (w0 := w) w.heap.size rfl (.tmp 9) (.tmp 10) 94 154 (.agg #[(.int .i64 0), (.int .i64 0), (.int .i64 0)]) 24 rfl Try.underlying94 info154 rfl (by decide) (by omega) v183 y182 l0 _ _ _ (fun _ => True) (fun _ => False) rfl rfl ?aO ?aR (fun _ _ h => h) (fun _ h => h.elim) ?aF ?aB ?aS ?aL ?_; (case aR => exact Kd.qC (Kd.C_below HR0.out HB.out)); (case aB => exact (by repeat (first | (with_reducible first | exact HB.out | apply bA | apply bN | apply b1 | refine bS ?_ GE181.out) | exact HB.out))); (case aF => exact (fun _ _ => trivial)); (case aO => exact (Kd.qR HO184.out)); (case aS => exact (bZ (by repeat (first | (with_reducible first | exact HB.out | apply bA | apply bN | apply b1 | refine bS ?_ GE181.out) | exact HB.out)))); (case aL => have := LMc3.out; omega); intro v186 w9 ho hb hg hat; rw [← Ny185.out] at ho; have n0_ := zK (blk_grown (g := gb181) (o := .cells #[.int .i64 a1_0, .int .i64 a1_1, .int .i64 a1_2, .int .i64 a1_3, .int .i64 a1_4] 111 (0, 0)) (qK BK181.out) hg (Kd.R_ne HO184.out BK181.out (by decide))); have n1_ := zK (hb); have n2_ := zK (ho); clear BK181; clear HB; clear HO184; have BK181 := n0_; have HB := n1_; have HO187 := n2_; clear n0_ n1_ n2_; clear ho hb hg hat; have hcz10_0 : w9.cell? ⟨gb181, 0, none⟩ = some (.int .i64 a1_0) := (bc BK181.out 0).trans rfl; have hcz10_1 : w9.cell? ⟨gb181, 1, none⟩ = some (.int .i64 a1_1) := (bc BK181.out 1).trans rfl; have hcz10_2 : w9.cell? ⟨gb181, 2, none⟩ = some (.int .i64 a1_2) := (bc BK181.out 2).trans rfl; have hcz10_3 : w9.cell? ⟨gb181, 3, none⟩ = some (.int .i64 a1_3) := (bc BK181.out 3).trans rfl; have hcz10_4 : w9.cell? ⟨gb181, 4, none⟩ = some (.int .i64 a1_4) := (bc BK181.out 4).trans rfl; have hfz10_0 := bf BK181.out 0; have hfz10_1 := bf BK181.out 1; have hfz10_2 := bf BK181.out 2; have hfz10_3 := bf BK181.out 3; have hfz10_4 := bf BK181.out 4) | ((with_reducible refine gate_callee (f := 189) rfl ?_); refine goesL_ (some 15) rfl rfl Try.func189 (by kernel_rfl) rfl #[.slice A0 l0.length c0, .int .i64 a1_3] rfl (by (try simp only [List.map_toArray, List.map_cons, List.map_nil]); first | done | rfl | (simp only [List.length_drop, List.length_take]; rfl)) ?_; (with_reducible refine (spec_SmallestFree.calls k _ _ l0 a1_3 t188 _ ?side1 ?side2 A4.out).mono ?_); (case side1 => exact Kd.qC (Kd.C_below HR0.out HB.out)); (case side2 => exact HC0.out); rintro e w' ⟨rfl, ⟨nd, rfl⟩⟩; refine ⟨_, rfl, ?_⟩))
 (try simp only [Act.put, sA, sZ, sS])
 go_cut [34] (fun v34 wc => ∃ (kq : Nat) (x34_4 : Bool), v34 = .bool x34_4 ∧ Aside0 (spec_PutAway.j0 kq y185 t188 x34_4 a1_0 a1_1 a1_2 a1_3 a1_4 = some (r1, r2)) ∧ Aside0 (kq ≤ k) ∧ Aside0 (Kd.R k154 154 wc w.heap.size (fun _ => True) v186 y185) ∧ Aside0 (wc.heap[gb181]? = some (.cells #[.int .i64 a1_0, .int .i64 a1_1, .int .i64 a1_2, .int .i64 a1_3, .int .i64 a1_4] 111 (0, 0))) ∧ Aside0 (Below w.heap.size w wc))
 case first =>
  have H := HC5.out
  clear HC5
  replace H := Option.bind_eq_some_iff.mp H
  obtain ⟨t189, A110, H⟩ := H
  replace H : (if t189 = true then ((spec_IsThing.f a1_0 a1_1 a1_2 a1_3 a1_4).bind fun t190 => (if t190 = true then (if t188 = 0 then (spec_PutAway.j0 k y185 t188 true a1_0 a1_1 a1_2 a1_3 a1_4) else ((spec_SlotOf.f k l0 a1_0).bind fun t191 => (spec_PutAway.j0 k y185 t188 (t191 != 0) a1_0 a1_1 a1_2 a1_3 a1_4))) else (spec_PutAway.j0 k y185 t188 true a1_0 a1_1 a1_2 a1_3 a1_4))) else (spec_PutAway.j0 k y185 t188 true a1_0 a1_1 a1_2 a1_3 a1_4)) = some (r1, r2) := H
  have A11 := zK A110
  clear A110
  by_cases c12 : t189 = true
  rotate_left
  ·replace c12 := Bool.eq_false_iff.mpr c12
   subst c12
   have H1 : (spec_PutAway.j0 k y185 t188 true a1_0 a1_1 a1_2 a1_3 a1_4) = some (r1, r2) := by rw [if_neg (show ¬ (false = true) by decide)] at H; exact H
   clear H
   have H := H1
   clear H1
   have H' := zK H
   clear H
   go_wp2_with (first | ((with_reducible refine gate_callee (f := 114) rfl ?_); refine goesL_ (some 17) rfl rfl Try.func114 (by kernel_rfl) rfl #[.slice A0 l0.length c0] rfl (by (try simp only [List.map_toArray, List.map_cons, List.map_nil]); first | done | rfl | (simp only [List.length_drop, List.length_take]; rfl)) ?_; (with_reducible refine (spec_AreSlots.calls k _ _ l0 false _ ?side1 ?side2 A11.out).mono ?_); (case side1 => exact Kd.qC (Kd.C_below HR0.out HB.out)); (case side2 => exact HC0.out); rintro e w27 ⟨rfl, hb⟩; refine ⟨_, rfl, ?_⟩; have n0_ := zK (Kd.R_below (Kd.qR HO187.out) hb); have n1_ := zK (bB (g := gb181) (o := .cells #[.int .i64 a1_0, .int .i64 a1_1, .int .i64 a1_2, .int .i64 a1_3, .int .i64 a1_4] 111 (0, 0)) (qK BK181.out) hb); have n2_ := zK (bT (by repeat (first | (with_reducible first | exact HB.out | apply bA | apply bN | apply b1 | refine bS ?_ GE181.out) | exact HB.out)) hb); clear HO187; clear BK181; clear HB; have HO187 := n0_; have BK181 := n1_; have HB := n2_; clear n0_ n1_ n2_; (try clear hb); (try clear hb2); (try clear hk); (try clear hi)))
   go_meet
   case rel => exact ⟨_, (true), (by first | rfl | (simp; done) | (simp [*]; done)), H', ⟨by first | omega | exact Nat.le_refl _⟩, ⟨by exact Kd.qR HO187.out⟩, ⟨by exact qK BK181.out⟩, ⟨by repeat (first | (with_reducible first | exact HB.out | apply bA | apply bN | apply b1 | refine bS ?_ GE181.out) | exact HB.out)⟩⟩
  subst c12
  have H1 : ((spec_IsThing.f a1_0 a1_1 a1_2 a1_3 a1_4).bind fun t190 => (if t190 = true then (if t188 = 0 then (spec_PutAway.j0 k y185 t188 true a1_0 a1_1 a1_2 a1_3 a1_4) else ((spec_SlotOf.f k l0 a1_0).bind fun t191 => (spec_PutAway.j0 k y185 t188 (t191 != 0) a1_0 a1_1 a1_2 a1_3 a1_4))) else (spec_PutAway.j0 k y185 t188 true a1_0 a1_1 a1_2 a1_3 a1_4))) = some (r1, r2) := by rw [if_pos rfl] at H; exact H
  clear H
  have H := H1
  clear H1
  replace H := Option.bind_eq_some_iff.mp H
  obtain ⟨t190, A130, H⟩ := H
  replace H : (if t190 = true then (if t188 = 0 then (spec_PutAway.j0 k y185 t188 true a1_0 a1_1 a1_2 a1_3 a1_4) else ((spec_SlotOf.f k l0 a1_0).bind fun t191 => (spec_PutAway.j0 k y185 t188 (t191 != 0) a1_0 a1_1 a1_2 a1_3 a1_4))) else (spec_PutAway.j0 k y185 t188 true a1_0 a1_1 a1_2 a1_3 a1_4)) = some (r1, r2) := H
  have A13 := zK A130
  clear A130
  by_cases c14 : t190 = true
  rotate_left
  ·replace c14 := Bool.eq_false_iff.mpr c14
   subst c14
   have H1 : (spec_PutAway.j0 k y185 t188 true a1_0 a1_1 a1_2 a1_3 a1_4) = some (r1, r2) := by rw [if_neg (show ¬ (false = true) by decide)] at H; exact H
   clear H
   have H := H1
   clear H1
   have H' := zK H
   clear H
   go_wp2_with (first | ((with_reducible refine gate_callee (f := 114) rfl ?_); refine goesL_ (some 17) rfl rfl Try.func114 (by kernel_rfl) rfl #[.slice A0 l0.length c0] rfl (by (try simp only [List.map_toArray, List.map_cons, List.map_nil]); first | done | rfl | (simp only [List.length_drop, List.length_take]; rfl)) ?_; (with_reducible refine (spec_AreSlots.calls k _ _ l0 true _ ?side1 ?side2 A11.out).mono ?_); (case side1 => exact Kd.qC (Kd.C_below HR0.out HB.out)); (case side2 => exact HC0.out); rintro e w24 ⟨rfl, hb⟩; refine ⟨_, rfl, ?_⟩; have n0_ := zK (Kd.R_below (Kd.qR HO187.out) hb); have n1_ := zK (bB (g := gb181) (o := .cells #[.int .i64 a1_0, .int .i64 a1_1, .int .i64 a1_2, .int .i64 a1_3, .int .i64 a1_4] 111 (0, 0)) (qK BK181.out) hb); have n2_ := zK (bT (by repeat (first | (with_reducible first | exact HB.out | apply bA | apply bN | apply b1 | refine bS ?_ GE181.out) | exact HB.out)) hb); clear HO187; clear BK181; clear HB; have HO187 := n0_; have BK181 := n1_; have HB := n2_; clear n0_ n1_ n2_; (try clear hb); (try clear hb2); (try clear hk); (try clear hi); have hcz25_0 : w24.cell? ⟨gb181, 0, none⟩ = some (.int .i64 a1_0) := (bc BK181.out 0).trans rfl; have hcz25_1 : w24.cell? ⟨gb181, 1, none⟩ = some (.int .i64 a1_1) := (bc BK181.out 1).trans rfl; have hcz25_2 : w24.cell? ⟨gb181, 2, none⟩ = some (.int .i64 a1_2) := (bc BK181.out 2).trans rfl; have hcz25_3 : w24.cell? ⟨gb181, 3, none⟩ = some (.int .i64 a1_3) := (bc BK181.out 3).trans rfl; have hcz25_4 : w24.cell? ⟨gb181, 4, none⟩ = some (.int .i64 a1_4) := (bc BK181.out 4).trans rfl; have hfz25_0 := bf BK181.out 0; have hfz25_1 := bf BK181.out 1; have hfz25_2 := bf BK181.out 2; have hfz25_3 := bf BK181.out 3; have hfz25_4 := bf BK181.out 4) | (go_at_call 155; (with_reducible refine (spec_IsThing.calls a1_0 a1_1 a1_2 a1_3 a1_4 false _ A13.out).mono ?_); rintro e w26 ⟨rfl, hb⟩; have n0_ := zK (Kd.R_below (Kd.qR HO187.out) hb); have n1_ := zK (bB (g := gb181) (o := .cells #[.int .i64 a1_0, .int .i64 a1_1, .int .i64 a1_2, .int .i64 a1_3, .int .i64 a1_4] 111 (0, 0)) (qK BK181.out) hb); have n2_ := zK (bT (by repeat (first | (with_reducible first | exact HB.out | apply bA | apply bN | apply b1 | refine bS ?_ GE181.out) | exact HB.out)) hb); clear HO187; clear BK181; clear HB; have HO187 := n0_; have BK181 := n1_; have HB := n2_; clear n0_ n1_ n2_; (try clear hb); (try clear hb2); (try clear hk); (try clear hi)))
   go_meet
   case rel => exact ⟨_, (true), (by first | rfl | (simp; done) | (simp [*]; done)), H', ⟨by first | omega | exact Nat.le_refl _⟩, ⟨by exact Kd.qR HO187.out⟩, ⟨by exact qK BK181.out⟩, ⟨by repeat (first | (with_reducible first | exact HB.out | apply bA | apply bN | apply b1 | refine bS ?_ GE181.out) | exact HB.out)⟩⟩
  subst c14
  have H1 : (if t188 = 0 then (spec_PutAway.j0 k y185 t188 true a1_0 a1_1 a1_2 a1_3 a1_4) else ((spec_SlotOf.f k l0 a1_0).bind fun t191 => (spec_PutAway.j0 k y185 t188 (t191 != 0) a1_0 a1_1 a1_2 a1_3 a1_4))) = some (r1, r2) := by rw [if_pos rfl] at H; exact H
  clear H
  have H := H1
  clear H1
  by_cases c15 : t188 = 0
  ·rw [if_pos c15] at H
   have c15b0 : (t188 == 0) = true := beq_iff_eq.mpr c15
   have c15b1 : (t188 != 0) = false := bne_eq_false_iff_eq.mpr c15
   clear c15
   (first | rw [c15b0] | rw [c15b1] | (simp only [i64_w, i32_w]; rw [c15b0]) | skip)
   have H' := zK H
   clear H
   go_wp2_with (first | ((with_reducible refine gate_callee (f := 114) rfl ?_); refine goesL_ (some 17) rfl rfl Try.func114 (by kernel_rfl) rfl #[.slice A0 l0.length c0] rfl (by (try simp only [List.map_toArray, List.map_cons, List.map_nil]); first | done | rfl | (simp only [List.length_drop, List.length_take]; rfl)) ?_; (with_reducible refine (spec_AreSlots.calls k _ _ l0 true _ ?side1 ?side2 A11.out).mono ?_); (case side1 => exact Kd.qC (Kd.C_below HR0.out HB.out)); (case side2 => exact HC0.out); rintro e w16 ⟨rfl, hb⟩; refine ⟨_, rfl, ?_⟩; have n0_ := zK (Kd.R_below (Kd.qR HO187.out) hb); have n1_ := zK (bB (g := gb181) (o := .cells #[.int .i64 a1_0, .int .i64 a1_1, .int .i64 a1_2, .int .i64 a1_3, .int .i64 a1_4] 111 (0, 0)) (qK BK181.out) hb); have n2_ := zK (bT (by repeat (first | (with_reducible first | exact HB.out | apply bA | apply bN | apply b1 | refine bS ?_ GE181.out) | exact HB.out)) hb); clear HO187; clear BK181; clear HB; have HO187 := n0_; have BK181 := n1_; have HB := n2_; clear n0_ n1_ n2_; (try clear hb); (try clear hb2); (try clear hk); (try clear hi); have hcz17_0 : w16.cell? ⟨gb181, 0, none⟩ = some (.int .i64 a1_0) := (bc BK181.out 0).trans rfl; have hcz17_1 : w16.cell? ⟨gb181, 1, none⟩ = some (.int .i64 a1_1) := (bc BK181.out 1).trans rfl; have hcz17_2 : w16.cell? ⟨gb181, 2, none⟩ = some (.int .i64 a1_2) := (bc BK181.out 2).trans rfl; have hcz17_3 : w16.cell? ⟨gb181, 3, none⟩ = some (.int .i64 a1_3) := (bc BK181.out 3).trans rfl; have hcz17_4 : w16.cell? ⟨gb181, 4, none⟩ = some (.int .i64 a1_4) := (bc BK181.out 4).trans rfl; have hfz17_0 := bf BK181.out 0; have hfz17_1 := bf BK181.out 1; have hfz17_2 := bf BK181.out 2; have hfz17_3 := bf BK181.out 3; have hfz17_4 := bf BK181.out 4) | (go_at_call 155; (with_reducible refine (spec_IsThing.calls a1_0 a1_1 a1_2 a1_3 a1_4 true _ A13.out).mono ?_); rintro e w18 ⟨rfl, hb⟩; have n0_ := zK (Kd.R_below (Kd.qR HO187.out) hb); have n1_ := zK (bB (g := gb181) (o := .cells #[.int .i64 a1_0, .int .i64 a1_1, .int .i64 a1_2, .int .i64 a1_3, .int .i64 a1_4] 111 (0, 0)) (qK BK181.out) hb); have n2_ := zK (bT (by repeat (first | (with_reducible first | exact HB.out | apply bA | apply bN | apply b1 | refine bS ?_ GE181.out) | exact HB.out)) hb); clear HO187; clear BK181; clear HB; have HO187 := n0_; have BK181 := n1_; have HB := n2_; clear n0_ n1_ n2_; (try clear hb); (try clear hb2); (try clear hk); (try clear hi)))
   go_meet
   case rel => exact ⟨_, (true), (by first | rfl | (simp; done) | (simp [*]; done)), H', ⟨by first | omega | exact Nat.le_refl _⟩, ⟨by exact Kd.qR HO187.out⟩, ⟨by exact qK BK181.out⟩, ⟨by repeat (first | (with_reducible first | exact HB.out | apply bA | apply bN | apply b1 | refine bS ?_ GE181.out) | exact HB.out)⟩⟩
  rw [if_neg c15] at H
  have c15b0 : (t188 == 0) = false := beq_eq_false_iff_ne.mpr c15
  have c15b1 : (t188 != 0) = true := bne_iff_ne.mpr c15
  (first | rw [c15b0] | rw [c15b1] | (simp only [i64_w, i32_w]; rw [c15b0]) | skip)
  replace H := Option.bind_eq_some_iff.mp H
  obtain ⟨t191, A190, H⟩ := H
  replace H : (spec_PutAway.j0 k y185 t188 (t191 != 0) a1_0 a1_1 a1_2 a1_3 a1_4) = some (r1, r2) := H
  have A19 := zK A190
  clear A190
  have H' := zK H
  clear H
  go_wp2_with (first | ((with_reducible refine gate_callee (f := 114) rfl ?_); refine goesL_ (some 17) rfl rfl Try.func114 (by kernel_rfl) rfl #[.slice A0 l0.length c0] rfl (by (try simp only [List.map_toArray, List.map_cons, List.map_nil]); first | done | rfl | (simp only [List.length_drop, List.length_take]; rfl)) ?_; (with_reducible refine (spec_AreSlots.calls k _ _ l0 true _ ?side1 ?side2 A11.out).mono ?_); (case side1 => exact Kd.qC (Kd.C_below HR0.out HB.out)); (case side2 => exact HC0.out); rintro e w20 ⟨rfl, hb⟩; refine ⟨_, rfl, ?_⟩; have n0_ := zK (Kd.R_below (Kd.qR HO187.out) hb); have n1_ := zK (bB (g := gb181) (o := .cells #[.int .i64 a1_0, .int .i64 a1_1, .int .i64 a1_2, .int .i64 a1_3, .int .i64 a1_4] 111 (0, 0)) (qK BK181.out) hb); have n2_ := zK (bT (by repeat (first | (with_reducible first | exact HB.out | apply bA | apply bN | apply b1 | refine bS ?_ GE181.out) | exact HB.out)) hb); clear HO187; clear BK181; clear HB; have HO187 := n0_; have BK181 := n1_; have HB := n2_; clear n0_ n1_ n2_; (try clear hb); (try clear hb2); (try clear hk); (try clear hi); have hcz21_0 : w20.cell? ⟨gb181, 0, none⟩ = some (.int .i64 a1_0) := (bc BK181.out 0).trans rfl; have hcz21_1 : w20.cell? ⟨gb181, 1, none⟩ = some (.int .i64 a1_1) := (bc BK181.out 1).trans rfl; have hcz21_2 : w20.cell? ⟨gb181, 2, none⟩ = some (.int .i64 a1_2) := (bc BK181.out 2).trans rfl; have hcz21_3 : w20.cell? ⟨gb181, 3, none⟩ = some (.int .i64 a1_3) := (bc BK181.out 3).trans rfl; have hcz21_4 : w20.cell? ⟨gb181, 4, none⟩ = some (.int .i64 a1_4) := (bc BK181.out 4).trans rfl; have hfz21_0 := bf BK181.out 0; have hfz21_1 := bf BK181.out 1; have hfz21_2 := bf BK181.out 2; have hfz21_3 := bf BK181.out 3; have hfz21_4 := bf BK181.out 4) | (go_at_call 155; (with_reducible refine (spec_IsThing.calls a1_0 a1_1 a1_2 a1_3 a1_4 true _ A13.out).mono ?_); rintro e w22 ⟨rfl, hb⟩; have n0_ := zK (Kd.R_below (Kd.qR HO187.out) hb); have n1_ := zK (bB (g := gb181) (o := .cells #[.int .i64 a1_0, .int .i64 a1_1, .int .i64 a1_2, .int .i64 a1_3, .int .i64 a1_4] 111 (0, 0)) (qK BK181.out) hb); have n2_ := zK (bT (by repeat (first | (with_reducible first | exact HB.out | apply bA | apply bN | apply b1 | refine bS ?_ GE181.out) | exact HB.out)) hb); clear HO187; clear BK181; clear HB; have HO187 := n0_; have BK181 := n1_; have HB := n2_; clear n0_ n1_ n2_; (try clear hb); (try clear hb2); (try clear hk); (try clear hi); have hcz23_0 : w22.cell? ⟨gb181, 0, none⟩ = some (.int .i64 a1_0) := (bc BK181.out 0).trans rfl; have hcz23_1 : w22.cell? ⟨gb181, 1, none⟩ = some (.int .i64 a1_1) := (bc BK181.out 1).trans rfl; have hcz23_2 : w22.cell? ⟨gb181, 2, none⟩ = some (.int .i64 a1_2) := (bc BK181.out 2).trans rfl; have hcz23_3 : w22.cell? ⟨gb181, 3, none⟩ = some (.int .i64 a1_3) := (bc BK181.out 3).trans rfl; have hcz23_4 : w22.cell? ⟨gb181, 4, none⟩ = some (.int .i64 a1_4) := (bc BK181.out 4).trans rfl; have hfz23_0 := bf BK181.out 0; have hfz23_1 := bf BK181.out 1; have hfz23_2 := bf BK181.out 2; have hfz23_3 := bf BK181.out 3; have hfz23_4 := bf BK181.out 4) | (go_at_call 156; (with_reducible refine (spec_SlotOf.calls k _ _ l0 a1_0 t191 _ ?side1 ?side2 A19.out).mono ?_); (case side1 => exact Kd.qC (Kd.C_below HR0.out HB.out)); (case side2 => exact HC0.out); rintro e w' ⟨rfl, ⟨nd, rfl⟩⟩))
  go_meet
  case rel => exact ⟨_, ((t191 != 0)), (by first | rfl | (simp; done) | (simp [*]; done)), H', ⟨by first | omega | exact Nat.le_refl _⟩, ⟨by exact Kd.qR HO187.out⟩, ⟨by exact qK BK181.out⟩, ⟨by repeat (first | (with_reducible first | exact HB.out | apply bA | apply bN | apply b1 | refine bS ?_ GE181.out) | exact HB.out)⟩⟩
 case rest =>
  clear HC5
  try clear c1
  try clear p2
  try clear c3
  try clear c11
  try clear c12
  try clear c14
  try clear c15
  try clear c15b0
  try clear c15b1
  try clear c18
  try clear hcz10_0
  try clear hcz10_1
  try clear hcz10_2
  try clear hcz10_3
  try clear hcz10_4
  try clear hcz17_0
  try clear hcz17_1
  try clear hcz17_2
  try clear hcz17_3
  try clear hcz17_4
  try clear hcz21_0
  try clear hcz21_1
  try clear hcz21_2
  try clear hcz21_3
  try clear hcz21_4
  try clear hcz23_0
  try clear hcz23_1
  try clear hcz23_2
  try clear hcz23_3
  try clear hcz23_4
  try clear hcz25_0
  try clear hcz25_1
  try clear hcz25_2
  try clear hcz25_3
  try clear hcz25_4
  try clear hfz10_0
  try clear hfz10_1
  try clear hfz10_2
  try clear hfz10_3
  try clear hfz10_4
  try clear hfz17_0
  try clear hfz17_1
  try clear hfz17_2
  try clear hfz17_3
  try clear hfz17_4
  try clear hfz21_0
  try clear hfz21_1
  try clear hfz21_2
  try clear hfz21_3
  try clear hfz21_4
  try clear hfz23_0
  try clear hfz23_1
  try clear hfz23_2
  try clear hfz23_3
  try clear hfz23_4
  try clear hfz25_0
  try clear hfz25_1
  try clear hfz25_2
  try clear hfz25_3
  try clear hfz25_4
  obtain ⟨kq, x34_4, rfl, HA, HJ4, HO_6, BK181, HB⟩ := hcut
  cases kq with
  | zero => exact absurd HA.out (by simp [spec_PutAway.j0])
  | succ kj4 =>
   have H := HA.out
   clear HA
   simp only [spec_PutAway.j0] at H
   by_cases c28 : x34_4 = true
   ·subst c28
    have H1 : (some (y185, false)) = some (r1, r2) := by rw [if_pos rfl] at H; exact H
    clear H
    have H := H1
    clear H1
    simp only [Option.some.injEq, Prod.mk.injEq] at H
    obtain ⟨rfl, rfl⟩ := H
    go_wp2
    go_ret2
    exact ⟨_, by first | rfl | (simp [errW_none, errW_some] <;> rfl) | (simp [*, errW_none, errW_some] <;> rfl), by exact Kd.qR HO_6.out, by repeat (first | (with_reducible first | exact HB.out | apply bA | apply bN | apply b1 | refine bS ?_ GE181.out) | exact HB.out)⟩
   replace c28 := Bool.eq_false_iff.mpr c28
   subst c28
   have H1 : (spec_PutAway.l0 kj4 y185 t188 0 a1_0 a1_1 a1_2 a1_3 a1_4) = some (r1, r2) := by rw [if_neg (show ¬ (false = true) by decide)] at H; exact H
   clear H
   have H := H1
   clear H1
   have H' := zK H
   clear H
   go_wp2
   go_loopg [8] kj4 (fun kq v8 w' => ∃ (x6_2 : List (S154)) (x8_2 : Int), v8 = .int .i64 x8_2 ∧ Aside0 (spec_PutAway.l0 kq x6_2 t188 x8_2 a1_0 a1_1 a1_2 a1_3 a1_4 = some (r1, r2)) ∧ Aside0 (kq ≤ kj4) ∧ Aside0 (Kd.R k154 154 w' w.heap.size (fun _ => True) v186 x6_2) ∧ Aside0 (w'.heap[gb181]? = some (.cells #[.int .i64 a1_0, .int .i64 a1_1, .int .i64 a1_2, .int .i64 a1_3, .int .i64 a1_4] 111 (0, 0))) ∧ Aside0 (Below w.heap.size w w'))
   case atStart => exact ⟨(y185), (0), (by first | rfl | (simp; done) | (simp [*]; done)), H', ⟨Nat.le_refl _⟩, ⟨by exact Kd.qR HO_6.out⟩, ⟨by exact qK BK181.out⟩, ⟨by repeat (first | (with_reducible first | exact HB.out | apply bA | apply bN | apply b1 | refine bS ?_ GE181.out) | exact HB.out)⟩⟩
   case round =>
    clear H'
    try clear c1
    try clear c2
    try clear p2
    try clear c3
    try clear c11
    try clear c12
    try clear c14
    try clear c15
    try clear c15b0
    try clear c15b1
    try clear c18
    try clear c28
    try clear hcz10_0
    try clear hcz10_1
    try clear hcz10_2
    try clear hcz10_3
    try clear hcz10_4
    try clear hcz17_0
    try clear hcz17_1
    try clear hcz17_2
    try clear hcz17_3
    try clear hcz17_4
    try clear hcz21_0
    try clear hcz21_1
    try clear hcz21_2
    try clear hcz21_3
    try clear hcz21_4
    try clear hcz23_0
    try clear hcz23_1
    try clear hcz23_2
    try clear hcz23_3
    try clear hcz23_4
    try clear hcz25_0
    try clear hcz25_1
    try clear hcz25_2
    try clear hcz25_3
    try clear hcz25_4
    try clear hfz10_0
    try clear hfz10_1
    try clear hfz10_2
    try clear hfz10_3
    try clear hfz10_4
    try clear hfz17_0
    try clear hfz17_1
    try clear hfz17_2
    try clear hfz17_3
    try clear hfz17_4
    try clear hfz21_0
    try clear hfz21_1
    try clear hfz21_2
    try clear hfz21_3
    try clear hfz21_4
    try clear hfz23_0
    try clear hfz23_1
    try clear hfz23_2
    try clear hfz23_3
    try clear hfz23_4
    try clear hfz25_0
    try clear hfz25_1
    try clear hfz25_2
    try clear hfz25_3
    try clear hfz25_4
    try clear p2
    obtain ⟨x6_2, x8_2, rfl, HA, HK2, HO_6, BK181, HB⟩ := hrel
    cases gk with
    | zero => exact absurd HA.out (by simp [spec_PutAway.l0])
    | succ k2 =>
     have H := HA.out
     clear HA
     simp only [spec_PutAway.l0] at H
     by_cases c29 : x8_2 < (x6_2.length : Int)
     rotate_left
     ·rw [if_neg c29] at H
      have c29b0 : decide (x8_2 < (x6_2.length : Int)) = false := decide_eq_false c29
      clear c29
      simp only [Option.some.injEq, Prod.mk.injEq] at H
      obtain ⟨rfl, rfl⟩ := H
      obtain ⟨Ao38, co38, eo38⟩ := Kd.R_slice HO_6.out
      subst eo38
      go_wp2
      go_ret2
      exact ⟨_, by first | rfl | (simp [errW_none, errW_some] <;> rfl) | (simp [*, errW_none, errW_some] <;> rfl), by exact Kd.qR HO_6.out, by repeat (first | (with_reducible first | exact HB.out | apply bA | apply bN | apply b1 | refine bS ?_ GE181.out) | exact HB.out)⟩
     rw [if_pos c29] at H
     have c29b0 : decide (x8_2 < (x6_2.length : Int)) = true := decide_eq_true c29
     clear c29
     by_cases c30 : 0 ≤ x8_2
     rotate_left
     ·rw [if_neg c30] at H
      exact absurd H (by simp)
     rw [if_pos c30] at H
     have c30b0 : decide (0 ≤ x8_2) = true := decide_eq_true c30
     clear c30
     by_cases c31 : ((rd_T154 x6_2 x8_2).f0) = t188
     rotate_left
     ·rw [if_neg c31] at H
      have c31b0 : (((rd_T154 x6_2 x8_2).f0) == t188) = false := beq_eq_false_iff_ne.mpr c31
      have c31b1 : (((rd_T154 x6_2 x8_2).f0) != t188) = true := bne_iff_ne.mpr c31
      have H' := zK H
      clear H
      obtain ⟨Ao37, co37, eo37⟩ := Kd.R_slice HO_6.out
      subst eo37
      have p192 : 0 ≤ (x8_2 : Int) := oD (by first | (with_reducible assumption) | assumption)
      have q192 : x8_2 < (x6_2.length : Int) := oD (by first | (with_reducible assumption) | assumption)
      obtain ⟨ad192, e192, hx192_0, hx192_1, hx192_2⟩ := at_T154 (Kd.R_reads' HO_6.out).2.2 x8_2 p192 q192
      cases e192
      replace p192 := eq_true p192
      replace q192 := eq_true q192
      go_wp2
      go_roundg k2
      case measure => have := HJ4.out; have := HK2.out; omega
      case rel => exact ⟨(x6_2), (wrap64 (x8_2 + 1)), (by first | rfl | (simp; done) | (simp [*]; done)), H', ⟨by have := HJ4.out; have := HK2.out; omega⟩, ⟨by exact Kd.qR HO_6.out⟩, ⟨by exact qK BK181.out⟩, ⟨by repeat (first | (with_reducible first | exact HB.out | apply bA | apply bN | apply b1 | refine bS ?_ GE181.out) | exact HB.out)⟩⟩
     rw [if_pos c31] at H
     have c31b0 : (((rd_T154 x6_2 x8_2).f0) == t188) = true := beq_iff_eq.mpr c31
     have c31b1 : (((rd_T154 x6_2 x8_2).f0) != t188) = false := bne_eq_false_iff_eq.mpr c31
     clear c31
     obtain ⟨y193, hy193⟩ : ∃ y_ : List (S154), y_ = (x6_2.set (x8_2 : Int).toNat (⟨(rd_T154 x6_2 x8_2).f0, (rd_T154 x6_2 x8_2).f1, a1_0⟩ : S154)) := ⟨_, rfl⟩
     replace H : (spec_PutAway.l0 k2 y193 t188 (wrap64 (x8_2 + 1)) a1_0 a1_1 a1_2 a1_3 a1_4) = some (r1, r2) := by first | (rw [hy193]; with_reducible exact H) | (have H2_ := (Option.bind_some _ _).symm.trans H; rw [hy193]; with_reducible exact H2_) | (have H2_ := (Option.bind_some _ _).symm.trans H; with_reducible exact H2_) | with_reducible exact H | (rw [hy193]; exact H) | exact H
     have Ny193 := zK hy193
     clear hy193
     have H' := zK H
     clear H
     obtain ⟨Ao33, co33, eo33⟩ := Kd.R_slice HO_6.out
     subst eo33
     have p192 : 0 ≤ (x8_2 : Int) := oD (by first | (with_reducible assumption) | assumption)
     have q192 : x8_2 < (x6_2.length : Int) := oD (by first | (with_reducible assumption) | assumption)
     obtain ⟨ad192, e192, hx192_0, hx192_1, hx192_2⟩ := at_T154 (Kd.R_reads' HO_6.out).2.2 x8_2 p192 q192
     cases e192
     replace p192 := eq_true p192
     replace q192 := eq_true q192
     have hcz34_0 : wr.cell? ⟨gb181, 0, none⟩ = some (.int .i64 a1_0) := (bc BK181.out 0).trans rfl
     have hcz34_1 : wr.cell? ⟨gb181, 1, none⟩ = some (.int .i64 a1_1) := (bc BK181.out 1).trans rfl
     have hcz34_2 : wr.cell? ⟨gb181, 2, none⟩ = some (.int .i64 a1_2) := (bc BK181.out 2).trans rfl
     have hcz34_3 : wr.cell? ⟨gb181, 3, none⟩ = some (.int .i64 a1_3) := (bc BK181.out 3).trans rfl
     have hcz34_4 : wr.cell? ⟨gb181, 4, none⟩ = some (.int .i64 a1_4) := (bc BK181.out 4).trans rfl
     have hfz34_0 := bf BK181.out 0
     have hfz34_1 := bf BK181.out 1
     have hfz34_2 := bf BK181.out 2
     have hfz34_3 := bf BK181.out 3
     have hfz34_4 := bf BK181.out 4
     have p32 : 0 ≤ (x8_2 : Int) := oD (by first | (with_reducible assumption) | assumption)
     have q32 : (x8_2 : Int) < ((x6_2.length : Int) : Int) := oD (by first | (with_reducible assumption) | assumption)
     obtain ⟨go32, co32, eo32, gb32, gl32, cl32, HG32⟩ := Kd.R_form HO_6.out (by omega)
     (first | cases eo32 | (injection eo32 with ea_ en_ ec_; (first | subst ea_ | (injection ea_ with ea_; subst ea_)); subst ec_; clear en_))
     have GB32 := zK gb32
     have GG32 := zK HG32
     clear gb32 gl32 HG32
     (first | simp only [add_plain] at hx192_0 | skip)
     (first | simp only [add_plain] at hx192_1 | skip)
     (first | simp only [add_plain] at hx192_2 | skip)
     obtain ⟨ce32, hcl32, hM32, hcc32, hfr32⟩ := Kd.R_elem HO_6.out z154 (x8_2 : Int) p32 q32
     obtain rfl := k154_openM hM32
     have hx32_0 : wr.cell? ⟨go32, (x8_2 : Int).toNat * 3, none⟩ = some (.int .i64 ((rd_T154 x6_2 x8_2).f0)) := hcc32 0 _ rfl
     have hx32_1 : wr.cell? ⟨go32, (x8_2 : Int).toNat * 3 + 1, none⟩ = some (.int .i64 ((rd_T154 x6_2 x8_2).f1)) := hcc32 1 _ rfl
     have hx32_2 : wr.cell? ⟨go32, (x8_2 : Int).toNat * 3 + 2, none⟩ = some (.int .i64 ((rd_T154 x6_2 x8_2).f2)) := hcc32 2 _ rfl
     have hf32_0 : wr.frozen? ⟨go32, (x8_2 : Int).toNat * 3, none⟩ = false := hfr32 0
     have hf32_1 : wr.frozen? ⟨go32, (x8_2 : Int).toNat * 3 + 1, none⟩ = false := hfr32 1
     have hf32_2 : wr.frozen? ⟨go32, (x8_2 : Int).toNat * 3 + 2, none⟩ = false := hfr32 2
     clear hcl32 hcc32 hfr32 hM32
     replace p32 := eq_true p32
     replace q32 := eq_true q32
     have HX35 := zK (show Kd.R k154 154 wr w.heap.size (fun _ => True) (.slice (some ⟨go32, 0, none⟩) x6_2.length co33) x6_2 from (Kd.qR HO_6.out))
     obtain ⟨ce35, hcl35, hM35, hcc35, hfr35⟩ := Kd.R_elem HX35.out z154 (x8_2 : Int) (oD (by first | (with_reducible assumption) | assumption)) (by have h_ : (x8_2 : Int) < ((x6_2.length : Int) : Int) := oD (by first | (with_reducible assumption) | assumption); first | exact h_ | (have e_ := (Kd.R_reads' HO_6.out).1; omega) | simpa using h_)
     obtain rfl := k154_openM hM35
     have HP35 := Kd.R_seg HX35.out (x8_2 : Int) (oD (by first | (with_reducible assumption) | assumption)) (by have h_ : (x8_2 : Int) < ((x6_2.length : Int) : Int) := oD (by first | (with_reducible assumption) | assumption); first | exact h_ | (have e_ := (Kd.R_reads' HO_6.out).1; omega) | simpa using h_) (seg := [.int .i64 a1_0]) (j := 2) hcl35 hcc35 (show 3 ≤ 3 from by decide) (x' := (⟨(rd_T154 x6_2 x8_2).f0, (rd_T154 x6_2 x8_2).f1, a1_0⟩ : S154)) (k154_mkM _ _ _ (⟨(rd_T154 x6_2 x8_2).f0, (rd_T154 x6_2 x8_2).f1, a1_0⟩ : S154) ) (fun _ hk => hk)
     have hx35_2 := hcc35 2 _ rfl
     (try simp only [show (k154).sz = 3 from rfl, Nat.mul_one, Nat.add_zero] at hx35_2)
     have hf35_2 := hfr35 2
     (try simp only [show (k154).sz = 3 from rfl, Nat.mul_one, Nat.add_zero] at hf35_2)
     clear hcl35 hcc35 hfr35 hM35
     go_wp2_with (first | ((with_reducible refine gate_store (t := 3) (p := 54) rfl ?_); refine store_event (t := 3) (p := 54) (v := ?vo_w36) (w1 := (wr.setCell ⟨go32, (x8_2 : Int).toNat * 3 + 2, none⟩ (.int .i64 a1_0))) ?hg ?ho ?hn ?hr ?_; (case ho => rfl); (case hg => rfl); (case hn => rfl); (case hr => first | (go_simp; done) | (go_simp; rfl)); intro w36 hw; have hg : wr.grownBy w36 (some go32) := (by rw [hw]; exact HP35.2); have hp_ : Kd.R k154 154 w36 w.heap.size (fun _ => True) (.slice (some ⟨go32, 0, none⟩) x6_2.length co33) y193 := (by rw [hw, Ny193.out]; exact HP35.1); clear HP35; have n0_ := zK (hp_); have n1_ := zK (blk_grown (g := gb181) (o := .cells #[.int .i64 a1_0, .int .i64 a1_1, .int .i64 a1_2, .int .i64 a1_3, .int .i64 a1_4] 111 (0, 0)) (qK BK181.out) hg (Kd.R_ne HO_6.out BK181.out (by decide))); have n2_ := zK ((by rw [hw]; exact bS (HB.out) GB32.out : Below w.heap.size w w36)); clear HO_6; clear BK181; clear HB; have HO_6 := n0_; have BK181 := n1_; have HB := n2_; clear n0_ n1_ n2_; clear hg hw hp_))
     go_roundg k2
     case measure => have := HJ4.out; have := HK2.out; omega
     case rel => exact ⟨(y193), (wrap64 (x8_2 + 1)), (by first | rfl | (simp; done) | (simp [*]; done)), H', ⟨by have := HJ4.out; have := HK2.out; omega⟩, ⟨by exact Kd.qR HO_6.out⟩, ⟨by exact qK BK181.out⟩, ⟨by repeat (first | (with_reducible first | exact HB.out | apply bA | apply bN | apply b1 | refine bS ?_ GE181.out) | exact HB.out)⟩⟩
end Go.Proofs.Ytejhjenlodclpaa.PFnExactTighten
