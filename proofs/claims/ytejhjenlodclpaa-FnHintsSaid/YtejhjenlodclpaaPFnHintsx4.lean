/- Walks of functions that FnHints reaches, shortened. -/
import Derived.Test.YtejhjenlodclpaaPFnHintsx0
import Derived.Test.YtejhjenlodclpaaPFnHintsx1
import Derived.Test.YtejhjenlodclpaaPFnHintsx3
namespace Go.Proofs.Ytejhjenlodclpaa.PFnHints
open Go.RowKit Go.Proofs.YtejhjenlodclpaaW.PrintWords Go.Proofs.YtejhjenlodclpaaW.PrintLast Go.Proofs.YtejhjenlodclpaaW.PrintMore
attribute [local go_sem] max2_int min2_int max_two min_two max_three min_three max_four min_four
set_option maxHeartbeats 8000000
set_option maxRecDepth 100000
set_option linter.unusedVariables false
set_option linter.unusedSimpArgs false

/-! ### impl_IsReport: function 92 -/
def impl_IsReport.f (k : Nat) (a0_0 : Int) (a0_1 : Int) (l0_2 : List Int) (a0_3 : Int) (a0_4 : Int) (l0_5 : List Int) (a0_6 : Int) (a0_7 : Int) : Option (Bool) := (impl_InRange.f a0_0 1 999).bind fun t149 => (if t149 = true then ((impl_InRange.f a0_1 1 8).bind fun t150 => (if t150 = true then ((impl_isAscending.f k l0_2 0 7).bind fun t151 => (if t151 = true then (if 1 ≤ a0_3 then (if a0_3 ≤ a0_4 then (if a0_4 ≤ 50 then ((impl_isAscending.f k l0_5 1 30).bind fun t152 => (if t152 = true then (if (l0_5.length : Int) ≤ 10 then ((impl_IsSpan.f a0_6 a0_7).bind fun t153 => (some t153)) else (some false)) else (some false))) else (some false)) else (some false)) else (some false)) else (some false))) else (some false))) else (some false))
theorem lf4_0 {p : Prop} (h : p := by
  go_enter Try.func92, Try.ntmps92
  go_wp2_with (first | ((with_reducible refine gd (N := 1) rfl ?_); (try (refine gate_guard (by rfl) ?_; dsimp only)); refine bE (N := 1) (cs := #[.int .i64 a0_0, .int .i64 a0_1, .slice A0_2 l0_2.length c0_2, .int .i64 a0_3, .int .i64 a0_4, .slice A0_5 l0_5.length c0_5, .int .i64 a0_6, .int .i64 a0_7]) (t := 41) ?_; intro gb148 hg wz0 hbox hb; have _ := zK (bT (qB HB.o) hb); have _ := zK (hbox); have _ := zK ((by rw [hg]; exact (bZ (qB HB.o)) : w.heap.size ≤ gb148)); have _ := zK ((by rw [hg]; exact (bZ (qB HB.o)) : w.heap.size ≤ gb148)); clear HB; rename_i HB BK148 GW148 GE148; clear hb hbox hg; obtain ⟨hczz0_0, hczz0_1, hczz0_2, hczz0_3, hczz0_4, hczz0_5, hczz0_6, hczz0_7, hfzz0_0, hfzz0_1, hfzz0_2, hfzz0_3, hfzz0_4, hfzz0_5, hfzz0_6, hfzz0_7⟩ := bx8 BK148.o) | ((with_reducible refine gc (f := 106) rfl ?_); refine gL (some 5) Try.func106 #[.int .i64 a0_0, .int .i64 1, .int .i64 999] ?_; (with_reducible refine (impl_InRange.calls a0_0 1 999 true _ A2.o).mono ?_); rintro e w' ⟨rfl, ⟨nd, rfl⟩⟩; refine ⟨_, rfl, ?_⟩) | (go_at_call 106; (with_reducible refine (impl_InRange.calls a0_1 1 8 true _ A4.o).mono ?_); rintro e w' ⟨rfl, ⟨nd, rfl⟩⟩) | (go_at_call 141; (with_reducible refine (impl_isAscending.calls k _ _ l0_2 0 7 true _ ?side1 ?side2 A6.o).mono ?_); (case side1 => exact J4); (case side2 => exact HC0_2.o); rintro e w' ⟨rfl, ⟨nd, rfl⟩⟩) | (go_at_call 141; (with_reducible refine (impl_isAscending.calls k _ _ l0_5 1 30 true _ ?side1 ?side2 A11.o).mono ?_); (case side1 => exact J1); (case side2 => exact HC0_5.o); rintro e w' ⟨rfl, ⟨nd, rfl⟩⟩) | (go_at_call 142; (with_reducible refine (impl_IsSpan.calls a0_6 a0_7 t153 _ A14.o).mono ?_); rintro e wz1 ⟨rfl, hb⟩; have _ := zK (bB (qK BK148.o) hb); have _ := zK (bT M11 hb); clear BK148 HB; rename_i BK148 HB; clear hb) | (go_at_call 141; (with_reducible refine (impl_isAscending.calls k _ _ l0_5 1 30 false _ ?side1 ?side2 A11.o).mono ?_); (case side1 => exact J1); (case side2 => exact HC0_5.o); rintro e w' ⟨rfl, ⟨nd, rfl⟩⟩) | (go_at_call 141; (with_reducible refine (impl_isAscending.calls k _ _ l0_2 0 7 false _ ?side1 ?side2 A6.o).mono ?_); (case side1 => exact J4); (case side2 => exact HC0_2.o); rintro e w' ⟨rfl, ⟨nd, rfl⟩⟩) | (go_at_call 106; (with_reducible refine (impl_InRange.calls a0_1 1 8 false _ A4.o).mono ?_); rintro e w' ⟨rfl, ⟨nd, rfl⟩⟩))
  go_ret
  exact ⟨o0, o3⟩) : p := h
theorem impl_IsReport.calls (k : Nat) (a0_0 : Int) (a0_1 : Int) (A0_2 : Option Addr) (c0_2 : Nat) (l0_2 : List Int) (a0_3 : Int) (a0_4 : Int) (A0_5 : Option Addr) (c0_5 : Nat) (l0_5 : List Int) (a0_6 : Int) (a0_7 : Int) (r : Bool) (w : World) (hr0_2 : Kd.C (Kd.int .i64) w A0_2 l0_2.length l0_2) (hc0_2 : l0_2.length ≤ c0_2) (hr0_5 : Kd.C (Kd.int .i64) w A0_5 l0_5.length l0_5) (hc0_5 : l0_5.length ≤ c0_5) (h : impl_IsReport.f k a0_0 a0_1 l0_2 a0_3 a0_4 l0_5 a0_6 a0_7 = some r) :
  Calls Try.prog 92 #[.agg #[.int .i64 a0_0, .int .i64 a0_1, .slice A0_2 l0_2.length c0_2, .int .i64 a0_3, .int .i64 a0_4, .slice A0_5 l0_5.length c0_5, .int .i64 a0_6, .int .i64 a0_7]] w fun e w' => e = .returned (.bool r) ∧ Below w.heap.size w w' := by
 have hu41 := Try.underlying41
 have hu39 := Try.underlying39
 have HR0_2 := zK hr0_2
 have HC0_2 := zK hc0_2
 clear hr0_2 hc0_2
 have HR0_5 := zK hr0_5
 have HC0_5 := zK hc0_5
 clear hr0_5 hc0_5
 have HB := zK (Below.refl w.heap.size w)
 have H : ((impl_InRange.f a0_0 1 999).bind fun t149 => (if t149 = true then ((impl_InRange.f a0_1 1 8).bind fun t150 => (if t150 = true then ((impl_isAscending.f k l0_2 0 7).bind fun t151 => (if t151 = true then (if 1 ≤ a0_3 then (if a0_3 ≤ a0_4 then (if a0_4 ≤ 50 then ((impl_isAscending.f k l0_5 1 30).bind fun t152 => (if t152 = true then (if (l0_5.length : Int) ≤ 10 then ((impl_IsSpan.f a0_6 a0_7).bind fun t153 => (some t153)) else (some false)) else (some false))) else (some false)) else (some false)) else (some false)) else (some false))) else (some false))) else (some false))) = some r := h
 clear h
 replace H := Option.bind_eq_some_iff.mp H
 obtain ⟨t149, A20, H⟩ := H
 try dsimp only at H
 have A2 := zK A20
 clear A20
 by_cases c3 : t149 = true
 rotate_left
 ·replace c3 := Bool.eq_false_iff.mpr c3
  subst c3
  have H1 : (some false) = some r := by rw [if_neg (show ¬ (false = true) by decide)] at H; exact H
  clear H
  have H := H1
  clear H1
  obtain rfl := Option.some.inj H
  go_enter Try.func92, Try.ntmps92
  go_wp2_with (first | ((with_reducible refine gd (N := 1) rfl ?_); (try (refine gate_guard (by rfl) ?_; dsimp only)); refine bE (N := 1) (cs := #[.int .i64 a0_0, .int .i64 a0_1, .slice A0_2 l0_2.length c0_2, .int .i64 a0_3, .int .i64 a0_4, .slice A0_5 l0_5.length c0_5, .int .i64 a0_6, .int .i64 a0_7]) (t := 41) ?_; intro gb148 hg w32 hbox hb; have _ := zK (bT (qB HB.o) hb); have _ := zK (hbox); have _ := zK ((by rw [hg]; exact (bZ (qB HB.o)) : w.heap.size ≤ gb148)); have _ := zK ((by rw [hg]; exact (bZ (qB HB.o)) : w.heap.size ≤ gb148)); clear HB; rename_i HB BK148 GW148 GE148; clear hb hbox hg; obtain ⟨hcz33_0, hcz33_1, hcz33_2, hcz33_3, hcz33_4, hcz33_5, hcz33_6, hcz33_7, hfz33_0, hfz33_1, hfz33_2, hfz33_3, hfz33_4, hfz33_5, hfz33_6, hfz33_7⟩ := bx8 BK148.o) | ((with_reducible refine gc (f := 106) rfl ?_); refine gL (some 5) Try.func106 #[.int .i64 a0_0, .int .i64 1, .int .i64 999] ?_; (with_reducible refine (impl_InRange.calls a0_0 1 999 false _ A2.o).mono ?_); rintro e w' ⟨rfl, ⟨nd, rfl⟩⟩; refine ⟨_, rfl, ?_⟩))
  go_ret
  exact ⟨o0, o3⟩
 subst c3
 have H1 : ((impl_InRange.f a0_1 1 8).bind fun t150 => (if t150 = true then ((impl_isAscending.f k l0_2 0 7).bind fun t151 => (if t151 = true then (if 1 ≤ a0_3 then (if a0_3 ≤ a0_4 then (if a0_4 ≤ 50 then ((impl_isAscending.f k l0_5 1 30).bind fun t152 => (if t152 = true then (if (l0_5.length : Int) ≤ 10 then ((impl_IsSpan.f a0_6 a0_7).bind fun t153 => (some t153)) else (some false)) else (some false))) else (some false)) else (some false)) else (some false)) else (some false))) else (some false))) = some r := by rw [if_pos rfl] at H; exact H
 clear H
 have H := H1
 clear H1
 replace H := Option.bind_eq_some_iff.mp H
 obtain ⟨t150, A40, H⟩ := H
 try dsimp only at H
 have A4 := zK A40
 clear A40
 by_cases c5 : t150 = true
 rotate_left
 ·replace c5 := Bool.eq_false_iff.mpr c5
  subst c5
  have H1 : (some false) = some r := by rw [if_neg (show ¬ (false = true) by decide)] at H; exact H
  clear H
  have H := H1
  clear H1
  obtain rfl := Option.some.inj H
  exact lf4_0
 subst c5
 have H1 : ((impl_isAscending.f k l0_2 0 7).bind fun t151 => (if t151 = true then (if 1 ≤ a0_3 then (if a0_3 ≤ a0_4 then (if a0_4 ≤ 50 then ((impl_isAscending.f k l0_5 1 30).bind fun t152 => (if t152 = true then (if (l0_5.length : Int) ≤ 10 then ((impl_IsSpan.f a0_6 a0_7).bind fun t153 => (some t153)) else (some false)) else (some false))) else (some false)) else (some false)) else (some false)) else (some false))) = some r := by rw [if_pos rfl] at H; exact H
 clear H
 have H := H1
 clear H1
 replace H := Option.bind_eq_some_iff.mp H
 obtain ⟨t151, A60, H⟩ := H
 try dsimp only at H
 have A6 := zK A60
 clear A60
 by_cases c7 : t151 = true
 rotate_left
 ·replace c7 := Bool.eq_false_iff.mpr c7
  subst c7
  have H1 : (some false) = some r := by rw [if_neg (show ¬ (false = true) by decide)] at H; exact H
  clear H
  have H := H1
  clear H1
  obtain rfl := Option.some.inj H
  exact lf4_0
 subst c7
 have H1 : (if 1 ≤ a0_3 then (if a0_3 ≤ a0_4 then (if a0_4 ≤ 50 then ((impl_isAscending.f k l0_5 1 30).bind fun t152 => (if t152 = true then (if (l0_5.length : Int) ≤ 10 then ((impl_IsSpan.f a0_6 a0_7).bind fun t153 => (some t153)) else (some false)) else (some false))) else (some false)) else (some false)) else (some false)) = some r := by rw [if_pos rfl] at H; exact H
 clear H
 have H := H1
 clear H1
 by_cases c8 : 1 ≤ a0_3
 rotate_left
 ·rw [if_neg c8] at H
  have c8b0 : decide (1 ≤ a0_3) = false := decide_eq_false c8
  clear c8
  obtain rfl := Option.some.inj H
  exact lf4_0
 rw [if_pos c8] at H
 have c8b0 : decide (1 ≤ a0_3) = true := decide_eq_true c8
 clear c8
 by_cases c9 : a0_3 ≤ a0_4
 rotate_left
 ·rw [if_neg c9] at H
  have c9b0 : decide (a0_3 ≤ a0_4) = false := decide_eq_false c9
  clear c9
  obtain rfl := Option.some.inj H
  exact lf4_0
 rw [if_pos c9] at H
 have c9b0 : decide (a0_3 ≤ a0_4) = true := decide_eq_true c9
 clear c9
 by_cases c10 : a0_4 ≤ 50
 rotate_left
 ·rw [if_neg c10] at H
  have c10b0 : decide (a0_4 ≤ 50) = false := decide_eq_false c10
  clear c10
  obtain rfl := Option.some.inj H
  exact lf4_0
 rw [if_pos c10] at H
 have c10b0 : decide (a0_4 ≤ 50) = true := decide_eq_true c10
 clear c10
 replace H := Option.bind_eq_some_iff.mp H
 obtain ⟨t152, A110, H⟩ := H
 try dsimp only at H
 have A11 := zK A110
 clear A110
 by_cases c12 : t152 = true
 rotate_left
 ·replace c12 := Bool.eq_false_iff.mpr c12
  subst c12
  have H1 : (some false) = some r := by rw [if_neg (show ¬ (false = true) by decide)] at H; exact H
  clear H
  have H := H1
  clear H1
  obtain rfl := Option.some.inj H
  exact lf4_0
 subst c12
 have H1 : (if (l0_5.length : Int) ≤ 10 then ((impl_IsSpan.f a0_6 a0_7).bind fun t153 => (some t153)) else (some false)) = some r := by rw [if_pos rfl] at H; exact H
 clear H
 have H := H1
 clear H1
 by_cases c13 : (l0_5.length : Int) ≤ 10
 rotate_left
 ·rw [if_neg c13] at H
  have c13b0 : decide ((l0_5.length : Int) ≤ 10) = false := decide_eq_false c13
  have c13b1 : decide (l0_5.length ≤ 10) = false := decide_eq_false (by omega)
  clear c13
  obtain rfl := Option.some.inj H
  exact lf4_0
 rw [if_pos c13] at H
 have c13b0 : decide ((l0_5.length : Int) ≤ 10) = true := decide_eq_true c13
 have c13b1 : decide (l0_5.length ≤ 10) = true := decide_eq_true (by omega)
 clear c13
 replace H := Option.bind_eq_some_iff.mp H
 obtain ⟨t153, A140, H⟩ := H
 replace H : (some t153) = some r := H
 have A14 := zK A140
 clear A140
 obtain rfl := Option.some.inj H
 exact lf4_0
/-! ### slices_Index_int_int: function 148 -/
def slices_Index_int_int.l0 : Nat → List Int → Int → Int → Int → Option (Int)
 | 0, _, _, _, _ => none
 | k + 1, x0, x1, x7, x8 => if x8 < x7 then (if 0 ≤ x8 then (if x8 < (x0.length : Int) then (if x1 = (rd x0 x8) then (some x8) else (slices_Index_int_int.l0 k x0 x1 x7 (wrap64 (x8 + 1)))) else (none)) else (none)) else (some (-1))
def slices_Index_int_int.f (k : Nat) (l0 : List Int) (a1 : Int) : Option (Int) := slices_Index_int_int.l0 k l0 a1 (l0.length : Int) 0
theorem slices_Index_int_int.calls (k : Nat) (A0 : Option Addr) (c0 : Nat) (l0 : List Int) (a1 : Int) (r : Int) (w : World) (hr0 : Kd.C (Kd.int .i64) w A0 l0.length l0) (hc0 : l0.length ≤ c0) (h : slices_Index_int_int.f k l0 a1 = some r) :
  Calls Try.prog 148 #[.slice A0 l0.length c0, .int .i64 a1] w fun e w' => e = .returned (.int .i64 r) ∧ Drawn0 w w' := by
 have HR0 := zK hr0
 have HC0 := zK hc0
 clear hr0 hc0
 have H : (slices_Index_int_int.l0 k l0 a1 (l0.length : Int) 0) = some r := h
 clear h
 have H' := zK H
 clear H
 go_enter Try.func148, Try.ntmps148
 go_wp2
 go_loopg [8] k (fun kq v8 w' => ∃ (x8_1 : Int), v8 = .int .i64 x8_1 ∧ Aside0 (slices_Index_int_int.l0 kq l0 a1 (l0.length : Int) x8_1 = some r) ∧ Aside0 (kq ≤ k) ∧ Drawn0 w w')
 case atStart => exact ⟨(0), M12, H', ⟨Nat.le_refl _⟩, Q4⟩
 case round =>
  clear H'
  try clear c1
  try clear p2
  obtain ⟨x8_1, rfl, HA, HK1, ⟨m1, rfl⟩⟩ := hrel
  cases gk with
  | zero => exact absurd HA.o (by simp [slices_Index_int_int.l0])
  | succ k1 =>
   have H := HA.o
   clear HA
   simp only [slices_Index_int_int.l0] at H
   by_cases c3 : x8_1 < (l0.length : Int)
   rotate_left
   ·rw [if_neg c3] at H
    have c3b0 : decide (x8_1 < (l0.length : Int)) = false := decide_eq_false c3
    clear c3
    obtain rfl := Option.some.inj H
    go_wp2
    go_ret
    exact ⟨o2, Q4⟩
   rw [if_pos c3] at H
   have c3b0 : decide (x8_1 < (l0.length : Int)) = true := decide_eq_true c3
   clear c3
   by_cases c4 : 0 ≤ x8_1
   rotate_left
   ·rw [if_neg c4] at H
    exact absurd H (by simp)
   rw [if_pos c4] at H
   have c4b0 : decide (0 ≤ x8_1) = true := decide_eq_true c4
   clear c4
   by_cases c5 : x8_1 < (l0.length : Int)
   rotate_left
   ·rw [if_neg c5] at H
    exact absurd H (by simp)
   rw [if_pos c5] at H
   have c5b0 : decide (x8_1 < (l0.length : Int)) = true := decide_eq_true c5
   clear c5
   by_cases c6 : a1 = (rd l0 x8_1)
   ·rw [if_pos c6] at H
    have c6b0 : (a1 == (rd l0 x8_1)) = true := beq_iff_eq.mpr c6
    have c6b1 : (a1 != (rd l0 x8_1)) = false := bne_eq_false_iff_eq.mpr c6
    clear c6
    obtain rfl := Option.some.inj H
    have p154 : 0 ≤ (x8_1 : Int) := oD M4
    have q154 : x8_1 < (l0.length : Int) := oD M4
    obtain ⟨ad154, e154, hx154_0⟩ := Kd.at_int HR0.o x8_1 p154 q154
    cases e154
    replace p154 := eq_true p154
    replace q154 := eq_true q154
    go_wp2
    go_ret
    exact ⟨o2, Q4⟩
   rw [if_neg c6] at H
   have c6b0 : (a1 == (rd l0 x8_1)) = false := beq_eq_false_iff_ne.mpr c6
   have c6b1 : (a1 != (rd l0 x8_1)) = true := bne_iff_ne.mpr c6
   have H' := zK H
   clear H
   have p154 : 0 ≤ (x8_1 : Int) := oD M4
   have q154 : x8_1 < (l0.length : Int) := oD M4
   obtain ⟨ad154, e154, hx154_0⟩ := Kd.at_int HR0.o x8_1 p154 q154
   cases e154
   replace p154 := eq_true p154
   replace q154 := eq_true q154
   go_wp2
   go_roundg k1
   case measure => have := HK1.o; omega
   case rel => exact ⟨(wrap64 (x8_1 + 1)), M12, H', ⟨o6⟩, Q4⟩
/-! ### slices_Contains_int_int: function 103 -/
def slices_Contains_int_int.f (k : Nat) (l0 : List Int) (a1 : Int) : Option (Bool) := (slices_Index_int_int.f k l0 a1).bind fun t155 => (some (decide (t155 ≥ 0)))
theorem slices_Contains_int_int.calls (k : Nat) (A0 : Option Addr) (c0 : Nat) (l0 : List Int) (a1 : Int) (r : Bool) (w : World) (hr0 : Kd.C (Kd.int .i64) w A0 l0.length l0) (hc0 : l0.length ≤ c0) (h : slices_Contains_int_int.f k l0 a1 = some r) :
  Calls Try.prog 103 #[.slice A0 l0.length c0, .int .i64 a1] w fun e w' => e = .returned (.bool r) ∧ Drawn0 w w' := by
 have HR0 := zK hr0
 have HC0 := zK hc0
 clear hr0 hc0
 have H : ((slices_Index_int_int.f k l0 a1).bind fun t155 => (some (decide (t155 ≥ 0)))) = some r := h
 clear h
 replace H := Option.bind_eq_some_iff.mp H
 obtain ⟨t155, A30, H⟩ := H
 replace H : (some (decide (t155 ≥ 0))) = some r := H
 have A3 := zK A30
 clear A30
 obtain rfl := Option.some.inj H
 go_enter Try.func103, Try.ntmps103
 go_wp2_with (first | ((with_reducible refine gc (f := 148) rfl ?_); refine gL (some 7) Try.func148 #[.slice A0 l0.length c0, .int .i64 a1] ?_; (with_reducible refine (slices_Index_int_int.calls k _ _ l0 a1 t155 _ ?side1 ?side2 A3.o).mono ?_); (case side1 => exact Kd.qC HR0.o); (case side2 => exact HC0.o); rintro e w' ⟨rfl, ⟨nd, rfl⟩⟩; refine ⟨_, rfl, ?_⟩))
 go_ret
 exact ⟨o2, Q4⟩
/-! ### impl_allows: function 93 -/
def impl_allows.f (k : Nat) (l0 : List Int) (a1 : Int) : Option (Bool) := if (l0.length : Int) = 0 then (some true) else ((slices_Contains_int_int.f k l0 a1).bind fun t156 => (some t156))
theorem impl_allows.calls (k : Nat) (A0 : Option Addr) (c0 : Nat) (l0 : List Int) (a1 : Int) (r : Bool) (w : World) (hr0 : Kd.C (Kd.int .i64) w A0 l0.length l0) (hc0 : l0.length ≤ c0) (h : impl_allows.f k l0 a1 = some r) :
  Calls Try.prog 93 #[.slice A0 l0.length c0, .int .i64 a1] w fun e w' => e = .returned (.bool r) ∧ Drawn0 w w' := by
 have HR0 := zK hr0
 have HC0 := zK hc0
 clear hr0 hc0
 have H : (if (l0.length : Int) = 0 then (some true) else ((slices_Contains_int_int.f k l0 a1).bind fun t156 => (some t156))) = some r := h
 clear h
 by_cases c3 : (l0.length : Int) = 0
 ·rw [if_pos c3] at H
  have c3b0 : ((l0.length : Int) == 0) = true := beq_iff_eq.mpr c3
  have c3b1 : ((l0.length : Int) != 0) = false := bne_eq_false_iff_eq.mpr c3
  clear c3
  obtain rfl := Option.some.inj H
  go_enter Try.func93, Try.ntmps93
  go_wp2
  go_ret
  exact ⟨o2, Q4⟩
 rw [if_neg c3] at H
 have c3b0 : ((l0.length : Int) == 0) = false := beq_eq_false_iff_ne.mpr c3
 have c3b1 : ((l0.length : Int) != 0) = true := bne_iff_ne.mpr c3
 have c3b2 : ¬ (l0 = []) := fun h_ => c3 (by rw [h_]; rfl)
 replace H := Option.bind_eq_some_iff.mp H
 obtain ⟨t156, A40, H⟩ := H
 replace H : (some t156) = some r := H
 have A4 := zK A40
 clear A40
 obtain rfl := Option.some.inj H
 go_enter Try.func93, Try.ntmps93
 go_wp2_with (first | (go_at_call 103; (with_reducible refine (slices_Contains_int_int.calls k _ _ l0 a1 t156 _ ?side1 ?side2 A4.o).mono ?_); (case side1 => exact Kd.qC HR0.o); (case side2 => exact HC0.o); rintro e w' ⟨rfl, ⟨nd, rfl⟩⟩))
 go_ret
 exact ⟨o2, Q4⟩
/-! ### impl_HintsFor: function 24 -/
mutual
def impl_HintsFor.l0 : Nat → Int → List Int → Int → Int → Int → List Int → Int → Int → List Int → Int → Int → Option (List Int)
 | 0, _, _, _, _, _, _, _, _, _, _, _ => none
 | k + 1, x1, x5, x13, x158000, x158001, x158002, x158003, x158004, x158005, x158006, x158007 => if x13 < 8 then (impl_HintsFor.l1 k x1 x5 x13 x158003 x13 x158000 x158001 x158002 x158003 x158004 x158005 x158006 x158007) else ((impl_united.f x5 ([] : List Int)).bind fun t165 => (some t165))
def impl_HintsFor.l1 : Nat → Int → List Int → Int → Int → Int → Int → Int → List Int → Int → Int → List Int → Int → Int → Option (List Int)
 | 0, _, _, _, _, _, _, _, _, _, _, _, _, _ => none
 | k + 1, x1, x5, x6, x7, x13, x158000, x158001, x158002, x158003, x158004, x158005, x158006, x158007 => if x7 ≤ x158004 then ((impl_allows.f k x158002 x6).bind fun t168 => (if t168 = true then ((impl_hint.f k x1 x158001 x6 x7).bind fun t169 => (if x5.length < 17592186044416 then (impl_HintsFor.l1 k x1 (x5 ++ [t169]) x6 (wrap64 (x7 + 1)) x13 x158000 x158001 x158002 x158003 x158004 x158005 x158006 x158007) else (none))) else (impl_HintsFor.l1 k x1 x5 x6 (wrap64 (x7 + 1)) x13 x158000 x158001 x158002 x158003 x158004 x158005 x158006 x158007))) else (impl_HintsFor.l0 k x1 x5 (wrap64 (x13 + 1)) x158000 x158001 x158002 x158003 x158004 x158005 x158006 x158007)
end
def impl_HintsFor.f (k : Nat) (a0_0 : Int) (a0_1 : Int) (l0_2 : List Int) (a0_3 : Int) (a0_4 : Int) (l0_5 : List Int) (a0_6 : Int) (a0_7 : Int) (a1 : Int) : Option (List Int) := (impl_IsReport.f k a0_0 a0_1 l0_2 a0_3 a0_4 l0_5 a0_6 a0_7).bind fun t158 => (if t158 = true then (impl_HintsFor.l0 k a1 (([] : List Int)) 0 a0_0 a0_1 l0_2 a0_3 a0_4 l0_5 a0_6 a0_7) else (some (([] : List Int))))
theorem impl_HintsFor.calls (k : Nat) (a0_0 : Int) (a0_1 : Int) (A0_2 : Option Addr) (c0_2 : Nat) (l0_2 : List Int) (a0_3 : Int) (a0_4 : Int) (A0_5 : Option Addr) (c0_5 : Nat) (l0_5 : List Int) (a0_6 : Int) (a0_7 : Int) (a1 : Int) (r : List Int) (w : World) (hr0_2 : Kd.C (Kd.int .i64) w A0_2 l0_2.length l0_2) (hc0_2 : l0_2.length ≤ c0_2) (hr0_5 : Kd.C (Kd.int .i64) w A0_5 l0_5.length l0_5) (hc0_5 : l0_5.length ≤ c0_5) (h : impl_HintsFor.f k a0_0 a0_1 l0_2 a0_3 a0_4 l0_5 a0_6 a0_7 a1 = some r) :
  Calls Try.prog 24 #[.agg #[.int .i64 a0_0, .int .i64 a0_1, .slice A0_2 l0_2.length c0_2, .int .i64 a0_3, .int .i64 a0_4, .slice A0_5 l0_5.length c0_5, .int .i64 a0_6, .int .i64 a0_7], .int .i64 a1] w fun e w' => ∃ v0_ : Value, e = .returned (v0_) ∧ Kd.R (Kd.int .i64) 3 w' w.heap.size (fun _ => True) v0_ r ∧ Below w.heap.size w w' := by
 have hu41 := Try.underlying41
 have HR0_2 := zK hr0_2
 have HC0_2 := zK hc0_2
 clear hr0_2 hc0_2
 have HR0_5 := zK hr0_5
 have HC0_5 := zK hc0_5
 clear hr0_5 hc0_5
 have HB := zK (Below.refl w.heap.size w)
 have H : ((impl_IsReport.f k a0_0 a0_1 l0_2 a0_3 a0_4 l0_5 a0_6 a0_7).bind fun t158 => (if t158 = true then (impl_HintsFor.l0 k a1 (([] : List Int)) 0 a0_0 a0_1 l0_2 a0_3 a0_4 l0_5 a0_6 a0_7) else (some (([] : List Int))))) = some r := h
 clear h
 replace H := Option.bind_eq_some_iff.mp H
 obtain ⟨t158, A30, H⟩ := H
 try dsimp only at H
 have A3 := zK A30
 clear A30
 by_cases c4 : t158 = true
 rotate_left
 ·replace c4 := Bool.eq_false_iff.mpr c4
  subst c4
  have H1 : (some (([] : List Int))) = some r := by rw [if_neg (show ¬ (false = true) by decide)] at H; exact H
  clear H
  have H := H1
  clear H1
  obtain ⟨y159, hy159⟩ : ∃ y_ : List Int, y_ = (([] : List Int)) := ⟨_, rfl⟩
  replace H : (some y159) = some r := have he_ := hy159; rH
  have Ny159 := zK hy159
  clear hy159
  obtain rfl := Option.some.inj H
  go_enter Try.func24, Try.ntmps24
  go_wp2_with (first | ((with_reducible refine gd (N := 2) rfl ?_); refine bE (N := 2) (cs := #[.int .i64 a0_0, .int .i64 a0_1, .slice A0_2 l0_2.length c0_2, .int .i64 a0_3, .int .i64 a0_4, .slice A0_5 l0_5.length c0_5, .int .i64 a0_6, .int .i64 a0_7]) (t := 41) ?_; intro gb157 hg w25 hbox hb; have _ := zK (bT (qB HB.o) hb); have _ := zK (hbox); have _ := zK ((by rw [hg]; exact (bZ (qB HB.o)) : w.heap.size ≤ gb157)); have _ := zK ((by rw [hg]; exact (bZ (qB HB.o)) : w.heap.size ≤ gb157)); clear HB; rename_i HB BK157 GW157 GE157; clear hb hbox hg; obtain ⟨hcz26_0, hcz26_1, hcz26_2, hcz26_3, hcz26_4, hcz26_5, hcz26_6, hcz26_7, hfz26_0, hfz26_1, hfz26_2, hfz26_3, hfz26_4, hfz26_5, hfz26_6, hfz26_7⟩ := bx8 BK157.o) | ((with_reducible refine gc (f := 92) rfl ?_); refine goesL_ (some 9) rfl rfl Try.func92 (by kernel_rfl) rfl #[.agg #[.int .i64 a0_0, .int .i64 a0_1, .slice A0_2 l0_2.length c0_2, .int .i64 a0_3, .int .i64 a0_4, .slice A0_5 l0_5.length c0_5, .int .i64 a0_6, .int .i64 a0_7]] rfl M0 ?_; (with_reducible refine (impl_IsReport.calls k a0_0 a0_1 _ _ l0_2 a0_3 a0_4 _ _ l0_5 a0_6 a0_7 false _ ?side1 ?side2 ?side3 ?side4 A3.o).mono ?_); (case side1 => exact Kd.qC (Kd.C_below HR0_2.o HB.o)); (case side2 => exact HC0_2.o); (case side3 => exact Kd.qC (Kd.C_below HR0_5.o HB.o)); (case side4 => exact HC0_5.o); rintro e w27 ⟨rfl, hb⟩; refine ⟨_, rfl, ?_⟩; have _ := zK (bB (qK BK157.o) hb); have _ := zK (bT M11 hb); clear BK157 HB; rename_i BK157 HB; clear hb) | ((with_reducible refine gd (N := 11) rfl ?_); refine Kd.R_lit (Kd.int .i64) _ 3 ?hg (N := 11) ?hd (xs := ([] : List Int)) (inner := []) (ok := fun _ => True) (okp := fun _ => True) ?hr ?hp (fun _ hk => hk) trivial (Below.refl _ _) (Nat.le_refl _) (by simp) ?_; (case hd => rfl); (case hg => rfl); (case hr => first | (go_simp; done) | (go_simp; rfl)); (case hp => exact (Reps.none _ _)); intro v160 w28 ho29 hb hg_ hnew_; clear hg_ hnew_; (first | rw [← Ny159.o] at ho29 | (simp only [Int.reduceToNat] at ho29; rw [← Ny159.o] at ho29)); have _ := zK (Kd.R_lower ho29 (bZ M11)); have _ := zK (bB (qK BK157.o) hb); have _ := zK (bT M11 hb); clear BK157 HB; rename_i HO161 BK157 HB; clear hb ho29))
  go_ret
  exact ⟨_, o0, by exact Kd.qR HO161.o, o3⟩
 subst c4
 have H1 : (impl_HintsFor.l0 k a1 (([] : List Int)) 0 a0_0 a0_1 l0_2 a0_3 a0_4 l0_5 a0_6 a0_7) = some r := by rw [if_pos rfl] at H; exact H
 clear H
 have H := H1
 clear H1
 obtain ⟨y162, hy162⟩ : ∃ y_ : List Int, y_ = (([] : List Int)) := ⟨_, rfl⟩
 replace H : (impl_HintsFor.l0 k a1 y162 0 a0_0 a0_1 l0_2 a0_3 a0_4 l0_5 a0_6 a0_7) = some r := have he_ := hy162; rH
 have Ny162 := zK hy162
 clear hy162
 have H' := zK H
 clear H
 go_enter Try.func24, Try.ntmps24
 go_wp2_with (first | ((with_reducible refine gd (N := 2) rfl ?_); refine bE (N := 2) (cs := #[.int .i64 a0_0, .int .i64 a0_1, .slice A0_2 l0_2.length c0_2, .int .i64 a0_3, .int .i64 a0_4, .slice A0_5 l0_5.length c0_5, .int .i64 a0_6, .int .i64 a0_7]) (t := 41) ?_; intro gb157 hg w5 hbox hb; have _ := zK (bT (qB HB.o) hb); have _ := zK (hbox); have _ := zK ((by rw [hg]; exact (bZ (qB HB.o)) : w.heap.size ≤ gb157)); have _ := zK ((by rw [hg]; exact (bZ (qB HB.o)) : w.heap.size ≤ gb157)); clear HB; rename_i HB BK157 GW157 GE157; clear hb hbox hg; obtain ⟨hcz6_0, hcz6_1, hcz6_2, hcz6_3, hcz6_4, hcz6_5, hcz6_6, hcz6_7, hfz6_0, hfz6_1, hfz6_2, hfz6_3, hfz6_4, hfz6_5, hfz6_6, hfz6_7⟩ := bx8 BK157.o) | ((with_reducible refine gc (f := 92) rfl ?_); refine goesL_ (some 9) rfl rfl Try.func92 (by kernel_rfl) rfl #[.agg #[.int .i64 a0_0, .int .i64 a0_1, .slice A0_2 l0_2.length c0_2, .int .i64 a0_3, .int .i64 a0_4, .slice A0_5 l0_5.length c0_5, .int .i64 a0_6, .int .i64 a0_7]] rfl M0 ?_; (with_reducible refine (impl_IsReport.calls k a0_0 a0_1 _ _ l0_2 a0_3 a0_4 _ _ l0_5 a0_6 a0_7 true _ ?side1 ?side2 ?side3 ?side4 A3.o).mono ?_); (case side1 => exact Kd.qC (Kd.C_below HR0_2.o HB.o)); (case side2 => exact HC0_2.o); (case side3 => exact Kd.qC (Kd.C_below HR0_5.o HB.o)); (case side4 => exact HC0_5.o); rintro e w7 ⟨rfl, hb⟩; refine ⟨_, rfl, ?_⟩; have _ := zK (bB (qK BK157.o) hb); have _ := zK (bT M11 hb); clear BK157 HB; rename_i BK157 HB; clear hb) | ((with_reducible refine gd (N := 12) rfl ?_); refine Kd.R_lit (Kd.int .i64) _ 3 ?hg (N := 12) ?hd (xs := ([] : List Int)) (inner := []) (ok := fun _ => True) (okp := fun _ => True) ?hr ?hp (fun _ hk => hk) trivial (Below.refl _ _) (Nat.le_refl _) (by simp) ?_; (case hd => rfl); (case hg => rfl); (case hr => first | (go_simp; done) | (go_simp; rfl)); (case hp => exact (Reps.none _ _)); intro v163 w8 ho9 hb hg_ hnew_; clear hg_ hnew_; (first | rw [← Ny162.o] at ho9 | (simp only [Int.reduceToNat] at ho9; rw [← Ny162.o] at ho9)); have _ := zK (Kd.R_lower ho9 (bZ M11)); have _ := zK (bB (qK BK157.o) hb); have _ := zK (bT M11 hb); clear BK157 HB; rename_i HO164 BK157 HB; clear hb ho9))
 go_loopg [5, 13] k (fun kq v5 v13 w' => ∃ (x5_1 : List Int) (x13_1 : Int), v13 = .int .i64 x13_1 ∧ Aside0 (impl_HintsFor.l0 kq a1 x5_1 x13_1 a0_0 a0_1 l0_2 a0_3 a0_4 l0_5 a0_6 a0_7 = some r) ∧ Aside0 (kq ≤ k) ∧ Aside0 (Kd.R (Kd.int .i64) 3 w' w.heap.size (fun _ => True) v5 x5_1) ∧ Aside0 (w'.heap[gb157]? = some (.cells #[.int .i64 a0_0, .int .i64 a0_1, (.slice A0_2 l0_2.length c0_2), .int .i64 a0_3, .int .i64 a0_4, (.slice A0_5 l0_5.length c0_5), .int .i64 a0_6, .int .i64 a0_7] 41 (0, 0))) ∧ Aside0 (Below w.heap.size w w'))
 case atStart => exact ⟨(y162), (0), M12, H', ⟨Nat.le_refl _⟩, ⟨by exact Kd.qR HO164.o⟩, ⟨by exact qK BK157.o⟩, ⟨o3⟩⟩
 case round =>
  clear H'
  try clear c2
  try clear p2
  try clear c4
  try clear c9
  try clear hcz6_0 hcz6_1 hcz6_2 hcz6_3 hcz6_4 hcz6_5 hcz6_6 hcz6_7 hfz6_0 hfz6_1 hfz6_2 hfz6_3 hfz6_4 hfz6_5 hfz6_6 hfz6_7
  obtain ⟨x5_1, x13_1, rfl, HA, HK1, HO_5, BK157, HB⟩ := hrel
  cases gk with
  | zero => exact absurd HA.o (by simp [impl_HintsFor.l0])
  | succ k1 =>
   have H := HA.o
   clear HA
   simp only [impl_HintsFor.l0] at H
   by_cases c10 : x13_1 < 8
   rotate_left
   ·rw [if_neg c10] at H
    have c10b0 : decide (x13_1 < 8) = false := decide_eq_false c10
    clear c10
    replace H := Option.bind_eq_some_iff.mp H
    obtain ⟨t165, A220, H⟩ := H
    replace H : (some t165) = some r := H
    have A22 := zK A220
    clear A220
    obtain rfl := Option.some.inj H
    obtain ⟨Ao23, co23, eo23⟩ := Kd.R_slice HO_5.o
    subst eo23
    go_wp2_with (first | ((with_reducible refine gc (f := 86) rfl ?_); refine gL (some 39) Try.func86 #[.slice Ao23 x5_1.length co23, .slice none 0 0] ?_; (refine (impl_united.calls _ _ x5_1 _ _ ([] : List Int) t165 _ ?side1 ?side2 ?side3 ?side4 A22.o).mono ?_); (case side1 => exact Kd.qC (Kd.R_reads' HO_5.o).2.2); (case side2 => exact (Kd.R_reads' HO_5.o).2.1); (case side3 => exact Kd.C_nil _ _); (case side4 => exact Nat.le_refl _); rintro e w24 ⟨v166, rfl, ho0, hb⟩; refine ⟨_, rfl, ?_⟩; have _ := zK (Kd.R_elder' (Kd.qR HO_5.o) (Kd.R_base ho0) hb); have _ := zK (Kd.R_lower (Kd.R_new' ho0 (Kd.R_lt (Kd.qR HO_5.o))) (bZ M11)); have _ := zK (bB (qK BK157.o) hb); have _ := zK (bT M11 hb); clear HO_5 BK157 HB; rename_i HO_5 HO167 BK157 HB; clear hb ho0))
    go_ret
    exact ⟨_, o0, by (with_reducible repeat (first | apply Kd.RA | apply Kd.RN | apply Kd.RD)); exact Kd.R_mono HO167.o (fun _ hk => trivial), o3⟩
   rw [if_pos c10] at H
   have c10b0 : decide (x13_1 < 8) = true := decide_eq_true c10
   clear c10
   have H' := zK H
   clear H
   obtain ⟨hcz11_0, hcz11_1, hcz11_2, hcz11_3, hcz11_4, hcz11_5, hcz11_6, hcz11_7, hfz11_0, hfz11_1, hfz11_2, hfz11_3, hfz11_4, hfz11_5, hfz11_6, hfz11_7⟩ := bx8 BK157.o
   go_wp2
   go_loopg [5, 7] k1 (fun kq v5 v7 w' => ∃ (x5_2 : List Int) (x7_2 : Int), v7 = .int .i64 x7_2 ∧ Aside0 (impl_HintsFor.l1 kq a1 x5_2 x13_1 x7_2 x13_1 a0_0 a0_1 l0_2 a0_3 a0_4 l0_5 a0_6 a0_7 = some r) ∧ Aside0 (kq ≤ k1) ∧ Aside0 (Kd.R (Kd.int .i64) 3 w' w.heap.size (fun _ => True) v5 x5_2) ∧ Aside0 (w'.heap[gb157]? = some (.cells #[.int .i64 a0_0, .int .i64 a0_1, (.slice A0_2 l0_2.length c0_2), .int .i64 a0_3, .int .i64 a0_4, (.slice A0_5 l0_5.length c0_5), .int .i64 a0_6, .int .i64 a0_7] 41 (0, 0))) ∧ Aside0 (Below w.heap.size w w'))
   case atStart => exact ⟨(x5_1), (a0_3), M12, H', ⟨Nat.le_refl _⟩, ⟨o10⟩, ⟨by exact qK BK157.o⟩, ⟨o3⟩⟩
   case round =>
    clear H'
    try clear c1
    try clear c2
    try clear p2
    try clear c4
    try clear c9
    try clear c10
    try clear c10b0
    try clear hcz11_0 hcz11_1 hcz11_2 hcz11_3 hcz11_4 hcz11_5 hcz11_6 hcz11_7 hcz6_0 hcz6_1 hcz6_2 hcz6_3 hcz6_4 hcz6_5 hcz6_6 hcz6_7 hfz11_0 hfz11_1 hfz11_2 hfz11_3 hfz11_4 hfz11_5 hfz11_6 hfz11_7 hfz6_0 hfz6_1 hfz6_2 hfz6_3 hfz6_4 hfz6_5 hfz6_6 hfz6_7
    try clear p2
    obtain ⟨x5_2, x7_2, rfl, HA, HK2, HO_5, BK157, HB⟩ := hrel
    cases gk with
    | zero => exact absurd HA.o (by simp [impl_HintsFor.l1])
    | succ k2 =>
     have H := HA.o
     clear HA
     simp only [impl_HintsFor.l1] at H
     by_cases c12 : x7_2 ≤ a0_4
     rotate_left
     ·rw [if_neg c12] at H
      have c12b0 : decide (x7_2 ≤ a0_4) = false := decide_eq_false c12
      clear c12
      have H' := zK H
      clear H
      obtain ⟨hcz21_0, hcz21_1, hcz21_2, hcz21_3, hcz21_4, hcz21_5, hcz21_6, hcz21_7, hfz21_0, hfz21_1, hfz21_2, hfz21_3, hfz21_4, hfz21_5, hfz21_6, hfz21_7⟩ := bx8 BK157.o
      go_wp2
      go_roundg k2
      case measure => have := HK1.o; have := HK2.o; omega
      case rel => exact ⟨(x5_2), (wrap64 (x13_1 + 1)), M12, H', ⟨by have := HK1.o; have := HK2.o; omega⟩, ⟨o10⟩, ⟨by exact qK BK157.o⟩, ⟨o3⟩⟩
     rw [if_pos c12] at H
     have c12b0 : decide (x7_2 ≤ a0_4) = true := decide_eq_true c12
     clear c12
     replace H := Option.bind_eq_some_iff.mp H
     obtain ⟨t168, A130, H⟩ := H
     try dsimp only at H
     have A13 := zK A130
     clear A130
     by_cases c14 : t168 = true
     rotate_left
     ·replace c14 := Bool.eq_false_iff.mpr c14
      subst c14
      have H1 : (impl_HintsFor.l1 k2 a1 x5_2 x13_1 (wrap64 (x7_2 + 1)) x13_1 a0_0 a0_1 l0_2 a0_3 a0_4 l0_5 a0_6 a0_7) = some r := by rw [if_neg (show ¬ (false = true) by decide)] at H; exact H
      clear H
      have H := H1
      clear H1
      have H' := zK H
      clear H
      obtain ⟨hcz20_0, hcz20_1, hcz20_2, hcz20_3, hcz20_4, hcz20_5, hcz20_6, hcz20_7, hfz20_0, hfz20_1, hfz20_2, hfz20_3, hfz20_4, hfz20_5, hfz20_6, hfz20_7⟩ := bx8 BK157.o
      go_wp2_with (first | ((with_reducible refine gc (f := 93) rfl ?_); refine gL (some 27) Try.func93 #[.slice A0_2 l0_2.length c0_2, .int .i64 x13_1] ?_; (with_reducible refine (impl_allows.calls k2 _ _ l0_2 x13_1 false _ ?side1 ?side2 A13.o).mono ?_); (case side1 => exact Kd.qC (Kd.C_below HR0_2.o HB.o)); (case side2 => exact HC0_2.o); rintro e w' ⟨rfl, ⟨nd, rfl⟩⟩; refine ⟨_, rfl, ?_⟩))
      go_roundg k2
      case measure => have := HK1.o; have := HK2.o; omega
      case rel => exact ⟨(x5_2), (wrap64 (x7_2 + 1)), M12, H', ⟨by have := HK1.o; have := HK2.o; omega⟩, ⟨o10⟩, ⟨by exact qK BK157.o⟩, ⟨o3⟩⟩
     subst c14
     have H1 : ((impl_hint.f k2 a1 a0_1 x13_1 x7_2).bind fun t169 => (if x5_2.length < 17592186044416 then (impl_HintsFor.l1 k2 a1 (x5_2 ++ [t169]) x13_1 (wrap64 (x7_2 + 1)) x13_1 a0_0 a0_1 l0_2 a0_3 a0_4 l0_5 a0_6 a0_7) else (none))) = some r := by rw [if_pos rfl] at H; exact H
     clear H
     have H := H1
     clear H1
     replace H := Option.bind_eq_some_iff.mp H
     obtain ⟨t169, A150, H⟩ := H
     try dsimp only at H
     have A15 := zK A150
     clear A150
     by_cases c16 : x5_2.length < 17592186044416
     rotate_left
     ·rw [if_neg c16] at H
      exact absurd H (by simp)
     rw [if_pos c16] at H
     have LMc16 := zK c16
     clear c16
     obtain ⟨y170, hy170⟩ : ∃ y_ : List Int, y_ = (x5_2 ++ [t169]) := ⟨_, rfl⟩
     replace H : (impl_HintsFor.l1 k2 a1 y170 x13_1 (wrap64 (x7_2 + 1)) x13_1 a0_0 a0_1 l0_2 a0_3 a0_4 l0_5 a0_6 a0_7) = some r := have he_ := hy170; rH
     have Ny170 := zK hy170
     clear hy170
     have H' := zK H
     clear H
     obtain ⟨hcz17_0, hcz17_1, hcz17_2, hcz17_3, hcz17_4, hcz17_5, hcz17_6, hcz17_7, hfz17_0, hfz17_1, hfz17_2, hfz17_3, hfz17_4, hfz17_5, hfz17_6, hfz17_7⟩ := bx8 BK157.o
     go_wp2_with (first | ((with_reducible refine gc (f := 93) rfl ?_); refine gL (some 27) Try.func93 #[.slice A0_2 l0_2.length c0_2, .int .i64 x13_1] ?_; (with_reducible refine (impl_allows.calls k2 _ _ l0_2 x13_1 true _ ?side1 ?side2 A13.o).mono ?_); (case side1 => exact Kd.qC (Kd.C_below HR0_2.o HB.o)); (case side2 => exact HC0_2.o); rintro e w' ⟨rfl, ⟨nd, rfl⟩⟩; refine ⟨_, rfl, ?_⟩) | ((with_reducible refine gc (f := 94) rfl ?_); refine gL (some 34) Try.func94 #[.int .i64 a1, .int .i64 a0_1, .int .i64 x13_1, .int .i64 x7_2] ?_; (with_reducible refine (impl_hint.calls k2 a1 a0_1 x13_1 x7_2 t169 _ A15.o).mono ?_); rintro e w18 ⟨rfl, hb⟩; refine ⟨_, rfl, ?_⟩; have _ := zK (Kd.R_below (Kd.qR HO_5.o) hb); have _ := zK (bB (qK BK157.o) hb); have _ := zK (bT M11 hb); clear HO_5 BK157 HB; rename_i HO_5 BK157 HB; clear hb) | ((with_reducible refine gate_builtin (b := .append) (xs := #[.tmp 28, .tmp 35]) rfl ?_); at_builtin; refine Kd.R_append (Kd.int .i64) (w0 := w) w.heap.size rfl (.tmp 28) (.tmp 35) 24 3 (.int .i64 0) 8 rfl Try.underlying24 info3 rfl (by decide) (by omega) u5 x5_2 t169 [.int .i64 t169] (fun _ => True) (fun _ => False) rfl rfl ?aP (fun _ hk => hk.elim) ?aF ?aO ?aB ?aS ?aL ?_; (case aP => exact rfl); (case aB => exact M11); (case aF => exact (fun _ _ => trivial)); (case aO => exact (Kd.qR HO_5.o)); (case aS => exact (bZ M11)); (case aL => have := LMc16.o; omega); intro v171 w19 ho hb hg hat; rw [← Ny170.o] at ho; have _ := zK (blk_grown (qK BK157.o) hg (Kd.R_ne HO_5.o BK157.o (by decide))); have _ := zK (hb); have _ := zK (ho); clear BK157 HB HO_5; rename_i BK157 HB HO172; clear ho hb hg hat))
     go_roundg k2
     case measure => have := HK1.o; have := HK2.o; omega
     case rel => exact ⟨(y170), (wrap64 (x7_2 + 1)), M12, H', ⟨by have := HK1.o; have := HK2.o; omega⟩, ⟨by exact Kd.qR HO172.o⟩, ⟨by exact qK BK157.o⟩, ⟨o3⟩⟩
/-! ### impl_SharedHints: function 81 -/
def impl_SharedHints.l0 : Nat → List Int → Int → List Int → Int → Int → Option (Int)
 | 0, _, _, _, _, _ => none
 | k + 1, x1, x5, x9, x10, x11 => if x11 < x10 then (if 0 ≤ x11 then (if x11 < (x9.length : Int) then ((slices_Contains_int_int.f k x1 (rd x9 x11)).bind fun t177 => (if t177 = true then (impl_SharedHints.l0 k x1 (wrap64 (x5 + 1)) x9 x10 (wrap64 (x11 + 1))) else (impl_SharedHints.l0 k x1 x5 x9 x10 (wrap64 (x11 + 1))))) else (none)) else (none)) else (some x5)
def impl_SharedHints.f (k : Nat) (l0 : List Int) (l1 : List Int) : Option (Int) := (impl_united.f l0 ([] : List Int)).bind fun t173 => (impl_SharedHints.l0 k l1 0 t173 (t173.length : Int) 0)
theorem impl_SharedHints.calls (k : Nat) (A0 : Option Addr) (c0 : Nat) (l0 : List Int) (A1 : Option Addr) (c1 : Nat) (l1 : List Int) (r : Int) (w : World) (hr0 : Kd.C (Kd.int .i64) w A0 l0.length l0) (hc0 : l0.length ≤ c0) (hr1 : Kd.C (Kd.int .i64) w A1 l1.length l1) (hc1 : l1.length ≤ c1) (h : impl_SharedHints.f k l0 l1 = some r) :
  Calls Try.prog 81 #[.slice A0 l0.length c0, .slice A1 l1.length c1] w fun e w' => e = .returned (.int .i64 r) ∧ Below w.heap.size w w' := by
 have HR0 := zK hr0
 have HC0 := zK hc0
 clear hr0 hc0
 have HR1 := zK hr1
 have HC1 := zK hc1
 clear hr1 hc1
 have HB := zK (Below.refl w.heap.size w)
 have H : ((impl_united.f l0 ([] : List Int)).bind fun t173 => (impl_SharedHints.l0 k l1 0 t173 (t173.length : Int) 0)) = some r := h
 clear h
 replace H := Option.bind_eq_some_iff.mp H
 obtain ⟨t173, A30, H⟩ := H
 try dsimp only at H
 have A3 := zK A30
 clear A30
 have H' := zK H
 clear H
 go_enter Try.func81, Try.ntmps81
 go_wp2_with (first | ((with_reducible refine gc (f := 86) rfl ?_); refine gL (some 9) Try.func86 #[.slice A0 l0.length c0, .slice none 0 0] ?_; (refine (impl_united.calls _ _ l0 _ _ ([] : List Int) t173 _ ?side1 ?side2 ?side3 ?side4 A3.o).mono ?_); (case side1 => exact Kd.qC HR0.o); (case side2 => exact HC0.o); (case side3 => exact Kd.C_nil _ _); (case side4 => exact Nat.le_refl _); rintro e w4 ⟨v174, rfl, ho0, hb⟩; refine ⟨_, rfl, ?_⟩; have _ := zK (Kd.R_lower ho0 (bZ (qB HB.o))); have _ := zK (bT (qB HB.o) hb); clear HB; rename_i HO175 HB; clear hb ho0; obtain ⟨Ao5, co5, eo5⟩ := Kd.R_slice HO175.o; subst eo5))
 go_loopg [5, 11] k (fun kq v5 v11 w' => ∃ (x5_1 : Int) (x11_1 : Int), v5 = .int .i64 x5_1 ∧ v11 = .int .i64 x11_1 ∧ Aside0 (impl_SharedHints.l0 kq l1 x5_1 t173 (t173.length : Int) x11_1 = some r) ∧ Aside0 (kq ≤ k) ∧ Aside0 (Kd.R (Kd.int .i64) 3 w' w.heap.size (fun _ => True) (.slice Ao5 t173.length co5) t173) ∧ Aside0 (Below w.heap.size w w'))
 case atStart => exact ⟨(0), (0), M12, M12, H', ⟨Nat.le_refl _⟩, ⟨by exact Kd.qR HO175.o⟩, ⟨o8⟩⟩
 case round =>
  clear H'
  try clear c1
  try clear p2
  obtain ⟨x5_1, x11_1, rfl, rfl, HA, HK1, HO_9, HB⟩ := hrel
  cases gk with
  | zero => exact absurd HA.o (by simp [impl_SharedHints.l0])
  | succ k1 =>
   have H := HA.o
   clear HA
   simp only [impl_SharedHints.l0] at H
   by_cases c6 : x11_1 < (t173.length : Int)
   rotate_left
   ·rw [if_neg c6] at H
    have c6b0 : decide (x11_1 < (t173.length : Int)) = false := decide_eq_false c6
    clear c6
    obtain rfl := Option.some.inj H
    go_wp2
    go_ret
    exact ⟨o0, o8⟩

   rw [if_pos c6] at H
   have c6b0 : decide (x11_1 < (t173.length : Int)) = true := decide_eq_true c6
   clear c6
   by_cases c7 : 0 ≤ x11_1
   rotate_left
   ·rw [if_neg c7] at H
    exact absurd H (by simp)
   rw [if_pos c7] at H
   have c7b0 : decide (0 ≤ x11_1) = true := decide_eq_true c7
   clear c7
   by_cases c8 : x11_1 < (t173.length : Int)
   rotate_left
   ·rw [if_neg c8] at H
    exact absurd H (by simp)
   rw [if_pos c8] at H
   have c8b0 : decide (x11_1 < (t173.length : Int)) = true := decide_eq_true c8
   clear c8
   replace H := Option.bind_eq_some_iff.mp H
   obtain ⟨t177, A90, H⟩ := H
   try dsimp only at H
   have A9 := zK A90
   clear A90
   by_cases c10 : t177 = true
   ·subst c10
    have H1 : (impl_SharedHints.l0 k1 l1 (wrap64 (x5_1 + 1)) t173 (t173.length : Int) (wrap64 (x11_1 + 1))) = some r := by rw [if_pos rfl] at H; exact H
    clear H
    have H := H1
    clear H1
    have H' := zK H
    clear H
    have p176 : 0 ≤ (x11_1 : Int) := oD M4
    have q176 : x11_1 < (t173.length : Int) := oD M4
    obtain ⟨ad176, e176, hx176_0⟩ := Kd.at_int (Kd.R_reads' HO_9.o).2.2 x11_1 p176 q176
    cases e176
    replace p176 := eq_true p176
    replace q176 := eq_true q176
    go_wp2_with (first | ((with_reducible refine gc (f := 103) rfl ?_); refine gL (some 17) Try.func103 #[.slice A1 l1.length c1, .int .i64 (rd t173 x11_1)] ?_; (with_reducible refine (slices_Contains_int_int.calls k1 _ _ l1 (rd t173 x11_1) true _ ?side1 ?side2 A9.o).mono ?_); (case side1 => exact Kd.qC (Kd.C_below HR1.o HB.o)); (case side2 => exact HC1.o); rintro e w' ⟨rfl, ⟨nd, rfl⟩⟩; refine ⟨_, rfl, ?_⟩))
    go_roundg k1
    case measure => have := HK1.o; omega
    case rel => exact ⟨(wrap64 (x5_1 + 1)), (wrap64 (x11_1 + 1)), M12, M12, H', ⟨o6⟩, ⟨by exact Kd.qR HO_9.o⟩, ⟨o8⟩⟩
   replace c10 := Bool.eq_false_iff.mpr c10
   subst c10
   have H1 : (impl_SharedHints.l0 k1 l1 x5_1 t173 (t173.length : Int) (wrap64 (x11_1 + 1))) = some r := by rw [if_neg (show ¬ (false = true) by decide)] at H; exact H
   clear H
   have H := H1
   clear H1
   have H' := zK H
   clear H
   have p176 : 0 ≤ (x11_1 : Int) := oD M4
   have q176 : x11_1 < (t173.length : Int) := oD M4
   obtain ⟨ad176, e176, hx176_0⟩ := Kd.at_int (Kd.R_reads' HO_9.o).2.2 x11_1 p176 q176
   cases e176
   replace p176 := eq_true p176
   replace q176 := eq_true q176
   go_wp2_with (first | ((with_reducible refine gc (f := 103) rfl ?_); refine gL (some 17) Try.func103 #[.slice A1 l1.length c1, .int .i64 (rd t173 x11_1)] ?_; (with_reducible refine (slices_Contains_int_int.calls k1 _ _ l1 (rd t173 x11_1) false _ ?side1 ?side2 A9.o).mono ?_); (case side1 => exact Kd.qC (Kd.C_below HR1.o HB.o)); (case side2 => exact HC1.o); rintro e w' ⟨rfl, ⟨nd, rfl⟩⟩; refine ⟨_, rfl, ?_⟩))
   go_roundg k1
   case measure => have := HK1.o; omega
   case rel => exact ⟨(x5_1), (wrap64 (x11_1 + 1)), M12, M12, H', ⟨o6⟩, ⟨by exact Kd.qR HO_9.o⟩, ⟨o8⟩⟩
end Go.Proofs.Ytejhjenlodclpaa.PFnHints
