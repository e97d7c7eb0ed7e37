/- Walks of functions that FnHints reaches, shortened. -/
import Derived.Test.YtejhjenlodclpaaPFnHintsx0
namespace Go.Proofs.Ytejhjenlodclpaa.PFnHints
open Go.RowKit Go.Proofs.YtejhjenlodclpaaW.PrintWords Go.Proofs.YtejhjenlodclpaaW.PrintLast Go.Proofs.YtejhjenlodclpaaW.PrintMore
attribute [local go_sem] max2_int min2_int max_two min_two max_three min_three max_four min_four
set_option maxHeartbeats 8000000
set_option maxRecDepth 100000
set_option linter.unusedVariables false
set_option linter.unusedSimpArgs false

/-! ### impl_InRange: function 106 -/
def impl_InRange.f (a0 : Int) (a1 : Int) (a2 : Int) : Option (Bool) := if a1 ≤ a0 then (some (decide (a0 ≤ a2))) else (some false)
theorem impl_InRange.calls (a0 : Int) (a1 : Int) (a2 : Int) (r : Bool) (w : World) (h : impl_InRange.f a0 a1 a2 = some r) :
  Calls Try.prog 106 #[.int .i64 a0, .int .i64 a1, .int .i64 a2] w fun e w' => e = .returned (.bool r) ∧ Drawn0 w w' := by
 have H : (if a1 ≤ a0 then (some (decide (a0 ≤ a2))) else (some false)) = some r := h
 clear h
 by_cases c4 : a1 ≤ a0
 ·rw [if_pos c4] at H
  have c4b0 : decide (a1 ≤ a0) = true := decide_eq_true c4
  clear c4
  obtain rfl := Option.some.inj H
  go_enter Try.func106, Try.ntmps106
  go_wp2
  go_ret
  exact ⟨o2, Q4⟩
 rw [if_neg c4] at H
 have c4b0 : decide (a1 ≤ a0) = false := decide_eq_false c4
 clear c4
 obtain rfl := Option.some.inj H
 go_enter Try.func106, Try.ntmps106
 go_wp2
 go_ret
 exact ⟨o2, Q4⟩
/-! ### impl_IsThing: function 160 -/
def impl_IsThing.f (a0_0 : Int) (a0_1 : Int) (a0_2 : Int) (a0_3 : Int) (a0_4 : Int) : Option (Bool) := (impl_InRange.f a0_0 1 999).bind fun t102 => (if t102 = true then ((impl_InRange.f a0_1 1 8).bind fun t103 => (if t103 = true then ((impl_InRange.f a0_2 0 7).bind fun t104 => (if t104 = true then ((impl_InRange.f a0_3 1 50).bind fun t105 => (if t105 = true then ((impl_InRange.f a0_4 0 10000000).bind fun t106 => (some t106)) else (some false))) else (some false))) else (some false))) else (some false))
theorem lf1_0 {p : Prop} (h : p := by
  go_enter Try.func160, Try.ntmps160
  go_wp2_with (first | ((with_reducible refine gd (N := 1) rfl ?_); refine bE (N := 1) (cs := #[.int .i64 a0_0, .int .i64 a0_1, .int .i64 a0_2, .int .i64 a0_3, .int .i64 a0_4]) (t := 111) ?_; intro gb101 hg wz0 hbox hb; have _ := zK (bT (qB HB.o) hb); have _ := zK (hbox); have _ := zK ((by rw [hg]; exact (bZ (qB HB.o)) : w.heap.size ≤ gb101)); have _ := zK ((by rw [hg]; exact (bZ (qB HB.o)) : w.heap.size ≤ gb101)); clear HB; rename_i HB BK101 GW101 GE101; clear hb hbox hg; obtain ⟨hczz0_0, hczz0_1, hczz0_2, hczz0_3, hczz0_4, hfzz0_0, hfzz0_1, hfzz0_2, hfzz0_3, hfzz0_4⟩ := bx5 BK101.o) | ((with_reducible refine gc (f := 106) rfl ?_); refine gL (some 5) Try.func106 #[.int .i64 a0_0, .int .i64 1, .int .i64 999] ?_; (with_reducible refine (impl_InRange.calls a0_0 1 999 true _ A2.o).mono ?_); rintro e w' ⟨rfl, ⟨nd, rfl⟩⟩; refine ⟨_, rfl, ?_⟩) | (go_at_call 106; (with_reducible refine (impl_InRange.calls a0_1 1 8 true _ A4.o).mono ?_); rintro e w' ⟨rfl, ⟨nd, rfl⟩⟩) | (go_at_call 106; (with_reducible refine (impl_InRange.calls a0_2 0 7 true _ A6.o).mono ?_); rintro e w' ⟨rfl, ⟨nd, rfl⟩⟩) | (go_at_call 106; (with_reducible refine (impl_InRange.calls a0_3 1 50 true _ A8.o).mono ?_); rintro e w' ⟨rfl, ⟨nd, rfl⟩⟩) | (go_at_call 106; (with_reducible refine (impl_InRange.calls a0_4 0 10000000 t106 _ A10.o).mono ?_); rintro e w' ⟨rfl, ⟨nd, rfl⟩⟩) | (go_at_call 106; (with_reducible refine (impl_InRange.calls a0_3 1 50 false _ A8.o).mono ?_); rintro e w' ⟨rfl, ⟨nd, rfl⟩⟩) | (go_at_call 106; (with_reducible refine (impl_InRange.calls a0_2 0 7 false _ A6.o).mono ?_); rintro e w' ⟨rfl, ⟨nd, rfl⟩⟩) | (go_at_call 106; (with_reducible refine (impl_InRange.calls a0_1 1 8 false _ A4.o).mono ?_); rintro e w' ⟨rfl, ⟨nd, rfl⟩⟩))
  go_ret
  exact ⟨o0, o3⟩) : p := h
theorem impl_IsThing.calls (a0_0 : Int) (a0_1 : Int) (a0_2 : Int) (a0_3 : Int) (a0_4 : Int) (r : Bool) (w : World) (h : impl_IsThing.f a0_0 a0_1 a0_2 a0_3 a0_4 = some r) :
  Calls Try.prog 160 #[.agg #[.int .i64 a0_0, .int .i64 a0_1, .int .i64 a0_2, .int .i64 a0_3, .int .i64 a0_4]] w fun e w' => e = .returned (.bool r) ∧ Below w.heap.size w w' := by
 have hu111 := Try.underlying111
 have HB := zK (Below.refl w.heap.size w)
 have H : ((impl_InRange.f a0_0 1 999).bind fun t102 => (if t102 = true then ((impl_InRange.f a0_1 1 8).bind fun t103 => (if t103 = true then ((impl_InRange.f a0_2 0 7).bind fun t104 => (if t104 = true then ((impl_InRange.f a0_3 1 50).bind fun t105 => (if t105 = true then ((impl_InRange.f a0_4 0 10000000).bind fun t106 => (some t106)) else (some false))) else (some false))) else (some false))) else (some false))) = some r := h
 clear h
 replace H := Option.bind_eq_some_iff.mp H
 obtain ⟨t102, A20, H⟩ := H
 try dsimp only at H
 have A2 := zK A20
 clear A20
 by_cases c3 : t102 = true
 rotate_left
 ·replace c3 := Bool.eq_false_iff.mpr c3
  subst c3
  have H1 : (some false) = some r := by rw [if_neg (show ¬ (false = true) by decide)] at H; exact H
  clear H
  have H := H1
  clear H1
  obtain rfl := Option.some.inj H
  go_enter Try.func160, Try.ntmps160
  go_wp2_with (first | ((with_reducible refine gd (N := 1) rfl ?_); refine bE (N := 1) (cs := #[.int .i64 a0_0, .int .i64 a0_1, .int .i64 a0_2, .int .i64 a0_3, .int .i64 a0_4]) (t := 111) ?_; intro gb101 hg w19 hbox hb; have _ := zK (bT (qB HB.o) hb); have _ := zK (hbox); have _ := zK ((by rw [hg]; exact (bZ (qB HB.o)) : w.heap.size ≤ gb101)); have _ := zK ((by rw [hg]; exact (bZ (qB HB.o)) : w.heap.size ≤ gb101)); clear HB; rename_i HB BK101 GW101 GE101; clear hb hbox hg; obtain ⟨hcz20_0, hcz20_1, hcz20_2, hcz20_3, hcz20_4, hfz20_0, hfz20_1, hfz20_2, hfz20_3, hfz20_4⟩ := bx5 BK101.o) | ((with_reducible refine gc (f := 106) rfl ?_); refine gL (some 5) Try.func106 #[.int .i64 a0_0, .int .i64 1, .int .i64 999] ?_; (with_reducible refine (impl_InRange.calls a0_0 1 999 false _ A2.o).mono ?_); rintro e w' ⟨rfl, ⟨nd, rfl⟩⟩; refine ⟨_, rfl, ?_⟩))
  go_ret
  exact ⟨o0, o3⟩
 subst c3
 have H1 : ((impl_InRange.f a0_1 1 8).bind fun t103 => (if t103 = true then ((impl_InRange.f a0_2 0 7).bind fun t104 => (if t104 = true then ((impl_InRange.f a0_3 1 50).bind fun t105 => (if t105 = true then ((impl_InRange.f a0_4 0 10000000).bind fun t106 => (some t106)) else (some false))) else (some false))) else (some false))) = some r := by rw [if_pos rfl] at H; exact H
 clear H
 have H := H1
 clear H1
 replace H := Option.bind_eq_some_iff.mp H
 obtain ⟨t103, A40, H⟩ := H
 try dsimp only at H
 have A4 := zK A40
 clear A40
 by_cases c5 : t103 = true
 rotate_left
 ·replace c5 := Bool.eq_false_iff.mpr c5
  subst c5
  have H1 : (some false) = some r := by rw [if_neg (show ¬ (false = true) by decide)] at H; exact H
  clear H
  have H := H1
  clear H1
  obtain rfl := Option.some.inj H
  exact lf1_0
 subst c5
 have H1 : ((impl_InRange.f a0_2 0 7).bind fun t104 => (if t104 = true then ((impl_InRange.f a0_3 1 50).bind fun t105 => (if t105 = true then ((impl_InRange.f a0_4 0 10000000).bind fun t106 => (some t106)) else (some false))) else (some false))) = some r := by rw [if_pos rfl] at H; exact H
 clear H
 have H := H1
 clear H1
 replace H := Option.bind_eq_some_iff.mp H
 obtain ⟨t104, A60, H⟩ := H
 try dsimp only at H
 have A6 := zK A60
 clear A60
 by_cases c7 : t104 = true
 rotate_left
 ·replace c7 := Bool.eq_false_iff.mpr c7
  subst c7
  have H1 : (some false) = some r := by rw [if_neg (show ¬ (false = true) by decide)] at H; exact H
  clear H
  have H := H1
  clear H1
  obtain rfl := Option.some.inj H
  exact lf1_0
 subst c7
 have H1 : ((impl_InRange.f a0_3 1 50).bind fun t105 => (if t105 = true then ((impl_InRange.f a0_4 0 10000000).bind fun t106 => (some t106)) else (some false))) = some r := by rw [if_pos rfl] at H; exact H
 clear H
 have H := H1
 clear H1
 replace H := Option.bind_eq_some_iff.mp H
 obtain ⟨t105, A80, H⟩ := H
 try dsimp only at H
 have A8 := zK A80
 clear A80
 by_cases c9 : t105 = true
 rotate_left
 ·replace c9 := Bool.eq_false_iff.mpr c9
  subst c9
  have H1 : (some false) = some r := by rw [if_neg (show ¬ (false = true) by decide)] at H; exact H
  clear H
  have H := H1
  clear H1
  obtain rfl := Option.some.inj H
  exact lf1_0
 subst c9
 have H1 : ((impl_InRange.f a0_4 0 10000000).bind fun t106 => (some t106)) = some r := by rw [if_pos rfl] at H; exact H
 clear H
 have H := H1
 clear H1
 replace H := Option.bind_eq_some_iff.mp H
 obtain ⟨t106, A100, H⟩ := H
 replace H : (some t106) = some r := H
 have A10 := zK A100
 clear A100
 obtain rfl := Option.some.inj H
 exact lf1_0
/-! ### impl_IsFind: function 130 -/
def impl_IsFind.f (a0_0 : Int) (a0_1 : Int) (a0_2 : Int) (a0_3 : Int) (a0_4 : Int) (a0_5 : Int) (a0_6 : Int) (a0_7 : Int) : Option (Bool) := (impl_IsThing.f a0_0 a0_1 a0_2 a0_3 a0_4).bind fun t108 => (if t108 = true then ((impl_InRange.f a0_5 1 30).bind fun t109 => (if t109 = true then ((impl_InRange.f a0_6 0 100000).bind fun t110 => (if t110 = true then ((impl_InRange.f a0_7 0 999).bind fun t111 => (some t111)) else (some false))) else (some false))) else (some false))
theorem lf1_1 {p : Prop} (h : p := by
  go_enter Try.func130, Try.ntmps130
  go_wp2_with (first | ((with_reducible refine gd (N := 1) rfl ?_); refine bE (N := 1) (cs := #[.int .i64 a0_0, .int .i64 a0_1, .int .i64 a0_2, .int .i64 a0_3, .int .i64 a0_4, .int .i64 a0_5, .int .i64 a0_6, .int .i64 a0_7]) (t := 113) ?_; intro gb107 hg wz0 hbox hb; have _ := zK (bT (qB HB.o) hb); have _ := zK (hbox); have _ := zK ((by rw [hg]; exact (bZ (qB HB.o)) : w.heap.size ≤ gb107)); have _ := zK ((by rw [hg]; exact (bZ (qB HB.o)) : w.heap.size ≤ gb107)); clear HB; rename_i HB BK107 GW107 GE107; clear hb hbox hg; obtain ⟨hczz0_0, hczz0_1, hczz0_2, hczz0_3, hczz0_4, hczz0_5, hczz0_6, hczz0_7, hfzz0_0, hfzz0_1, hfzz0_2, hfzz0_3, hfzz0_4, hfzz0_5, hfzz0_6, hfzz0_7⟩ := bx8 BK107.o) | ((with_reducible refine gc (f := 160) rfl ?_); refine goesL_ (some 5) rfl rfl Try.func160 (by kernel_rfl) rfl #[.agg #[.int .i64 a0_0, .int .i64 a0_1, .int .i64 a0_2, .int .i64 a0_3, .int .i64 a0_4]] rfl M0 ?_; (with_reducible refine (impl_IsThing.calls a0_0 a0_1 a0_2 a0_3 a0_4 true _ A2.o).mono ?_); rintro e wz1 ⟨rfl, hb⟩; refine ⟨_, rfl, ?_⟩; have _ := zK (bB (qK BK107.o) hb); have _ := zK (bT (qX HB.o) hb); clear BK107 HB; rename_i BK107 HB; clear hb; obtain ⟨hczz1_0, hczz1_1, hczz1_2, hczz1_3, hczz1_4, hczz1_5, hczz1_6, hczz1_7, hfzz1_0, hfzz1_1, hfzz1_2, hfzz1_3, hfzz1_4, hfzz1_5, hfzz1_6, hfzz1_7⟩ := bx8 BK107.o) | (go_at_call 106; (with_reducible refine (impl_InRange.calls a0_5 1 30 true _ A4.o).mono ?_); rintro e w' ⟨rfl, ⟨nd, rfl⟩⟩) | (go_at_call 106; (with_reducible refine (impl_InRange.calls a0_6 0 100000 true _ A6.o).mono ?_); rintro e w' ⟨rfl, ⟨nd, rfl⟩⟩) | (go_at_call 106; (with_reducible refine (impl_InRange.calls a0_7 0 999 t111 _ A8.o).mono ?_); rintro e w' ⟨rfl, ⟨nd, rfl⟩⟩) | (go_at_call 106; (with_reducible refine (impl_InRange.calls a0_6 0 100000 false _ A6.o).mono ?_); rintro e w' ⟨rfl, ⟨nd, rfl⟩⟩) | (go_at_call 106; (with_reducible refine (impl_InRange.calls a0_5 1 30 false _ A4.o).mono ?_); rintro e w' ⟨rfl, ⟨nd, rfl⟩⟩))
  go_ret
  exact ⟨o0, o3⟩) : p := h
theorem impl_IsFind.calls (a0_0 : Int) (a0_1 : Int) (a0_2 : Int) (a0_3 : Int) (a0_4 : Int) (a0_5 : Int) (a0_6 : Int) (a0_7 : Int) (r : Bool) (w : World) (h : impl_IsFind.f a0_0 a0_1 a0_2 a0_3 a0_4 a0_5 a0_6 a0_7 = some r) :
  Calls Try.prog 130 #[.agg #[.int .i64 a0_0, .int .i64 a0_1, .int .i64 a0_2, .int .i64 a0_3, .int .i64 a0_4, .int .i64 a0_5, .int .i64 a0_6, .int .i64 a0_7]] w fun e w' => e = .returned (.bool r) ∧ Below w.heap.size w w' := by
 have hu113 := Try.underlying113
 have hu111 := Try.underlying111
 have HB := zK (Below.refl w.heap.size w)
 have H : ((impl_IsThing.f a0_0 a0_1 a0_2 a0_3 a0_4).bind fun t108 => (if t108 = true then ((impl_InRange.f a0_5 1 30).bind fun t109 => (if t109 = true then ((impl_InRange.f a0_6 0 100000).bind fun t110 => (if t110 = true then ((impl_InRange.f a0_7 0 999).bind fun t111 => (some t111)) else (some false))) else (some false))) else (some false))) = some r := h
 clear h
 replace H := Option.bind_eq_some_iff.mp H
 obtain ⟨t108, A20, H⟩ := H
 try dsimp only at H
 have A2 := zK A20
 clear A20
 by_cases c3 : t108 = true
 rotate_left
 ·replace c3 := Bool.eq_false_iff.mpr c3
  subst c3
  have H1 : (some false) = some r := by rw [if_neg (show ¬ (false = true) by decide)] at H; exact H
  clear H
  have H := H1
  clear H1
  obtain rfl := Option.some.inj H
  go_enter Try.func130, Try.ntmps130
  go_wp2_with (first | ((with_reducible refine gd (N := 1) rfl ?_); refine bE (N := 1) (cs := #[.int .i64 a0_0, .int .i64 a0_1, .int .i64 a0_2, .int .i64 a0_3, .int .i64 a0_4, .int .i64 a0_5, .int .i64 a0_6, .int .i64 a0_7]) (t := 113) ?_; intro gb107 hg w21 hbox hb; have _ := zK (bT (qB HB.o) hb); have _ := zK (hbox); have _ := zK ((by rw [hg]; exact (bZ (qB HB.o)) : w.heap.size ≤ gb107)); have _ := zK ((by rw [hg]; exact (bZ (qB HB.o)) : w.heap.size ≤ gb107)); clear HB; rename_i HB BK107 GW107 GE107; clear hb hbox hg; obtain ⟨hcz22_0, hcz22_1, hcz22_2, hcz22_3, hcz22_4, hcz22_5, hcz22_6, hcz22_7, hfz22_0, hfz22_1, hfz22_2, hfz22_3, hfz22_4, hfz22_5, hfz22_6, hfz22_7⟩ := bx8 BK107.o) | ((with_reducible refine gc (f := 160) rfl ?_); refine goesL_ (some 5) rfl rfl Try.func160 (by kernel_rfl) rfl #[.agg #[.int .i64 a0_0, .int .i64 a0_1, .int .i64 a0_2, .int .i64 a0_3, .int .i64 a0_4]] rfl M0 ?_; (with_reducible refine (impl_IsThing.calls a0_0 a0_1 a0_2 a0_3 a0_4 false _ A2.o).mono ?_); rintro e w23 ⟨rfl, hb⟩; refine ⟨_, rfl, ?_⟩; have _ := zK (bB (qK BK107.o) hb); have _ := zK (bT (qX HB.o) hb); clear BK107 HB; rename_i BK107 HB; clear hb))
  go_ret
  exact ⟨o0, o3⟩

 subst c3
 have H1 : ((impl_InRange.f a0_5 1 30).bind fun t109 => (if t109 = true then ((impl_InRange.f a0_6 0 100000).bind fun t110 => (if t110 = true then ((impl_InRange.f a0_7 0 999).bind fun t111 => (some t111)) else (some false))) else (some false))) = some r := by rw [if_pos rfl] at H; exact H
 clear H
 have H := H1
 clear H1
 replace H := Option.bind_eq_some_iff.mp H
 obtain ⟨t109, A40, H⟩ := H
 try dsimp only at H
 have A4 := zK A40
 clear A40
 by_cases c5 : t109 = true
 rotate_left
 ·replace c5 := Bool.eq_false_iff.mpr c5
  subst c5
  have H1 : (some false) = some r := by rw [if_neg (show ¬ (false = true) by decide)] at H; exact H
  clear H
  have H := H1
  clear H1
  obtain rfl := Option.some.inj H
  exact lf1_1
 subst c5
 have H1 : ((impl_InRange.f a0_6 0 100000).bind fun t110 => (if t110 = true then ((impl_InRange.f a0_7 0 999).bind fun t111 => (some t111)) else (some false))) = some r := by rw [if_pos rfl] at H; exact H
 clear H
 have H := H1
 clear H1
 replace H := Option.bind_eq_some_iff.mp H
 obtain ⟨t110, A60, H⟩ := H
 try dsimp only at H
 have A6 := zK A60
 clear A60
 by_cases c7 : t110 = true
 rotate_left
 ·replace c7 := Bool.eq_false_iff.mpr c7
  subst c7
  have H1 : (some false) = some r := by rw [if_neg (show ¬ (false = true) by decide)] at H; exact H
  clear H
  have H := H1
  clear H1
  obtain rfl := Option.some.inj H
  exact lf1_1
 subst c7
 have H1 : ((impl_InRange.f a0_7 0 999).bind fun t111 => (some t111)) = some r := by rw [if_pos rfl] at H; exact H
 clear H
 have H := H1
 clear H1
 replace H := Option.bind_eq_some_iff.mp H
 obtain ⟨t111, A80, H⟩ := H
 replace H : (some t111) = some r := H
 have A8 := zK A80
 clear A80
 obtain rfl := Option.some.inj H
 exact lf1_1
end Go.Proofs.Ytejhjenlodclpaa.PFnHints
