/- Walks of functions that FnExactLettersFor reaches: written by a tool of the kit for this claim, then shortened by a program of ours. -/
import Derived.Test.YtpkdbkheggfkkaaPFnExactLettersForx0
import Derived.Test.YtpkdbkheggfkkaaPFnExactLettersForx10
import Derived.Test.YtpkdbkheggfkkaaPFnExactLettersForx17
/- narrow -/
namespace Go.Proofs.Ytpkdbkheggfkkaa.PFnExactLettersFor
open Go.RowKit Go.Proofs.YtpkdbkheggfkkaaW.PrintWords Go.Proofs.YtpkdbkheggfkkaaW.PrintLast Go.Proofs.YtpkdbkheggfkkaaW.PrintMore
attribute [local go_sem] max2_int min2_int max_two min_two max_three min_three max_four min_four   -- for this text's walks alone
set_option linter.unusedVariables false
set_option linter.unusedSimpArgs false

abbrev b18A0 : Array Bool := #[bo, bo, bo, bo, bo, bo, bo, bo, bo, bo, bo, bo, bo, bo, bo, bo, bo, bo, bo, bo, bo, bo, bo, bo, bo, bo, bo, bo, bo, bo]
abbrev b18A1 : Array Bool := #[bi, bo, bo, bo, bo, bo, bo, bo, bo, bo, bo, bo, bo, bo, bo, bo, bo, bo, bo, bo, bo, bo, bo, bo, bo, bo, bo, bo, bo, bo]
abbrev b18A2 : Array Bool := #[bi, bo, bo, bo, bo, bo, bi, bo, bo, bo, bo, bo, bo, bo, bo, bo, bo, bo, bo, bo, bo, bo, bo, bo, bo, bo, bo, bo, bo, bo]
abbrev b18A3 : Array Bool := #[bi, bo, bo, bo, bo, bo, bi, bo, bi, bo, bo, bo, bo, bo, bo, bo, bo, bo, bo, bo, bo, bo, bo, bo, bo, bo, bo, bo, bo, bo]
abbrev b18A4 : Array Bool := #[bi, bo, bo, bo, bo, bo, bi, bo, bi, bo, bo, bo, bo, bo, bi, bo, bo, bo, bo, bo, bo, bo, bo, bo, bo, bo, bo, bo, bo, bo]
abbrev b18A5 : Array Bool := #[bi, bo, bo, bo, bo, bo, bi, bo, bi, bo, bo, bo, bo, bo, bi, bo, bo, bo, bo, bo, bi, bo, bo, bo, bo, bo, bo, bo, bo, bo]
abbrev b18A6 : Array Bool := #[bi, bo, bo, bo, bo, bo, bi, bo, bi, bo, bo, bo, bo, bo, bi, bo, bo, bo, bo, bo, bi, bo, bi, bo, bo, bo, bo, bo, bo, bo]
abbrev b18A7 : Array Bool := #[bi, bo, bo, bo, bo, bo, bi, bo, bi, bo, bo, bo, bo, bo, bi, bo, bo, bo, bo, bo, bi, bo, bi, bi, bo, bo, bo, bo, bo, bo]
abbrev b18A8 : Array Bool := #[bi, bi, bo, bo, bo, bo, bi, bo, bi, bo, bo, bo, bo, bo, bi, bo, bo, bo, bo, bo, bi, bo, bi, bi, bo, bo, bo, bo, bo, bo]
abbrev b18A9 : Array Bool := #[bi, bi, bi, bo, bo, bo, bi, bo, bi, bo, bo, bo, bo, bo, bi, bo, bo, bo, bo, bo, bi, bo, bi, bi, bo, bo, bo, bo, bo, bo]
abbrev b18A10 : Array Bool := #[bi, bi, bi, bo, bo, bo, bi, bi, bi, bo, bo, bo, bo, bo, bi, bo, bo, bo, bo, bo, bi, bo, bi, bi, bo, bo, bo, bo, bo, bo]
abbrev b18A11 : Array Bool := #[bi, bi, bi, bo, bo, bo, bi, bi, bi, bi, bo, bo, bo, bo, bi, bo, bo, bo, bo, bo, bi, bo, bi, bi, bo, bo, bo, bo, bo, bo]
abbrev b18A12 : Array Bool := #[bi, bi, bi, bo, bo, bo, bi, bi, bi, bi, bi, bo, bo, bo, bi, bo, bo, bo, bo, bo, bi, bo, bi, bi, bo, bo, bo, bo, bo, bo]
abbrev b18A13 : Array Bool := #[bi, bi, bi, bo, bo, bo, bi, bi, bi, bi, bi, bi, bo, bo, bi, bo, bo, bo, bo, bo, bi, bo, bi, bi, bo, bo, bo, bo, bo, bo]
abbrev b18A14 : Array Bool := #[bi, bi, bi, bo, bo, bo, bi, bi, bi, bi, bi, bi, bo, bo, bi, bi, bo, bo, bo, bo, bi, bo, bi, bi, bo, bo, bo, bo, bo, bo]
abbrev b18A15 : Array Bool := #[bi, bi, bi, bo, bo, bo, bi, bi, bi, bi, bi, bi, bo, bo, bi, bi, bi, bo, bo, bo, bi, bo, bi, bi, bo, bo, bo, bo, bo, bo]
abbrev b18A16 : Array Bool := #[bi, bi, bi, bo, bo, bo, bi, bi, bi, bi, bi, bi, bo, bo, bi, bi, bi, bo, bo, bo, bi, bi, bi, bi, bo, bo, bo, bo, bo, bo]
abbrev b18A17 : Array Bool := #[bi, bi, bi, bo, bo, bo, bi, bi, bi, bi, bi, bi, bo, bo, bi, bi, bi, bo, bo, bo, bi, bi, bi, bi, bi, bo, bo, bo, bo, bo]
abbrev b18A18 : Array Bool := #[bi, bi, bi, bo, bo, bo, bi, bi, bi, bi, bi, bi, bo, bo, bi, bi, bi, bo, bo, bo, bi, bi, bi, bi, bi, bi, bo, bo, bo, bo]
abbrev b18A19 : Array Bool := #[bi, bi, bi, bo, bo, bo, bi, bi, bi, bi, bi, bi, bo, bo, bi, bi, bi, bo, bo, bo, bi, bi, bi, bi, bi, bi, bi, bo, bo, bo]
abbrev b18A20 : Array Bool := #[bi, bi, bi, bi, bo, bo, bi, bi, bi, bi, bi, bi, bo, bo, bi, bi, bi, bo, bo, bo, bi, bi, bi, bi, bi, bi, bi, bo, bo, bo]
abbrev b18A21 : Array Bool := #[bi, bi, bi, bi, bi, bo, bi, bi, bi, bi, bi, bi, bo, bo, bi, bi, bi, bo, bo, bo, bi, bi, bi, bi, bi, bi, bi, bo, bo, bo]
abbrev b18A22 : Array Bool := #[bi, bi, bi, bi, bi, bi, bi, bi, bi, bi, bi, bi, bo, bo, bi, bi, bi, bo, bo, bo, bi, bi, bi, bi, bi, bi, bi, bo, bo, bo]
abbrev b18A23 : Array Bool := #[bi, bi, bi, bi, bi, bi, bi, bi, bi, bi, bi, bi, bi, bo, bi, bi, bi, bo, bo, bo, bi, bi, bi, bi, bi, bi, bi, bo, bo, bo]
abbrev b18A24 : Array Bool := #[bi, bi, bi, bi, bi, bi, bi, bi, bi, bi, bi, bi, bi, bi, bi, bi, bi, bo, bo, bo, bi, bi, bi, bi, bi, bi, bi, bo, bo, bo]
abbrev b18A25 : Array Bool := #[bi, bi, bi, bi, bi, bi, bi, bi, bi, bi, bi, bi, bi, bi, bi, bi, bi, bi, bo, bo, bi, bi, bi, bi, bi, bi, bi, bo, bo, bo]
abbrev b18A26 : Array Bool := #[bi, bi, bi, bi, bi, bi, bi, bi, bi, bi, bi, bi, bi, bi, bi, bi, bi, bi, bi, bo, bi, bi, bi, bi, bi, bi, bi, bo, bo, bo]
abbrev b18A27 : Array Bool := #[bi, bi, bi, bi, bi, bi, bi, bi, bi, bi, bi, bi, bi, bi, bi, bi, bi, bi, bi, bi, bi, bi, bi, bi, bi, bi, bi, bo, bo, bo]
abbrev b18A28 : Array Bool := #[bi, bi, bi, bi, bi, bi, bi, bi, bi, bi, bi, bi, bi, bi, bi, bi, bi, bi, bi, bi, bi, bi, bi, bi, bi, bi, bi, bi, bo, bo]
abbrev b18A29 : Array Bool := #[bi, bi, bi, bi, bi, bi, bi, bi, bi, bi, bi, bi, bi, bi, bi, bi, bi, bi, bi, bi, bi, bi, bi, bi, bi, bi, bi, bi, bi, bo]
abbrev b18A30 : Array Bool := #[bi, bi, bi, bi, bi, bi, bi, bi, bi, bi, bi, bi, bi, bi, bi, bi, bi, bi, bi, bi, bi, bi, bi, bi, bi, bi, bi, bi, bi, bi]
/-! ### spec_CanBe: function 213 -/
def spec_CanBe.f (k : Nat) (a0_0 : Int) (a0_1 : Int) (l0_2 : List Int) (a0_3 : Int) (a0_4 : Int) (l0_5 : List Int) (a0_6 : Int) (a0_7 : Int) (a1_0 : Int) (a1_1 : Int) (a1_2 : Int) (a1_3 : Int) (a1_4 : Int) (a1_5 : Int) (a1_6 : Int) (a1_7 : Int) : Option (Bool) := (spec_WhyNot.f k a0_0 a0_1 l0_2 a0_3 a0_4 l0_5 a0_6 a0_7 a1_0 a1_1 a1_2 a1_3 a1_4 a1_5 a1_6 a1_7).bind fun t295 => (some (t295.toList == ([] : List UInt8)))
set_option maxHeartbeats 8000000 in
set_option maxRecDepth 100000 in
theorem spec_CanBe.calls (k : Nat) (a0_0 : Int) (a0_1 : Int) (A0_2 : Option Addr) (c0_2 : Nat) (l0_2 : List Int) (a0_3 : Int) (a0_4 : Int) (A0_5 : Option Addr) (c0_5 : Nat) (l0_5 : List Int) (a0_6 : Int) (a0_7 : Int) (a1_0 : Int) (a1_1 : Int) (a1_2 : Int) (a1_3 : Int) (a1_4 : Int) (a1_5 : Int) (a1_6 : Int) (a1_7 : Int) (r : Bool) (w : World) (hr0_2 : Kd.C (Kd.int .i64) w A0_2 l0_2.length l0_2) (hc0_2 : l0_2.length ≤ c0_2) (hr0_5 : Kd.C (Kd.int .i64) w A0_5 l0_5.length l0_5) (hc0_5 : l0_5.length ≤ c0_5) (h : spec_CanBe.f k a0_0 a0_1 l0_2 a0_3 a0_4 l0_5 a0_6 a0_7 a1_0 a1_1 a1_2 a1_3 a1_4 a1_5 a1_6 a1_7 = some r) :
  Calls Try.prog 213 #[.agg #[.int .i64 a0_0, .int .i64 a0_1, .slice A0_2 l0_2.length c0_2, .int .i64 a0_3, .int .i64 a0_4, .slice A0_5 l0_5.length c0_5, .int .i64 a0_6, .int .i64 a0_7], .agg #[.int .i64 a1_0, .int .i64 a1_1, .int .i64 a1_2, .int .i64 a1_3, .int .i64 a1_4, .int .i64 a1_5, .int .i64 a1_6, .int .i64 a1_7]] w fun e w' => e = .returned (.bool r) ∧ Below w.heap.size w w' := by
 have hu87 := Try.underlying87
 have hu126 := Try.underlying126
 have HR0_2 := zK hr0_2
 have HC0_2 := zK hc0_2
 clear hr0_2 hc0_2
 have HR0_5 := zK hr0_5
 have HC0_5 := zK hc0_5
 clear hr0_5 hc0_5
 have HB := zK (Below.refl w.heap.size w)
 have H : ((spec_WhyNot.f k a0_0 a0_1 l0_2 a0_3 a0_4 l0_5 a0_6 a0_7 a1_0 a1_1 a1_2 a1_3 a1_4 a1_5 a1_6 a1_7).bind fun t295 => (some (t295.toList == ([] : List UInt8)))) = some r := h
 clear h
 replace H := Option.bind_eq_some_iff.mp H
 obtain ⟨t295, A30, H⟩ := H
 try dsimp only at H
 have A3 := zK A30
 clear A30
 obtain rfl := Option.some.inj H
 go_enter Try.func213, Try.ntmps213
 go_wp2_with (first | ((with_reducible refine gate_dst (N := 2) rfl ?_); refine box_event ?hg (N := 2) ?hd (cs := #[.int .i64 a0_0, .int .i64 a0_1, .slice A0_2 l0_2.length c0_2, .int .i64 a0_3, .int .i64 a0_4, .slice A0_5 l0_5.length c0_5, .int .i64 a0_6, .int .i64 a0_7]) (t := 87) ?hr ?_; (case hd => rfl); (case hg => rfl); (case hr => first | (go_simp; done) | (go_simp; rfl)); intro gb293 hg w4 hbox hb; have _ := zK (bT (qB HB.o) hb); have _ := zK (hbox); have _ := zK ((by rw [hg]; exact (bZ (qB HB.o)) : w.heap.size ≤ gb293)); have _ := zK ((by rw [hg]; exact (bZ (qB HB.o)) : w.heap.size ≤ gb293)); clear HB; rename_i HB BK293 GW293 GE293; clear hb hbox hg) | ((with_reducible refine gate_dst (N := 3) rfl ?_); refine box_event ?hg (N := 3) ?hd (cs := #[.int .i64 a1_0, .int .i64 a1_1, .int .i64 a1_2, .int .i64 a1_3, .int .i64 a1_4, .int .i64 a1_5, .int .i64 a1_6, .int .i64 a1_7]) (t := 126) ?hr ?_; (case hd => rfl); (case hg => rfl); (case hr => first | (go_simp; done) | (go_simp; rfl)); intro gb294 hg w5 hbox hb; have _ := zK (bB (qK BK293.o) hb); have _ := zK (bT (qX HB.o) hb); have _ := zK (hbox); have _ := zK ((by rw [hg]; exact (bZ (qX HB.o)) : w.heap.size ≤ gb294)); have _ := zK ((by rw [hg]; exact (bZ (qX HB.o)) : w.heap.size ≤ gb294)); have _ := zK ((by rw [hg]; exact Nat.ne_of_lt (blk_lt (qK BK293.o)) : gb293 ≠ gb294)); have _ := zK ((by rw [hg]; exact Nat.ne_of_gt (blk_lt (qK BK293.o)) : gb294 ≠ gb293)); clear BK293 HB; rename_i BK293 HB BK294 GW294 GE294 NB293_294 NB294_293; clear hb hbox hg; have hnb6 := NB293_294.o; have hnc6 := NB294_293.o; obtain ⟨hcz7_0, hcz7_1, hcz7_2, hcz7_3, hcz7_4, hcz7_5, hcz7_6, hcz7_7, hfz7_0, hfz7_1, hfz7_2, hfz7_3, hfz7_4, hfz7_5, hfz7_6, hfz7_7⟩ := bx8 BK293.o; obtain ⟨hcz8_0, hcz8_1, hcz8_2, hcz8_3, hcz8_4, hcz8_5, hcz8_6, hcz8_7, hfz8_0, hfz8_1, hfz8_2, hfz8_3, hfz8_4, hfz8_5, hfz8_6, hfz8_7⟩ := bx8 BK294.o) | ((with_reducible refine gate_callee (f := 225) rfl ?_); refine goesL_ (some 7) rfl rfl Try.func225 (by kernel_rfl) rfl #[.agg #[.int .i64 a0_0, .int .i64 a0_1, .slice A0_2 l0_2.length c0_2, .int .i64 a0_3, .int .i64 a0_4, .slice A0_5 l0_5.length c0_5, .int .i64 a0_6, .int .i64 a0_7], .agg #[.int .i64 a1_0, .int .i64 a1_1, .int .i64 a1_2, .int .i64 a1_3, .int .i64 a1_4, .int .i64 a1_5, .int .i64 a1_6, .int .i64 a1_7]] rfl M0 ?_; (with_reducible refine (spec_WhyNot.calls k a0_0 a0_1 _ _ l0_2 a0_3 a0_4 _ _ l0_5 a0_6 a0_7 a1_0 a1_1 a1_2 a1_3 a1_4 a1_5 a1_6 a1_7 t295 _ ?side1 ?side2 ?side3 ?side4 A3.o).mono ?_); (case side1 => exact Kd.qC (Kd.C_below HR0_2.o HB.o)); (case side2 => exact HC0_2.o); (case side3 => exact Kd.qC (Kd.C_below HR0_5.o HB.o)); (case side4 => exact HC0_5.o); rintro e w9 ⟨rfl, hb⟩; refine ⟨_, rfl, ?_⟩; have _ := zK (bB (qK BK293.o) hb); have _ := zK (bB (qK BK294.o) hb); have _ := zK (bT (qX HB.o) hb); clear BK293 BK294 HB; rename_i BK293 BK294 HB; (try clear hb); (try clear hb2); (try clear hk); (try clear hi)))
 go_ret
 exact ⟨by first | rfl | (simp [errW_none, errW_some] <;> rfl) | (simp [*, errW_none, errW_some] <;> rfl), by exact qX HB.o⟩
/-! ### spec_l8One: function 214 -/
def spec_l8One.f (a0 : Bool) : Option (Int) := if a0 = true then (some 1) else (some 0)
set_option maxHeartbeats 8000000 in
set_option maxRecDepth 100000 in
theorem spec_l8One.calls (a0 : Bool) (r : Int) (w : World) (h : spec_l8One.f a0 = some r) :
  Calls Try.prog 214 #[.bool a0] w fun e w' => e = .returned (.int .i64 r) ∧ Drawn0 w w' := by
 have H : (if a0 = true then (some 1) else (some 0)) = some r := h
 clear h
 by_cases c2 : a0 = true
 ·subst c2
  have H1 : (some 1) = some r := by rw [if_pos rfl] at H; exact H
  clear H
  have H := H1
  clear H1
  obtain rfl := Option.some.inj H
  go_enter Try.func214, Try.ntmps214
  go_wp2
  go_ret
  exact ⟨by first | rfl | (simp; done) | (simp [*]; done), by repeat (first | exact Drawn0.refl _ | apply Drawn0.step)⟩
 replace c2 := Bool.eq_false_iff.mpr c2
 subst c2
 have H1 : (some 0) = some r := by rw [if_neg (show ¬ (false = true) by decide)] at H; exact H
 clear H
 have H := H1
 clear H1
 obtain rfl := Option.some.inj H
 go_enter Try.func214, Try.ntmps214
 go_wp2
 go_ret
 exact ⟨by first | rfl | (simp; done) | (simp [*]; done), by repeat (first | exact Drawn0.refl _ | apply Drawn0.step)⟩
/-! ### spec_Score: function 177 -/
def spec_Score.f (k : Nat) (a0_0 : Int) (a0_1 : Int) (l0_2 : List Int) (a0_3 : Int) (a0_4 : Int) (l0_5 : List Int) (a0_6 : Int) (a0_7 : Int) (a1_0 : Int) (a1_1 : Int) (a1_2 : Int) (a1_3 : Int) (a1_4 : Int) (a1_5 : Int) (a1_6 : Int) (a1_7 : Int) : Option (Int) := (spec_CanBe.f k a0_0 a0_1 l0_2 a0_3 a0_4 l0_5 a0_6 a0_7 a1_0 a1_1 a1_2 a1_3 a1_4 a1_5 a1_6 a1_7).bind fun t298 => (if t298 = true then ((spec_l1In.f (l0_2.length : Int) 1 2).bind fun t299 => ((spec_l8One.f t299).bind fun t300 => ((spec_l8One.f (decide ((wrap64 (a0_4 - a0_3)) ≤ 5))).bind fun t301 => ((spec_l1In.f (l0_5.length : Int) 1 2).bind fun t302 => ((spec_l8One.f t302).bind fun t303 => ((spec_l8One.f (decide (a1_6 ≤ (wrap64 (a0_7 + 24))))).bind fun t304 => (some (wrap64 ((wrap64 ((wrap64 ((wrap64 (1 + t300)) + t301)) + t303)) + t304))))))))) else (some 0))
def spec_Score.T3 : Bool × List (List Nat × List Nat) := (true, [([], []), ([0], [0]), ([1], [1]), ([2], [2]), ([3, 3], [3]), ([4], [4]), ([], []), ([6], [6]), ([], []), ([8], [8]), ([7, 9], [7, 9]), ([10], [10]), ([11, 4], [11]), ([5, 12], [5, 12]), ([], []), ([14], [14]), ([15], [15]), ([16, 12], [16]), ([17, 17], [17]), ([13, 18], [13, 18]), ([], []), ([20], [20]), ([], []), ([22], [22]), ([23], [23]), ([24], [24]), ([21, 25], [21, 25]), ([26, 18], [26]), ([19, 27], [19, 27]), ([28, 27, 0, 1, 2, 3, 4, 5, 6, 7, 8, 9, 10, 11, 12, 13, 14, 15, 16, 17, 18, 19, 20, 21, 22, 23, 24, 25, 26, 27, 28], [28])])
def spec_Score.B3 : List Nat := [0, 1, 3, 7, 15, 31, 0, 64, 0, 256, 960, 1984, 4063, 8191, 0, 16384, 49152, 122847, 253919, 524287, 0, 1048576, 0, 4194304, 12582912, 29360128, 66060288, 133685215, 268435455, 536870911]
theorem spec_Score.tab3 : rtab .any (opsOf Try.f177 3) = spec_Score.T3 := by kernel_rfl
theorem spec_Score.bits3 : waitsOk spec_Score.T3.2 spec_Score.B3 = true := by kernel_rfl
set_option maxHeartbeats 8000000 in
set_option maxRecDepth 100000 in
theorem spec_Score.calls (k : Nat) (a0_0 : Int) (a0_1 : Int) (A0_2 : Option Addr) (c0_2 : Nat) (l0_2 : List Int) (a0_3 : Int) (a0_4 : Int) (A0_5 : Option Addr) (c0_5 : Nat) (l0_5 : List Int) (a0_6 : Int) (a0_7 : Int) (a1_0 : Int) (a1_1 : Int) (a1_2 : Int) (a1_3 : Int) (a1_4 : Int) (a1_5 : Int) (a1_6 : Int) (a1_7 : Int) (r : Int) (w : World) (hr0_2 : Kd.C (Kd.int .i64) w A0_2 l0_2.length l0_2) (hc0_2 : l0_2.length ≤ c0_2) (hr0_5 : Kd.C (Kd.int .i64) w A0_5 l0_5.length l0_5) (hc0_5 : l0_5.length ≤ c0_5) (h : spec_Score.f k a0_0 a0_1 l0_2 a0_3 a0_4 l0_5 a0_6 a0_7 a1_0 a1_1 a1_2 a1_3 a1_4 a1_5 a1_6 a1_7 = some r) :
  Calls Try.prog 177 #[.agg #[.int .i64 a0_0, .int .i64 a0_1, .slice A0_2 l0_2.length c0_2, .int .i64 a0_3, .int .i64 a0_4, .slice A0_5 l0_5.length c0_5, .int .i64 a0_6, .int .i64 a0_7], .agg #[.int .i64 a1_0, .int .i64 a1_1, .int .i64 a1_2, .int .i64 a1_3, .int .i64 a1_4, .int .i64 a1_5, .int .i64 a1_6, .int .i64 a1_7]] w fun e w' => e = .returned (.int .i64 r) ∧ Below w.heap.size w w' := by
 have hu87 := Try.underlying87
 have hu126 := Try.underlying126
 have HR0_2 := zK hr0_2
 have HC0_2 := zK hc0_2
 clear hr0_2 hc0_2
 have HR0_5 := zK hr0_5
 have HC0_5 := zK hc0_5
 clear hr0_5 hc0_5
 have HB := zK (Below.refl w.heap.size w)
 have H : ((spec_CanBe.f k a0_0 a0_1 l0_2 a0_3 a0_4 l0_5 a0_6 a0_7 a1_0 a1_1 a1_2 a1_3 a1_4 a1_5 a1_6 a1_7).bind fun t298 => (if t298 = true then ((spec_l1In.f (l0_2.length : Int) 1 2).bind fun t299 => ((spec_l8One.f t299).bind fun t300 => ((spec_l8One.f (decide ((wrap64 (a0_4 - a0_3)) ≤ 5))).bind fun t301 => ((spec_l1In.f (l0_5.length : Int) 1 2).bind fun t302 => ((spec_l8One.f t302).bind fun t303 => ((spec_l8One.f (decide (a1_6 ≤ (wrap64 (a0_7 + 24))))).bind fun t304 => (some (wrap64 ((wrap64 ((wrap64 ((wrap64 (1 + t300)) + t301)) + t303)) + t304))))))))) else (some 0))) = some r := h
 clear h
 replace H := Option.bind_eq_some_iff.mp H
 obtain ⟨t298, A30, H⟩ := H
 try dsimp only at H
 have A3 := zK A30
 clear A30
 by_cases c4 : t298 = true
 rotate_left
 ·replace c4 := Bool.eq_false_iff.mpr c4
  subst c4
  have H1 : (some 0) = some r := by rw [if_neg (show ¬ (false = true) by decide)] at H; exact H
  clear H
  have H := H1
  clear H1
  obtain rfl := Option.some.inj H
  go_enter Try.func177, Try.ntmps177
  go_wp2_with (first | ((with_reducible refine gate_dst (N := 2) rfl ?_); refine box_event ?hg (N := 2) ?hd (cs := #[.int .i64 a0_0, .int .i64 a0_1, .slice A0_2 l0_2.length c0_2, .int .i64 a0_3, .int .i64 a0_4, .slice A0_5 l0_5.length c0_5, .int .i64 a0_6, .int .i64 a0_7]) (t := 87) ?hr ?_; (case hd => rfl); (case hg => rfl); (case hr => first | (go_simp; done) | (go_simp; rfl)); intro gb296 hg w18 hbox hb; have _ := zK (bT (qB HB.o) hb); have _ := zK (hbox); have _ := zK ((by rw [hg]; exact (bZ (qB HB.o)) : w.heap.size ≤ gb296)); have _ := zK ((by rw [hg]; exact (bZ (qB HB.o)) : w.heap.size ≤ gb296)); clear HB; rename_i HB BK296 GW296 GE296; clear hb hbox hg) | ((with_reducible refine gate_dst (N := 3) rfl ?_); refine box_event ?hg (N := 3) ?hd (cs := #[.int .i64 a1_0, .int .i64 a1_1, .int .i64 a1_2, .int .i64 a1_3, .int .i64 a1_4, .int .i64 a1_5, .int .i64 a1_6, .int .i64 a1_7]) (t := 126) ?hr ?_; (case hd => rfl); (case hg => rfl); (case hr => first | (go_simp; done) | (go_simp; rfl)); intro gb297 hg w19 hbox hb; have _ := zK (bB (qK BK296.o) hb); have _ := zK (bT M25 hb); have _ := zK (hbox); have _ := zK ((by rw [hg]; exact (bZ M25) : w.heap.size ≤ gb297)); have _ := zK ((by rw [hg]; exact (bZ M25) : w.heap.size ≤ gb297)); have _ := zK ((by rw [hg]; exact Nat.ne_of_lt (blk_lt (qK BK296.o)) : gb296 ≠ gb297)); have _ := zK ((by rw [hg]; exact Nat.ne_of_gt (blk_lt (qK BK296.o)) : gb297 ≠ gb296)); clear BK296 HB; rename_i BK296 HB BK297 GW297 GE297 NB296_297 NB297_296; clear hb hbox hg; have hnb20 := NB296_297.o; have hnc20 := NB297_296.o; obtain ⟨hcz21_0, hcz21_1, hcz21_2, hcz21_3, hcz21_4, hcz21_5, hcz21_6, hcz21_7, hfz21_0, hfz21_1, hfz21_2, hfz21_3, hfz21_4, hfz21_5, hfz21_6, hfz21_7⟩ := bx8 BK296.o; obtain ⟨hcz22_0, hcz22_1, hcz22_2, hcz22_3, hcz22_4, hcz22_5, hcz22_6, hcz22_7, hfz22_0, hfz22_1, hfz22_2, hfz22_3, hfz22_4, hfz22_5, hfz22_6, hfz22_7⟩ := bx8 BK297.o) | ((with_reducible refine gate_callee (f := 213) rfl ?_); refine goesL_ (some 7) rfl rfl Try.func213 (by kernel_rfl) rfl #[.agg #[.int .i64 a0_0, .int .i64 a0_1, .slice A0_2 l0_2.length c0_2, .int .i64 a0_3, .int .i64 a0_4, .slice A0_5 l0_5.length c0_5, .int .i64 a0_6, .int .i64 a0_7], .agg #[.int .i64 a1_0, .int .i64 a1_1, .int .i64 a1_2, .int .i64 a1_3, .int .i64 a1_4, .int .i64 a1_5, .int .i64 a1_6, .int .i64 a1_7]] rfl M0 ?_; (with_reducible refine (spec_CanBe.calls k a0_0 a0_1 _ _ l0_2 a0_3 a0_4 _ _ l0_5 a0_6 a0_7 a1_0 a1_1 a1_2 a1_3 a1_4 a1_5 a1_6 a1_7 false _ ?side1 ?side2 ?side3 ?side4 A3.o).mono ?_); (case side1 => exact Kd.qC (Kd.C_below HR0_2.o HB.o)); (case side2 => exact HC0_2.o); (case side3 => exact Kd.qC (Kd.C_below HR0_5.o HB.o)); (case side4 => exact HC0_5.o); rintro e w23 ⟨rfl, hb⟩; refine ⟨_, rfl, ?_⟩; have _ := zK (bB (qK BK296.o) hb); have _ := zK (bB (qK BK297.o) hb); have _ := zK (bT (qX HB.o) hb); clear BK296 BK297 HB; rename_i BK296 BK297 HB; (try clear hb); (try clear hb2); (try clear hk); (try clear hi)))
  go_ret
  exact ⟨by first | rfl | (simp [errW_none, errW_some] <;> rfl) | (simp [*, errW_none, errW_some] <;> rfl), by exact qX HB.o⟩

 subst c4
 have H1 : ((spec_l1In.f (l0_2.length : Int) 1 2).bind fun t299 => ((spec_l8One.f t299).bind fun t300 => ((spec_l8One.f (decide ((wrap64 (a0_4 - a0_3)) ≤ 5))).bind fun t301 => ((spec_l1In.f (l0_5.length : Int) 1 2).bind fun t302 => ((spec_l8One.f t302).bind fun t303 => ((spec_l8One.f (decide (a1_6 ≤ (wrap64 (a0_7 + 24))))).bind fun t304 => (some (wrap64 ((wrap64 ((wrap64 ((wrap64 (1 + t300)) + t301)) + t303)) + t304))))))))) = some r := by rw [if_pos rfl] at H; exact H
 clear H
 have H := H1
 clear H1
 replace H := Option.bind_eq_some_iff.mp H
 obtain ⟨t299, A50, H⟩ := H
 try dsimp only at H
 have A5 := zK A50
 clear A50
 replace H := Option.bind_eq_some_iff.mp H
 obtain ⟨t300, A60, H⟩ := H
 try dsimp only at H
 have A6 := zK A60
 clear A60
 replace H := Option.bind_eq_some_iff.mp H
 obtain ⟨t301, A70, H⟩ := H
 try dsimp only at H
 have A7 := zK A70
 clear A70
 replace H := Option.bind_eq_some_iff.mp H
 obtain ⟨t302, A80, H⟩ := H
 try dsimp only at H
 have A8 := zK A80
 clear A80
 replace H := Option.bind_eq_some_iff.mp H
 obtain ⟨t303, A90, H⟩ := H
 try dsimp only at H
 have A9 := zK A90
 clear A90
 replace H := Option.bind_eq_some_iff.mp H
 obtain ⟨t304, A100, H⟩ := H
 try dsimp only at H
 have A10 := zK A100
 clear A100
 obtain rfl := Option.some.inj H
 go_enter Try.func177, Try.ntmps177
 try go_wp2_with (first | ((with_reducible refine gate_dst (N := 2) rfl ?_); refine box_event ?hg (N := 2) ?hd (cs := #[.int .i64 a0_0, .int .i64 a0_1, .slice A0_2 l0_2.length c0_2, .int .i64 a0_3, .int .i64 a0_4, .slice A0_5 l0_5.length c0_5, .int .i64 a0_6, .int .i64 a0_7]) (t := 87) ?hr ?_; (case hd => rfl); (case hg => rfl); (case hr => first | (go_simp; done) | (go_simp; rfl)); intro gb296 hg w11 hbox hb; have _ := zK (bT (qB HB.o) hb); have _ := zK (hbox); have _ := zK ((by rw [hg]; exact (bZ (qB HB.o)) : w.heap.size ≤ gb296)); have _ := zK ((by rw [hg]; exact (bZ (qB HB.o)) : w.heap.size ≤ gb296)); clear HB; rename_i HB BK296 GW296 GE296; clear hb hbox hg) | ((with_reducible refine gate_dst (N := 3) rfl ?_); refine box_event ?hg (N := 3) ?hd (cs := #[.int .i64 a1_0, .int .i64 a1_1, .int .i64 a1_2, .int .i64 a1_3, .int .i64 a1_4, .int .i64 a1_5, .int .i64 a1_6, .int .i64 a1_7]) (t := 126) ?hr ?_; (case hd => rfl); (case hg => rfl); (case hr => first | (go_simp; done) | (go_simp; rfl)); intro gb297 hg w12 hbox hb; have _ := zK (bB (qK BK296.o) hb); have _ := zK (bT M25 hb); have _ := zK (hbox); have _ := zK ((by rw [hg]; exact (bZ M25) : w.heap.size ≤ gb297)); have _ := zK ((by rw [hg]; exact (bZ M25) : w.heap.size ≤ gb297)); have _ := zK ((by rw [hg]; exact Nat.ne_of_lt (blk_lt (qK BK296.o)) : gb296 ≠ gb297)); have _ := zK ((by rw [hg]; exact Nat.ne_of_gt (blk_lt (qK BK296.o)) : gb297 ≠ gb296)); clear BK296 HB; rename_i BK296 HB BK297 GW297 GE297 NB296_297 NB297_296; clear hb hbox hg; have hnb13 := NB296_297.o; have hnc13 := NB297_296.o; obtain ⟨hcz14_0, hcz14_1, hcz14_2, hcz14_3, hcz14_4, hcz14_5, hcz14_6, hcz14_7, hfz14_0, hfz14_1, hfz14_2, hfz14_3, hfz14_4, hfz14_5, hfz14_6, hfz14_7⟩ := bx8 BK296.o; obtain ⟨hcz15_0, hcz15_1, hcz15_2, hcz15_3, hcz15_4, hcz15_5, hcz15_6, hcz15_7, hfz15_0, hfz15_1, hfz15_2, hfz15_3, hfz15_4, hfz15_5, hfz15_6, hfz15_7⟩ := bx8 BK297.o) | ((with_reducible refine gate_callee (f := 213) rfl ?_); refine goesL_ (some 7) rfl rfl Try.func213 (by kernel_rfl) rfl #[.agg #[.int .i64 a0_0, .int .i64 a0_1, .slice A0_2 l0_2.length c0_2, .int .i64 a0_3, .int .i64 a0_4, .slice A0_5 l0_5.length c0_5, .int .i64 a0_6, .int .i64 a0_7], .agg #[.int .i64 a1_0, .int .i64 a1_1, .int .i64 a1_2, .int .i64 a1_3, .int .i64 a1_4, .int .i64 a1_5, .int .i64 a1_6, .int .i64 a1_7]] rfl M0 ?_; (with_reducible refine (spec_CanBe.calls k a0_0 a0_1 _ _ l0_2 a0_3 a0_4 _ _ l0_5 a0_6 a0_7 a1_0 a1_1 a1_2 a1_3 a1_4 a1_5 a1_6 a1_7 true _ ?side1 ?side2 ?side3 ?side4 A3.o).mono ?_); (case side1 => exact Kd.qC (Kd.C_below HR0_2.o HB.o)); (case side2 => exact HC0_2.o); (case side3 => exact Kd.qC (Kd.C_below HR0_5.o HB.o)); (case side4 => exact HC0_5.o); rintro e w16 ⟨rfl, hb⟩; refine ⟨_, rfl, ?_⟩; have _ := zK (bB (qK BK296.o) hb); have _ := zK (bB (qK BK297.o) hb); have _ := zK (bT (qX HB.o) hb); clear BK296 BK297 HB; rename_i BK296 BK297 HB; (try clear hb); (try clear hb2); (try clear hk); (try clear hi)))
 have n0_ := zK (kD BK296.o)
 have n1_ := zK (kD BK297.o)
 have n2_ := zK (below_drew1 HB.o)
 clear BK296
 clear BK297
 clear HB
 have BK296 := n0_
 have BK297 := n1_
 have HB := n2_
 clear n0_ n1_ n2_
 refine start_ (n := 30) (S := fun w' => w'.cell? ⟨gb296, 0, none⟩ = some (.int .i64 a0_0) ∧ w'.cell? ⟨gb296, 1, none⟩ = some (.int .i64 a0_1) ∧ w'.cell? ⟨gb296, 2, none⟩ = some (.slice A0_2 l0_2.length c0_2) ∧ w'.cell? ⟨gb296, 3, none⟩ = some (.int .i64 a0_3) ∧ w'.cell? ⟨gb296, 4, none⟩ = some (.int .i64 a0_4) ∧ w'.cell? ⟨gb296, 5, none⟩ = some (.slice A0_5 l0_5.length c0_5) ∧ w'.cell? ⟨gb296, 6, none⟩ = some (.int .i64 a0_6) ∧ w'.cell? ⟨gb296, 7, none⟩ = some (.int .i64 a0_7) ∧ w'.cell? ⟨gb297, 0, none⟩ = some (.int .i64 a1_0) ∧ w'.cell? ⟨gb297, 1, none⟩ = some (.int .i64 a1_1) ∧ w'.cell? ⟨gb297, 2, none⟩ = some (.int .i64 a1_2) ∧ w'.cell? ⟨gb297, 3, none⟩ = some (.int .i64 a1_3) ∧ w'.cell? ⟨gb297, 4, none⟩ = some (.int .i64 a1_4) ∧ w'.cell? ⟨gb297, 5, none⟩ = some (.int .i64 a1_5) ∧ w'.cell? ⟨gb297, 6, none⟩ = some (.int .i64 a1_6) ∧ w'.cell? ⟨gb297, 7, none⟩ = some (.int .i64 a1_7)) (ds := []) b18A0 (by kernel_rfl) rfl rfl ⟨(bc BK296.o 0).trans rfl, (bc BK296.o 1).trans rfl, (bc BK296.o 2).trans rfl, (bc BK296.o 3).trans rfl, (bc BK296.o 4).trans rfl, (bc BK296.o 5).trans rfl, (bc BK296.o 6).trans rfl, (bc BK296.o 7).trans rfl, (bc BK297.o 0).trans rfl, (bc BK297.o 1).trans rfl, (bc BK297.o 2).trans rfl, (bc BK297.o 3).trans rfl, (bc BK297.o 4).trans rfl, (bc BK297.o 5).trans rfl, (bc BK297.o 6).trans rfl, (bc BK297.o 7).trans rfl⟩ (fun hHeld => ?_); refine with_tabW spec_Score.tab3 spec_Score.bits3 (fun HT_ HW_ => ?_)
 generalize w16.drew = w17 at BK296 BK297 HB hHeld ⊢
 refine pI 0 (some 9) b18A1 HT_ ?_
 refine pI 6 (some 15) b18A2 HT_ ?_
 refine pI 8 (some 17) b18A3 HT_ ?_
 refine pI 14 (some 23) b18A4 HT_ ?_
 refine pI 20 (some 29) b18A5 HT_ ?_
 refine pI 22 (some 31) b18A6 HT_ ?_
 refine pI 23 (some 32) b18A7 HT_ ?_
 refine tI 1 (some 10) b18A8 HT_ HW_ hHeld rfl rfl (Or.inl ⟨by rfl, by rintro w' ⟨s0, s1, s2, s3, s4, s5, s6, s7, s8, s9, s10, s11, s12, s13, s14, s15⟩; go_simp; with_reducible rfl⟩) ?_
 refine pI 2 (some 11) b18A9 HT_ ?_
 refine tI 7 (some 16) b18A10 HT_ HW_ hHeld rfl rfl (Or.inl ⟨by rfl, by rintro w' ⟨s0, s1, s2, s3, s4, s5, s6, s7, s8, s9, s10, s11, s12, s13, s14, s15⟩; go_simp; with_reducible rfl⟩) ?_
 refine tI 9 (some 18) b18A11 HT_ HW_ hHeld rfl rfl (Or.inl ⟨by rfl, by rintro w' ⟨s0, s1, s2, s3, s4, s5, s6, s7, s8, s9, s10, s11, s12, s13, s14, s15⟩; go_simp; with_reducible rfl⟩) ?_
 refine pI 10 (some 19) b18A12 HT_ ?_
 refine pI 11 (some 20) b18A13 HT_ ?_
 refine tI 15 (some 24) b18A14 HT_ HW_ hHeld rfl rfl (Or.inl ⟨by rfl, by rintro w' ⟨s0, s1, s2, s3, s4, s5, s6, s7, s8, s9, s10, s11, s12, s13, s14, s15⟩; go_simp; with_reducible rfl⟩) ?_
 refine pI 16 (some 25) b18A15 HT_ ?_
 refine tI 21 (some 30) b18A16 HT_ HW_ hHeld rfl rfl (Or.inl ⟨by rfl, by rintro w' ⟨s0, s1, s2, s3, s4, s5, s6, s7, s8, s9, s10, s11, s12, s13, s14, s15⟩; go_simp; with_reducible rfl⟩) ?_
 refine tI 24 (some 33) b18A17 HT_ HW_ hHeld rfl rfl (Or.inl ⟨by rfl, by rintro w' ⟨s0, s1, s2, s3, s4, s5, s6, s7, s8, s9, s10, s11, s12, s13, s14, s15⟩; go_simp; with_reducible rfl⟩) ?_
 refine pI 25 (some 34) b18A18 HT_ ?_
 refine pI 26 (some 35) b18A19 HT_ ?_
 refine one_ (i := 3) (N := some 12) b18A20 rfl rfl (one_of HT_.o (by kernel_rfl)) (by decide) (fun K hK => ?_)
 refine goes_ Try.func95 (by kernel_rfl) rfl #[.int .i64 (l0_2.length : Int), .int .i64 1, .int .i64 2] (by rfl) rfl rfl M0 ?_
 with_reducible refine (spec_l1In.calls (l0_2.length : Int) 1 2 t299 _ A5.o).mono ?_
 rintro e w' ⟨rfl, ⟨nd, rfl⟩⟩
 refine ⟨_, rfl, ?_⟩
 refine hK.out _ _ ⟨(bc BK296.o 0).trans rfl, (bc BK296.o 1).trans rfl, (bc BK296.o 2).trans rfl, (bc BK296.o 3).trans rfl, (bc BK296.o 4).trans rfl, (bc BK296.o 5).trans rfl, (bc BK296.o 6).trans rfl, (bc BK296.o 7).trans rfl, (bc BK297.o 0).trans rfl, (bc BK297.o 1).trans rfl, (bc BK297.o 2).trans rfl, (bc BK297.o 3).trans rfl, (bc BK297.o 4).trans rfl, (bc BK297.o 5).trans rfl, (bc BK297.o 6).trans rfl, (bc BK297.o 7).trans rfl⟩ (fun hHeld => ?_)
 clear hK K
 refine norm_ (a' := ?_) ?_ ?_
 rotate_left
 ·show Act.put _ (some 12) _ = _
  simp only [Act.put, sA, sZ, sS, i64_w, i32_w]
  rfl
 refine one_ (i := 4) (N := some 13) b18A21 rfl rfl (one_of HT_.o (by kernel_rfl)) (by decide) (fun K hK => ?_)
 refine goes_ Try.func214 (by kernel_rfl) rfl #[.bool t299] (by rfl) rfl rfl M0 ?_
 with_reducible refine (spec_l8One.calls t299 t300 _ A6.o).mono ?_
 rintro e w' ⟨rfl, ⟨nd, rfl⟩⟩
 refine ⟨_, rfl, ?_⟩
 refine hK.out _ _ ⟨(bc BK296.o 0).trans rfl, (bc BK296.o 1).trans rfl, (bc BK296.o 2).trans rfl, (bc BK296.o 3).trans rfl, (bc BK296.o 4).trans rfl, (bc BK296.o 5).trans rfl, (bc BK296.o 6).trans rfl, (bc BK296.o 7).trans rfl, (bc BK297.o 0).trans rfl, (bc BK297.o 1).trans rfl, (bc BK297.o 2).trans rfl, (bc BK297.o 3).trans rfl, (bc BK297.o 4).trans rfl, (bc BK297.o 5).trans rfl, (bc BK297.o 6).trans rfl, (bc BK297.o 7).trans rfl⟩ (fun hHeld => ?_)
 clear hK K
 refine norm_ (a' := ?_) ?_ ?_
 rotate_left
 ·show Act.put _ (some 13) _ = _
  simp only [Act.put, sA, sZ, sS, i64_w, i32_w]
  rfl
 refine pI 5 (some 14) b18A22 HT_ ?_
 refine one_ (i := 12) (N := some 21) b18A23 rfl rfl (one_of HT_.o (by kernel_rfl)) (by decide) (fun K hK => ?_)
 refine goes_ Try.func214 (by kernel_rfl) rfl #[.bool (decide ((wrap64 (a0_4 - a0_3)) ≤ 5))] (by rfl) rfl rfl M0 ?_
 with_reducible refine (spec_l8One.calls (decide ((wrap64 (a0_4 - a0_3)) ≤ 5)) t301 _ A7.o).mono ?_
 rintro e w' ⟨rfl, ⟨nd, rfl⟩⟩
 refine ⟨_, rfl, ?_⟩
 refine hK.out _ _ ⟨(bc BK296.o 0).trans rfl, (bc BK296.o 1).trans rfl, (bc BK296.o 2).trans rfl, (bc BK296.o 3).trans rfl, (bc BK296.o 4).trans rfl, (bc BK296.o 5).trans rfl, (bc BK296.o 6).trans rfl, (bc BK296.o 7).trans rfl, (bc BK297.o 0).trans rfl, (bc BK297.o 1).trans rfl, (bc BK297.o 2).trans rfl, (bc BK297.o 3).trans rfl, (bc BK297.o 4).trans rfl, (bc BK297.o 5).trans rfl, (bc BK297.o 6).trans rfl, (bc BK297.o 7).trans rfl⟩ (fun hHeld => ?_)
 clear hK K
 refine norm_ (a' := ?_) ?_ ?_
 rotate_left
 ·show Act.put _ (some 21) _ = _
  simp only [Act.put, sA, sZ, sS, i64_w, i32_w]
  rfl
 refine pI 13 (some 22) b18A24 HT_ ?_
 refine one_ (i := 17) (N := some 26) b18A25 rfl rfl (one_of HT_.o (by kernel_rfl)) (by decide) (fun K hK => ?_)
 refine goes_ Try.func95 (by kernel_rfl) rfl #[.int .i64 (l0_5.length : Int), .int .i64 1, .int .i64 2] (by rfl) rfl rfl M0 ?_
 with_reducible refine (spec_l1In.calls (l0_5.length : Int) 1 2 t302 _ A8.o).mono ?_
 rintro e w' ⟨rfl, ⟨nd, rfl⟩⟩
 refine ⟨_, rfl, ?_⟩
 refine hK.out _ _ ⟨(bc BK296.o 0).trans rfl, (bc BK296.o 1).trans rfl, (bc BK296.o 2).trans rfl, (bc BK296.o 3).trans rfl, (bc BK296.o 4).trans rfl, (bc BK296.o 5).trans rfl, (bc BK296.o 6).trans rfl, (bc BK296.o 7).trans rfl, (bc BK297.o 0).trans rfl, (bc BK297.o 1).trans rfl, (bc BK297.o 2).trans rfl, (bc BK297.o 3).trans rfl, (bc BK297.o 4).trans rfl, (bc BK297.o 5).trans rfl, (bc BK297.o 6).trans rfl, (bc BK297.o 7).trans rfl⟩ (fun hHeld => ?_)
 clear hK K
 refine norm_ (a' := ?_) ?_ ?_
 rotate_left
 ·show Act.put _ (some 26) _ = _
  simp only [Act.put, sA, sZ, sS, i64_w, i32_w]
  rfl
 refine one_ (i := 18) (N := some 27) b18A26 rfl rfl (one_of HT_.o (by kernel_rfl)) (by decide) (fun K hK => ?_)
 refine goes_ Try.func214 (by kernel_rfl) rfl #[.bool t302] (by rfl) rfl rfl M0 ?_
 with_reducible refine (spec_l8One.calls t302 t303 _ A9.o).mono ?_
 rintro e w' ⟨rfl, ⟨nd, rfl⟩⟩
 refine ⟨_, rfl, ?_⟩
 refine hK.out _ _ ⟨(bc BK296.o 0).trans rfl, (bc BK296.o 1).trans rfl, (bc BK296.o 2).trans rfl, (bc BK296.o 3).trans rfl, (bc BK296.o 4).trans rfl, (bc BK296.o 5).trans rfl, (bc BK296.o 6).trans rfl, (bc BK296.o 7).trans rfl, (bc BK297.o 0).trans rfl, (bc BK297.o 1).trans rfl, (bc BK297.o 2).trans rfl, (bc BK297.o 3).trans rfl, (bc BK297.o 4).trans rfl, (bc BK297.o 5).trans rfl, (bc BK297.o 6).trans rfl, (bc BK297.o 7).trans rfl⟩ (fun hHeld => ?_)
 clear hK K
 refine norm_ (a' := ?_) ?_ ?_
 rotate_left
 ·show Act.put _ (some 27) _ = _
  simp only [Act.put, sA, sZ, sS, i64_w, i32_w]
  rfl
 refine pI 19 (some 28) b18A27 HT_ ?_
 refine one_ (i := 27) (N := some 36) b18A28 rfl rfl (one_of HT_.o (by kernel_rfl)) (by decide) (fun K hK => ?_)
 refine goes_ Try.func214 (by kernel_rfl) rfl #[.bool (decide (a1_6 ≤ (wrap64 (a0_7 + 24))))] (by rfl) rfl rfl M0 ?_
 with_reducible refine (spec_l8One.calls (decide (a1_6 ≤ (wrap64 (a0_7 + 24)))) t304 _ A10.o).mono ?_
 rintro e w' ⟨rfl, ⟨nd, rfl⟩⟩
 refine ⟨_, rfl, ?_⟩
 refine hK.out _ _ ⟨(bc BK296.o 0).trans rfl, (bc BK296.o 1).trans rfl, (bc BK296.o 2).trans rfl, (bc BK296.o 3).trans rfl, (bc BK296.o 4).trans rfl, (bc BK296.o 5).trans rfl, (bc BK296.o 6).trans rfl, (bc BK296.o 7).trans rfl, (bc BK297.o 0).trans rfl, (bc BK297.o 1).trans rfl, (bc BK297.o 2).trans rfl, (bc BK297.o 3).trans rfl, (bc BK297.o 4).trans rfl, (bc BK297.o 5).trans rfl, (bc BK297.o 6).trans rfl, (bc BK297.o 7).trans rfl⟩ (fun hHeld => ?_)
 clear hK K
 refine norm_ (a' := ?_) ?_ ?_
 rotate_left
 ·show Act.put _ (some 36) _ = _
  simp only [Act.put, sA, sZ, sS, i64_w, i32_w]
  rfl
 refine pI 28 (some 37) b18A29 HT_ ?_
 refine pI 29 (some 4) b18A30 HT_ ?_
 refine done_ (done_of HT_.o (by kernel_rfl)) ?_
 try go_wp2
 go_ret
 exact ⟨by first | rfl | (simp [errW_none, errW_some] <;> rfl) | (simp [*, errW_none, errW_some] <;> rfl), by exact qX HB.o⟩
end Go.Proofs.Ytpkdbkheggfkkaa.PFnExactLettersFor
