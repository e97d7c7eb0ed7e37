/- Walks of functions that FnExactLettersFor reaches: written by a tool of the kit for this claim, then shortened by a program of ours. -/
import Derived.Test.YtpkdbkheggfkkaaPFnExactLettersForx0
import Derived.Test.YtpkdbkheggfkkaaPFnExactLettersForx21
/- narrow -/
namespace Go.Proofs.Ytpkdbkheggfkkaa.PFnExactLettersFor
open Go.RowKit Go.Proofs.YtpkdbkheggfkkaaW.PrintWords Go.Proofs.YtpkdbkheggfkkaaW.PrintLast Go.Proofs.YtpkdbkheggfkkaaW.PrintMore
attribute [local go_sem] max2_int min2_int max_two min_two max_three min_three max_four min_four   -- for this text's walks alone
set_option linter.unusedVariables false
set_option linter.unusedSimpArgs false

abbrev b22A0 : Array Bool := #[bo, bo, bo, bo, bo, bo, bo, bo, bo, bo]
abbrev b22A1 : Array Bool := #[bi, bo, bo, bo, bo, bo, bo, bo, bo, bo]
abbrev b22A2 : Array Bool := #[bi, bi, bo, bo, bo, bo, bo, bo, bo, bo]
abbrev b22A3 : Array Bool := #[bi, bi, bi, bo, bo, bo, bo, bo, bo, bo]
abbrev b22A4 : Array Bool := #[bi, bi, bi, bo, bi, bo, bo, bo, bo, bo]
abbrev b22A5 : Array Bool := #[bi, bi, bi, bo, bi, bi, bo, bo, bo, bo]
abbrev b22A6 : Array Bool := #[bi, bi, bi, bo, bi, bi, bi, bo, bo, bo]
abbrev b22A7 : Array Bool := #[bi, bi, bi, bi, bi, bi, bi, bo, bo, bo]
abbrev b22A8 : Array Bool := #[bi, bi, bi, bi, bi, bi, bi, bi, bo, bo]
abbrev b22A9 : Array Bool := #[bi, bi, bi, bi, bi, bi, bi, bi, bi, bo]
abbrev b22A10 : Array Bool := #[bi, bi, bi, bi, bi, bi, bi, bi, bi, bi]
/-! ### laws_eqReport: function 137 -/
def laws_eqReport.f (k : Nat) (a0_0 : Int) (a0_1 : Int) (l0_2 : List Int) (a0_3 : Int) (a0_4 : Int) (l0_5 : List Int) (a0_6 : Int) (a0_7 : Int) (a1_0 : Int) (a1_1 : Int) (l1_2 : List Int) (a1_3 : Int) (a1_4 : Int) (l1_5 : List Int) (a1_6 : Int) (a1_7 : Int) : Option (Bool) := if a0_0 = a1_0 then (if a0_1 = a1_1 then ((laws_eqIntS.f k l0_2 l1_2).bind fun t414 => (if t414 = true then (if a0_3 = a1_3 then (if a0_4 = a1_4 then ((laws_eqIntS.f k l0_5 l1_5).bind fun t415 => (if t415 = true then ((laws_eqSpan.f a0_6 a0_7 a1_6 a1_7).bind fun t416 => (if t416 = true then (some true) else (some false))) else (some false))) else (some false)) else (some false)) else (some false))) else (some false)) else (some false)
set_option maxRecDepth 100000 in
theorem lf22_0 {p : Prop} (h : p := by
  go_enter Try.func137, Try.ntmps137
  go_wp2_with (first | ((with_reducible refine gate_dst (N := 2) rfl ?_); refine box_event ?hg (N := 2) ?hd (cs := #[.int .i64 a0_0, .int .i64 a0_1, .slice A0_2 l0_2.length c0_2, .int .i64 a0_3, .int .i64 a0_4, .slice A0_5 l0_5.length c0_5, .int .i64 a0_6, .int .i64 a0_7]) (t := 87) ?hr ?_; (case hd => rfl); (case hg => rfl); (case hr => first | (go_simp; done) | (go_simp; rfl)); intro gb412 hg wz0 hbox hb; have _ := zK (bT (qB HB.o) hb); have _ := zK (hbox); have _ := zK ((by rw [hg]; exact (bZ (qB HB.o)) : w.heap.size ≤ gb412)); have _ := zK ((by rw [hg]; exact (bZ (qB HB.o)) : w.heap.size ≤ gb412)); clear HB; rename_i HB BK412 GW412 GE412; clear hb hbox hg) | ((with_reducible refine gate_dst (N := 3) rfl ?_); refine box_event ?hg (N := 3) ?hd (cs := #[.int .i64 a1_0, .int .i64 a1_1, .slice A1_2 l1_2.length c1_2, .int .i64 a1_3, .int .i64 a1_4, .slice A1_5 l1_5.length c1_5, .int .i64 a1_6, .int .i64 a1_7]) (t := 87) ?hr ?_; (case hd => rfl); (case hg => rfl); (case hr => first | (go_simp; done) | (go_simp; rfl)); intro gb413 hg wz1 hbox hb; have _ := zK (bB (qK BK412.o) hb); have _ := zK (bT M6 hb); have _ := zK (hbox); have _ := zK ((by rw [hg]; exact (bZ M6) : w.heap.size ≤ gb413)); have _ := zK ((by rw [hg]; exact (bZ M6) : w.heap.size ≤ gb413)); have _ := zK ((by rw [hg]; exact Nat.ne_of_lt (blk_lt (qK BK412.o)) : gb412 ≠ gb413)); have _ := zK ((by rw [hg]; exact Nat.ne_of_gt (blk_lt (qK BK412.o)) : gb413 ≠ gb412)); clear BK412 HB; rename_i BK412 HB BK413 GW413 GE413 NB412_413 NB413_412; clear hb hbox hg; have hnbz0 := NB412_413.o; have hncz0 := NB413_412.o; obtain ⟨hczz1_0, hczz1_1, hczz1_2, hczz1_3, hczz1_4, hczz1_5, hczz1_6, hczz1_7, hfzz1_0, hfzz1_1, hfzz1_2, hfzz1_3, hfzz1_4, hfzz1_5, hfzz1_6, hfzz1_7⟩ := bx8 BK412.o; obtain ⟨hczz2_0, hczz2_1, hczz2_2, hczz2_3, hczz2_4, hczz2_5, hczz2_6, hczz2_7, hfzz2_0, hfzz2_1, hfzz2_2, hfzz2_3, hfzz2_4, hfzz2_5, hfzz2_6, hfzz2_7⟩ := bx8 BK413.o) | ((with_reducible refine gate_callee (f := 19) rfl ?_); refine goesL_ (some 19) rfl rfl Try.func19 (by kernel_rfl) rfl #[.slice A0_2 l0_2.length c0_2, .slice A1_2 l1_2.length c1_2] rfl M0 ?_; (with_reducible refine (laws_eqIntS.calls k _ _ l0_2 _ _ l1_2 true _ ?side1 ?side2 ?side3 ?side4 A5.o).mono ?_); (case side1 => exact Kd.qC (Kd.C_below HR0_2.o HB.o)); (case side2 => exact HC0_2.o); (case side3 => exact Kd.qC (Kd.C_below HR1_2.o HB.o)); (case side4 => exact HC1_2.o); rintro e w' ⟨rfl, ⟨nd, rfl⟩⟩; refine ⟨_, rfl, ?_⟩) | ((with_reducible refine gate_callee (f := 19) rfl ?_); refine goesL_ (some 35) rfl rfl Try.func19 (by kernel_rfl) rfl #[.slice A0_5 l0_5.length c0_5, .slice A1_5 l1_5.length c1_5] rfl M0 ?_; (with_reducible refine (laws_eqIntS.calls k _ _ l0_5 _ _ l1_5 true _ ?side1 ?side2 ?side3 ?side4 A9.o).mono ?_); (case side1 => repeat (first | exact (Kd.C_below HR0_5.o M20) | (with_reducible refine Kd.CA ?_ _) | (with_reducible refine Kd.CN ?_ _) | (with_reducible refine Kd.CD ?_))); (case side2 => exact HC0_5.o); (case side3 => repeat (first | exact (Kd.C_below HR1_5.o M20) | (with_reducible refine Kd.CA ?_ _) | (with_reducible refine Kd.CN ?_ _) | (with_reducible refine Kd.CD ?_))); (case side4 => exact HC1_5.o); rintro e w' ⟨rfl, ⟨nd, rfl⟩⟩; refine ⟨_, rfl, ?_⟩) | ((with_reducible refine gate_callee (f := 180) rfl ?_); refine goesL_ (some 41) rfl rfl Try.func180 (by kernel_rfl) rfl #[.agg #[.int .i64 a0_6, .int .i64 a0_7], .agg #[.int .i64 a1_6, .int .i64 a1_7]] rfl M0 ?_; (with_reducible refine (laws_eqSpan.calls a0_6 a0_7 a1_6 a1_7 false _ A11.o).mono ?_); rintro e wz2 ⟨rfl, hb⟩; refine ⟨_, rfl, ?_⟩; have _ := zK (bB (qK BK412.o) hb); have _ := zK (bB (qK BK413.o) hb); have _ := zK (bT M20 hb); clear BK412 BK413 HB; rename_i BK412 BK413 HB; (try clear hb); (try clear hb2); (try clear hk); (try clear hi)) | ((with_reducible refine gate_callee (f := 180) rfl ?_); refine goesL_ (some 41) rfl rfl Try.func180 (by kernel_rfl) rfl #[.agg #[.int .i64 a0_6, .int .i64 a0_7], .agg #[.int .i64 a1_6, .int .i64 a1_7]] rfl M0 ?_; (with_reducible refine (laws_eqSpan.calls a0_6 a0_7 a1_6 a1_7 true _ A11.o).mono ?_); rintro e wz2 ⟨rfl, hb⟩; refine ⟨_, rfl, ?_⟩; have _ := zK (bB (qK BK412.o) hb); have _ := zK (bB (qK BK413.o) hb); have _ := zK (bT M20 hb); clear BK412 BK413 HB; rename_i BK412 BK413 HB; (try clear hb); (try clear hb2); (try clear hk); (try clear hi)) | ((with_reducible refine gate_callee (f := 19) rfl ?_); refine goesL_ (some 35) rfl rfl Try.func19 (by kernel_rfl) rfl #[.slice A0_5 l0_5.length c0_5, .slice A1_5 l1_5.length c1_5] rfl M0 ?_; (with_reducible refine (laws_eqIntS.calls k _ _ l0_5 _ _ l1_5 false _ ?side1 ?side2 ?side3 ?side4 A9.o).mono ?_); (case side1 => repeat (first | exact (Kd.C_below HR0_5.o M20) | (with_reducible refine Kd.CA ?_ _) | (with_reducible refine Kd.CN ?_ _) | (with_reducible refine Kd.CD ?_))); (case side2 => exact HC0_5.o); (case side3 => repeat (first | exact (Kd.C_below HR1_5.o M20) | (with_reducible refine Kd.CA ?_ _) | (with_reducible refine Kd.CN ?_ _) | (with_reducible refine Kd.CD ?_))); (case side4 => exact HC1_5.o); rintro e w' ⟨rfl, ⟨nd, rfl⟩⟩; refine ⟨_, rfl, ?_⟩) | ((with_reducible refine gate_callee (f := 19) rfl ?_); refine goesL_ (some 19) rfl rfl Try.func19 (by kernel_rfl) rfl #[.slice A0_2 l0_2.length c0_2, .slice A1_2 l1_2.length c1_2] rfl M0 ?_; (with_reducible refine (laws_eqIntS.calls k _ _ l0_2 _ _ l1_2 false _ ?side1 ?side2 ?side3 ?side4 A5.o).mono ?_); (case side1 => exact Kd.qC (Kd.C_below HR0_2.o HB.o)); (case side2 => exact HC0_2.o); (case side3 => exact Kd.qC (Kd.C_below HR1_2.o HB.o)); (case side4 => exact HC1_2.o); rintro e w' ⟨rfl, ⟨nd, rfl⟩⟩; refine ⟨_, rfl, ?_⟩))
  go_ret
  exact ⟨by first | rfl | (simp [errW_none, errW_some] <;> rfl) | (simp [*, errW_none, errW_some] <;> rfl), by exact qX HB.o⟩) : p := h
set_option maxHeartbeats 8000000 in
set_option maxRecDepth 100000 in
theorem laws_eqReport.calls (k : Nat) (a0_0 : Int) (a0_1 : Int) (A0_2 : Option Addr) (c0_2 : Nat) (l0_2 : List Int) (a0_3 : Int) (a0_4 : Int) (A0_5 : Option Addr) (c0_5 : Nat) (l0_5 : List Int) (a0_6 : Int) (a0_7 : Int) (a1_0 : Int) (a1_1 : Int) (A1_2 : Option Addr) (c1_2 : Nat) (l1_2 : List Int) (a1_3 : Int) (a1_4 : Int) (A1_5 : Option Addr) (c1_5 : Nat) (l1_5 : List Int) (a1_6 : Int) (a1_7 : Int) (r : Bool) (w : World) (hr0_2 : Kd.C (Kd.int .i64) w A0_2 l0_2.length l0_2) (hc0_2 : l0_2.length ≤ c0_2) (hr0_5 : Kd.C (Kd.int .i64) w A0_5 l0_5.length l0_5) (hc0_5 : l0_5.length ≤ c0_5) (hr1_2 : Kd.C (Kd.int .i64) w A1_2 l1_2.length l1_2) (hc1_2 : l1_2.length ≤ c1_2) (hr1_5 : Kd.C (Kd.int .i64) w A1_5 l1_5.length l1_5) (hc1_5 : l1_5.length ≤ c1_5) (h : laws_eqReport.f k a0_0 a0_1 l0_2 a0_3 a0_4 l0_5 a0_6 a0_7 a1_0 a1_1 l1_2 a1_3 a1_4 l1_5 a1_6 a1_7 = some r) :
  Calls Try.prog 137 #[.agg #[.int .i64 a0_0, .int .i64 a0_1, .slice A0_2 l0_2.length c0_2, .int .i64 a0_3, .int .i64 a0_4, .slice A0_5 l0_5.length c0_5, .int .i64 a0_6, .int .i64 a0_7], .agg #[.int .i64 a1_0, .int .i64 a1_1, .slice A1_2 l1_2.length c1_2, .int .i64 a1_3, .int .i64 a1_4, .slice A1_5 l1_5.length c1_5, .int .i64 a1_6, .int .i64 a1_7]] w fun e w' => e = .returned (.bool r) ∧ Below w.heap.size w w' := by
 have hu87 := Try.underlying87
 have hu85 := Try.underlying85
 have HR0_2 := zK hr0_2
 have HC0_2 := zK hc0_2
 clear hr0_2 hc0_2
 have HR0_5 := zK hr0_5
 have HC0_5 := zK hc0_5
 clear hr0_5 hc0_5
 have HR1_2 := zK hr1_2
 have HC1_2 := zK hc1_2
 clear hr1_2 hc1_2
 have HR1_5 := zK hr1_5
 have HC1_5 := zK hc1_5
 clear hr1_5 hc1_5
 have HB := zK (Below.refl w.heap.size w)
 have H : (if a0_0 = a1_0 then (if a0_1 = a1_1 then ((laws_eqIntS.f k l0_2 l1_2).bind fun t414 => (if t414 = true then (if a0_3 = a1_3 then (if a0_4 = a1_4 then ((laws_eqIntS.f k l0_5 l1_5).bind fun t415 => (if t415 = true then ((laws_eqSpan.f a0_6 a0_7 a1_6 a1_7).bind fun t416 => (if t416 = true then (some true) else (some false))) else (some false))) else (some false)) else (some false)) else (some false))) else (some false)) else (some false)) = some r := h
 clear h
 by_cases c3 : a0_0 = a1_0
 rotate_left
 ·rw [if_neg c3] at H
  have c3b0 : (a0_0 == a1_0) = false := beq_eq_false_iff_ne.mpr c3
  have c3b1 : (a0_0 != a1_0) = true := bne_iff_ne.mpr c3
  obtain rfl := Option.some.inj H
  exact lf22_0
 rw [if_pos c3] at H
 have c3b0 : (a0_0 == a1_0) = true := beq_iff_eq.mpr c3
 have c3b1 : (a0_0 != a1_0) = false := bne_eq_false_iff_eq.mpr c3
 clear c3
 by_cases c4 : a0_1 = a1_1
 rotate_left
 ·rw [if_neg c4] at H
  have c4b0 : (a0_1 == a1_1) = false := beq_eq_false_iff_ne.mpr c4
  have c4b1 : (a0_1 != a1_1) = true := bne_iff_ne.mpr c4
  obtain rfl := Option.some.inj H
  exact lf22_0
 rw [if_pos c4] at H
 have c4b0 : (a0_1 == a1_1) = true := beq_iff_eq.mpr c4
 have c4b1 : (a0_1 != a1_1) = false := bne_eq_false_iff_eq.mpr c4
 clear c4
 replace H := Option.bind_eq_some_iff.mp H
 obtain ⟨t414, A50, H⟩ := H
 try dsimp only at H
 have A5 := zK A50
 clear A50
 by_cases c6 : t414 = true
 rotate_left
 ·replace c6 := Bool.eq_false_iff.mpr c6
  subst c6
  have H1 : (some false) = some r := by rw [if_neg (show ¬ (false = true) by decide)] at H; exact H
  clear H
  have H := H1
  clear H1
  obtain rfl := Option.some.inj H
  exact lf22_0
 subst c6
 have H1 : (if a0_3 = a1_3 then (if a0_4 = a1_4 then ((laws_eqIntS.f k l0_5 l1_5).bind fun t415 => (if t415 = true then ((laws_eqSpan.f a0_6 a0_7 a1_6 a1_7).bind fun t416 => (if t416 = true then (some true) else (some false))) else (some false))) else (some false)) else (some false)) = some r := by rw [if_pos rfl] at H; exact H
 clear H
 have H := H1
 clear H1
 by_cases c7 : a0_3 = a1_3
 rotate_left
 ·rw [if_neg c7] at H
  have c7b0 : (a0_3 == a1_3) = false := beq_eq_false_iff_ne.mpr c7
  have c7b1 : (a0_3 != a1_3) = true := bne_iff_ne.mpr c7
  obtain rfl := Option.some.inj H
  exact lf22_0
 rw [if_pos c7] at H
 have c7b0 : (a0_3 == a1_3) = true := beq_iff_eq.mpr c7
 have c7b1 : (a0_3 != a1_3) = false := bne_eq_false_iff_eq.mpr c7
 clear c7
 by_cases c8 : a0_4 = a1_4
 rotate_left
 ·rw [if_neg c8] at H
  have c8b0 : (a0_4 == a1_4) = false := beq_eq_false_iff_ne.mpr c8
  have c8b1 : (a0_4 != a1_4) = true := bne_iff_ne.mpr c8
  obtain rfl := Option.some.inj H
  exact lf22_0
 rw [if_pos c8] at H
 have c8b0 : (a0_4 == a1_4) = true := beq_iff_eq.mpr c8
 have c8b1 : (a0_4 != a1_4) = false := bne_eq_false_iff_eq.mpr c8
 clear c8
 replace H := Option.bind_eq_some_iff.mp H
 obtain ⟨t415, A90, H⟩ := H
 try dsimp only at H
 have A9 := zK A90
 clear A90
 by_cases c10 : t415 = true
 rotate_left
 ·replace c10 := Bool.eq_false_iff.mpr c10
  subst c10
  have H1 : (some false) = some r := by rw [if_neg (show ¬ (false = true) by decide)] at H; exact H
  clear H
  have H := H1
  clear H1
  obtain rfl := Option.some.inj H
  exact lf22_0
 subst c10
 have H1 : ((laws_eqSpan.f a0_6 a0_7 a1_6 a1_7).bind fun t416 => (if t416 = true then (some true) else (some false))) = some r := by rw [if_pos rfl] at H; exact H
 clear H
 have H := H1
 clear H1
 replace H := Option.bind_eq_some_iff.mp H
 obtain ⟨t416, A110, H⟩ := H
 try dsimp only at H
 have A11 := zK A110
 clear A110
 by_cases c12 : t416 = true
 ·subst c12
  have H1 : (some true) = some r := by rw [if_pos rfl] at H; exact H
  clear H
  have H := H1
  clear H1
  obtain rfl := Option.some.inj H
  exact lf22_0
 replace c12 := Bool.eq_false_iff.mpr c12
 subst c12
 have H1 : (some false) = some r := by rw [if_neg (show ¬ (false = true) by decide)] at H; exact H
 clear H
 have H := H1
 clear H1
 obtain rfl := Option.some.inj H
 exact lf22_0
/-! ### laws_eqReportS: function 77 -/
def laws_eqReportS.l0 : Nat → List (S87) → List (S87) → Int → Option (Bool)
 | 0, _, _, _ => none
 | k + 1, x0, x1, x5 => if x5 < (x0.length : Int) then (if 0 ≤ x5 then (if x5 < (x1.length : Int) then ((laws_eqReport.f k ((rd_T87 x0 x5).f0) ((rd_T87 x0 x5).f1) ((rd_T87 x0 x5).f2) ((rd_T87 x0 x5).f3) ((rd_T87 x0 x5).f4) ((rd_T87 x0 x5).f5) ((rd_T87 x0 x5).f6.f0) ((rd_T87 x0 x5).f6.f1) ((rd_T87 x1 x5).f0) ((rd_T87 x1 x5).f1) ((rd_T87 x1 x5).f2) ((rd_T87 x1 x5).f3) ((rd_T87 x1 x5).f4) ((rd_T87 x1 x5).f5) ((rd_T87 x1 x5).f6.f0) ((rd_T87 x1 x5).f6.f1)).bind fun t419 => (if t419 = true then (laws_eqReportS.l0 k x0 x1 (wrap64 (x5 + 1))) else (some false))) else (none)) else (none)) else (some true)
def laws_eqReportS.f (k : Nat) (l0 : List (S87)) (l1 : List (S87)) : Option (Bool) := if (l0.length : Int) = (l1.length : Int) then (laws_eqReportS.l0 k l0 l1 0) else (some false)
def laws_eqReportS.T6 : Bool × List (List Nat × List Nat) := (true, [([], []), ([], []), ([0, 1], [0, 1]), ([2], [2]), ([], []), ([], []), ([4, 5], [4, 5]), ([6], [6]), ([3, 7], [3, 7]), ([8], [8])])
def laws_eqReportS.B6 : List Nat := [0, 0, 3, 7, 0, 0, 48, 112, 255, 511]
theorem laws_eqReportS.tab6 : rtab .any (opsOf Try.f77 6) = laws_eqReportS.T6 := by kernel_rfl
theorem laws_eqReportS.bits6 : waitsOk laws_eqReportS.T6.2 laws_eqReportS.B6 = true := by kernel_rfl
set_option maxHeartbeats 8000000 in
set_option maxRecDepth 100000 in
theorem laws_eqReportS.calls (k : Nat) (A0 : Option Addr) (c0 : Nat) (l0 : List (S87)) (A1 : Option Addr) (c1 : Nat) (l1 : List (S87)) (r : Bool) (w : World) (hr0 : Kd.C k87 w A0 l0.length l0) (hc0 : l0.length ≤ c0) (hr1 : Kd.C k87 w A1 l1.length l1) (hc1 : l1.length ≤ c1) (h : laws_eqReportS.f k l0 l1 = some r) :
  Calls Try.prog 77 #[.slice A0 l0.length c0, .slice A1 l1.length c1] w fun e w' => e = .returned (.bool r) ∧ Below w.heap.size w w' := by
 have hu87 := Try.underlying87
 have HR0 := zK hr0
 have HC0 := zK hc0
 clear hr0 hc0
 have HR1 := zK hr1
 have HC1 := zK hc1
 clear hr1 hc1
 have HB := zK (Below.refl w.heap.size w)
 have H : (if (l0.length : Int) = (l1.length : Int) then (laws_eqReportS.l0 k l0 l1 0) else (some false)) = some r := h
 clear h
 by_cases c3 : (l0.length : Int) = (l1.length : Int)
 rotate_left
 ·rw [if_neg c3] at H
  have c3b0 : ((l0.length : Int) == (l1.length : Int)) = false := beq_eq_false_iff_ne.mpr c3
  have c3b1 : ((l0.length : Int) != (l1.length : Int)) = true := bne_iff_ne.mpr c3
  have c3b2 : (l0.length == l1.length) = false := by first | simpa using c3 | (simp at c3 ⊢; omega)
  obtain rfl := Option.some.inj H
  go_enter Try.func77, Try.ntmps77
  go_wp2
  go_ret
  exact ⟨by first | rfl | (simp [errW_none, errW_some] <;> rfl) | (simp [*, errW_none, errW_some] <;> rfl), by exact qB HB.o⟩
 rw [if_pos c3] at H
 have c3b0 : ((l0.length : Int) == (l1.length : Int)) = true := beq_iff_eq.mpr c3
 have c3b1 : ((l0.length : Int) != (l1.length : Int)) = false := bne_eq_false_iff_eq.mpr c3
 have c3b2 : (l0.length == l1.length) = true := by first | simpa using c3 | (simp at c3 ⊢; omega)
 clear c3
 have H' := zK H
 clear H
 go_enter Try.func77, Try.ntmps77
 go_wp2
 go_loopg [5] k (fun kq v5 w' => ∃ (x5_1 : Int), v5 = .int .i64 x5_1 ∧ Aside0 (laws_eqReportS.l0 kq l0 l1 x5_1 = some r) ∧ Aside0 (kq ≤ k) ∧ Aside0 (Below w.heap.size w w'))
 case atStart => exact ⟨(0), M3, H', ⟨Nat.le_refl _⟩, ⟨by exact qB HB.o⟩⟩
 case round =>
  clear H'
  try clear c1
  try clear p2
  try clear c3
  try clear c3b0
  try clear c3b1
  try clear c3b2
  obtain ⟨x5_1, rfl, HA, HK1, HB⟩ := hrel
  cases gk with
  | zero => exact absurd HA.o (by simp [laws_eqReportS.l0])
  | succ k1 =>
   have H := HA.o
   clear HA
   simp only [laws_eqReportS.l0] at H
   by_cases c4 : x5_1 < (l0.length : Int)
   rotate_left
   ·rw [if_neg c4] at H
    have c4b0 : decide (x5_1 < (l0.length : Int)) = false := decide_eq_false c4
    clear c4
    obtain rfl := Option.some.inj H
    go_wp2
    go_ret
    exact ⟨by first | rfl | (simp [errW_none, errW_some] <;> rfl) | (simp [*, errW_none, errW_some] <;> rfl), by exact qB HB.o⟩
   rw [if_pos c4] at H
   have c4b0 : decide (x5_1 < (l0.length : Int)) = true := decide_eq_true c4
   clear c4
   by_cases c5 : 0 ≤ x5_1
   rotate_left
   ·rw [if_neg c5] at H
    exact absurd H (by simp)
   rw [if_pos c5] at H
   have c5b0 : decide (0 ≤ x5_1) = true := decide_eq_true c5
   clear c5
   by_cases c6 : x5_1 < (l1.length : Int)
   rotate_left
   ·rw [if_neg c6] at H
    exact absurd H (by simp)
   rw [if_pos c6] at H
   have c6b0 : decide (x5_1 < (l1.length : Int)) = true := decide_eq_true c6
   clear c6
   replace H := Option.bind_eq_some_iff.mp H
   obtain ⟨t419, A70, H⟩ := H
   try dsimp only at H
   have A7 := zK A70
   clear A70
   by_cases c8 : t419 = true
   rotate_left
   ·replace c8 := Bool.eq_false_iff.mpr c8
    subst c8
    have H1 : (some false) = some r := by rw [if_neg (show ¬ (false = true) by decide)] at H; exact H
    clear H
    have H := H1
    clear H1
    obtain rfl := Option.some.inj H
    try go_wp2
    have n0_ := zK (below_drew1 HB.o)
    clear HB
    have HB := n0_
    clear n0_
    have p417 : 0 ≤ (x5_1 : Int) := oD M1
    have q417 : x5_1 < (l0.length : Int) := oD M1
    obtain ⟨ad417, A417_2, c417_2, A417_5, c417_5, e417, hx417_0, hx417_1, hx417_2, hx417_3, hx417_4, hx417_5, hx417_6, hx417_7, hl417_2, hi417_2, hl417_5, hi417_5⟩ := at_T87 HR0.o x5_1 p417 q417
    have hw417_7 := hx417_7
    have hw417_6 := hx417_6
    have hw417_5 := hx417_5
    have hw417_4 := hx417_4
    have hw417_3 := hx417_3
    have hw417_2 := hx417_2
    have hw417_1 := hx417_1
    have hw417_0 := hx417_0
    cases e417
    replace hx417_0 := cB HB.o hx417_0
    replace hx417_1 := cB HB.o hx417_1
    replace hx417_2 := cB HB.o hx417_2
    replace hx417_3 := cB HB.o hx417_3
    replace hx417_4 := cB HB.o hx417_4
    replace hx417_5 := cB HB.o hx417_5
    replace hx417_6 := cB HB.o hx417_6
    replace hx417_7 := cB HB.o hx417_7
    have HR417_2 := zK hi417_2
    have HC417_2 := zK hl417_2
    clear hi417_2 hl417_2
    have HR417_5 := zK hi417_5
    have HC417_5 := zK hl417_5
    clear hi417_5 hl417_5
    replace p417 := eq_true p417
    replace q417 := eq_true q417
    have p418 : 0 ≤ (x5_1 : Int) := oD M1
    have q418 : x5_1 < (l1.length : Int) := oD M1
    obtain ⟨ad418, A418_2, c418_2, A418_5, c418_5, e418, hx418_0, hx418_1, hx418_2, hx418_3, hx418_4, hx418_5, hx418_6, hx418_7, hl418_2, hi418_2, hl418_5, hi418_5⟩ := at_T87 HR1.o x5_1 p418 q418
    have hw418_7 := hx418_7
    have hw418_6 := hx418_6
    have hw418_5 := hx418_5
    have hw418_4 := hx418_4
    have hw418_3 := hx418_3
    have hw418_2 := hx418_2
    have hw418_1 := hx418_1
    have hw418_0 := hx418_0
    cases e418
    replace hx418_0 := cB HB.o hx418_0
    replace hx418_1 := cB HB.o hx418_1
    replace hx418_2 := cB HB.o hx418_2
    replace hx418_3 := cB HB.o hx418_3
    replace hx418_4 := cB HB.o hx418_4
    replace hx418_5 := cB HB.o hx418_5
    replace hx418_6 := cB HB.o hx418_6
    replace hx418_7 := cB HB.o hx418_7
    have HR418_2 := zK hi418_2
    have HC418_2 := zK hl418_2
    clear hi418_2 hl418_2
    have HR418_5 := zK hi418_5
    have HC418_5 := zK hl418_5
    clear hi418_5 hl418_5
    replace p418 := eq_true p418
    replace q418 := eq_true q418
    refine start_ (n := 10) (S := fun w' => w'.cell? (ad417.add ((x5_1).toNat * 8)) = some (.int .i64 ((rd_T87 l0 x5_1).f0)) ∧ w'.cell? ⟨(ad417.add ((x5_1).toNat * 8)).block, (ad417.add ((x5_1).toNat * 8)).off + 1, none⟩ = some (.int .i64 ((rd_T87 l0 x5_1).f1)) ∧ w'.cell? ⟨(ad417.add ((x5_1).toNat * 8)).block, (ad417.add ((x5_1).toNat * 8)).off + 2, none⟩ = some (.slice A417_2 ((rd_T87 l0 x5_1).f2).length c417_2) ∧ w'.cell? ⟨(ad417.add ((x5_1).toNat * 8)).block, (ad417.add ((x5_1).toNat * 8)).off + 3, none⟩ = some (.int .i64 ((rd_T87 l0 x5_1).f3)) ∧ w'.cell? ⟨(ad417.add ((x5_1).toNat * 8)).block, (ad417.add ((x5_1).toNat * 8)).off + 4, none⟩ = some (.int .i64 ((rd_T87 l0 x5_1).f4)) ∧ w'.cell? ⟨(ad417.add ((x5_1).toNat * 8)).block, (ad417.add ((x5_1).toNat * 8)).off + 5, none⟩ = some (.slice A417_5 ((rd_T87 l0 x5_1).f5).length c417_5) ∧ w'.cell? ⟨(ad417.add ((x5_1).toNat * 8)).block, (ad417.add ((x5_1).toNat * 8)).off + 6, none⟩ = some (.int .i64 ((rd_T87 l0 x5_1).f6.f0)) ∧ w'.cell? ⟨(ad417.add ((x5_1).toNat * 8)).block, (ad417.add ((x5_1).toNat * 8)).off + 7, none⟩ = some (.int .i64 ((rd_T87 l0 x5_1).f6.f1)) ∧ w'.cell? (ad418.add ((x5_1).toNat * 8)) = some (.int .i64 ((rd_T87 l1 x5_1).f0)) ∧ w'.cell? ⟨(ad418.add ((x5_1).toNat * 8)).block, (ad418.add ((x5_1).toNat * 8)).off + 1, none⟩ = some (.int .i64 ((rd_T87 l1 x5_1).f1)) ∧ w'.cell? ⟨(ad418.add ((x5_1).toNat * 8)).block, (ad418.add ((x5_1).toNat * 8)).off + 2, none⟩ = some (.slice A418_2 ((rd_T87 l1 x5_1).f2).length c418_2) ∧ w'.cell? ⟨(ad418.add ((x5_1).toNat * 8)).block, (ad418.add ((x5_1).toNat * 8)).off + 3, none⟩ = some (.int .i64 ((rd_T87 l1 x5_1).f3)) ∧ w'.cell? ⟨(ad418.add ((x5_1).toNat * 8)).block, (ad418.add ((x5_1).toNat * 8)).off + 4, none⟩ = some (.int .i64 ((rd_T87 l1 x5_1).f4)) ∧ w'.cell? ⟨(ad418.add ((x5_1).toNat * 8)).block, (ad418.add ((x5_1).toNat * 8)).off + 5, none⟩ = some (.slice A418_5 ((rd_T87 l1 x5_1).f5).length c418_5) ∧ w'.cell? ⟨(ad418.add ((x5_1).toNat * 8)).block, (ad418.add ((x5_1).toNat * 8)).off + 6, none⟩ = some (.int .i64 ((rd_T87 l1 x5_1).f6.f0)) ∧ w'.cell? ⟨(ad418.add ((x5_1).toNat * 8)).block, (ad418.add ((x5_1).toNat * 8)).off + 7, none⟩ = some (.int .i64 ((rd_T87 l1 x5_1).f6.f1))) (ds := []) b22A0 (by kernel_rfl) rfl rfl ⟨(cB HB.o hw417_0 :), (cB HB.o hw417_1 :), (cB HB.o hw417_2 :), (cB HB.o hw417_3 :), (cB HB.o hw417_4 :), (cB HB.o hw417_5 :), (cB HB.o hw417_6 :), (cB HB.o hw417_7 :), (cB HB.o hw418_0 :), (cB HB.o hw418_1 :), (cB HB.o hw418_2 :), (cB HB.o hw418_3 :), (cB HB.o hw418_4 :), (cB HB.o hw418_5 :), (cB HB.o hw418_6 :), (cB HB.o hw418_7 :)⟩ (fun hHeld => ?_); refine with_tabW laws_eqReportS.tab6 laws_eqReportS.bits6 (fun HT_ HW_ => ?_)
    generalize wr.drew = w11 at HB HR417_2 HR417_5 HR418_2 HR418_5 hx417_0 hx417_1 hx417_2 hx417_3 hx417_4 hx417_5 hx417_6 hx417_7 hx418_0 hx418_1 hx418_2 hx418_3 hx418_4 hx418_5 hx418_6 hx418_7 hHeld ⊢
    refine pI 0 (some 17) b22A1 HT_ ?_
    refine pI 1 (some 18) b22A2 HT_ ?_
    refine pI 2 (some 19) b22A3 HT_ ?_
    refine pI 4 (some 21) b22A4 HT_ ?_
    refine pI 5 (some 22) b22A5 HT_ ?_
    refine pI 6 (some 23) b22A6 HT_ ?_
    refine tI 3 (some 20) b22A7 HT_ HW_ hHeld rfl rfl (Or.inl ⟨by rfl, by rintro w' ⟨s0, s1, s2, s3, s4, s5, s6, s7, s8, s9, s10, s11, s12, s13, s14, s15⟩; go_simp; with_reducible rfl⟩) ?_
    refine tI 7 (some 24) b22A8 HT_ HW_ hHeld rfl rfl (Or.inl ⟨by rfl, by rintro w' ⟨s0, s1, s2, s3, s4, s5, s6, s7, s8, s9, s10, s11, s12, s13, s14, s15⟩; go_simp; with_reducible rfl⟩) ?_
    refine one_ (i := 8) (N := some 25) b22A9 rfl rfl (one_of HT_.o (by kernel_rfl)) (by decide) (fun K hK => ?_)
    refine goes_ Try.func137 (by kernel_rfl) rfl #[.agg #[.int .i64 ((rd_T87 l0 x5_1).f0), .int .i64 ((rd_T87 l0 x5_1).f1), .slice A417_2 ((rd_T87 l0 x5_1).f2).length c417_2, .int .i64 ((rd_T87 l0 x5_1).f3), .int .i64 ((rd_T87 l0 x5_1).f4), .slice A417_5 ((rd_T87 l0 x5_1).f5).length c417_5, .int .i64 ((rd_T87 l0 x5_1).f6.f0), .int .i64 ((rd_T87 l0 x5_1).f6.f1)], .agg #[.int .i64 ((rd_T87 l1 x5_1).f0), .int .i64 ((rd_T87 l1 x5_1).f1), .slice A418_2 ((rd_T87 l1 x5_1).f2).length c418_2, .int .i64 ((rd_T87 l1 x5_1).f3), .int .i64 ((rd_T87 l1 x5_1).f4), .slice A418_5 ((rd_T87 l1 x5_1).f5).length c418_5, .int .i64 ((rd_T87 l1 x5_1).f6.f0), .int .i64 ((rd_T87 l1 x5_1).f6.f1)]] (by rfl) rfl rfl M0 ?_
    with_reducible refine (laws_eqReport.calls k1 ((rd_T87 l0 x5_1).f0) ((rd_T87 l0 x5_1).f1) _ _ ((rd_T87 l0 x5_1).f2) ((rd_T87 l0 x5_1).f3) ((rd_T87 l0 x5_1).f4) _ _ ((rd_T87 l0 x5_1).f5) ((rd_T87 l0 x5_1).f6.f0) ((rd_T87 l0 x5_1).f6.f1) ((rd_T87 l1 x5_1).f0) ((rd_T87 l1 x5_1).f1) _ _ ((rd_T87 l1 x5_1).f2) ((rd_T87 l1 x5_1).f3) ((rd_T87 l1 x5_1).f4) _ _ ((rd_T87 l1 x5_1).f5) ((rd_T87 l1 x5_1).f6.f0) ((rd_T87 l1 x5_1).f6.f1) false _ ?side1 ?side2 ?side3 ?side4 ?side5 ?side6 ?side7 ?side8 A7.o).mono ?_
    (case side1 => exact Kd.qC (Kd.C_below HR417_2.o HB.o))
    (case side2 => exact HC417_2.o)
    (case side3 => exact Kd.qC (Kd.C_below HR417_5.o HB.o))
    (case side4 => exact HC417_5.o)
    (case side5 => exact Kd.qC (Kd.C_below HR418_2.o HB.o))
    (case side6 => exact HC418_2.o)
    (case side7 => exact Kd.qC (Kd.C_below HR418_5.o HB.o))
    (case side8 => exact HC418_5.o)
    rintro e w12 ⟨rfl, hb⟩
    refine ⟨_, rfl, ?_⟩
    have n0_ := zK (bT (qB HB.o) hb)
    clear HB
    have HB := n0_
    clear n0_
    (try clear hb)
    (try clear hb2)
    (try clear hk)
    (try clear hi)
    refine hK.out _ _ ⟨(cB HB.o hw417_0 :), (cB HB.o hw417_1 :), (cB HB.o hw417_2 :), (cB HB.o hw417_3 :), (cB HB.o hw417_4 :), (cB HB.o hw417_5 :), (cB HB.o hw417_6 :), (cB HB.o hw417_7 :), (cB HB.o hw418_0 :), (cB HB.o hw418_1 :), (cB HB.o hw418_2 :), (cB HB.o hw418_3 :), (cB HB.o hw418_4 :), (cB HB.o hw418_5 :), (cB HB.o hw418_6 :), (cB HB.o hw418_7 :)⟩ (fun hHeld => ?_)
    clear hK K
    refine norm_ (a' := ?_) ?_ ?_
    rotate_left
    ·show Act.put _ (some 25) _ = _
     simp only [Act.put, sA, sZ, sS, i64_w, i32_w]
     rfl
    refine pI 9 (some 26) b22A10 HT_ ?_
    refine done_ (done_of HT_.o (by kernel_rfl)) ?_
    try go_wp2
    go_ret
    exact ⟨by first | rfl | (simp [errW_none, errW_some] <;> rfl) | (simp [*, errW_none, errW_some] <;> rfl), by exact qB HB.o⟩
   subst c8
   have H1 : (laws_eqReportS.l0 k1 l0 l1 (wrap64 (x5_1 + 1))) = some r := by rw [if_pos rfl] at H; exact H
   clear H
   have H := H1
   clear H1
   have H' := zK H
   clear H
   try go_wp2
   have n0_ := zK (below_drew1 HB.o)
   clear HB
   have HB := n0_
   clear n0_
   have p417 : 0 ≤ (x5_1 : Int) := oD M1
   have q417 : x5_1 < (l0.length : Int) := oD M1
   obtain ⟨ad417, A417_2, c417_2, A417_5, c417_5, e417, hx417_0, hx417_1, hx417_2, hx417_3, hx417_4, hx417_5, hx417_6, hx417_7, hl417_2, hi417_2, hl417_5, hi417_5⟩ := at_T87 HR0.o x5_1 p417 q417
   have hw417_7 := hx417_7
   have hw417_6 := hx417_6
   have hw417_5 := hx417_5
   have hw417_4 := hx417_4
   have hw417_3 := hx417_3
   have hw417_2 := hx417_2
   have hw417_1 := hx417_1
   have hw417_0 := hx417_0
   cases e417
   replace hx417_0 := cB HB.o hx417_0
   replace hx417_1 := cB HB.o hx417_1
   replace hx417_2 := cB HB.o hx417_2
   replace hx417_3 := cB HB.o hx417_3
   replace hx417_4 := cB HB.o hx417_4
   replace hx417_5 := cB HB.o hx417_5
   replace hx417_6 := cB HB.o hx417_6
   replace hx417_7 := cB HB.o hx417_7
   have HR417_2 := zK hi417_2
   have HC417_2 := zK hl417_2
   clear hi417_2 hl417_2
   have HR417_5 := zK hi417_5
   have HC417_5 := zK hl417_5
   clear hi417_5 hl417_5
   replace p417 := eq_true p417
   replace q417 := eq_true q417
   have p418 : 0 ≤ (x5_1 : Int) := oD M1
   have q418 : x5_1 < (l1.length : Int) := oD M1
   obtain ⟨ad418, A418_2, c418_2, A418_5, c418_5, e418, hx418_0, hx418_1, hx418_2, hx418_3, hx418_4, hx418_5, hx418_6, hx418_7, hl418_2, hi418_2, hl418_5, hi418_5⟩ := at_T87 HR1.o x5_1 p418 q418
   have hw418_7 := hx418_7
   have hw418_6 := hx418_6
   have hw418_5 := hx418_5
   have hw418_4 := hx418_4
   have hw418_3 := hx418_3
   have hw418_2 := hx418_2
   have hw418_1 := hx418_1
   have hw418_0 := hx418_0
   cases e418
   replace hx418_0 := cB HB.o hx418_0
   replace hx418_1 := cB HB.o hx418_1
   replace hx418_2 := cB HB.o hx418_2
   replace hx418_3 := cB HB.o hx418_3
   replace hx418_4 := cB HB.o hx418_4
   replace hx418_5 := cB HB.o hx418_5
   replace hx418_6 := cB HB.o hx418_6
   replace hx418_7 := cB HB.o hx418_7
   have HR418_2 := zK hi418_2
   have HC418_2 := zK hl418_2
   clear hi418_2 hl418_2
   have HR418_5 := zK hi418_5
   have HC418_5 := zK hl418_5
   clear hi418_5 hl418_5
   replace p418 := eq_true p418
   replace q418 := eq_true q418
   refine start_ (n := 10) (S := fun w' => w'.cell? (ad417.add ((x5_1).toNat * 8)) = some (.int .i64 ((rd_T87 l0 x5_1).f0)) ∧ w'.cell? ⟨(ad417.add ((x5_1).toNat * 8)).block, (ad417.add ((x5_1).toNat * 8)).off + 1, none⟩ = some (.int .i64 ((rd_T87 l0 x5_1).f1)) ∧ w'.cell? ⟨(ad417.add ((x5_1).toNat * 8)).block, (ad417.add ((x5_1).toNat * 8)).off + 2, none⟩ = some (.slice A417_2 ((rd_T87 l0 x5_1).f2).length c417_2) ∧ w'.cell? ⟨(ad417.add ((x5_1).toNat * 8)).block, (ad417.add ((x5_1).toNat * 8)).off + 3, none⟩ = some (.int .i64 ((rd_T87 l0 x5_1).f3)) ∧ w'.cell? ⟨(ad417.add ((x5_1).toNat * 8)).block, (ad417.add ((x5_1).toNat * 8)).off + 4, none⟩ = some (.int .i64 ((rd_T87 l0 x5_1).f4)) ∧ w'.cell? ⟨(ad417.add ((x5_1).toNat * 8)).block, (ad417.add ((x5_1).toNat * 8)).off + 5, none⟩ = some (.slice A417_5 ((rd_T87 l0 x5_1).f5).length c417_5) ∧ w'.cell? ⟨(ad417.add ((x5_1).toNat * 8)).block, (ad417.add ((x5_1).toNat * 8)).off + 6, none⟩ = some (.int .i64 ((rd_T87 l0 x5_1).f6.f0)) ∧ w'.cell? ⟨(ad417.add ((x5_1).toNat * 8)).block, (ad417.add ((x5_1).toNat * 8)).off + 7, none⟩ = some (.int .i64 ((rd_T87 l0 x5_1).f6.f1)) ∧ w'.cell? (ad418.add ((x5_1).toNat * 8)) = some (.int .i64 ((rd_T87 l1 x5_1).f0)) ∧ w'.cell? ⟨(ad418.add ((x5_1).toNat * 8)).block, (ad418.add ((x5_1).toNat * 8)).off + 1, none⟩ = some (.int .i64 ((rd_T87 l1 x5_1).f1)) ∧ w'.cell? ⟨(ad418.add ((x5_1).toNat * 8)).block, (ad418.add ((x5_1).toNat * 8)).off + 2, none⟩ = some (.slice A418_2 ((rd_T87 l1 x5_1).f2).length c418_2) ∧ w'.cell? ⟨(ad418.add ((x5_1).toNat * 8)).block, (ad418.add ((x5_1).toNat * 8)).off + 3, none⟩ = some (.int .i64 ((rd_T87 l1 x5_1).f3)) ∧ w'.cell? ⟨(ad418.add ((x5_1).toNat * 8)).block, (ad418.add ((x5_1).toNat * 8)).off + 4, none⟩ = some (.int .i64 ((rd_T87 l1 x5_1).f4)) ∧ w'.cell? ⟨(ad418.add ((x5_1).toNat * 8)).block, (ad418.add ((x5_1).toNat * 8)).off + 5, none⟩ = some (.slice A418_5 ((rd_T87 l1 x5_1).f5).length c418_5) ∧ w'.cell? ⟨(ad418.add ((x5_1).toNat * 8)).block, (ad418.add ((x5_1).toNat * 8)).off + 6, none⟩ = some (.int .i64 ((rd_T87 l1 x5_1).f6.f0)) ∧ w'.cell? ⟨(ad418.add ((x5_1).toNat * 8)).block, (ad418.add ((x5_1).toNat * 8)).off + 7, none⟩ = some (.int .i64 ((rd_T87 l1 x5_1).f6.f1))) (ds := []) b22A0 (by kernel_rfl) rfl rfl ⟨(cB HB.o hw417_0 :), (cB HB.o hw417_1 :), (cB HB.o hw417_2 :), (cB HB.o hw417_3 :), (cB HB.o hw417_4 :), (cB HB.o hw417_5 :), (cB HB.o hw417_6 :), (cB HB.o hw417_7 :), (cB HB.o hw418_0 :), (cB HB.o hw418_1 :), (cB HB.o hw418_2 :), (cB HB.o hw418_3 :), (cB HB.o hw418_4 :), (cB HB.o hw418_5 :), (cB HB.o hw418_6 :), (cB HB.o hw418_7 :)⟩ (fun hHeld => ?_); refine with_tabW laws_eqReportS.tab6 laws_eqReportS.bits6 (fun HT_ HW_ => ?_)
   generalize wr.drew = w9 at HB HR417_2 HR417_5 HR418_2 HR418_5 hx417_0 hx417_1 hx417_2 hx417_3 hx417_4 hx417_5 hx417_6 hx417_7 hx418_0 hx418_1 hx418_2 hx418_3 hx418_4 hx418_5 hx418_6 hx418_7 hHeld ⊢
   refine pI 0 (some 17) b22A1 HT_ ?_
   refine pI 1 (some 18) b22A2 HT_ ?_
   refine pI 2 (some 19) b22A3 HT_ ?_
   refine pI 4 (some 21) b22A4 HT_ ?_
   refine pI 5 (some 22) b22A5 HT_ ?_
   refine pI 6 (some 23) b22A6 HT_ ?_
   refine tI 3 (some 20) b22A7 HT_ HW_ hHeld rfl rfl (Or.inl ⟨by rfl, by rintro w' ⟨s0, s1, s2, s3, s4, s5, s6, s7, s8, s9, s10, s11, s12, s13, s14, s15⟩; go_simp; with_reducible rfl⟩) ?_
   refine tI 7 (some 24) b22A8 HT_ HW_ hHeld rfl rfl (Or.inl ⟨by rfl, by rintro w' ⟨s0, s1, s2, s3, s4, s5, s6, s7, s8, s9, s10, s11, s12, s13, s14, s15⟩; go_simp; with_reducible rfl⟩) ?_
   refine one_ (i := 8) (N := some 25) b22A9 rfl rfl (one_of HT_.o (by kernel_rfl)) (by decide) (fun K hK => ?_)
   refine goes_ Try.func137 (by kernel_rfl) rfl #[.agg #[.int .i64 ((rd_T87 l0 x5_1).f0), .int .i64 ((rd_T87 l0 x5_1).f1), .slice A417_2 ((rd_T87 l0 x5_1).f2).length c417_2, .int .i64 ((rd_T87 l0 x5_1).f3), .int .i64 ((rd_T87 l0 x5_1).f4), .slice A417_5 ((rd_T87 l0 x5_1).f5).length c417_5, .int .i64 ((rd_T87 l0 x5_1).f6.f0), .int .i64 ((rd_T87 l0 x5_1).f6.f1)], .agg #[.int .i64 ((rd_T87 l1 x5_1).f0), .int .i64 ((rd_T87 l1 x5_1).f1), .slice A418_2 ((rd_T87 l1 x5_1).f2).length c418_2, .int .i64 ((rd_T87 l1 x5_1).f3), .int .i64 ((rd_T87 l1 x5_1).f4), .slice A418_5 ((rd_T87 l1 x5_1).f5).length c418_5, .int .i64 ((rd_T87 l1 x5_1).f6.f0), .int .i64 ((rd_T87 l1 x5_1).f6.f1)]] (by rfl) rfl rfl M0 ?_
   with_reducible refine (laws_eqReport.calls k1 ((rd_T87 l0 x5_1).f0) ((rd_T87 l0 x5_1).f1) _ _ ((rd_T87 l0 x5_1).f2) ((rd_T87 l0 x5_1).f3) ((rd_T87 l0 x5_1).f4) _ _ ((rd_T87 l0 x5_1).f5) ((rd_T87 l0 x5_1).f6.f0) ((rd_T87 l0 x5_1).f6.f1) ((rd_T87 l1 x5_1).f0) ((rd_T87 l1 x5_1).f1) _ _ ((rd_T87 l1 x5_1).f2) ((rd_T87 l1 x5_1).f3) ((rd_T87 l1 x5_1).f4) _ _ ((rd_T87 l1 x5_1).f5) ((rd_T87 l1 x5_1).f6.f0) ((rd_T87 l1 x5_1).f6.f1) true _ ?side1 ?side2 ?side3 ?side4 ?side5 ?side6 ?side7 ?side8 A7.o).mono ?_
   (case side1 => exact Kd.qC (Kd.C_below HR417_2.o HB.o))
   (case side2 => exact HC417_2.o)
   (case side3 => exact Kd.qC (Kd.C_below HR417_5.o HB.o))
   (case side4 => exact HC417_5.o)
   (case side5 => exact Kd.qC (Kd.C_below HR418_2.o HB.o))
   (case side6 => exact HC418_2.o)
   (case side7 => exact Kd.qC (Kd.C_below HR418_5.o HB.o))
   (case side8 => exact HC418_5.o)
   rintro e w10 ⟨rfl, hb⟩
   refine ⟨_, rfl, ?_⟩
   have n0_ := zK (bT (qB HB.o) hb)
   clear HB
   have HB := n0_
   clear n0_
   (try clear hb)
   (try clear hb2)
   (try clear hk)
   (try clear hi)
   refine hK.out _ _ ⟨(cB HB.o hw417_0 :), (cB HB.o hw417_1 :), (cB HB.o hw417_2 :), (cB HB.o hw417_3 :), (cB HB.o hw417_4 :), (cB HB.o hw417_5 :), (cB HB.o hw417_6 :), (cB HB.o hw417_7 :), (cB HB.o hw418_0 :), (cB HB.o hw418_1 :), (cB HB.o hw418_2 :), (cB HB.o hw418_3 :), (cB HB.o hw418_4 :), (cB HB.o hw418_5 :), (cB HB.o hw418_6 :), (cB HB.o hw418_7 :)⟩ (fun hHeld => ?_)
   clear hK K
   refine norm_ (a' := ?_) ?_ ?_
   rotate_left
   ·show Act.put _ (some 25) _ = _
    simp only [Act.put, sA, sZ, sS, i64_w, i32_w]
    rfl
   refine pI 9 (some 26) b22A10 HT_ ?_
   refine done_ (done_of HT_.o (by kernel_rfl)) ?_
   try go_wp2
   go_roundg k1
   case measure => have := HK1.o; omega
   case rel => exact ⟨(wrap64 (x5_1 + 1)), M3, H', ⟨by have := HK1.o; omega⟩, ⟨by exact qB HB.o⟩⟩
/-! ### laws_markLetterS: function 78 -/
def laws_markLetterS.l0 : Nat → List (S81) → Int → Int → Option (Int × (List (S81)))
 | 0, _, _, _ => none
 | k + 1, x0, x1, x5 => if x5 < (x0.length : Int) then (if 0 ≤ x5 then ((some (x0.set (x5 : Int).toNat (⟨x1, (rd_T81 x0 x5).f1, (rd_T81 x0 x5).f2⟩ : S81) : List (S81))).bind fun y420 => ((some (y420.set (x5 : Int).toNat (⟨(rd_T81 y420 x5).f0, wrap64 (x1 + 1), (rd_T81 y420 x5).f2⟩ : S81) : List (S81))).bind fun y421 => (laws_markLetterS.l0 k (y421.set (x5 : Int).toNat (⟨(rd_T81 y421 x5).f0, (rd_T81 y421 x5).f1, wrap64 ((wrap64 (x1 + 1)) + 1)⟩ : S81)) (wrap64 ((wrap64 ((wrap64 (x1 + 1)) + 1)) + 1)) (wrap64 (x5 + 1))))) else (none)) else (some (x1, x0))
def laws_markLetterS.f (k : Nat) (l0 : List (S81)) (a1 : Int) : Option (Int × (List (S81))) := laws_markLetterS.l0 k l0 a1 0
set_option maxHeartbeats 8000000 in
set_option maxRecDepth 100000 in
theorem laws_markLetterS.calls (k : Nat) (P0_ : Nat → Prop) (u9000_ : Value) (l0 : List (S81)) (a1 : Int) (r1 : Int) (r2 : List (S81)) (w0 w : World) (hB : Below w0.heap.size w0 w) (ho0 : Kd.R k81 81 w w0.heap.size P0_ u9000_ l0) (h : laws_markLetterS.f k l0 a1 = some (r1, r2)) :
  Calls Try.prog 78 #[u9000_, .int .i64 a1] w fun e w' => e = .returned (.int .i64 r1) ∧ Kd.R k81 81 w' w0.heap.size (fun k_ => (P0_ k_ ∨ w.heap.size ≤ k_)) u9000_ r2 ∧ Below w0.heap.size w0 w' ∧ Kept w w' (fun k_ => P0_ k_) := by
 have HO0 := zK (show Kd.R k81 81 w w0.heap.size (fun k_ => (P0_ k_ ∨ w.heap.size ≤ k_)) u9000_ l0 from Kd.R_mono ho0 (fun k_ hk => (.inl hk)))
 have HK := zK (Kept.refl w (fun k_ => P0_ k_))
 have HW0 := zK hB.size
 have HB := zK hB
 clear hB
 have H : (laws_markLetterS.l0 k l0 a1 0) = some (r1, r2) := h
 clear h
 have H' := zK H
 clear H
 go_enter Try.func78, Try.ntmps78
 go_wp2
 go_loopg [1, 5] k (fun kq v1 v5 w' => ∃ (x0_1 : List (S81)) (x1_1 : Int) (x5_1 : Int), v1 = .int .i64 x1_1 ∧ v5 = .int .i64 x5_1 ∧ Aside0 (laws_markLetterS.l0 kq x0_1 x1_1 x5_1 = some (r1, r2)) ∧ Aside0 (kq ≤ k) ∧ Aside0 (Kd.R k81 81 w' w0.heap.size (fun k_ => (P0_ k_ ∨ w.heap.size ≤ k_)) u9000_ x0_1) ∧ Aside0 (Kept w w' (fun k_ => P0_ k_)) ∧ Aside0 (Below w0.heap.size w0 w'))
 case atStart => exact ⟨(l0), (a1), (0), M3, M3, H', ⟨Nat.le_refl _⟩, ⟨by exact Kd.qR HO0.o⟩, ⟨by repeat (first | (with_reducible first | exact HK.o | apply Kept.alloc | apply Kept.drewN | apply Kept.drew) | exact HK.o)⟩, ⟨by exact qB HB.o⟩⟩
 case round =>
  clear H'
  try clear p2
  obtain ⟨x0_1, x1_1, x5_1, rfl, rfl, HA, HK1, HO_0, HK, HB⟩ := hrel
  cases gk with
  | zero => exact absurd HA.o (by simp [laws_markLetterS.l0])
  | succ k1 =>
   have H := HA.o
   clear HA
   simp only [laws_markLetterS.l0] at H
   by_cases c3 : x5_1 < (x0_1.length : Int)
   rotate_left
   ·rw [if_neg c3] at H
    have c3b0 : decide (x5_1 < (x0_1.length : Int)) = false := decide_eq_false c3
    clear c3
    simp only [Option.some.injEq, Prod.mk.injEq] at H
    obtain ⟨rfl, rfl⟩ := H
    obtain ⟨Ao15, co15, eo15⟩ := Kd.R_slice HO_0.o
    subst eo15
    go_wp2
    go_ret
    exact ⟨by first | rfl | (simp [errW_none, errW_some] <;> rfl) | (simp [*, errW_none, errW_some] <;> rfl), by exact Kd.qR HO_0.o, by exact qB HB.o, by repeat (first | (with_reducible first | exact HK.o | apply Kept.alloc | apply Kept.drewN | apply Kept.drew) | exact HK.o)⟩
   rw [if_pos c3] at H
   have c3b0 : decide (x5_1 < (x0_1.length : Int)) = true := decide_eq_true c3
   clear c3
   by_cases c4 : 0 ≤ x5_1
   rotate_left
   ·rw [if_neg c4] at H
    exact absurd H (by simp)
   rw [if_pos c4] at H
   have c4b0 : decide (0 ≤ x5_1) = true := decide_eq_true c4
   clear c4
   obtain ⟨y420, hy420⟩ : ∃ y_ : List (S81), y_ = (x0_1.set (x5_1 : Int).toNat (⟨x1_1, (rd_T81 x0_1 x5_1).f1, (rd_T81 x0_1 x5_1).f2⟩ : S81)) := ⟨_, rfl⟩
   replace H : ((some (y420.set (x5_1 : Int).toNat (⟨(rd_T81 y420 x5_1).f0, wrap64 (x1_1 + 1), (rd_T81 y420 x5_1).f2⟩ : S81) : List (S81))).bind fun y421 => (laws_markLetterS.l0 k1 (y421.set (x5_1 : Int).toNat (⟨(rd_T81 y421 x5_1).f0, (rd_T81 y421 x5_1).f1, wrap64 ((wrap64 (x1_1 + 1)) + 1)⟩ : S81)) (wrap64 ((wrap64 ((wrap64 (x1_1 + 1)) + 1)) + 1)) (wrap64 (x5_1 + 1)))) = some (r1, r2) := by first | (rw [hy420]; with_reducible exact H) | (have H2_ := (Option.bind_some _ _).symm.trans H; rw [hy420]; with_reducible exact H2_) | (have H2_ := (Option.bind_some _ _).symm.trans H; with_reducible exact H2_) | with_reducible exact H | (rw [hy420]; exact H) | exact H
   have Ny420 := zK hy420
   clear hy420
   obtain ⟨y421, hy421⟩ : ∃ y_ : List (S81), y_ = (y420.set (x5_1 : Int).toNat (⟨(rd_T81 y420 x5_1).f0, wrap64 (x1_1 + 1), (rd_T81 y420 x5_1).f2⟩ : S81)) := ⟨_, rfl⟩
   replace H : (laws_markLetterS.l0 k1 (y421.set (x5_1 : Int).toNat (⟨(rd_T81 y421 x5_1).f0, (rd_T81 y421 x5_1).f1, wrap64 ((wrap64 (x1_1 + 1)) + 1)⟩ : S81)) (wrap64 ((wrap64 ((wrap64 (x1_1 + 1)) + 1)) + 1)) (wrap64 (x5_1 + 1))) = some (r1, r2) := by first | (rw [hy421]; with_reducible exact H) | (have H2_ := (Option.bind_some _ _).symm.trans H; rw [hy421]; with_reducible exact H2_) | (have H2_ := (Option.bind_some _ _).symm.trans H; with_reducible exact H2_) | with_reducible exact H | (rw [hy421]; exact H) | exact H
   have Ny421 := zK hy421
   clear hy421
   obtain ⟨y422, hy422⟩ : ∃ y_ : List (S81), y_ = (y421.set (x5_1 : Int).toNat (⟨(rd_T81 y421 x5_1).f0, (rd_T81 y421 x5_1).f1, wrap64 ((wrap64 (x1_1 + 1)) + 1)⟩ : S81)) := ⟨_, rfl⟩
   replace H : (laws_markLetterS.l0 k1 y422 (wrap64 ((wrap64 ((wrap64 (x1_1 + 1)) + 1)) + 1)) (wrap64 (x5_1 + 1))) = some (r1, r2) := by first | (rw [hy422]; with_reducible exact H) | (have H2_ := (Option.bind_some _ _).symm.trans H; rw [hy422]; with_reducible exact H2_) | (have H2_ := (Option.bind_some _ _).symm.trans H; with_reducible exact H2_) | with_reducible exact H | (rw [hy422]; exact H) | exact H
   have Ny422 := zK hy422
   clear hy422
   have H' := zK H
   clear H
   obtain ⟨Ao8, co8, eo8⟩ := Kd.R_slice HO_0.o
   subst eo8
   have p5 : 0 ≤ (x5_1 : Int) := oD M1
   have q5 : (x5_1 : Int) < ((x0_1.length : Int) : Int) := oD M1
   obtain ⟨go5, co5, eo5, gb5, gl5, cl5, HG5⟩ := Kd.R_form HO_0.o (by omega)
   (first | cases eo5 | (injection eo5 with ea_ en_ ec_; (first | subst ea_ | (injection ea_ with ea_; subst ea_)); subst ec_; clear en_))
   have GB5 := zK gb5
   have GG5 := zK HG5
   clear gb5 gl5 HG5
   have HMgo5 := zK (show (P0_ go5 ∨ w.heap.size ≤ go5) from (HO_0.o.1 _ rfl))
   obtain ⟨ce5, hcl5, hM5, hcc5, hfr5⟩ := Kd.R_elem HO_0.o z81 (x5_1 : Int) p5 q5
   obtain rfl := k81_openM hM5
   have hx5_0 : wr.cell? ⟨go5, (x5_1 : Int).toNat * 3, none⟩ = some (.int .i64 ((rd_T81 x0_1 x5_1).f0)) := hcc5 0 _ rfl
   have hx5_1 : wr.cell? ⟨go5, (x5_1 : Int).toNat * 3 + 1, none⟩ = some (.int .i64 ((rd_T81 x0_1 x5_1).f1)) := hcc5 1 _ rfl
   have hx5_2 : wr.cell? ⟨go5, (x5_1 : Int).toNat * 3 + 2, none⟩ = some (.int .i64 ((rd_T81 x0_1 x5_1).f2)) := hcc5 2 _ rfl
   have hf5_0 : wr.frozen? ⟨go5, (x5_1 : Int).toNat * 3, none⟩ = false := hfr5 0
   have hf5_1 : wr.frozen? ⟨go5, (x5_1 : Int).toNat * 3 + 1, none⟩ = false := hfr5 1
   have hf5_2 : wr.frozen? ⟨go5, (x5_1 : Int).toNat * 3 + 2, none⟩ = false := hfr5 2
   clear hcl5 hcc5 hfr5 hM5
   replace p5 := eq_true p5
   replace q5 := eq_true q5
   have HX9 := zK (show Kd.R k81 81 wr w0.heap.size (fun k_ => (P0_ k_ ∨ w.heap.size ≤ k_)) (.slice (some ⟨go5, 0, none⟩) x0_1.length co8) x0_1 from (Kd.qR HO_0.o))
   obtain ⟨ce9, hcl9, hM9, hcc9, hfr9⟩ := Kd.R_elem HX9.o z81 (x5_1 : Int) (oD M1) (by have h_ : (x5_1 : Int) < ((x0_1.length : Int) : Int) := oD M1; first | exact h_ | (have e_ := (Kd.R_reads' HO_0.o).1; omega) | simpa using h_)
   obtain rfl := k81_openM hM9
   have HP9 := Kd.R_seg HX9.o (x5_1 : Int) (oD M1) (by have h_ : (x5_1 : Int) < ((x0_1.length : Int) : Int) := oD M1; first | exact h_ | (have e_ := (Kd.R_reads' HO_0.o).1; omega) | simpa using h_) (seg := [.int .i64 x1_1]) (j := 0) hcl9 hcc9 (show 1 ≤ 3 from by decide) (x' := (⟨x1_1, (rd_T81 x0_1 x5_1).f1, (rd_T81 x0_1 x5_1).f2⟩ : S81)) (k81_mkM _ _ _ (⟨x1_1, (rd_T81 x0_1 x5_1).f1, (rd_T81 x0_1 x5_1).f2⟩ : S81) ) (fun _ hk => hk)
   have hx9_0 := hcc9 0 _ rfl
   (try simp only [show (k81).sz = 3 from rfl, Nat.mul_one, Nat.add_zero] at hx9_0)
   have hf9_0 := hfr9 0
   (try simp only [show (k81).sz = 3 from rfl, Nat.mul_one, Nat.add_zero] at hf9_0)
   clear hcl9 hcc9 hfr9 hM9
   go_wp2_with (first | ((with_reducible refine gate_store (t := 3) (p := 16) rfl ?_); refine store_event (t := 3) (p := 16) (v := ?vo_w10) (w1 := (wr.setCell ⟨go5, (x5_1 : Int).toNat * 3, none⟩ (.int .i64 x1_1))) ?hg ?ho ?hn ?hr ?_; (case ho => rfl); (case hg => rfl); (case hn => rfl); (case hr => first | (go_simp; done) | (go_simp; rfl)); intro w10 hw; have hg : wr.grownBy w10 (some go5) := (by rw [hw]; exact HP9.2); have hp_ : Kd.R k81 81 w10 w0.heap.size (fun k_ => (P0_ k_ ∨ w.heap.size ≤ k_)) (.slice (some ⟨go5, 0, none⟩) x0_1.length co8) y420 := (by rw [hw, Ny420.o]; exact HP9.1); clear HP9; have _ := zK (hp_); have _ := zK ((by rw [hw]; exact bS (HB.o) GB5.o : Below w0.heap.size w0 w10)); have _ := zK (Kept.of_grown (S := (fun k_ => P0_ k_)) hg (by repeat (first | (with_reducible first | exact HK.o | apply Kept.alloc | apply Kept.drewN | apply Kept.drew) | exact HK.o)) (fun k_ e_ => (HO_0.o.1 k_ e_))); clear HO_0 HB HK; rename_i HO_0 HB HK; clear hg hw hp_; have p6 : 0 ≤ (x5_1 : Int) := oD M1; have q6 : (x5_1 : Int) < ((x0_1.length : Int) : Int) := oD M1; obtain ⟨ce6, hcl6, hM6, hcc6, hfr6⟩ := Kd.R_elem HO_0.o z81 (x5_1 : Int) p6 q6; obtain rfl := k81_openM hM6; have hx6_0 : w10.cell? ⟨go5, (x5_1 : Int).toNat * 3, none⟩ = some (.int .i64 ((rd_T81 y420 x5_1).f0)) := hcc6 0 _ rfl; have hx6_1 : w10.cell? ⟨go5, (x5_1 : Int).toNat * 3 + 1, none⟩ = some (.int .i64 ((rd_T81 y420 x5_1).f1)) := hcc6 1 _ rfl; have hx6_2 : w10.cell? ⟨go5, (x5_1 : Int).toNat * 3 + 2, none⟩ = some (.int .i64 ((rd_T81 y420 x5_1).f2)) := hcc6 2 _ rfl; have hf6_0 : w10.frozen? ⟨go5, (x5_1 : Int).toNat * 3, none⟩ = false := hfr6 0; have hf6_1 : w10.frozen? ⟨go5, (x5_1 : Int).toNat * 3 + 1, none⟩ = false := hfr6 1; have hf6_2 : w10.frozen? ⟨go5, (x5_1 : Int).toNat * 3 + 2, none⟩ = false := hfr6 2; clear hcl6 hcc6 hfr6 hM6; replace p6 := eq_true p6; replace q6 := eq_true q6; have HX11 := zK (show Kd.R k81 81 w10 w0.heap.size (fun k_ => (P0_ k_ ∨ w.heap.size ≤ k_)) (.slice (some ⟨go5, 0, none⟩) x0_1.length co8) y420 from (Kd.qR HO_0.o)); obtain ⟨ce11, hcl11, hM11, hcc11, hfr11⟩ := Kd.R_elem HX11.o z81 (x5_1 : Int) (oD M1) (by have h_ : (x5_1 : Int) < ((x0_1.length : Int) : Int) := oD M1; first | exact h_ | (have e_ := (Kd.R_reads' HO_0.o).1; omega) | simpa using h_); obtain rfl := k81_openM hM11; have HP11 := Kd.R_seg HX11.o (x5_1 : Int) (oD M1) (by have h_ : (x5_1 : Int) < ((x0_1.length : Int) : Int) := oD M1; first | exact h_ | (have e_ := (Kd.R_reads' HO_0.o).1; omega) | simpa using h_) (seg := [.int .i64 (wrap64 (x1_1 + 1))]) (j := 1) hcl11 hcc11 (show 2 ≤ 3 from by decide) (x' := (⟨(rd_T81 y420 x5_1).f0, wrap64 (x1_1 + 1), (rd_T81 y420 x5_1).f2⟩ : S81)) (k81_mkM _ _ _ (⟨(rd_T81 y420 x5_1).f0, wrap64 (x1_1 + 1), (rd_T81 y420 x5_1).f2⟩ : S81) ) (fun _ hk => hk); have hx11_1 := hcc11 1 _ rfl; (try simp only [show (k81).sz = 3 from rfl, Nat.mul_one, Nat.add_zero] at hx11_1); have hf11_1 := hfr11 1; (try simp only [show (k81).sz = 3 from rfl, Nat.mul_one, Nat.add_zero] at hf11_1); clear hcl11 hcc11 hfr11 hM11) | ((with_reducible refine gate_store (t := 3) (p := 23) rfl ?_); refine store_event (t := 3) (p := 23) (v := ?vo_w12) (w1 := (w10.setCell ⟨go5, (x5_1 : Int).toNat * 3 + 1, none⟩ (.int .i64 (wrap64 (x1_1 + 1))))) ?hg ?ho ?hn ?hr ?_; (case ho => rfl); (case hg => rfl); (case hn => rfl); (case hr => first | (go_simp; done) | (go_simp; rfl)); intro w12 hw; have hg : w10.grownBy w12 (some go5) := (by rw [hw]; exact HP11.2); have hp_ : Kd.R k81 81 w12 w0.heap.size (fun k_ => (P0_ k_ ∨ w.heap.size ≤ k_)) (.slice (some ⟨go5, 0, none⟩) x0_1.length co8) y421 := (by rw [hw, Ny421.o]; exact HP11.1); clear HP11; have _ := zK (hp_); have _ := zK ((by rw [hw]; exact bS (HB.o) GB5.o : Below w0.heap.size w0 w12)); have _ := zK (Kept.of_grown (S := (fun k_ => P0_ k_)) hg (by repeat (first | (with_reducible first | exact HK.o | apply Kept.alloc | apply Kept.drewN | apply Kept.drew) | exact HK.o)) (fun k_ e_ => (HO_0.o.1 k_ e_))); clear HO_0 HB HK; rename_i HO_0 HB HK; clear hg hw hp_; have p7 : 0 ≤ (x5_1 : Int) := oD M1; have q7 : (x5_1 : Int) < ((x0_1.length : Int) : Int) := oD M1; obtain ⟨ce7, hcl7, hM7, hcc7, hfr7⟩ := Kd.R_elem HO_0.o z81 (x5_1 : Int) p7 q7; obtain rfl := k81_openM hM7; have hx7_0 : w12.cell? ⟨go5, (x5_1 : Int).toNat * 3, none⟩ = some (.int .i64 ((rd_T81 y421 x5_1).f0)) := hcc7 0 _ rfl; have hx7_1 : w12.cell? ⟨go5, (x5_1 : Int).toNat * 3 + 1, none⟩ = some (.int .i64 ((rd_T81 y421 x5_1).f1)) := hcc7 1 _ rfl; have hx7_2 : w12.cell? ⟨go5, (x5_1 : Int).toNat * 3 + 2, none⟩ = some (.int .i64 ((rd_T81 y421 x5_1).f2)) := hcc7 2 _ rfl; have hf7_0 : w12.frozen? ⟨go5, (x5_1 : Int).toNat * 3, none⟩ = false := hfr7 0; have hf7_1 : w12.frozen? ⟨go5, (x5_1 : Int).toNat * 3 + 1, none⟩ = false := hfr7 1; have hf7_2 : w12.frozen? ⟨go5, (x5_1 : Int).toNat * 3 + 2, none⟩ = false := hfr7 2; clear hcl7 hcc7 hfr7 hM7; replace p7 := eq_true p7; replace q7 := eq_true q7; have HX13 := zK (show Kd.R k81 81 w12 w0.heap.size (fun k_ => (P0_ k_ ∨ w.heap.size ≤ k_)) (.slice (some ⟨go5, 0, none⟩) x0_1.length co8) y421 from (Kd.qR HO_0.o)); obtain ⟨ce13, hcl13, hM13, hcc13, hfr13⟩ := Kd.R_elem HX13.o z81 (x5_1 : Int) (oD M1) (by have h_ : (x5_1 : Int) < ((x0_1.length : Int) : Int) := oD M1; first | exact h_ | (have e_ := (Kd.R_reads' HO_0.o).1; omega) | simpa using h_); obtain rfl := k81_openM hM13; have HP13 := Kd.R_seg HX13.o (x5_1 : Int) (oD M1) (by have h_ : (x5_1 : Int) < ((x0_1.length : Int) : Int) := oD M1; first | exact h_ | (have e_ := (Kd.R_reads' HO_0.o).1; omega) | simpa using h_) (seg := [.int .i64 (wrap64 ((wrap64 (x1_1 + 1)) + 1))]) (j := 2) hcl13 hcc13 (show 3 ≤ 3 from by decide) (x' := (⟨(rd_T81 y421 x5_1).f0, (rd_T81 y421 x5_1).f1, wrap64 ((wrap64 (x1_1 + 1)) + 1)⟩ : S81)) (k81_mkM _ _ _ (⟨(rd_T81 y421 x5_1).f0, (rd_T81 y421 x5_1).f1, wrap64 ((wrap64 (x1_1 + 1)) + 1)⟩ : S81) ) (fun _ hk => hk); have hx13_2 := hcc13 2 _ rfl; (try simp only [show (k81).sz = 3 from rfl, Nat.mul_one, Nat.add_zero] at hx13_2); have hf13_2 := hfr13 2; (try simp only [show (k81).sz = 3 from rfl, Nat.mul_one, Nat.add_zero] at hf13_2); clear hcl13 hcc13 hfr13 hM13) | ((with_reducible refine gate_store (t := 3) (p := 30) rfl ?_); refine store_event (t := 3) (p := 30) (v := ?vo_w14) (w1 := (w12.setCell ⟨go5, (x5_1 : Int).toNat * 3 + 2, none⟩ (.int .i64 (wrap64 ((wrap64 (x1_1 + 1)) + 1))))) ?hg ?ho ?hn ?hr ?_; (case ho => rfl); (case hg => rfl); (case hn => rfl); (case hr => first | (go_simp; done) | (go_simp; rfl)); intro w14 hw; have hg : w12.grownBy w14 (some go5) := (by rw [hw]; exact HP13.2); have hp_ : Kd.R k81 81 w14 w0.heap.size (fun k_ => (P0_ k_ ∨ w.heap.size ≤ k_)) (.slice (some ⟨go5, 0, none⟩) x0_1.length co8) y422 := (by rw [hw, Ny422.o]; exact HP13.1); clear HP13; have _ := zK (hp_); have _ := zK ((by rw [hw]; exact bS (HB.o) GB5.o : Below w0.heap.size w0 w14)); have _ := zK (Kept.of_grown (S := (fun k_ => P0_ k_)) hg (by repeat (first | (with_reducible first | exact HK.o | apply Kept.alloc | apply Kept.drewN | apply Kept.drew) | exact HK.o)) (fun k_ e_ => (HO_0.o.1 k_ e_))); clear HO_0 HB HK; rename_i HO_0 HB HK; clear hg hw hp_))
   go_roundg k1
   case measure => have := HK1.o; omega
   case rel => exact ⟨(y422), (wrap64 ((wrap64 ((wrap64 (x1_1 + 1)) + 1)) + 1)), (wrap64 (x5_1 + 1)), M3, M3, H', ⟨by have := HK1.o; omega⟩, ⟨by exact Kd.qR HO_0.o⟩, ⟨by repeat (first | (with_reducible first | exact HK.o | apply Kept.alloc | apply Kept.drewN | apply Kept.drew) | exact HK.o)⟩, ⟨by exact qB HB.o⟩⟩
theorem qCell {W : World} {base g o n cap : Nat} {ok : Nat → Prop} {xs : List (S81)} (h : Kd.Q k81 81 W base ok (.slice (some ⟨g, o, none⟩) n cap) xs) (i : Int) (h0 : 0 ≤ i) (h1 : i < n) :
  (W.cell? ⟨g, o + i.toNat * 3, none⟩ = some (.int .i64 (rd_T81 xs i).f0) ∧ W.cell? ⟨g, o + i.toNat * 3 + 1, none⟩ = some (.int .i64 (rd_T81 xs i).f1) ∧ W.cell? ⟨g, o + i.toNat * 3 + 2, none⟩ = some (.int .i64 (rd_T81 xs i).f2)) ∧ (W.frozen? ⟨g, o + i.toNat * 3, none⟩ = false ∧ W.frozen? ⟨g, o + i.toNat * 3 + 1, none⟩ = false ∧ W.frozen? ⟨g, o + i.toNat * 3 + 2, none⟩ = false) := by
 obtain ⟨c, hcl, hM, hcc, hfr⟩ := Kd.Q_elem h z81 i h0 h1
 obtain rfl := k81_openM hM
 exact ⟨⟨hcc 0 _ rfl, hcc 1 _ rfl, hcc 2 _ rfl⟩, hfr 0, hfr 1, hfr 2⟩
theorem qPut {W : World} {base g o n cap : Nat} {ok : Nat → Prop} {xs : List (S81)} (h : Kd.Q k81 81 W base ok (.slice (some ⟨g, o, none⟩) n cap) xs) (i : Int) (h0 : 0 ≤ i) (h1 : i < n) (j : Nat) (hj : j + 1 ≤ 3) (u : Int) (x' : S81)
  (hx : ([.int .i64 (rd_T81 xs i).f0, .int .i64 (rd_T81 xs i).f1, .int .i64 (rd_T81 xs i).f2] : List Value).take j ++ [.int .i64 u] ++ ([.int .i64 (rd_T81 xs i).f0, .int .i64 (rd_T81 xs i).f1, .int .i64 (rd_T81 xs i).f2] : List Value).drop (j + 1) = [.int .i64 x'.f0, .int .i64 x'.f1, .int .i64 x'.f2]) :
  Kd.Q k81 81 (W.setCell ⟨g, o + i.toNat * 3 + j, none⟩ (.int .i64 u)) base ok (.slice (some ⟨g, o, none⟩) n cap) (xs.set i.toNat x') ∧ W.grownBy (W.setCell ⟨g, o + i.toNat * 3 + j, none⟩ (.int .i64 u)) (some g) := by
 obtain ⟨c, hcl, hM, hcc, hfr⟩ := Kd.Q_elem h z81 i h0 h1
 obtain rfl := k81_openM hM
 exact Kd.Q_seg h i h0 h1 (seg := [.int .i64 u]) (j := j) hcl hcc hj (x' := x') (okp := fun k => ok k ∧ k ≠ g) (by
  have e := k81_mkM W base (fun k => ok k ∧ k ≠ g) x'
  rw [← hx] at e
  exact e) (fun _ hk => hk)
set_option maxHeartbeats 8000000 in
set_option maxRecDepth 100000 in
theorem laws_markLetterS.callsQ (k : Nat) (P0_ : Nat → Prop) (u9000_ : Value) (l0 : List (S81)) (a1 : Int) (r1 : Int) (r2 : List (S81)) (w0 w : World) (hB : Below w0.heap.size w0 w) (ho0 : Kd.Q k81 81 w w0.heap.size P0_ u9000_ l0) (h : laws_markLetterS.f k l0 a1 = some (r1, r2)) :
  Calls Try.prog 78 #[u9000_, .int .i64 a1] w fun e w' => e = .returned (.int .i64 r1) ∧ Kd.Q k81 81 w' w0.heap.size (fun k_ => (P0_ k_ ∨ w.heap.size ≤ k_)) u9000_ r2 ∧ Below w0.heap.size w0 w' ∧ Kept w w' (fun k_ => P0_ k_) := by
 have HO0 := zK (show Kd.Q k81 81 w w0.heap.size (fun k_ => (P0_ k_ ∨ w.heap.size ≤ k_)) u9000_ l0 from Kd.Q_mono ho0 (fun k_ hk => (.inl hk)))
 have HK := zK (Kept.refl w (fun k_ => P0_ k_))
 have HB := zK hB
 clear hB ho0
 have H' := zK (show laws_markLetterS.l0 k l0 a1 0 = some (r1, r2) from h)
 clear h
 go_enter Try.func78, Try.ntmps78
 go_wp2
 go_loopg [1, 5] k (fun kq v1 v5 w' => ∃ (x0_1 : List (S81)) (x1_1 : Int) (x5_1 : Int), v1 = .int .i64 x1_1 ∧ v5 = .int .i64 x5_1 ∧ Aside0 (laws_markLetterS.l0 kq x0_1 x1_1 x5_1 = some (r1, r2)) ∧ Aside0 (kq ≤ k) ∧ Aside0 (Kd.Q k81 81 w' w0.heap.size (fun k_ => (P0_ k_ ∨ w.heap.size ≤ k_)) u9000_ x0_1) ∧ Aside0 (Kept w w' (fun k_ => P0_ k_)) ∧ Aside0 (Below w0.heap.size w0 w'))
 case atStart => exact ⟨l0, a1, 0, rfl, rfl, H', ⟨Nat.le_refl _⟩, HO0, HK, HB⟩
 case round =>
  clear H' HO0 HK HB
  obtain ⟨x0_1, x1_1, x5_1, rfl, rfl, HA, HK1, HQ, HK, HB⟩ := hrel
  cases gk with
  | zero => exact absurd HA.o (by simp [laws_markLetterS.l0])
  | succ k1 =>
   have H := HA.o
   clear HA
   simp only [laws_markLetterS.l0] at H
   by_cases c3 : x5_1 < (x0_1.length : Int)
   rotate_left
   ·rw [if_neg c3] at H
    have c3b0 : decide (x5_1 < (x0_1.length : Int)) = false := decide_eq_false c3
    simp only [Option.some.injEq, Prod.mk.injEq] at H
    obtain ⟨rfl, rfl⟩ := H
    obtain ⟨Ao9, co9, eo9, _⟩ := Kd.Q_reads HQ.o
    subst eo9
    go_wp2
    go_ret
    exact ⟨rfl, HQ.o, HB.o, HK.o⟩
   rw [if_pos c3] at H
   have c3b0 : decide (x5_1 < (x0_1.length : Int)) = true := decide_eq_true c3
   by_cases c4 : 0 ≤ x5_1
   rotate_left
   ·rw [if_neg c4] at H
    exact absurd H (by simp)
   rw [if_pos c4] at H
   have c4b0 : decide (0 ≤ x5_1) = true := decide_eq_true c4
   obtain ⟨y1, hy1⟩ : ∃ y_ : List (S81), y_ = x0_1.set (x5_1 : Int).toNat (⟨x1_1, (rd_T81 x0_1 x5_1).f1, (rd_T81 x0_1 x5_1).f2⟩ : S81) := ⟨_, rfl⟩
   obtain ⟨y2, hy2⟩ : ∃ y_ : List (S81), y_ = y1.set (x5_1 : Int).toNat (⟨(rd_T81 y1 x5_1).f0, (wrap64 (x1_1 + 1)), (rd_T81 y1 x5_1).f2⟩ : S81) := ⟨_, rfl⟩
   obtain ⟨y3, hy3⟩ : ∃ y_ : List (S81), y_ = y2.set (x5_1 : Int).toNat (⟨(rd_T81 y2 x5_1).f0, (rd_T81 y2 x5_1).f1, (wrap64 (wrap64 (x1_1 + 1) + 1))⟩ : S81) := ⟨_, rfl⟩
   replace H : laws_markLetterS.l0 k1 y3 (wrap64 (wrap64 (wrap64 (x1_1 + 1) + 1) + 1)) (wrap64 (x5_1 + 1)) = some (r1, r2) := by rw [hy3, hy2, hy1]; exact H
   have Ny1 := zK hy1
   have Ny2 := zK hy2
   have Ny3 := zK hy3
   have H' := zK H
   clear hy1 hy2 hy3 H
   obtain ⟨g, o, cap, e, gb, _, _⟩ := Kd.Q_form HQ.o (by omega)
   subst e
   have GB5 := zK gb
   have HM5 := zK (Kd.Q_ok HQ.o g rfl)
   have HP5 := zK c4
   have HQ5 := zK c3
   obtain ⟨⟨hx0, _, _⟩, hf0, _, _⟩ := qCell HQ.o x5_1 c4 c3
   have p5 := eq_true c4
   have q5 := eq_true c3
   clear gb c3 c4
   go_wp2_with (first | ((with_reducible refine gate_store (t := 3) (p := 16) rfl ?_); refine store_event (t := 3) (p := 16) (v := ?vo_w1) (w1 := (wr.setCell ⟨g, o + (x5_1 : Int).toNat * 3, none⟩ (.int .i64 x1_1))) ?hg ?ho ?hn ?hr ?_; (case ho => rfl); (case hg => rfl); (case hn => rfl); (case hr => first | (go_simp; done) | (go_simp; rfl)); intro w1 hw; have hs_ := qPut HQ.o x5_1 HP5.o HQ5.o 0 (by decide) x1_1 (⟨x1_1, (rd_T81 x0_1 x5_1).f1, (rd_T81 x0_1 x5_1).f2⟩ : S81) rfl; have hg : wr.grownBy w1 (some g) := (by rw [hw]; exact hs_.2); have _ := zK (show Kd.Q k81 81 w1 w0.heap.size (fun k_ => (P0_ k_ ∨ w.heap.size ≤ k_)) (.slice (some ⟨g, o, none⟩) x0_1.length cap) y1 from (by rw [hw, Ny1.o]; exact hs_.1)); have _ := zK (show Below w0.heap.size w0 w1 from (by rw [hw]; exact bS (HB.o) GB5.o)); have _ := zK (Kept.of_grown (S := (fun k_ => P0_ k_)) hg HK.o (fun k_ e_ => M29)); clear HQ HB HK hs_ hg hw; rename_i HQ HB HK; obtain ⟨hc_, hf_⟩ := qCell HQ.o x5_1 HP5.o HQ5.o; have hx1 := hc_.2.1; have hf1 := hf_.2.1; clear hc_ hf_) | ((with_reducible refine gate_store (t := 3) (p := 23) rfl ?_); refine store_event (t := 3) (p := 23) (v := ?vo_w2) (w1 := (w1.setCell ⟨g, o + (x5_1 : Int).toNat * 3 + 1, none⟩ (.int .i64 (wrap64 (x1_1 + 1))))) ?hg ?ho ?hn ?hr ?_; (case ho => rfl); (case hg => rfl); (case hn => rfl); (case hr => first | (go_simp; done) | (go_simp; rfl)); intro w2 hw; have hs_ := qPut HQ.o x5_1 HP5.o HQ5.o 1 (by decide) (wrap64 (x1_1 + 1)) (⟨(rd_T81 y1 x5_1).f0, (wrap64 (x1_1 + 1)), (rd_T81 y1 x5_1).f2⟩ : S81) rfl; have hg : w1.grownBy w2 (some g) := (by rw [hw]; exact hs_.2); have _ := zK (show Kd.Q k81 81 w2 w0.heap.size (fun k_ => (P0_ k_ ∨ w.heap.size ≤ k_)) (.slice (some ⟨g, o, none⟩) x0_1.length cap) y2 from (by rw [hw, Ny2.o]; exact hs_.1)); have _ := zK (show Below w0.heap.size w0 w2 from (by rw [hw]; exact bS (HB.o) GB5.o)); have _ := zK (Kept.of_grown (S := (fun k_ => P0_ k_)) hg HK.o (fun k_ e_ => M29)); clear HQ HB HK hs_ hg hw; rename_i HQ HB HK; obtain ⟨hc_, hf_⟩ := qCell HQ.o x5_1 HP5.o HQ5.o; have hx2 := hc_.2.2; have hf2 := hf_.2.2; clear hc_ hf_) | ((with_reducible refine gate_store (t := 3) (p := 30) rfl ?_); refine store_event (t := 3) (p := 30) (v := ?vo_w3) (w1 := (w2.setCell ⟨g, o + (x5_1 : Int).toNat * 3 + 2, none⟩ (.int .i64 (wrap64 (wrap64 (x1_1 + 1) + 1))))) ?hg ?ho ?hn ?hr ?_; (case ho => rfl); (case hg => rfl); (case hn => rfl); (case hr => first | (go_simp; done) | (go_simp; rfl)); intro w3 hw; have hs_ := qPut HQ.o x5_1 HP5.o HQ5.o 2 (by decide) (wrap64 (wrap64 (x1_1 + 1) + 1)) (⟨(rd_T81 y2 x5_1).f0, (rd_T81 y2 x5_1).f1, (wrap64 (wrap64 (x1_1 + 1) + 1))⟩ : S81) rfl; have hg : w2.grownBy w3 (some g) := (by rw [hw]; exact hs_.2); have _ := zK (show Kd.Q k81 81 w3 w0.heap.size (fun k_ => (P0_ k_ ∨ w.heap.size ≤ k_)) (.slice (some ⟨g, o, none⟩) x0_1.length cap) y3 from (by rw [hw, Ny3.o]; exact hs_.1)); have _ := zK (show Below w0.heap.size w0 w3 from (by rw [hw]; exact bS (HB.o) GB5.o)); have _ := zK (Kept.of_grown (S := (fun k_ => P0_ k_)) hg HK.o (fun k_ e_ => M29)); clear HQ HB HK hs_ hg hw; rename_i HQ HB HK))
   go_roundg k1
   case measure => have := HK1.o; omega
   case rel => exact ⟨y3, (wrap64 (wrap64 (wrap64 (x1_1 + 1) + 1) + 1)), (wrap64 (x5_1 + 1)), rfl, rfl, H', ⟨by have := HK1.o; omega⟩, (by
    have hq := HQ.o
    have e : y3.length = x0_1.length := by rw [Ny3.o, List.length_set, Ny2.o, List.length_set, Ny1.o, List.length_set]
    exact ⟨hq⟩), HK, HB⟩
theorem Kd.Q_reok {α : Type} {d : Kd α} {e base : Nat} {W : World} {ok ok1 : Nat → Prop} {v : Value} {xs : List α} (hE : d.E = []) (h : d.Q e W base ok1 v xs) (hok : ∀ k, v.ownBlock = some k → ok k) : d.Q e W base ok v xs := Kd.Q_mono (Kd.Q_tight hE h) (fun k hk => hok k hk.symm)

end Go.Proofs.Ytpkdbkheggfkkaa.PFnExactLettersFor
