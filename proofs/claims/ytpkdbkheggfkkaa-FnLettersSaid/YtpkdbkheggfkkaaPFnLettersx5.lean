/- Walks of functions that FnLetters reaches, shortened. -/
import Derived.Test.YtpkdbkheggfkkaaPFnLettersx0
import Derived.Test.YtpkdbkheggfkkaaPFnLettersx1
import Derived.Test.YtpkdbkheggfkkaaPFnLettersx3
import Derived.Test.YtpkdbkheggfkkaaPFnLettersx4
namespace Go.Proofs.Ytpkdbkheggfkkaa.PFnLetters
open Go.RowKit Go.Proofs.YtpkdbkheggfkkaaW.PrintWords Go.Proofs.YtpkdbkheggfkkaaW.PrintLast Go.Proofs.YtpkdbkheggfkkaaW.PrintMore
attribute [local go_sem] max2_int min2_int max_two min_two max_three min_three max_four min_four
set_option linter.unusedVariables false
set_option linter.unusedSimpArgs false

abbrev b5A0 : Array Bool := #[O, O, O, O, O, O, O, O, O]
abbrev b5A1 : Array Bool := #[I, O, O, O, O, O, O, O, O]
abbrev b5A2 : Array Bool := #[I, I, O, O, O, O, O, O, O]
abbrev b5A3 : Array Bool := #[I, I, O, I, O, O, O, O, O]
abbrev b5A4 : Array Bool := #[I, I, I, I, O, O, O, O, O]
abbrev b5A5 : Array Bool := #[I, I, I, I, I, O, O, O, O]
abbrev b5A6 : Array Bool := #[I, I, I, I, I, I, O, O, O]
abbrev b5A7 : Array Bool := #[I, I, I, I, I, I, I, O, O]
abbrev b5A8 : Array Bool := #[I, I, I, I, I, I, I, I, O]
abbrev b5A9 : Array Bool := #[I, I, I, I, I, I, I, I, I]
abbrev b5A10 : Array Bool := #[O, O, O, O, O, O, O, O, O, O, O, O]
abbrev b5A11 : Array Bool := #[I, O, O, O, O, O, O, O, O, O, O, O]
abbrev b5A12 : Array Bool := #[I, O, I, O, O, O, O, O, O, O, O, O]
abbrev b5A13 : Array Bool := #[I, O, I, O, O, O, I, O, O, O, O, O]
abbrev b5A14 : Array Bool := #[I, I, I, O, O, O, I, O, O, O, O, O]
abbrev b5A15 : Array Bool := #[I, I, I, O, O, O, I, I, O, O, O, O]
abbrev b5A16 : Array Bool := #[I, I, I, I, O, O, I, I, O, O, O, O]
abbrev b5A17 : Array Bool := #[I, I, I, I, I, O, I, I, O, O, O, O]
abbrev b5A18 : Array Bool := #[I, I, I, I, I, I, I, I, O, O, O, O]
abbrev b5A19 : Array Bool := #[I, I, I, I, I, I, I, I, I, O, O, O]
abbrev b5A20 : Array Bool := #[I, I, I, I, I, I, I, I, I, I, O, O]
abbrev b5A21 : Array Bool := #[I, I, I, I, I, I, I, I, I, I, I, O]
abbrev b5A22 : Array Bool := #[I, I, I, I, I, I, I, I, I, I, I, I]
/-! ### spec_l8For: function 115 -/
mutual
def spec_l8For.j0 : Nat → List Int → Int → Int → Int → Int → Int → Int → Int → Int → Int → Int → Int → Int → List Int → Int → Int → List Int → Int → Int → Option (Int × Int × List Int × Int × Int × List Int × Int × Int × Int × Int)
 | 0, _, _, _, _, _, _, _, _, _, _, _, _, _, _, _, _, _, _, _ => none
 | k + 1, x1000, x1001, x1002, x422000, x422001, x422002, x422003, x422004, x422005, x422006, x422007, x438000, x438001, x438002, x438003, x438004, x438005, x438006, x438007 => (spec_l1Once.f x1000 x1001 x1002 6).bind fun bt444 => (if bt444.1 = true then (spec_l8For.j1 k x1000 bt444.2.1 bt444.2.2 x422000 x422001 x422002 x422003 x422004 x422005 x422006 x422007 x438000 x438001 x438002 x438003 x438004 x438005 x438006 x438007) else ((spec_l1Below.f x1000 bt444.2.1 bt444.2.2 4).bind fun bt447 => ((spec_Max.f 1 (wrap64 (x422003 - bt447.1))).bind fun t450 => ((spec_l1Below.f x1000 bt447.2.1 bt447.2.2 4).bind fun bt451 => ((spec_Min.f 50 (wrap64 (x422003 + bt451.1))).bind fun t454 => (spec_l8For.j1 k x1000 bt451.2.1 bt451.2.2 x422000 x422001 x422002 x422003 x422004 x422005 x422006 x422007 x438000 x438001 x438002 t450 t454 x438005 x438006 x438007))))))
def spec_l8For.j1 : Nat → List Int → Int → Int → Int → Int → Int → Int → Int → Int → Int → Int → Int → Int → List Int → Int → Int → List Int → Int → Int → Option (Int × Int × List Int × Int × Int × List Int × Int × Int × Int × Int)
 | 0, _, _, _, _, _, _, _, _, _, _, _, _, _, _, _, _, _, _, _ => none
 | k + 1, x1000, x1001, x1002, x422000, x422001, x422002, x422003, x422004, x422005, x422006, x422007, x438000, x438001, x438002, x438003, x438004, x438005, x438006, x438007 => (spec_l1Once.f x1000 x1001 x1002 6).bind fun bt455 => (if bt455.1 = true then (spec_l8For.j2 k x1000 bt455.2.1 bt455.2.2 x422000 x422001 x422002 x422003 x422004 x422005 x422006 x422007 x438000 x438001 x438002 x438003 x438004 x438005 x438006 x438007) else (spec_l8For.j2 k x1000 bt455.2.1 bt455.2.2 x422000 x422001 x422002 x422003 x422004 x422005 x422006 x422007 x438000 x438001 x438002 x438003 x438004 (([x422005] : List Int)) x438006 x438007))
def spec_l8For.j2 : Nat → List Int → Int → Int → Int → Int → Int → Int → Int → Int → Int → Int → Int → Int → List Int → Int → Int → List Int → Int → Int → Option (Int × Int × List Int × Int × Int × List Int × Int × Int × Int × Int)
 | 0, _, _, _, _, _, _, _, _, _, _, _, _, _, _, _, _, _, _, _ => none
 | k + 1, x1000, x1001, x1002, x422000, x422001, x422002, x422003, x422004, x422005, x422006, x422007, x438000, x438001, x438002, x438003, x438004, x438005, x438006, x438007 => (spec_l1Once.f x1000 x1001 x1002 6).bind fun bt461 => (if bt461.1 = true then (some (x438000, x438001, x438002, x438003, x438004, x438005, x438006, x438007, bt461.2.1, bt461.2.2)) else ((spec_l1Below.f x1000 bt461.2.1 bt461.2.2 40).bind fun bt464 => ((spec_Max.f 0 (wrap64 (x422006 - bt464.1))).bind fun t467 => ((spec_Max.f 0 x422006).bind fun t468 => (some (x438000, x438001, x438002, x438003, x438004, x438005, t467, t468, bt464.2.1, bt464.2.2))))))
end
def spec_l8For.f (k : Nat) (s0_0 : List Int) (s0_1 : Int) (s0_2 : Int) (a1_0 : Int) (a1_1 : Int) (a1_2 : Int) (a1_3 : Int) (a1_4 : Int) (a1_5 : Int) (a1_6 : Int) (a1_7 : Int) (a2 : Int) : Option (Int × Int × List Int × Int × Int × List Int × Int × Int × Int × Int) := (spec_l7Draw.f k s0_0 s0_1 s0_2 a2).bind fun bt423 => ((spec_l1Once.f s0_0 bt423.2.2.2.2.2.2.2.2.1 bt423.2.2.2.2.2.2.2.2.2 6).bind fun bt438 => (if bt438.1 = true then (spec_l8For.j0 k s0_0 bt438.2.1 bt438.2.2 a1_0 a1_1 a1_2 a1_3 a1_4 a1_5 a1_6 a1_7 bt423.1 a1_1 bt423.2.2.1 bt423.2.2.2.1 bt423.2.2.2.2.1 bt423.2.2.2.2.2.1 bt423.2.2.2.2.2.2.1 bt423.2.2.2.2.2.2.2.1) else (spec_l8For.j0 k s0_0 bt438.2.1 bt438.2.2 a1_0 a1_1 a1_2 a1_3 a1_4 a1_5 a1_6 a1_7 bt423.1 a1_1 (([a1_2] : List Int)) bt423.2.2.2.1 bt423.2.2.2.2.1 bt423.2.2.2.2.2.1 bt423.2.2.2.2.2.2.1 bt423.2.2.2.2.2.2.2.1)))
def spec_l8For.T6 : Bool × List (List Nat × List Nat) := (true, [([], []), ([0], [0]), ([1], [1]), ([], []), ([3], [3]), ([2, 4], [2, 4]), ([5, 4], [5]), ([0, 1, 2, 3, 4, 5, 6], []), ([7, 6, 6, 0, 1, 2, 3, 4, 5, 6], [6, 7])])
def spec_l8For.B6 : List Nat := [0, 1, 3, 0, 8, 31, 63, 127, 255]
theorem spec_l8For.tab6 : rtab .any (opsOf Try.f115 6) = spec_l8For.T6 := by kernel_rfl
theorem spec_l8For.bits6 : waitsOk spec_l8For.T6.2 spec_l8For.B6 = true := by kernel_rfl
def spec_l8For.T7 : Bool × List (List Nat × List Nat) := (true, [([], []), ([0], [0]), ([1], [1]), ([], []), ([3], [3]), ([2, 4], [2, 4]), ([5, 4], [5]), ([0, 1, 2, 3, 4, 5, 6], []), ([7, 6, 6, 0, 1, 2, 3, 4, 5, 6], [6, 7])])
def spec_l8For.B7 : List Nat := [0, 1, 3, 0, 8, 31, 63, 127, 255]
theorem spec_l8For.tab7 : rtab .any (opsOf Try.f115 7) = spec_l8For.T7 := by kernel_rfl
theorem spec_l8For.bits7 : waitsOk spec_l8For.T7.2 spec_l8For.B7 = true := by kernel_rfl
def spec_l8For.T11 : Bool × List (List Nat × List Nat) := (true, [([], []), ([0], [0]), ([], []), ([2], [2]), ([1, 3], [1, 3]), ([4, 3], [4]), ([], []), ([6], [6]), ([7, 5], [7]), ([5, 8], [5, 8]), ([0, 1, 2, 3, 4, 5, 6, 7, 8, 9], []), ([10, 9, 8, 0, 1, 2, 3, 4, 5, 6, 7, 8, 9], [9, 10])])
def spec_l8For.B11 : List Nat := [0, 1, 0, 4, 15, 31, 0, 64, 255, 511, 1023, 2047]
theorem spec_l8For.tab11 : rtab .any (opsOf Try.f115 11) = spec_l8For.T11 := by kernel_rfl
theorem spec_l8For.bits11 : waitsOk spec_l8For.T11.2 spec_l8For.B11 = true := by kernel_rfl
set_option maxHeartbeats 8000000 in
set_option maxRecDepth 100000 in
theorem spec_l8For.calls (k : Nat) (g : Nat) (s0_0 : List Int) (s0_1 : Int) (s0_2 : Int) (a1_0 : Int) (a1_1 : Int) (a1_2 : Int) (a1_3 : Int) (a1_4 : Int) (a1_5 : Int) (a1_6 : Int) (a1_7 : Int) (a2 : Int) (r1 : Int) (r2 : Int) (r3 : List Int) (r4 : Int) (r5 : Int) (r6 : List Int) (r7 : Int) (r8 : Int) (r9 : Int) (r10 : Int) (w0 w : World) (hI : IsS187 w0 w g s0_0 s0_1 s0_2) (hB : Below w0.heap.size w0 w) (h : spec_l8For.f k s0_0 s0_1 s0_2 a1_0 a1_1 a1_2 a1_3 a1_4 a1_5 a1_6 a1_7 a2 = some (r1, r2, r3, r4, r5, r6, r7, r8, r9, r10)) :
  Calls Try.prog 115 #[.pointer (some ⟨g, 0, none⟩), .agg #[.int .i64 a1_0, .int .i64 a1_1, .int .i64 a1_2, .int .i64 a1_3, .int .i64 a1_4, .int .i64 a1_5, .int .i64 a1_6, .int .i64 a1_7], .int .i64 a2] w fun e w' => ∃ v2_ v5_ : Value, e = .returned (.agg #[.int .i64 r1, .int .i64 r2, v2_, .int .i64 r4, .int .i64 r5, v5_, .int .i64 r7, .int .i64 r8]) ∧ Kd.R (Kd.int .i64) 3 w' w.heap.size (fun k_ => some k_ ≠ (v5_ : Value).ownBlock) v2_ r3 ∧ Kd.R (Kd.int .i64) 3 w' w.heap.size (fun k_ => some k_ ≠ (v2_ : Value).ownBlock) v5_ r6 ∧ IsS187 w0 w' g s0_0 r9 r10 ∧ Below w0.heap.size w0 w' ∧ KeepBut w w' g none := by
 have hu126 := Try.underlying126
 have hu87 := Try.underlying87
 have hu85 := Try.underlying85
 have HI0 := zK hI
 have HK := zK (KeepBut.refl w g none)
 have HL := zK hB.size
 clear hI
 have HW0 := zK hB.size
 have HB := zK hB
 clear hB
 have H : ((spec_l7Draw.f k s0_0 s0_1 s0_2 a2).bind fun bt423 => ((spec_l1Once.f s0_0 bt423.2.2.2.2.2.2.2.2.1 bt423.2.2.2.2.2.2.2.2.2 6).bind fun bt438 => (if bt438.1 = true then (spec_l8For.j0 k s0_0 bt438.2.1 bt438.2.2 a1_0 a1_1 a1_2 a1_3 a1_4 a1_5 a1_6 a1_7 bt423.1 a1_1 bt423.2.2.1 bt423.2.2.2.1 bt423.2.2.2.2.1 bt423.2.2.2.2.2.1 bt423.2.2.2.2.2.2.1 bt423.2.2.2.2.2.2.2.1) else (spec_l8For.j0 k s0_0 bt438.2.1 bt438.2.2 a1_0 a1_1 a1_2 a1_3 a1_4 a1_5 a1_6 a1_7 bt423.1 a1_1 (([a1_2] : List Int)) bt423.2.2.2.1 bt423.2.2.2.2.1 bt423.2.2.2.2.2.1 bt423.2.2.2.2.2.2.1 bt423.2.2.2.2.2.2.2.1)))) = some (r1, r2, r3, r4, r5, r6, r7, r8, r9, r10) := h
 clear h
 replace H := Option.bind_eq_some_iff.mp H
 obtain ⟨⟨t423, t424, t425, t428, t429, t430, t433, t434, t435, t436⟩, A40, H⟩ := H
 try dsimp only at H
 have A4 := zK A40
 clear A40
 replace H := Option.bind_eq_some_iff.mp H
 obtain ⟨⟨t438, t439, t440⟩, A50, H⟩ := H
 try dsimp only at H
 have A5 := zK A50
 clear A50
 have HC6 := zK H
 clear H
 go_enter Try.func115, Try.ntmps115
 go_upto_if 17 with (first | ((with_reducible refine gate_dst (N := 4) rfl ?_); refine box_event ?hg (N := 4) ?hd (cs := #[.int .i64 a1_0, .int .i64 a1_1, .int .i64 a1_2, .int .i64 a1_3, .int .i64 a1_4, .int .i64 a1_5, .int .i64 a1_6, .int .i64 a1_7]) (t := 126) ?hr ?_; (case hd => rfl); (case hg => rfl); (case hr => first | (go_simp; done) | (go_simp; rfl)); intro gb421 hg w7 hbox hb; have _ := zK (IsS187.below M6 hb); have _ := zK (KeepBut.trans M1 (KeepBut.of_below hb g none) (.inl rfl)); have _ := zK (bT M11 hb); have _ := zK (hbox); have _ := zK ((by rw [hg]; exact (keep_size (w := w) (g := g) (row := none) M1) : w.heap.size ≤ gb421)); have _ := zK ((Nat.le_trans HW0.o (by rw [hg]; exact (keep_size (w := w) (g := g) (row := none) M1) : w.heap.size ≤ gb421) : w0.heap.size ≤ gb421)); have _ := zK ((by rw [hg]; exact Nat.ne_of_lt (IsS187.lt (show IsS187 w0 _ g s0_0 s0_1 s0_2 from Q0)) : g ≠ gb421)); have _ := zK ((by rw [hg]; exact Nat.ne_of_gt (IsS187.lt (show IsS187 w0 _ g s0_0 s0_1 s0_2 from Q0)) : gb421 ≠ g)); clear HI0 HK HB; rename_i HI0 HK HB BK421 GW421 GE421 NB0_421 NB421_0; clear hb hbox hg) | ((with_reducible refine gate_dst (N := 6) rfl ?_); refine box_event ?hg (N := 6) ?hd (cs := #[.int .i64 0, .int .i64 0, .slice none 0 0, .int .i64 0, .int .i64 0, .slice none 0 0, .int .i64 0, .int .i64 0]) (t := 87) ?hr ?_; (case hd => rfl); (case hg => rfl); (case hr => first | (go_simp; done) | (go_simp; rfl)); intro gb422 hg w8 hbox hb; have _ := zK (IsS187.below (Q20) hb); have _ := zK (bB (qK BK421.o) hb); have _ := zK (KeepBut.trans (Q23) (KeepBut.of_below hb g none) (.inl rfl)); have _ := zK (bT (by repeat (first | (with_reducible first | exact HB.o | apply bA | apply bN | apply below_drew1 | refine bS ?_ (IsS187.ge HI0.o) | refine bS ?_ GE421.o) | exact HB.o)) hb); have _ := zK (hbox); have _ := zK ((by rw [hg]; exact (keep_size (w := w) (g := g) (row := none) (Q23)) : w.heap.size ≤ gb422)); have _ := zK ((Nat.le_trans HW0.o (by rw [hg]; exact (keep_size (w := w) (g := g) (row := none) (Q23)) : w.heap.size ≤ gb422) : w0.heap.size ≤ gb422)); have _ := zK ((by rw [hg]; exact Nat.ne_of_lt (blk_lt (qK BK421.o)) : gb421 ≠ gb422)); have _ := zK ((by rw [hg]; exact Nat.ne_of_gt (blk_lt (qK BK421.o)) : gb422 ≠ gb421)); have _ := zK ((by rw [hg]; exact Nat.ne_of_lt (IsS187.lt (show IsS187 w0 _ g s0_0 s0_1 s0_2 from Q20)) : g ≠ gb422)); have _ := zK ((by rw [hg]; exact Nat.ne_of_gt (IsS187.lt (show IsS187 w0 _ g s0_0 s0_1 s0_2 from Q20)) : gb422 ≠ g)); clear HI0 BK421 HK HB; rename_i HI0 BK421 HK HB BK422 GW422 GE422 NB421_422 NB422_421 NB0_422 NB422_0; clear hb hbox hg) | ((with_reducible refine gate_callee (f := 163) rfl ?_); refine goesL_ (some 10) rfl rfl Try.func163 (by kernel_rfl) rfl #[.pointer (some ⟨g, 0, none⟩), .int .i64 a2] rfl M0 ?_; (with_reducible refine (spec_l7Draw.calls k g s0_0 s0_1 s0_2 a2 t423 t424 t425 t428 t429 t430 t433 t434 t435 t436 w0 _ ?side1 ?side2 A4.o).mono ?_); (case side1 => repeat (first | (with_reducible first | exact HI0.o | apply IsS187.alloc | apply IsS187.drewN | apply IsS187.drew | apply IsS187.set_1 | apply IsS187.set_2 | refine IsS187.far ?_ NB0_421.o _ | refine IsS187.far ?_ NB0_422.o _) | exact HI0.o)); (case side2 => repeat (first | (with_reducible first | exact HB.o | apply bA | apply bN | apply below_drew1 | refine bS ?_ (IsS187.ge HI0.o) | refine bS ?_ GE421.o | refine bS ?_ GE422.o) | exact HB.o)); rintro e w9 ⟨v426, v431, rfl, ho0, ho1, hi, hb, hk⟩; refine ⟨_, rfl, ?_⟩; have _ := zK (KeepBut.blk hk (g' := gb421) (o := .cells #[.int .i64 a1_0, .int .i64 a1_1, .int .i64 a1_2, .int .i64 a1_3, .int .i64 a1_4, .int .i64 a1_5, .int .i64 a1_6, .int .i64 a1_7] 126 (0, 0)) (qK BK421.o) NB421_0.o (by simp)); have _ := zK (KeepBut.blk hk (g' := gb422) (o := .cells #[.int .i64 0, .int .i64 0, .slice none 0 0, .int .i64 0, .int .i64 0, .slice none 0 0, .int .i64 0, .int .i64 0] 87 (0, 0)) (qK BK422.o) NB422_0.o (by simp)); have _ := zK (Kd.R_lower ho0 (keep_size (w := w) (g := g) (row := none) M33)); have _ := zK (Kd.R_lower ho1 (keep_size (w := w) (g := g) (row := none) M33)); have _ := zK (KeepBut.trans M33 hk (.inl rfl)); have _ := zK (hb); have _ := zK (hi); clear BK421 BK422 HK HB HI0; rename_i BK421 BK422 HO427 HO432 HK HB HI0; (try clear hb); (try clear hb2); (try clear hk); (try clear hi); (try clear ho0); (try clear ho1)) | ((with_reducible refine gate_dst (N := 7) rfl ?_); refine box_event ?hg (N := 7) ?hd (cs := #[.int .i64 0, .int .i64 0, .slice none 0 0, .int .i64 0, .int .i64 0, .slice none 0 0, .int .i64 0, .int .i64 0]) (t := 87) ?hr ?_; (case hd => rfl); (case hg => rfl); (case hr => first | (go_simp; done) | (go_simp; rfl)); intro gb437 hg w10 hbox hb; have _ := zK (Kd.R_below (Kd.qR HO427.o) hb); have _ := zK (Kd.R_below (Kd.qR HO432.o) hb); have _ := zK (IsS187.below (Q19) hb); have _ := zK (bB (qK BK421.o) hb); have _ := zK (bB (qK BK422.o) hb); have _ := zK (KeepBut.trans M33 (KeepBut.of_below hb g none) (.inl rfl)); have _ := zK (bT (by repeat (first | (with_reducible first | exact HB.o | apply bA | apply bN | apply below_drew1 | refine bS ?_ (IsS187.ge HI0.o) | refine bS ?_ GE421.o | refine bS ?_ GE422.o) | exact HB.o)) hb); have _ := zK (hbox); have _ := zK ((by rw [hg]; exact (keep_size (w := w) (g := g) (row := none) M33) : w.heap.size ≤ gb437)); have _ := zK ((Nat.le_trans HW0.o (by rw [hg]; exact (keep_size (w := w) (g := g) (row := none) M33) : w.heap.size ≤ gb437) : w0.heap.size ≤ gb437)); have _ := zK ((by rw [hg]; exact Nat.ne_of_lt (blk_lt (qK BK421.o)) : gb421 ≠ gb437)); have _ := zK ((by rw [hg]; exact Nat.ne_of_gt (blk_lt (qK BK421.o)) : gb437 ≠ gb421)); have _ := zK ((by rw [hg]; exact Nat.ne_of_lt (blk_lt (qK BK422.o)) : gb422 ≠ gb437)); have _ := zK ((by rw [hg]; exact Nat.ne_of_gt (blk_lt (qK BK422.o)) : gb437 ≠ gb422)); have _ := zK ((by rw [hg]; exact Nat.ne_of_lt (IsS187.lt (show IsS187 w0 _ g s0_0 t435 t436 from Q19)) : g ≠ gb437)); have _ := zK ((by rw [hg]; exact Nat.ne_of_gt (IsS187.lt (show IsS187 w0 _ g s0_0 t435 t436 from Q19)) : gb437 ≠ g)); clear HO427 HO432 HI0 BK421 BK422 HK HB; rename_i HO427 HO432 HI0 BK421 BK422 HK HB BK437 GW437 GE437 NB421_437 NB437_421 NB422_437 NB437_422 NB0_437 NB437_0; clear hb hbox hg; have hnb11 := NB437_421.o; have hnc11 := NB421_437.o; have hnb12 := NB437_422.o; have hnc12 := NB422_437.o; have hnb13 := NB437_0.o; have hnc13 := NB0_437.o; obtain ⟨hcz14_0, hcz14_1, hcz14_2, hcz14_3, hcz14_4, hcz14_5, hcz14_6, hcz14_7, hfz14_0, hfz14_1, hfz14_2, hfz14_3, hfz14_4, hfz14_5, hfz14_6, hfz14_7⟩ := bx8 BK437.o; obtain ⟨Ao15, co15, eo15⟩ := Kd.R_slice HO427.o; subst eo15; obtain ⟨Ao16, co16, eo16⟩ := Kd.R_slice HO432.o; subst eo16; have hnb17 := NB421_422.o; have hnc17 := NB422_421.o; have hnb18 := NB421_0.o; have hnc18 := NB0_421.o; obtain ⟨hcz19_0, hcz19_1, hcz19_2, hcz19_3, hcz19_4, hcz19_5, hcz19_6, hcz19_7, hfz19_0, hfz19_1, hfz19_2, hfz19_3, hfz19_4, hfz19_5, hfz19_6, hfz19_7⟩ := bx8 BK421.o) | ((with_reducible refine gate_callee (f := 114) rfl ?_); refine goesL_ (some 16) rfl rfl Try.func114 (by kernel_rfl) rfl #[.pointer (some ⟨g, 0, none⟩), .int .i64 6] rfl M0 ?_; (with_reducible refine (spec_l1Once.calls g s0_0 t435 t436 6 t438 t439 t440 w0 _ ?side1 ?side2 A5.o).mono ?_); (case side1 => repeat (first | (with_reducible first | exact HI0.o | apply IsS187.alloc | apply IsS187.drewN | apply IsS187.drew | apply IsS187.set_1 | apply IsS187.set_2 | refine IsS187.far ?_ NB0_421.o _ | refine IsS187.far ?_ NB0_422.o _ | refine IsS187.far ?_ NB0_437.o _) | exact HI0.o)); (case side2 => repeat (first | (with_reducible first | exact HB.o | apply bA | apply bN | apply below_drew1 | refine bS ?_ (IsS187.ge HI0.o) | refine bS ?_ GE421.o | refine bS ?_ GE422.o | refine bS ?_ GE437.o) | exact HB.o)); rintro e w20 ⟨rfl, hi, hb, hk⟩; refine ⟨_, rfl, ?_⟩; have _ := zK (KeepBut.blk hk (g' := gb421) (o := .cells #[.int .i64 a1_0, .int .i64 a1_1, .int .i64 a1_2, .int .i64 a1_3, .int .i64 a1_4, .int .i64 a1_5, .int .i64 a1_6, .int .i64 a1_7] 126 (0, 0)) (by (with_reducible repeat (first | refine kN ?_ _ | refine kD ?_ | refine kA ?_ _)); refine blk_far ?_ NB421_437.o _; (with_reducible repeat (first | refine kN ?_ _ | refine kD ?_ | refine kA ?_ _)); refine blk_far ?_ NB421_437.o _; (with_reducible repeat (first | refine kN ?_ _ | refine kD ?_ | refine kA ?_ _)); refine blk_far ?_ NB421_437.o _; (with_reducible repeat (first | refine kN ?_ _ | refine kD ?_ | refine kA ?_ _)); refine blk_far ?_ NB421_437.o _; (with_reducible repeat (first | refine kN ?_ _ | refine kD ?_ | refine kA ?_ _)); refine blk_far ?_ NB421_437.o _; (with_reducible repeat (first | refine kN ?_ _ | refine kD ?_ | refine kA ?_ _)); refine blk_far ?_ NB421_437.o _; (with_reducible repeat (first | refine kN ?_ _ | refine kD ?_ | refine kA ?_ _)); refine blk_far ?_ NB421_437.o _; (with_reducible repeat (first | refine kN ?_ _ | refine kD ?_ | refine kA ?_ _)); refine blk_far ?_ NB421_437.o _; (with_reducible repeat (first | refine kN ?_ _ | refine kD ?_ | refine kA ?_ _)); refine blk_far ?_ NB421_437.o _; exact qK BK421.o) NB421_0.o (by simp)); have _ := zK (KeepBut.blk hk (g' := gb422) (o := .cells #[.int .i64 0, .int .i64 0, .slice none 0 0, .int .i64 0, .int .i64 0, .slice none 0 0, .int .i64 0, .int .i64 0] 87 (0, 0)) (by (with_reducible repeat (first | refine kN ?_ _ | refine kD ?_ | refine kA ?_ _)); refine blk_far ?_ NB422_437.o _; (with_reducible repeat (first | refine kN ?_ _ | refine kD ?_ | refine kA ?_ _)); refine blk_far ?_ NB422_437.o _; (with_reducible repeat (first | refine kN ?_ _ | refine kD ?_ | refine kA ?_ _)); refine blk_far ?_ NB422_437.o _; (with_reducible repeat (first | refine kN ?_ _ | refine kD ?_ | refine kA ?_ _)); refine blk_far ?_ NB422_437.o _; (with_reducible repeat (first | refine kN ?_ _ | refine kD ?_ | refine kA ?_ _)); refine blk_far ?_ NB422_437.o _; (with_reducible repeat (first | refine kN ?_ _ | refine kD ?_ | refine kA ?_ _)); refine blk_far ?_ NB422_437.o _; (with_reducible repeat (first | refine kN ?_ _ | refine kD ?_ | refine kA ?_ _)); refine blk_far ?_ NB422_437.o _; (with_reducible repeat (first | refine kN ?_ _ | refine kD ?_ | refine kA ?_ _)); refine blk_far ?_ NB422_437.o _; (with_reducible repeat (first | refine kN ?_ _ | refine kD ?_ | refine kA ?_ _)); refine blk_far ?_ NB422_437.o _; exact qK BK422.o) NB422_0.o (by simp)); have _ := zK (Kd.R_mono (Kd.R_keep (IsS187.apart (show IsS187 w0 _ g s0_0 t435 t436 from Q2) (by (with_reducible repeat (first | apply Kd.RA | apply Kd.RN | apply Kd.RD)); exact (Kd.R_mono (Kd.R_far (p := ⟨gb437, 1, none⟩) (Kd.R_far (p := ⟨gb437, 7, none⟩) (Kd.R_far (p := ⟨gb437, 6, none⟩) (Kd.R_far (p := ⟨gb437, 5, none⟩) (Kd.R_far (p := ⟨gb437, 4, none⟩) (Kd.R_far (p := ⟨gb437, 3, none⟩) (Kd.R_far (p := ⟨gb437, 2, none⟩) (Kd.R_far (p := ⟨gb437, 1, none⟩) (Kd.R_far (p := ⟨gb437, 0, none⟩) (Kd.R_types HO427.o BK437.o (by decide)) (fun _ hk => hk.2) (.int .i64 t423)) (fun _ hk => hk.2) (.int .i64 t424)) (fun _ hk => hk.2) (.slice Ao15 t425.length co15)) (fun _ hk => hk.2) (.int .i64 t428)) (fun _ hk => hk.2) (.int .i64 t429)) (fun _ hk => hk.2) (.slice Ao16 t430.length co16)) (fun _ hk => hk.2) (.int .i64 t433)) (fun _ hk => hk.2) (.int .i64 t434)) (fun _ hk => hk.2) (.int .i64 a1_1)) (fun _ h_ => h_.1))) (by decide)) hk (fun _ h => h.2)) (fun _ h => h.1)); have _ := zK (Kd.R_mono (Kd.R_keep (IsS187.apart (show IsS187 w0 _ g s0_0 t435 t436 from Q2) (by (with_reducible repeat (first | apply Kd.RA | apply Kd.RN | apply Kd.RD)); exact (Kd.R_mono (Kd.R_far (p := ⟨gb437, 1, none⟩) (Kd.R_far (p := ⟨gb437, 7, none⟩) (Kd.R_far (p := ⟨gb437, 6, none⟩) (Kd.R_far (p := ⟨gb437, 5, none⟩) (Kd.R_far (p := ⟨gb437, 4, none⟩) (Kd.R_far (p := ⟨gb437, 3, none⟩) (Kd.R_far (p := ⟨gb437, 2, none⟩) (Kd.R_far (p := ⟨gb437, 1, none⟩) (Kd.R_far (p := ⟨gb437, 0, none⟩) (Kd.R_types HO432.o BK437.o (by decide)) (fun _ hk => hk.2) (.int .i64 t423)) (fun _ hk => hk.2) (.int .i64 t424)) (fun _ hk => hk.2) (.slice Ao15 t425.length co15)) (fun _ hk => hk.2) (.int .i64 t428)) (fun _ hk => hk.2) (.int .i64 t429)) (fun _ hk => hk.2) (.slice Ao16 t430.length co16)) (fun _ hk => hk.2) (.int .i64 t433)) (fun _ hk => hk.2) (.int .i64 t434)) (fun _ hk => hk.2) (.int .i64 a1_1)) (fun _ h_ => h_.1))) (by decide)) hk (fun _ h => h.2)) (fun _ h => h.1)); have _ := zK (KeepBut.blk hk (g' := gb437) (o := .cells #[.int .i64 t423, .int .i64 a1_1, .slice Ao15 t425.length co15, .int .i64 t428, .int .i64 t429, .slice Ao16 t430.length co16, .int .i64 t433, .int .i64 t434] 87 (0, 0)) (by (with_reducible repeat (first | refine kN ?_ _ | refine kD ?_ | refine kA ?_ _)); refine blk_put (cs := #[.int .i64 t423, .int .i64 t424, .slice Ao15 t425.length co15, .int .i64 t428, .int .i64 t429, .slice Ao16 t430.length co16, .int .i64 t433, .int .i64 t434]) ?_ 1 _ rfl; (with_reducible repeat (first | refine kN ?_ _ | refine kD ?_ | refine kA ?_ _)); refine blk_put (cs := #[.int .i64 t423, .int .i64 t424, .slice Ao15 t425.length co15, .int .i64 t428, .int .i64 t429, .slice Ao16 t430.length co16, .int .i64 t433, .int .i64 0]) ?_ 7 _ rfl; (with_reducible repeat (first | refine kN ?_ _ | refine kD ?_ | refine kA ?_ _)); refine blk_put (cs := #[.int .i64 t423, .int .i64 t424, .slice Ao15 t425.length co15, .int .i64 t428, .int .i64 t429, .slice Ao16 t430.length co16, .int .i64 0, .int .i64 0]) ?_ 6 _ rfl; (with_reducible repeat (first | refine kN ?_ _ | refine kD ?_ | refine kA ?_ _)); refine blk_put (cs := #[.int .i64 t423, .int .i64 t424, .slice Ao15 t425.length co15, .int .i64 t428, .int .i64 t429, .slice none 0 0, .int .i64 0, .int .i64 0]) ?_ 5 _ rfl; (with_reducible repeat (first | refine kN ?_ _ | refine kD ?_ | refine kA ?_ _)); refine blk_put (cs := #[.int .i64 t423, .int .i64 t424, .slice Ao15 t425.length co15, .int .i64 t428, .int .i64 0, .slice none 0 0, .int .i64 0, .int .i64 0]) ?_ 4 _ rfl; (with_reducible repeat (first | refine kN ?_ _ | refine kD ?_ | refine kA ?_ _)); refine blk_put (cs := #[.int .i64 t423, .int .i64 t424, .slice Ao15 t425.length co15, .int .i64 0, .int .i64 0, .slice none 0 0, .int .i64 0, .int .i64 0]) ?_ 3 _ rfl; (with_reducible repeat (first | refine kN ?_ _ | refine kD ?_ | refine kA ?_ _)); refine blk_put (cs := #[.int .i64 t423, .int .i64 t424, .slice none 0 0, .int .i64 0, .int .i64 0, .slice none 0 0, .int .i64 0, .int .i64 0]) ?_ 2 _ rfl; (with_reducible repeat (first | refine kN ?_ _ | refine kD ?_ | refine kA ?_ _)); refine blk_put (cs := #[.int .i64 t423, .int .i64 0, .slice none 0 0, .int .i64 0, .int .i64 0, .slice none 0 0, .int .i64 0, .int .i64 0]) ?_ 1 _ rfl; (with_reducible repeat (first | refine kN ?_ _ | refine kD ?_ | refine kA ?_ _)); refine blk_put (cs := #[.int .i64 0, .int .i64 0, .slice none 0 0, .int .i64 0, .int .i64 0, .slice none 0 0, .int .i64 0, .int .i64 0]) ?_ 0 _ rfl; exact qK BK437.o) NB437_0.o (by simp)); have _ := zK (KeepBut.trans M14 hk (.inl rfl)); have _ := zK (hb); have _ := zK (hi); clear BK421 BK422 HO427 HO432 BK437 HK HB HI0; rename_i BK421 BK422 HO427 HO432 BK437 HK HB HI0; (try clear hb); (try clear hb2); (try clear hk); (try clear hi)))
 (try simp only [Act.put, sA, sZ, sS])
 go_cut [] (fun wc => ∃ (kq : Nat) (x438002_5 : List Int) (u438002 : Value), Aside0 (spec_l8For.j0 kq s0_0 t439 t440 a1_0 a1_1 a1_2 a1_3 a1_4 a1_5 a1_6 a1_7 t423 a1_1 x438002_5 t428 t429 t430 t433 t434 = some (r1, r2, r3, r4, r5, r6, r7, r8, r9, r10)) ∧ Aside0 (kq ≤ k) ∧ Aside0 (Kd.R (Kd.int .i64) 3 wc w.heap.size (fun k_ => some k_ ≠ ((.slice Ao16 t430.length co16) : Value).ownBlock) u438002 x438002_5) ∧ Aside0 (Kd.R (Kd.int .i64) 3 wc w.heap.size (fun k_ => some k_ ≠ (u438002 : Value).ownBlock) (.slice Ao16 t430.length co16) t430) ∧ Aside0 (wc.heap[gb421]? = some (.cells #[.int .i64 a1_0, .int .i64 a1_1, .int .i64 a1_2, .int .i64 a1_3, .int .i64 a1_4, .int .i64 a1_5, .int .i64 a1_6, .int .i64 a1_7] 126 (0, 0))) ∧ Aside0 (wc.heap[gb422]? = some (.cells #[.int .i64 0, .int .i64 0, (.slice none 0 0), .int .i64 0, .int .i64 0, (.slice none 0 0), .int .i64 0, .int .i64 0] 87 (0, 0))) ∧ Aside0 (wc.heap[gb437]? = some (.cells #[.int .i64 t423, .int .i64 a1_1, u438002, .int .i64 t428, .int .i64 t429, (.slice Ao16 t430.length co16), .int .i64 t433, .int .i64 t434] 87 (0, 0))) ∧ Aside0 (IsS187 w0 wc g s0_0 t439 t440) ∧ Aside0 (KeepBut w wc g none) ∧ Aside0 (Below w0.heap.size w0 wc))
 case first =>
  have H := HC6.o
  clear HC6
  by_cases c21 : t438 = true
  ·subst c21
   have H1 : (spec_l8For.j0 k s0_0 t439 t440 a1_0 a1_1 a1_2 a1_3 a1_4 a1_5 a1_6 a1_7 t423 a1_1 t425 t428 t429 t430 t433 t434) = some (r1, r2, r3, r4, r5, r6, r7, r8, r9, r10) := by rw [if_pos rfl] at H; exact H
   clear H
   have H := H1
   clear H1
   have H' := zK H
   clear H
   go_wp2
   go_meet
   case rel => exact ⟨_, (t425), (.slice Ao15 t425.length co15), H', ⟨by first | omega | exact Nat.le_refl _⟩, ⟨by exact Kd.qR HO427.o⟩, ⟨by exact Kd.qR HO432.o⟩, ⟨by exact qK BK421.o⟩, ⟨by exact qK BK422.o⟩, ⟨by exact qK BK437.o⟩, ⟨Q2⟩, ⟨Q7⟩, ⟨Q6⟩⟩
  replace c21 := Bool.eq_false_iff.mpr c21
  subst c21
  have H1 : (spec_l8For.j0 k s0_0 t439 t440 a1_0 a1_1 a1_2 a1_3 a1_4 a1_5 a1_6 a1_7 t423 a1_1 (([a1_2] : List Int)) t428 t429 t430 t433 t434) = some (r1, r2, r3, r4, r5, r6, r7, r8, r9, r10) := by rw [if_neg (show ¬ (false = true) by decide)] at H; exact H
  clear H
  have H := H1
  clear H1
  obtain ⟨y441, hy441⟩ : ∃ y_ : List Int, y_ = (([a1_2] : List Int)) := ⟨_, rfl⟩
  replace H : (spec_l8For.j0 k s0_0 t439 t440 a1_0 a1_1 a1_2 a1_3 a1_4 a1_5 a1_6 a1_7 t423 a1_1 y441 t428 t429 t430 t433 t434) = some (r1, r2, r3, r4, r5, r6, r7, r8, r9, r10) := by first | (rw [hy441]; with_reducible exact H) | (have H2_ := (Option.bind_some _ _).symm.trans H; rw [hy441]; with_reducible exact H2_) | (have H2_ := (Option.bind_some _ _).symm.trans H; with_reducible exact H2_) | with_reducible exact H | (rw [hy441]; exact H) | exact H
  have Ny441 := zK hy441
  clear hy441
  have H' := zK H
  clear H
  have hnb22 := NB421_422.o
  have hnc22 := NB422_421.o
  have hnb23 := NB421_437.o
  have hnc23 := NB437_421.o
  have hnb24 := NB421_0.o
  have hnc24 := NB0_421.o
  obtain ⟨hcz25_0, hcz25_1, hcz25_2, hcz25_3, hcz25_4, hcz25_5, hcz25_6, hcz25_7, hfz25_0, hfz25_1, hfz25_2, hfz25_3, hfz25_4, hfz25_5, hfz25_6, hfz25_7⟩ := bx8 BK421.o
  go_wp2_with (first | ((with_reducible refine gate_dst (N := 21) rfl ?_); refine Kd.R_lit (Kd.int .i64) _ 3 ?hg (N := 21) ?hd (xs := ([a1_2] : List Int)) (inner := [.int .i64 a1_2]) (ok := fun _ => True) (okp := fun _ => True) ?hr ?hp (fun _ hk => hk) trivial (Below.refl _ _) (Nat.le_refl _) (by simp) ?_; (case hd => rfl); (case hg => rfl); (case hr => first | (go_simp; done) | (go_simp; rfl)); (case hp => exact (Reps.one (show Kd.M (Kd.int .i64) _ _ _ a1_2 [.int .i64 a1_2] from rfl) (Reps.none _ _))); intro v442 w26 ho27 hb hg_ hnew_; clear hg_ hnew_; (first | rw [← Ny441.o] at ho27 | (simp only [Int.reduceToNat] at ho27; rw [← Ny441.o] at ho27)); have _ := zK (Kd.R_elder' (Kd.qR HO427.o) (Kd.R_base ho27) hb); have _ := zK (Kd.R_elder' (Kd.qR HO432.o) (Kd.R_base ho27) hb); have _ := zK (Kd.R_lower (Kd.R_new' (Kd.R_new' ho27 (Kd.R_lt (Kd.qR HO427.o))) (Kd.R_lt (Kd.qR HO432.o))) (keep_size (w := w) (g := g) (row := none) M14)); have _ := zK (IsS187.below M38 hb); have _ := zK (bB (qK BK421.o) hb); have _ := zK (bB (qK BK422.o) hb); have _ := zK (bB (qK BK437.o) hb); have _ := zK (KeepBut.trans M14 (KeepBut.of_below hb g none) (.inl rfl)); have _ := zK (bT (Q6) hb); clear HO427 HO432 HI0 BK421 BK422 BK437 HK HB; rename_i HO427 HO432 HO443 HI0 BK421 BK422 BK437 HK HB; clear hb ho27; obtain ⟨Ao28, co28, eo28⟩ := Kd.R_slice HO443.o; subst eo28; have hnb29 := NB437_422.o; have hnc29 := NB422_437.o; have hnb30 := NB437_0.o; have hnc30 := NB0_437.o; obtain ⟨hcz31_0, hcz31_1, hcz31_2, hcz31_3, hcz31_4, hcz31_5, hcz31_6, hcz31_7, hfz31_0, hfz31_1, hfz31_2, hfz31_3, hfz31_4, hfz31_5, hfz31_6, hfz31_7⟩ := bx8 BK437.o))
  go_meet
  case rel => exact ⟨_, (y441), (.slice Ao28 y441.length co28), H', ⟨by first | omega | exact Nat.le_refl _⟩, ⟨by (with_reducible repeat (first | apply Kd.RA | apply Kd.RN | apply Kd.RD)); exact Kd.R_mono (Kd.R_far (p := ⟨gb437, 2, none⟩) (Kd.R_types HO443.o BK437.o (by decide)) (fun _ hk => hk.2) (.slice Ao28 y441.length co28)) (fun _ hk => hk.1.2)⟩, ⟨by (with_reducible repeat (first | apply Kd.RA | apply Kd.RN | apply Kd.RD)); exact Kd.R_mono (Kd.R_far (p := ⟨gb437, 2, none⟩) (Kd.R_types HO432.o BK437.o (by decide)) (fun _ hk => hk.2) (.slice Ao28 y441.length co28)) (fun _ hk => hk.1.2)⟩, ⟨by (with_reducible repeat (first | refine kN ?_ _ | refine kD ?_ | refine kA ?_ _)); refine blk_far ?_ NB421_437.o _; exact qK BK421.o⟩, ⟨by (with_reducible repeat (first | refine kN ?_ _ | refine kD ?_ | refine kA ?_ _)); refine blk_far ?_ NB422_437.o _; exact qK BK422.o⟩, ⟨by (with_reducible repeat (first | refine kN ?_ _ | refine kD ?_ | refine kA ?_ _)); refine blk_put (cs := #[.int .i64 t423, .int .i64 a1_1, .slice Ao15 t425.length co15, .int .i64 t428, .int .i64 t429, .slice Ao16 t430.length co16, .int .i64 t433, .int .i64 t434]) ?_ 2 _ rfl; exact qK BK437.o⟩, ⟨Q2⟩, ⟨Q7⟩, ⟨Q6⟩⟩
 case rest =>
  clear HC6
  try clear c1
  try clear c2
  try clear p2
  try clear c3
  try clear c11
  try clear c12
  try clear c13
  try clear c16
  try clear c17
  try clear c18
  try clear c21
  try clear c22
  try clear c23
  try clear c24
  try clear c29
  try clear c30
  try clear hcz14_0 hcz14_1 hcz14_2 hcz14_3 hcz14_4 hcz14_5 hcz14_6 hcz14_7 hcz19_0 hcz19_1 hcz19_2 hcz19_3 hcz19_4 hcz19_5 hcz19_6 hcz19_7 hcz25_0 hcz25_1 hcz25_2 hcz25_3 hcz25_4 hcz25_5 hcz25_6 hcz25_7 hcz31_0 hcz31_1 hcz31_2 hcz31_3 hcz31_4 hcz31_5 hcz31_6 hcz31_7 hfz14_0 hfz14_1 hfz14_2 hfz14_3 hfz14_4 hfz14_5 hfz14_6 hfz14_7 hfz19_0 hfz19_1 hfz19_2 hfz19_3 hfz19_4 hfz19_5 hfz19_6 hfz19_7 hfz25_0 hfz25_1 hfz25_2 hfz25_3 hfz25_4 hfz25_5 hfz25_6 hfz25_7 hfz31_0 hfz31_1 hfz31_2 hfz31_3 hfz31_4 hfz31_5 hfz31_6 hfz31_7
  obtain ⟨kq, x438002_5, u438002, HA, HJ5, HO_438002, HO_438005, BK421, BK422, BK437, HI0, HK, HB⟩ := hcut
  cases kq with
  | zero => exact absurd HA.o (by simp [spec_l8For.j0])
  | succ kj5 =>
   have H := HA.o
   clear HA
   simp only [spec_l8For.j0] at H
   replace H := Option.bind_eq_some_iff.mp H
   obtain ⟨⟨t444, t445, t446⟩, A320, H⟩ := H
   try dsimp only at H
   have A32 := zK A320
   clear A320
   have HC33 := zK H
   clear H
   go_upto_if 25 with (first | ((with_reducible refine gate_callee (f := 114) rfl ?_); refine goesL_ (some 24) rfl rfl Try.func114 (by kernel_rfl) rfl #[.pointer (some ⟨g, 0, none⟩), .int .i64 6] rfl M0 ?_; (with_reducible refine (spec_l1Once.calls g s0_0 t439 t440 6 t444 t445 t446 w0 _ ?side1 ?side2 A32.o).mono ?_); (case side1 => repeat (first | (with_reducible first | exact HI0.o | apply IsS187.alloc | apply IsS187.drewN | apply IsS187.drew | apply IsS187.set_1 | apply IsS187.set_2 | refine IsS187.far ?_ NB0_421.o _ | refine IsS187.far ?_ NB0_422.o _ | refine IsS187.far ?_ NB0_437.o _) | exact HI0.o)); (case side2 => repeat (first | (with_reducible first | exact HB.o | apply bA | apply bN | apply below_drew1 | refine bS ?_ (IsS187.ge HI0.o) | refine bS ?_ GE421.o | refine bS ?_ GE422.o | refine bS ?_ GE437.o) | exact HB.o)); rintro e w34 ⟨rfl, hi, hb, hk⟩; refine ⟨_, rfl, ?_⟩; have _ := zK (Kd.R_mono (Kd.R_keep (IsS187.apart (show IsS187 w0 _ g s0_0 t439 t440 from Q2) (Kd.qR HO_438002.o) (by decide)) hk (fun _ h => h.2)) (fun _ h => h.1)); have _ := zK (Kd.R_mono (Kd.R_keep (IsS187.apart (show IsS187 w0 _ g s0_0 t439 t440 from Q2) (Kd.qR HO_438005.o) (by decide)) hk (fun _ h => h.2)) (fun _ h => h.1)); have _ := zK (KeepBut.blk hk (g' := gb421) (o := .cells #[.int .i64 a1_0, .int .i64 a1_1, .int .i64 a1_2, .int .i64 a1_3, .int .i64 a1_4, .int .i64 a1_5, .int .i64 a1_6, .int .i64 a1_7] 126 (0, 0)) (qK BK421.o) NB421_0.o (by simp)); have _ := zK (KeepBut.blk hk (g' := gb422) (o := .cells #[.int .i64 0, .int .i64 0, .slice none 0 0, .int .i64 0, .int .i64 0, .slice none 0 0, .int .i64 0, .int .i64 0] 87 (0, 0)) (qK BK422.o) NB422_0.o (by simp)); have _ := zK (KeepBut.blk hk (g' := gb437) (o := .cells #[.int .i64 t423, .int .i64 a1_1, u438002, .int .i64 t428, .int .i64 t429, .slice Ao16 t430.length co16, .int .i64 t433, .int .i64 t434] 87 (0, 0)) (qK BK437.o) NB437_0.o (by simp)); have _ := zK (KeepBut.trans M14 hk (.inl rfl)); have _ := zK (hb); have _ := zK (hi); clear HO_438002 HO_438005 BK421 BK422 BK437 HK HB HI0; rename_i HO_438002 HO_438005 BK421 BK422 BK437 HK HB HI0; (try clear hb); (try clear hb2); (try clear hk); (try clear hi)))
   (try simp only [Act.put, sA, sZ, sS])
   go_cut [] (fun wc => ∃ (kq : Nat) (x1001_32 : Int) (x1002_32 : Int) (x438003_32 : Int) (x438004_32 : Int), Aside0 (spec_l8For.j1 kq s0_0 x1001_32 x1002_32 a1_0 a1_1 a1_2 a1_3 a1_4 a1_5 a1_6 a1_7 t423 a1_1 x438002_5 x438003_32 x438004_32 t430 t433 t434 = some (r1, r2, r3, r4, r5, r6, r7, r8, r9, r10)) ∧ Aside0 (kq ≤ kj5) ∧ Aside0 (Kd.R (Kd.int .i64) 3 wc w.heap.size (fun k_ => some k_ ≠ ((.slice Ao16 t430.length co16) : Value).ownBlock) u438002 x438002_5) ∧ Aside0 (Kd.R (Kd.int .i64) 3 wc w.heap.size (fun k_ => some k_ ≠ (u438002 : Value).ownBlock) (.slice Ao16 t430.length co16) t430) ∧ Aside0 (wc.heap[gb421]? = some (.cells #[.int .i64 a1_0, .int .i64 a1_1, .int .i64 a1_2, .int .i64 a1_3, .int .i64 a1_4, .int .i64 a1_5, .int .i64 a1_6, .int .i64 a1_7] 126 (0, 0))) ∧ Aside0 (wc.heap[gb422]? = some (.cells #[.int .i64 0, .int .i64 0, (.slice none 0 0), .int .i64 0, .int .i64 0, (.slice none 0 0), .int .i64 0, .int .i64 0] 87 (0, 0))) ∧ Aside0 (wc.heap[gb437]? = some (.cells #[.int .i64 t423, .int .i64 a1_1, u438002, .int .i64 x438003_32, .int .i64 x438004_32, (.slice Ao16 t430.length co16), .int .i64 t433, .int .i64 t434] 87 (0, 0))) ∧ Aside0 (IsS187 w0 wc g s0_0 x1001_32 x1002_32) ∧ Aside0 (KeepBut w wc g none) ∧ Aside0 (Below w0.heap.size w0 wc))
   case first =>
    have H := HC33.o
    clear HC33
    by_cases c35 : t444 = true
    ·subst c35
     have H1 : (spec_l8For.j1 kj5 s0_0 t445 t446 a1_0 a1_1 a1_2 a1_3 a1_4 a1_5 a1_6 a1_7 t423 a1_1 x438002_5 t428 t429 t430 t433 t434) = some (r1, r2, r3, r4, r5, r6, r7, r8, r9, r10) := by rw [if_pos rfl] at H; exact H
     clear H
     have H := H1
     clear H1
     have H' := zK H
     clear H
     go_wp2
     go_meet
     case rel => exact ⟨_, (t445), (t446), (t428), (t429), H', ⟨by have := HJ5.o; first | omega | exact Nat.le_refl _⟩, ⟨by exact Kd.qR HO_438002.o⟩, ⟨by exact Kd.qR HO_438005.o⟩, ⟨by exact qK BK421.o⟩, ⟨by exact qK BK422.o⟩, ⟨by exact qK BK437.o⟩, ⟨Q2⟩, ⟨Q7⟩, ⟨Q6⟩⟩
    replace c35 := Bool.eq_false_iff.mpr c35
    subst c35
    have H1 : ((spec_l1Below.f s0_0 t445 t446 4).bind fun bt447 => ((spec_Max.f 1 (wrap64 (a1_3 - bt447.1))).bind fun t450 => ((spec_l1Below.f s0_0 bt447.2.1 bt447.2.2 4).bind fun bt451 => ((spec_Min.f 50 (wrap64 (a1_3 + bt451.1))).bind fun t454 => (spec_l8For.j1 kj5 s0_0 bt451.2.1 bt451.2.2 a1_0 a1_1 a1_2 a1_3 a1_4 a1_5 a1_6 a1_7 t423 a1_1 x438002_5 t450 t454 t430 t433 t434))))) = some (r1, r2, r3, r4, r5, r6, r7, r8, r9, r10) := by rw [if_neg (show ¬ (false = true) by decide)] at H; exact H
    clear H
    have H := H1
    clear H1
    replace H := Option.bind_eq_some_iff.mp H
    obtain ⟨⟨t447, t448, t449⟩, A360, H⟩ := H
    try dsimp only at H
    have A36 := zK A360
    clear A360
    replace H := Option.bind_eq_some_iff.mp H
    obtain ⟨t450, A370, H⟩ := H
    try dsimp only at H
    have A37 := zK A370
    clear A370
    replace H := Option.bind_eq_some_iff.mp H
    obtain ⟨⟨t451, t452, t453⟩, A380, H⟩ := H
    try dsimp only at H
    have A38 := zK A380
    clear A380
    replace H := Option.bind_eq_some_iff.mp H
    obtain ⟨t454, A390, H⟩ := H
    try dsimp only at H
    have A39 := zK A390
    clear A390
    have H' := zK H
    clear H
    try go_wp2
    have n0_ := zK (Kd.RD HO_438002.o)
    have n1_ := zK (Kd.RD HO_438005.o)
    have n2_ := zK (kD BK421.o)
    have n3_ := zK (kD BK422.o)
    have n4_ := zK (kD BK437.o)
    have n5_ := zK (IsS187.drew HI0.o)
    have n6_ := zK (keep_drew HK.o)
    have n7_ := zK (below_drew1 HB.o)
    clear HO_438002
    clear HO_438005
    clear BK421
    clear BK422
    clear BK437
    clear HI0
    clear HK
    clear HB
    have HO_438002 := n0_
    have HO_438005 := n1_
    have BK421 := n2_
    have BK422 := n3_
    have BK437 := n4_
    have HI0 := n5_
    have HK := n6_
    have HB := n7_
    clear n0_ n1_ n2_ n3_ n4_ n5_ n6_ n7_
    refine start_ (n := 9) (S := fun w' => w'.cell? ⟨gb421, 0, none⟩ = some (.int .i64 a1_0) ∧ w'.cell? ⟨gb421, 1, none⟩ = some (.int .i64 a1_1) ∧ w'.cell? ⟨gb421, 2, none⟩ = some (.int .i64 a1_2) ∧ w'.cell? ⟨gb421, 3, none⟩ = some (.int .i64 a1_3) ∧ w'.cell? ⟨gb421, 4, none⟩ = some (.int .i64 a1_4) ∧ w'.cell? ⟨gb421, 5, none⟩ = some (.int .i64 a1_5) ∧ w'.cell? ⟨gb421, 6, none⟩ = some (.int .i64 a1_6) ∧ w'.cell? ⟨gb421, 7, none⟩ = some (.int .i64 a1_7)) (ds := []) b5A0 (by kernel_rfl) rfl rfl ⟨(bc BK421.o 0).trans rfl, (bc BK421.o 1).trans rfl, (bc BK421.o 2).trans rfl, (bc BK421.o 3).trans rfl, (bc BK421.o 4).trans rfl, (bc BK421.o 5).trans rfl, (bc BK421.o 6).trans rfl, (bc BK421.o 7).trans rfl⟩ (fun hHeld => ?_); refine with_tabW spec_l8For.tab6 spec_l8For.bits6 (fun HT_ HW_ => ?_)
    generalize w34.drew = w40 at HO_438002 HO_438005 BK421 BK422 BK437 HI0 HK HB hHeld ⊢
    refine pI 0 (some 26) b5A1 HT_ ?_
    refine pI 1 (some 27) b5A2 HT_ ?_
    refine pI 3 (some 29) b5A3 HT_ ?_
    refine tI 2 (some 28) b5A4 HT_ HW_ hHeld rfl rfl (Or.inl ⟨by rfl, by rintro w' ⟨s0, s1, s2, s3, s4, s5, s6, s7⟩; go_simp; with_reducible rfl⟩) ?_
    refine one_ (i := 4) (N := some 30) b5A5 rfl rfl (one_of HT_.o (by kernel_rfl)) (by decide) (fun K hK => ?_)
    refine goes_ Try.func98 (by kernel_rfl) rfl #[.pointer (some ⟨g, 0, none⟩), .int .i64 4] (by rfl) rfl rfl M0 ?_
    with_reducible refine (spec_l1Below.calls g s0_0 t445 t446 4 t447 t448 t449 w0 _ ?side1 ?side2 A36.o).mono ?_
    (case side1 => repeat (first | (with_reducible first | exact HI0.o | apply IsS187.alloc | apply IsS187.drewN | apply IsS187.drew | apply IsS187.set_1 | apply IsS187.set_2 | refine IsS187.far ?_ NB0_421.o _ | refine IsS187.far ?_ NB0_422.o _ | refine IsS187.far ?_ NB0_437.o _) | exact HI0.o))
    (case side2 => repeat (first | (with_reducible first | exact HB.o | apply bA | apply bN | apply below_drew1 | refine bS ?_ (IsS187.ge HI0.o) | refine bS ?_ GE421.o | refine bS ?_ GE422.o | refine bS ?_ GE437.o) | exact HB.o))
    rintro e w41 ⟨rfl, hi, hb, hk⟩
    refine ⟨_, rfl, ?_⟩
    have n0_ := zK (Kd.R_mono (Kd.R_keep (IsS187.apart (show IsS187 w0 _ g s0_0 t445 t446 from Q2) (Kd.qR HO_438002.o) (by decide)) hk (fun _ h => h.2)) (fun _ h => h.1))
    have n1_ := zK (Kd.R_mono (Kd.R_keep (IsS187.apart (show IsS187 w0 _ g s0_0 t445 t446 from Q2) (Kd.qR HO_438005.o) (by decide)) hk (fun _ h => h.2)) (fun _ h => h.1))
    have n2_ := zK (KeepBut.blk hk (g' := gb421) (o := .cells #[.int .i64 a1_0, .int .i64 a1_1, .int .i64 a1_2, .int .i64 a1_3, .int .i64 a1_4, .int .i64 a1_5, .int .i64 a1_6, .int .i64 a1_7] 126 (0, 0)) (qK BK421.o) NB421_0.o (by simp))
    have n3_ := zK (KeepBut.blk hk (g' := gb422) (o := .cells #[.int .i64 0, .int .i64 0, .slice none 0 0, .int .i64 0, .int .i64 0, .slice none 0 0, .int .i64 0, .int .i64 0] 87 (0, 0)) (qK BK422.o) NB422_0.o (by simp))
    have n4_ := zK (KeepBut.blk hk (g' := gb437) (o := .cells #[.int .i64 t423, .int .i64 a1_1, u438002, .int .i64 t428, .int .i64 t429, .slice Ao16 t430.length co16, .int .i64 t433, .int .i64 t434] 87 (0, 0)) (qK BK437.o) NB437_0.o (by simp))
    have n5_ := zK (KeepBut.trans M14 hk (.inl rfl))
    have n6_ := zK (hb)
    have n7_ := zK (hi)
    clear HO_438002
    clear HO_438005
    clear BK421
    clear BK422
    clear BK437
    clear HK
    clear HB
    clear HI0
    have HO_438002 := n0_
    have HO_438005 := n1_
    have BK421 := n2_
    have BK422 := n3_
    have BK437 := n4_
    have HK := n5_
    have HB := n6_
    have HI0 := n7_
    clear n0_ n1_ n2_ n3_ n4_ n5_ n6_ n7_
    (try clear hb)
    (try clear hb2)
    (try clear hk)
    (try clear hi)
    refine hK.out _ _ ⟨(bc BK421.o 0).trans rfl, (bc BK421.o 1).trans rfl, (bc BK421.o 2).trans rfl, (bc BK421.o 3).trans rfl, (bc BK421.o 4).trans rfl, (bc BK421.o 5).trans rfl, (bc BK421.o 6).trans rfl, (bc BK421.o 7).trans rfl⟩ (fun hHeld => ?_)
    clear hK K
    refine norm_ (a' := ?_) ?_ ?_
    rotate_left
    ·show Act.put _ (some 30) _ = _
     simp only [Act.put, sA, sZ, sS, i64_w, i32_w]
     rfl
    refine pI 5 (some 31) b5A6 HT_ ?_
    refine one_ (i := 6) (N := some 32) b5A7 rfl rfl (one_of HT_.o (by kernel_rfl)) (by decide) (fun K hK => ?_)
    refine goes_ Try.func165 (by kernel_rfl) rfl #[.int .i64 1, .int .i64 (wrap64 (a1_3 - t447))] (by rfl) rfl rfl M0 ?_
    with_reducible refine (spec_Max.calls 1 (wrap64 (a1_3 - t447)) t450 _ A37.o).mono ?_
    rintro e w' ⟨rfl, ⟨nd, rfl⟩⟩
    refine ⟨_, rfl, ?_⟩
    refine hK.out _ _ ⟨(bc BK421.o 0).trans rfl, (bc BK421.o 1).trans rfl, (bc BK421.o 2).trans rfl, (bc BK421.o 3).trans rfl, (bc BK421.o 4).trans rfl, (bc BK421.o 5).trans rfl, (bc BK421.o 6).trans rfl, (bc BK421.o 7).trans rfl⟩ (fun hHeld => ?_)
    clear hK K
    refine norm_ (a' := ?_) ?_ ?_
    rotate_left
    ·show Act.put _ (some 32) _ = _
     simp only [Act.put, sA, sZ, sS, i64_w, i32_w]
     rfl
    refine pI 7 (some 33) b5A8 HT_ ?_
    refine one_ (i := 8) (N := none) b5A9 rfl rfl (one_of HT_.o (by kernel_rfl)) (by decide) (fun K hK => ?_)
    have hs42 : w41.cell? ⟨gb437, 3, none⟩ = some (.int .i64 t428) := (bc BK437.o 3).trans rfl
    have hfs42 := bf BK437.o 3
    have hns42_0 := NB421_437.o
    have hns42_1 := NB422_437.o
    have hms42_0 := NB437_421.o
    have hms42_1 := NB437_422.o
    refine skip_ (w1 := ?_) (by rfl) rfl ?_ ?_
    rotate_left
    ·go_simp
     rfl
    refine hK.out _ _ ⟨((cell_far (p := ⟨gb437, _, none⟩) NB421_437.o _).trans (hHeld.1)), ((cell_far (p := ⟨gb437, _, none⟩) NB421_437.o _).trans (hHeld.2.1)), ((cell_far (p := ⟨gb437, _, none⟩) NB421_437.o _).trans (hHeld.2.2.1)), ((cell_far (p := ⟨gb437, _, none⟩) NB421_437.o _).trans (hHeld.2.2.2.1)), ((cell_far (p := ⟨gb437, _, none⟩) NB421_437.o _).trans (hHeld.2.2.2.2.1)), ((cell_far (p := ⟨gb437, _, none⟩) NB421_437.o _).trans (hHeld.2.2.2.2.2.1)), ((cell_far (p := ⟨gb437, _, none⟩) NB421_437.o _).trans (hHeld.2.2.2.2.2.2.1)), ((cell_far (p := ⟨gb437, _, none⟩) NB421_437.o _).trans (hHeld.2.2.2.2.2.2.2))⟩ (fun hHeld => ?_)
    clear hK K
    refine done_ (done_of HT_.o (by kernel_rfl)) ?_
    try go_wp2
    have n0_ : Aside0 (Kd.R (Kd.int .i64) 3 ((w41.drewN nd).setCell ⟨gb437, 3, none⟩ (.int .i64 t450)) w.heap.size (fun k_ => some k_ ≠ (.slice Ao16 t430.length co16 : Value).ownBlock) u438002 x438002_5) := ⟨by (with_reducible repeat (first | apply Kd.RA | apply Kd.RN | apply Kd.RD)); exact Kd.R_mono (Kd.R_far (p := ⟨gb437, 3, none⟩) (Kd.R_types (Kd.qR HO_438002.o) (qK BK437.o) (by decide)) (fun _ hk => hk.2) (.int .i64 t450)) (fun _ hk => hk.1)⟩
    have n1_ : Aside0 (Kd.R (Kd.int .i64) 3 ((w41.drewN nd).setCell ⟨gb437, 3, none⟩ (.int .i64 t450)) w.heap.size (fun k_ => some k_ ≠ (u438002 : Value).ownBlock) (.slice Ao16 t430.length co16) t430) := ⟨by (with_reducible repeat (first | apply Kd.RA | apply Kd.RN | apply Kd.RD)); exact Kd.R_mono (Kd.R_far (p := ⟨gb437, 3, none⟩) (Kd.R_types (Kd.qR HO_438005.o) (qK BK437.o) (by decide)) (fun _ hk => hk.2) (.int .i64 t450)) (fun _ hk => hk.1)⟩
    have n2_ : Aside0 (((w41.drewN nd).setCell ⟨gb437, 3, none⟩ (.int .i64 t450)).heap[gb421]? = some (.cells #[.int .i64 a1_0, .int .i64 a1_1, .int .i64 a1_2, .int .i64 a1_3, .int .i64 a1_4, .int .i64 a1_5, .int .i64 a1_6, .int .i64 a1_7] 126 (0, 0))) := ⟨by (with_reducible repeat (first | refine kN ?_ _ | refine kD ?_ | refine kA ?_ _)); refine blk_far ?_ NB421_437.o _; exact qK BK421.o⟩
    have n3_ : Aside0 (((w41.drewN nd).setCell ⟨gb437, 3, none⟩ (.int .i64 t450)).heap[gb422]? = some (.cells #[.int .i64 0, .int .i64 0, .slice none 0 0, .int .i64 0, .int .i64 0, .slice none 0 0, .int .i64 0, .int .i64 0] 87 (0, 0))) := ⟨by (with_reducible repeat (first | refine kN ?_ _ | refine kD ?_ | refine kA ?_ _)); refine blk_far ?_ NB422_437.o _; exact qK BK422.o⟩
    have n4_ : Aside0 (((w41.drewN nd).setCell ⟨gb437, 3, none⟩ (.int .i64 t450)).heap[gb437]? = some (.cells #[.int .i64 t423, .int .i64 a1_1, u438002, .int .i64 t450, .int .i64 t429, .slice Ao16 t430.length co16, .int .i64 t433, .int .i64 t434] 87 (0, 0))) := ⟨by (with_reducible repeat (first | refine kN ?_ _ | refine kD ?_ | refine kA ?_ _)); refine blk_put (cs := #[.int .i64 t423, .int .i64 a1_1, u438002, .int .i64 t428, .int .i64 t429, .slice Ao16 t430.length co16, .int .i64 t433, .int .i64 t434]) ?_ 3 _ rfl; exact qK BK437.o⟩
    have n5_ : Aside0 (IsS187 w0 ((w41.drewN nd).setCell ⟨gb437, 3, none⟩ (.int .i64 t450)) g s0_0 t448 t449) := ⟨Q2⟩
    have n6_ : Aside0 (KeepBut w ((w41.drewN nd).setCell ⟨gb437, 3, none⟩ (.int .i64 t450)) g none) := ⟨Q7⟩
    have n7_ : Aside0 (Below w0.heap.size w0 ((w41.drewN nd).setCell ⟨gb437, 3, none⟩ (.int .i64 t450))) := ⟨Q6⟩
    (try clear HO_438002)
    (try clear HO_438005)
    (try clear BK421)
    (try clear BK422)
    (try clear BK437)
    (try clear HI0)
    (try clear HK)
    (try clear HB)
    generalize ((w41.drewN nd).setCell ⟨gb437, 3, none⟩ (.int .i64 t450)) = w43 at n0_ n1_ n2_ n3_ n4_ n5_ n6_ n7_ ⊢
    have HO_438002 := n0_
    have HO_438005 := n1_
    have BK421 := n2_
    have BK422 := n3_
    have BK437 := n4_
    have HI0 := n5_
    have HK := n6_
    have HB := n7_
    clear n0_ n1_ n2_ n3_ n4_ n5_ n6_ n7_
    (try (rw [drewN_self w43]; generalize hq_ : World.drewN w43 _ = w43; have n0_ : Aside0 (Kd.R (Kd.int .i64) 3 w43 w.heap.size (fun k_ => some k_ ≠ (.slice Ao16 t430.length co16 : Value).ownBlock) u438002 x438002_5) := ⟨by rw [← hq_]; exact (Kd.qR HO_438002.o)⟩; have n1_ : Aside0 (Kd.R (Kd.int .i64) 3 w43 w.heap.size (fun k_ => some k_ ≠ (u438002 : Value).ownBlock) (.slice Ao16 t430.length co16) t430) := ⟨by rw [← hq_]; exact (Kd.qR HO_438005.o)⟩; have n2_ : Aside0 (w43.heap[gb421]? = some (.cells #[.int .i64 a1_0, .int .i64 a1_1, .int .i64 a1_2, .int .i64 a1_3, .int .i64 a1_4, .int .i64 a1_5, .int .i64 a1_6, .int .i64 a1_7] 126 (0, 0))) := ⟨by rw [← hq_]; exact (qK BK421.o)⟩; have n3_ : Aside0 (w43.heap[gb422]? = some (.cells #[.int .i64 0, .int .i64 0, .slice none 0 0, .int .i64 0, .int .i64 0, .slice none 0 0, .int .i64 0, .int .i64 0] 87 (0, 0))) := ⟨by rw [← hq_]; exact (qK BK422.o)⟩; have n4_ : Aside0 (w43.heap[gb437]? = some (.cells #[.int .i64 t423, .int .i64 a1_1, u438002, .int .i64 t450, .int .i64 t429, .slice Ao16 t430.length co16, .int .i64 t433, .int .i64 t434] 87 (0, 0))) := ⟨by rw [← hq_]; exact (qK BK437.o)⟩; have n5_ : Aside0 (IsS187 w0 w43 g s0_0 t448 t449) := ⟨by rw [← hq_]; exact M38⟩; have n6_ : Aside0 (KeepBut w w43 g none) := ⟨by rw [← hq_]; exact M14⟩; have n7_ : Aside0 (Below w0.heap.size w0 w43) := ⟨by rw [← hq_]; exact (Q6)⟩; clear HO_438002 HO_438005 BK421 BK422 BK437 HI0 HK HB hq_; have HO_438002 := n0_; have HO_438005 := n1_; have BK421 := n2_; have BK422 := n3_; have BK437 := n4_; have HI0 := n5_; have HK := n6_; have HB := n7_; clear n0_ n1_ n2_ n3_ n4_ n5_ n6_ n7_))
    have n0_ := zK (Kd.RD HO_438002.o)
    have n1_ := zK (Kd.RD HO_438005.o)
    have n2_ := zK (kD BK421.o)
    have n3_ := zK (kD BK422.o)
    have n4_ := zK (kD BK437.o)
    have n5_ := zK (IsS187.drew HI0.o)
    have n6_ := zK (keep_drew HK.o)
    have n7_ := zK (below_drew1 HB.o)
    clear HO_438002
    clear HO_438005
    clear BK421
    clear BK422
    clear BK437
    clear HI0
    clear HK
    clear HB
    have HO_438002 := n0_
    have HO_438005 := n1_
    have BK421 := n2_
    have BK422 := n3_
    have BK437 := n4_
    have HI0 := n5_
    have HK := n6_
    have HB := n7_
    clear n0_ n1_ n2_ n3_ n4_ n5_ n6_ n7_
    refine start_ (n := 9) (S := fun w' => w'.cell? ⟨gb421, 0, none⟩ = some (.int .i64 a1_0) ∧ w'.cell? ⟨gb421, 1, none⟩ = some (.int .i64 a1_1) ∧ w'.cell? ⟨gb421, 2, none⟩ = some (.int .i64 a1_2) ∧ w'.cell? ⟨gb421, 3, none⟩ = some (.int .i64 a1_3) ∧ w'.cell? ⟨gb421, 4, none⟩ = some (.int .i64 a1_4) ∧ w'.cell? ⟨gb421, 5, none⟩ = some (.int .i64 a1_5) ∧ w'.cell? ⟨gb421, 6, none⟩ = some (.int .i64 a1_6) ∧ w'.cell? ⟨gb421, 7, none⟩ = some (.int .i64 a1_7)) (ds := []) b5A0 (by kernel_rfl) rfl rfl ⟨(bc BK421.o 0).trans rfl, (bc BK421.o 1).trans rfl, (bc BK421.o 2).trans rfl, (bc BK421.o 3).trans rfl, (bc BK421.o 4).trans rfl, (bc BK421.o 5).trans rfl, (bc BK421.o 6).trans rfl, (bc BK421.o 7).trans rfl⟩ (fun hHeld => ?_); refine with_tabW spec_l8For.tab7 spec_l8For.bits7 (fun HT_ HW_ => ?_)
    generalize w43.drew = w44 at HO_438002 HO_438005 BK421 BK422 BK437 HI0 HK HB hHeld ⊢
    refine pI 0 (some 34) b5A1 HT_ ?_
    refine pI 1 (some 35) b5A2 HT_ ?_
    refine pI 3 (some 37) b5A3 HT_ ?_
    refine tI 2 (some 36) b5A4 HT_ HW_ hHeld rfl rfl (Or.inl ⟨by rfl, by rintro w' ⟨s0, s1, s2, s3, s4, s5, s6, s7⟩; go_simp; with_reducible rfl⟩) ?_
    refine one_ (i := 4) (N := some 38) b5A5 rfl rfl (one_of HT_.o (by kernel_rfl)) (by decide) (fun K hK => ?_)
    refine goes_ Try.func98 (by kernel_rfl) rfl #[.pointer (some ⟨g, 0, none⟩), .int .i64 4] (by rfl) rfl rfl M0 ?_
    with_reducible refine (spec_l1Below.calls g s0_0 t448 t449 4 t451 t452 t453 w0 _ ?side1 ?side2 A38.o).mono ?_
    (case side1 => repeat (first | (with_reducible first | exact HI0.o | apply IsS187.alloc | apply IsS187.drewN | apply IsS187.drew | apply IsS187.set_1 | apply IsS187.set_2 | refine IsS187.far ?_ NB0_421.o _ | refine IsS187.far ?_ NB0_422.o _ | refine IsS187.far ?_ NB0_437.o _) | exact HI0.o))
    (case side2 => repeat (first | (with_reducible first | exact HB.o | apply bA | apply bN | apply below_drew1 | refine bS ?_ (IsS187.ge HI0.o) | refine bS ?_ GE421.o | refine bS ?_ GE422.o | refine bS ?_ GE437.o) | exact HB.o))
    rintro e w45 ⟨rfl, hi, hb, hk⟩
    refine ⟨_, rfl, ?_⟩
    have n0_ := zK (Kd.R_mono (Kd.R_keep (IsS187.apart (show IsS187 w0 _ g s0_0 t448 t449 from Q2) (Kd.qR HO_438002.o) (by decide)) hk (fun _ h => h.2)) (fun _ h => h.1))
    have n1_ := zK (Kd.R_mono (Kd.R_keep (IsS187.apart (show IsS187 w0 _ g s0_0 t448 t449 from Q2) (Kd.qR HO_438005.o) (by decide)) hk (fun _ h => h.2)) (fun _ h => h.1))
    have n2_ := zK (KeepBut.blk hk (g' := gb421) (o := .cells #[.int .i64 a1_0, .int .i64 a1_1, .int .i64 a1_2, .int .i64 a1_3, .int .i64 a1_4, .int .i64 a1_5, .int .i64 a1_6, .int .i64 a1_7] 126 (0, 0)) (qK BK421.o) NB421_0.o (by simp))
    have n3_ := zK (KeepBut.blk hk (g' := gb422) (o := .cells #[.int .i64 0, .int .i64 0, .slice none 0 0, .int .i64 0, .int .i64 0, .slice none 0 0, .int .i64 0, .int .i64 0] 87 (0, 0)) (qK BK422.o) NB422_0.o (by simp))
    have n4_ := zK (KeepBut.blk hk (g' := gb437) (o := .cells #[.int .i64 t423, .int .i64 a1_1, u438002, .int .i64 t450, .int .i64 t429, .slice Ao16 t430.length co16, .int .i64 t433, .int .i64 t434] 87 (0, 0)) (qK BK437.o) NB437_0.o (by simp))
    have n5_ := zK (KeepBut.trans M14 hk (.inl rfl))
    have n6_ := zK (hb)
    have n7_ := zK (hi)
    clear HO_438002
    clear HO_438005
    clear BK421
    clear BK422
    clear BK437
    clear HK
    clear HB
    clear HI0
    have HO_438002 := n0_
    have HO_438005 := n1_
    have BK421 := n2_
    have BK422 := n3_
    have BK437 := n4_
    have HK := n5_
    have HB := n6_
    have HI0 := n7_
    clear n0_ n1_ n2_ n3_ n4_ n5_ n6_ n7_
    (try clear hb)
    (try clear hb2)
    (try clear hk)
    (try clear hi)
    refine hK.out _ _ ⟨(bc BK421.o 0).trans rfl, (bc BK421.o 1).trans rfl, (bc BK421.o 2).trans rfl, (bc BK421.o 3).trans rfl, (bc BK421.o 4).trans rfl, (bc BK421.o 5).trans rfl, (bc BK421.o 6).trans rfl, (bc BK421.o 7).trans rfl⟩ (fun hHeld => ?_)
    clear hK K
    refine norm_ (a' := ?_) ?_ ?_
    rotate_left
    ·show Act.put _ (some 38) _ = _
     simp only [Act.put, sA, sZ, sS, i64_w, i32_w]
     rfl
    refine pI 5 (some 39) b5A6 HT_ ?_
    refine one_ (i := 6) (N := some 40) b5A7 rfl rfl (one_of HT_.o (by kernel_rfl)) (by decide) (fun K hK => ?_)
    refine goes_ Try.func166 (by kernel_rfl) rfl #[.int .i64 50, .int .i64 (wrap64 (a1_3 + t451))] (by rfl) rfl rfl M0 ?_
    with_reducible refine (spec_Min.calls 50 (wrap64 (a1_3 + t451)) t454 _ A39.o).mono ?_
    rintro e w' ⟨rfl, ⟨nd, rfl⟩⟩
    refine ⟨_, rfl, ?_⟩
    refine hK.out _ _ ⟨(bc BK421.o 0).trans rfl, (bc BK421.o 1).trans rfl, (bc BK421.o 2).trans rfl, (bc BK421.o 3).trans rfl, (bc BK421.o 4).trans rfl, (bc BK421.o 5).trans rfl, (bc BK421.o 6).trans rfl, (bc BK421.o 7).trans rfl⟩ (fun hHeld => ?_)
    clear hK K
    refine norm_ (a' := ?_) ?_ ?_
    rotate_left
    ·show Act.put _ (some 40) _ = _
     simp only [Act.put, sA, sZ, sS, i64_w, i32_w]
     rfl
    refine pI 7 (some 41) b5A8 HT_ ?_
    refine one_ (i := 8) (N := none) b5A9 rfl rfl (one_of HT_.o (by kernel_rfl)) (by decide) (fun K hK => ?_)
    have hs46 : w45.cell? ⟨gb437, 4, none⟩ = some (.int .i64 t429) := (bc BK437.o 4).trans rfl
    have hfs46 := bf BK437.o 4
    have hns46_0 := NB421_437.o
    have hns46_1 := NB422_437.o
    have hms46_0 := NB437_421.o
    have hms46_1 := NB437_422.o
    refine skip_ (w1 := ?_) (by rfl) rfl ?_ ?_
    rotate_left
    ·go_simp
     rfl
    refine hK.out _ _ ⟨((cell_far (p := ⟨gb437, _, none⟩) NB421_437.o _).trans (hHeld.1)), ((cell_far (p := ⟨gb437, _, none⟩) NB421_437.o _).trans (hHeld.2.1)), ((cell_far (p := ⟨gb437, _, none⟩) NB421_437.o _).trans (hHeld.2.2.1)), ((cell_far (p := ⟨gb437, _, none⟩) NB421_437.o _).trans (hHeld.2.2.2.1)), ((cell_far (p := ⟨gb437, _, none⟩) NB421_437.o _).trans (hHeld.2.2.2.2.1)), ((cell_far (p := ⟨gb437, _, none⟩) NB421_437.o _).trans (hHeld.2.2.2.2.2.1)), ((cell_far (p := ⟨gb437, _, none⟩) NB421_437.o _).trans (hHeld.2.2.2.2.2.2.1)), ((cell_far (p := ⟨gb437, _, none⟩) NB421_437.o _).trans (hHeld.2.2.2.2.2.2.2))⟩ (fun hHeld => ?_)
    clear hK K
    refine done_ (done_of HT_.o (by kernel_rfl)) ?_
    try go_wp2
    go_meet
    case rel => exact ⟨_, (t452), (t453), (t450), (t454), H', ⟨by have := HJ5.o; first | omega | exact Nat.le_refl _⟩, ⟨by (with_reducible repeat (first | apply Kd.RA | apply Kd.RN | apply Kd.RD)); exact Kd.R_mono (Kd.R_far (p := ⟨gb437, 4, none⟩) (Kd.R_types HO_438002.o BK437.o (by decide)) (fun _ hk => hk.2) (.int .i64 t454)) (fun _ hk => hk.1)⟩, ⟨by (with_reducible repeat (first | apply Kd.RA | apply Kd.RN | apply Kd.RD)); exact Kd.R_mono (Kd.R_far (p := ⟨gb437, 4, none⟩) (Kd.R_types HO_438005.o BK437.o (by decide)) (fun _ hk => hk.2) (.int .i64 t454)) (fun _ hk => hk.1)⟩, ⟨by (with_reducible repeat (first | refine kN ?_ _ | refine kD ?_ | refine kA ?_ _)); refine blk_far ?_ NB421_437.o _; exact qK BK421.o⟩, ⟨by (with_reducible repeat (first | refine kN ?_ _ | refine kD ?_ | refine kA ?_ _)); refine blk_far ?_ NB422_437.o _; exact qK BK422.o⟩, ⟨by (with_reducible repeat (first | refine kN ?_ _ | refine kD ?_ | refine kA ?_ _)); refine blk_put (cs := #[.int .i64 t423, .int .i64 a1_1, u438002, .int .i64 t450, .int .i64 t429, .slice Ao16 t430.length co16, .int .i64 t433, .int .i64 t434]) ?_ 4 _ rfl; exact qK BK437.o⟩, ⟨Q2⟩, ⟨Q7⟩, ⟨Q6⟩⟩
   case rest =>
    clear HC33
    try clear c1
    try clear c2
    try clear p2
    try clear c3
    try clear p6
    try clear c9
    try clear c11
    try clear c12
    try clear c13
    try clear c16
    try clear c17
    try clear c18
    try clear c21
    try clear c22
    try clear c23
    try clear c24
    try clear c29
    try clear c30
    try clear c35
    try clear hcz14_0 hcz14_1 hcz14_2 hcz14_3 hcz14_4 hcz14_5 hcz14_6 hcz14_7 hcz19_0 hcz19_1 hcz19_2 hcz19_3 hcz19_4 hcz19_5 hcz19_6 hcz19_7 hcz25_0 hcz25_1 hcz25_2 hcz25_3 hcz25_4 hcz25_5 hcz25_6 hcz25_7 hcz31_0 hcz31_1 hcz31_2 hcz31_3 hcz31_4 hcz31_5 hcz31_6 hcz31_7 hfz14_0 hfz14_1 hfz14_2 hfz14_3 hfz14_4 hfz14_5 hfz14_6 hfz14_7 hfz19_0 hfz19_1 hfz19_2 hfz19_3 hfz19_4 hfz19_5 hfz19_6 hfz19_7 hfz25_0 hfz25_1 hfz25_2 hfz25_3 hfz25_4 hfz25_5 hfz25_6 hfz25_7 hfz31_0 hfz31_1 hfz31_2 hfz31_3 hfz31_4 hfz31_5 hfz31_6 hfz31_7
    try clear p2
    obtain ⟨kq, x1001_32, x1002_32, x438003_32, x438004_32, HA, HJ32, HO_438002, HO_438005, BK421, BK422, BK437, HI0, HK, HB⟩ := hcut
    cases kq with
    | zero => exact absurd HA.o (by simp [spec_l8For.j1])
    | succ kj32 =>
     have H := HA.o
     clear HA
     simp only [spec_l8For.j1] at H
     replace H := Option.bind_eq_some_iff.mp H
     obtain ⟨⟨t455, t456, t457⟩, A470, H⟩ := H
     try dsimp only at H
     have A47 := zK A470
     clear A470
     have HC48 := zK H
     clear H
     go_upto_if 44 with (first | ((with_reducible refine gate_callee (f := 114) rfl ?_); refine goesL_ (some 43) rfl rfl Try.func114 (by kernel_rfl) rfl #[.pointer (some ⟨g, 0, none⟩), .int .i64 6] rfl M0 ?_; (with_reducible refine (spec_l1Once.calls g s0_0 x1001_32 x1002_32 6 t455 t456 t457 w0 _ ?side1 ?side2 A47.o).mono ?_); (case side1 => repeat (first | (with_reducible first | exact HI0.o | apply IsS187.alloc | apply IsS187.drewN | apply IsS187.drew | apply IsS187.set_1 | apply IsS187.set_2 | refine IsS187.far ?_ NB0_421.o _ | refine IsS187.far ?_ NB0_422.o _ | refine IsS187.far ?_ NB0_437.o _) | exact HI0.o)); (case side2 => repeat (first | (with_reducible first | exact HB.o | apply bA | apply bN | apply below_drew1 | refine bS ?_ (IsS187.ge HI0.o) | refine bS ?_ GE421.o | refine bS ?_ GE422.o | refine bS ?_ GE437.o) | exact HB.o)); rintro e w49 ⟨rfl, hi, hb, hk⟩; refine ⟨_, rfl, ?_⟩; have _ := zK (Kd.R_mono (Kd.R_keep (IsS187.apart (show IsS187 w0 _ g s0_0 x1001_32 x1002_32 from Q2) (Kd.qR HO_438002.o) (by decide)) hk (fun _ h => h.2)) (fun _ h => h.1)); have _ := zK (Kd.R_mono (Kd.R_keep (IsS187.apart (show IsS187 w0 _ g s0_0 x1001_32 x1002_32 from Q2) (Kd.qR HO_438005.o) (by decide)) hk (fun _ h => h.2)) (fun _ h => h.1)); have _ := zK (KeepBut.blk hk (g' := gb421) (o := .cells #[.int .i64 a1_0, .int .i64 a1_1, .int .i64 a1_2, .int .i64 a1_3, .int .i64 a1_4, .int .i64 a1_5, .int .i64 a1_6, .int .i64 a1_7] 126 (0, 0)) (qK BK421.o) NB421_0.o (by simp)); have _ := zK (KeepBut.blk hk (g' := gb422) (o := .cells #[.int .i64 0, .int .i64 0, .slice none 0 0, .int .i64 0, .int .i64 0, .slice none 0 0, .int .i64 0, .int .i64 0] 87 (0, 0)) (qK BK422.o) NB422_0.o (by simp)); have _ := zK (KeepBut.blk hk (g' := gb437) (o := .cells #[.int .i64 t423, .int .i64 a1_1, u438002, .int .i64 x438003_32, .int .i64 x438004_32, .slice Ao16 t430.length co16, .int .i64 t433, .int .i64 t434] 87 (0, 0)) (qK BK437.o) NB437_0.o (by simp)); have _ := zK (KeepBut.trans M14 hk (.inl rfl)); have _ := zK (hb); have _ := zK (hi); clear HO_438002 HO_438005 BK421 BK422 BK437 HK HB HI0; rename_i HO_438002 HO_438005 BK421 BK422 BK437 HK HB HI0; (try clear hb); (try clear hb2); (try clear hk); (try clear hi)))
     (try simp only [Act.put, sA, sZ, sS])
     go_cut [] (fun wc => ∃ (kq : Nat) (x438005_47 : List Int) (u438005 : Value), Aside0 (spec_l8For.j2 kq s0_0 t456 t457 a1_0 a1_1 a1_2 a1_3 a1_4 a1_5 a1_6 a1_7 t423 a1_1 x438002_5 x438003_32 x438004_32 x438005_47 t433 t434 = some (r1, r2, r3, r4, r5, r6, r7, r8, r9, r10)) ∧ Aside0 (kq ≤ kj32) ∧ Aside0 (Kd.R (Kd.int .i64) 3 wc w.heap.size (fun k_ => some k_ ≠ (u438005 : Value).ownBlock) u438002 x438002_5) ∧ Aside0 (Kd.R (Kd.int .i64) 3 wc w.heap.size (fun k_ => some k_ ≠ (u438002 : Value).ownBlock) u438005 x438005_47) ∧ Aside0 (wc.heap[gb421]? = some (.cells #[.int .i64 a1_0, .int .i64 a1_1, .int .i64 a1_2, .int .i64 a1_3, .int .i64 a1_4, .int .i64 a1_5, .int .i64 a1_6, .int .i64 a1_7] 126 (0, 0))) ∧ Aside0 (wc.heap[gb422]? = some (.cells #[.int .i64 0, .int .i64 0, (.slice none 0 0), .int .i64 0, .int .i64 0, (.slice none 0 0), .int .i64 0, .int .i64 0] 87 (0, 0))) ∧ Aside0 (wc.heap[gb437]? = some (.cells #[.int .i64 t423, .int .i64 a1_1, u438002, .int .i64 x438003_32, .int .i64 x438004_32, u438005, .int .i64 t433, .int .i64 t434] 87 (0, 0))) ∧ Aside0 (IsS187 w0 wc g s0_0 t456 t457) ∧ Aside0 (KeepBut w wc g none) ∧ Aside0 (Below w0.heap.size w0 wc))
     case first =>
      have H := HC48.o
      clear HC48
      by_cases c50 : t455 = true
      ·subst c50
       have H1 : (spec_l8For.j2 kj32 s0_0 t456 t457 a1_0 a1_1 a1_2 a1_3 a1_4 a1_5 a1_6 a1_7 t423 a1_1 x438002_5 x438003_32 x438004_32 t430 t433 t434) = some (r1, r2, r3, r4, r5, r6, r7, r8, r9, r10) := by rw [if_pos rfl] at H; exact H
       clear H
       have H := H1
       clear H1
       have H' := zK H
       clear H
       go_wp2
       go_meet
       case rel => exact ⟨_, (t430), (.slice Ao16 t430.length co16), H', ⟨by have := HJ5.o; have := HJ32.o; first | omega | exact Nat.le_refl _⟩, ⟨by exact Kd.qR HO_438002.o⟩, ⟨by exact Kd.qR HO_438005.o⟩, ⟨by exact qK BK421.o⟩, ⟨by exact qK BK422.o⟩, ⟨by exact qK BK437.o⟩, ⟨Q2⟩, ⟨Q7⟩, ⟨Q6⟩⟩
      replace c50 := Bool.eq_false_iff.mpr c50
      subst c50
      have H1 : (spec_l8For.j2 kj32 s0_0 t456 t457 a1_0 a1_1 a1_2 a1_3 a1_4 a1_5 a1_6 a1_7 t423 a1_1 x438002_5 x438003_32 x438004_32 (([a1_5] : List Int)) t433 t434) = some (r1, r2, r3, r4, r5, r6, r7, r8, r9, r10) := by rw [if_neg (show ¬ (false = true) by decide)] at H; exact H
      clear H
      have H := H1
      clear H1
      obtain ⟨y458, hy458⟩ : ∃ y_ : List Int, y_ = (([a1_5] : List Int)) := ⟨_, rfl⟩
      replace H : (spec_l8For.j2 kj32 s0_0 t456 t457 a1_0 a1_1 a1_2 a1_3 a1_4 a1_5 a1_6 a1_7 t423 a1_1 x438002_5 x438003_32 x438004_32 y458 t433 t434) = some (r1, r2, r3, r4, r5, r6, r7, r8, r9, r10) := by first | (rw [hy458]; with_reducible exact H) | (have H2_ := (Option.bind_some _ _).symm.trans H; rw [hy458]; with_reducible exact H2_) | (have H2_ := (Option.bind_some _ _).symm.trans H; with_reducible exact H2_) | with_reducible exact H | (rw [hy458]; exact H) | exact H
      have Ny458 := zK hy458
      clear hy458
      have H' := zK H
      clear H
      have hnb51 := NB421_422.o
      have hnc51 := NB422_421.o
      have hnb52 := NB421_437.o
      have hnc52 := NB437_421.o
      have hnb53 := NB421_0.o
      have hnc53 := NB0_421.o
      obtain ⟨hcz54_0, hcz54_1, hcz54_2, hcz54_3, hcz54_4, hcz54_5, hcz54_6, hcz54_7, hfz54_0, hfz54_1, hfz54_2, hfz54_3, hfz54_4, hfz54_5, hfz54_6, hfz54_7⟩ := bx8 BK421.o
      go_wp2_with (first | ((with_reducible refine gate_dst (N := 47) rfl ?_); refine Kd.R_lit (Kd.int .i64) _ 3 ?hg (N := 47) ?hd (xs := ([a1_5] : List Int)) (inner := [.int .i64 a1_5]) (ok := fun _ => True) (okp := fun _ => True) ?hr ?hp (fun _ hk => hk) trivial (Below.refl _ _) (Nat.le_refl _) (by simp) ?_; (case hd => rfl); (case hg => rfl); (case hr => first | (go_simp; done) | (go_simp; rfl)); (case hp => exact (Reps.one (show Kd.M (Kd.int .i64) _ _ _ a1_5 [.int .i64 a1_5] from rfl) (Reps.none _ _))); intro v459 w55 ho56 hb hg_ hnew_; clear hg_ hnew_; (first | rw [← Ny458.o] at ho56 | (simp only [Int.reduceToNat] at ho56; rw [← Ny458.o] at ho56)); have _ := zK (Kd.R_elder' (Kd.qR HO_438002.o) (Kd.R_base ho56) hb); have _ := zK (Kd.R_elder' (Kd.qR HO_438005.o) (Kd.R_base ho56) hb); have _ := zK (Kd.R_lower (Kd.R_new' (Kd.R_new' ho56 (Kd.R_lt (Kd.qR HO_438002.o))) (Kd.R_lt (Kd.qR HO_438005.o))) (keep_size (w := w) (g := g) (row := none) M14)); have _ := zK (bB (qK BK421.o) hb); have _ := zK (bB (qK BK422.o) hb); have _ := zK (bB (qK BK437.o) hb); have _ := zK (IsS187.below M38 hb); have _ := zK (KeepBut.trans M14 (KeepBut.of_below hb g none) (.inl rfl)); have _ := zK (bT (Q6) hb); clear HO_438002 HO_438005 BK421 BK422 BK437 HI0 HK HB; rename_i HO_438002 HO_438005 HO460 BK421 BK422 BK437 HI0 HK HB; clear hb ho56; obtain ⟨Ao57, co57, eo57⟩ := Kd.R_slice HO460.o; subst eo57; have hnb58 := NB437_422.o; have hnc58 := NB422_437.o; have hnb59 := NB437_0.o; have hnc59 := NB0_437.o; obtain ⟨hcz60_0, hcz60_1, hcz60_2, hcz60_3, hcz60_4, hcz60_5, hcz60_6, hcz60_7, hfz60_0, hfz60_1, hfz60_2, hfz60_3, hfz60_4, hfz60_5, hfz60_6, hfz60_7⟩ := bx8 BK437.o))
      go_meet
      case rel => exact ⟨_, (y458), (.slice Ao57 y458.length co57), H', ⟨by have := HJ5.o; have := HJ32.o; first | omega | exact Nat.le_refl _⟩, ⟨by (with_reducible repeat (first | apply Kd.RA | apply Kd.RN | apply Kd.RD)); exact Kd.R_mono (Kd.R_far (p := ⟨gb437, 5, none⟩) (Kd.R_types HO_438002.o BK437.o (by decide)) (fun _ hk => hk.2) (.slice Ao57 y458.length co57)) (fun _ hk => hk.1.2)⟩, ⟨by (with_reducible repeat (first | apply Kd.RA | apply Kd.RN | apply Kd.RD)); exact Kd.R_mono (Kd.R_far (p := ⟨gb437, 5, none⟩) (Kd.R_types HO460.o BK437.o (by decide)) (fun _ hk => hk.2) (.slice Ao57 y458.length co57)) (fun _ hk => hk.1.1.2)⟩, ⟨by (with_reducible repeat (first | refine kN ?_ _ | refine kD ?_ | refine kA ?_ _)); refine blk_far ?_ NB421_437.o _; exact qK BK421.o⟩, ⟨by (with_reducible repeat (first | refine kN ?_ _ | refine kD ?_ | refine kA ?_ _)); refine blk_far ?_ NB422_437.o _; exact qK BK422.o⟩, ⟨by (with_reducible repeat (first | refine kN ?_ _ | refine kD ?_ | refine kA ?_ _)); refine blk_put (cs := #[.int .i64 t423, .int .i64 a1_1, u438002, .int .i64 x438003_32, .int .i64 x438004_32, .slice Ao16 t430.length co16, .int .i64 t433, .int .i64 t434]) ?_ 5 _ rfl; exact qK BK437.o⟩, ⟨Q2⟩, ⟨Q7⟩, ⟨Q6⟩⟩
     case rest =>
      clear HC48
      try clear c1
      try clear c2
      try clear p2
      try clear c3
      try clear c5
      try clear p6
      try clear c9
      try clear c11
      try clear c12
      try clear c13
      try clear c16
      try clear c17
      try clear c18
      try clear c21
      try clear c22
      try clear c23
      try clear c24
      try clear c29
      try clear c30
      try clear c35
      try clear c50
      try clear c51
      try clear c52
      try clear c53
      try clear c58
      try clear c59
      try clear hcz14_0 hcz14_1 hcz14_2 hcz14_3 hcz14_4 hcz14_5 hcz14_6 hcz14_7 hcz19_0 hcz19_1 hcz19_2 hcz19_3 hcz19_4 hcz19_5 hcz19_6 hcz19_7 hcz25_0 hcz25_1 hcz25_2 hcz25_3 hcz25_4 hcz25_5 hcz25_6 hcz25_7 hcz31_0 hcz31_1 hcz31_2 hcz31_3 hcz31_4 hcz31_5 hcz31_6 hcz31_7 hcz54_0 hcz54_1 hcz54_2 hcz54_3 hcz54_4 hcz54_5 hcz54_6 hcz54_7 hcz60_0 hcz60_1 hcz60_2 hcz60_3 hcz60_4 hcz60_5 hcz60_6 hcz60_7 hfz14_0 hfz14_1 hfz14_2 hfz14_3 hfz14_4 hfz14_5 hfz14_6 hfz14_7 hfz19_0 hfz19_1 hfz19_2 hfz19_3 hfz19_4 hfz19_5 hfz19_6 hfz19_7 hfz25_0 hfz25_1 hfz25_2 hfz25_3 hfz25_4 hfz25_5 hfz25_6 hfz25_7 hfz31_0 hfz31_1 hfz31_2 hfz31_3 hfz31_4 hfz31_5 hfz31_6 hfz31_7 hfz54_0 hfz54_1 hfz54_2 hfz54_3 hfz54_4 hfz54_5 hfz54_6 hfz54_7 hfz60_0 hfz60_1 hfz60_2 hfz60_3 hfz60_4 hfz60_5 hfz60_6 hfz60_7
      try clear p2
      try clear p6
      obtain ⟨kq, x438005_47, u438005, HA, HJ47, HO_438002, HO_438005, BK421, BK422, BK437, HI0, HK, HB⟩ := hcut
      cases kq with
      | zero => exact absurd HA.o (by simp [spec_l8For.j2])
      | succ kj47 =>
       have H := HA.o
       clear HA
       simp only [spec_l8For.j2] at H
       replace H := Option.bind_eq_some_iff.mp H
       obtain ⟨⟨t461, t462, t463⟩, A610, H⟩ := H
       try dsimp only at H
       have A61 := zK A610
       clear A610
       by_cases c62 : t461 = true
       ·subst c62
        have H1 : (some (t423, a1_1, x438002_5, x438003_32, x438004_32, x438005_47, t433, t434, t462, t463)) = some (r1, r2, r3, r4, r5, r6, r7, r8, r9, r10) := by rw [if_pos rfl] at H; exact H
        clear H
        have H := H1
        clear H1
        simp only [Option.some.injEq, Prod.mk.injEq] at H
        obtain ⟨rfl, rfl, rfl, rfl, rfl, rfl, rfl, rfl, rfl, rfl⟩ := H
        go_wp2_with (first | ((with_reducible refine gate_callee (f := 114) rfl ?_); refine goesL_ (some 50) rfl rfl Try.func114 (by kernel_rfl) rfl #[.pointer (some ⟨g, 0, none⟩), .int .i64 6] rfl M0 ?_; (with_reducible refine (spec_l1Once.calls g s0_0 t456 t457 6 true t462 t463 w0 _ ?side1 ?side2 A61.o).mono ?_); (case side1 => repeat (first | (with_reducible first | exact HI0.o | apply IsS187.alloc | apply IsS187.drewN | apply IsS187.drew | apply IsS187.set_1 | apply IsS187.set_2 | refine IsS187.far ?_ NB0_421.o _ | refine IsS187.far ?_ NB0_422.o _ | refine IsS187.far ?_ NB0_437.o _) | exact HI0.o)); (case side2 => repeat (first | (with_reducible first | exact HB.o | apply bA | apply bN | apply below_drew1 | refine bS ?_ (IsS187.ge HI0.o) | refine bS ?_ GE421.o | refine bS ?_ GE422.o | refine bS ?_ GE437.o) | exact HB.o)); rintro e w63 ⟨rfl, hi, hb, hk⟩; refine ⟨_, rfl, ?_⟩; have _ := zK (Kd.R_mono (Kd.R_keep (IsS187.apart (show IsS187 w0 _ g s0_0 t456 t457 from Q2) (Kd.qR HO_438002.o) (by decide)) hk (fun _ h => h.2)) (fun _ h => h.1)); have _ := zK (Kd.R_mono (Kd.R_keep (IsS187.apart (show IsS187 w0 _ g s0_0 t456 t457 from Q2) (Kd.qR HO_438005.o) (by decide)) hk (fun _ h => h.2)) (fun _ h => h.1)); have _ := zK (KeepBut.blk hk (g' := gb421) (o := .cells #[.int .i64 a1_0, .int .i64 a1_1, .int .i64 a1_2, .int .i64 a1_3, .int .i64 a1_4, .int .i64 a1_5, .int .i64 a1_6, .int .i64 a1_7] 126 (0, 0)) (qK BK421.o) NB421_0.o (by simp)); have _ := zK (KeepBut.blk hk (g' := gb422) (o := .cells #[.int .i64 0, .int .i64 0, .slice none 0 0, .int .i64 0, .int .i64 0, .slice none 0 0, .int .i64 0, .int .i64 0] 87 (0, 0)) (qK BK422.o) NB422_0.o (by simp)); have _ := zK (KeepBut.blk hk (g' := gb437) (o := .cells #[.int .i64 t423, .int .i64 a1_1, u438002, .int .i64 x438003_32, .int .i64 x438004_32, u438005, .int .i64 t433, .int .i64 t434] 87 (0, 0)) (qK BK437.o) NB437_0.o (by simp)); have _ := zK (KeepBut.trans M14 hk (.inl rfl)); have _ := zK (hb); have _ := zK (hi); clear HO_438002 HO_438005 BK421 BK422 BK437 HK HB HI0; rename_i HO_438002 HO_438005 BK421 BK422 BK437 HK HB HI0; (try clear hb); (try clear hb2); (try clear hk); (try clear hi); have hnb64 := NB437_421.o; have hnc64 := NB421_437.o; have hnb65 := NB437_422.o; have hnc65 := NB422_437.o; have hnb66 := NB437_0.o; have hnc66 := NB0_437.o; obtain ⟨hcz67_0, hcz67_1, hcz67_2, hcz67_3, hcz67_4, hcz67_5, hcz67_6, hcz67_7, hfz67_0, hfz67_1, hfz67_2, hfz67_3, hfz67_4, hfz67_5, hfz67_6, hfz67_7⟩ := bx8 BK437.o; have hnb68 := NB422_421.o; have hnc68 := NB421_422.o; have hnb69 := NB422_0.o; have hnc69 := NB0_422.o; obtain ⟨hcz70_0, hcz70_1, hcz70_2, hcz70_3, hcz70_4, hcz70_5, hcz70_6, hcz70_7, hfz70_0, hfz70_1, hfz70_2, hfz70_3, hfz70_4, hfz70_5, hfz70_6, hfz70_7⟩ := bx8 BK422.o; obtain ⟨Ao71, co71, eo71⟩ := Kd.R_slice HO_438002.o; subst eo71; obtain ⟨Ao72, co72, eo72⟩ := Kd.R_slice HO_438005.o; subst eo72))
        refine bodyPost_ret (results_cell_row rfl _ _ gb422 87 #[.int .i64 t423, .int .i64 a1_1, .slice Ao71 x438002_5.length co71, .int .i64 x438003_32, .int .i64 x438004_32, .slice Ao72 x438005_47.length co72, .int .i64 t433, .int .i64 t434] (0, 0) _ rfl (by (with_reducible repeat (first | refine kN ?_ _ | refine kD ?_ | refine kA ?_ _)); refine blk_put (cs := #[.int .i64 t423, .int .i64 a1_1, .slice Ao71 x438002_5.length co71, .int .i64 x438003_32, .int .i64 x438004_32, .slice Ao72 x438005_47.length co72, .int .i64 t433, .int .i64 0]) ?_ 7 _ rfl; (with_reducible repeat (first | refine kN ?_ _ | refine kD ?_ | refine kA ?_ _)); refine blk_put (cs := #[.int .i64 t423, .int .i64 a1_1, .slice Ao71 x438002_5.length co71, .int .i64 x438003_32, .int .i64 x438004_32, .slice Ao72 x438005_47.length co72, .int .i64 0, .int .i64 0]) ?_ 6 _ rfl; (with_reducible repeat (first | refine kN ?_ _ | refine kD ?_ | refine kA ?_ _)); refine blk_put (cs := #[.int .i64 t423, .int .i64 a1_1, .slice Ao71 x438002_5.length co71, .int .i64 x438003_32, .int .i64 x438004_32, .slice none 0 0, .int .i64 0, .int .i64 0]) ?_ 5 _ rfl; (with_reducible repeat (first | refine kN ?_ _ | refine kD ?_ | refine kA ?_ _)); refine blk_put (cs := #[.int .i64 t423, .int .i64 a1_1, .slice Ao71 x438002_5.length co71, .int .i64 x438003_32, .int .i64 0, .slice none 0 0, .int .i64 0, .int .i64 0]) ?_ 4 _ rfl; (with_reducible repeat (first | refine kN ?_ _ | refine kD ?_ | refine kA ?_ _)); refine blk_put (cs := #[.int .i64 t423, .int .i64 a1_1, .slice Ao71 x438002_5.length co71, .int .i64 0, .int .i64 0, .slice none 0 0, .int .i64 0, .int .i64 0]) ?_ 3 _ rfl; (with_reducible repeat (first | refine kN ?_ _ | refine kD ?_ | refine kA ?_ _)); refine blk_put (cs := #[.int .i64 t423, .int .i64 a1_1, .slice none 0 0, .int .i64 0, .int .i64 0, .slice none 0 0, .int .i64 0, .int .i64 0]) ?_ 2 _ rfl; (with_reducible repeat (first | refine kN ?_ _ | refine kD ?_ | refine kA ?_ _)); refine blk_put (cs := #[.int .i64 t423, .int .i64 0, .slice none 0 0, .int .i64 0, .int .i64 0, .slice none 0 0, .int .i64 0, .int .i64 0]) ?_ 1 _ rfl; (with_reducible repeat (first | refine kN ?_ _ | refine kD ?_ | refine kA ?_ _)); refine blk_put (cs := #[.int .i64 0, .int .i64 0, .slice none 0 0, .int .i64 0, .int .i64 0, .slice none 0 0, .int .i64 0, .int .i64 0]) ?_ 0 _ rfl; exact qK BK422.o) Try.underlying87 rfl (by kernel_rfl)) rfl ?_
        exact ⟨_, _, by first | rfl | (simp [errW_none, errW_some] <;> rfl) | (simp [*, errW_none, errW_some] <;> rfl), by (with_reducible repeat (first | apply Kd.RA | apply Kd.RN | apply Kd.RD)); exact Kd.R_mono (Kd.R_far (p := ⟨gb422, 7, none⟩) (Kd.R_far (p := ⟨gb422, 6, none⟩) (Kd.R_far (p := ⟨gb422, 5, none⟩) (Kd.R_far (p := ⟨gb422, 4, none⟩) (Kd.R_far (p := ⟨gb422, 3, none⟩) (Kd.R_far (p := ⟨gb422, 2, none⟩) (Kd.R_far (p := ⟨gb422, 1, none⟩) (Kd.R_far (p := ⟨gb422, 0, none⟩) (Kd.R_types HO_438002.o BK422.o (by decide)) (fun _ hk => hk.2) (.int .i64 t423)) (fun _ hk => hk.2) (.int .i64 a1_1)) (fun _ hk => hk.2) (.slice Ao71 x438002_5.length co71)) (fun _ hk => hk.2) (.int .i64 x438003_32)) (fun _ hk => hk.2) (.int .i64 x438004_32)) (fun _ hk => hk.2) (.slice Ao72 x438005_47.length co72)) (fun _ hk => hk.2) (.int .i64 t433)) (fun _ hk => hk.2) (.int .i64 t434)) (fun _ hk => hk.1), by (with_reducible repeat (first | apply Kd.RA | apply Kd.RN | apply Kd.RD)); exact Kd.R_mono (Kd.R_far (p := ⟨gb422, 7, none⟩) (Kd.R_far (p := ⟨gb422, 6, none⟩) (Kd.R_far (p := ⟨gb422, 5, none⟩) (Kd.R_far (p := ⟨gb422, 4, none⟩) (Kd.R_far (p := ⟨gb422, 3, none⟩) (Kd.R_far (p := ⟨gb422, 2, none⟩) (Kd.R_far (p := ⟨gb422, 1, none⟩) (Kd.R_far (p := ⟨gb422, 0, none⟩) (Kd.R_types HO_438005.o BK422.o (by decide)) (fun _ hk => hk.2) (.int .i64 t423)) (fun _ hk => hk.2) (.int .i64 a1_1)) (fun _ hk => hk.2) (.slice Ao71 x438002_5.length co71)) (fun _ hk => hk.2) (.int .i64 x438003_32)) (fun _ hk => hk.2) (.int .i64 x438004_32)) (fun _ hk => hk.2) (.slice Ao72 x438005_47.length co72)) (fun _ hk => hk.2) (.int .i64 t433)) (fun _ hk => hk.2) (.int .i64 t434)) (fun _ hk => hk.1), Q2, Q6, Q7⟩
       replace c62 := Bool.eq_false_iff.mpr c62
       subst c62
       have H1 : ((spec_l1Below.f s0_0 t462 t463 40).bind fun bt464 => ((spec_Max.f 0 (wrap64 (a1_6 - bt464.1))).bind fun t467 => ((spec_Max.f 0 a1_6).bind fun t468 => (some (t423, a1_1, x438002_5, x438003_32, x438004_32, x438005_47, t467, t468, bt464.2.1, bt464.2.2))))) = some (r1, r2, r3, r4, r5, r6, r7, r8, r9, r10) := by rw [if_neg (show ¬ (false = true) by decide)] at H; exact H
       clear H
       have H := H1
       clear H1
       replace H := Option.bind_eq_some_iff.mp H
       obtain ⟨⟨t464, t465, t466⟩, A730, H⟩ := H
       try dsimp only at H
       have A73 := zK A730
       clear A730
       replace H := Option.bind_eq_some_iff.mp H
       obtain ⟨t467, A740, H⟩ := H
       try dsimp only at H
       have A74 := zK A740
       clear A740
       replace H := Option.bind_eq_some_iff.mp H
       obtain ⟨t468, A750, H⟩ := H
       try dsimp only at H
       have A75 := zK A750
       clear A750
       simp only [Option.some.injEq, Prod.mk.injEq] at H
       obtain ⟨rfl, rfl, rfl, rfl, rfl, rfl, rfl, rfl, rfl, rfl⟩ := H
       try go_wp2_with (first | ((with_reducible refine gate_callee (f := 114) rfl ?_); refine goesL_ (some 50) rfl rfl Try.func114 (by kernel_rfl) rfl #[.pointer (some ⟨g, 0, none⟩), .int .i64 6] rfl M0 ?_; (with_reducible refine (spec_l1Once.calls g s0_0 t456 t457 6 false t462 t463 w0 _ ?side1 ?side2 A61.o).mono ?_); (case side1 => repeat (first | (with_reducible first | exact HI0.o | apply IsS187.alloc | apply IsS187.drewN | apply IsS187.drew | apply IsS187.set_1 | apply IsS187.set_2 | refine IsS187.far ?_ NB0_421.o _ | refine IsS187.far ?_ NB0_422.o _ | refine IsS187.far ?_ NB0_437.o _) | exact HI0.o)); (case side2 => repeat (first | (with_reducible first | exact HB.o | apply bA | apply bN | apply below_drew1 | refine bS ?_ (IsS187.ge HI0.o) | refine bS ?_ GE421.o | refine bS ?_ GE422.o | refine bS ?_ GE437.o) | exact HB.o)); rintro e w76 ⟨rfl, hi, hb, hk⟩; refine ⟨_, rfl, ?_⟩; have _ := zK (Kd.R_mono (Kd.R_keep (IsS187.apart (show IsS187 w0 _ g s0_0 t456 t457 from Q2) (Kd.qR HO_438002.o) (by decide)) hk (fun _ h => h.2)) (fun _ h => h.1)); have _ := zK (Kd.R_mono (Kd.R_keep (IsS187.apart (show IsS187 w0 _ g s0_0 t456 t457 from Q2) (Kd.qR HO_438005.o) (by decide)) hk (fun _ h => h.2)) (fun _ h => h.1)); have _ := zK (KeepBut.blk hk (g' := gb421) (o := .cells #[.int .i64 a1_0, .int .i64 a1_1, .int .i64 a1_2, .int .i64 a1_3, .int .i64 a1_4, .int .i64 a1_5, .int .i64 a1_6, .int .i64 a1_7] 126 (0, 0)) (qK BK421.o) NB421_0.o (by simp)); have _ := zK (KeepBut.blk hk (g' := gb422) (o := .cells #[.int .i64 0, .int .i64 0, .slice none 0 0, .int .i64 0, .int .i64 0, .slice none 0 0, .int .i64 0, .int .i64 0] 87 (0, 0)) (qK BK422.o) NB422_0.o (by simp)); have _ := zK (KeepBut.blk hk (g' := gb437) (o := .cells #[.int .i64 t423, .int .i64 a1_1, u438002, .int .i64 x438003_32, .int .i64 x438004_32, u438005, .int .i64 t433, .int .i64 t434] 87 (0, 0)) (qK BK437.o) NB437_0.o (by simp)); have _ := zK (KeepBut.trans M14 hk (.inl rfl)); have _ := zK (hb); have _ := zK (hi); clear HO_438002 HO_438005 BK421 BK422 BK437 HK HB HI0; rename_i HO_438002 HO_438005 BK421 BK422 BK437 HK HB HI0; (try clear hb); (try clear hb2); (try clear hk); (try clear hi)))
       have n0_ := zK (Kd.RD HO_438002.o)
       have n1_ := zK (Kd.RD HO_438005.o)
       have n2_ := zK (kD BK421.o)
       have n3_ := zK (kD BK422.o)
       have n4_ := zK (kD BK437.o)
       have n5_ := zK (IsS187.drew HI0.o)
       have n6_ := zK (keep_drew HK.o)
       have n7_ := zK (below_drew1 HB.o)
       clear HO_438002
       clear HO_438005
       clear BK421
       clear BK422
       clear BK437
       clear HI0
       clear HK
       clear HB
       have HO_438002 := n0_
       have HO_438005 := n1_
       have BK421 := n2_
       have BK422 := n3_
       have BK437 := n4_
       have HI0 := n5_
       have HK := n6_
       have HB := n7_
       clear n0_ n1_ n2_ n3_ n4_ n5_ n6_ n7_
       refine start_ (n := 12) (S := fun w' => w'.cell? ⟨gb421, 0, none⟩ = some (.int .i64 a1_0) ∧ w'.cell? ⟨gb421, 1, none⟩ = some (.int .i64 a1_1) ∧ w'.cell? ⟨gb421, 2, none⟩ = some (.int .i64 a1_2) ∧ w'.cell? ⟨gb421, 3, none⟩ = some (.int .i64 a1_3) ∧ w'.cell? ⟨gb421, 4, none⟩ = some (.int .i64 a1_4) ∧ w'.cell? ⟨gb421, 5, none⟩ = some (.int .i64 a1_5) ∧ w'.cell? ⟨gb421, 6, none⟩ = some (.int .i64 a1_6) ∧ w'.cell? ⟨gb421, 7, none⟩ = some (.int .i64 a1_7)) (ds := []) b5A10 (by kernel_rfl) rfl rfl ⟨(bc BK421.o 0).trans rfl, (bc BK421.o 1).trans rfl, (bc BK421.o 2).trans rfl, (bc BK421.o 3).trans rfl, (bc BK421.o 4).trans rfl, (bc BK421.o 5).trans rfl, (bc BK421.o 6).trans rfl, (bc BK421.o 7).trans rfl⟩ (fun hHeld => ?_); refine with_tabW spec_l8For.tab11 spec_l8For.bits11 (fun HT_ HW_ => ?_)
       generalize w76.drew = w77 at HO_438002 HO_438005 BK421 BK422 BK437 HI0 HK HB hHeld ⊢
       refine pI 0 (some 52) b5A11 HT_ ?_
       refine pI 2 (some 54) b5A12 HT_ ?_
       refine pI 6 (some 58) b5A13 HT_ ?_
       refine tI 1 (some 53) b5A14 HT_ HW_ hHeld rfl rfl (Or.inl ⟨by rfl, by rintro w' ⟨s0, s1, s2, s3, s4, s5, s6, s7⟩; go_simp; with_reducible rfl⟩) ?_
       refine tI 7 (some 59) b5A15 HT_ HW_ hHeld rfl rfl (Or.inl ⟨by rfl, by rintro w' ⟨s0, s1, s2, s3, s4, s5, s6, s7⟩; go_simp; with_reducible rfl⟩) ?_
       refine one_ (i := 3) (N := some 55) b5A16 rfl rfl (one_of HT_.o (by kernel_rfl)) (by decide) (fun K hK => ?_)
       refine goes_ Try.func98 (by kernel_rfl) rfl #[.pointer (some ⟨g, 0, none⟩), .int .i64 40] (by rfl) rfl rfl M0 ?_
       with_reducible refine (spec_l1Below.calls g s0_0 t462 t463 40 t464 t465 t466 w0 _ ?side1 ?side2 A73.o).mono ?_
       (case side1 => repeat (first | (with_reducible first | exact HI0.o | apply IsS187.alloc | apply IsS187.drewN | apply IsS187.drew | apply IsS187.set_1 | apply IsS187.set_2 | refine IsS187.far ?_ NB0_421.o _ | refine IsS187.far ?_ NB0_422.o _ | refine IsS187.far ?_ NB0_437.o _) | exact HI0.o))
       (case side2 => repeat (first | (with_reducible first | exact HB.o | apply bA | apply bN | apply below_drew1 | refine bS ?_ (IsS187.ge HI0.o) | refine bS ?_ GE421.o | refine bS ?_ GE422.o | refine bS ?_ GE437.o) | exact HB.o))
       rintro e w78 ⟨rfl, hi, hb, hk⟩
       refine ⟨_, rfl, ?_⟩
       have n0_ := zK (Kd.R_mono (Kd.R_keep (IsS187.apart (show IsS187 w0 _ g s0_0 t462 t463 from Q2) (Kd.qR HO_438002.o) (by decide)) hk (fun _ h => h.2)) (fun _ h => h.1))
       have n1_ := zK (Kd.R_mono (Kd.R_keep (IsS187.apart (show IsS187 w0 _ g s0_0 t462 t463 from Q2) (Kd.qR HO_438005.o) (by decide)) hk (fun _ h => h.2)) (fun _ h => h.1))
       have n2_ := zK (KeepBut.blk hk (g' := gb421) (o := .cells #[.int .i64 a1_0, .int .i64 a1_1, .int .i64 a1_2, .int .i64 a1_3, .int .i64 a1_4, .int .i64 a1_5, .int .i64 a1_6, .int .i64 a1_7] 126 (0, 0)) (qK BK421.o) NB421_0.o (by simp))
       have n3_ := zK (KeepBut.blk hk (g' := gb422) (o := .cells #[.int .i64 0, .int .i64 0, .slice none 0 0, .int .i64 0, .int .i64 0, .slice none 0 0, .int .i64 0, .int .i64 0] 87 (0, 0)) (qK BK422.o) NB422_0.o (by simp))
       have n4_ := zK (KeepBut.blk hk (g' := gb437) (o := .cells #[.int .i64 t423, .int .i64 a1_1, u438002, .int .i64 x438003_32, .int .i64 x438004_32, u438005, .int .i64 t433, .int .i64 t434] 87 (0, 0)) (qK BK437.o) NB437_0.o (by simp))
       have n5_ := zK (KeepBut.trans M14 hk (.inl rfl))
       have n6_ := zK (hb)
       have n7_ := zK (hi)
       clear HO_438002
       clear HO_438005
       clear BK421
       clear BK422
       clear BK437
       clear HK
       clear HB
       clear HI0
       have HO_438002 := n0_
       have HO_438005 := n1_
       have BK421 := n2_
       have BK422 := n3_
       have BK437 := n4_
       have HK := n5_
       have HB := n6_
       have HI0 := n7_
       clear n0_ n1_ n2_ n3_ n4_ n5_ n6_ n7_
       (try clear hb)
       (try clear hb2)
       (try clear hk)
       (try clear hi)
       refine hK.out _ _ ⟨(bc BK421.o 0).trans rfl, (bc BK421.o 1).trans rfl, (bc BK421.o 2).trans rfl, (bc BK421.o 3).trans rfl, (bc BK421.o 4).trans rfl, (bc BK421.o 5).trans rfl, (bc BK421.o 6).trans rfl, (bc BK421.o 7).trans rfl⟩ (fun hHeld => ?_)
       clear hK K
       refine norm_ (a' := ?_) ?_ ?_
       rotate_left
       ·show Act.put _ (some 55) _ = _
        simp only [Act.put, sA, sZ, sS, i64_w, i32_w]
        rfl
       refine pI 4 (some 56) b5A17 HT_ ?_
       refine one_ (i := 5) (N := some 57) b5A18 rfl rfl (one_of HT_.o (by kernel_rfl)) (by decide) (fun K hK => ?_)
       refine goes_ Try.func165 (by kernel_rfl) rfl #[.int .i64 0, .int .i64 (wrap64 (a1_6 - t464))] (by rfl) rfl rfl M0 ?_
       with_reducible refine (spec_Max.calls 0 (wrap64 (a1_6 - t464)) t467 _ A74.o).mono ?_
       rintro e w' ⟨rfl, ⟨nd, rfl⟩⟩
       refine ⟨_, rfl, ?_⟩
       refine hK.out _ _ ⟨(bc BK421.o 0).trans rfl, (bc BK421.o 1).trans rfl, (bc BK421.o 2).trans rfl, (bc BK421.o 3).trans rfl, (bc BK421.o 4).trans rfl, (bc BK421.o 5).trans rfl, (bc BK421.o 6).trans rfl, (bc BK421.o 7).trans rfl⟩ (fun hHeld => ?_)
       clear hK K
       refine norm_ (a' := ?_) ?_ ?_
       rotate_left
       ·show Act.put _ (some 57) _ = _
        simp only [Act.put, sA, sZ, sS, i64_w, i32_w]
        rfl
       refine one_ (i := 8) (N := some 60) b5A19 rfl rfl (one_of HT_.o (by kernel_rfl)) (by decide) (fun K hK => ?_)
       refine goes_ Try.func165 (by kernel_rfl) rfl #[.int .i64 0, .int .i64 a1_6] (by rfl) rfl rfl M0 ?_
       with_reducible refine (spec_Max.calls 0 a1_6 t468 _ A75.o).mono ?_
       rintro e w' ⟨rfl, ⟨nd, rfl⟩⟩
       refine ⟨_, rfl, ?_⟩
       refine hK.out _ _ ⟨(bc BK421.o 0).trans rfl, (bc BK421.o 1).trans rfl, (bc BK421.o 2).trans rfl, (bc BK421.o 3).trans rfl, (bc BK421.o 4).trans rfl, (bc BK421.o 5).trans rfl, (bc BK421.o 6).trans rfl, (bc BK421.o 7).trans rfl⟩ (fun hHeld => ?_)
       clear hK K
       refine norm_ (a' := ?_) ?_ ?_
       rotate_left
       ·show Act.put _ (some 60) _ = _
        simp only [Act.put, sA, sZ, sS, i64_w, i32_w]
        rfl
       refine pI 9 (some 61) b5A20 HT_ ?_
       refine pI 10 (some 62) b5A21 HT_ ?_
       refine one_ (i := 11) (N := none) b5A22 rfl rfl (one_of HT_.o (by kernel_rfl)) (by decide) (fun K hK => ?_)
       have hs79 : w78.cell? ⟨gb437, 6, none⟩ = some (.int .i64 t433) := (bc BK437.o 6).trans rfl
       have hfs79 := bf BK437.o 6
       have hns79_0 := NB421_437.o
       have hns79_1 := NB422_437.o
       have hms79_0 := NB437_421.o
       have hms79_1 := NB437_422.o
       have hs80 : w78.cell? ⟨gb437, 7, none⟩ = some (.int .i64 t434) := (bc BK437.o 7).trans rfl
       have hfs80 := bf BK437.o 7
       have hns80_0 := NB421_437.o
       have hns80_1 := NB422_437.o
       have hms80_0 := NB437_421.o
       have hms80_1 := NB437_422.o
       refine skip_ (w1 := ?_) (by rfl) rfl ?_ ?_
       rotate_left
       ·go_simp
        rfl
       refine hK.out _ _ ⟨((cell_far (p := ⟨gb437, _, none⟩) NB421_437.o _).trans (((cell_far (p := ⟨gb437, _, none⟩) NB421_437.o _).trans (hHeld.1)))), ((cell_far (p := ⟨gb437, _, none⟩) NB421_437.o _).trans (((cell_far (p := ⟨gb437, _, none⟩) NB421_437.o _).trans (hHeld.2.1)))), ((cell_far (p := ⟨gb437, _, none⟩) NB421_437.o _).trans (((cell_far (p := ⟨gb437, _, none⟩) NB421_437.o _).trans (hHeld.2.2.1)))), ((cell_far (p := ⟨gb437, _, none⟩) NB421_437.o _).trans (((cell_far (p := ⟨gb437, _, none⟩) NB421_437.o _).trans (hHeld.2.2.2.1)))), ((cell_far (p := ⟨gb437, _, none⟩) NB421_437.o _).trans (((cell_far (p := ⟨gb437, _, none⟩) NB421_437.o _).trans (hHeld.2.2.2.2.1)))), ((cell_far (p := ⟨gb437, _, none⟩) NB421_437.o _).trans (((cell_far (p := ⟨gb437, _, none⟩) NB421_437.o _).trans (hHeld.2.2.2.2.2.1)))), ((cell_far (p := ⟨gb437, _, none⟩) NB421_437.o _).trans (((cell_far (p := ⟨gb437, _, none⟩) NB421_437.o _).trans (hHeld.2.2.2.2.2.2.1)))), ((cell_far (p := ⟨gb437, _, none⟩) NB421_437.o _).trans (((cell_far (p := ⟨gb437, _, none⟩) NB421_437.o _).trans (hHeld.2.2.2.2.2.2.2))))⟩ (fun hHeld => ?_)
       clear hK K
       refine done_ (done_of HT_.o (by kernel_rfl)) ?_
       have hnb81 := NB437_421.o
       have hnc81 := NB421_437.o
       have hnb82 := NB437_422.o
       have hnc82 := NB422_437.o
       have hnb83 := NB437_0.o
       have hnc83 := NB0_437.o
       obtain ⟨hcz84_0, hcz84_1, hcz84_2, hcz84_3, hcz84_4, hcz84_5, hcz84_6, hcz84_7, hfz84_0, hfz84_1, hfz84_2, hfz84_3, hfz84_4, hfz84_5, hfz84_6, hfz84_7⟩ := bx8 BK437.o
       have hnb85 := NB422_421.o
       have hnc85 := NB421_422.o
       have hnb86 := NB422_0.o
       have hnc86 := NB0_422.o
       obtain ⟨hcz87_0, hcz87_1, hcz87_2, hcz87_3, hcz87_4, hcz87_5, hcz87_6, hcz87_7, hfz87_0, hfz87_1, hfz87_2, hfz87_3, hfz87_4, hfz87_5, hfz87_6, hfz87_7⟩ := bx8 BK422.o
       obtain ⟨Ao88, co88, eo88⟩ := Kd.R_slice HO_438002.o
       subst eo88
       obtain ⟨Ao89, co89, eo89⟩ := Kd.R_slice HO_438005.o
       subst eo89
       try go_wp2
       refine bodyPost_ret (results_cell_row rfl _ _ gb422 87 #[.int .i64 t423, .int .i64 a1_1, .slice Ao88 x438002_5.length co88, .int .i64 x438003_32, .int .i64 x438004_32, .slice Ao89 x438005_47.length co89, .int .i64 t467, .int .i64 t468] (0, 0) _ rfl (by (with_reducible repeat (first | refine kN ?_ _ | refine kD ?_ | refine kA ?_ _)); refine blk_put (cs := #[.int .i64 t423, .int .i64 a1_1, .slice Ao88 x438002_5.length co88, .int .i64 x438003_32, .int .i64 x438004_32, .slice Ao89 x438005_47.length co89, .int .i64 t467, .int .i64 0]) ?_ 7 _ rfl; (with_reducible repeat (first | refine kN ?_ _ | refine kD ?_ | refine kA ?_ _)); refine blk_put (cs := #[.int .i64 t423, .int .i64 a1_1, .slice Ao88 x438002_5.length co88, .int .i64 x438003_32, .int .i64 x438004_32, .slice Ao89 x438005_47.length co89, .int .i64 0, .int .i64 0]) ?_ 6 _ rfl; (with_reducible repeat (first | refine kN ?_ _ | refine kD ?_ | refine kA ?_ _)); refine blk_put (cs := #[.int .i64 t423, .int .i64 a1_1, .slice Ao88 x438002_5.length co88, .int .i64 x438003_32, .int .i64 x438004_32, .slice none 0 0, .int .i64 0, .int .i64 0]) ?_ 5 _ rfl; (with_reducible repeat (first | refine kN ?_ _ | refine kD ?_ | refine kA ?_ _)); refine blk_put (cs := #[.int .i64 t423, .int .i64 a1_1, .slice Ao88 x438002_5.length co88, .int .i64 x438003_32, .int .i64 0, .slice none 0 0, .int .i64 0, .int .i64 0]) ?_ 4 _ rfl; (with_reducible repeat (first | refine kN ?_ _ | refine kD ?_ | refine kA ?_ _)); refine blk_put (cs := #[.int .i64 t423, .int .i64 a1_1, .slice Ao88 x438002_5.length co88, .int .i64 0, .int .i64 0, .slice none 0 0, .int .i64 0, .int .i64 0]) ?_ 3 _ rfl; (with_reducible repeat (first | refine kN ?_ _ | refine kD ?_ | refine kA ?_ _)); refine blk_put (cs := #[.int .i64 t423, .int .i64 a1_1, .slice none 0 0, .int .i64 0, .int .i64 0, .slice none 0 0, .int .i64 0, .int .i64 0]) ?_ 2 _ rfl; (with_reducible repeat (first | refine kN ?_ _ | refine kD ?_ | refine kA ?_ _)); refine blk_put (cs := #[.int .i64 t423, .int .i64 0, .slice none 0 0, .int .i64 0, .int .i64 0, .slice none 0 0, .int .i64 0, .int .i64 0]) ?_ 1 _ rfl; (with_reducible repeat (first | refine kN ?_ _ | refine kD ?_ | refine kA ?_ _)); refine blk_put (cs := #[.int .i64 0, .int .i64 0, .slice none 0 0, .int .i64 0, .int .i64 0, .slice none 0 0, .int .i64 0, .int .i64 0]) ?_ 0 _ rfl; (with_reducible repeat (first | refine kN ?_ _ | refine kD ?_ | refine kA ?_ _)); refine blk_far ?_ NB422_437.o _; (with_reducible repeat (first | refine kN ?_ _ | refine kD ?_ | refine kA ?_ _)); refine blk_far ?_ NB422_437.o _; exact qK BK422.o) Try.underlying87 rfl (by kernel_rfl)) rfl ?_
       exact ⟨_, _, by first | rfl | (simp [errW_none, errW_some] <;> rfl) | (simp [*, errW_none, errW_some] <;> rfl), by (with_reducible repeat (first | apply Kd.RA | apply Kd.RN | apply Kd.RD)); exact Kd.R_mono (Kd.R_far (p := ⟨gb422, 7, none⟩) (Kd.R_far (p := ⟨gb422, 6, none⟩) (Kd.R_far (p := ⟨gb422, 5, none⟩) (Kd.R_far (p := ⟨gb422, 4, none⟩) (Kd.R_far (p := ⟨gb422, 3, none⟩) (Kd.R_far (p := ⟨gb422, 2, none⟩) (Kd.R_far (p := ⟨gb422, 1, none⟩) (Kd.R_far (p := ⟨gb422, 0, none⟩) (Kd.R_far (p := ⟨gb437, 7, none⟩) (Kd.R_far (p := ⟨gb437, 6, none⟩) (Kd.R_types (Kd.R_types HO_438002.o BK437.o (by decide)) BK422.o (by decide)) (fun _ hk => hk.1.2) (.int .i64 t467)) (fun _ hk => hk.1.2) (.int .i64 t468)) (fun _ hk => hk.2) (.int .i64 t423)) (fun _ hk => hk.2) (.int .i64 a1_1)) (fun _ hk => hk.2) (.slice Ao88 x438002_5.length co88)) (fun _ hk => hk.2) (.int .i64 x438003_32)) (fun _ hk => hk.2) (.int .i64 x438004_32)) (fun _ hk => hk.2) (.slice Ao89 x438005_47.length co89)) (fun _ hk => hk.2) (.int .i64 t467)) (fun _ hk => hk.2) (.int .i64 t468)) (fun _ hk => hk.1.1), by (with_reducible repeat (first | apply Kd.RA | apply Kd.RN | apply Kd.RD)); exact Kd.R_mono (Kd.R_far (p := ⟨gb422, 7, none⟩) (Kd.R_far (p := ⟨gb422, 6, none⟩) (Kd.R_far (p := ⟨gb422, 5, none⟩) (Kd.R_far (p := ⟨gb422, 4, none⟩) (Kd.R_far (p := ⟨gb422, 3, none⟩) (Kd.R_far (p := ⟨gb422, 2, none⟩) (Kd.R_far (p := ⟨gb422, 1, none⟩) (Kd.R_far (p := ⟨gb422, 0, none⟩) (Kd.R_far (p := ⟨gb437, 7, none⟩) (Kd.R_far (p := ⟨gb437, 6, none⟩) (Kd.R_types (Kd.R_types HO_438005.o BK437.o (by decide)) BK422.o (by decide)) (fun _ hk => hk.1.2) (.int .i64 t467)) (fun _ hk => hk.1.2) (.int .i64 t468)) (fun _ hk => hk.2) (.int .i64 t423)) (fun _ hk => hk.2) (.int .i64 a1_1)) (fun _ hk => hk.2) (.slice Ao88 x438002_5.length co88)) (fun _ hk => hk.2) (.int .i64 x438003_32)) (fun _ hk => hk.2) (.int .i64 x438004_32)) (fun _ hk => hk.2) (.slice Ao89 x438005_47.length co89)) (fun _ hk => hk.2) (.int .i64 t467)) (fun _ hk => hk.2) (.int .i64 t468)) (fun _ hk => hk.1.1), Q2, Q6, Q7⟩

end Go.Proofs.Ytpkdbkheggfkkaa.PFnLetters
