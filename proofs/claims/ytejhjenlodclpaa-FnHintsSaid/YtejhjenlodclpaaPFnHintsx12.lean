/- Walks of functions that FnHints reaches, shortened. -/
import Derived.Test.YtejhjenlodclpaaPFnHintsx0
import Derived.Test.YtejhjenlodclpaaPFnHintsx9
import Derived.Test.YtejhjenlodclpaaPFnHintsx10
import Derived.Test.YtejhjenlodclpaaPFnHintsx11
namespace Go.Proofs.Ytejhjenlodclpaa.PFnHints
open Go.RowKit Go.Proofs.YtejhjenlodclpaaW.PrintWords Go.Proofs.YtejhjenlodclpaaW.PrintLast Go.Proofs.YtejhjenlodclpaaW.PrintMore
attribute [local go_sem] max2_int min2_int max_two min_two max_three min_three max_four min_four
set_option linter.unusedVariables false
set_option linter.unusedSimpArgs false

abbrev b12A0 : Array Bool := #[O, O, O, O, O, O, O, O, O]
abbrev b12A1 : Array Bool := #[I, O, O, O, O, O, O, O, O]
abbrev b12A2 : Array Bool := #[I, I, O, O, O, O, O, O, O]
abbrev b12A3 : Array Bool := #[I, I, O, I, O, O, O, O, O]
abbrev b12A4 : Array Bool := #[I, I, I, I, O, O, O, O, O]
abbrev b12A5 : Array Bool := #[I, I, I, I, I, O, O, O, O]
abbrev b12A6 : Array Bool := #[I, I, I, I, I, I, O, O, O]
abbrev b12A7 : Array Bool := #[I, I, I, I, I, I, I, O, O]
abbrev b12A8 : Array Bool := #[I, I, I, I, I, I, I, I, O]
abbrev b12A9 : Array Bool := #[I, I, I, I, I, I, I, I, I]
abbrev b12A10 : Array Bool := #[O, O, O, O, O, O, O, O, O, O, O, O]
abbrev b12A11 : Array Bool := #[I, O, O, O, O, O, O, O, O, O, O, O]
abbrev b12A12 : Array Bool := #[I, O, I, O, O, O, O, O, O, O, O, O]
abbrev b12A13 : Array Bool := #[I, O, I, O, O, O, I, O, O, O, O, O]
abbrev b12A14 : Array Bool := #[I, I, I, O, O, O, I, O, O, O, O, O]
abbrev b12A15 : Array Bool := #[I, I, I, O, O, O, I, I, O, O, O, O]
abbrev b12A16 : Array Bool := #[I, I, I, I, O, O, I, I, O, O, O, O]
abbrev b12A17 : Array Bool := #[I, I, I, I, I, O, I, I, O, O, O, O]
abbrev b12A18 : Array Bool := #[I, I, I, I, I, I, I, I, O, O, O, O]
abbrev b12A19 : Array Bool := #[I, I, I, I, I, I, I, I, I, O, O, O]
abbrev b12A20 : Array Bool := #[I, I, I, I, I, I, I, I, I, I, O, O]
abbrev b12A21 : Array Bool := #[I, I, I, I, I, I, I, I, I, I, I, O]
abbrev b12A22 : Array Bool := #[I, I, I, I, I, I, I, I, I, I, I, I]
/-! ### spec_l8For: function 129 -/
mutual
def spec_l8For.j0 : Nat → List Int → Int → Int → Int → Int → Int → Int → Int → Int → Int → Int → Int → Int → List Int → Int → Int → List Int → Int → Int → Option (Int × Int × List Int × Int × Int × List Int × Int × Int × Int × Int)
 | 0, _, _, _, _, _, _, _, _, _, _, _, _, _, _, _, _, _, _, _ => none
 | k + 1, x1000, x1001, x1002, x568000, x568001, x568002, x568003, x568004, x568005, x568006, x568007, x584000, x584001, x584002, x584003, x584004, x584005, x584006, x584007 => (spec_l1Once.f x1000 x1001 x1002 6).bind fun bt590 => (if bt590.1 = true then (spec_l8For.j1 k x1000 bt590.2.1 bt590.2.2 x568000 x568001 x568002 x568003 x568004 x568005 x568006 x568007 x584000 x584001 x584002 x584003 x584004 x584005 x584006 x584007) else ((spec_l1Below.f x1000 bt590.2.1 bt590.2.2 4).bind fun bt593 => ((spec_Max.f 1 (wrap64 (x568003 - bt593.1))).bind fun t596 => ((spec_l1Below.f x1000 bt593.2.1 bt593.2.2 4).bind fun bt597 => ((spec_Min.f 50 (wrap64 (x568003 + bt597.1))).bind fun t600 => (spec_l8For.j1 k x1000 bt597.2.1 bt597.2.2 x568000 x568001 x568002 x568003 x568004 x568005 x568006 x568007 x584000 x584001 x584002 t596 t600 x584005 x584006 x584007))))))
def spec_l8For.j1 : Nat → List Int → Int → Int → Int → Int → Int → Int → Int → Int → Int → Int → Int → Int → List Int → Int → Int → List Int → Int → Int → Option (Int × Int × List Int × Int × Int × List Int × Int × Int × Int × Int)
 | 0, _, _, _, _, _, _, _, _, _, _, _, _, _, _, _, _, _, _, _ => none
 | k + 1, x1000, x1001, x1002, x568000, x568001, x568002, x568003, x568004, x568005, x568006, x568007, x584000, x584001, x584002, x584003, x584004, x584005, x584006, x584007 => (spec_l1Once.f x1000 x1001 x1002 6).bind fun bt601 => (if bt601.1 = true then (spec_l8For.j2 k x1000 bt601.2.1 bt601.2.2 x568000 x568001 x568002 x568003 x568004 x568005 x568006 x568007 x584000 x584001 x584002 x584003 x584004 x584005 x584006 x584007) else (spec_l8For.j2 k x1000 bt601.2.1 bt601.2.2 x568000 x568001 x568002 x568003 x568004 x568005 x568006 x568007 x584000 x584001 x584002 x584003 x584004 (([x568005] : List Int)) x584006 x584007))
def spec_l8For.j2 : Nat → List Int → Int → Int → Int → Int → Int → Int → Int → Int → Int → Int → Int → Int → List Int → Int → Int → List Int → Int → Int → Option (Int × Int × List Int × Int × Int × List Int × Int × Int × Int × Int)
 | 0, _, _, _, _, _, _, _, _, _, _, _, _, _, _, _, _, _, _, _ => none
 | k + 1, x1000, x1001, x1002, x568000, x568001, x568002, x568003, x568004, x568005, x568006, x568007, x584000, x584001, x584002, x584003, x584004, x584005, x584006, x584007 => (spec_l1Once.f x1000 x1001 x1002 6).bind fun bt607 => (if bt607.1 = true then (some (x584000, x584001, x584002, x584003, x584004, x584005, x584006, x584007, bt607.2.1, bt607.2.2)) else ((spec_l1Below.f x1000 bt607.2.1 bt607.2.2 40).bind fun bt610 => ((spec_Max.f 0 (wrap64 (x568006 - bt610.1))).bind fun t613 => ((spec_Max.f 0 x568006).bind fun t614 => (some (x584000, x584001, x584002, x584003, x584004, x584005, t613, t614, bt610.2.1, bt610.2.2))))))
end
def spec_l8For.f (k : Nat) (s0_0 : List Int) (s0_1 : Int) (s0_2 : Int) (a1_0 : Int) (a1_1 : Int) (a1_2 : Int) (a1_3 : Int) (a1_4 : Int) (a1_5 : Int) (a1_6 : Int) (a1_7 : Int) (a2 : Int) : Option (Int × Int × List Int × Int × Int × List Int × Int × Int × Int × Int) := (spec_l7Draw.f k s0_0 s0_1 s0_2 a2).bind fun bt569 => ((spec_l1Once.f s0_0 bt569.2.2.2.2.2.2.2.2.1 bt569.2.2.2.2.2.2.2.2.2 6).bind fun bt584 => (if bt584.1 = true then (spec_l8For.j0 k s0_0 bt584.2.1 bt584.2.2 a1_0 a1_1 a1_2 a1_3 a1_4 a1_5 a1_6 a1_7 bt569.1 a1_1 bt569.2.2.1 bt569.2.2.2.1 bt569.2.2.2.2.1 bt569.2.2.2.2.2.1 bt569.2.2.2.2.2.2.1 bt569.2.2.2.2.2.2.2.1) else (spec_l8For.j0 k s0_0 bt584.2.1 bt584.2.2 a1_0 a1_1 a1_2 a1_3 a1_4 a1_5 a1_6 a1_7 bt569.1 a1_1 (([a1_2] : List Int)) bt569.2.2.2.1 bt569.2.2.2.2.1 bt569.2.2.2.2.2.1 bt569.2.2.2.2.2.2.1 bt569.2.2.2.2.2.2.2.1)))
def spec_l8For.T6 : Bool × List (List Nat × List Nat) := (true, [([], []), ([0], [0]), ([1], [1]), ([], []), ([3], [3]), ([2, 4], [2, 4]), ([5, 4], [5]), ([0, 1, 2, 3, 4, 5, 6], []), ([7, 6, 6, 0, 1, 2, 3, 4, 5, 6], [6, 7])])
def spec_l8For.B6 : List Nat := [0, 1, 3, 0, 8, 31, 63, 127, 255]
theorem spec_l8For.tab6 : rtab .any (opsOf Try.f129 6) = spec_l8For.T6 := by kernel_rfl
theorem spec_l8For.bits6 : waitsOk spec_l8For.T6.2 spec_l8For.B6 = true := by kernel_rfl
def spec_l8For.T7 : Bool × List (List Nat × List Nat) := (true, [([], []), ([0], [0]), ([1], [1]), ([], []), ([3], [3]), ([2, 4], [2, 4]), ([5, 4], [5]), ([0, 1, 2, 3, 4, 5, 6], []), ([7, 6, 6, 0, 1, 2, 3, 4, 5, 6], [6, 7])])
def spec_l8For.B7 : List Nat := [0, 1, 3, 0, 8, 31, 63, 127, 255]
theorem spec_l8For.tab7 : rtab .any (opsOf Try.f129 7) = spec_l8For.T7 := by kernel_rfl
theorem spec_l8For.bits7 : waitsOk spec_l8For.T7.2 spec_l8For.B7 = true := by kernel_rfl
def spec_l8For.T11 : Bool × List (List Nat × List Nat) := (true, [([], []), ([0], [0]), ([], []), ([2], [2]), ([1, 3], [1, 3]), ([4, 3], [4]), ([], []), ([6], [6]), ([7, 5], [7]), ([5, 8], [5, 8]), ([0, 1, 2, 3, 4, 5, 6, 7, 8, 9], []), ([10, 9, 8, 0, 1, 2, 3, 4, 5, 6, 7, 8, 9], [9, 10])])
def spec_l8For.B11 : List Nat := [0, 1, 0, 4, 15, 31, 0, 64, 255, 511, 1023, 2047]
theorem spec_l8For.tab11 : rtab .any (opsOf Try.f129 11) = spec_l8For.T11 := by kernel_rfl
theorem spec_l8For.bits11 : waitsOk spec_l8For.T11.2 spec_l8For.B11 = true := by kernel_rfl
set_option maxHeartbeats 8000000 in
set_option maxRecDepth 100000 in
theorem spec_l8For.calls (k : Nat) (g : Nat) (s0_0 : List Int) (s0_1 : Int) (s0_2 : Int) (a1_0 : Int) (a1_1 : Int) (a1_2 : Int) (a1_3 : Int) (a1_4 : Int) (a1_5 : Int) (a1_6 : Int) (a1_7 : Int) (a2 : Int) (r1 : Int) (r2 : Int) (r3 : List Int) (r4 : Int) (r5 : Int) (r6 : List Int) (r7 : Int) (r8 : Int) (r9 : Int) (r10 : Int) (w0 w : World) (hI : IsS173 w0 w g s0_0 s0_1 s0_2) (hB : Below w0.heap.size w0 w) (h : spec_l8For.f k s0_0 s0_1 s0_2 a1_0 a1_1 a1_2 a1_3 a1_4 a1_5 a1_6 a1_7 a2 = some (r1, r2, r3, r4, r5, r6, r7, r8, r9, r10)) :
  Calls Try.prog 129 #[.pointer (some ⟨g, 0, none⟩), .agg #[.int .i64 a1_0, .int .i64 a1_1, .int .i64 a1_2, .int .i64 a1_3, .int .i64 a1_4, .int .i64 a1_5, .int .i64 a1_6, .int .i64 a1_7], .int .i64 a2] w fun e w' => ∃ v2_ v5_ : Value, e = .returned (.agg #[.int .i64 r1, .int .i64 r2, v2_, .int .i64 r4, .int .i64 r5, v5_, .int .i64 r7, .int .i64 r8]) ∧ Kd.R (Kd.int .i64) 3 w' w.heap.size (fun k_ => some k_ ≠ (v5_ : Value).ownBlock) v2_ r3 ∧ Kd.R (Kd.int .i64) 3 w' w.heap.size (fun k_ => some k_ ≠ (v2_ : Value).ownBlock) v5_ r6 ∧ IsS173 w0 w' g s0_0 r9 r10 ∧ Below w0.heap.size w0 w' ∧ KeepBut w w' g none := by
 have hu113 := Try.underlying113
 have hu41 := Try.underlying41
 have hu39 := Try.underlying39
 have HI0 := zK hI
 have HK := zK (KeepBut.refl w g none)
 have HL := zK hB.size
 clear hI
 have HW0 := zK hB.size
 have HB := zK hB
 clear hB
 have H : ((spec_l7Draw.f k s0_0 s0_1 s0_2 a2).bind fun bt569 => ((spec_l1Once.f s0_0 bt569.2.2.2.2.2.2.2.2.1 bt569.2.2.2.2.2.2.2.2.2 6).bind fun bt584 => (if bt584.1 = true then (spec_l8For.j0 k s0_0 bt584.2.1 bt584.2.2 a1_0 a1_1 a1_2 a1_3 a1_4 a1_5 a1_6 a1_7 bt569.1 a1_1 bt569.2.2.1 bt569.2.2.2.1 bt569.2.2.2.2.1 bt569.2.2.2.2.2.1 bt569.2.2.2.2.2.2.1 bt569.2.2.2.2.2.2.2.1) else (spec_l8For.j0 k s0_0 bt584.2.1 bt584.2.2 a1_0 a1_1 a1_2 a1_3 a1_4 a1_5 a1_6 a1_7 bt569.1 a1_1 (([a1_2] : List Int)) bt569.2.2.2.1 bt569.2.2.2.2.1 bt569.2.2.2.2.2.1 bt569.2.2.2.2.2.2.1 bt569.2.2.2.2.2.2.2.1)))) = some (r1, r2, r3, r4, r5, r6, r7, r8, r9, r10) := h
 clear h
 replace H := Option.bind_eq_some_iff.mp H
 obtain ⟨⟨t569, t570, t571, t574, t575, t576, t579, t580, t581, t582⟩, A40, H⟩ := H
 try dsimp only at H
 have A4 := zK A40
 clear A40
 replace H := Option.bind_eq_some_iff.mp H
 obtain ⟨⟨t584, t585, t586⟩, A50, H⟩ := H
 try dsimp only at H
 have A5 := zK A50
 clear A50
 have HC6 := zK H
 clear H
 go_enter Try.func129, Try.ntmps129
 go_upto_if 17 with (first | ((with_reducible refine gd (N := 4) rfl ?_); refine bE (N := 4) (cs := #[.int .i64 a1_0, .int .i64 a1_1, .int .i64 a1_2, .int .i64 a1_3, .int .i64 a1_4, .int .i64 a1_5, .int .i64 a1_6, .int .i64 a1_7]) (t := 113) ?_; intro gb567 hg w7 hbox hb; have _ := zK (IsS173.below M7 hb); have _ := zK (KeepBut.trans M1 (KeepBut.of_below hb g none) (.inl rfl)); have _ := zK (bT M13 hb); have _ := zK (hbox); have _ := zK ((by rw [hg]; exact (keep_size (w := w) (g := g) (row := none) M1) : w.heap.size ≤ gb567)); have _ := zK ((Nat.le_trans HW0.o (by rw [hg]; exact (keep_size (w := w) (g := g) (row := none) M1) : w.heap.size ≤ gb567) : w0.heap.size ≤ gb567)); have _ := zK ((by rw [hg]; exact Nat.ne_of_lt (IsS173.lt (show IsS173 w0 _ g s0_0 s0_1 s0_2 from Q0)) : g ≠ gb567)); have _ := zK ((by rw [hg]; exact Nat.ne_of_gt (IsS173.lt (show IsS173 w0 _ g s0_0 s0_1 s0_2 from Q0)) : gb567 ≠ g)); clear HI0 HK HB; rename_i HI0 HK HB BK567 GW567 GE567 NB0_567 NB567_0; clear hb hbox hg) | ((with_reducible refine gd (N := 6) rfl ?_); refine bE (N := 6) (cs := #[.int .i64 0, .int .i64 0, .slice none 0 0, .int .i64 0, .int .i64 0, .slice none 0 0, .int .i64 0, .int .i64 0]) (t := 41) ?_; intro gb568 hg w8 hbox hb; have _ := zK (IsS173.below (Q25) hb); have _ := zK (bB (qK BK567.o) hb); have _ := zK (KeepBut.trans (Q27) (KeepBut.of_below hb g none) (.inl rfl)); have _ := zK (bT (by repeat (first | (with_reducible first | exact HB.o | apply bA | apply bN | apply b1 | refine bS ?_ (IsS173.ge HI0.o) | refine bS ?_ GE567.o) | exact HB.o)) hb); have _ := zK (hbox); have _ := zK ((by rw [hg]; exact (keep_size (w := w) (g := g) (row := none) (Q27)) : w.heap.size ≤ gb568)); have _ := zK ((Nat.le_trans HW0.o (by rw [hg]; exact (keep_size (w := w) (g := g) (row := none) (Q27)) : w.heap.size ≤ gb568) : w0.heap.size ≤ gb568)); have _ := zK ((by rw [hg]; exact Nat.ne_of_lt (blk_lt (qK BK567.o)) : gb567 ≠ gb568)); have _ := zK ((by rw [hg]; exact Nat.ne_of_gt (blk_lt (qK BK567.o)) : gb568 ≠ gb567)); have _ := zK ((by rw [hg]; exact Nat.ne_of_lt (IsS173.lt (show IsS173 w0 _ g s0_0 s0_1 s0_2 from Q25)) : g ≠ gb568)); have _ := zK ((by rw [hg]; exact Nat.ne_of_gt (IsS173.lt (show IsS173 w0 _ g s0_0 s0_1 s0_2 from Q25)) : gb568 ≠ g)); clear HI0 BK567 HK HB; rename_i HI0 BK567 HK HB BK568 GW568 GE568 NB567_568 NB568_567 NB0_568 NB568_0; clear hb hbox hg) | ((with_reducible refine gc (f := 169) rfl ?_); refine gL (some 10) Try.func169 #[.pointer (some ⟨g, 0, none⟩), .int .i64 a2] ?_; (with_reducible refine (spec_l7Draw.calls k g s0_0 s0_1 s0_2 a2 t569 t570 t571 t574 t575 t576 t579 t580 t581 t582 w0 _ ?side1 ?side2 A4.o).mono ?_); (case side1 => exact Q22); (case side2 => repeat (first | (with_reducible first | exact HB.o | apply bA | apply bN | apply b1 | refine bS ?_ (IsS173.ge HI0.o) | refine bS ?_ GE567.o | refine bS ?_ GE568.o) | exact HB.o)); rintro e w9 ⟨v572, v577, rfl, ho0, ho1, hi, hb, hk⟩; refine ⟨_, rfl, ?_⟩; have _ := zK (kB hk BK567.o NB567_0.o); have _ := zK (kB hk BK568.o NB568_0.o); have _ := zK (Kd.R_lower ho0 (keep_size (w := w) (g := g) (row := none) M61)); have _ := zK (Kd.R_lower ho1 (keep_size (w := w) (g := g) (row := none) M61)); have _ := zK (KeepBut.trans M61 hk (.inl rfl)); have _ := zK (hb); have _ := zK (hi); clear BK567 BK568 HK HB HI0; rename_i BK567 BK568 HO573 HO578 HK HB HI0; clear hb hk hi ho0 ho1) | ((with_reducible refine gd (N := 7) rfl ?_); refine bE (N := 7) (cs := #[.int .i64 0, .int .i64 0, .slice none 0 0, .int .i64 0, .int .i64 0, .slice none 0 0, .int .i64 0, .int .i64 0]) (t := 41) ?_; intro gb583 hg w10 hbox hb; have _ := zK (Kd.R_below (Kd.qR HO573.o) hb); have _ := zK (Kd.R_below (Kd.qR HO578.o) hb); have _ := zK (IsS173.below (Q22) hb); have _ := zK (bB (qK BK567.o) hb); have _ := zK (bB (qK BK568.o) hb); have _ := zK (KeepBut.trans M61 (KeepBut.of_below hb g none) (.inl rfl)); have _ := zK (bT (by repeat (first | (with_reducible first | exact HB.o | apply bA | apply bN | apply b1 | refine bS ?_ (IsS173.ge HI0.o) | refine bS ?_ GE567.o | refine bS ?_ GE568.o) | exact HB.o)) hb); have _ := zK (hbox); have _ := zK ((by rw [hg]; exact (keep_size (w := w) (g := g) (row := none) M61) : w.heap.size ≤ gb583)); have _ := zK ((Nat.le_trans HW0.o (by rw [hg]; exact (keep_size (w := w) (g := g) (row := none) M61) : w.heap.size ≤ gb583) : w0.heap.size ≤ gb583)); have _ := zK ((by rw [hg]; exact Nat.ne_of_lt (blk_lt (qK BK567.o)) : gb567 ≠ gb583)); have _ := zK ((by rw [hg]; exact Nat.ne_of_gt (blk_lt (qK BK567.o)) : gb583 ≠ gb567)); have _ := zK ((by rw [hg]; exact Nat.ne_of_lt (blk_lt (qK BK568.o)) : gb568 ≠ gb583)); have _ := zK ((by rw [hg]; exact Nat.ne_of_gt (blk_lt (qK BK568.o)) : gb583 ≠ gb568)); have _ := zK ((by rw [hg]; exact Nat.ne_of_lt (IsS173.lt (show IsS173 w0 _ g s0_0 t581 t582 from Q22)) : g ≠ gb583)); have _ := zK ((by rw [hg]; exact Nat.ne_of_gt (IsS173.lt (show IsS173 w0 _ g s0_0 t581 t582 from Q22)) : gb583 ≠ g)); clear HO573 HO578 HI0 BK567 BK568 HK HB; rename_i HO573 HO578 HI0 BK567 BK568 HK HB BK583 GW583 GE583 NB567_583 NB583_567 NB568_583 NB583_568 NB0_583 NB583_0; clear hb hbox hg; have hnb11 := NB583_567.o; have hnc11 := NB567_583.o; have hnb12 := NB583_568.o; have hnc12 := NB568_583.o; have hnb13 := NB583_0.o; have hnc13 := NB0_583.o; obtain ⟨hcz14_0, hcz14_1, hcz14_2, hcz14_3, hcz14_4, hcz14_5, hcz14_6, hcz14_7, hfz14_0, hfz14_1, hfz14_2, hfz14_3, hfz14_4, hfz14_5, hfz14_6, hfz14_7⟩ := bx8 BK583.o; obtain ⟨Ao15, co15, eo15⟩ := Kd.R_slice HO573.o; subst eo15; obtain ⟨Ao16, co16, eo16⟩ := Kd.R_slice HO578.o; subst eo16; have hnb17 := NB567_568.o; have hnc17 := NB568_567.o; have hnb18 := NB567_0.o; have hnc18 := NB0_567.o; obtain ⟨hcz19_0, hcz19_1, hcz19_2, hcz19_3, hcz19_4, hcz19_5, hcz19_6, hcz19_7, hfz19_0, hfz19_1, hfz19_2, hfz19_3, hfz19_4, hfz19_5, hfz19_6, hfz19_7⟩ := bx8 BK567.o) | ((with_reducible refine gc (f := 147) rfl ?_); refine gL (some 16) Try.func147 #[.pointer (some ⟨g, 0, none⟩), .int .i64 6] ?_; (with_reducible refine (spec_l1Once.calls g s0_0 t581 t582 6 t584 t585 t586 w0 _ ?side1 ?side2 A5.o).mono ?_); (case side1 => exact Q2); (case side2 => exact Q6); rintro e w20 ⟨rfl, hi, hb, hk⟩; refine ⟨_, rfl, ?_⟩; have _ := zK (KeepBut.blk hk (g' := gb567) (o := .cells #[.int .i64 a1_0, .int .i64 a1_1, .int .i64 a1_2, .int .i64 a1_3, .int .i64 a1_4, .int .i64 a1_5, .int .i64 a1_6, .int .i64 a1_7] 113 (0, 0)) (qP BK567.o) NB567_0.o (by simp)); have _ := zK (KeepBut.blk hk (g' := gb568) (o := .cells #[.int .i64 0, .int .i64 0, .slice none 0 0, .int .i64 0, .int .i64 0, .slice none 0 0, .int .i64 0, .int .i64 0] 41 (0, 0)) (qP BK568.o) NB568_0.o (by simp)); have _ := zK (Kd.R_mono (Kd.R_keep (IsS173.apart (show IsS173 w0 _ g s0_0 t581 t582 from Q2) (Kd.qF HO573.o BK583.o) (by decide)) hk (fun _ h => h.2)) (fun _ h => h.1)); have _ := zK (Kd.R_mono (Kd.R_keep (IsS173.apart (show IsS173 w0 _ g s0_0 t581 t582 from Q2) (Kd.qF HO578.o BK583.o) (by decide)) hk (fun _ h => h.2)) (fun _ h => h.1)); have _ := zK (KeepBut.blk hk (g' := gb583) (o := .cells #[.int .i64 t569, .int .i64 a1_1, .slice Ao15 t571.length co15, .int .i64 t574, .int .i64 t575, .slice Ao16 t576.length co16, .int .i64 t579, .int .i64 t580] 41 (0, 0)) (qP BK583.o) NB583_0.o (by simp)); have _ := zK (KeepBut.trans M17 hk (.inl rfl)); have _ := zK (hb); have _ := zK (hi); clear BK567 BK568 HO573 HO578 BK583 HK HB HI0; rename_i BK567 BK568 HO573 HO578 BK583 HK HB HI0; clear hb hk hi))
 (try simp only [Act.put, sA, sZ, sS])
 go_cut [] (fun wc => ∃ (kq : Nat) (x584002_5 : List Int) (u584002 : Value), Aside0 (spec_l8For.j0 kq s0_0 t585 t586 a1_0 a1_1 a1_2 a1_3 a1_4 a1_5 a1_6 a1_7 t569 a1_1 x584002_5 t574 t575 t576 t579 t580 = some (r1, r2, r3, r4, r5, r6, r7, r8, r9, r10)) ∧ Aside0 (kq ≤ k) ∧ Aside0 (Kd.R (Kd.int .i64) 3 wc w.heap.size (fun k_ => some k_ ≠ ((.slice Ao16 t576.length co16) : Value).ownBlock) u584002 x584002_5) ∧ Aside0 (Kd.R (Kd.int .i64) 3 wc w.heap.size (fun k_ => some k_ ≠ (u584002 : Value).ownBlock) (.slice Ao16 t576.length co16) t576) ∧ Aside0 (wc.heap[gb567]? = some (.cells #[.int .i64 a1_0, .int .i64 a1_1, .int .i64 a1_2, .int .i64 a1_3, .int .i64 a1_4, .int .i64 a1_5, .int .i64 a1_6, .int .i64 a1_7] 113 (0, 0))) ∧ Aside0 (wc.heap[gb568]? = some (.cells #[.int .i64 0, .int .i64 0, (.slice none 0 0), .int .i64 0, .int .i64 0, (.slice none 0 0), .int .i64 0, .int .i64 0] 41 (0, 0))) ∧ Aside0 (wc.heap[gb583]? = some (.cells #[.int .i64 t569, .int .i64 a1_1, u584002, .int .i64 t574, .int .i64 t575, (.slice Ao16 t576.length co16), .int .i64 t579, .int .i64 t580] 41 (0, 0))) ∧ Aside0 (IsS173 w0 wc g s0_0 t585 t586) ∧ Aside0 (KeepBut w wc g none) ∧ Aside0 (Below w0.heap.size w0 wc))
 case first =>
  have H := HC6.o
  clear HC6
  by_cases c21 : t584 = true
  ·subst c21
   have H1 : (spec_l8For.j0 k s0_0 t585 t586 a1_0 a1_1 a1_2 a1_3 a1_4 a1_5 a1_6 a1_7 t569 a1_1 t571 t574 t575 t576 t579 t580) = some (r1, r2, r3, r4, r5, r6, r7, r8, r9, r10) := by rw [if_pos rfl] at H; exact H
   clear H
   have H := H1
   clear H1
   have H' := zK H
   clear H
   go_wp2
   go_meet
   case rel => exact ⟨_, (t571), (.slice Ao15 t571.length co15), H', ⟨by first | omega | exact Nat.le_refl _⟩, ⟨by exact Kd.qR HO573.o⟩, ⟨by exact Kd.qR HO578.o⟩, ⟨by exact qK BK567.o⟩, ⟨by exact qK BK568.o⟩, ⟨by exact qK BK583.o⟩, ⟨Q2⟩, ⟨Q7⟩, ⟨Q6⟩⟩
  replace c21 := Bool.eq_false_iff.mpr c21
  subst c21
  have H1 : (spec_l8For.j0 k s0_0 t585 t586 a1_0 a1_1 a1_2 a1_3 a1_4 a1_5 a1_6 a1_7 t569 a1_1 (([a1_2] : List Int)) t574 t575 t576 t579 t580) = some (r1, r2, r3, r4, r5, r6, r7, r8, r9, r10) := by rw [if_neg (show ¬ (false = true) by decide)] at H; exact H
  clear H
  have H := H1
  clear H1
  obtain ⟨y587, hy587⟩ : ∃ y_ : List Int, y_ = (([a1_2] : List Int)) := ⟨_, rfl⟩
  replace H : (spec_l8For.j0 k s0_0 t585 t586 a1_0 a1_1 a1_2 a1_3 a1_4 a1_5 a1_6 a1_7 t569 a1_1 y587 t574 t575 t576 t579 t580) = some (r1, r2, r3, r4, r5, r6, r7, r8, r9, r10) := have he_ := hy587; rH
  have Ny587 := zK hy587
  clear hy587
  have H' := zK H
  clear H
  have hnb22 := NB567_568.o
  have hnc22 := NB568_567.o
  have hnb23 := NB567_583.o
  have hnc23 := NB583_567.o
  have hnb24 := NB567_0.o
  have hnc24 := NB0_567.o
  obtain ⟨hcz25_0, hcz25_1, hcz25_2, hcz25_3, hcz25_4, hcz25_5, hcz25_6, hcz25_7, hfz25_0, hfz25_1, hfz25_2, hfz25_3, hfz25_4, hfz25_5, hfz25_6, hfz25_7⟩ := bx8 BK567.o
  go_wp2_with (first | ((with_reducible refine gd (N := 21) rfl ?_); refine Kd.R_lit (Kd.int .i64) _ 3 ?hg (N := 21) ?hd (xs := ([a1_2] : List Int)) (inner := [.int .i64 a1_2]) (ok := fun _ => True) (okp := fun _ => True) ?hr ?hp (fun _ hk => hk) trivial (Below.refl _ _) (Nat.le_refl _) (by simp) ?_; (case hd => rfl); (case hg => rfl); (case hr => first | (go_simp; done) | (go_simp; rfl)); (case hp => exact (Reps.one (show Kd.M (Kd.int .i64) _ _ _ a1_2 [.int .i64 a1_2] from rfl) (Reps.none _ _))); intro v588 w26 ho27 hb hg_ hnew_; clear hg_ hnew_; (first | rw [← Ny587.o] at ho27 | (simp only [Int.reduceToNat] at ho27; rw [← Ny587.o] at ho27)); have _ := zK (Kd.R_elder' (Kd.qR HO573.o) (Kd.R_base ho27) hb); have _ := zK (Kd.R_elder' (Kd.qR HO578.o) (Kd.R_base ho27) hb); have _ := zK (Kd.R_lower (Kd.R_new' (Kd.R_new' ho27 (Kd.R_lt (Kd.qR HO573.o))) (Kd.R_lt (Kd.qR HO578.o))) (keep_size (w := w) (g := g) (row := none) M17)); have _ := zK (IsS173.below M69 hb); have _ := zK (bB (qK BK567.o) hb); have _ := zK (bB (qK BK568.o) hb); have _ := zK (bB (qK BK583.o) hb); have _ := zK (KeepBut.trans M17 (KeepBut.of_below hb g none) (.inl rfl)); have _ := zK (bT (Q6) hb); clear HO573 HO578 HI0 BK567 BK568 BK583 HK HB; rename_i HO573 HO578 HO589 HI0 BK567 BK568 BK583 HK HB; clear hb ho27; obtain ⟨Ao28, co28, eo28⟩ := Kd.R_slice HO589.o; subst eo28; have hnb29 := NB583_568.o; have hnc29 := NB568_583.o; have hnb30 := NB583_0.o; have hnc30 := NB0_583.o; obtain ⟨hcz31_0, hcz31_1, hcz31_2, hcz31_3, hcz31_4, hcz31_5, hcz31_6, hcz31_7, hfz31_0, hfz31_1, hfz31_2, hfz31_3, hfz31_4, hfz31_5, hfz31_6, hfz31_7⟩ := bx8 BK583.o))
  go_meet
  case rel => exact ⟨_, (y587), (.slice Ao28 y587.length co28), H', ⟨by first | omega | exact Nat.le_refl _⟩, ⟨Kd.R_mono (Kd.qF HO589.o BK583.o) (fun _ hk => hk.2)⟩, ⟨Kd.R_mono (Kd.qF HO578.o BK583.o) (fun _ hk => hk.2)⟩, ⟨qP BK567.o⟩, ⟨qP BK568.o⟩, ⟨qP BK583.o⟩, ⟨Q2⟩, ⟨Q7⟩, ⟨Q6⟩⟩
 case rest =>
  clear HC6
  try clear c1
  try clear c2
  try clear p2
  try clear c3
  try clear c11
  try clear c12
  try clear c13
  try clear c14
  try clear c16
  try clear c17
  try clear c18
  try clear c21
  try clear c22
  try clear c23
  try clear c24
  try clear c29
  try clear c30
  try clear hcz14_0 hcz14_1 hcz14_2 hcz14_3 hcz14_4 hcz14_5 hcz14_6 hcz14_7 hcz19_0 hcz19_1 hcz19_2 hcz19_3 hcz19_4 hcz19_5 hcz19_6 hcz19_7 hcz25_0 hcz25_1 hcz25_2 hcz25_3 hcz25_4 hcz25_5 hcz25_6 hcz25_7 hcz31_0 hcz31_1 hcz31_2 hcz31_3 hcz31_4 hcz31_5 hcz31_6 hcz31_7 hfz14_0 hfz14_1 hfz14_2 hfz14_3 hfz14_4 hfz14_5 hfz14_6 hfz14_7 hfz19_0 hfz19_1 hfz19_2 hfz19_3 hfz19_4 hfz19_5 hfz19_6 hfz19_7 hfz25_0 hfz25_1 hfz25_2 hfz25_3 hfz25_4 hfz25_5 hfz25_6 hfz25_7 hfz31_0 hfz31_1 hfz31_2 hfz31_3 hfz31_4 hfz31_5 hfz31_6 hfz31_7
  obtain ⟨kq, x584002_5, u584002, HA, HJ5, HO_584002, HO_584005, BK567, BK568, BK583, HI0, HK, HB⟩ := hcut
  cases kq with
  | zero => exact absurd HA.o (by simp [spec_l8For.j0])
  | succ kj5 =>
   have H := HA.o
   clear HA
   simp only [spec_l8For.j0] at H
   replace H := Option.bind_eq_some_iff.mp H
   obtain ⟨⟨t590, t591, t592⟩, A320, H⟩ := H
   try dsimp only at H
   have A32 := zK A320
   clear A320
   have HC33 := zK H
   clear H
   go_upto_if 25 with (first | ((with_reducible refine gc (f := 147) rfl ?_); refine gL (some 24) Try.func147 #[.pointer (some ⟨g, 0, none⟩), .int .i64 6] ?_; (with_reducible refine (spec_l1Once.calls g s0_0 t585 t586 6 t590 t591 t592 w0 _ ?side1 ?side2 A32.o).mono ?_); (case side1 => exact Q2); (case side2 => exact Q6); rintro e w34 ⟨rfl, hi, hb, hk⟩; refine ⟨_, rfl, ?_⟩; have _ := zK (IsS173.rK (show IsS173 w0 _ g s0_0 t585 t586 from Q2) HO_584002.o hk); have _ := zK (IsS173.rK (show IsS173 w0 _ g s0_0 t585 t586 from Q2) HO_584005.o hk); have _ := zK (kB hk BK567.o NB567_0.o); have _ := zK (kB hk BK568.o NB568_0.o); have _ := zK (kB hk BK583.o NB583_0.o); have _ := zK (KeepBut.trans M17 hk (.inl rfl)); have _ := zK (hb); have _ := zK (hi); clear HO_584002 HO_584005 BK567 BK568 BK583 HK HB HI0; rename_i HO_584002 HO_584005 BK567 BK568 BK583 HK HB HI0; clear hb hk hi))
   (try simp only [Act.put, sA, sZ, sS])
   go_cut [] (fun wc => ∃ (kq : Nat) (x1001_32 : Int) (x1002_32 : Int) (x584003_32 : Int) (x584004_32 : Int), Aside0 (spec_l8For.j1 kq s0_0 x1001_32 x1002_32 a1_0 a1_1 a1_2 a1_3 a1_4 a1_5 a1_6 a1_7 t569 a1_1 x584002_5 x584003_32 x584004_32 t576 t579 t580 = some (r1, r2, r3, r4, r5, r6, r7, r8, r9, r10)) ∧ Aside0 (kq ≤ kj5) ∧ Aside0 (Kd.R (Kd.int .i64) 3 wc w.heap.size (fun k_ => some k_ ≠ ((.slice Ao16 t576.length co16) : Value).ownBlock) u584002 x584002_5) ∧ Aside0 (Kd.R (Kd.int .i64) 3 wc w.heap.size (fun k_ => some k_ ≠ (u584002 : Value).ownBlock) (.slice Ao16 t576.length co16) t576) ∧ Aside0 (wc.heap[gb567]? = some (.cells #[.int .i64 a1_0, .int .i64 a1_1, .int .i64 a1_2, .int .i64 a1_3, .int .i64 a1_4, .int .i64 a1_5, .int .i64 a1_6, .int .i64 a1_7] 113 (0, 0))) ∧ Aside0 (wc.heap[gb568]? = some (.cells #[.int .i64 0, .int .i64 0, (.slice none 0 0), .int .i64 0, .int .i64 0, (.slice none 0 0), .int .i64 0, .int .i64 0] 41 (0, 0))) ∧ Aside0 (wc.heap[gb583]? = some (.cells #[.int .i64 t569, .int .i64 a1_1, u584002, .int .i64 x584003_32, .int .i64 x584004_32, (.slice Ao16 t576.length co16), .int .i64 t579, .int .i64 t580] 41 (0, 0))) ∧ Aside0 (IsS173 w0 wc g s0_0 x1001_32 x1002_32) ∧ Aside0 (KeepBut w wc g none) ∧ Aside0 (Below w0.heap.size w0 wc))
   case first =>
    have H := HC33.o
    clear HC33
    by_cases c35 : t590 = true
    ·subst c35
     have H1 : (spec_l8For.j1 kj5 s0_0 t591 t592 a1_0 a1_1 a1_2 a1_3 a1_4 a1_5 a1_6 a1_7 t569 a1_1 x584002_5 t574 t575 t576 t579 t580) = some (r1, r2, r3, r4, r5, r6, r7, r8, r9, r10) := by rw [if_pos rfl] at H; exact H
     clear H
     have H := H1
     clear H1
     have H' := zK H
     clear H
     go_wp2
     go_meet
     case rel => exact ⟨_, (t591), (t592), (t574), (t575), H', ⟨by have := HJ5.o; first | omega | exact Nat.le_refl _⟩, ⟨by exact Kd.qR HO_584002.o⟩, ⟨by exact Kd.qR HO_584005.o⟩, ⟨by exact qK BK567.o⟩, ⟨by exact qK BK568.o⟩, ⟨by exact qK BK583.o⟩, ⟨Q2⟩, ⟨Q7⟩, ⟨Q6⟩⟩
    replace c35 := Bool.eq_false_iff.mpr c35
    subst c35
    have H1 : ((spec_l1Below.f s0_0 t591 t592 4).bind fun bt593 => ((spec_Max.f 1 (wrap64 (a1_3 - bt593.1))).bind fun t596 => ((spec_l1Below.f s0_0 bt593.2.1 bt593.2.2 4).bind fun bt597 => ((spec_Min.f 50 (wrap64 (a1_3 + bt597.1))).bind fun t600 => (spec_l8For.j1 kj5 s0_0 bt597.2.1 bt597.2.2 a1_0 a1_1 a1_2 a1_3 a1_4 a1_5 a1_6 a1_7 t569 a1_1 x584002_5 t596 t600 t576 t579 t580))))) = some (r1, r2, r3, r4, r5, r6, r7, r8, r9, r10) := by rw [if_neg (show ¬ (false = true) by decide)] at H; exact H
    clear H
    have H := H1
    clear H1
    replace H := Option.bind_eq_some_iff.mp H
    obtain ⟨⟨t593, t594, t595⟩, A360, H⟩ := H
    try dsimp only at H
    have A36 := zK A360
    clear A360
    replace H := Option.bind_eq_some_iff.mp H
    obtain ⟨t596, A370, H⟩ := H
    try dsimp only at H
    have A37 := zK A370
    clear A370
    replace H := Option.bind_eq_some_iff.mp H
    obtain ⟨⟨t597, t598, t599⟩, A380, H⟩ := H
    try dsimp only at H
    have A38 := zK A380
    clear A380
    replace H := Option.bind_eq_some_iff.mp H
    obtain ⟨t600, A390, H⟩ := H
    try dsimp only at H
    have A39 := zK A390
    clear A390
    have H' := zK H
    clear H
    try go_wp2
    have _ := zK (Kd.RD HO_584002.o)
    have _ := zK (Kd.RD HO_584005.o)
    have _ := zK (kD BK567.o)
    have _ := zK (kD BK568.o)
    have _ := zK (kD BK583.o)
    have _ := zK (IsS173.drew HI0.o)
    have _ := zK (keep_drew HK.o)
    have _ := zK (b1 HB.o)
    clear HO_584002 HO_584005 BK567 BK568 BK583 HI0 HK HB
    rename_i HO_584002 HO_584005 BK567 BK568 BK583 HI0 HK HB
    refine start_ (n := 9) (S := fun w' => w'.cell? ⟨gb567, 0, none⟩ = some (.int .i64 a1_0) ∧ w'.cell? ⟨gb567, 1, none⟩ = some (.int .i64 a1_1) ∧ w'.cell? ⟨gb567, 2, none⟩ = some (.int .i64 a1_2) ∧ w'.cell? ⟨gb567, 3, none⟩ = some (.int .i64 a1_3) ∧ w'.cell? ⟨gb567, 4, none⟩ = some (.int .i64 a1_4) ∧ w'.cell? ⟨gb567, 5, none⟩ = some (.int .i64 a1_5) ∧ w'.cell? ⟨gb567, 6, none⟩ = some (.int .i64 a1_6) ∧ w'.cell? ⟨gb567, 7, none⟩ = some (.int .i64 a1_7)) (ds := []) b12A0 (by kernel_rfl) rfl rfl (b8 BK567.o) (fun hHeld => ?_); refine with_tabW spec_l8For.tab6 spec_l8For.bits6 (fun HT_ HW_ => ?_)
    generalize w34.drew = w40 at HO_584002 HO_584005 BK567 BK568 BK583 HI0 HK HB hHeld ⊢
    refine pI 0 (some 26) b12A1 HT_ ?_
    refine pI 1 (some 27) b12A2 HT_ ?_
    refine pI 3 (some 29) b12A3 HT_ ?_
    refine tI 2 (some 28) b12A4 HT_ HW_ hHeld rfl rfl (Or.inl ⟨by rfl, o5⟩) ?_
    refine one_ (i := 4) (N := some 30) b12A5 rfl rfl (one_of HT_.o (by kernel_rfl)) (by decide) (fun K hK => ?_)
    refine goes_ Try.func108 (by kernel_rfl) rfl #[.pointer (some ⟨g, 0, none⟩), .int .i64 4] (by rfl) rfl rfl M0 ?_
    with_reducible refine (spec_l1Below.calls g s0_0 t591 t592 4 t593 t594 t595 w0 _ ?side1 ?side2 A36.o).mono ?_
    (case side1 => exact Q2)
    (case side2 => exact Q6)
    rintro e w41 ⟨rfl, hi, hb, hk⟩
    refine ⟨_, rfl, ?_⟩
    have _ := zK (IsS173.rK (show IsS173 w0 _ g s0_0 t591 t592 from Q2) HO_584002.o hk)
    have _ := zK (IsS173.rK (show IsS173 w0 _ g s0_0 t591 t592 from Q2) HO_584005.o hk)
    have _ := zK (kB hk BK567.o NB567_0.o)
    have _ := zK (kB hk BK568.o NB568_0.o)
    have _ := zK (kB hk BK583.o NB583_0.o)
    have _ := zK (KeepBut.trans M17 hk (.inl rfl))
    have _ := zK (hb)
    have _ := zK (hi)
    clear HO_584002 HO_584005 BK567 BK568 BK583 HK HB HI0
    rename_i HO_584002 HO_584005 BK567 BK568 BK583 HK HB HI0
    (try clear hb)
    (try clear hb2)
    (try clear hk)
    (try clear hi)
    refine hK.out _ _ (b8 BK567.o) (fun hHeld => ?_)
    clear hK K
    refine norm_ (a' := ?_) ?_ ?_
    rotate_left
    ·show Act.put _ (some 30) _ = _
     simp only [Act.put, sA, sZ, sS, i64_w, i32_w]
     rfl
    refine pI 5 (some 31) b12A6 HT_ ?_
    refine one_ (i := 6) (N := some 32) b12A7 rfl rfl (one_of HT_.o (by kernel_rfl)) (by decide) (fun K hK => ?_)
    refine goes_ Try.func171 (by kernel_rfl) rfl #[.int .i64 1, .int .i64 (wrap64 (a1_3 - t593))] (by rfl) rfl rfl M0 ?_
    with_reducible refine (spec_Max.calls 1 (wrap64 (a1_3 - t593)) t596 _ A37.o).mono ?_
    rintro e w' ⟨rfl, ⟨nd, rfl⟩⟩
    refine ⟨_, rfl, ?_⟩
    refine hK.out _ _ (b8 BK567.o) (fun hHeld => ?_)
    clear hK K
    refine norm_ (a' := ?_) ?_ ?_
    rotate_left
    ·show Act.put _ (some 32) _ = _
     simp only [Act.put, sA, sZ, sS, i64_w, i32_w]
     rfl
    refine pI 7 (some 33) b12A8 HT_ ?_
    refine one_ (i := 8) (N := none) b12A9 rfl rfl (one_of HT_.o (by kernel_rfl)) (by decide) (fun K hK => ?_)
    have hs42 : w41.cell? ⟨gb583, 3, none⟩ = some (.int .i64 t574) := (bc BK583.o 3).trans rfl
    have hfs42 := bf BK583.o 3
    have hns42_0 := NB567_583.o
    have hns42_1 := NB568_583.o
    have hms42_0 := NB583_567.o
    have hms42_1 := NB583_568.o
    refine skip_ (w1 := ?_) (by rfl) rfl ?_ ?_
    rotate_left
    ·go_simp
     rfl
    refine hK.out _ _ ⟨((cell_far (p := ⟨gb583, _, none⟩) NB567_583.o _).trans (hHeld.1)), ((cell_far (p := ⟨gb583, _, none⟩) NB567_583.o _).trans (hHeld.2.1)), ((cell_far (p := ⟨gb583, _, none⟩) NB567_583.o _).trans (hHeld.2.2.1)), ((cell_far (p := ⟨gb583, _, none⟩) NB567_583.o _).trans (hHeld.2.2.2.1)), ((cell_far (p := ⟨gb583, _, none⟩) NB567_583.o _).trans ((d4 hHeld).1)), ((cell_far (p := ⟨gb583, _, none⟩) NB567_583.o _).trans ((d4 hHeld).2.1)), ((cell_far (p := ⟨gb583, _, none⟩) NB567_583.o _).trans ((d4 hHeld).2.2.1)), ((cell_far (p := ⟨gb583, _, none⟩) NB567_583.o _).trans ((d4 hHeld).2.2.2))⟩ (fun hHeld => ?_)
    clear hK K
    refine done_ (done_of HT_.o (by kernel_rfl)) ?_
    try go_wp2
    have n0_ : Aside0 (Kd.R (Kd.int .i64) 3 ((w41.drewN nd).setCell ⟨gb583, 3, none⟩ (.int .i64 t596)) w.heap.size (fun k_ => some k_ ≠ (.slice Ao16 t576.length co16 : Value).ownBlock) u584002 x584002_5) := ⟨Kd.qF (Kd.qR HO_584002.o) (qK BK583.o)⟩
    have n1_ : Aside0 (Kd.R (Kd.int .i64) 3 ((w41.drewN nd).setCell ⟨gb583, 3, none⟩ (.int .i64 t596)) w.heap.size (fun k_ => some k_ ≠ (u584002 : Value).ownBlock) (.slice Ao16 t576.length co16) t576) := ⟨Kd.qF (Kd.qR HO_584005.o) (qK BK583.o)⟩
    have n2_ : Aside0 (((w41.drewN nd).setCell ⟨gb583, 3, none⟩ (.int .i64 t596)).heap[gb567]? = some (.cells #[.int .i64 a1_0, .int .i64 a1_1, .int .i64 a1_2, .int .i64 a1_3, .int .i64 a1_4, .int .i64 a1_5, .int .i64 a1_6, .int .i64 a1_7] 113 (0, 0))) := ⟨qP BK567.o⟩
    have n3_ : Aside0 (((w41.drewN nd).setCell ⟨gb583, 3, none⟩ (.int .i64 t596)).heap[gb568]? = some (.cells #[.int .i64 0, .int .i64 0, .slice none 0 0, .int .i64 0, .int .i64 0, .slice none 0 0, .int .i64 0, .int .i64 0] 41 (0, 0))) := ⟨qP BK568.o⟩
    have n4_ : Aside0 (((w41.drewN nd).setCell ⟨gb583, 3, none⟩ (.int .i64 t596)).heap[gb583]? = some (.cells #[.int .i64 t569, .int .i64 a1_1, u584002, .int .i64 t596, .int .i64 t575, .slice Ao16 t576.length co16, .int .i64 t579, .int .i64 t580] 41 (0, 0))) := ⟨qP BK583.o⟩
    have n5_ : Aside0 (IsS173 w0 ((w41.drewN nd).setCell ⟨gb583, 3, none⟩ (.int .i64 t596)) g s0_0 t594 t595) := ⟨Q2⟩
    have n6_ : Aside0 (KeepBut w ((w41.drewN nd).setCell ⟨gb583, 3, none⟩ (.int .i64 t596)) g none) := ⟨Q7⟩
    have n7_ : Aside0 (Below w0.heap.size w0 ((w41.drewN nd).setCell ⟨gb583, 3, none⟩ (.int .i64 t596))) := ⟨Q6⟩
    (try clear HO_584002)
    (try clear HO_584005)
    (try clear BK567)
    (try clear BK568)
    (try clear BK583)
    (try clear HI0)
    (try clear HK)
    (try clear HB)
    generalize ((w41.drewN nd).setCell ⟨gb583, 3, none⟩ (.int .i64 t596)) = w43 at n0_ n1_ n2_ n3_ n4_ n5_ n6_ n7_ ⊢
    have HO_584002 := n0_
    have HO_584005 := n1_
    have BK567 := n2_
    have BK568 := n3_
    have BK583 := n4_
    have HI0 := n5_
    have HK := n6_
    have HB := n7_
    clear n0_ n1_ n2_ n3_ n4_ n5_ n6_ n7_
    (try (rw [drewN_self w43]; generalize hq_ : World.drewN w43 _ = w43; have n0_ : Aside0 (Kd.R (Kd.int .i64) 3 w43 w.heap.size (fun k_ => some k_ ≠ (.slice Ao16 t576.length co16 : Value).ownBlock) u584002 x584002_5) := ⟨by rw [← hq_]; exact (Kd.qR HO_584002.o)⟩; have n1_ : Aside0 (Kd.R (Kd.int .i64) 3 w43 w.heap.size (fun k_ => some k_ ≠ (u584002 : Value).ownBlock) (.slice Ao16 t576.length co16) t576) := ⟨by rw [← hq_]; exact (Kd.qR HO_584005.o)⟩; have n2_ : Aside0 (w43.heap[gb567]? = some (.cells #[.int .i64 a1_0, .int .i64 a1_1, .int .i64 a1_2, .int .i64 a1_3, .int .i64 a1_4, .int .i64 a1_5, .int .i64 a1_6, .int .i64 a1_7] 113 (0, 0))) := ⟨by rw [← hq_]; exact (qK BK567.o)⟩; have n3_ : Aside0 (w43.heap[gb568]? = some (.cells #[.int .i64 0, .int .i64 0, .slice none 0 0, .int .i64 0, .int .i64 0, .slice none 0 0, .int .i64 0, .int .i64 0] 41 (0, 0))) := ⟨by rw [← hq_]; exact (qK BK568.o)⟩; have n4_ : Aside0 (w43.heap[gb583]? = some (.cells #[.int .i64 t569, .int .i64 a1_1, u584002, .int .i64 t596, .int .i64 t575, .slice Ao16 t576.length co16, .int .i64 t579, .int .i64 t580] 41 (0, 0))) := ⟨by rw [← hq_]; exact (qK BK583.o)⟩; have n5_ : Aside0 (IsS173 w0 w43 g s0_0 t594 t595) := ⟨by rw [← hq_]; exact M69⟩; have n6_ : Aside0 (KeepBut w w43 g none) := ⟨by rw [← hq_]; exact M17⟩; have n7_ : Aside0 (Below w0.heap.size w0 w43) := ⟨by rw [← hq_]; exact (Q6)⟩; clear HO_584002 HO_584005 BK567 BK568 BK583 HI0 HK HB hq_; have HO_584002 := n0_; have HO_584005 := n1_; have BK567 := n2_; have BK568 := n3_; have BK583 := n4_; have HI0 := n5_; have HK := n6_; have HB := n7_; clear n0_ n1_ n2_ n3_ n4_ n5_ n6_ n7_))
    have _ := zK (Kd.RD HO_584002.o)
    have _ := zK (Kd.RD HO_584005.o)
    have _ := zK (kD BK567.o)
    have _ := zK (kD BK568.o)
    have _ := zK (kD BK583.o)
    have _ := zK (IsS173.drew HI0.o)
    have _ := zK (keep_drew HK.o)
    have _ := zK (b1 HB.o)
    clear HO_584002 HO_584005 BK567 BK568 BK583 HI0 HK HB
    rename_i HO_584002 HO_584005 BK567 BK568 BK583 HI0 HK HB
    refine start_ (n := 9) (S := fun w' => w'.cell? ⟨gb567, 0, none⟩ = some (.int .i64 a1_0) ∧ w'.cell? ⟨gb567, 1, none⟩ = some (.int .i64 a1_1) ∧ w'.cell? ⟨gb567, 2, none⟩ = some (.int .i64 a1_2) ∧ w'.cell? ⟨gb567, 3, none⟩ = some (.int .i64 a1_3) ∧ w'.cell? ⟨gb567, 4, none⟩ = some (.int .i64 a1_4) ∧ w'.cell? ⟨gb567, 5, none⟩ = some (.int .i64 a1_5) ∧ w'.cell? ⟨gb567, 6, none⟩ = some (.int .i64 a1_6) ∧ w'.cell? ⟨gb567, 7, none⟩ = some (.int .i64 a1_7)) (ds := []) b12A0 (by kernel_rfl) rfl rfl (b8 BK567.o) (fun hHeld => ?_); refine with_tabW spec_l8For.tab7 spec_l8For.bits7 (fun HT_ HW_ => ?_)
    generalize w43.drew = w44 at HO_584002 HO_584005 BK567 BK568 BK583 HI0 HK HB hHeld ⊢
    refine pI 0 (some 34) b12A1 HT_ ?_
    refine pI 1 (some 35) b12A2 HT_ ?_
    refine pI 3 (some 37) b12A3 HT_ ?_
    refine tI 2 (some 36) b12A4 HT_ HW_ hHeld rfl rfl (Or.inl ⟨by rfl, o5⟩) ?_
    refine one_ (i := 4) (N := some 38) b12A5 rfl rfl (one_of HT_.o (by kernel_rfl)) (by decide) (fun K hK => ?_)
    refine goes_ Try.func108 (by kernel_rfl) rfl #[.pointer (some ⟨g, 0, none⟩), .int .i64 4] (by rfl) rfl rfl M0 ?_
    with_reducible refine (spec_l1Below.calls g s0_0 t594 t595 4 t597 t598 t599 w0 _ ?side1 ?side2 A38.o).mono ?_
    (case side1 => exact Q2)
    (case side2 => exact Q6)
    rintro e w45 ⟨rfl, hi, hb, hk⟩
    refine ⟨_, rfl, ?_⟩
    have _ := zK (IsS173.rK (show IsS173 w0 _ g s0_0 t594 t595 from Q2) HO_584002.o hk)
    have _ := zK (IsS173.rK (show IsS173 w0 _ g s0_0 t594 t595 from Q2) HO_584005.o hk)
    have _ := zK (kB hk BK567.o NB567_0.o)
    have _ := zK (kB hk BK568.o NB568_0.o)
    have _ := zK (kB hk BK583.o NB583_0.o)
    have _ := zK (KeepBut.trans M17 hk (.inl rfl))
    have _ := zK (hb)
    have _ := zK (hi)
    clear HO_584002 HO_584005 BK567 BK568 BK583 HK HB HI0
    rename_i HO_584002 HO_584005 BK567 BK568 BK583 HK HB HI0
    (try clear hb)
    (try clear hb2)
    (try clear hk)
    (try clear hi)
    refine hK.out _ _ (b8 BK567.o) (fun hHeld => ?_)
    clear hK K
    refine norm_ (a' := ?_) ?_ ?_
    rotate_left
    ·show Act.put _ (some 38) _ = _
     simp only [Act.put, sA, sZ, sS, i64_w, i32_w]
     rfl
    refine pI 5 (some 39) b12A6 HT_ ?_
    refine one_ (i := 6) (N := some 40) b12A7 rfl rfl (one_of HT_.o (by kernel_rfl)) (by decide) (fun K hK => ?_)
    refine goes_ Try.func172 (by kernel_rfl) rfl #[.int .i64 50, .int .i64 (wrap64 (a1_3 + t597))] (by rfl) rfl rfl M0 ?_
    with_reducible refine (spec_Min.calls 50 (wrap64 (a1_3 + t597)) t600 _ A39.o).mono ?_
    rintro e w' ⟨rfl, ⟨nd, rfl⟩⟩
    refine ⟨_, rfl, ?_⟩
    refine hK.out _ _ (b8 BK567.o) (fun hHeld => ?_)
    clear hK K
    refine norm_ (a' := ?_) ?_ ?_
    rotate_left
    ·show Act.put _ (some 40) _ = _
     simp only [Act.put, sA, sZ, sS, i64_w, i32_w]
     rfl
    refine pI 7 (some 41) b12A8 HT_ ?_
    refine one_ (i := 8) (N := none) b12A9 rfl rfl (one_of HT_.o (by kernel_rfl)) (by decide) (fun K hK => ?_)
    have hs46 : w45.cell? ⟨gb583, 4, none⟩ = some (.int .i64 t575) := (bc BK583.o 4).trans rfl
    have hfs46 := bf BK583.o 4
    have hns46_0 := NB567_583.o
    have hns46_1 := NB568_583.o
    have hms46_0 := NB583_567.o
    have hms46_1 := NB583_568.o
    refine skip_ (w1 := ?_) (by rfl) rfl ?_ ?_
    rotate_left
    ·go_simp
     rfl
    refine hK.out _ _ ⟨((cell_far (p := ⟨gb583, _, none⟩) NB567_583.o _).trans (hHeld.1)), ((cell_far (p := ⟨gb583, _, none⟩) NB567_583.o _).trans (hHeld.2.1)), ((cell_far (p := ⟨gb583, _, none⟩) NB567_583.o _).trans (hHeld.2.2.1)), ((cell_far (p := ⟨gb583, _, none⟩) NB567_583.o _).trans (hHeld.2.2.2.1)), ((cell_far (p := ⟨gb583, _, none⟩) NB567_583.o _).trans ((d4 hHeld).1)), ((cell_far (p := ⟨gb583, _, none⟩) NB567_583.o _).trans ((d4 hHeld).2.1)), ((cell_far (p := ⟨gb583, _, none⟩) NB567_583.o _).trans ((d4 hHeld).2.2.1)), ((cell_far (p := ⟨gb583, _, none⟩) NB567_583.o _).trans ((d4 hHeld).2.2.2))⟩ (fun hHeld => ?_)
    clear hK K
    refine done_ (done_of HT_.o (by kernel_rfl)) ?_
    try go_wp2
    go_meet
    case rel => exact ⟨_, (t598), (t599), (t596), (t600), H', ⟨by have := HJ5.o; first | omega | exact Nat.le_refl _⟩, ⟨Kd.qF HO_584002.o BK583.o⟩, ⟨Kd.qF HO_584005.o BK583.o⟩, ⟨qP BK567.o⟩, ⟨qP BK568.o⟩, ⟨qP BK583.o⟩, ⟨Q2⟩, ⟨Q7⟩, ⟨Q6⟩⟩
   case rest =>
    clear HC33
    try clear c1
    try clear c2
    try clear p2
    try clear c3
    try clear p6
    try clear c10
    try clear c11
    try clear c12
    try clear c13
    try clear c14
    try clear c16
    try clear c17
    try clear c18
    try clear c21
    try clear c22
    try clear c23
    try clear c24
    try clear c29
    try clear c30
    try clear c35
    try clear hcz14_0 hcz14_1 hcz14_2 hcz14_3 hcz14_4 hcz14_5 hcz14_6 hcz14_7 hcz19_0 hcz19_1 hcz19_2 hcz19_3 hcz19_4 hcz19_5 hcz19_6 hcz19_7 hcz25_0 hcz25_1 hcz25_2 hcz25_3 hcz25_4 hcz25_5 hcz25_6 hcz25_7 hcz31_0 hcz31_1 hcz31_2 hcz31_3 hcz31_4 hcz31_5 hcz31_6 hcz31_7 hfz14_0 hfz14_1 hfz14_2 hfz14_3 hfz14_4 hfz14_5 hfz14_6 hfz14_7 hfz19_0 hfz19_1 hfz19_2 hfz19_3 hfz19_4 hfz19_5 hfz19_6 hfz19_7 hfz25_0 hfz25_1 hfz25_2 hfz25_3 hfz25_4 hfz25_5 hfz25_6 hfz25_7 hfz31_0 hfz31_1 hfz31_2 hfz31_3 hfz31_4 hfz31_5 hfz31_6 hfz31_7
    try clear p2
    obtain ⟨kq, x1001_32, x1002_32, x584003_32, x584004_32, HA, HJ32, HO_584002, HO_584005, BK567, BK568, BK583, HI0, HK, HB⟩ := hcut
    cases kq with
    | zero => exact absurd HA.o (by simp [spec_l8For.j1])
    | succ kj32 =>
     have H := HA.o
     clear HA
     simp only [spec_l8For.j1] at H
     replace H := Option.bind_eq_some_iff.mp H
     obtain ⟨⟨t601, t602, t603⟩, A470, H⟩ := H
     try dsimp only at H
     have A47 := zK A470
     clear A470
     have HC48 := zK H
     clear H
     go_upto_if 44 with (first | ((with_reducible refine gc (f := 147) rfl ?_); refine gL (some 43) Try.func147 #[.pointer (some ⟨g, 0, none⟩), .int .i64 6] ?_; (with_reducible refine (spec_l1Once.calls g s0_0 x1001_32 x1002_32 6 t601 t602 t603 w0 _ ?side1 ?side2 A47.o).mono ?_); (case side1 => exact Q2); (case side2 => exact Q6); rintro e w49 ⟨rfl, hi, hb, hk⟩; refine ⟨_, rfl, ?_⟩; have _ := zK (IsS173.rK (show IsS173 w0 _ g s0_0 x1001_32 x1002_32 from Q2) HO_584002.o hk); have _ := zK (IsS173.rK (show IsS173 w0 _ g s0_0 x1001_32 x1002_32 from Q2) HO_584005.o hk); have _ := zK (kB hk BK567.o NB567_0.o); have _ := zK (kB hk BK568.o NB568_0.o); have _ := zK (kB hk BK583.o NB583_0.o); have _ := zK (KeepBut.trans M17 hk (.inl rfl)); have _ := zK (hb); have _ := zK (hi); clear HO_584002 HO_584005 BK567 BK568 BK583 HK HB HI0; rename_i HO_584002 HO_584005 BK567 BK568 BK583 HK HB HI0; clear hb hk hi))
     (try simp only [Act.put, sA, sZ, sS])
     go_cut [] (fun wc => ∃ (kq : Nat) (x584005_47 : List Int) (u584005 : Value), Aside0 (spec_l8For.j2 kq s0_0 t602 t603 a1_0 a1_1 a1_2 a1_3 a1_4 a1_5 a1_6 a1_7 t569 a1_1 x584002_5 x584003_32 x584004_32 x584005_47 t579 t580 = some (r1, r2, r3, r4, r5, r6, r7, r8, r9, r10)) ∧ Aside0 (kq ≤ kj32) ∧ Aside0 (Kd.R (Kd.int .i64) 3 wc w.heap.size (fun k_ => some k_ ≠ (u584005 : Value).ownBlock) u584002 x584002_5) ∧ Aside0 (Kd.R (Kd.int .i64) 3 wc w.heap.size (fun k_ => some k_ ≠ (u584002 : Value).ownBlock) u584005 x584005_47) ∧ Aside0 (wc.heap[gb567]? = some (.cells #[.int .i64 a1_0, .int .i64 a1_1, .int .i64 a1_2, .int .i64 a1_3, .int .i64 a1_4, .int .i64 a1_5, .int .i64 a1_6, .int .i64 a1_7] 113 (0, 0))) ∧ Aside0 (wc.heap[gb568]? = some (.cells #[.int .i64 0, .int .i64 0, (.slice none 0 0), .int .i64 0, .int .i64 0, (.slice none 0 0), .int .i64 0, .int .i64 0] 41 (0, 0))) ∧ Aside0 (wc.heap[gb583]? = some (.cells #[.int .i64 t569, .int .i64 a1_1, u584002, .int .i64 x584003_32, .int .i64 x584004_32, u584005, .int .i64 t579, .int .i64 t580] 41 (0, 0))) ∧ Aside0 (IsS173 w0 wc g s0_0 t602 t603) ∧ Aside0 (KeepBut w wc g none) ∧ Aside0 (Below w0.heap.size w0 wc))
     case first =>
      have H := HC48.o
      clear HC48
      by_cases c50 : t601 = true
      ·subst c50
       have H1 : (spec_l8For.j2 kj32 s0_0 t602 t603 a1_0 a1_1 a1_2 a1_3 a1_4 a1_5 a1_6 a1_7 t569 a1_1 x584002_5 x584003_32 x584004_32 t576 t579 t580) = some (r1, r2, r3, r4, r5, r6, r7, r8, r9, r10) := by rw [if_pos rfl] at H; exact H
       clear H
       have H := H1
       clear H1
       have H' := zK H
       clear H
       go_wp2
       go_meet
       case rel => exact ⟨_, (t576), (.slice Ao16 t576.length co16), H', ⟨by have := HJ5.o; have := HJ32.o; first | omega | exact Nat.le_refl _⟩, ⟨by exact Kd.qR HO_584002.o⟩, ⟨by exact Kd.qR HO_584005.o⟩, ⟨by exact qK BK567.o⟩, ⟨by exact qK BK568.o⟩, ⟨by exact qK BK583.o⟩, ⟨Q2⟩, ⟨Q7⟩, ⟨Q6⟩⟩
      replace c50 := Bool.eq_false_iff.mpr c50
      subst c50
      have H1 : (spec_l8For.j2 kj32 s0_0 t602 t603 a1_0 a1_1 a1_2 a1_3 a1_4 a1_5 a1_6 a1_7 t569 a1_1 x584002_5 x584003_32 x584004_32 (([a1_5] : List Int)) t579 t580) = some (r1, r2, r3, r4, r5, r6, r7, r8, r9, r10) := by rw [if_neg (show ¬ (false = true) by decide)] at H; exact H
      clear H
      have H := H1
      clear H1
      obtain ⟨y604, hy604⟩ : ∃ y_ : List Int, y_ = (([a1_5] : List Int)) := ⟨_, rfl⟩
      replace H : (spec_l8For.j2 kj32 s0_0 t602 t603 a1_0 a1_1 a1_2 a1_3 a1_4 a1_5 a1_6 a1_7 t569 a1_1 x584002_5 x584003_32 x584004_32 y604 t579 t580) = some (r1, r2, r3, r4, r5, r6, r7, r8, r9, r10) := have he_ := hy604; rH
      have Ny604 := zK hy604
      clear hy604
      have H' := zK H
      clear H
      have hnb51 := NB567_568.o
      have hnc51 := NB568_567.o
      have hnb52 := NB567_583.o
      have hnc52 := NB583_567.o
      have hnb53 := NB567_0.o
      have hnc53 := NB0_567.o
      obtain ⟨hcz54_0, hcz54_1, hcz54_2, hcz54_3, hcz54_4, hcz54_5, hcz54_6, hcz54_7, hfz54_0, hfz54_1, hfz54_2, hfz54_3, hfz54_4, hfz54_5, hfz54_6, hfz54_7⟩ := bx8 BK567.o
      go_wp2_with (first | ((with_reducible refine gd (N := 47) rfl ?_); refine Kd.R_lit (Kd.int .i64) _ 3 ?hg (N := 47) ?hd (xs := ([a1_5] : List Int)) (inner := [.int .i64 a1_5]) (ok := fun _ => True) (okp := fun _ => True) ?hr ?hp (fun _ hk => hk) trivial (Below.refl _ _) (Nat.le_refl _) (by simp) ?_; (case hd => rfl); (case hg => rfl); (case hr => first | (go_simp; done) | (go_simp; rfl)); (case hp => exact (Reps.one (show Kd.M (Kd.int .i64) _ _ _ a1_5 [.int .i64 a1_5] from rfl) (Reps.none _ _))); intro v605 w55 ho56 hb hg_ hnew_; clear hg_ hnew_; (first | rw [← Ny604.o] at ho56 | (simp only [Int.reduceToNat] at ho56; rw [← Ny604.o] at ho56)); have _ := zK (Kd.R_elder' (Kd.qR HO_584002.o) (Kd.R_base ho56) hb); have _ := zK (Kd.R_elder' (Kd.qR HO_584005.o) (Kd.R_base ho56) hb); have _ := zK (Kd.R_lower (Kd.R_new' (Kd.R_new' ho56 (Kd.R_lt (Kd.qR HO_584002.o))) (Kd.R_lt (Kd.qR HO_584005.o))) (keep_size (w := w) (g := g) (row := none) M17)); have _ := zK (bB (qK BK567.o) hb); have _ := zK (bB (qK BK568.o) hb); have _ := zK (bB (qK BK583.o) hb); have _ := zK (IsS173.below M69 hb); have _ := zK (KeepBut.trans M17 (KeepBut.of_below hb g none) (.inl rfl)); have _ := zK (bT (Q6) hb); clear HO_584002 HO_584005 BK567 BK568 BK583 HI0 HK HB; rename_i HO_584002 HO_584005 HO606 BK567 BK568 BK583 HI0 HK HB; clear hb ho56; obtain ⟨Ao57, co57, eo57⟩ := Kd.R_slice HO606.o; subst eo57; have hnb58 := NB583_568.o; have hnc58 := NB568_583.o; have hnb59 := NB583_0.o; have hnc59 := NB0_583.o; obtain ⟨hcz60_0, hcz60_1, hcz60_2, hcz60_3, hcz60_4, hcz60_5, hcz60_6, hcz60_7, hfz60_0, hfz60_1, hfz60_2, hfz60_3, hfz60_4, hfz60_5, hfz60_6, hfz60_7⟩ := bx8 BK583.o))
      go_meet
      case rel => exact ⟨_, (y604), (.slice Ao57 y604.length co57), H', ⟨by have := HJ5.o; have := HJ32.o; first | omega | exact Nat.le_refl _⟩, ⟨Kd.R_mono (Kd.qF HO_584002.o BK583.o) (fun _ hk => hk.2)⟩, ⟨Kd.R_mono (Kd.qF HO606.o BK583.o) (fun _ hk => hk.1.2)⟩, ⟨qP BK567.o⟩, ⟨qP BK568.o⟩, ⟨qP BK583.o⟩, ⟨Q2⟩, ⟨Q7⟩, ⟨Q6⟩⟩
     case rest =>
      clear HC48
      try clear c1
      try clear c2
      try clear p2
      try clear c3
      try clear c5
      try clear p6
      try clear c10
      try clear c11
      try clear c12
      try clear c13
      try clear c14
      try clear c16
      try clear c17
      try clear c18
      try clear c21
      try clear c22
      try clear c23
      try clear c24
      try clear c29
      try clear c30
      try clear c35
      try clear c50
      try clear c51
      try clear c52
      try clear c53
      try clear c58
      try clear c59
      try clear hcz14_0 hcz14_1 hcz14_2 hcz14_3 hcz14_4 hcz14_5 hcz14_6 hcz14_7 hcz19_0 hcz19_1 hcz19_2 hcz19_3 hcz19_4 hcz19_5 hcz19_6 hcz19_7 hcz25_0 hcz25_1 hcz25_2 hcz25_3 hcz25_4 hcz25_5 hcz25_6 hcz25_7 hcz31_0 hcz31_1 hcz31_2 hcz31_3 hcz31_4 hcz31_5 hcz31_6 hcz31_7 hcz54_0 hcz54_1 hcz54_2 hcz54_3 hcz54_4 hcz54_5 hcz54_6 hcz54_7 hcz60_0 hcz60_1 hcz60_2 hcz60_3 hcz60_4 hcz60_5 hcz60_6 hcz60_7 hfz14_0 hfz14_1 hfz14_2 hfz14_3 hfz14_4 hfz14_5 hfz14_6 hfz14_7 hfz19_0 hfz19_1 hfz19_2 hfz19_3 hfz19_4 hfz19_5 hfz19_6 hfz19_7 hfz25_0 hfz25_1 hfz25_2 hfz25_3 hfz25_4 hfz25_5 hfz25_6 hfz25_7 hfz31_0 hfz31_1 hfz31_2 hfz31_3 hfz31_4 hfz31_5 hfz31_6 hfz31_7 hfz54_0 hfz54_1 hfz54_2 hfz54_3 hfz54_4 hfz54_5 hfz54_6 hfz54_7 hfz60_0 hfz60_1 hfz60_2 hfz60_3 hfz60_4 hfz60_5 hfz60_6 hfz60_7
      try clear p2
      try clear p6
      obtain ⟨kq, x584005_47, u584005, HA, HJ47, HO_584002, HO_584005, BK567, BK568, BK583, HI0, HK, HB⟩ := hcut
      cases kq with
      | zero => exact absurd HA.o (by simp [spec_l8For.j2])
      | succ kj47 =>
       have H := HA.o
       clear HA
       simp only [spec_l8For.j2] at H
       replace H := Option.bind_eq_some_iff.mp H
       obtain ⟨⟨t607, t608, t609⟩, A610, H⟩ := H
       try dsimp only at H
       have A61 := zK A610
       clear A610
       by_cases c62 : t607 = true
       ·subst c62
        have H1 : (some (t569, a1_1, x584002_5, x584003_32, x584004_32, x584005_47, t579, t580, t608, t609)) = some (r1, r2, r3, r4, r5, r6, r7, r8, r9, r10) := by rw [if_pos rfl] at H; exact H
        clear H
        have H := H1
        clear H1
        simp only [Option.some.injEq, Prod.mk.injEq] at H
        obtain ⟨rfl, rfl, rfl, rfl, rfl, rfl, rfl, rfl, rfl, rfl⟩ := H
        go_wp2_with (first | ((with_reducible refine gc (f := 147) rfl ?_); refine gL (some 50) Try.func147 #[.pointer (some ⟨g, 0, none⟩), .int .i64 6] ?_; (with_reducible refine (spec_l1Once.calls g s0_0 t602 t603 6 true t608 t609 w0 _ ?side1 ?side2 A61.o).mono ?_); (case side1 => exact Q2); (case side2 => exact Q6); rintro e w63 ⟨rfl, hi, hb, hk⟩; refine ⟨_, rfl, ?_⟩; have _ := zK (IsS173.rK (show IsS173 w0 _ g s0_0 t602 t603 from Q2) HO_584002.o hk); have _ := zK (IsS173.rK (show IsS173 w0 _ g s0_0 t602 t603 from Q2) HO_584005.o hk); have _ := zK (kB hk BK567.o NB567_0.o); have _ := zK (kB hk BK568.o NB568_0.o); have _ := zK (kB hk BK583.o NB583_0.o); have _ := zK (KeepBut.trans M17 hk (.inl rfl)); have _ := zK (hb); have _ := zK (hi); clear HO_584002 HO_584005 BK567 BK568 BK583 HK HB HI0; rename_i HO_584002 HO_584005 BK567 BK568 BK583 HK HB HI0; clear hb hk hi; have hnb64 := NB583_567.o; have hnc64 := NB567_583.o; have hnb65 := NB583_568.o; have hnc65 := NB568_583.o; have hnb66 := NB583_0.o; have hnc66 := NB0_583.o; obtain ⟨hcz67_0, hcz67_1, hcz67_2, hcz67_3, hcz67_4, hcz67_5, hcz67_6, hcz67_7, hfz67_0, hfz67_1, hfz67_2, hfz67_3, hfz67_4, hfz67_5, hfz67_6, hfz67_7⟩ := bx8 BK583.o; have hnb68 := NB568_567.o; have hnc68 := NB567_568.o; have hnb69 := NB568_0.o; have hnc69 := NB0_568.o; obtain ⟨hcz70_0, hcz70_1, hcz70_2, hcz70_3, hcz70_4, hcz70_5, hcz70_6, hcz70_7, hfz70_0, hfz70_1, hfz70_2, hfz70_3, hfz70_4, hfz70_5, hfz70_6, hfz70_7⟩ := bx8 BK568.o; obtain ⟨Ao71, co71, eo71⟩ := Kd.R_slice HO_584002.o; subst eo71; obtain ⟨Ao72, co72, eo72⟩ := Kd.R_slice HO_584005.o; subst eo72))
        refine bodyPost_ret (results_cell_row rfl _ _ gb568 41 #[.int .i64 t569, .int .i64 a1_1, .slice Ao71 x584002_5.length co71, .int .i64 x584003_32, .int .i64 x584004_32, .slice Ao72 x584005_47.length co72, .int .i64 t579, .int .i64 t580] (0, 0) _ rfl (qP BK568.o) Try.underlying41 rfl (by kernel_rfl)) rfl ?_
        exact ⟨_, _, o0, Kd.qF HO_584002.o BK568.o, Kd.qF HO_584005.o BK568.o, Q2, Q6, Q7⟩
       replace c62 := Bool.eq_false_iff.mpr c62
       subst c62
       have H1 : ((spec_l1Below.f s0_0 t608 t609 40).bind fun bt610 => ((spec_Max.f 0 (wrap64 (a1_6 - bt610.1))).bind fun t613 => ((spec_Max.f 0 a1_6).bind fun t614 => (some (t569, a1_1, x584002_5, x584003_32, x584004_32, x584005_47, t613, t614, bt610.2.1, bt610.2.2))))) = some (r1, r2, r3, r4, r5, r6, r7, r8, r9, r10) := by rw [if_neg (show ¬ (false = true) by decide)] at H; exact H
       clear H
       have H := H1
       clear H1
       replace H := Option.bind_eq_some_iff.mp H
       obtain ⟨⟨t610, t611, t612⟩, A730, H⟩ := H
       try dsimp only at H
       have A73 := zK A730
       clear A730
       replace H := Option.bind_eq_some_iff.mp H
       obtain ⟨t613, A740, H⟩ := H
       try dsimp only at H
       have A74 := zK A740
       clear A740
       replace H := Option.bind_eq_some_iff.mp H
       obtain ⟨t614, A750, H⟩ := H
       try dsimp only at H
       have A75 := zK A750
       clear A750
       simp only [Option.some.injEq, Prod.mk.injEq] at H
       obtain ⟨rfl, rfl, rfl, rfl, rfl, rfl, rfl, rfl, rfl, rfl⟩ := H
       try go_wp2_with (first | ((with_reducible refine gc (f := 147) rfl ?_); refine gL (some 50) Try.func147 #[.pointer (some ⟨g, 0, none⟩), .int .i64 6] ?_; (with_reducible refine (spec_l1Once.calls g s0_0 t602 t603 6 false t608 t609 w0 _ ?side1 ?side2 A61.o).mono ?_); (case side1 => exact Q2); (case side2 => exact Q6); rintro e w76 ⟨rfl, hi, hb, hk⟩; refine ⟨_, rfl, ?_⟩; have _ := zK (IsS173.rK (show IsS173 w0 _ g s0_0 t602 t603 from Q2) HO_584002.o hk); have _ := zK (IsS173.rK (show IsS173 w0 _ g s0_0 t602 t603 from Q2) HO_584005.o hk); have _ := zK (kB hk BK567.o NB567_0.o); have _ := zK (kB hk BK568.o NB568_0.o); have _ := zK (kB hk BK583.o NB583_0.o); have _ := zK (KeepBut.trans M17 hk (.inl rfl)); have _ := zK (hb); have _ := zK (hi); clear HO_584002 HO_584005 BK567 BK568 BK583 HK HB HI0; rename_i HO_584002 HO_584005 BK567 BK568 BK583 HK HB HI0; clear hb hk hi))
       have _ := zK (Kd.RD HO_584002.o)
       have _ := zK (Kd.RD HO_584005.o)
       have _ := zK (kD BK567.o)
       have _ := zK (kD BK568.o)
       have _ := zK (kD BK583.o)
       have _ := zK (IsS173.drew HI0.o)
       have _ := zK (keep_drew HK.o)
       have _ := zK (b1 HB.o)
       clear HO_584002 HO_584005 BK567 BK568 BK583 HI0 HK HB
       rename_i HO_584002 HO_584005 BK567 BK568 BK583 HI0 HK HB
       refine start_ (n := 12) (S := fun w' => w'.cell? ⟨gb567, 0, none⟩ = some (.int .i64 a1_0) ∧ w'.cell? ⟨gb567, 1, none⟩ = some (.int .i64 a1_1) ∧ w'.cell? ⟨gb567, 2, none⟩ = some (.int .i64 a1_2) ∧ w'.cell? ⟨gb567, 3, none⟩ = some (.int .i64 a1_3) ∧ w'.cell? ⟨gb567, 4, none⟩ = some (.int .i64 a1_4) ∧ w'.cell? ⟨gb567, 5, none⟩ = some (.int .i64 a1_5) ∧ w'.cell? ⟨gb567, 6, none⟩ = some (.int .i64 a1_6) ∧ w'.cell? ⟨gb567, 7, none⟩ = some (.int .i64 a1_7)) (ds := []) b12A10 (by kernel_rfl) rfl rfl (b8 BK567.o) (fun hHeld => ?_); refine with_tabW spec_l8For.tab11 spec_l8For.bits11 (fun HT_ HW_ => ?_)
       generalize w76.drew = w77 at HO_584002 HO_584005 BK567 BK568 BK583 HI0 HK HB hHeld ⊢
       refine pI 0 (some 52) b12A11 HT_ ?_
       refine pI 2 (some 54) b12A12 HT_ ?_
       refine pI 6 (some 58) b12A13 HT_ ?_
       refine tI 1 (some 53) b12A14 HT_ HW_ hHeld rfl rfl (Or.inl ⟨by rfl, o5⟩) ?_
       refine tI 7 (some 59) b12A15 HT_ HW_ hHeld rfl rfl (Or.inl ⟨by rfl, o5⟩) ?_
       refine one_ (i := 3) (N := some 55) b12A16 rfl rfl (one_of HT_.o (by kernel_rfl)) (by decide) (fun K hK => ?_)
       refine goes_ Try.func108 (by kernel_rfl) rfl #[.pointer (some ⟨g, 0, none⟩), .int .i64 40] (by rfl) rfl rfl M0 ?_
       with_reducible refine (spec_l1Below.calls g s0_0 t608 t609 40 t610 t611 t612 w0 _ ?side1 ?side2 A73.o).mono ?_
       (case side1 => exact Q2)
       (case side2 => exact Q6)
       rintro e w78 ⟨rfl, hi, hb, hk⟩
       refine ⟨_, rfl, ?_⟩
       have _ := zK (IsS173.rK (show IsS173 w0 _ g s0_0 t608 t609 from Q2) HO_584002.o hk)
       have _ := zK (IsS173.rK (show IsS173 w0 _ g s0_0 t608 t609 from Q2) HO_584005.o hk)
       have _ := zK (kB hk BK567.o NB567_0.o)
       have _ := zK (kB hk BK568.o NB568_0.o)
       have _ := zK (kB hk BK583.o NB583_0.o)
       have _ := zK (KeepBut.trans M17 hk (.inl rfl))
       have _ := zK (hb)
       have _ := zK (hi)
       clear HO_584002 HO_584005 BK567 BK568 BK583 HK HB HI0
       rename_i HO_584002 HO_584005 BK567 BK568 BK583 HK HB HI0
       (try clear hb)
       (try clear hb2)
       (try clear hk)
       (try clear hi)
       refine hK.out _ _ (b8 BK567.o) (fun hHeld => ?_)
       clear hK K
       refine norm_ (a' := ?_) ?_ ?_
       rotate_left
       ·show Act.put _ (some 55) _ = _
        simp only [Act.put, sA, sZ, sS, i64_w, i32_w]
        rfl
       refine pI 4 (some 56) b12A17 HT_ ?_
       refine one_ (i := 5) (N := some 57) b12A18 rfl rfl (one_of HT_.o (by kernel_rfl)) (by decide) (fun K hK => ?_)
       refine goes_ Try.func171 (by kernel_rfl) rfl #[.int .i64 0, .int .i64 (wrap64 (a1_6 - t610))] (by rfl) rfl rfl M0 ?_
       with_reducible refine (spec_Max.calls 0 (wrap64 (a1_6 - t610)) t613 _ A74.o).mono ?_
       rintro e w' ⟨rfl, ⟨nd, rfl⟩⟩
       refine ⟨_, rfl, ?_⟩
       refine hK.out _ _ (b8 BK567.o) (fun hHeld => ?_)
       clear hK K
       refine norm_ (a' := ?_) ?_ ?_
       rotate_left
       ·show Act.put _ (some 57) _ = _
        simp only [Act.put, sA, sZ, sS, i64_w, i32_w]
        rfl
       refine one_ (i := 8) (N := some 60) b12A19 rfl rfl (one_of HT_.o (by kernel_rfl)) (by decide) (fun K hK => ?_)
       refine goes_ Try.func171 (by kernel_rfl) rfl #[.int .i64 0, .int .i64 a1_6] (by rfl) rfl rfl M0 ?_
       with_reducible refine (spec_Max.calls 0 a1_6 t614 _ A75.o).mono ?_
       rintro e w' ⟨rfl, ⟨nd, rfl⟩⟩
       refine ⟨_, rfl, ?_⟩
       refine hK.out _ _ (b8 BK567.o) (fun hHeld => ?_)
       clear hK K
       refine norm_ (a' := ?_) ?_ ?_
       rotate_left
       ·show Act.put _ (some 60) _ = _
        simp only [Act.put, sA, sZ, sS, i64_w, i32_w]
        rfl
       refine pI 9 (some 61) b12A20 HT_ ?_
       refine pI 10 (some 62) b12A21 HT_ ?_
       refine one_ (i := 11) (N := none) b12A22 rfl rfl (one_of HT_.o (by kernel_rfl)) (by decide) (fun K hK => ?_)
       have hs79 : w78.cell? ⟨gb583, 6, none⟩ = some (.int .i64 t579) := (bc BK583.o 6).trans rfl
       have hfs79 := bf BK583.o 6
       have hns79_0 := NB567_583.o
       have hns79_1 := NB568_583.o
       have hms79_0 := NB583_567.o
       have hms79_1 := NB583_568.o
       have hs80 : w78.cell? ⟨gb583, 7, none⟩ = some (.int .i64 t580) := (bc BK583.o 7).trans rfl
       have hfs80 := bf BK583.o 7
       have hns80_0 := NB567_583.o
       have hns80_1 := NB568_583.o
       have hms80_0 := NB583_567.o
       have hms80_1 := NB583_568.o
       refine skip_ (w1 := ?_) (by rfl) rfl ?_ ?_
       rotate_left
       ·go_simp
        rfl
       refine hK.out _ _ ⟨((cell_far (p := ⟨gb583, _, none⟩) NB567_583.o _).trans (((cell_far (p := ⟨gb583, _, none⟩) NB567_583.o _).trans (hHeld.1)))), ((cell_far (p := ⟨gb583, _, none⟩) NB567_583.o _).trans (((cell_far (p := ⟨gb583, _, none⟩) NB567_583.o _).trans (hHeld.2.1)))), ((cell_far (p := ⟨gb583, _, none⟩) NB567_583.o _).trans (((cell_far (p := ⟨gb583, _, none⟩) NB567_583.o _).trans (hHeld.2.2.1)))), ((cell_far (p := ⟨gb583, _, none⟩) NB567_583.o _).trans (((cell_far (p := ⟨gb583, _, none⟩) NB567_583.o _).trans (hHeld.2.2.2.1)))), ((cell_far (p := ⟨gb583, _, none⟩) NB567_583.o _).trans (((cell_far (p := ⟨gb583, _, none⟩) NB567_583.o _).trans ((d4 hHeld).1)))), ((cell_far (p := ⟨gb583, _, none⟩) NB567_583.o _).trans (((cell_far (p := ⟨gb583, _, none⟩) NB567_583.o _).trans ((d4 hHeld).2.1)))), ((cell_far (p := ⟨gb583, _, none⟩) NB567_583.o _).trans (((cell_far (p := ⟨gb583, _, none⟩) NB567_583.o _).trans ((d4 hHeld).2.2.1)))), ((cell_far (p := ⟨gb583, _, none⟩) NB567_583.o _).trans (((cell_far (p := ⟨gb583, _, none⟩) NB567_583.o _).trans ((d4 hHeld).2.2.2))))⟩ (fun hHeld => ?_)
       clear hK K
       refine done_ (done_of HT_.o (by kernel_rfl)) ?_
       have hnb81 := NB583_567.o
       have hnc81 := NB567_583.o
       have hnb82 := NB583_568.o
       have hnc82 := NB568_583.o
       have hnb83 := NB583_0.o
       have hnc83 := NB0_583.o
       obtain ⟨hcz84_0, hcz84_1, hcz84_2, hcz84_3, hcz84_4, hcz84_5, hcz84_6, hcz84_7, hfz84_0, hfz84_1, hfz84_2, hfz84_3, hfz84_4, hfz84_5, hfz84_6, hfz84_7⟩ := bx8 BK583.o
       have hnb85 := NB568_567.o
       have hnc85 := NB567_568.o
       have hnb86 := NB568_0.o
       have hnc86 := NB0_568.o
       obtain ⟨hcz87_0, hcz87_1, hcz87_2, hcz87_3, hcz87_4, hcz87_5, hcz87_6, hcz87_7, hfz87_0, hfz87_1, hfz87_2, hfz87_3, hfz87_4, hfz87_5, hfz87_6, hfz87_7⟩ := bx8 BK568.o
       obtain ⟨Ao88, co88, eo88⟩ := Kd.R_slice HO_584002.o
       subst eo88
       obtain ⟨Ao89, co89, eo89⟩ := Kd.R_slice HO_584005.o
       subst eo89
       try go_wp2
       refine bodyPost_ret (results_cell_row rfl _ _ gb568 41 #[.int .i64 t569, .int .i64 a1_1, .slice Ao88 x584002_5.length co88, .int .i64 x584003_32, .int .i64 x584004_32, .slice Ao89 x584005_47.length co89, .int .i64 t613, .int .i64 t614] (0, 0) _ rfl (qP BK568.o) Try.underlying41 rfl (by kernel_rfl)) rfl ?_
       exact ⟨_, _, o0, Kd.qG HO_584002.o BK583.o BK568.o, Kd.qG HO_584005.o BK583.o BK568.o, Q2, Q6, Q7⟩

end Go.Proofs.Ytejhjenlodclpaa.PFnHints
