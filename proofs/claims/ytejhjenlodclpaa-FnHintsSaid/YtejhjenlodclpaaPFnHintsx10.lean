/- Walks of functions that FnHints reaches, shortened. -/
import Derived.Test.YtejhjenlodclpaaPFnHintsx0
import Derived.Test.YtejhjenlodclpaaPFnHintsx9
namespace Go.Proofs.Ytejhjenlodclpaa.PFnHints
open Go.RowKit Go.Proofs.YtejhjenlodclpaaW.PrintWords Go.Proofs.YtejhjenlodclpaaW.PrintLast Go.Proofs.YtejhjenlodclpaaW.PrintMore
attribute [local go_sem] max2_int min2_int max_two min_two max_three min_three max_four min_four
set_option maxHeartbeats 8000000
set_option maxRecDepth 100000
set_option linter.unusedVariables false
set_option linter.unusedSimpArgs false

/-! ### spec_l6Draw: function 173 -/
def spec_l6Draw.f (s0_0 : List Int) (s0_1 : Int) (s0_2 : Int) (a1 : Int) : Option (Int × Int × Int × Int × Int × Int × Int × Int × Int × Int) := (spec_l4Draw.f s0_0 s0_1 s0_2 a1).bind fun bt320 => ((spec_l1Below.f s0_0 bt320.2.2.2.2.2.1 bt320.2.2.2.2.2.2 6).bind fun bt327 => ((spec_l1Below.f s0_0 bt327.2.1 bt327.2.2 80).bind fun bt330 => ((spec_l1Below.f s0_0 bt330.2.1 bt330.2.2 5).bind fun bt333 => (some (bt320.1, bt320.2.1, bt320.2.2.1, bt320.2.2.2.1, bt320.2.2.2.2.1, wrap64 (1 + bt327.1), bt330.1, bt333.1, bt333.2.1, bt333.2.2)))))
theorem spec_l6Draw.calls (g : Nat) (s0_0 : List Int) (s0_1 : Int) (s0_2 : Int) (a1 : Int) (r1 : Int) (r2 : Int) (r3 : Int) (r4 : Int) (r5 : Int) (r6 : Int) (r7 : Int) (r8 : Int) (r9 : Int) (r10 : Int) (w0 w : World) (hI : IsS173 w0 w g s0_0 s0_1 s0_2) (hB : Below w0.heap.size w0 w) (h : spec_l6Draw.f s0_0 s0_1 s0_2 a1 = some (r1, r2, r3, r4, r5, r6, r7, r8, r9, r10)) :
  Calls Try.prog 173 #[.pointer (some ⟨g, 0, none⟩), .int .i64 a1] w fun e w' => e = .returned (.agg #[.int .i64 r1, .int .i64 r2, .int .i64 r3, .int .i64 r4, .int .i64 r5, .int .i64 r6, .int .i64 r7, .int .i64 r8]) ∧ IsS173 w0 w' g s0_0 r9 r10 ∧ Below w0.heap.size w0 w' ∧ KeepBut w w' g none := by
 have hu113 := Try.underlying113
 have HI0 := zK hI
 have HK := zK (KeepBut.refl w g none)
 have HL := zK hB.size
 clear hI
 have HW0 := zK hB.size
 have HB := zK hB
 clear hB
 have H : ((spec_l4Draw.f s0_0 s0_1 s0_2 a1).bind fun bt320 => ((spec_l1Below.f s0_0 bt320.2.2.2.2.2.1 bt320.2.2.2.2.2.2 6).bind fun bt327 => ((spec_l1Below.f s0_0 bt327.2.1 bt327.2.2 80).bind fun bt330 => ((spec_l1Below.f s0_0 bt330.2.1 bt330.2.2 5).bind fun bt333 => (some (bt320.1, bt320.2.1, bt320.2.2.1, bt320.2.2.2.1, bt320.2.2.2.2.1, wrap64 (1 + bt327.1), bt330.1, bt333.1, bt333.2.1, bt333.2.2)))))) = some (r1, r2, r3, r4, r5, r6, r7, r8, r9, r10) := h
 clear h
 replace H := Option.bind_eq_some_iff.mp H
 obtain ⟨⟨t320, t321, t322, t323, t324, t325, t326⟩, A30, H⟩ := H
 try dsimp only at H
 have A3 := zK A30
 clear A30
 replace H := Option.bind_eq_some_iff.mp H
 obtain ⟨⟨t327, t328, t329⟩, A40, H⟩ := H
 try dsimp only at H
 have A4 := zK A40
 clear A40
 replace H := Option.bind_eq_some_iff.mp H
 obtain ⟨⟨t330, t331, t332⟩, A50, H⟩ := H
 try dsimp only at H
 have A5 := zK A50
 clear A50
 replace H := Option.bind_eq_some_iff.mp H
 obtain ⟨⟨t333, t334, t335⟩, A60, H⟩ := H
 try dsimp only at H
 have A6 := zK A60
 clear A60
 simp only [Option.some.injEq, Prod.mk.injEq] at H
 obtain ⟨rfl, rfl, rfl, rfl, rfl, rfl, rfl, rfl, rfl, rfl⟩ := H
 go_enter Try.func173, Try.ntmps173
 go_wp2_with (first | ((with_reducible refine gd (N := 4) rfl ?_); refine bE (N := 4) (cs := #[.int .i64 0, .int .i64 0, .int .i64 0, .int .i64 0, .int .i64 0, .int .i64 0, .int .i64 0, .int .i64 0]) (t := 113) ?_; intro gb319 hg w7 hbox hb; have _ := zK (IsS173.below M7 hb); have _ := zK (KeepBut.trans M1 (KeepBut.of_below hb g none) (.inl rfl)); have _ := zK (bT M13 hb); have _ := zK (hbox); have _ := zK ((by rw [hg]; exact (keep_size (w := w) (g := g) (row := none) M1) : w.heap.size ≤ gb319)); have _ := zK ((Nat.le_trans HW0.o (by rw [hg]; exact (keep_size (w := w) (g := g) (row := none) M1) : w.heap.size ≤ gb319) : w0.heap.size ≤ gb319)); have _ := zK ((by rw [hg]; exact Nat.ne_of_lt (IsS173.lt (show IsS173 w0 _ g s0_0 s0_1 s0_2 from Q0)) : g ≠ gb319)); have _ := zK ((by rw [hg]; exact Nat.ne_of_gt (IsS173.lt (show IsS173 w0 _ g s0_0 s0_1 s0_2 from Q0)) : gb319 ≠ g)); clear HI0 HK HB; rename_i HI0 HK HB BK319 GW319 GE319 NB0_319 NB319_0; clear hb hbox hg) | ((with_reducible refine gc (f := 193) rfl ?_); refine gL (some 7) Try.func193 #[.pointer (some ⟨g, 0, none⟩), .int .i64 a1] ?_; (with_reducible refine (spec_l4Draw.calls g s0_0 s0_1 s0_2 a1 t320 t321 t322 t323 t324 t325 t326 w0 _ ?side1 ?side2 A3.o).mono ?_); (case side1 => exact J2); (case side2 => exact J3); rintro e w8 ⟨rfl, hi, hb, hk⟩; refine ⟨_, rfl, ?_⟩; have _ := zK (kB hk BK319.o NB319_0.o); have _ := zK (KeepBut.trans M77 hk (.inl rfl)); have _ := zK (hb); have _ := zK (hi); clear BK319 HK HB HI0; rename_i BK319 HK HB HI0; clear hb hk hi) | ((with_reducible refine gc (f := 108) rfl ?_); refine gL (some 9) Try.func108 #[.pointer (some ⟨g, 0, none⟩), .int .i64 6] ?_; (with_reducible refine (spec_l1Below.calls g s0_0 t325 t326 6 t327 t328 t329 w0 _ ?side1 ?side2 A4.o).mono ?_); (case side1 => exact J2); (case side2 => exact J3); rintro e w9 ⟨rfl, hi, hb, hk⟩; refine ⟨_, rfl, ?_⟩; have _ := zK (kB hk BK319.o NB319_0.o); have _ := zK (KeepBut.trans M77 hk (.inl rfl)); have _ := zK (hb); have _ := zK (hi); clear BK319 HK HB HI0; rename_i BK319 HK HB HI0; clear hb hk hi) | ((with_reducible refine gc (f := 108) rfl ?_); refine gL (some 12) Try.func108 #[.pointer (some ⟨g, 0, none⟩), .int .i64 80] ?_; (with_reducible refine (spec_l1Below.calls g s0_0 t328 t329 80 t330 t331 t332 w0 _ ?side1 ?side2 A5.o).mono ?_); (case side1 => exact J2); (case side2 => exact J3); rintro e w10 ⟨rfl, hi, hb, hk⟩; refine ⟨_, rfl, ?_⟩; have _ := zK (kB hk BK319.o NB319_0.o); have _ := zK (KeepBut.trans M77 hk (.inl rfl)); have _ := zK (hb); have _ := zK (hi); clear BK319 HK HB HI0; rename_i BK319 HK HB HI0; clear hb hk hi) | ((with_reducible refine gc (f := 108) rfl ?_); refine gL (some 14) Try.func108 #[.pointer (some ⟨g, 0, none⟩), .int .i64 5] ?_; (with_reducible refine (spec_l1Below.calls g s0_0 t331 t332 5 t333 t334 t335 w0 _ ?side1 ?side2 A6.o).mono ?_); (case side1 => exact J2); (case side2 => exact J3); rintro e w11 ⟨rfl, hi, hb, hk⟩; refine ⟨_, rfl, ?_⟩; have _ := zK (kB hk BK319.o NB319_0.o); have _ := zK (KeepBut.trans M77 hk (.inl rfl)); have _ := zK (hb); have _ := zK (hi); clear BK319 HK HB HI0; rename_i BK319 HK HB HI0; clear hb hk hi; have hnb12 := NB319_0.o; have hnc12 := NB0_319.o; obtain ⟨hcz13_0, hcz13_1, hcz13_2, hcz13_3, hcz13_4, hcz13_5, hcz13_6, hcz13_7, hfz13_0, hfz13_1, hfz13_2, hfz13_3, hfz13_4, hfz13_5, hfz13_6, hfz13_7⟩ := bx8 BK319.o))
 refine bodyPost_ret (results_cell_row rfl _ _ gb319 113 #[.int .i64 t320, .int .i64 t321, .int .i64 t322, .int .i64 t323, .int .i64 t324, .int .i64 (wrap64 (1 + t327)), .int .i64 t330, .int .i64 t333] (0, 0) _ rfl (qP BK319.o) Try.underlying113 rfl (by kernel_rfl)) rfl ?_
 exact ⟨o0, by repeat (first | (with_reducible first | exact HI0.o | apply IsS173.alloc | apply IsS173.drewN | apply IsS173.drew | apply IsS173.set_1 | apply IsS173.set_2 | refine IsS173.far ?_ NB0_319.o _) | exact HI0.o), by repeat (first | (with_reducible first | exact HB.o | apply bA | apply bN | apply b1 | refine bS ?_ (IsS173.ge HI0.o) | refine bS ?_ GE319.o) | exact HB.o), by repeat (first | (with_reducible first | exact HK.o | apply KeepBut.set_ | apply keep_drewN | apply keep_drew | apply keep_alloc | refine keep_far ?_ GW319.o _) | exact HK.o)⟩
/-! ### spec_l6List: function 133 -/
def spec_l6List.l0 : Nat → List (S113) → Int → List Int → Int → Int → Option ((List (S113)) × Int × Int)
 | 0, _, _, _, _, _ => none
 | k + 1, x3, x4, x1000, x1001, x1002 => (spec_l1Below.f x1000 x1001 x1002 8).bind fun bt339 => (if x4 ≤ bt339.1 then ((spec_l6Draw.f x1000 bt339.2.1 bt339.2.2 (wrap64 (2 * x4))).bind fun bt342 => (if x3.length < 2199023255552 then (spec_l6List.l0 k (x3 ++ [(⟨(⟨bt342.1, bt342.2.1, bt342.2.2.1, bt342.2.2.2.1, bt342.2.2.2.2.1⟩ : S111), bt342.2.2.2.2.2.1, bt342.2.2.2.2.2.2.1, bt342.2.2.2.2.2.2.2.1⟩ : S113)]) (wrap64 (x4 + 1)) x1000 bt342.2.2.2.2.2.2.2.2.1 bt342.2.2.2.2.2.2.2.2.2) else (none))) else (some (x3, bt339.2.1, bt339.2.2)))
def spec_l6List.f (k : Nat) (s0_0 : List Int) (s0_1 : Int) (s0_2 : Int) : Option ((List (S113)) × Int × Int) := spec_l6List.l0 k (([] : List (S113))) 1 s0_0 s0_1 s0_2
theorem spec_l6List.calls (k : Nat) (g : Nat) (s0_0 : List Int) (s0_1 : Int) (s0_2 : Int) (r1 : List (S113)) (r2 : Int) (r3 : Int) (w0 w : World) (hI : IsS173 w0 w g s0_0 s0_1 s0_2) (hB : Below w0.heap.size w0 w) (h : spec_l6List.f k s0_0 s0_1 s0_2 = some (r1, r2, r3)) :
  Calls Try.prog 133 #[.pointer (some ⟨g, 0, none⟩)] w fun e w' => ∃ v0_ : Value, e = .returned (v0_) ∧ Kd.R k113 113 w' w.heap.size (fun _ => True) v0_ r1 ∧ IsS173 w0 w' g s0_0 r2 r3 ∧ Below w0.heap.size w0 w' ∧ KeepBut w w' g none := by
 have HI0 := zK hI
 have HK := zK (KeepBut.refl w g none)
 have HL := zK hB.size
 clear hI
 have HW0 := zK hB.size
 have HB := zK hB
 clear hB
 have H : (spec_l6List.l0 k (([] : List (S113))) 1 s0_0 s0_1 s0_2) = some (r1, r2, r3) := h
 clear h
 obtain ⟨y336, hy336⟩ : ∃ y_ : List (S113), y_ = (([] : List (S113))) := ⟨_, rfl⟩
 replace H : (spec_l6List.l0 k y336 1 s0_0 s0_1 s0_2) = some (r1, r2, r3) := have he_ := hy336; rH
 have Ny336 := zK hy336
 clear hy336
 have H' := zK H
 clear H
 go_enter Try.func133, Try.ntmps133
 go_wp2_with (first | ((with_reducible refine gd (N := 5) rfl ?_); refine Kd.R_lit k113 _ 113 ?hg (N := 5) ?hd (xs := ([] : List (S113))) (inner := []) (ok := fun _ => True) (okp := fun _ => True) ?hr ?hp (fun _ hk => hk) trivial (Below.refl _ _) (Nat.le_refl _) (by simp) ?_; (case hd => rfl); (case hg => rfl); (case hr => first | (go_simp; done) | (go_simp; rfl)); (case hp => exact (Reps.none _ _)); intro v337 w2 ho3 hb hg_ hnew_; clear hg_ hnew_; (first | rw [← Ny336.o] at ho3 | (simp only [Int.reduceToNat] at ho3; rw [← Ny336.o] at ho3)); have _ := zK (Kd.R_lower ho3 (keep_size (w := w) (g := g) (row := none) M1)); have _ := zK (IsS173.below M7 hb); have _ := zK (KeepBut.trans M1 (KeepBut.of_below hb g none) (.inl rfl)); have _ := zK (bT M13 hb); clear HI0 HK HB; rename_i HO338 HI0 HK HB; clear hb ho3))
 go_loopg [3, 4] k (fun kq v3 v4 w' => ∃ (x3_1 : List (S113)) (x4_1 : Int) (x1001_1 : Int) (x1002_1 : Int), v4 = .int .i64 x4_1 ∧ Aside0 (spec_l6List.l0 kq x3_1 x4_1 s0_0 x1001_1 x1002_1 = some (r1, r2, r3)) ∧ Aside0 (kq ≤ k) ∧ Aside0 (Kd.R k113 113 w' w.heap.size (fun _ => True) v3 x3_1) ∧ Aside0 (IsS173 w0 w' g s0_0 x1001_1 x1002_1) ∧ Aside0 (KeepBut w w' g none) ∧ Aside0 (Below w0.heap.size w0 w'))
 case atStart => exact ⟨(y336), (1), (s0_1), (s0_2), M12, H', ⟨Nat.le_refl _⟩, ⟨by exact Kd.qR HO338.o⟩, ⟨Q0⟩, ⟨Q9⟩, ⟨Q10⟩⟩
 case round =>
  clear H'
  try clear c1
  try clear p2
  obtain ⟨x3_1, x4_1, x1001_1, x1002_1, rfl, HA, HK1, HO_3, HI0, HK, HB⟩ := hrel
  cases gk with
  | zero => exact absurd HA.o (by simp [spec_l6List.l0])
  | succ k1 =>
   have H := HA.o
   clear HA
   simp only [spec_l6List.l0] at H
   replace H := Option.bind_eq_some_iff.mp H
   obtain ⟨⟨t339, t340, t341⟩, A40, H⟩ := H
   try dsimp only at H
   have A4 := zK A40
   clear A40
   by_cases c5 : x4_1 ≤ t339
   rotate_left
   ·rw [if_neg c5] at H
    have c5b0 : decide (x4_1 ≤ t339) = false := decide_eq_false c5
    clear c5
    simp only [Option.some.injEq, Prod.mk.injEq] at H
    obtain ⟨rfl, rfl, rfl⟩ := H
    go_wp2_with (first | ((with_reducible refine gc (f := 108) rfl ?_); refine gL (some 8) Try.func108 #[.pointer (some ⟨g, 0, none⟩), .int .i64 8] ?_; (with_reducible refine (spec_l1Below.calls g s0_0 x1001_1 x1002_1 8 t339 t340 t341 w0 _ ?side1 ?side2 A4.o).mono ?_); (case side1 => exact Q0); (case side2 => exact Q10); rintro e w11 ⟨rfl, hi, hb, hk⟩; refine ⟨_, rfl, ?_⟩; have _ := zK (IsS173.rK (show IsS173 w0 _ g s0_0 x1001_1 x1002_1 from Q0) HO_3.o hk); have _ := zK (KeepBut.trans M1 hk (.inl rfl)); have _ := zK (hb); have _ := zK (hi); clear HO_3 HK HB HI0; rename_i HO_3 HK HB HI0; clear hb hk hi))
    go_ret
    exact ⟨_, o0, by exact Kd.qR HO_3.o, Q0, Q10, Q9⟩
   rw [if_pos c5] at H
   have c5b0 : decide (x4_1 ≤ t339) = true := decide_eq_true c5
   clear c5
   replace H := Option.bind_eq_some_iff.mp H
   obtain ⟨⟨t342, t343, t344, t345, t346, t347, t348, t349, t350, t351⟩, A60, H⟩ := H
   try dsimp only at H
   have A6 := zK A60
   clear A60
   by_cases c7 : x3_1.length < 2199023255552
   rotate_left
   ·rw [if_neg c7] at H
    exact absurd H (by simp)
   rw [if_pos c7] at H
   have LMc7 := zK c7
   clear c7
   obtain ⟨y352, hy352⟩ : ∃ y_ : List (S113), y_ = (x3_1 ++ [(⟨(⟨t342, t343, t344, t345, t346⟩ : S111), t347, t348, t349⟩ : S113)]) := ⟨_, rfl⟩
   replace H : (spec_l6List.l0 k1 y352 (wrap64 (x4_1 + 1)) s0_0 t350 t351) = some (r1, r2, r3) := have he_ := hy352; rH
   have Ny352 := zK hy352
   clear hy352
   have H' := zK H
   clear H
   go_wp2_with (first | ((with_reducible refine gc (f := 108) rfl ?_); refine gL (some 8) Try.func108 #[.pointer (some ⟨g, 0, none⟩), .int .i64 8] ?_; (with_reducible refine (spec_l1Below.calls g s0_0 x1001_1 x1002_1 8 t339 t340 t341 w0 _ ?side1 ?side2 A4.o).mono ?_); (case side1 => exact Q0); (case side2 => exact Q10); rintro e w8 ⟨rfl, hi, hb, hk⟩; refine ⟨_, rfl, ?_⟩; have _ := zK (IsS173.rK (show IsS173 w0 _ g s0_0 x1001_1 x1002_1 from Q0) HO_3.o hk); have _ := zK (KeepBut.trans M1 hk (.inl rfl)); have _ := zK (hb); have _ := zK (hi); clear HO_3 HK HB HI0; rename_i HO_3 HK HB HI0; clear hb hk hi) | ((with_reducible refine gc (f := 173) rfl ?_); refine gL (some 16) Try.func173 #[.pointer (some ⟨g, 0, none⟩), .int .i64 (wrap64 (2 * x4_1))] ?_; (with_reducible refine (spec_l6Draw.calls g s0_0 t340 t341 (wrap64 (2 * x4_1)) t342 t343 t344 t345 t346 t347 t348 t349 t350 t351 w0 _ ?side1 ?side2 A6.o).mono ?_); (case side1 => exact Q0); (case side2 => exact Q10); rintro e w9 ⟨rfl, hi, hb, hk⟩; refine ⟨_, rfl, ?_⟩; have _ := zK (IsS173.rK (show IsS173 w0 _ g s0_0 t340 t341 from Q0) HO_3.o hk); have _ := zK (KeepBut.trans M1 hk (.inl rfl)); have _ := zK (hb); have _ := zK (hi); clear HO_3 HK HB HI0; rename_i HO_3 HK HB HI0; clear hb hk hi) | ((with_reducible refine gate_builtin (b := .append) (xs := #[.tmp 12, .tmp 17]) rfl ?_); at_builtin; refine Kd.R_append k113 w.heap.size rfl (.tmp 12) (.tmp 17) 26 113 (.agg #[(.int .i64 0), (.int .i64 0), (.int .i64 0), (.int .i64 0), (.int .i64 0), (.int .i64 0), (.int .i64 0), (.int .i64 0)]) 64 rfl Try.underlying26 info113 rfl (by decide) (by omega) u3 x3_1 (⟨(⟨t342, t343, t344, t345, t346⟩ : S111), t347, t348, t349⟩ : S113) [.int .i64 t342, .int .i64 t343, .int .i64 t344, .int .i64 t345, .int .i64 t346, .int .i64 t347, .int .i64 t348, .int .i64 t349] (fun _ => True) (fun _ => False) rfl rfl ?aP (fun _ hk => hk.elim) ?aF ?aO (Below.refl _ _) ?aS ?aL ?_; (case aP => exact k113_mkM _ _ _ (⟨(⟨t342, t343, t344, t345, t346⟩ : S111), t347, t348, t349⟩ : S113)); (case aF => exact (fun _ _ => trivial)); (case aO => exact (Kd.qR HO_3.o)); (case aS => exact (keep_size (w := w) (g := g) (row := none) M1)); (case aL => have := LMc7.o; omega); intro v353 w10 ho hb hg hat; rw [← Ny352.o] at ho; have _ := zK (IsS173.grown M7 hg (IsS173.own_ne HI0.o HO_3.o (by decide))); have _ := zK (below_weaken M13 HL.o hb); have _ := zK (KeepBut.trans M1 (KeepBut.of_grown hg g) (Kd.R_base2 HO_3.o)); have _ := zK (ho); clear HI0 HB HK HO_3; rename_i HI0 HB HK HO354; clear ho hb hg hat))
   go_roundg k1
   case measure => have := HK1.o; omega
   case rel => exact ⟨(y352), (wrap64 (x4_1 + 1)), (t350), (t351), M12, H', ⟨o6⟩, ⟨by exact Kd.qR HO354.o⟩, ⟨Q0⟩, ⟨Q9⟩, ⟨Q10⟩⟩
/-! ### spec_l1Int: function 145 -/
def spec_l1Int.f (s0_0 : List Int) (s0_1 : Int) (s0_2 : Int) (l1 : List Int) : Option (Int × Int × Int) := (spec_l1Below.f s0_0 s0_1 s0_2 (l1.length : Int)).bind fun bt355 => (if 0 ≤ bt355.1 then (if bt355.1 < (l1.length : Int) then (some (rd l1 bt355.1, bt355.2.1, bt355.2.2)) else (none)) else (none))
theorem spec_l1Int.calls (g : Nat) (s0_0 : List Int) (s0_1 : Int) (s0_2 : Int) (A1 : Option Addr) (c1 : Nat) (l1 : List Int) (r1 : Int) (r2 : Int) (r3 : Int) (w0 w : World) (hI : IsS173 w0 w g s0_0 s0_1 s0_2) (hB : Below w0.heap.size w0 w) (hr1 : Kd.C (Kd.int .i64) w A1 l1.length l1) (hc1 : l1.length ≤ c1) (hf1 : ∀ ad, A1 = some ad → 0 < l1.length → ad.block ≠ g) (h : spec_l1Int.f s0_0 s0_1 s0_2 l1 = some (r1, r2, r3)) :
  Calls Try.prog 145 #[.pointer (some ⟨g, 0, none⟩), .slice A1 l1.length c1] w fun e w' => e = .returned (.int .i64 r1) ∧ IsS173 w0 w' g s0_0 r2 r3 ∧ Below w0.heap.size w0 w' ∧ KeepBut w w' g none := by
 have HR1 := zK hr1
 have HC1 := zK hc1
 clear hr1 hc1
 have HI0 := zK hI
 have HK := zK (KeepBut.refl w g none)
 have HL := zK hB.size
 clear hI
 have HW0 := zK hB.size
 have HB := zK hB
 clear hB
 have H : ((spec_l1Below.f s0_0 s0_1 s0_2 (l1.length : Int)).bind fun bt355 => (if 0 ≤ bt355.1 then (if bt355.1 < (l1.length : Int) then (some (rd l1 bt355.1, bt355.2.1, bt355.2.2)) else (none)) else (none))) = some (r1, r2, r3) := h
 clear h
 replace H := Option.bind_eq_some_iff.mp H
 obtain ⟨⟨t355, t356, t357⟩, A30, H⟩ := H
 try dsimp only at H
 have A3 := zK A30
 clear A30
 by_cases c4 : 0 ≤ t355
 rotate_left
 ·rw [if_neg c4] at H
  exact absurd H (by simp)
 rw [if_pos c4] at H
 have c4b0 : decide (0 ≤ t355) = true := decide_eq_true c4
 clear c4
 by_cases c5 : t355 < (l1.length : Int)
 rotate_left
 ·rw [if_neg c5] at H
  exact absurd H (by simp)
 rw [if_pos c5] at H
 have c5b0 : decide (t355 < (l1.length : Int)) = true := decide_eq_true c5
 clear c5
 simp only [Option.some.injEq, Prod.mk.injEq] at H
 obtain ⟨rfl, rfl, rfl⟩ := H
 go_enter Try.func145, Try.ntmps145
 go_wp2_with (first | ((with_reducible refine gc (f := 108) rfl ?_); refine gL (some 9) Try.func108 #[.pointer (some ⟨g, 0, none⟩), .int .i64 (l1.length : Int)] ?_; (with_reducible refine (spec_l1Below.calls g s0_0 s0_1 s0_2 (l1.length : Int) t355 t356 t357 w0 _ ?side1 ?side2 A3.o).mono ?_); (case side1 => exact Q0); (case side2 => exact Q10); rintro e w6 ⟨rfl, hi, hb, hk⟩; refine ⟨_, rfl, ?_⟩; have _ := zK (KeepBut.trans M1 hk (.inl rfl)); have _ := zK (hb); have _ := zK (hi); clear HK HB HI0; rename_i HK HB HI0; clear hb hk hi; have p358 : 0 ≤ (t355 : Int) := oD M4; have q358 : t355 < (l1.length : Int) := oD M4; obtain ⟨ad358, e358, hx358_0⟩ := Kd.at_int HR1.o t355 p358 q358; cases e358; replace hx358_0 := keep_cell HK.o hx358_0 (by first | (rw [add_block]; exact hf1 _ rfl (by omega)) | exact hf1 _ rfl (by omega) | exact hf1 ad358 rfl (by omega)); replace p358 := eq_true p358; replace q358 := eq_true q358))
 go_ret
 exact ⟨o0, Q0, Q10, Q9⟩
/-! ### spec_l4Raw: function 146 -/
def spec_l4Raw.f (s0_0 : List Int) (s0_1 : Int) (s0_2 : Int) : Option (Int × Int × Int) := (spec_l1Int.f s0_0 s0_1 s0_2 (([(-1), 0, 8, 50, 51, 1000, 9223372036854775807, (-9223372036854775808)] : List Int))).bind fun bt362 => (some (bt362.1, bt362.2.1, bt362.2.2))
theorem spec_l4Raw.calls (g : Nat) (s0_0 : List Int) (s0_1 : Int) (s0_2 : Int) (r1 : Int) (r2 : Int) (r3 : Int) (w0 w : World) (hI : IsS173 w0 w g s0_0 s0_1 s0_2) (hB : Below w0.heap.size w0 w) (h : spec_l4Raw.f s0_0 s0_1 s0_2 = some (r1, r2, r3)) :
  Calls Try.prog 146 #[.pointer (some ⟨g, 0, none⟩)] w fun e w' => e = .returned (.int .i64 r1) ∧ IsS173 w0 w' g s0_0 r2 r3 ∧ Below w0.heap.size w0 w' ∧ KeepBut w w' g none := by
 have HI0 := zK hI
 have HK := zK (KeepBut.refl w g none)
 have HL := zK hB.size
 clear hI
 have HW0 := zK hB.size
 have HB := zK hB
 clear hB
 have H : ((spec_l1Int.f s0_0 s0_1 s0_2 (([(-1), 0, 8, 50, 51, 1000, 9223372036854775807, (-9223372036854775808)] : List Int))).bind fun bt362 => (some (bt362.1, bt362.2.1, bt362.2.2))) = some (r1, r2, r3) := h
 clear h
 obtain ⟨y359, hy359⟩ : ∃ y_ : List Int, y_ = (([(-1), 0, 8, 50, 51, 1000, 9223372036854775807, (-9223372036854775808)] : List Int)) := ⟨_, rfl⟩
 replace H : ((spec_l1Int.f s0_0 s0_1 s0_2 y359).bind fun bt362 => (some (bt362.1, bt362.2.1, bt362.2.2))) = some (r1, r2, r3) := have he_ := hy359; rH
 have Ny359 := zK hy359
 clear hy359
 replace H := Option.bind_eq_some_iff.mp H
 obtain ⟨⟨t362, t363, t364⟩, A20, H⟩ := H
 try dsimp only at H
 have A2 := zK A20
 clear A20
 simp only [Option.some.injEq, Prod.mk.injEq] at H
 obtain ⟨rfl, rfl, rfl⟩ := H
 go_enter Try.func146, Try.ntmps146
 go_wp2_with (first | ((with_reducible refine gd (N := 4) rfl ?_); refine Kd.R_lit (Kd.int .i64) _ 3 ?hg (N := 4) ?hd (xs := ([(-1), 0, 8, 50, 51, 1000, 9223372036854775807, (-9223372036854775808)] : List Int)) (inner := [.int .i64 (-1), .int .i64 0, .int .i64 8, .int .i64 50, .int .i64 51, .int .i64 1000, .int .i64 9223372036854775807, .int .i64 (-9223372036854775808)]) (ok := fun _ => True) (okp := fun _ => True) ?hr ?hp (fun _ hk => hk) trivial (Below.refl _ _) (Nat.le_refl _) (by simp) ?_; (case hd => rfl); (case hg => rfl); (case hr => first | (go_simp; done) | (go_simp; rfl)); (case hp => exact (Reps.one (show Kd.M (Kd.int .i64) _ _ _ (-1) [.int .i64 (-1)] from rfl) (Reps.one (show Kd.M (Kd.int .i64) _ _ _ 0 [.int .i64 0] from rfl) (Reps.one (show Kd.M (Kd.int .i64) _ _ _ 8 [.int .i64 8] from rfl) (Reps.one (show Kd.M (Kd.int .i64) _ _ _ 50 [.int .i64 50] from rfl) (Reps.one (show Kd.M (Kd.int .i64) _ _ _ 51 [.int .i64 51] from rfl) (Reps.one (show Kd.M (Kd.int .i64) _ _ _ 1000 [.int .i64 1000] from rfl) (Reps.one (show Kd.M (Kd.int .i64) _ _ _ 9223372036854775807 [.int .i64 9223372036854775807] from rfl) (Reps.one (show Kd.M (Kd.int .i64) _ _ _ (-9223372036854775808) [.int .i64 (-9223372036854775808)] from rfl) (Reps.none _ _)))))))))); intro v360 w3 ho4 hb hg_ hnew_; clear hg_ hnew_; (first | rw [← Ny359.o] at ho4 | (simp only [Int.reduceToNat] at ho4; rw [← Ny359.o] at ho4)); have _ := zK (Kd.R_lower ho4 (keep_size (w := w) (g := g) (row := none) M1)); have _ := zK (IsS173.below M7 hb); have _ := zK (KeepBut.trans M1 (KeepBut.of_below hb g none) (.inl rfl)); have _ := zK (bT M13 hb); clear HI0 HK HB; rename_i HO361 HI0 HK HB; clear hb ho4; obtain ⟨Ao5, co5, eo5⟩ := Kd.R_slice HO361.o; subst eo5) | ((with_reducible refine gc (f := 145) rfl ?_); refine gL (some 5) Try.func145 #[.pointer (some ⟨g, 0, none⟩), .slice Ao5 y359.length co5] ?_; (with_reducible refine (spec_l1Int.calls g s0_0 s0_1 s0_2 _ _ y359 t362 t363 t364 w0 _ ?side1 ?side2 ?side3 ?side4 ?side5 A2.o).mono ?_); (case side1 => exact Q0); (case side2 => exact Q10); (case side3 => exact Kd.qC (Kd.R_reads' HO361.o).2.2); (case side4 => exact (Kd.R_reads' HO361.o).2.1); (case side5 => exact far_slice (IsS173.own_ne HI0.o HO361.o (by decide))); rintro e w6 ⟨rfl, hi, hb, hk⟩; refine ⟨_, rfl, ?_⟩; have _ := zK (IsS173.rK (show IsS173 w0 _ g s0_0 s0_1 s0_2 from Q0) HO361.o hk); have _ := zK (KeepBut.trans M1 hk (.inl rfl)); have _ := zK (hb); have _ := zK (hi); clear HO361 HK HB HI0; rename_i HO361 HK HB HI0; clear hb hk hi))
 go_ret
 exact ⟨o0, Q0, Q10, Q9⟩
/-! ### spec_l4Any: function 168 -/
def spec_l4Any.f (s0_0 : List Int) (s0_1 : Int) (s0_2 : Int) : Option (Int × Int × Int × Int × Int × Int × Int) := (spec_l1Below.f s0_0 s0_1 s0_2 40).bind fun bt366 => ((spec_l4Draw.f s0_0 bt366.2.1 bt366.2.2 (wrap64 (1 + bt366.1))).bind fun bt369 => ((spec_l1Below.f s0_0 bt369.2.2.2.2.2.1 bt369.2.2.2.2.2.2 14).bind fun bt377 => (if bt377.1 = 0 then ((spec_l1Int.f s0_0 bt377.2.1 bt377.2.2 (([0, 999, 1000] : List Int))).bind fun bt383 => (some (bt383.1, bt369.2.1, bt369.2.2.1, bt369.2.2.2.1, bt369.2.2.2.2.1, bt383.2.1, bt383.2.2))) else (if bt377.1 = 1 then ((spec_l1Int.f s0_0 bt377.2.1 bt377.2.2 (([0, 8, 9] : List Int))).bind fun bt389 => (some (bt369.1, bt389.1, bt369.2.2.1, bt369.2.2.2.1, bt369.2.2.2.2.1, bt389.2.1, bt389.2.2))) else (if bt377.1 = 2 then ((spec_l1Int.f s0_0 bt377.2.1 bt377.2.2 (([(-1), 7, 8] : List Int))).bind fun bt395 => (some (bt369.1, bt369.2.1, bt395.1, bt369.2.2.2.1, bt369.2.2.2.2.1, bt395.2.1, bt395.2.2))) else (if bt377.1 = 3 then ((spec_l4Raw.f s0_0 bt377.2.1 bt377.2.2).bind fun bt398 => (some (bt369.1, bt369.2.1, bt369.2.2.1, bt398.1, bt369.2.2.2.2.1, bt398.2.1, bt398.2.2))) else (if bt377.1 = 4 then ((spec_l1Int.f s0_0 bt377.2.1 bt377.2.2 (([(-1), 10000000, 10000001] : List Int))).bind fun bt404 => (some (bt369.1, bt369.2.1, bt369.2.2.1, bt369.2.2.2.1, bt404.1, bt404.2.1, bt404.2.2))) else (some (bt369.1, bt369.2.1, bt369.2.2.1, bt369.2.2.2.1, bt369.2.2.2.2.1, bt377.2.1, bt377.2.2)))))))))
theorem lf10_0 {p : Prop} (h : p := by
  go_enter Try.func168, Try.ntmps168
  go_wp2_with (first | ((with_reducible refine gd (N := 2) rfl ?_); refine bE (N := 2) (cs := #[.int .i64 0, .int .i64 0, .int .i64 0, .int .i64 0, .int .i64 0]) (t := 111) ?_; intro gb365 hg wz0 hbox hb; have _ := zK (IsS173.below M7 hb); have _ := zK (KeepBut.trans M1 (KeepBut.of_below hb g none) (.inl rfl)); have _ := zK (bT M13 hb); have _ := zK (hbox); have _ := zK ((by rw [hg]; exact (keep_size (w := w) (g := g) (row := none) M1) : w.heap.size ≤ gb365)); have _ := zK ((Nat.le_trans HW0.o (by rw [hg]; exact (keep_size (w := w) (g := g) (row := none) M1) : w.heap.size ≤ gb365) : w0.heap.size ≤ gb365)); have _ := zK ((by rw [hg]; exact Nat.ne_of_lt (IsS173.lt (show IsS173 w0 _ g s0_0 s0_1 s0_2 from Q0)) : g ≠ gb365)); have _ := zK ((by rw [hg]; exact Nat.ne_of_gt (IsS173.lt (show IsS173 w0 _ g s0_0 s0_1 s0_2 from Q0)) : gb365 ≠ g)); clear HI0 HK HB; rename_i HI0 HK HB BK365 GW365 GE365 NB0_365 NB365_0; clear hb hbox hg) | ((with_reducible refine gc (f := 108) rfl ?_); refine gL (some 6) Try.func108 #[.pointer (some ⟨g, 0, none⟩), .int .i64 40] ?_; (with_reducible refine (spec_l1Below.calls g s0_0 s0_1 s0_2 40 t366 t367 t368 w0 _ ?side1 ?side2 A2.o).mono ?_); (case side1 => exact Q18); (case side2 => exact M66); rintro e wz1 ⟨rfl, hi, hb, hk⟩; refine ⟨_, rfl, ?_⟩; have _ := zK (kB hk BK365.o NB365_0.o); have _ := zK (KeepBut.trans M10 hk (.inl rfl)); have _ := zK (hb); have _ := zK (hi); clear BK365 HK HB HI0; rename_i BK365 HK HB HI0; clear hb hk hi) | ((with_reducible refine gc (f := 193) rfl ?_); refine gL (some 8) Try.func193 #[.pointer (some ⟨g, 0, none⟩), .int .i64 (wrap64 (1 + t366))] ?_; (with_reducible refine (spec_l4Draw.calls g s0_0 t367 t368 (wrap64 (1 + t366)) t369 t370 t371 t372 t373 t374 t375 w0 _ ?side1 ?side2 A3.o).mono ?_); (case side1 => exact Q18); (case side2 => exact M66); rintro e wz2 ⟨rfl, hi, hb, hk⟩; refine ⟨_, rfl, ?_⟩; have _ := zK (kB hk BK365.o NB365_0.o); have _ := zK (KeepBut.trans M10 hk (.inl rfl)); have _ := zK (hb); have _ := zK (hi); clear BK365 HK HB HI0; rename_i BK365 HK HB HI0; clear hb hk hi) | ((with_reducible refine gd (N := 3) rfl ?_); refine bE (N := 3) (cs := #[.int .i64 0, .int .i64 0, .int .i64 0, .int .i64 0, .int .i64 0]) (t := 111) ?_; intro gb376 hg wz3 hbox hb; have _ := zK (IsS173.below M60 hb); have _ := zK (bB (qK BK365.o) hb); have _ := zK (KeepBut.trans M10 (KeepBut.of_below hb g none) (.inl rfl)); have _ := zK (bT M66 hb); have _ := zK (hbox); have _ := zK ((by rw [hg]; exact (keep_size (w := w) (g := g) (row := none) M10) : w.heap.size ≤ gb376)); have _ := zK ((Nat.le_trans HW0.o (by rw [hg]; exact (keep_size (w := w) (g := g) (row := none) M10) : w.heap.size ≤ gb376) : w0.heap.size ≤ gb376)); have _ := zK ((by rw [hg]; exact Nat.ne_of_lt (blk_lt (qK BK365.o)) : gb365 ≠ gb376)); have _ := zK ((by rw [hg]; exact Nat.ne_of_gt (blk_lt (qK BK365.o)) : gb376 ≠ gb365)); have _ := zK ((by rw [hg]; exact Nat.ne_of_lt (IsS173.lt (show IsS173 w0 _ g s0_0 t374 t375 from Q18)) : g ≠ gb376)); have _ := zK ((by rw [hg]; exact Nat.ne_of_gt (IsS173.lt (show IsS173 w0 _ g s0_0 t374 t375 from Q18)) : gb376 ≠ g)); clear HI0 BK365 HK HB; rename_i HI0 BK365 HK HB BK376 GW376 GE376 NB365_376 NB376_365 NB0_376 NB376_0; clear hb hbox hg; have hnbz0 := NB376_365.o; have hncz0 := NB365_376.o; have hnbz1 := NB376_0.o; have hncz1 := NB0_376.o; obtain ⟨hczz2_0, hczz2_1, hczz2_2, hczz2_3, hczz2_4, hfzz2_0, hfzz2_1, hfzz2_2, hfzz2_3, hfzz2_4⟩ := bx5 BK376.o) | ((with_reducible refine gc (f := 108) rfl ?_); refine gL (some 10) Try.func108 #[.pointer (some ⟨g, 0, none⟩), .int .i64 14] ?_; (with_reducible refine (spec_l1Below.calls g s0_0 t374 t375 14 t377 t378 t379 w0 _ ?side1 ?side2 A4.o).mono ?_); (case side1 => exact Q5); (case side2 => exact Q14); rintro e wz4 ⟨rfl, hi, hb, hk⟩; refine ⟨_, rfl, ?_⟩; have _ := zK (KeepBut.blk hk (g' := gb365) (o := .cells #[.int .i64 0, .int .i64 0, .int .i64 0, .int .i64 0, .int .i64 0] 111 (0, 0)) (qP BK365.o) NB365_0.o (by simp)); have _ := zK (KeepBut.blk hk (g' := gb376) (o := .cells #[.int .i64 t369, .int .i64 t370, .int .i64 t371, .int .i64 t372, .int .i64 t373] 111 (0, 0)) (qP BK376.o) NB376_0.o (by simp)); have _ := zK (KeepBut.trans M14 hk (.inl rfl)); have _ := zK (hb); have _ := zK (hi); clear BK365 BK376 HK HB HI0; rename_i BK365 BK376 HK HB HI0; clear hb hk hi) | ((with_reducible refine gd (N := 37) rfl ?_); refine Kd.R_lit (Kd.int .i64) _ 3 ?hg (N := 37) ?hd (xs := ([(-1), 10000000, 10000001] : List Int)) (inner := [.int .i64 (-1), .int .i64 10000000, .int .i64 10000001]) (ok := fun _ => True) (okp := fun _ => True) ?hr ?hp (fun _ hk => hk) trivial (Below.refl _ _) (Nat.le_refl _) (by simp) ?_; (case hd => rfl); (case hg => rfl); (case hr => first | (go_simp; done) | (go_simp; rfl)); (case hp => exact (Reps.one (show Kd.M (Kd.int .i64) _ _ _ (-1) [.int .i64 (-1)] from rfl) (Reps.one (show Kd.M (Kd.int .i64) _ _ _ 10000000 [.int .i64 10000000] from rfl) (Reps.one (show Kd.M (Kd.int .i64) _ _ _ 10000001 [.int .i64 10000001] from rfl) (Reps.none _ _))))); intro v402 wz5 ho81 hb hg_ hnew_; clear hg_ hnew_; (first | rw [← Ny401.o] at ho81 | (simp only [Int.reduceToNat] at ho81; rw [← Ny401.o] at ho81)); have _ := zK (Kd.R_lower ho81 (keep_size (w := w) (g := g) (row := none) M14)); have _ := zK (IsS173.below M64 hb); have _ := zK (bB (qK BK365.o) hb); have _ := zK (bB (qK BK376.o) hb); have _ := zK (KeepBut.trans M14 (KeepBut.of_below hb g none) (.inl rfl)); have _ := zK (bT M75 hb); clear HI0 BK365 BK376 HK HB; rename_i HO403 HI0 BK365 BK376 HK HB; clear hb ho81; obtain ⟨Aoz0, coz0, eoz0⟩ := Kd.R_slice HO403.o; subst eoz0) | ((with_reducible refine gc (f := 145) rfl ?_); refine gL (some 38) Try.func145 #[.pointer (some ⟨g, 0, none⟩), .slice Aoz0 y401.length coz0] ?_; (with_reducible refine (spec_l1Int.calls g s0_0 t378 t379 _ _ y401 t404 t405 t406 w0 _ ?side1 ?side2 ?side3 ?side4 ?side5 A71.o).mono ?_); (case side1 => exact Q5); (case side2 => exact Q14); (case side3 => exact Kd.qC (Kd.R_reads' HO403.o).2.2); (case side4 => exact (Kd.R_reads' HO403.o).2.1); (case side5 => exact far_slice (IsS173.own_ne HI0.o HO403.o (by decide))); rintro e wz6 ⟨rfl, hi, hb, hk⟩; refine ⟨_, rfl, ?_⟩; have _ := zK (kB hk BK365.o NB365_0.o); have _ := zK (kB hk BK376.o NB376_0.o); have _ := zK (IsS173.rK (show IsS173 w0 _ g s0_0 t378 t379 from Q5) HO403.o hk); have _ := zK (KeepBut.trans M14 hk (.inl rfl)); have _ := zK (hb); have _ := zK (hi); clear BK365 BK376 HO403 HK HB HI0; rename_i BK365 BK376 HO403 HK HB HI0; clear hb hk hi; obtain ⟨hczz3_0, hczz3_1, hczz3_2, hczz3_3, hczz3_4, hfzz3_0, hfzz3_1, hfzz3_2, hfzz3_3, hfzz3_4⟩ := bx5 BK376.o; have hnbz4 := NB365_0.o; have hncz4 := NB0_365.o; obtain ⟨hczz5_0, hczz5_1, hczz5_2, hczz5_3, hczz5_4, hfzz5_0, hfzz5_1, hfzz5_2, hfzz5_3, hfzz5_4⟩ := bx5 BK365.o) | ((with_reducible refine gd (N := 14) rfl ?_); refine Kd.R_lit (Kd.int .i64) _ 3 ?hg (N := 14) ?hd (xs := ([0, 999, 1000] : List Int)) (inner := [.int .i64 0, .int .i64 999, .int .i64 1000]) (ok := fun _ => True) (okp := fun _ => True) ?hr ?hp (fun _ hk => hk) trivial (Below.refl _ _) (Nat.le_refl _) (by simp) ?_; (case hd => rfl); (case hg => rfl); (case hr => first | (go_simp; done) | (go_simp; rfl)); (case hp => exact (Reps.one (show Kd.M (Kd.int .i64) _ _ _ 0 [.int .i64 0] from rfl) (Reps.one (show Kd.M (Kd.int .i64) _ _ _ 999 [.int .i64 999] from rfl) (Reps.one (show Kd.M (Kd.int .i64) _ _ _ 1000 [.int .i64 1000] from rfl) (Reps.none _ _))))); intro v381 wz5 ho16 hb hg_ hnew_; clear hg_ hnew_; (first | rw [← Ny380.o] at ho16 | (simp only [Int.reduceToNat] at ho16; rw [← Ny380.o] at ho16)); have _ := zK (Kd.R_lower ho16 (keep_size (w := w) (g := g) (row := none) M14)); have _ := zK (IsS173.below M64 hb); have _ := zK (bB (qK BK365.o) hb); have _ := zK (bB (qK BK376.o) hb); have _ := zK (KeepBut.trans M14 (KeepBut.of_below hb g none) (.inl rfl)); have _ := zK (bT M75 hb); clear HI0 BK365 BK376 HK HB; rename_i HO382 HI0 BK365 BK376 HK HB; clear hb ho16; obtain ⟨Aoz0, coz0, eoz0⟩ := Kd.R_slice HO382.o; subst eoz0) | ((with_reducible refine gc (f := 145) rfl ?_); refine gL (some 15) Try.func145 #[.pointer (some ⟨g, 0, none⟩), .slice Aoz0 y380.length coz0] ?_; (with_reducible refine (spec_l1Int.calls g s0_0 t378 t379 _ _ y380 t383 t384 t385 w0 _ ?side1 ?side2 ?side3 ?side4 ?side5 A6.o).mono ?_); (case side1 => exact Q5); (case side2 => exact Q14); (case side3 => exact Kd.qC (Kd.R_reads' HO382.o).2.2); (case side4 => exact (Kd.R_reads' HO382.o).2.1); (case side5 => exact far_slice (IsS173.own_ne HI0.o HO382.o (by decide))); rintro e wz6 ⟨rfl, hi, hb, hk⟩; refine ⟨_, rfl, ?_⟩; have _ := zK (kB hk BK365.o NB365_0.o); have _ := zK (kB hk BK376.o NB376_0.o); have _ := zK (IsS173.rK (show IsS173 w0 _ g s0_0 t378 t379 from Q5) HO382.o hk); have _ := zK (KeepBut.trans M14 hk (.inl rfl)); have _ := zK (hb); have _ := zK (hi); clear BK365 BK376 HO382 HK HB HI0; rename_i BK365 BK376 HO382 HK HB HI0; clear hb hk hi; obtain ⟨hczz3_0, hczz3_1, hczz3_2, hczz3_3, hczz3_4, hfzz3_0, hfzz3_1, hfzz3_2, hfzz3_3, hfzz3_4⟩ := bx5 BK376.o; have hnbz4 := NB365_0.o; have hncz4 := NB0_365.o; obtain ⟨hczz5_0, hczz5_1, hczz5_2, hczz5_3, hczz5_4, hfzz5_0, hfzz5_1, hfzz5_2, hfzz5_3, hfzz5_4⟩ := bx5 BK365.o) | ((with_reducible refine gd (N := 26) rfl ?_); refine Kd.R_lit (Kd.int .i64) _ 3 ?hg (N := 26) ?hd (xs := ([(-1), 7, 8] : List Int)) (inner := [.int .i64 (-1), .int .i64 7, .int .i64 8]) (ok := fun _ => True) (okp := fun _ => True) ?hr ?hp (fun _ hk => hk) trivial (Below.refl _ _) (Nat.le_refl _) (by simp) ?_; (case hd => rfl); (case hg => rfl); (case hr => first | (go_simp; done) | (go_simp; rfl)); (case hp => exact (Reps.one (show Kd.M (Kd.int .i64) _ _ _ (-1) [.int .i64 (-1)] from rfl) (Reps.one (show Kd.M (Kd.int .i64) _ _ _ 7 [.int .i64 7] from rfl) (Reps.one (show Kd.M (Kd.int .i64) _ _ _ 8 [.int .i64 8] from rfl) (Reps.none _ _))))); intro v393 wz5 ho50 hb hg_ hnew_; clear hg_ hnew_; (first | rw [← Ny392.o] at ho50 | (simp only [Int.reduceToNat] at ho50; rw [← Ny392.o] at ho50)); have _ := zK (Kd.R_lower ho50 (keep_size (w := w) (g := g) (row := none) M14)); have _ := zK (IsS173.below M64 hb); have _ := zK (bB (qK BK365.o) hb); have _ := zK (bB (qK BK376.o) hb); have _ := zK (KeepBut.trans M14 (KeepBut.of_below hb g none) (.inl rfl)); have _ := zK (bT M75 hb); clear HI0 BK365 BK376 HK HB; rename_i HO394 HI0 BK365 BK376 HK HB; clear hb ho50; obtain ⟨Aoz0, coz0, eoz0⟩ := Kd.R_slice HO394.o; subst eoz0) | ((with_reducible refine gc (f := 145) rfl ?_); refine gL (some 27) Try.func145 #[.pointer (some ⟨g, 0, none⟩), .slice Aoz0 y392.length coz0] ?_; (with_reducible refine (spec_l1Int.calls g s0_0 t378 t379 _ _ y392 t395 t396 t397 w0 _ ?side1 ?side2 ?side3 ?side4 ?side5 A40.o).mono ?_); (case side1 => exact Q5); (case side2 => exact Q14); (case side3 => exact Kd.qC (Kd.R_reads' HO394.o).2.2); (case side4 => exact (Kd.R_reads' HO394.o).2.1); (case side5 => exact far_slice (IsS173.own_ne HI0.o HO394.o (by decide))); rintro e wz6 ⟨rfl, hi, hb, hk⟩; refine ⟨_, rfl, ?_⟩; have _ := zK (kB hk BK365.o NB365_0.o); have _ := zK (kB hk BK376.o NB376_0.o); have _ := zK (IsS173.rK (show IsS173 w0 _ g s0_0 t378 t379 from Q5) HO394.o hk); have _ := zK (KeepBut.trans M14 hk (.inl rfl)); have _ := zK (hb); have _ := zK (hi); clear BK365 BK376 HO394 HK HB HI0; rename_i BK365 BK376 HO394 HK HB HI0; clear hb hk hi; obtain ⟨hczz3_0, hczz3_1, hczz3_2, hczz3_3, hczz3_4, hfzz3_0, hfzz3_1, hfzz3_2, hfzz3_3, hfzz3_4⟩ := bx5 BK376.o; have hnbz4 := NB365_0.o; have hncz4 := NB0_365.o; obtain ⟨hczz5_0, hczz5_1, hczz5_2, hczz5_3, hczz5_4, hfzz5_0, hfzz5_1, hfzz5_2, hfzz5_3, hfzz5_4⟩ := bx5 BK365.o) | ((with_reducible refine gd (N := 20) rfl ?_); refine Kd.R_lit (Kd.int .i64) _ 3 ?hg (N := 20) ?hd (xs := ([0, 8, 9] : List Int)) (inner := [.int .i64 0, .int .i64 8, .int .i64 9]) (ok := fun _ => True) (okp := fun _ => True) ?hr ?hp (fun _ hk => hk) trivial (Below.refl _ _) (Nat.le_refl _) (by simp) ?_; (case hd => rfl); (case hg => rfl); (case hr => first | (go_simp; done) | (go_simp; rfl)); (case hp => exact (Reps.one (show Kd.M (Kd.int .i64) _ _ _ 0 [.int .i64 0] from rfl) (Reps.one (show Kd.M (Kd.int .i64) _ _ _ 8 [.int .i64 8] from rfl) (Reps.one (show Kd.M (Kd.int .i64) _ _ _ 9 [.int .i64 9] from rfl) (Reps.none _ _))))); intro v387 wz5 ho33 hb hg_ hnew_; clear hg_ hnew_; (first | rw [← Ny386.o] at ho33 | (simp only [Int.reduceToNat] at ho33; rw [← Ny386.o] at ho33)); have _ := zK (Kd.R_lower ho33 (keep_size (w := w) (g := g) (row := none) M14)); have _ := zK (IsS173.below M64 hb); have _ := zK (bB (qK BK365.o) hb); have _ := zK (bB (qK BK376.o) hb); have _ := zK (KeepBut.trans M14 (KeepBut.of_below hb g none) (.inl rfl)); have _ := zK (bT M75 hb); clear HI0 BK365 BK376 HK HB; rename_i HO388 HI0 BK365 BK376 HK HB; clear hb ho33; obtain ⟨Aoz0, coz0, eoz0⟩ := Kd.R_slice HO388.o; subst eoz0) | ((with_reducible refine gc (f := 145) rfl ?_); refine gL (some 21) Try.func145 #[.pointer (some ⟨g, 0, none⟩), .slice Aoz0 y386.length coz0] ?_; (with_reducible refine (spec_l1Int.calls g s0_0 t378 t379 _ _ y386 t389 t390 t391 w0 _ ?side1 ?side2 ?side3 ?side4 ?side5 A23.o).mono ?_); (case side1 => exact Q5); (case side2 => exact Q14); (case side3 => exact Kd.qC (Kd.R_reads' HO388.o).2.2); (case side4 => exact (Kd.R_reads' HO388.o).2.1); (case side5 => exact far_slice (IsS173.own_ne HI0.o HO388.o (by decide))); rintro e wz6 ⟨rfl, hi, hb, hk⟩; refine ⟨_, rfl, ?_⟩; have _ := zK (kB hk BK365.o NB365_0.o); have _ := zK (kB hk BK376.o NB376_0.o); have _ := zK (IsS173.rK (show IsS173 w0 _ g s0_0 t378 t379 from Q5) HO388.o hk); have _ := zK (KeepBut.trans M14 hk (.inl rfl)); have _ := zK (hb); have _ := zK (hi); clear BK365 BK376 HO388 HK HB HI0; rename_i BK365 BK376 HO388 HK HB HI0; clear hb hk hi; obtain ⟨hczz3_0, hczz3_1, hczz3_2, hczz3_3, hczz3_4, hfzz3_0, hfzz3_1, hfzz3_2, hfzz3_3, hfzz3_4⟩ := bx5 BK376.o; have hnbz4 := NB365_0.o; have hncz4 := NB0_365.o; obtain ⟨hczz5_0, hczz5_1, hczz5_2, hczz5_3, hczz5_4, hfzz5_0, hfzz5_1, hfzz5_2, hfzz5_3, hfzz5_4⟩ := bx5 BK365.o) | ((with_reducible refine gc (f := 146) rfl ?_); refine gL (some 32) Try.func146 #[.pointer (some ⟨g, 0, none⟩)] ?_; (with_reducible refine (spec_l4Raw.calls g s0_0 t378 t379 t398 t399 t400 w0 _ ?side1 ?side2 A57.o).mono ?_); (case side1 => exact Q5); (case side2 => exact Q14); rintro e wz5 ⟨rfl, hi, hb, hk⟩; refine ⟨_, rfl, ?_⟩; have _ := zK (kB hk BK365.o NB365_0.o); have _ := zK (kB hk BK376.o NB376_0.o); have _ := zK (KeepBut.trans M14 hk (.inl rfl)); have _ := zK (hb); have _ := zK (hi); clear BK365 BK376 HK HB HI0; rename_i BK365 BK376 HK HB HI0; clear hb hk hi; obtain ⟨hczz3_0, hczz3_1, hczz3_2, hczz3_3, hczz3_4, hfzz3_0, hfzz3_1, hfzz3_2, hfzz3_3, hfzz3_4⟩ := bx5 BK376.o; have hnbz4 := NB365_0.o; have hncz4 := NB0_365.o; obtain ⟨hczz5_0, hczz5_1, hczz5_2, hczz5_3, hczz5_4, hfzz5_0, hfzz5_1, hfzz5_2, hfzz5_3, hfzz5_4⟩ := bx5 BK365.o))
  first
    | refine bodyPost_ret (results_cell_row rfl _ _ gb365 111 #[.int .i64 t369, .int .i64 t370, .int .i64 t371, .int .i64 t372, .int .i64 t404] (0, 0) _ rfl (qP BK365.o) Try.underlying111 rfl (by kernel_rfl)) rfl ?_
      exact ⟨o0, Q5, Q14, Q13⟩
    | refine bodyPost_ret (results_cell_row rfl _ _ gb365 111 #[.int .i64 t383, .int .i64 t370, .int .i64 t371, .int .i64 t372, .int .i64 t373] (0, 0) _ rfl (qP BK365.o) Try.underlying111 rfl (by kernel_rfl)) rfl ?_
      exact ⟨o0, Q5, Q14, Q13⟩
    | refine bodyPost_ret (results_cell_row rfl _ _ gb365 111 #[.int .i64 t369, .int .i64 t370, .int .i64 t395, .int .i64 t372, .int .i64 t373] (0, 0) _ rfl (qP BK365.o) Try.underlying111 rfl (by kernel_rfl)) rfl ?_
      exact ⟨o0, Q5, Q14, Q13⟩
    | refine bodyPost_ret (results_cell_row rfl _ _ gb365 111 #[.int .i64 t369, .int .i64 t389, .int .i64 t371, .int .i64 t372, .int .i64 t373] (0, 0) _ rfl (qP BK365.o) Try.underlying111 rfl (by kernel_rfl)) rfl ?_
      exact ⟨o0, Q5, Q14, Q13⟩
    | refine bodyPost_ret (results_cell_row rfl _ _ gb365 111 #[.int .i64 t369, .int .i64 t370, .int .i64 t371, .int .i64 t398, .int .i64 t373] (0, 0) _ rfl (qP BK365.o) Try.underlying111 rfl (by kernel_rfl)) rfl ?_
      exact ⟨o0, Q5, Q14, Q13⟩) : p := h
theorem spec_l4Any.calls (g : Nat) (s0_0 : List Int) (s0_1 : Int) (s0_2 : Int) (r1 : Int) (r2 : Int) (r3 : Int) (r4 : Int) (r5 : Int) (r6 : Int) (r7 : Int) (w0 w : World) (hI : IsS173 w0 w g s0_0 s0_1 s0_2) (hB : Below w0.heap.size w0 w) (h : spec_l4Any.f s0_0 s0_1 s0_2 = some (r1, r2, r3, r4, r5, r6, r7)) :
  Calls Try.prog 168 #[.pointer (some ⟨g, 0, none⟩)] w fun e w' => e = .returned (.agg #[.int .i64 r1, .int .i64 r2, .int .i64 r3, .int .i64 r4, .int .i64 r5]) ∧ IsS173 w0 w' g s0_0 r6 r7 ∧ Below w0.heap.size w0 w' ∧ KeepBut w w' g none := by
 have hu111 := Try.underlying111
 have HI0 := zK hI
 have HK := zK (KeepBut.refl w g none)
 have HL := zK hB.size
 clear hI
 have HW0 := zK hB.size
 have HB := zK hB
 clear hB
 have H : ((spec_l1Below.f s0_0 s0_1 s0_2 40).bind fun bt366 => ((spec_l4Draw.f s0_0 bt366.2.1 bt366.2.2 (wrap64 (1 + bt366.1))).bind fun bt369 => ((spec_l1Below.f s0_0 bt369.2.2.2.2.2.1 bt369.2.2.2.2.2.2 14).bind fun bt377 => (if bt377.1 = 0 then ((spec_l1Int.f s0_0 bt377.2.1 bt377.2.2 (([0, 999, 1000] : List Int))).bind fun bt383 => (some (bt383.1, bt369.2.1, bt369.2.2.1, bt369.2.2.2.1, bt369.2.2.2.2.1, bt383.2.1, bt383.2.2))) else (if bt377.1 = 1 then ((spec_l1Int.f s0_0 bt377.2.1 bt377.2.2 (([0, 8, 9] : List Int))).bind fun bt389 => (some (bt369.1, bt389.1, bt369.2.2.1, bt369.2.2.2.1, bt369.2.2.2.2.1, bt389.2.1, bt389.2.2))) else (if bt377.1 = 2 then ((spec_l1Int.f s0_0 bt377.2.1 bt377.2.2 (([(-1), 7, 8] : List Int))).bind fun bt395 => (some (bt369.1, bt369.2.1, bt395.1, bt369.2.2.2.1, bt369.2.2.2.2.1, bt395.2.1, bt395.2.2))) else (if bt377.1 = 3 then ((spec_l4Raw.f s0_0 bt377.2.1 bt377.2.2).bind fun bt398 => (some (bt369.1, bt369.2.1, bt369.2.2.1, bt398.1, bt369.2.2.2.2.1, bt398.2.1, bt398.2.2))) else (if bt377.1 = 4 then ((spec_l1Int.f s0_0 bt377.2.1 bt377.2.2 (([(-1), 10000000, 10000001] : List Int))).bind fun bt404 => (some (bt369.1, bt369.2.1, bt369.2.2.1, bt369.2.2.2.1, bt404.1, bt404.2.1, bt404.2.2))) else (some (bt369.1, bt369.2.1, bt369.2.2.1, bt369.2.2.2.1, bt369.2.2.2.2.1, bt377.2.1, bt377.2.2)))))))))) = some (r1, r2, r3, r4, r5, r6, r7) := h
 clear h
 replace H := Option.bind_eq_some_iff.mp H
 obtain ⟨⟨t366, t367, t368⟩, A20, H⟩ := H
 try dsimp only at H
 have A2 := zK A20
 clear A20
 replace H := Option.bind_eq_some_iff.mp H
 obtain ⟨⟨t369, t370, t371, t372, t373, t374, t375⟩, A30, H⟩ := H
 try dsimp only at H
 have A3 := zK A30
 clear A30
 replace H := Option.bind_eq_some_iff.mp H
 obtain ⟨⟨t377, t378, t379⟩, A40, H⟩ := H
 try dsimp only at H
 have A4 := zK A40
 clear A40
 by_cases c5 : t377 = 0
 ·rw [if_pos c5] at H
  have c5b0 : (t377 == 0) = true := beq_iff_eq.mpr c5
  have c5b1 : (t377 != 0) = false := bne_eq_false_iff_eq.mpr c5
  clear c5
  obtain ⟨y380, hy380⟩ : ∃ y_ : List Int, y_ = (([0, 999, 1000] : List Int)) := ⟨_, rfl⟩
  replace H : ((spec_l1Int.f s0_0 t378 t379 y380).bind fun bt383 => (some (bt383.1, t370, t371, t372, t373, bt383.2.1, bt383.2.2))) = some (r1, r2, r3, r4, r5, r6, r7) := have he_ := hy380; rH
  have Ny380 := zK hy380
  clear hy380
  replace H := Option.bind_eq_some_iff.mp H
  obtain ⟨⟨t383, t384, t385⟩, A60, H⟩ := H
  try dsimp only at H
  have A6 := zK A60
  clear A60
  simp only [Option.some.injEq, Prod.mk.injEq] at H
  obtain ⟨rfl, rfl, rfl, rfl, rfl, rfl, rfl⟩ := H
  exact lf10_0
 rw [if_neg c5] at H
 have c5b0 : (t377 == 0) = false := beq_eq_false_iff_ne.mpr c5
 have c5b1 : (t377 != 0) = true := bne_iff_ne.mpr c5
 by_cases c22 : t377 = 1
 ·rw [if_pos c22] at H
  have c22b0 : (t377 == 1) = true := beq_iff_eq.mpr c22
  have c22b1 : (t377 != 1) = false := bne_eq_false_iff_eq.mpr c22
  clear c22
  obtain ⟨y386, hy386⟩ : ∃ y_ : List Int, y_ = (([0, 8, 9] : List Int)) := ⟨_, rfl⟩
  replace H : ((spec_l1Int.f s0_0 t378 t379 y386).bind fun bt389 => (some (t369, bt389.1, t371, t372, t373, bt389.2.1, bt389.2.2))) = some (r1, r2, r3, r4, r5, r6, r7) := have he_ := hy386; rH
  have Ny386 := zK hy386
  clear hy386
  replace H := Option.bind_eq_some_iff.mp H
  obtain ⟨⟨t389, t390, t391⟩, A230, H⟩ := H
  try dsimp only at H
  have A23 := zK A230
  clear A230
  simp only [Option.some.injEq, Prod.mk.injEq] at H
  obtain ⟨rfl, rfl, rfl, rfl, rfl, rfl, rfl⟩ := H
  exact lf10_0
 rw [if_neg c22] at H
 have c22b0 : (t377 == 1) = false := beq_eq_false_iff_ne.mpr c22
 have c22b1 : (t377 != 1) = true := bne_iff_ne.mpr c22
 by_cases c39 : t377 = 2
 ·rw [if_pos c39] at H
  have c39b0 : (t377 == 2) = true := beq_iff_eq.mpr c39
  have c39b1 : (t377 != 2) = false := bne_eq_false_iff_eq.mpr c39
  clear c39
  obtain ⟨y392, hy392⟩ : ∃ y_ : List Int, y_ = (([(-1), 7, 8] : List Int)) := ⟨_, rfl⟩
  replace H : ((spec_l1Int.f s0_0 t378 t379 y392).bind fun bt395 => (some (t369, t370, bt395.1, t372, t373, bt395.2.1, bt395.2.2))) = some (r1, r2, r3, r4, r5, r6, r7) := have he_ := hy392; rH
  have Ny392 := zK hy392
  clear hy392
  replace H := Option.bind_eq_some_iff.mp H
  obtain ⟨⟨t395, t396, t397⟩, A400, H⟩ := H
  try dsimp only at H
  have A40 := zK A400
  clear A400
  simp only [Option.some.injEq, Prod.mk.injEq] at H
  obtain ⟨rfl, rfl, rfl, rfl, rfl, rfl, rfl⟩ := H
  exact lf10_0
 rw [if_neg c39] at H
 have c39b0 : (t377 == 2) = false := beq_eq_false_iff_ne.mpr c39
 have c39b1 : (t377 != 2) = true := bne_iff_ne.mpr c39
 by_cases c56 : t377 = 3
 ·rw [if_pos c56] at H
  have c56b0 : (t377 == 3) = true := beq_iff_eq.mpr c56
  have c56b1 : (t377 != 3) = false := bne_eq_false_iff_eq.mpr c56
  clear c56
  replace H := Option.bind_eq_some_iff.mp H
  obtain ⟨⟨t398, t399, t400⟩, A570, H⟩ := H
  try dsimp only at H
  have A57 := zK A570
  clear A570
  simp only [Option.some.injEq, Prod.mk.injEq] at H
  obtain ⟨rfl, rfl, rfl, rfl, rfl, rfl, rfl⟩ := H
  exact lf10_0
 rw [if_neg c56] at H
 have c56b0 : (t377 == 3) = false := beq_eq_false_iff_ne.mpr c56
 have c56b1 : (t377 != 3) = true := bne_iff_ne.mpr c56
 by_cases c70 : t377 = 4
 rotate_left
 ·rw [if_neg c70] at H
  have c70b0 : (t377 == 4) = false := beq_eq_false_iff_ne.mpr c70
  have c70b1 : (t377 != 4) = true := bne_iff_ne.mpr c70
  simp only [Option.some.injEq, Prod.mk.injEq] at H
  obtain ⟨rfl, rfl, rfl, rfl, rfl, rfl, rfl⟩ := H
  go_enter Try.func168, Try.ntmps168
  go_wp2_with (first | ((with_reducible refine gd (N := 2) rfl ?_); refine bE (N := 2) (cs := #[.int .i64 0, .int .i64 0, .int .i64 0, .int .i64 0, .int .i64 0]) (t := 111) ?_; intro gb365 hg w87 hbox hb; have _ := zK (IsS173.below M7 hb); have _ := zK (KeepBut.trans M1 (KeepBut.of_below hb g none) (.inl rfl)); have _ := zK (bT M13 hb); have _ := zK (hbox); have _ := zK ((by rw [hg]; exact (keep_size (w := w) (g := g) (row := none) M1) : w.heap.size ≤ gb365)); have _ := zK ((Nat.le_trans HW0.o (by rw [hg]; exact (keep_size (w := w) (g := g) (row := none) M1) : w.heap.size ≤ gb365) : w0.heap.size ≤ gb365)); have _ := zK ((by rw [hg]; exact Nat.ne_of_lt (IsS173.lt (show IsS173 w0 _ g s0_0 s0_1 s0_2 from Q0)) : g ≠ gb365)); have _ := zK ((by rw [hg]; exact Nat.ne_of_gt (IsS173.lt (show IsS173 w0 _ g s0_0 s0_1 s0_2 from Q0)) : gb365 ≠ g)); clear HI0 HK HB; rename_i HI0 HK HB BK365 GW365 GE365 NB0_365 NB365_0; clear hb hbox hg) | ((with_reducible refine gc (f := 108) rfl ?_); refine gL (some 6) Try.func108 #[.pointer (some ⟨g, 0, none⟩), .int .i64 40] ?_; (with_reducible refine (spec_l1Below.calls g s0_0 s0_1 s0_2 40 t366 t367 t368 w0 _ ?side1 ?side2 A2.o).mono ?_); (case side1 => exact Q18); (case side2 => exact M66); rintro e w88 ⟨rfl, hi, hb, hk⟩; refine ⟨_, rfl, ?_⟩; have _ := zK (kB hk BK365.o NB365_0.o); have _ := zK (KeepBut.trans M10 hk (.inl rfl)); have _ := zK (hb); have _ := zK (hi); clear BK365 HK HB HI0; rename_i BK365 HK HB HI0; clear hb hk hi) | ((with_reducible refine gc (f := 193) rfl ?_); refine gL (some 8) Try.func193 #[.pointer (some ⟨g, 0, none⟩), .int .i64 (wrap64 (1 + t366))] ?_; (with_reducible refine (spec_l4Draw.calls g s0_0 t367 t368 (wrap64 (1 + t366)) t369 t370 t371 t372 t373 t374 t375 w0 _ ?side1 ?side2 A3.o).mono ?_); (case side1 => exact Q18); (case side2 => exact M66); rintro e w89 ⟨rfl, hi, hb, hk⟩; refine ⟨_, rfl, ?_⟩; have _ := zK (kB hk BK365.o NB365_0.o); have _ := zK (KeepBut.trans M10 hk (.inl rfl)); have _ := zK (hb); have _ := zK (hi); clear BK365 HK HB HI0; rename_i BK365 HK HB HI0; clear hb hk hi) | ((with_reducible refine gd (N := 3) rfl ?_); refine bE (N := 3) (cs := #[.int .i64 0, .int .i64 0, .int .i64 0, .int .i64 0, .int .i64 0]) (t := 111) ?_; intro gb376 hg w90 hbox hb; have _ := zK (IsS173.below M60 hb); have _ := zK (bB (qK BK365.o) hb); have _ := zK (KeepBut.trans M10 (KeepBut.of_below hb g none) (.inl rfl)); have _ := zK (bT M66 hb); have _ := zK (hbox); have _ := zK ((by rw [hg]; exact (keep_size (w := w) (g := g) (row := none) M10) : w.heap.size ≤ gb376)); have _ := zK ((Nat.le_trans HW0.o (by rw [hg]; exact (keep_size (w := w) (g := g) (row := none) M10) : w.heap.size ≤ gb376) : w0.heap.size ≤ gb376)); have _ := zK ((by rw [hg]; exact Nat.ne_of_lt (blk_lt (qK BK365.o)) : gb365 ≠ gb376)); have _ := zK ((by rw [hg]; exact Nat.ne_of_gt (blk_lt (qK BK365.o)) : gb376 ≠ gb365)); have _ := zK ((by rw [hg]; exact Nat.ne_of_lt (IsS173.lt (show IsS173 w0 _ g s0_0 t374 t375 from Q18)) : g ≠ gb376)); have _ := zK ((by rw [hg]; exact Nat.ne_of_gt (IsS173.lt (show IsS173 w0 _ g s0_0 t374 t375 from Q18)) : gb376 ≠ g)); clear HI0 BK365 HK HB; rename_i HI0 BK365 HK HB BK376 GW376 GE376 NB365_376 NB376_365 NB0_376 NB376_0; clear hb hbox hg; have hnb91 := NB376_365.o; have hnc91 := NB365_376.o; have hnb92 := NB376_0.o; have hnc92 := NB0_376.o; obtain ⟨hcz93_0, hcz93_1, hcz93_2, hcz93_3, hcz93_4, hfz93_0, hfz93_1, hfz93_2, hfz93_3, hfz93_4⟩ := bx5 BK376.o) | ((with_reducible refine gc (f := 108) rfl ?_); refine gL (some 10) Try.func108 #[.pointer (some ⟨g, 0, none⟩), .int .i64 14] ?_; (with_reducible refine (spec_l1Below.calls g s0_0 t374 t375 14 t377 t378 t379 w0 _ ?side1 ?side2 A4.o).mono ?_); (case side1 => exact Q5); (case side2 => exact Q14); rintro e w94 ⟨rfl, hi, hb, hk⟩; refine ⟨_, rfl, ?_⟩; have _ := zK (KeepBut.blk hk (g' := gb365) (o := .cells #[.int .i64 0, .int .i64 0, .int .i64 0, .int .i64 0, .int .i64 0] 111 (0, 0)) (qP BK365.o) NB365_0.o (by simp)); have _ := zK (KeepBut.blk hk (g' := gb376) (o := .cells #[.int .i64 t369, .int .i64 t370, .int .i64 t371, .int .i64 t372, .int .i64 t373] 111 (0, 0)) (qP BK376.o) NB376_0.o (by simp)); have _ := zK (KeepBut.trans M14 hk (.inl rfl)); have _ := zK (hb); have _ := zK (hi); clear BK365 BK376 HK HB HI0; rename_i BK365 BK376 HK HB HI0; clear hb hk hi; obtain ⟨hcz95_0, hcz95_1, hcz95_2, hcz95_3, hcz95_4, hfz95_0, hfz95_1, hfz95_2, hfz95_3, hfz95_4⟩ := bx5 BK376.o; have hnb96 := NB365_0.o; have hnc96 := NB0_365.o; obtain ⟨hcz97_0, hcz97_1, hcz97_2, hcz97_3, hcz97_4, hfz97_0, hfz97_1, hfz97_2, hfz97_3, hfz97_4⟩ := bx5 BK365.o))
  refine bodyPost_ret (results_cell_row rfl _ _ gb365 111 #[.int .i64 t369, .int .i64 t370, .int .i64 t371, .int .i64 t372, .int .i64 t373] (0, 0) _ rfl (qP BK365.o) Try.underlying111 rfl (by kernel_rfl)) rfl ?_
  exact ⟨o0, Q5, Q14, Q13⟩
 rw [if_pos c70] at H
 have c70b0 : (t377 == 4) = true := beq_iff_eq.mpr c70
 have c70b1 : (t377 != 4) = false := bne_eq_false_iff_eq.mpr c70
 clear c70
 obtain ⟨y401, hy401⟩ : ∃ y_ : List Int, y_ = (([(-1), 10000000, 10000001] : List Int)) := ⟨_, rfl⟩
 replace H : ((spec_l1Int.f s0_0 t378 t379 y401).bind fun bt404 => (some (t369, t370, t371, t372, bt404.1, bt404.2.1, bt404.2.2))) = some (r1, r2, r3, r4, r5, r6, r7) := have he_ := hy401; rH
 have Ny401 := zK hy401
 clear hy401
 replace H := Option.bind_eq_some_iff.mp H
 obtain ⟨⟨t404, t405, t406⟩, A710, H⟩ := H
 try dsimp only at H
 have A71 := zK A710
 clear A710
 simp only [Option.some.injEq, Prod.mk.injEq] at H
 obtain ⟨rfl, rfl, rfl, rfl, rfl, rfl, rfl⟩ := H
 exact lf10_0
/-! ### spec_l6Any: function 127 -/
def spec_l6Any.f (k : Nat) (s0_0 : List Int) (s0_1 : Int) (s0_2 : Int) : Option ((List (S113)) × Int × Int) := (spec_l6List.f k s0_0 s0_1 s0_2).bind fun bt407 => (if (bt407.1.length : Int) = 0 then (some (bt407.1, bt407.2.1, bt407.2.2)) else ((spec_l1Below.f s0_0 bt407.2.1 bt407.2.2 (bt407.1.length : Int)).bind fun bt412 => ((spec_l1Below.f s0_0 bt412.2.1 bt412.2.2 12).bind fun bt415 => (if bt415.1 = 0 then ((spec_l4Any.f s0_0 bt415.2.1 bt415.2.2).bind fun bt418 => (if 0 ≤ bt412.1 then (if bt412.1 < (bt407.1.length : Int) then (some ((bt407.1.set (bt412.1 : Int).toNat (⟨(⟨bt418.1, bt418.2.1, bt418.2.2.1, bt418.2.2.2.1, bt418.2.2.2.2.1⟩ : S111), (rd_T113 bt407.1 bt412.1).f1, (rd_T113 bt407.1 bt412.1).f2, (rd_T113 bt407.1 bt412.1).f3⟩ : S113)), bt418.2.2.2.2.2.1, bt418.2.2.2.2.2.2)) else (none)) else (none))) else (if bt415.1 = 1 then ((spec_l1Int.f s0_0 bt415.2.1 bt415.2.2 (([0, 30, 31] : List Int))).bind fun bt429 => (if 0 ≤ bt412.1 then (if bt412.1 < (bt407.1.length : Int) then (some ((bt407.1.set (bt412.1 : Int).toNat (⟨(⟨(rd_T113 bt407.1 bt412.1).f0.f0, (rd_T113 bt407.1 bt412.1).f0.f1, (rd_T113 bt407.1 bt412.1).f0.f2, (rd_T113 bt407.1 bt412.1).f0.f3, (rd_T113 bt407.1 bt412.1).f0.f4⟩ : S111), bt429.1, (rd_T113 bt407.1 bt412.1).f2, (rd_T113 bt407.1 bt412.1).f3⟩ : S113)), bt429.2.1, bt429.2.2)) else (none)) else (none))) else (if bt415.1 = 2 then ((spec_l4Raw.f s0_0 bt415.2.1 bt415.2.2).bind fun bt433 => (if 0 ≤ bt412.1 then (if bt412.1 < (bt407.1.length : Int) then (some ((bt407.1.set (bt412.1 : Int).toNat (⟨(⟨(rd_T113 bt407.1 bt412.1).f0.f0, (rd_T113 bt407.1 bt412.1).f0.f1, (rd_T113 bt407.1 bt412.1).f0.f2, (rd_T113 bt407.1 bt412.1).f0.f3, (rd_T113 bt407.1 bt412.1).f0.f4⟩ : S111), (rd_T113 bt407.1 bt412.1).f1, bt433.1, (rd_T113 bt407.1 bt412.1).f3⟩ : S113)), bt433.2.1, bt433.2.2)) else (none)) else (none))) else (if bt415.1 = 3 then ((spec_l1Int.f s0_0 bt415.2.1 bt415.2.2 (([(-1), 999, 1000] : List Int))).bind fun bt440 => (if 0 ≤ bt412.1 then (if bt412.1 < (bt407.1.length : Int) then (some ((bt407.1.set (bt412.1 : Int).toNat (⟨(⟨(rd_T113 bt407.1 bt412.1).f0.f0, (rd_T113 bt407.1 bt412.1).f0.f1, (rd_T113 bt407.1 bt412.1).f0.f2, (rd_T113 bt407.1 bt412.1).f0.f3, (rd_T113 bt407.1 bt412.1).f0.f4⟩ : S111), (rd_T113 bt407.1 bt412.1).f1, (rd_T113 bt407.1 bt412.1).f2, bt440.1⟩ : S113)), bt440.2.1, bt440.2.2)) else (none)) else (none))) else (some (bt407.1, bt415.2.1, bt415.2.2)))))))))
theorem lf10_1 {p : Prop} (h : p := by
  go_enter Try.func127, Try.ntmps127
  go_wp2_with (first | ((with_reducible refine gc (f := 133) rfl ?_); refine gL (some 6) Try.func133 #[.pointer (some ⟨g, 0, none⟩)] ?_; (with_reducible refine (spec_l6List.calls k g s0_0 s0_1 s0_2 t407 t410 t411 w0 _ ?side1 ?side2 A2.o).mono ?_); (case side1 => exact Q0); (case side2 => exact Q10); rintro e wz0 ⟨v408, rfl, ho0, hi, hb, hk⟩; refine ⟨_, rfl, ?_⟩; have _ := zK (Kd.R_lower ho0 (keep_size (w := w) (g := g) (row := none) M1)); have _ := zK (KeepBut.trans M1 hk (.inl rfl)); have _ := zK (hb); have _ := zK (hi); clear HK HB HI0; rename_i HO409 HK HB HI0; clear hb hk hi ho0; obtain ⟨Aoz0, coz0, eoz0⟩ := Kd.R_slice HO409.o; subst eoz0) | ((with_reducible refine gc (f := 108) rfl ?_); refine gL (some 14) Try.func108 #[.pointer (some ⟨g, 0, none⟩), .int .i64 (t407.length : Int)] ?_; (with_reducible refine (spec_l1Below.calls g s0_0 t410 t411 (t407.length : Int) t412 t413 t414 w0 _ ?side1 ?side2 A6.o).mono ?_); (case side1 => exact Q0); (case side2 => exact Q10); rintro e wz1 ⟨rfl, hi, hb, hk⟩; refine ⟨_, rfl, ?_⟩; have _ := zK (IsS173.rK (show IsS173 w0 _ g s0_0 t410 t411 from Q0) HO409.o hk); have _ := zK (KeepBut.trans M1 hk (.inl rfl)); have _ := zK (hb); have _ := zK (hi); clear HO409 HK HB HI0; rename_i HO409 HK HB HI0; clear hb hk hi) | ((with_reducible refine gc (f := 108) rfl ?_); refine gL (some 16) Try.func108 #[.pointer (some ⟨g, 0, none⟩), .int .i64 12] ?_; (with_reducible refine (spec_l1Below.calls g s0_0 t413 t414 12 t415 t416 t417 w0 _ ?side1 ?side2 A7.o).mono ?_); (case side1 => exact Q0); (case side2 => exact Q10); rintro e wz2 ⟨rfl, hi, hb, hk⟩; refine ⟨_, rfl, ?_⟩; have _ := zK (IsS173.rK (show IsS173 w0 _ g s0_0 t413 t414 from Q0) HO409.o hk); have _ := zK (KeepBut.trans M1 hk (.inl rfl)); have _ := zK (hb); have _ := zK (hi); clear HO409 HK HB HI0; rename_i HO409 HK HB HI0; clear hb hk hi) | ((with_reducible refine gd (N := 47) rfl ?_); refine Kd.R_lit (Kd.int .i64) _ 3 ?hg (N := 47) ?hd (xs := ([(-1), 999, 1000] : List Int)) (inner := [.int .i64 (-1), .int .i64 999, .int .i64 1000]) (ok := fun _ => True) (okp := fun _ => True) ?hr ?hp (fun _ hk => hk) trivial (Below.refl _ _) (Nat.le_refl _) (by simp) ?_; (case hd => rfl); (case hg => rfl); (case hr => first | (go_simp; done) | (go_simp; rfl)); (case hp => exact (Reps.one (show Kd.M (Kd.int .i64) _ _ _ (-1) [.int .i64 (-1)] from rfl) (Reps.one (show Kd.M (Kd.int .i64) _ _ _ 999 [.int .i64 999] from rfl) (Reps.one (show Kd.M (Kd.int .i64) _ _ _ 1000 [.int .i64 1000] from rfl) (Reps.none _ _))))); intro v438 wz3 ho57 hb hg_ hnew_; clear hg_ hnew_; (first | rw [← Ny437.o] at ho57 | (simp only [Int.reduceToNat] at ho57; rw [← Ny437.o] at ho57)); have _ := zK (Kd.R_below (Kd.qR HO409.o) hb); have _ := zK (Kd.R_lower ho57 (keep_size (w := w) (g := g) (row := none) M1)); have _ := zK (IsS173.below M7 hb); have _ := zK (KeepBut.trans M1 (KeepBut.of_below hb g none) (.inl rfl)); have _ := zK (bT M13 hb); clear HO409 HI0 HK HB; rename_i HO409 HO439 HI0 HK HB; clear hb ho57; obtain ⟨Aoz1, coz1, eoz1⟩ := Kd.R_slice HO439.o; subst eoz1) | ((with_reducible refine gc (f := 145) rfl ?_); refine gL (some 48) Try.func145 #[.pointer (some ⟨g, 0, none⟩), .slice Aoz1 y437.length coz1] ?_; (with_reducible refine (spec_l1Int.calls g s0_0 t416 t417 _ _ y437 t440 t441 t442 w0 _ ?side1 ?side2 ?side3 ?side4 ?side5 A48.o).mono ?_); (case side1 => exact Q0); (case side2 => exact Q10); (case side3 => exact Kd.qC (Kd.R_reads' HO439.o).2.2); (case side4 => exact (Kd.R_reads' HO439.o).2.1); (case side5 => exact far_slice (IsS173.own_ne HI0.o HO439.o (by decide))); rintro e wz4 ⟨rfl, hi, hb, hk⟩; refine ⟨_, rfl, ?_⟩; have _ := zK (IsS173.rK (show IsS173 w0 _ g s0_0 t416 t417 from Q0) HO409.o hk); have _ := zK (IsS173.rK (show IsS173 w0 _ g s0_0 t416 t417 from Q0) HO439.o hk); have _ := zK (KeepBut.trans M1 hk (.inl rfl)); have _ := zK (hb); have _ := zK (hi); clear HO409 HO439 HK HB HI0; rename_i HO409 HO439 HK HB HI0; clear hb hk hi; have p51 : 0 ≤ (t412 : Int) := oD M4; have q51 : (t412 : Int) < ((t407.length : Int) : Int) := oD M4; obtain ⟨goz0, coz2, eoz2, gb51, glz0, clz0, HGz0⟩ := Kd.R_form HO409.o (by omega); (first | cases eoz2 | (injection eoz2 with ea_ en_ ec_; (first | subst ea_ | (injection ea_ with ea_; subst ea_)); subst ec_; clear en_)); have GBz0 := zK gb51; have GGz0 := zK HGz0; clear gb51 glz0 HGz0; obtain ⟨cez0, hclz0, hMz0, hccz0, hfrz0⟩ := Kd.R_elem HO409.o z113 (t412 : Int) p51 q51; obtain rfl := k113_openM hMz0; have hxz0_0 : wz4.cell? ⟨goz0, (t412 : Int).toNat * 8, none⟩ = some (.int .i64 ((rd_T113 t407 t412).f0.f0)) := hccz0 0 _ rfl; have hxz0_1 : wz4.cell? ⟨goz0, (t412 : Int).toNat * 8 + 1, none⟩ = some (.int .i64 ((rd_T113 t407 t412).f0.f1)) := hccz0 1 _ rfl; have hxz0_2 : wz4.cell? ⟨goz0, (t412 : Int).toNat * 8 + 2, none⟩ = some (.int .i64 ((rd_T113 t407 t412).f0.f2)) := hccz0 2 _ rfl; have hxz0_3 : wz4.cell? ⟨goz0, (t412 : Int).toNat * 8 + 3, none⟩ = some (.int .i64 ((rd_T113 t407 t412).f0.f3)) := hccz0 3 _ rfl; have hxz0_4 : wz4.cell? ⟨goz0, (t412 : Int).toNat * 8 + 4, none⟩ = some (.int .i64 ((rd_T113 t407 t412).f0.f4)) := hccz0 4 _ rfl; have hxz0_5 : wz4.cell? ⟨goz0, (t412 : Int).toNat * 8 + 5, none⟩ = some (.int .i64 ((rd_T113 t407 t412).f1)) := hccz0 5 _ rfl; have hxz0_6 : wz4.cell? ⟨goz0, (t412 : Int).toNat * 8 + 6, none⟩ = some (.int .i64 ((rd_T113 t407 t412).f2)) := hccz0 6 _ rfl; have hxz0_7 : wz4.cell? ⟨goz0, (t412 : Int).toNat * 8 + 7, none⟩ = some (.int .i64 ((rd_T113 t407 t412).f3)) := hccz0 7 _ rfl; have hfz0_0 : wz4.frozen? ⟨goz0, (t412 : Int).toNat * 8, none⟩ = false := hfrz0 0; have hfz0_1 : wz4.frozen? ⟨goz0, (t412 : Int).toNat * 8 + 1, none⟩ = false := hfrz0 1; have hfz0_2 : wz4.frozen? ⟨goz0, (t412 : Int).toNat * 8 + 2, none⟩ = false := hfrz0 2; have hfz0_3 : wz4.frozen? ⟨goz0, (t412 : Int).toNat * 8 + 3, none⟩ = false := hfrz0 3; have hfz0_4 : wz4.frozen? ⟨goz0, (t412 : Int).toNat * 8 + 4, none⟩ = false := hfrz0 4; have hfz0_5 : wz4.frozen? ⟨goz0, (t412 : Int).toNat * 8 + 5, none⟩ = false := hfrz0 5; have hfz0_6 : wz4.frozen? ⟨goz0, (t412 : Int).toNat * 8 + 6, none⟩ = false := hfrz0 6; have hfz0_7 : wz4.frozen? ⟨goz0, (t412 : Int).toNat * 8 + 7, none⟩ = false := hfrz0 7; clear hclz0 hccz0 hfrz0 hMz0; replace p51 := eq_true p51; replace q51 := eq_true q51; have HXz0 := zK (show Kd.R k113 113 wz4 w.heap.size (fun _ => True) (.slice (some ⟨goz0, 0, none⟩) t407.length coz0) t407 from (Kd.qR HO409.o)); obtain ⟨cez1, hclz1, hMz1, hccz1, hfrz1⟩ := Kd.R_elem HXz0.o z113 (t412 : Int) (oD M4) (by have h_ : (t412 : Int) < ((t407.length : Int) : Int) := oD M4; first | exact h_ | (have e_ := (Kd.R_reads' HO409.o).1; omega) | simpa using h_); obtain rfl := k113_openM hMz1; have HPz0 := Kd.R_seg HXz0.o (t412 : Int) (oD M4) (by have h_ : (t412 : Int) < ((t407.length : Int) : Int) := oD M4; first | exact h_ | (have e_ := (Kd.R_reads' HO409.o).1; omega) | simpa using h_) (seg := [.int .i64 t440]) (j := 7) hclz1 hccz1 (show 8 ≤ 8 from by decide) (x' := (⟨(⟨(rd_T113 t407 t412).f0.f0, (rd_T113 t407 t412).f0.f1, (rd_T113 t407 t412).f0.f2, (rd_T113 t407 t412).f0.f3, (rd_T113 t407 t412).f0.f4⟩ : S111), (rd_T113 t407 t412).f1, (rd_T113 t407 t412).f2, t440⟩ : S113)) (k113_mkM _ _ _ (⟨(⟨(rd_T113 t407 t412).f0.f0, (rd_T113 t407 t412).f0.f1, (rd_T113 t407 t412).f0.f2, (rd_T113 t407 t412).f0.f3, (rd_T113 t407 t412).f0.f4⟩ : S111), (rd_T113 t407 t412).f1, (rd_T113 t407 t412).f2, t440⟩ : S113) ) (fun _ hk => hk); have hxz1_7 := hccz1 7 _ rfl; (try simp only [show (k113).sz = 8 from rfl, Nat.mul_one, Nat.add_zero] at hxz1_7); have hfz1_7 := hfrz1 7; (try simp only [show (k113).sz = 8 from rfl, Nat.mul_one, Nat.add_zero] at hfz1_7); clear hclz1 hccz1 hfrz1 hMz1) | ((with_reducible refine gate_store (t := 3) (p := 50) rfl ?_); refine store_event (t := 3) (p := 50) (v := ?vo_p50) (w1 := (wz4.setCell ⟨goz0, (t412 : Int).toNat * 8 + 7, none⟩ (.int .i64 t440))) ?hg ?ho ?hn ?hr ?_; (case ho => rfl); (case hg => rfl); (case hn => rfl); (case hr => first | (go_simp; done) | (go_simp; rfl)); intro wz5 hw; have hg : wz4.grownBy wz5 (some goz0) := (by rw [hw]; exact HPz0.2); have hp_ : Kd.R k113 113 wz5 w.heap.size (fun _ => True) (.slice (some ⟨goz0, 0, none⟩) t407.length coz0) y443 := (by rw [hw, Ny443.o]; exact HPz0.1); clear HPz0; have _ := zK (IsS173.grown M7 hg (IsS173.own_ne HI0.o HO409.o (by decide))); have _ := zK (hp_); have _ := zK (Kd.R_over' (v := (.slice (some ⟨goz0, 0, none⟩) t407.length coz0)) (Kd.qR HO439.o) (Kd.R_typed HO409.o) (by decide) hg); have _ := zK ((by rw [hw]; exact bS (HB.o) (Nat.le_trans HL.o GBz0.o) : Below w0.heap.size w0 wz5)); have _ := zK (KeepBut.trans M1 (KeepBut.of_grown hg g) (Kd.R_base2 HO409.o)); clear HI0 HO409 HO439 HB HK; rename_i HI0 HO409 HO439 HB HK; clear hg hw hp_) | ((with_reducible refine gd (N := 30) rfl ?_); refine Kd.R_lit (Kd.int .i64) _ 3 ?hg (N := 30) ?hd (xs := ([0, 30, 31] : List Int)) (inner := [.int .i64 0, .int .i64 30, .int .i64 31]) (ok := fun _ => True) (okp := fun _ => True) ?hr ?hp (fun _ hk => hk) trivial (Below.refl _ _) (Nat.le_refl _) (by simp) ?_; (case hd => rfl); (case hg => rfl); (case hr => first | (go_simp; done) | (go_simp; rfl)); (case hp => exact (Reps.one (show Kd.M (Kd.int .i64) _ _ _ 0 [.int .i64 0] from rfl) (Reps.one (show Kd.M (Kd.int .i64) _ _ _ 30 [.int .i64 30] from rfl) (Reps.one (show Kd.M (Kd.int .i64) _ _ _ 31 [.int .i64 31] from rfl) (Reps.none _ _))))); intro v427 wz3 ho30 hb hg_ hnew_; clear hg_ hnew_; (first | rw [← Ny426.o] at ho30 | (simp only [Int.reduceToNat] at ho30; rw [← Ny426.o] at ho30)); have _ := zK (Kd.R_below (Kd.qR HO409.o) hb); have _ := zK (Kd.R_lower ho30 (keep_size (w := w) (g := g) (row := none) M1)); have _ := zK (IsS173.below M7 hb); have _ := zK (KeepBut.trans M1 (KeepBut.of_below hb g none) (.inl rfl)); have _ := zK (bT M13 hb); clear HO409 HI0 HK HB; rename_i HO409 HO428 HI0 HK HB; clear hb ho30; obtain ⟨Aoz1, coz1, eoz1⟩ := Kd.R_slice HO428.o; subst eoz1) | ((with_reducible refine gc (f := 145) rfl ?_); refine gL (some 31) Try.func145 #[.pointer (some ⟨g, 0, none⟩), .slice Aoz1 y426.length coz1] ?_; (with_reducible refine (spec_l1Int.calls g s0_0 t416 t417 _ _ y426 t429 t430 t431 w0 _ ?side1 ?side2 ?side3 ?side4 ?side5 A21.o).mono ?_); (case side1 => exact Q0); (case side2 => exact Q10); (case side3 => exact Kd.qC (Kd.R_reads' HO428.o).2.2); (case side4 => exact (Kd.R_reads' HO428.o).2.1); (case side5 => exact far_slice (IsS173.own_ne HI0.o HO428.o (by decide))); rintro e wz4 ⟨rfl, hi, hb, hk⟩; refine ⟨_, rfl, ?_⟩; have _ := zK (IsS173.rK (show IsS173 w0 _ g s0_0 t416 t417 from Q0) HO409.o hk); have _ := zK (IsS173.rK (show IsS173 w0 _ g s0_0 t416 t417 from Q0) HO428.o hk); have _ := zK (KeepBut.trans M1 hk (.inl rfl)); have _ := zK (hb); have _ := zK (hi); clear HO409 HO428 HK HB HI0; rename_i HO409 HO428 HK HB HI0; clear hb hk hi; have p24 : 0 ≤ (t412 : Int) := oD M4; have q24 : (t412 : Int) < ((t407.length : Int) : Int) := oD M4; obtain ⟨goz0, coz2, eoz2, gb24, glz0, clz0, HGz0⟩ := Kd.R_form HO409.o (by omega); (first | cases eoz2 | (injection eoz2 with ea_ en_ ec_; (first | subst ea_ | (injection ea_ with ea_; subst ea_)); subst ec_; clear en_)); have GBz0 := zK gb24; have GGz0 := zK HGz0; clear gb24 glz0 HGz0; obtain ⟨cez0, hclz0, hMz0, hccz0, hfrz0⟩ := Kd.R_elem HO409.o z113 (t412 : Int) p24 q24; obtain rfl := k113_openM hMz0; have hxz0_0 : wz4.cell? ⟨goz0, (t412 : Int).toNat * 8, none⟩ = some (.int .i64 ((rd_T113 t407 t412).f0.f0)) := hccz0 0 _ rfl; have hxz0_1 : wz4.cell? ⟨goz0, (t412 : Int).toNat * 8 + 1, none⟩ = some (.int .i64 ((rd_T113 t407 t412).f0.f1)) := hccz0 1 _ rfl; have hxz0_2 : wz4.cell? ⟨goz0, (t412 : Int).toNat * 8 + 2, none⟩ = some (.int .i64 ((rd_T113 t407 t412).f0.f2)) := hccz0 2 _ rfl; have hxz0_3 : wz4.cell? ⟨goz0, (t412 : Int).toNat * 8 + 3, none⟩ = some (.int .i64 ((rd_T113 t407 t412).f0.f3)) := hccz0 3 _ rfl; have hxz0_4 : wz4.cell? ⟨goz0, (t412 : Int).toNat * 8 + 4, none⟩ = some (.int .i64 ((rd_T113 t407 t412).f0.f4)) := hccz0 4 _ rfl; have hxz0_5 : wz4.cell? ⟨goz0, (t412 : Int).toNat * 8 + 5, none⟩ = some (.int .i64 ((rd_T113 t407 t412).f1)) := hccz0 5 _ rfl; have hxz0_6 : wz4.cell? ⟨goz0, (t412 : Int).toNat * 8 + 6, none⟩ = some (.int .i64 ((rd_T113 t407 t412).f2)) := hccz0 6 _ rfl; have hxz0_7 : wz4.cell? ⟨goz0, (t412 : Int).toNat * 8 + 7, none⟩ = some (.int .i64 ((rd_T113 t407 t412).f3)) := hccz0 7 _ rfl; have hfz0_0 : wz4.frozen? ⟨goz0, (t412 : Int).toNat * 8, none⟩ = false := hfrz0 0; have hfz0_1 : wz4.frozen? ⟨goz0, (t412 : Int).toNat * 8 + 1, none⟩ = false := hfrz0 1; have hfz0_2 : wz4.frozen? ⟨goz0, (t412 : Int).toNat * 8 + 2, none⟩ = false := hfrz0 2; have hfz0_3 : wz4.frozen? ⟨goz0, (t412 : Int).toNat * 8 + 3, none⟩ = false := hfrz0 3; have hfz0_4 : wz4.frozen? ⟨goz0, (t412 : Int).toNat * 8 + 4, none⟩ = false := hfrz0 4; have hfz0_5 : wz4.frozen? ⟨goz0, (t412 : Int).toNat * 8 + 5, none⟩ = false := hfrz0 5; have hfz0_6 : wz4.frozen? ⟨goz0, (t412 : Int).toNat * 8 + 6, none⟩ = false := hfrz0 6; have hfz0_7 : wz4.frozen? ⟨goz0, (t412 : Int).toNat * 8 + 7, none⟩ = false := hfrz0 7; clear hclz0 hccz0 hfrz0 hMz0; replace p24 := eq_true p24; replace q24 := eq_true q24; have HXz0 := zK (show Kd.R k113 113 wz4 w.heap.size (fun _ => True) (.slice (some ⟨goz0, 0, none⟩) t407.length coz0) t407 from (Kd.qR HO409.o)); obtain ⟨cez1, hclz1, hMz1, hccz1, hfrz1⟩ := Kd.R_elem HXz0.o z113 (t412 : Int) (oD M4) (by have h_ : (t412 : Int) < ((t407.length : Int) : Int) := oD M4; first | exact h_ | (have e_ := (Kd.R_reads' HO409.o).1; omega) | simpa using h_); obtain rfl := k113_openM hMz1; have HPz0 := Kd.R_seg HXz0.o (t412 : Int) (oD M4) (by have h_ : (t412 : Int) < ((t407.length : Int) : Int) := oD M4; first | exact h_ | (have e_ := (Kd.R_reads' HO409.o).1; omega) | simpa using h_) (seg := [.int .i64 t429]) (j := 5) hclz1 hccz1 (show 6 ≤ 8 from by decide) (x' := (⟨(⟨(rd_T113 t407 t412).f0.f0, (rd_T113 t407 t412).f0.f1, (rd_T113 t407 t412).f0.f2, (rd_T113 t407 t412).f0.f3, (rd_T113 t407 t412).f0.f4⟩ : S111), t429, (rd_T113 t407 t412).f2, (rd_T113 t407 t412).f3⟩ : S113)) (k113_mkM _ _ _ (⟨(⟨(rd_T113 t407 t412).f0.f0, (rd_T113 t407 t412).f0.f1, (rd_T113 t407 t412).f0.f2, (rd_T113 t407 t412).f0.f3, (rd_T113 t407 t412).f0.f4⟩ : S111), t429, (rd_T113 t407 t412).f2, (rd_T113 t407 t412).f3⟩ : S113) ) (fun _ hk => hk); have hxz1_5 := hccz1 5 _ rfl; (try simp only [show (k113).sz = 8 from rfl, Nat.mul_one, Nat.add_zero] at hxz1_5); have hfz1_5 := hfrz1 5; (try simp only [show (k113).sz = 8 from rfl, Nat.mul_one, Nat.add_zero] at hfz1_5); clear hclz1 hccz1 hfrz1 hMz1) | ((with_reducible refine gate_store (t := 3) (p := 33) rfl ?_); refine store_event (t := 3) (p := 33) (v := ?vo_p33) (w1 := (wz4.setCell ⟨goz0, (t412 : Int).toNat * 8 + 5, none⟩ (.int .i64 t429))) ?hg ?ho ?hn ?hr ?_; (case ho => rfl); (case hg => rfl); (case hn => rfl); (case hr => first | (go_simp; done) | (go_simp; rfl)); intro wz5 hw; have hg : wz4.grownBy wz5 (some goz0) := (by rw [hw]; exact HPz0.2); have hp_ : Kd.R k113 113 wz5 w.heap.size (fun _ => True) (.slice (some ⟨goz0, 0, none⟩) t407.length coz0) y432 := (by rw [hw, Ny432.o]; exact HPz0.1); clear HPz0; have _ := zK (IsS173.grown M7 hg (IsS173.own_ne HI0.o HO409.o (by decide))); have _ := zK (hp_); have _ := zK (Kd.R_over' (v := (.slice (some ⟨goz0, 0, none⟩) t407.length coz0)) (Kd.qR HO428.o) (Kd.R_typed HO409.o) (by decide) hg); have _ := zK ((by rw [hw]; exact bS (HB.o) (Nat.le_trans HL.o GBz0.o) : Below w0.heap.size w0 wz5)); have _ := zK (KeepBut.trans M1 (KeepBut.of_grown hg g) (Kd.R_base2 HO409.o)); clear HI0 HO409 HO428 HB HK; rename_i HI0 HO409 HO428 HB HK; clear hg hw hp_) | ((with_reducible refine gc (f := 168) rfl ?_); refine gL (some 22) Try.func168 #[.pointer (some ⟨g, 0, none⟩)] ?_; (with_reducible refine (spec_l4Any.calls g s0_0 t416 t417 t418 t419 t420 t421 t422 t423 t424 w0 _ ?side1 ?side2 A9.o).mono ?_); (case side1 => exact Q0); (case side2 => exact Q10); rintro e wz3 ⟨rfl, hi, hb, hk⟩; refine ⟨_, rfl, ?_⟩; have _ := zK (IsS173.rK (show IsS173 w0 _ g s0_0 t416 t417 from Q0) HO409.o hk); have _ := zK (KeepBut.trans M1 hk (.inl rfl)); have _ := zK (hb); have _ := zK (hi); clear HO409 HK HB HI0; rename_i HO409 HK HB HI0; clear hb hk hi; have p12 : 0 ≤ (t412 : Int) := oD M4; have q12 : (t412 : Int) < ((t407.length : Int) : Int) := oD M4; obtain ⟨goz0, coz1, eoz1, gb12, glz0, clz0, HGz0⟩ := Kd.R_form HO409.o (by omega); (first | cases eoz1 | (injection eoz1 with ea_ en_ ec_; (first | subst ea_ | (injection ea_ with ea_; subst ea_)); subst ec_; clear en_)); have GBz0 := zK gb12; have GGz0 := zK HGz0; clear gb12 glz0 HGz0; obtain ⟨cez0, hclz0, hMz0, hccz0, hfrz0⟩ := Kd.R_elem HO409.o z113 (t412 : Int) p12 q12; obtain rfl := k113_openM hMz0; have hxz0_0 : wz3.cell? ⟨goz0, (t412 : Int).toNat * 8, none⟩ = some (.int .i64 ((rd_T113 t407 t412).f0.f0)) := hccz0 0 _ rfl; have hxz0_1 : wz3.cell? ⟨goz0, (t412 : Int).toNat * 8 + 1, none⟩ = some (.int .i64 ((rd_T113 t407 t412).f0.f1)) := hccz0 1 _ rfl; have hxz0_2 : wz3.cell? ⟨goz0, (t412 : Int).toNat * 8 + 2, none⟩ = some (.int .i64 ((rd_T113 t407 t412).f0.f2)) := hccz0 2 _ rfl; have hxz0_3 : wz3.cell? ⟨goz0, (t412 : Int).toNat * 8 + 3, none⟩ = some (.int .i64 ((rd_T113 t407 t412).f0.f3)) := hccz0 3 _ rfl; have hxz0_4 : wz3.cell? ⟨goz0, (t412 : Int).toNat * 8 + 4, none⟩ = some (.int .i64 ((rd_T113 t407 t412).f0.f4)) := hccz0 4 _ rfl; have hxz0_5 : wz3.cell? ⟨goz0, (t412 : Int).toNat * 8 + 5, none⟩ = some (.int .i64 ((rd_T113 t407 t412).f1)) := hccz0 5 _ rfl; have hxz0_6 : wz3.cell? ⟨goz0, (t412 : Int).toNat * 8 + 6, none⟩ = some (.int .i64 ((rd_T113 t407 t412).f2)) := hccz0 6 _ rfl; have hxz0_7 : wz3.cell? ⟨goz0, (t412 : Int).toNat * 8 + 7, none⟩ = some (.int .i64 ((rd_T113 t407 t412).f3)) := hccz0 7 _ rfl; have hfz0_0 : wz3.frozen? ⟨goz0, (t412 : Int).toNat * 8, none⟩ = false := hfrz0 0; have hfz0_1 : wz3.frozen? ⟨goz0, (t412 : Int).toNat * 8 + 1, none⟩ = false := hfrz0 1; have hfz0_2 : wz3.frozen? ⟨goz0, (t412 : Int).toNat * 8 + 2, none⟩ = false := hfrz0 2; have hfz0_3 : wz3.frozen? ⟨goz0, (t412 : Int).toNat * 8 + 3, none⟩ = false := hfrz0 3; have hfz0_4 : wz3.frozen? ⟨goz0, (t412 : Int).toNat * 8 + 4, none⟩ = false := hfrz0 4; have hfz0_5 : wz3.frozen? ⟨goz0, (t412 : Int).toNat * 8 + 5, none⟩ = false := hfrz0 5; have hfz0_6 : wz3.frozen? ⟨goz0, (t412 : Int).toNat * 8 + 6, none⟩ = false := hfrz0 6; have hfz0_7 : wz3.frozen? ⟨goz0, (t412 : Int).toNat * 8 + 7, none⟩ = false := hfrz0 7; clear hclz0 hccz0 hfrz0 hMz0; replace p12 := eq_true p12; replace q12 := eq_true q12; have HXz0 := zK (show Kd.R k113 113 wz3 w.heap.size (fun _ => True) (.slice (some ⟨goz0, 0, none⟩) t407.length coz0) t407 from (Kd.qR HO409.o)); obtain ⟨cez1, hclz1, hMz1, hccz1, hfrz1⟩ := Kd.R_elem HXz0.o z113 (t412 : Int) (oD M4) (by have h_ : (t412 : Int) < ((t407.length : Int) : Int) := oD M4; first | exact h_ | (have e_ := (Kd.R_reads' HO409.o).1; omega) | simpa using h_); obtain rfl := k113_openM hMz1; have HPz0 := Kd.R_seg HXz0.o (t412 : Int) (oD M4) (by have h_ : (t412 : Int) < ((t407.length : Int) : Int) := oD M4; first | exact h_ | (have e_ := (Kd.R_reads' HO409.o).1; omega) | simpa using h_) (seg := [.int .i64 t418, .int .i64 t419, .int .i64 t420, .int .i64 t421, .int .i64 t422]) (j := 0) hclz1 hccz1 (show 5 ≤ 8 from by decide) (x' := (⟨(⟨t418, t419, t420, t421, t422⟩ : S111), (rd_T113 t407 t412).f1, (rd_T113 t407 t412).f2, (rd_T113 t407 t412).f3⟩ : S113)) (k113_mkM _ _ _ (⟨(⟨t418, t419, t420, t421, t422⟩ : S111), (rd_T113 t407 t412).f1, (rd_T113 t407 t412).f2, (rd_T113 t407 t412).f3⟩ : S113) ) (fun _ hk => hk); have hxz1_0 := hccz1 0 _ rfl; (try simp only [show (k113).sz = 8 from rfl, Nat.mul_one, Nat.add_zero] at hxz1_0); have hfz1_0 := hfrz1 0; (try simp only [show (k113).sz = 8 from rfl, Nat.mul_one, Nat.add_zero] at hfz1_0); have hxz1_1 := hccz1 1 _ rfl; (try simp only [show (k113).sz = 8 from rfl, Nat.mul_one, Nat.add_zero] at hxz1_1); have hfz1_1 := hfrz1 1; (try simp only [show (k113).sz = 8 from rfl, Nat.mul_one, Nat.add_zero] at hfz1_1); have hxz1_2 := hccz1 2 _ rfl; (try simp only [show (k113).sz = 8 from rfl, Nat.mul_one, Nat.add_zero] at hxz1_2); have hfz1_2 := hfrz1 2; (try simp only [show (k113).sz = 8 from rfl, Nat.mul_one, Nat.add_zero] at hfz1_2); have hxz1_3 := hccz1 3 _ rfl; (try simp only [show (k113).sz = 8 from rfl, Nat.mul_one, Nat.add_zero] at hxz1_3); have hfz1_3 := hfrz1 3; (try simp only [show (k113).sz = 8 from rfl, Nat.mul_one, Nat.add_zero] at hfz1_3); have hxz1_4 := hccz1 4 _ rfl; (try simp only [show (k113).sz = 8 from rfl, Nat.mul_one, Nat.add_zero] at hxz1_4); have hfz1_4 := hfrz1 4; (try simp only [show (k113).sz = 8 from rfl, Nat.mul_one, Nat.add_zero] at hfz1_4); clear hclz1 hccz1 hfrz1 hMz1) | ((with_reducible refine gate_store (t := 111) (p := 24) rfl ?_); refine store_event (t := 111) (p := 24) (v := ?vo_p24) (w1 := (((((wz3.setCell ⟨goz0, (t412 : Int).toNat * 8, none⟩ (.int .i64 t418)).setCell ⟨goz0, (t412 : Int).toNat * 8 + 1, none⟩ (.int .i64 t419)).setCell ⟨goz0, (t412 : Int).toNat * 8 + 2, none⟩ (.int .i64 t420)).setCell ⟨goz0, (t412 : Int).toNat * 8 + 3, none⟩ (.int .i64 t421)).setCell ⟨goz0, (t412 : Int).toNat * 8 + 4, none⟩ (.int .i64 t422))) ?hg ?ho ?hn ?hr ?_; (case ho => rfl); (case hg => rfl); (case hn => rfl); (case hr => first | (go_simp; done) | (go_simp; rfl)); intro wz4 hw; have hg : wz3.grownBy wz4 (some goz0) := (by rw [hw]; exact HPz0.2); have hp_ : Kd.R k113 113 wz4 w.heap.size (fun _ => True) (.slice (some ⟨goz0, 0, none⟩) t407.length coz0) y425 := (by rw [hw, Ny425.o]; exact HPz0.1); clear HPz0; have _ := zK (IsS173.grown M7 hg (IsS173.own_ne HI0.o HO409.o (by decide))); have _ := zK (hp_); have _ := zK ((by rw [hw]; exact bS (bS (bS (bS (bS (HB.o) (Nat.le_trans HL.o GBz0.o)) (Nat.le_trans HL.o GBz0.o)) (Nat.le_trans HL.o GBz0.o)) (Nat.le_trans HL.o GBz0.o)) (Nat.le_trans HL.o GBz0.o) : Below w0.heap.size w0 wz4)); have _ := zK (KeepBut.trans M1 (KeepBut.of_grown hg g) (Kd.R_base2 HO409.o)); clear HI0 HO409 HB HK; rename_i HI0 HO409 HB HK; clear hg hw hp_) | ((with_reducible refine gc (f := 146) rfl ?_); refine gL (some 39) Try.func146 #[.pointer (some ⟨g, 0, none⟩)] ?_; (with_reducible refine (spec_l4Raw.calls g s0_0 t416 t417 t433 t434 t435 w0 _ ?side1 ?side2 A36.o).mono ?_); (case side1 => exact Q0); (case side2 => exact Q10); rintro e wz3 ⟨rfl, hi, hb, hk⟩; refine ⟨_, rfl, ?_⟩; have _ := zK (IsS173.rK (show IsS173 w0 _ g s0_0 t416 t417 from Q0) HO409.o hk); have _ := zK (KeepBut.trans M1 hk (.inl rfl)); have _ := zK (hb); have _ := zK (hi); clear HO409 HK HB HI0; rename_i HO409 HK HB HI0; clear hb hk hi; have p39 : 0 ≤ (t412 : Int) := oD M4; have q39 : (t412 : Int) < ((t407.length : Int) : Int) := oD M4; obtain ⟨goz0, coz1, eoz1, gb39, glz0, clz0, HGz0⟩ := Kd.R_form HO409.o (by omega); (first | cases eoz1 | (injection eoz1 with ea_ en_ ec_; (first | subst ea_ | (injection ea_ with ea_; subst ea_)); subst ec_; clear en_)); have GBz0 := zK gb39; have GGz0 := zK HGz0; clear gb39 glz0 HGz0; obtain ⟨cez0, hclz0, hMz0, hccz0, hfrz0⟩ := Kd.R_elem HO409.o z113 (t412 : Int) p39 q39; obtain rfl := k113_openM hMz0; have hxz0_0 : wz3.cell? ⟨goz0, (t412 : Int).toNat * 8, none⟩ = some (.int .i64 ((rd_T113 t407 t412).f0.f0)) := hccz0 0 _ rfl; have hxz0_1 : wz3.cell? ⟨goz0, (t412 : Int).toNat * 8 + 1, none⟩ = some (.int .i64 ((rd_T113 t407 t412).f0.f1)) := hccz0 1 _ rfl; have hxz0_2 : wz3.cell? ⟨goz0, (t412 : Int).toNat * 8 + 2, none⟩ = some (.int .i64 ((rd_T113 t407 t412).f0.f2)) := hccz0 2 _ rfl; have hxz0_3 : wz3.cell? ⟨goz0, (t412 : Int).toNat * 8 + 3, none⟩ = some (.int .i64 ((rd_T113 t407 t412).f0.f3)) := hccz0 3 _ rfl; have hxz0_4 : wz3.cell? ⟨goz0, (t412 : Int).toNat * 8 + 4, none⟩ = some (.int .i64 ((rd_T113 t407 t412).f0.f4)) := hccz0 4 _ rfl; have hxz0_5 : wz3.cell? ⟨goz0, (t412 : Int).toNat * 8 + 5, none⟩ = some (.int .i64 ((rd_T113 t407 t412).f1)) := hccz0 5 _ rfl; have hxz0_6 : wz3.cell? ⟨goz0, (t412 : Int).toNat * 8 + 6, none⟩ = some (.int .i64 ((rd_T113 t407 t412).f2)) := hccz0 6 _ rfl; have hxz0_7 : wz3.cell? ⟨goz0, (t412 : Int).toNat * 8 + 7, none⟩ = some (.int .i64 ((rd_T113 t407 t412).f3)) := hccz0 7 _ rfl; have hfz0_0 : wz3.frozen? ⟨goz0, (t412 : Int).toNat * 8, none⟩ = false := hfrz0 0; have hfz0_1 : wz3.frozen? ⟨goz0, (t412 : Int).toNat * 8 + 1, none⟩ = false := hfrz0 1; have hfz0_2 : wz3.frozen? ⟨goz0, (t412 : Int).toNat * 8 + 2, none⟩ = false := hfrz0 2; have hfz0_3 : wz3.frozen? ⟨goz0, (t412 : Int).toNat * 8 + 3, none⟩ = false := hfrz0 3; have hfz0_4 : wz3.frozen? ⟨goz0, (t412 : Int).toNat * 8 + 4, none⟩ = false := hfrz0 4; have hfz0_5 : wz3.frozen? ⟨goz0, (t412 : Int).toNat * 8 + 5, none⟩ = false := hfrz0 5; have hfz0_6 : wz3.frozen? ⟨goz0, (t412 : Int).toNat * 8 + 6, none⟩ = false := hfrz0 6; have hfz0_7 : wz3.frozen? ⟨goz0, (t412 : Int).toNat * 8 + 7, none⟩ = false := hfrz0 7; clear hclz0 hccz0 hfrz0 hMz0; replace p39 := eq_true p39; replace q39 := eq_true q39; have HXz0 := zK (show Kd.R k113 113 wz3 w.heap.size (fun _ => True) (.slice (some ⟨goz0, 0, none⟩) t407.length coz0) t407 from (Kd.qR HO409.o)); obtain ⟨cez1, hclz1, hMz1, hccz1, hfrz1⟩ := Kd.R_elem HXz0.o z113 (t412 : Int) (oD M4) (by have h_ : (t412 : Int) < ((t407.length : Int) : Int) := oD M4; first | exact h_ | (have e_ := (Kd.R_reads' HO409.o).1; omega) | simpa using h_); obtain rfl := k113_openM hMz1; have HPz0 := Kd.R_seg HXz0.o (t412 : Int) (oD M4) (by have h_ : (t412 : Int) < ((t407.length : Int) : Int) := oD M4; first | exact h_ | (have e_ := (Kd.R_reads' HO409.o).1; omega) | simpa using h_) (seg := [.int .i64 t433]) (j := 6) hclz1 hccz1 (show 7 ≤ 8 from by decide) (x' := (⟨(⟨(rd_T113 t407 t412).f0.f0, (rd_T113 t407 t412).f0.f1, (rd_T113 t407 t412).f0.f2, (rd_T113 t407 t412).f0.f3, (rd_T113 t407 t412).f0.f4⟩ : S111), (rd_T113 t407 t412).f1, t433, (rd_T113 t407 t412).f3⟩ : S113)) (k113_mkM _ _ _ (⟨(⟨(rd_T113 t407 t412).f0.f0, (rd_T113 t407 t412).f0.f1, (rd_T113 t407 t412).f0.f2, (rd_T113 t407 t412).f0.f3, (rd_T113 t407 t412).f0.f4⟩ : S111), (rd_T113 t407 t412).f1, t433, (rd_T113 t407 t412).f3⟩ : S113) ) (fun _ hk => hk); have hxz1_6 := hccz1 6 _ rfl; (try simp only [show (k113).sz = 8 from rfl, Nat.mul_one, Nat.add_zero] at hxz1_6); have hfz1_6 := hfrz1 6; (try simp only [show (k113).sz = 8 from rfl, Nat.mul_one, Nat.add_zero] at hfz1_6); clear hclz1 hccz1 hfrz1 hMz1) | ((with_reducible refine gate_store (t := 3) (p := 41) rfl ?_); refine store_event (t := 3) (p := 41) (v := ?vo_p41) (w1 := (wz3.setCell ⟨goz0, (t412 : Int).toNat * 8 + 6, none⟩ (.int .i64 t433))) ?hg ?ho ?hn ?hr ?_; (case ho => rfl); (case hg => rfl); (case hn => rfl); (case hr => first | (go_simp; done) | (go_simp; rfl)); intro wz4 hw; have hg : wz3.grownBy wz4 (some goz0) := (by rw [hw]; exact HPz0.2); have hp_ : Kd.R k113 113 wz4 w.heap.size (fun _ => True) (.slice (some ⟨goz0, 0, none⟩) t407.length coz0) y436 := (by rw [hw, Ny436.o]; exact HPz0.1); clear HPz0; have _ := zK (IsS173.grown M7 hg (IsS173.own_ne HI0.o HO409.o (by decide))); have _ := zK (hp_); have _ := zK ((by rw [hw]; exact bS (HB.o) (Nat.le_trans HL.o GBz0.o) : Below w0.heap.size w0 wz4)); have _ := zK (KeepBut.trans M1 (KeepBut.of_grown hg g) (Kd.R_base2 HO409.o)); clear HI0 HO409 HB HK; rename_i HI0 HO409 HB HK; clear hg hw hp_))
  go_ret
  exact ⟨_, o0, by exact Kd.qR HO409.o, Q0, Q10, Q9⟩) : p := h
theorem spec_l6Any.calls (k : Nat) (g : Nat) (s0_0 : List Int) (s0_1 : Int) (s0_2 : Int) (r1 : List (S113)) (r2 : Int) (r3 : Int) (w0 w : World) (hI : IsS173 w0 w g s0_0 s0_1 s0_2) (hB : Below w0.heap.size w0 w) (h : spec_l6Any.f k s0_0 s0_1 s0_2 = some (r1, r2, r3)) :
  Calls Try.prog 127 #[.pointer (some ⟨g, 0, none⟩)] w fun e w' => ∃ v0_ : Value, e = .returned (v0_) ∧ Kd.R k113 113 w' w.heap.size (fun _ => True) v0_ r1 ∧ IsS173 w0 w' g s0_0 r2 r3 ∧ Below w0.heap.size w0 w' ∧ KeepBut w w' g none := by
 have hu111 := Try.underlying111
 have HI0 := zK hI
 have HK := zK (KeepBut.refl w g none)
 have HL := zK hB.size
 clear hI
 have HW0 := zK hB.size
 have HB := zK hB
 clear hB
 have H : ((spec_l6List.f k s0_0 s0_1 s0_2).bind fun bt407 => (if (bt407.1.length : Int) = 0 then (some (bt407.1, bt407.2.1, bt407.2.2)) else ((spec_l1Below.f s0_0 bt407.2.1 bt407.2.2 (bt407.1.length : Int)).bind fun bt412 => ((spec_l1Below.f s0_0 bt412.2.1 bt412.2.2 12).bind fun bt415 => (if bt415.1 = 0 then ((spec_l4Any.f s0_0 bt415.2.1 bt415.2.2).bind fun bt418 => (if 0 ≤ bt412.1 then (if bt412.1 < (bt407.1.length : Int) then (some ((bt407.1.set (bt412.1 : Int).toNat (⟨(⟨bt418.1, bt418.2.1, bt418.2.2.1, bt418.2.2.2.1, bt418.2.2.2.2.1⟩ : S111), (rd_T113 bt407.1 bt412.1).f1, (rd_T113 bt407.1 bt412.1).f2, (rd_T113 bt407.1 bt412.1).f3⟩ : S113)), bt418.2.2.2.2.2.1, bt418.2.2.2.2.2.2)) else (none)) else (none))) else (if bt415.1 = 1 then ((spec_l1Int.f s0_0 bt415.2.1 bt415.2.2 (([0, 30, 31] : List Int))).bind fun bt429 => (if 0 ≤ bt412.1 then (if bt412.1 < (bt407.1.length : Int) then (some ((bt407.1.set (bt412.1 : Int).toNat (⟨(⟨(rd_T113 bt407.1 bt412.1).f0.f0, (rd_T113 bt407.1 bt412.1).f0.f1, (rd_T113 bt407.1 bt412.1).f0.f2, (rd_T113 bt407.1 bt412.1).f0.f3, (rd_T113 bt407.1 bt412.1).f0.f4⟩ : S111), bt429.1, (rd_T113 bt407.1 bt412.1).f2, (rd_T113 bt407.1 bt412.1).f3⟩ : S113)), bt429.2.1, bt429.2.2)) else (none)) else (none))) else (if bt415.1 = 2 then ((spec_l4Raw.f s0_0 bt415.2.1 bt415.2.2).bind fun bt433 => (if 0 ≤ bt412.1 then (if bt412.1 < (bt407.1.length : Int) then (some ((bt407.1.set (bt412.1 : Int).toNat (⟨(⟨(rd_T113 bt407.1 bt412.1).f0.f0, (rd_T113 bt407.1 bt412.1).f0.f1, (rd_T113 bt407.1 bt412.1).f0.f2, (rd_T113 bt407.1 bt412.1).f0.f3, (rd_T113 bt407.1 bt412.1).f0.f4⟩ : S111), (rd_T113 bt407.1 bt412.1).f1, bt433.1, (rd_T113 bt407.1 bt412.1).f3⟩ : S113)), bt433.2.1, bt433.2.2)) else (none)) else (none))) else (if bt415.1 = 3 then ((spec_l1Int.f s0_0 bt415.2.1 bt415.2.2 (([(-1), 999, 1000] : List Int))).bind fun bt440 => (if 0 ≤ bt412.1 then (if bt412.1 < (bt407.1.length : Int) then (some ((bt407.1.set (bt412.1 : Int).toNat (⟨(⟨(rd_T113 bt407.1 bt412.1).f0.f0, (rd_T113 bt407.1 bt412.1).f0.f1, (rd_T113 bt407.1 bt412.1).f0.f2, (rd_T113 bt407.1 bt412.1).f0.f3, (rd_T113 bt407.1 bt412.1).f0.f4⟩ : S111), (rd_T113 bt407.1 bt412.1).f1, (rd_T113 bt407.1 bt412.1).f2, bt440.1⟩ : S113)), bt440.2.1, bt440.2.2)) else (none)) else (none))) else (some (bt407.1, bt415.2.1, bt415.2.2)))))))))) = some (r1, r2, r3) := h
 clear h
 replace H := Option.bind_eq_some_iff.mp H
 obtain ⟨⟨t407, t410, t411⟩, A20, H⟩ := H
 try dsimp only at H
 have A2 := zK A20
 clear A20
 by_cases c3 : (t407.length : Int) = 0
 ·rw [if_pos c3] at H
  have c3b0 : ((t407.length : Int) == 0) = true := beq_iff_eq.mpr c3
  have c3b1 : ((t407.length : Int) != 0) = false := bne_eq_false_iff_eq.mpr c3
  clear c3
  simp only [Option.some.injEq, Prod.mk.injEq] at H
  obtain ⟨rfl, rfl, rfl⟩ := H
  exact lf10_1
 rw [if_neg c3] at H
 have c3b0 : ((t407.length : Int) == 0) = false := beq_eq_false_iff_ne.mpr c3
 have c3b1 : ((t407.length : Int) != 0) = true := bne_iff_ne.mpr c3
 have c3b2 : ¬ (t407 = []) := fun h_ => c3 (by rw [h_]; rfl)
 replace H := Option.bind_eq_some_iff.mp H
 obtain ⟨⟨t412, t413, t414⟩, A60, H⟩ := H
 try dsimp only at H
 have A6 := zK A60
 clear A60
 replace H := Option.bind_eq_some_iff.mp H
 obtain ⟨⟨t415, t416, t417⟩, A70, H⟩ := H
 try dsimp only at H
 have A7 := zK A70
 clear A70
 by_cases c8 : t415 = 0
 ·rw [if_pos c8] at H
  have c8b0 : (t415 == 0) = true := beq_iff_eq.mpr c8
  have c8b1 : (t415 != 0) = false := bne_eq_false_iff_eq.mpr c8
  clear c8
  replace H := Option.bind_eq_some_iff.mp H
  obtain ⟨⟨t418, t419, t420, t421, t422, t423, t424⟩, A90, H⟩ := H
  try dsimp only at H
  have A9 := zK A90
  clear A90
  by_cases c10 : 0 ≤ t412
  rotate_left
  ·rw [if_neg c10] at H
   exact absurd H (by simp)
  rw [if_pos c10] at H
  have c10b0 : decide (0 ≤ t412) = true := decide_eq_true c10
  clear c10
  by_cases c11 : t412 < (t407.length : Int)
  rotate_left
  ·rw [if_neg c11] at H
   exact absurd H (by simp)
  rw [if_pos c11] at H
  have c11b0 : decide (t412 < (t407.length : Int)) = true := decide_eq_true c11
  clear c11
  obtain ⟨y425, hy425⟩ : ∃ y_ : List (S113), y_ = (t407.set (t412 : Int).toNat (⟨(⟨t418, t419, t420, t421, t422⟩ : S111), (rd_T113 t407 t412).f1, (rd_T113 t407 t412).f2, (rd_T113 t407 t412).f3⟩ : S113)) := ⟨_, rfl⟩
  replace H : (some (y425, t423, t424)) = some (r1, r2, r3) := have he_ := hy425; rH
  have Ny425 := zK hy425
  clear hy425
  simp only [Option.some.injEq, Prod.mk.injEq] at H
  obtain ⟨rfl, rfl, rfl⟩ := H
  exact lf10_1
 rw [if_neg c8] at H
 have c8b0 : (t415 == 0) = false := beq_eq_false_iff_ne.mpr c8
 have c8b1 : (t415 != 0) = true := bne_iff_ne.mpr c8
 by_cases c20 : t415 = 1
 ·rw [if_pos c20] at H
  have c20b0 : (t415 == 1) = true := beq_iff_eq.mpr c20
  have c20b1 : (t415 != 1) = false := bne_eq_false_iff_eq.mpr c20
  clear c20
  obtain ⟨y426, hy426⟩ : ∃ y_ : List Int, y_ = (([0, 30, 31] : List Int)) := ⟨_, rfl⟩
  replace H : ((spec_l1Int.f s0_0 t416 t417 y426).bind fun bt429 => (if 0 ≤ t412 then (if t412 < (t407.length : Int) then (some ((t407.set (t412 : Int).toNat (⟨(⟨(rd_T113 t407 t412).f0.f0, (rd_T113 t407 t412).f0.f1, (rd_T113 t407 t412).f0.f2, (rd_T113 t407 t412).f0.f3, (rd_T113 t407 t412).f0.f4⟩ : S111), bt429.1, (rd_T113 t407 t412).f2, (rd_T113 t407 t412).f3⟩ : S113)), bt429.2.1, bt429.2.2)) else (none)) else (none))) = some (r1, r2, r3) := have he_ := hy426; rH
  have Ny426 := zK hy426
  clear hy426
  replace H := Option.bind_eq_some_iff.mp H
  obtain ⟨⟨t429, t430, t431⟩, A210, H⟩ := H
  try dsimp only at H
  have A21 := zK A210
  clear A210
  by_cases c22 : 0 ≤ t412
  rotate_left
  ·rw [if_neg c22] at H
   exact absurd H (by simp)
  rw [if_pos c22] at H
  have c22b0 : decide (0 ≤ t412) = true := decide_eq_true c22
  clear c22
  by_cases c23 : t412 < (t407.length : Int)
  rotate_left
  ·rw [if_neg c23] at H
   exact absurd H (by simp)
  rw [if_pos c23] at H
  have c23b0 : decide (t412 < (t407.length : Int)) = true := decide_eq_true c23
  clear c23
  obtain ⟨y432, hy432⟩ : ∃ y_ : List (S113), y_ = (t407.set (t412 : Int).toNat (⟨(⟨(rd_T113 t407 t412).f0.f0, (rd_T113 t407 t412).f0.f1, (rd_T113 t407 t412).f0.f2, (rd_T113 t407 t412).f0.f3, (rd_T113 t407 t412).f0.f4⟩ : S111), t429, (rd_T113 t407 t412).f2, (rd_T113 t407 t412).f3⟩ : S113)) := ⟨_, rfl⟩
  replace H : (some (y432, t430, t431)) = some (r1, r2, r3) := have he_ := hy432; rH
  have Ny432 := zK hy432
  clear hy432
  simp only [Option.some.injEq, Prod.mk.injEq] at H
  obtain ⟨rfl, rfl, rfl⟩ := H
  exact lf10_1
 rw [if_neg c20] at H
 have c20b0 : (t415 == 1) = false := beq_eq_false_iff_ne.mpr c20
 have c20b1 : (t415 != 1) = true := bne_iff_ne.mpr c20
 by_cases c35 : t415 = 2
 ·rw [if_pos c35] at H
  have c35b0 : (t415 == 2) = true := beq_iff_eq.mpr c35
  have c35b1 : (t415 != 2) = false := bne_eq_false_iff_eq.mpr c35
  clear c35
  replace H := Option.bind_eq_some_iff.mp H
  obtain ⟨⟨t433, t434, t435⟩, A360, H⟩ := H
  try dsimp only at H
  have A36 := zK A360
  clear A360
  by_cases c37 : 0 ≤ t412
  rotate_left
  ·rw [if_neg c37] at H
   exact absurd H (by simp)
  rw [if_pos c37] at H
  have c37b0 : decide (0 ≤ t412) = true := decide_eq_true c37
  clear c37
  by_cases c38 : t412 < (t407.length : Int)
  rotate_left
  ·rw [if_neg c38] at H
   exact absurd H (by simp)
  rw [if_pos c38] at H
  have c38b0 : decide (t412 < (t407.length : Int)) = true := decide_eq_true c38
  clear c38
  obtain ⟨y436, hy436⟩ : ∃ y_ : List (S113), y_ = (t407.set (t412 : Int).toNat (⟨(⟨(rd_T113 t407 t412).f0.f0, (rd_T113 t407 t412).f0.f1, (rd_T113 t407 t412).f0.f2, (rd_T113 t407 t412).f0.f3, (rd_T113 t407 t412).f0.f4⟩ : S111), (rd_T113 t407 t412).f1, t433, (rd_T113 t407 t412).f3⟩ : S113)) := ⟨_, rfl⟩
  replace H : (some (y436, t434, t435)) = some (r1, r2, r3) := have he_ := hy436; rH
  have Ny436 := zK hy436
  clear hy436
  simp only [Option.some.injEq, Prod.mk.injEq] at H
  obtain ⟨rfl, rfl, rfl⟩ := H
  exact lf10_1
 rw [if_neg c35] at H
 have c35b0 : (t415 == 2) = false := beq_eq_false_iff_ne.mpr c35
 have c35b1 : (t415 != 2) = true := bne_iff_ne.mpr c35
 by_cases c47 : t415 = 3
 rotate_left
 ·rw [if_neg c47] at H
  have c47b0 : (t415 == 3) = false := beq_eq_false_iff_ne.mpr c47
  have c47b1 : (t415 != 3) = true := bne_iff_ne.mpr c47
  simp only [Option.some.injEq, Prod.mk.injEq] at H
  obtain ⟨rfl, rfl, rfl⟩ := H
  exact lf10_1
 rw [if_pos c47] at H
 have c47b0 : (t415 == 3) = true := beq_iff_eq.mpr c47
 have c47b1 : (t415 != 3) = false := bne_eq_false_iff_eq.mpr c47
 clear c47
 obtain ⟨y437, hy437⟩ : ∃ y_ : List Int, y_ = (([(-1), 999, 1000] : List Int)) := ⟨_, rfl⟩
 replace H : ((spec_l1Int.f s0_0 t416 t417 y437).bind fun bt440 => (if 0 ≤ t412 then (if t412 < (t407.length : Int) then (some ((t407.set (t412 : Int).toNat (⟨(⟨(rd_T113 t407 t412).f0.f0, (rd_T113 t407 t412).f0.f1, (rd_T113 t407 t412).f0.f2, (rd_T113 t407 t412).f0.f3, (rd_T113 t407 t412).f0.f4⟩ : S111), (rd_T113 t407 t412).f1, (rd_T113 t407 t412).f2, bt440.1⟩ : S113)), bt440.2.1, bt440.2.2)) else (none)) else (none))) = some (r1, r2, r3) := have he_ := hy437; rH
 have Ny437 := zK hy437
 clear hy437
 replace H := Option.bind_eq_some_iff.mp H
 obtain ⟨⟨t440, t441, t442⟩, A480, H⟩ := H
 try dsimp only at H
 have A48 := zK A480
 clear A480
 by_cases c49 : 0 ≤ t412
 rotate_left
 ·rw [if_neg c49] at H
  exact absurd H (by simp)
 rw [if_pos c49] at H
 have c49b0 : decide (0 ≤ t412) = true := decide_eq_true c49
 clear c49
 by_cases c50 : t412 < (t407.length : Int)
 rotate_left
 ·rw [if_neg c50] at H
  exact absurd H (by simp)
 rw [if_pos c50] at H
 have c50b0 : decide (t412 < (t407.length : Int)) = true := decide_eq_true c50
 clear c50
 obtain ⟨y443, hy443⟩ : ∃ y_ : List (S113), y_ = (t407.set (t412 : Int).toNat (⟨(⟨(rd_T113 t407 t412).f0.f0, (rd_T113 t407 t412).f0.f1, (rd_T113 t407 t412).f0.f2, (rd_T113 t407 t412).f0.f3, (rd_T113 t407 t412).f0.f4⟩ : S111), (rd_T113 t407 t412).f1, (rd_T113 t407 t412).f2, t440⟩ : S113)) := ⟨_, rfl⟩
 replace H : (some (y443, t441, t442)) = some (r1, r2, r3) := have he_ := hy443; rH
 have Ny443 := zK hy443
 clear hy443
 simp only [Option.some.injEq, Prod.mk.injEq] at H
 obtain ⟨rfl, rfl, rfl⟩ := H
 exact lf10_1
/-! ### spec_l1Once: function 147 -/
def spec_l1Once.f (s0_0 : List Int) (s0_1 : Int) (s0_2 : Int) (a1 : Int) : Option (Bool × Int × Int) := (spec_l1Below.f s0_0 s0_1 s0_2 a1).bind fun bt444 => (some ((bt444.1 == 0), bt444.2.1, bt444.2.2))
theorem spec_l1Once.calls (g : Nat) (s0_0 : List Int) (s0_1 : Int) (s0_2 : Int) (a1 : Int) (r1 : Bool) (r2 : Int) (r3 : Int) (w0 w : World) (hI : IsS173 w0 w g s0_0 s0_1 s0_2) (hB : Below w0.heap.size w0 w) (h : spec_l1Once.f s0_0 s0_1 s0_2 a1 = some (r1, r2, r3)) :
  Calls Try.prog 147 #[.pointer (some ⟨g, 0, none⟩), .int .i64 a1] w fun e w' => e = .returned (.bool r1) ∧ IsS173 w0 w' g s0_0 r2 r3 ∧ Below w0.heap.size w0 w' ∧ KeepBut w w' g none := by
 have HI0 := zK hI
 have HK := zK (KeepBut.refl w g none)
 have HL := zK hB.size
 clear hI
 have HW0 := zK hB.size
 have HB := zK hB
 clear hB
 have H : ((spec_l1Below.f s0_0 s0_1 s0_2 a1).bind fun bt444 => (some ((bt444.1 == 0), bt444.2.1, bt444.2.2))) = some (r1, r2, r3) := h
 clear h
 replace H := Option.bind_eq_some_iff.mp H
 obtain ⟨⟨t444, t445, t446⟩, A30, H⟩ := H
 try dsimp only at H
 have A3 := zK A30
 clear A30
 simp only [Option.some.injEq, Prod.mk.injEq] at H
 obtain ⟨rfl, rfl, rfl⟩ := H
 go_enter Try.func147, Try.ntmps147
 go_wp2_with (first | ((with_reducible refine gc (f := 108) rfl ?_); refine gL (some 7) Try.func108 #[.pointer (some ⟨g, 0, none⟩), .int .i64 a1] ?_; (with_reducible refine (spec_l1Below.calls g s0_0 s0_1 s0_2 a1 t444 t445 t446 w0 _ ?side1 ?side2 A3.o).mono ?_); (case side1 => exact Q0); (case side2 => exact Q10); rintro e w4 ⟨rfl, hi, hb, hk⟩; refine ⟨_, rfl, ?_⟩; have _ := zK (KeepBut.trans M1 hk (.inl rfl)); have _ := zK (hb); have _ := zK (hi); clear HK HB HI0; rename_i HK HB HI0; clear hb hk hi))
 go_ret
 exact ⟨o0, Q0, Q10, Q9⟩
/-! ### spec_l7Some: function 194 -/
def spec_l7Some.l0 : Nat → Int → Int → List Int → Int → List Int → Int → Int → Option (List Int × Int × Int)
 | 0, _, _, _, _, _, _, _ => none
 | k + 1, x2, x3, x9, x10, x1000, x1001, x1002 => if x10 ≤ x2 then ((spec_l1Once.f x1000 x1001 x1002 x3).bind fun bt450 => (if bt450.1 = true then (if x9.length < 17592186044416 then (spec_l7Some.l0 k x2 x3 (x9 ++ [x10]) (wrap64 (x10 + 1)) x1000 bt450.2.1 bt450.2.2) else (none)) else (spec_l7Some.l0 k x2 x3 x9 (wrap64 (x10 + 1)) x1000 bt450.2.1 bt450.2.2))) else (some (x9, x1001, x1002))
def spec_l7Some.f (k : Nat) (s0_0 : List Int) (s0_1 : Int) (s0_2 : Int) (a1 : Int) (a2 : Int) (a3 : Int) : Option (List Int × Int × Int) := spec_l7Some.l0 k a2 a3 (([] : List Int)) a1 s0_0 s0_1 s0_2
theorem spec_l7Some.calls (k : Nat) (g : Nat) (s0_0 : List Int) (s0_1 : Int) (s0_2 : Int) (a1 : Int) (a2 : Int) (a3 : Int) (r1 : List Int) (r2 : Int) (r3 : Int) (w0 w : World) (hI : IsS173 w0 w g s0_0 s0_1 s0_2) (hB : Below w0.heap.size w0 w) (h : spec_l7Some.f k s0_0 s0_1 s0_2 a1 a2 a3 = some (r1, r2, r3)) :
  Calls Try.prog 194 #[.pointer (some ⟨g, 0, none⟩), .int .i64 a1, .int .i64 a2, .int .i64 a3] w fun e w' => ∃ v0_ : Value, e = .returned (v0_) ∧ Kd.R (Kd.int .i64) 3 w' w.heap.size (fun _ => True) v0_ r1 ∧ IsS173 w0 w' g s0_0 r2 r3 ∧ Below w0.heap.size w0 w' ∧ KeepBut w w' g none := by
 have HI0 := zK hI
 have HK := zK (KeepBut.refl w g none)
 have HL := zK hB.size
 clear hI
 have HW0 := zK hB.size
 have HB := zK hB
 clear hB
 have H : (spec_l7Some.l0 k a2 a3 (([] : List Int)) a1 s0_0 s0_1 s0_2) = some (r1, r2, r3) := h
 clear h
 obtain ⟨y447, hy447⟩ : ∃ y_ : List Int, y_ = (([] : List Int)) := ⟨_, rfl⟩
 replace H : (spec_l7Some.l0 k a2 a3 y447 a1 s0_0 s0_1 s0_2) = some (r1, r2, r3) := have he_ := hy447; rH
 have Ny447 := zK hy447
 clear hy447
 have H' := zK H
 clear H
 go_enter Try.func194, Try.ntmps194
 go_wp2_with (first | ((with_reducible refine gd (N := 11) rfl ?_); refine Kd.R_lit (Kd.int .i64) _ 3 ?hg (N := 11) ?hd (xs := ([] : List Int)) (inner := []) (ok := fun _ => True) (okp := fun _ => True) ?hr ?hp (fun _ hk => hk) trivial (Below.refl _ _) (Nat.le_refl _) (by simp) ?_; (case hd => rfl); (case hg => rfl); (case hr => first | (go_simp; done) | (go_simp; rfl)); (case hp => exact (Reps.none _ _)); intro v448 w5 ho6 hb hg_ hnew_; clear hg_ hnew_; (first | rw [← Ny447.o] at ho6 | (simp only [Int.reduceToNat] at ho6; rw [← Ny447.o] at ho6)); have _ := zK (Kd.R_lower ho6 (keep_size (w := w) (g := g) (row := none) M1)); have _ := zK (IsS173.below M7 hb); have _ := zK (KeepBut.trans M1 (KeepBut.of_below hb g none) (.inl rfl)); have _ := zK (bT M13 hb); clear HI0 HK HB; rename_i HO449 HI0 HK HB; clear hb ho6))
 go_loopg [9, 10] k (fun kq v9 v10 w' => ∃ (x9_1 : List Int) (x10_1 : Int) (x1001_1 : Int) (x1002_1 : Int), v10 = .int .i64 x10_1 ∧ Aside0 (spec_l7Some.l0 kq a2 a3 x9_1 x10_1 s0_0 x1001_1 x1002_1 = some (r1, r2, r3)) ∧ Aside0 (kq ≤ k) ∧ Aside0 (Kd.R (Kd.int .i64) 3 w' w.heap.size (fun _ => True) v9 x9_1) ∧ Aside0 (IsS173 w0 w' g s0_0 x1001_1 x1002_1) ∧ Aside0 (KeepBut w w' g none) ∧ Aside0 (Below w0.heap.size w0 w'))
 case atStart => exact ⟨(y447), (a1), (s0_1), (s0_2), M12, H', ⟨Nat.le_refl _⟩, ⟨by exact Kd.qR HO449.o⟩, ⟨Q0⟩, ⟨Q9⟩, ⟨Q10⟩⟩
 case round =>
  clear H'
  try clear c1
  try clear p2
  obtain ⟨x9_1, x10_1, x1001_1, x1002_1, rfl, HA, HK1, HO_9, HI0, HK, HB⟩ := hrel
  cases gk with
  | zero => exact absurd HA.o (by simp [spec_l7Some.l0])
  | succ k1 =>
   have H := HA.o
   clear HA
   simp only [spec_l7Some.l0] at H
   by_cases c7 : x10_1 ≤ a2
   rotate_left
   ·rw [if_neg c7] at H
    have c7b0 : decide (x10_1 ≤ a2) = false := decide_eq_false c7
    clear c7
    simp only [Option.some.injEq, Prod.mk.injEq] at H
    obtain ⟨rfl, rfl, rfl⟩ := H
    go_wp2
    go_ret
    exact ⟨_, o0, by exact Kd.qR HO_9.o, Q0, Q10, Q9⟩
   rw [if_pos c7] at H
   have c7b0 : decide (x10_1 ≤ a2) = true := decide_eq_true c7
   clear c7
   replace H := Option.bind_eq_some_iff.mp H
   obtain ⟨⟨t450, t451, t452⟩, A80, H⟩ := H
   try dsimp only at H
   have A8 := zK A80
   clear A80
   by_cases c9 : t450 = true
   rotate_left
   ·replace c9 := Bool.eq_false_iff.mpr c9
    subst c9
    have H1 : (spec_l7Some.l0 k1 a2 a3 x9_1 (wrap64 (x10_1 + 1)) s0_0 t451 t452) = some (r1, r2, r3) := by rw [if_neg (show ¬ (false = true) by decide)] at H; exact H
    clear H
    have H := H1
    clear H1
    have H' := zK H
    clear H
    go_wp2_with (first | ((with_reducible refine gc (f := 147) rfl ?_); refine gL (some 20) Try.func147 #[.pointer (some ⟨g, 0, none⟩), .int .i64 a3] ?_; (with_reducible refine (spec_l1Once.calls g s0_0 x1001_1 x1002_1 a3 false t451 t452 w0 _ ?side1 ?side2 A8.o).mono ?_); (case side1 => exact Q0); (case side2 => exact Q10); rintro e w13 ⟨rfl, hi, hb, hk⟩; refine ⟨_, rfl, ?_⟩; have _ := zK (IsS173.rK (show IsS173 w0 _ g s0_0 x1001_1 x1002_1 from Q0) HO_9.o hk); have _ := zK (KeepBut.trans M1 hk (.inl rfl)); have _ := zK (hb); have _ := zK (hi); clear HO_9 HK HB HI0; rename_i HO_9 HK HB HI0; clear hb hk hi))
    go_roundg k1
    case measure => have := HK1.o; omega
    case rel => exact ⟨(x9_1), (wrap64 (x10_1 + 1)), (t451), (t452), M12, H', ⟨o6⟩, ⟨by exact Kd.qR HO_9.o⟩, ⟨Q0⟩, ⟨Q9⟩, ⟨Q10⟩⟩
   subst c9
   have H1 : (if x9_1.length < 17592186044416 then (spec_l7Some.l0 k1 a2 a3 (x9_1 ++ [x10_1]) (wrap64 (x10_1 + 1)) s0_0 t451 t452) else (none)) = some (r1, r2, r3) := by rw [if_pos rfl] at H; exact H
   clear H
   have H := H1
   clear H1
   by_cases c10 : x9_1.length < 17592186044416
   rotate_left
   ·rw [if_neg c10] at H
    exact absurd H (by simp)
   rw [if_pos c10] at H
   have LMc10 := zK c10
   clear c10
   obtain ⟨y453, hy453⟩ : ∃ y_ : List Int, y_ = (x9_1 ++ [x10_1]) := ⟨_, rfl⟩
   replace H : (spec_l7Some.l0 k1 a2 a3 y453 (wrap64 (x10_1 + 1)) s0_0 t451 t452) = some (r1, r2, r3) := have he_ := hy453; rH
   have Ny453 := zK hy453
   clear hy453
   have H' := zK H
   clear H
   go_wp2_with (first | ((with_reducible refine gc (f := 147) rfl ?_); refine gL (some 20) Try.func147 #[.pointer (some ⟨g, 0, none⟩), .int .i64 a3] ?_; (with_reducible refine (spec_l1Once.calls g s0_0 x1001_1 x1002_1 a3 true t451 t452 w0 _ ?side1 ?side2 A8.o).mono ?_); (case side1 => exact Q0); (case side2 => exact Q10); rintro e w11 ⟨rfl, hi, hb, hk⟩; refine ⟨_, rfl, ?_⟩; have _ := zK (IsS173.rK (show IsS173 w0 _ g s0_0 x1001_1 x1002_1 from Q0) HO_9.o hk); have _ := zK (KeepBut.trans M1 hk (.inl rfl)); have _ := zK (hb); have _ := zK (hi); clear HO_9 HK HB HI0; rename_i HO_9 HK HB HI0; clear hb hk hi) | ((with_reducible refine gate_builtin (b := .append) (xs := #[.tmp 21, .tmp 23]) rfl ?_); at_builtin; refine Kd.R_append (Kd.int .i64) w.heap.size rfl (.tmp 21) (.tmp 23) 24 3 (.int .i64 0) 8 rfl Try.underlying24 info3 rfl (by decide) (by omega) u9 x9_1 x10_1 [.int .i64 x10_1] (fun _ => True) (fun _ => False) rfl rfl ?aP (fun _ hk => hk.elim) ?aF ?aO (Below.refl _ _) ?aS ?aL ?_; (case aP => exact rfl); (case aF => exact (fun _ _ => trivial)); (case aO => exact (Kd.qR HO_9.o)); (case aS => exact (keep_size (w := w) (g := g) (row := none) M1)); (case aL => have := LMc10.o; omega); intro v454 w12 ho hb hg hat; rw [← Ny453.o] at ho; have _ := zK (IsS173.grown M7 hg (IsS173.own_ne HI0.o HO_9.o (by decide))); have _ := zK (below_weaken M13 HL.o hb); have _ := zK (KeepBut.trans M1 (KeepBut.of_grown hg g) (Kd.R_base2 HO_9.o)); have _ := zK (ho); clear HI0 HB HK HO_9; rename_i HI0 HB HK HO455; clear ho hb hg hat))
   go_roundg k1
   case measure => have := HK1.o; omega
   case rel => exact ⟨(y453), (wrap64 (x10_1 + 1)), (t451), (t452), M12, H', ⟨o6⟩, ⟨by exact Kd.qR HO455.o⟩, ⟨Q0⟩, ⟨Q9⟩, ⟨Q10⟩⟩
/-! ### spec_l5Draw: function 195 -/
def spec_l5Draw.f (s0_0 : List Int) (s0_1 : Int) (s0_2 : Int) : Option (Int × Int × Int × Int) := (spec_l1Below.f s0_0 s0_1 s0_2 60).bind fun bt457 => ((spec_l1Below.f s0_0 bt457.2.1 bt457.2.2 30).bind fun bt460 => (some (bt457.1, wrap64 (bt457.1 + bt460.1), bt460.2.1, bt460.2.2)))
theorem spec_l5Draw.calls (g : Nat) (s0_0 : List Int) (s0_1 : Int) (s0_2 : Int) (r1 : Int) (r2 : Int) (r3 : Int) (r4 : Int) (w0 w : World) (hI : IsS173 w0 w g s0_0 s0_1 s0_2) (hB : Below w0.heap.size w0 w) (h : spec_l5Draw.f s0_0 s0_1 s0_2 = some (r1, r2, r3, r4)) :
  Calls Try.prog 195 #[.pointer (some ⟨g, 0, none⟩)] w fun e w' => e = .returned (.agg #[.int .i64 r1, .int .i64 r2]) ∧ IsS173 w0 w' g s0_0 r3 r4 ∧ Below w0.heap.size w0 w' ∧ KeepBut w w' g none := by
 have hu39 := Try.underlying39
 have HI0 := zK hI
 have HK := zK (KeepBut.refl w g none)
 have HL := zK hB.size
 clear hI
 have HW0 := zK hB.size
 have HB := zK hB
 clear hB
 have H : ((spec_l1Below.f s0_0 s0_1 s0_2 60).bind fun bt457 => ((spec_l1Below.f s0_0 bt457.2.1 bt457.2.2 30).bind fun bt460 => (some (bt457.1, wrap64 (bt457.1 + bt460.1), bt460.2.1, bt460.2.2)))) = some (r1, r2, r3, r4) := h
 clear h
 replace H := Option.bind_eq_some_iff.mp H
 obtain ⟨⟨t457, t458, t459⟩, A20, H⟩ := H
 try dsimp only at H
 have A2 := zK A20
 clear A20
 replace H := Option.bind_eq_some_iff.mp H
 obtain ⟨⟨t460, t461, t462⟩, A30, H⟩ := H
 try dsimp only at H
 have A3 := zK A30
 clear A30
 simp only [Option.some.injEq, Prod.mk.injEq] at H
 obtain ⟨rfl, rfl, rfl, rfl⟩ := H
 go_enter Try.func195, Try.ntmps195
 go_wp2_with (first | ((with_reducible refine gd (N := 2) rfl ?_); refine bE (N := 2) (cs := #[.int .i64 0, .int .i64 0]) (t := 39) ?_; intro gb456 hg w4 hbox hb; have _ := zK (IsS173.below M7 hb); have _ := zK (KeepBut.trans M1 (KeepBut.of_below hb g none) (.inl rfl)); have _ := zK (bT M13 hb); have _ := zK (hbox); have _ := zK ((by rw [hg]; exact (keep_size (w := w) (g := g) (row := none) M1) : w.heap.size ≤ gb456)); have _ := zK ((Nat.le_trans HW0.o (by rw [hg]; exact (keep_size (w := w) (g := g) (row := none) M1) : w.heap.size ≤ gb456) : w0.heap.size ≤ gb456)); have _ := zK ((by rw [hg]; exact Nat.ne_of_lt (IsS173.lt (show IsS173 w0 _ g s0_0 s0_1 s0_2 from Q0)) : g ≠ gb456)); have _ := zK ((by rw [hg]; exact Nat.ne_of_gt (IsS173.lt (show IsS173 w0 _ g s0_0 s0_1 s0_2 from Q0)) : gb456 ≠ g)); clear HI0 HK HB; rename_i HI0 HK HB BK456 GW456 GE456 NB0_456 NB456_0; clear hb hbox hg) | ((with_reducible refine gc (f := 108) rfl ?_); refine gL (some 5) Try.func108 #[.pointer (some ⟨g, 0, none⟩), .int .i64 60] ?_; (with_reducible refine (spec_l1Below.calls g s0_0 s0_1 s0_2 60 t457 t458 t459 w0 _ ?side1 ?side2 A2.o).mono ?_); (case side1 => exact J9); (case side2 => exact J10); rintro e w5 ⟨rfl, hi, hb, hk⟩; refine ⟨_, rfl, ?_⟩; have _ := zK (kB hk BK456.o NB456_0.o); have _ := zK (KeepBut.trans (Q26) hk (.inl rfl)); have _ := zK (hb); have _ := zK (hi); clear BK456 HK HB HI0; rename_i BK456 HK HB HI0; clear hb hk hi) | ((with_reducible refine gc (f := 108) rfl ?_); refine gL (some 9) Try.func108 #[.pointer (some ⟨g, 0, none⟩), .int .i64 30] ?_; (with_reducible refine (spec_l1Below.calls g s0_0 t458 t459 30 t460 t461 t462 w0 _ ?side1 ?side2 A3.o).mono ?_); (case side1 => exact J9); (case side2 => exact J10); rintro e w6 ⟨rfl, hi, hb, hk⟩; refine ⟨_, rfl, ?_⟩; have _ := zK (kB hk BK456.o NB456_0.o); have _ := zK (KeepBut.trans (Q26) hk (.inl rfl)); have _ := zK (hb); have _ := zK (hi); clear BK456 HK HB HI0; rename_i BK456 HK HB HI0; clear hb hk hi; have hnb7 := NB456_0.o; have hnc7 := NB0_456.o; obtain ⟨hcz8_0, hcz8_1, hfz8_0, hfz8_1⟩ := bx2 BK456.o))
 refine bodyPost_ret (results_cell_row rfl _ _ gb456 39 #[.int .i64 t457, .int .i64 (wrap64 (t457 + t460))] (0, 0) _ rfl (qP BK456.o) Try.underlying39 rfl (by kernel_rfl)) rfl ?_
 exact ⟨o0, by repeat (first | (with_reducible first | exact HI0.o | apply IsS173.alloc | apply IsS173.drewN | apply IsS173.drew | apply IsS173.set_1 | apply IsS173.set_2 | refine IsS173.far ?_ NB0_456.o _) | exact HI0.o), by repeat (first | (with_reducible first | exact HB.o | apply bA | apply bN | apply b1 | refine bS ?_ (IsS173.ge HI0.o) | refine bS ?_ GE456.o) | exact HB.o), Q26⟩
/-! ### spec_l7Draw: function 169 -/
def spec_l7Draw.f (k : Nat) (s0_0 : List Int) (s0_1 : Int) (s0_2 : Int) (a1 : Int) : Option (Int × Int × List Int × Int × Int × List Int × Int × Int × Int × Int) := (spec_l1Below.f s0_0 s0_1 s0_2 12).bind fun bt464 => ((spec_l1Below.f s0_0 bt464.2.1 bt464.2.2 8).bind fun bt467 => ((spec_l7Some.f k s0_0 bt467.2.1 bt467.2.2 0 7 3).bind fun bt470 => ((spec_l1Below.f s0_0 bt470.2.1 bt470.2.2 15).bind fun bt475 => ((spec_l7Some.f k s0_0 bt475.2.1 bt475.2.2 1 6 2).bind fun bt478 => ((spec_l5Draw.f s0_0 bt478.2.1 bt478.2.2).bind fun bt483 => (some (a1, wrap64 (1 + bt467.1), bt470.1, wrap64 (1 + bt464.1), wrap64 ((wrap64 (1 + bt464.1)) + bt475.1), bt478.1, bt483.1, bt483.2.1, bt483.2.2.1, bt483.2.2.2)))))))
theorem spec_l7Draw.calls (k : Nat) (g : Nat) (s0_0 : List Int) (s0_1 : Int) (s0_2 : Int) (a1 : Int) (r1 : Int) (r2 : Int) (r3 : List Int) (r4 : Int) (r5 : Int) (r6 : List Int) (r7 : Int) (r8 : Int) (r9 : Int) (r10 : Int) (w0 w : World) (hI : IsS173 w0 w g s0_0 s0_1 s0_2) (hB : Below w0.heap.size w0 w) (h : spec_l7Draw.f k s0_0 s0_1 s0_2 a1 = some (r1, r2, r3, r4, r5, r6, r7, r8, r9, r10)) :
  Calls Try.prog 169 #[.pointer (some ⟨g, 0, none⟩), .int .i64 a1] w fun e w' => ∃ v2_ v5_ : Value, e = .returned (.agg #[.int .i64 r1, .int .i64 r2, v2_, .int .i64 r4, .int .i64 r5, v5_, .int .i64 r7, .int .i64 r8]) ∧ Kd.R (Kd.int .i64) 3 w' w.heap.size (fun k_ => some k_ ≠ (v5_ : Value).ownBlock) v2_ r3 ∧ Kd.R (Kd.int .i64) 3 w' w.heap.size (fun k_ => some k_ ≠ (v2_ : Value).ownBlock) v5_ r6 ∧ IsS173 w0 w' g s0_0 r9 r10 ∧ Below w0.heap.size w0 w' ∧ KeepBut w w' g none := by
 have hu41 := Try.underlying41
 have HI0 := zK hI
 have HK := zK (KeepBut.refl w g none)
 have HL := zK hB.size
 clear hI
 have HW0 := zK hB.size
 have HB := zK hB
 clear hB
 have H : ((spec_l1Below.f s0_0 s0_1 s0_2 12).bind fun bt464 => ((spec_l1Below.f s0_0 bt464.2.1 bt464.2.2 8).bind fun bt467 => ((spec_l7Some.f k s0_0 bt467.2.1 bt467.2.2 0 7 3).bind fun bt470 => ((spec_l1Below.f s0_0 bt470.2.1 bt470.2.2 15).bind fun bt475 => ((spec_l7Some.f k s0_0 bt475.2.1 bt475.2.2 1 6 2).bind fun bt478 => ((spec_l5Draw.f s0_0 bt478.2.1 bt478.2.2).bind fun bt483 => (some (a1, wrap64 (1 + bt467.1), bt470.1, wrap64 (1 + bt464.1), wrap64 ((wrap64 (1 + bt464.1)) + bt475.1), bt478.1, bt483.1, bt483.2.1, bt483.2.2.1, bt483.2.2.2)))))))) = some (r1, r2, r3, r4, r5, r6, r7, r8, r9, r10) := h
 clear h
 replace H := Option.bind_eq_some_iff.mp H
 obtain ⟨⟨t464, t465, t466⟩, A30, H⟩ := H
 try dsimp only at H
 have A3 := zK A30
 clear A30
 replace H := Option.bind_eq_some_iff.mp H
 obtain ⟨⟨t467, t468, t469⟩, A40, H⟩ := H
 try dsimp only at H
 have A4 := zK A40
 clear A40
 replace H := Option.bind_eq_some_iff.mp H
 obtain ⟨⟨t470, t473, t474⟩, A50, H⟩ := H
 try dsimp only at H
 have A5 := zK A50
 clear A50
 replace H := Option.bind_eq_some_iff.mp H
 obtain ⟨⟨t475, t476, t477⟩, A60, H⟩ := H
 try dsimp only at H
 have A6 := zK A60
 clear A60
 replace H := Option.bind_eq_some_iff.mp H
 obtain ⟨⟨t478, t481, t482⟩, A70, H⟩ := H
 try dsimp only at H
 have A7 := zK A70
 clear A70
 replace H := Option.bind_eq_some_iff.mp H
 obtain ⟨⟨t483, t484, t485, t486⟩, A80, H⟩ := H
 try dsimp only at H
 have A8 := zK A80
 clear A80
 simp only [Option.some.injEq, Prod.mk.injEq] at H
 obtain ⟨rfl, rfl, rfl, rfl, rfl, rfl, rfl, rfl, rfl, rfl⟩ := H
 go_enter Try.func169, Try.ntmps169
 go_wp2_with (first | ((with_reducible refine gd (N := 4) rfl ?_); refine bE (N := 4) (cs := #[.int .i64 0, .int .i64 0, .slice none 0 0, .int .i64 0, .int .i64 0, .slice none 0 0, .int .i64 0, .int .i64 0]) (t := 41) ?_; intro gb463 hg w9 hbox hb; have _ := zK (IsS173.below M7 hb); have _ := zK (KeepBut.trans M1 (KeepBut.of_below hb g none) (.inl rfl)); have _ := zK (bT M13 hb); have _ := zK (hbox); have _ := zK ((by rw [hg]; exact (keep_size (w := w) (g := g) (row := none) M1) : w.heap.size ≤ gb463)); have _ := zK ((Nat.le_trans HW0.o (by rw [hg]; exact (keep_size (w := w) (g := g) (row := none) M1) : w.heap.size ≤ gb463) : w0.heap.size ≤ gb463)); have _ := zK ((by rw [hg]; exact Nat.ne_of_lt (IsS173.lt (show IsS173 w0 _ g s0_0 s0_1 s0_2 from Q0)) : g ≠ gb463)); have _ := zK ((by rw [hg]; exact Nat.ne_of_gt (IsS173.lt (show IsS173 w0 _ g s0_0 s0_1 s0_2 from Q0)) : gb463 ≠ g)); clear HI0 HK HB; rename_i HI0 HK HB BK463 GW463 GE463 NB0_463 NB463_0; clear hb hbox hg) | ((with_reducible refine gc (f := 108) rfl ?_); refine gL (some 7) Try.func108 #[.pointer (some ⟨g, 0, none⟩), .int .i64 12] ?_; (with_reducible refine (spec_l1Below.calls g s0_0 s0_1 s0_2 12 t464 t465 t466 w0 _ ?side1 ?side2 A3.o).mono ?_); (case side1 => exact Q19); (case side2 => exact J0); rintro e w10 ⟨rfl, hi, hb, hk⟩; refine ⟨_, rfl, ?_⟩; have _ := zK (kB hk BK463.o NB463_0.o); have _ := zK (KeepBut.trans M55 hk (.inl rfl)); have _ := zK (hb); have _ := zK (hi); clear BK463 HK HB HI0; rename_i BK463 HK HB HI0; clear hb hk hi) | ((with_reducible refine gc (f := 108) rfl ?_); refine gL (some 11) Try.func108 #[.pointer (some ⟨g, 0, none⟩), .int .i64 8] ?_; (with_reducible refine (spec_l1Below.calls g s0_0 t465 t466 8 t467 t468 t469 w0 _ ?side1 ?side2 A4.o).mono ?_); (case side1 => exact Q19); (case side2 => exact J0); rintro e w11 ⟨rfl, hi, hb, hk⟩; refine ⟨_, rfl, ?_⟩; have _ := zK (kB hk BK463.o NB463_0.o); have _ := zK (KeepBut.trans M55 hk (.inl rfl)); have _ := zK (hb); have _ := zK (hi); clear BK463 HK HB HI0; rename_i BK463 HK HB HI0; clear hb hk hi) | ((with_reducible refine gc (f := 194) rfl ?_); refine gL (some 14) Try.func194 #[.pointer (some ⟨g, 0, none⟩), .int .i64 0, .int .i64 7, .int .i64 3] ?_; (with_reducible refine (spec_l7Some.calls k g s0_0 t468 t469 0 7 3 t470 t473 t474 w0 _ ?side1 ?side2 A5.o).mono ?_); (case side1 => exact Q19); (case side2 => exact J0); rintro e w12 ⟨v471, rfl, ho0, hi, hb, hk⟩; refine ⟨_, rfl, ?_⟩; have _ := zK (kB hk BK463.o NB463_0.o); have _ := zK (Kd.R_lower ho0 (keep_size (w := w) (g := g) (row := none) M55)); have _ := zK (KeepBut.trans M55 hk (.inl rfl)); have _ := zK (hb); have _ := zK (hi); clear BK463 HK HB HI0; rename_i BK463 HO472 HK HB HI0; clear hb hk hi ho0) | ((with_reducible refine gc (f := 108) rfl ?_); refine gL (some 18) Try.func108 #[.pointer (some ⟨g, 0, none⟩), .int .i64 15] ?_; (with_reducible refine (spec_l1Below.calls g s0_0 t473 t474 15 t475 t476 t477 w0 _ ?side1 ?side2 A6.o).mono ?_); (case side1 => exact Q19); (case side2 => exact J0); rintro e w13 ⟨rfl, hi, hb, hk⟩; refine ⟨_, rfl, ?_⟩; have _ := zK (kB hk BK463.o NB463_0.o); have _ := zK (IsS173.rK (show IsS173 w0 _ g s0_0 t473 t474 from Q19) HO472.o hk); have _ := zK (KeepBut.trans M55 hk (.inl rfl)); have _ := zK (hb); have _ := zK (hi); clear BK463 HO472 HK HB HI0; rename_i BK463 HO472 HK HB HI0; clear hb hk hi) | ((with_reducible refine gc (f := 194) rfl ?_); refine gL (some 21) Try.func194 #[.pointer (some ⟨g, 0, none⟩), .int .i64 1, .int .i64 6, .int .i64 2] ?_; (with_reducible refine (spec_l7Some.calls k g s0_0 t476 t477 1 6 2 t478 t481 t482 w0 _ ?side1 ?side2 A7.o).mono ?_); (case side1 => exact Q19); (case side2 => exact J0); rintro e w14 ⟨v479, rfl, ho0, hi, hb, hk⟩; refine ⟨_, rfl, ?_⟩; have _ := zK (kB hk BK463.o NB463_0.o); have _ := zK (Kd.R_mono (Kd.R_told (Kd.R_oldK (IsS173.apart (show IsS173 w0 _ g s0_0 t476 t477 from Q19) (Kd.qR HO472.o) (by decide)) hk) (Kd.R_base ho0)) (fun _ h_ => h_.1)); have _ := zK (Kd.R_lower (Kd.R_new' ho0 (Kd.R_lt (Kd.qR HO472.o))) (keep_size (w := w) (g := g) (row := none) M55)); have _ := zK (KeepBut.trans M55 hk (.inl rfl)); have _ := zK (hb); have _ := zK (hi); clear BK463 HO472 HK HB HI0; rename_i BK463 HO472 HO480 HK HB HI0; clear hb hk hi ho0) | ((with_reducible refine gc (f := 195) rfl ?_); refine gL (some 23) Try.func195 #[.pointer (some ⟨g, 0, none⟩)] ?_; (with_reducible refine (spec_l5Draw.calls g s0_0 t481 t482 t483 t484 t485 t486 w0 _ ?side1 ?side2 A8.o).mono ?_); (case side1 => exact Q19); (case side2 => exact J0); rintro e w15 ⟨rfl, hi, hb, hk⟩; refine ⟨_, rfl, ?_⟩; have _ := zK (kB hk BK463.o NB463_0.o); have _ := zK (IsS173.rK (show IsS173 w0 _ g s0_0 t481 t482 from Q19) HO472.o hk); have _ := zK (IsS173.rK (show IsS173 w0 _ g s0_0 t481 t482 from Q19) HO480.o hk); have _ := zK (KeepBut.trans M55 hk (.inl rfl)); have _ := zK (hb); have _ := zK (hi); clear BK463 HO472 HO480 HK HB HI0; rename_i BK463 HO472 HO480 HK HB HI0; clear hb hk hi; obtain ⟨Ao16, co16, eo16⟩ := Kd.R_slice HO480.o; subst eo16; obtain ⟨Ao17, co17, eo17⟩ := Kd.R_slice HO472.o; subst eo17; have hnb18 := NB463_0.o; have hnc18 := NB0_463.o; obtain ⟨hcz19_0, hcz19_1, hcz19_2, hcz19_3, hcz19_4, hcz19_5, hcz19_6, hcz19_7, hfz19_0, hfz19_1, hfz19_2, hfz19_3, hfz19_4, hfz19_5, hfz19_6, hfz19_7⟩ := bx8 BK463.o))
 refine bodyPost_ret (results_cell_row rfl _ _ gb463 41 #[.int .i64 a1, .int .i64 (wrap64 (1 + t467)), .slice Ao17 t470.length co17, .int .i64 (wrap64 (1 + t464)), .int .i64 (wrap64 ((wrap64 (1 + t464)) + t475)), .slice Ao16 t478.length co16, .int .i64 t483, .int .i64 t484] (0, 0) _ rfl (qP BK463.o) Try.underlying41 rfl (by kernel_rfl)) rfl ?_
 exact ⟨_, _, o0, Kd.R_mono (Kd.qF HO472.o BK463.o) (fun _ hk => hk.2), Kd.R_mono (Kd.qF HO480.o BK463.o) (fun _ hk => hk.2), Q19, by repeat (first | (with_reducible first | exact HB.o | apply bA | apply bN | apply b1 | refine bS ?_ (IsS173.ge HI0.o) | refine bS ?_ GE463.o) | exact HB.o), by repeat (first | (with_reducible first | exact HK.o | apply KeepBut.set_ | apply keep_drewN | apply keep_drew | apply keep_alloc | refine keep_far ?_ GW463.o _) | exact HK.o)⟩
/-! ### spec_l5Any: function 170 -/
def spec_l5Any.f (s0_0 : List Int) (s0_1 : Int) (s0_2 : Int) : Option (Int × Int × Int × Int) := (spec_l5Draw.f s0_0 s0_1 s0_2).bind fun bt488 => ((spec_l1Below.f s0_0 bt488.2.2.1 bt488.2.2.2 10).bind fun bt493 => (if bt493.1 = 0 then ((spec_l4Raw.f s0_0 bt493.2.1 bt493.2.2).bind fun bt496 => (some (bt496.1, bt488.2.1, bt496.2.1, bt496.2.2))) else (if bt493.1 = 1 then ((spec_l1Int.f s0_0 bt493.2.1 bt493.2.2 (([(-1), 0, 100000, 100001] : List Int))).bind fun bt502 => (some (bt488.1, bt502.1, bt502.2.1, bt502.2.2))) else (some (bt488.1, bt488.2.1, bt493.2.1, bt493.2.2)))))
theorem lf10_2 {p : Prop} (h : p := by
  go_enter Try.func170, Try.ntmps170
  go_wp2_with (first | ((with_reducible refine gd (N := 2) rfl ?_); refine bE (N := 2) (cs := #[.int .i64 0, .int .i64 0]) (t := 39) ?_; intro gb487 hg wz0 hbox hb; have _ := zK (IsS173.below M7 hb); have _ := zK (KeepBut.trans M1 (KeepBut.of_below hb g none) (.inl rfl)); have _ := zK (bT M13 hb); have _ := zK (hbox); have _ := zK ((by rw [hg]; exact (keep_size (w := w) (g := g) (row := none) M1) : w.heap.size ≤ gb487)); have _ := zK ((Nat.le_trans HW0.o (by rw [hg]; exact (keep_size (w := w) (g := g) (row := none) M1) : w.heap.size ≤ gb487) : w0.heap.size ≤ gb487)); have _ := zK ((by rw [hg]; exact Nat.ne_of_lt (IsS173.lt (show IsS173 w0 _ g s0_0 s0_1 s0_2 from Q0)) : g ≠ gb487)); have _ := zK ((by rw [hg]; exact Nat.ne_of_gt (IsS173.lt (show IsS173 w0 _ g s0_0 s0_1 s0_2 from Q0)) : gb487 ≠ g)); clear HI0 HK HB; rename_i HI0 HK HB BK487 GW487 GE487 NB0_487 NB487_0; clear hb hbox hg) | ((with_reducible refine gc (f := 195) rfl ?_); refine gL (some 5) Try.func195 #[.pointer (some ⟨g, 0, none⟩)] ?_; (with_reducible refine (spec_l5Draw.calls g s0_0 s0_1 s0_2 t488 t489 t490 t491 w0 _ ?side1 ?side2 A2.o).mono ?_); (case side1 => exact Q15); (case side2 => exact J11); rintro e wz1 ⟨rfl, hi, hb, hk⟩; refine ⟨_, rfl, ?_⟩; have _ := zK (kB hk BK487.o NB487_0.o); have _ := zK (KeepBut.trans M31 hk (.inl rfl)); have _ := zK (hb); have _ := zK (hi); clear BK487 HK HB HI0; rename_i BK487 HK HB HI0; clear hb hk hi) | ((with_reducible refine gd (N := 3) rfl ?_); refine bE (N := 3) (cs := #[.int .i64 0, .int .i64 0]) (t := 39) ?_; intro gb492 hg wz2 hbox hb; have _ := zK (IsS173.below (Q15) hb); have _ := zK (bB (qK BK487.o) hb); have _ := zK (KeepBut.trans M31 (KeepBut.of_below hb g none) (.inl rfl)); have _ := zK (bT (by repeat (first | (with_reducible first | exact HB.o | apply bA | apply bN | apply b1 | refine bS ?_ (IsS173.ge HI0.o) | refine bS ?_ GE487.o) | exact HB.o)) hb); have _ := zK (hbox); have _ := zK ((by rw [hg]; exact (keep_size (w := w) (g := g) (row := none) M31) : w.heap.size ≤ gb492)); have _ := zK ((Nat.le_trans HW0.o (by rw [hg]; exact (keep_size (w := w) (g := g) (row := none) M31) : w.heap.size ≤ gb492) : w0.heap.size ≤ gb492)); have _ := zK ((by rw [hg]; exact Nat.ne_of_lt (blk_lt (qK BK487.o)) : gb487 ≠ gb492)); have _ := zK ((by rw [hg]; exact Nat.ne_of_gt (blk_lt (qK BK487.o)) : gb492 ≠ gb487)); have _ := zK ((by rw [hg]; exact Nat.ne_of_lt (IsS173.lt (show IsS173 w0 _ g s0_0 t490 t491 from Q15)) : g ≠ gb492)); have _ := zK ((by rw [hg]; exact Nat.ne_of_gt (IsS173.lt (show IsS173 w0 _ g s0_0 t490 t491 from Q15)) : gb492 ≠ g)); clear HI0 BK487 HK HB; rename_i HI0 BK487 HK HB BK492 GW492 GE492 NB487_492 NB492_487 NB0_492 NB492_0; clear hb hbox hg; have hnbz0 := NB492_487.o; have hncz0 := NB487_492.o; have hnbz1 := NB492_0.o; have hncz1 := NB0_492.o; obtain ⟨hczz2_0, hczz2_1, hfzz2_0, hfzz2_1⟩ := bx2 BK492.o) | ((with_reducible refine gc (f := 108) rfl ?_); refine gL (some 7) Try.func108 #[.pointer (some ⟨g, 0, none⟩), .int .i64 10] ?_; (with_reducible refine (spec_l1Below.calls g s0_0 t490 t491 10 t493 t494 t495 w0 _ ?side1 ?side2 A3.o).mono ?_); (case side1 => exact Q16); (case side2 => exact Q23); rintro e wz3 ⟨rfl, hi, hb, hk⟩; refine ⟨_, rfl, ?_⟩; have _ := zK (KeepBut.blk hk (g' := gb487) (o := .cells #[.int .i64 0, .int .i64 0] 39 (0, 0)) (qP BK487.o) NB487_0.o (by simp)); have _ := zK (KeepBut.blk hk (g' := gb492) (o := .cells #[.int .i64 t488, .int .i64 t489] 39 (0, 0)) (qP BK492.o) NB492_0.o (by simp)); have _ := zK (KeepBut.trans M53 hk (.inl rfl)); have _ := zK (hb); have _ := zK (hi); clear BK487 BK492 HK HB HI0; rename_i BK487 BK492 HK HB HI0; clear hb hk hi) | ((with_reducible refine gd (N := 16) rfl ?_); refine Kd.R_lit (Kd.int .i64) _ 3 ?hg (N := 16) ?hd (xs := ([(-1), 0, 100000, 100001] : List Int)) (inner := [.int .i64 (-1), .int .i64 0, .int .i64 100000, .int .i64 100001]) (ok := fun _ => True) (okp := fun _ => True) ?hr ?hp (fun _ hk => hk) trivial (Below.refl _ _) (Nat.le_refl _) (by simp) ?_; (case hd => rfl); (case hg => rfl); (case hr => first | (go_simp; done) | (go_simp; rfl)); (case hp => exact (Reps.one (show Kd.M (Kd.int .i64) _ _ _ (-1) [.int .i64 (-1)] from rfl) (Reps.one (show Kd.M (Kd.int .i64) _ _ _ 0 [.int .i64 0] from rfl) (Reps.one (show Kd.M (Kd.int .i64) _ _ _ 100000 [.int .i64 100000] from rfl) (Reps.one (show Kd.M (Kd.int .i64) _ _ _ 100001 [.int .i64 100001] from rfl) (Reps.none _ _)))))); intro v500 wz4 ho27 hb hg_ hnew_; clear hg_ hnew_; (first | rw [← Ny499.o] at ho27 | (simp only [Int.reduceToNat] at ho27; rw [← Ny499.o] at ho27)); have _ := zK (Kd.R_lower ho27 (keep_size (w := w) (g := g) (row := none) M53)); have _ := zK (IsS173.below (Q16) hb); have _ := zK (bB (qK BK487.o) hb); have _ := zK (bB (qK BK492.o) hb); have _ := zK (KeepBut.trans M53 (KeepBut.of_below hb g none) (.inl rfl)); have _ := zK (bT (Q23) hb); clear HI0 BK487 BK492 HK HB; rename_i HO501 HI0 BK487 BK492 HK HB; clear hb ho27; obtain ⟨Aoz0, coz0, eoz0⟩ := Kd.R_slice HO501.o; subst eoz0) | ((with_reducible refine gc (f := 145) rfl ?_); refine gL (some 17) Try.func145 #[.pointer (some ⟨g, 0, none⟩), .slice Aoz0 y499.length coz0] ?_; (with_reducible refine (spec_l1Int.calls g s0_0 t494 t495 _ _ y499 t502 t503 t504 w0 _ ?side1 ?side2 ?side3 ?side4 ?side5 A18.o).mono ?_); (case side1 => exact Q16); (case side2 => exact Q23); (case side3 => exact Kd.qC (Kd.R_reads' HO501.o).2.2); (case side4 => exact (Kd.R_reads' HO501.o).2.1); (case side5 => exact far_slice (IsS173.own_ne HI0.o HO501.o (by decide))); rintro e wz5 ⟨rfl, hi, hb, hk⟩; refine ⟨_, rfl, ?_⟩; have _ := zK (kB hk BK487.o NB487_0.o); have _ := zK (kB hk BK492.o NB492_0.o); have _ := zK (IsS173.rK (show IsS173 w0 _ g s0_0 t494 t495 from Q16) HO501.o hk); have _ := zK (KeepBut.trans M53 hk (.inl rfl)); have _ := zK (hb); have _ := zK (hi); clear BK487 BK492 HO501 HK HB HI0; rename_i BK487 BK492 HO501 HK HB HI0; clear hb hk hi; obtain ⟨hczz3_0, hczz3_1, hfzz3_0, hfzz3_1⟩ := bx2 BK492.o; have hnbz4 := NB487_0.o; have hncz4 := NB0_487.o; obtain ⟨hczz5_0, hczz5_1, hfzz5_0, hfzz5_1⟩ := bx2 BK487.o) | ((with_reducible refine gc (f := 146) rfl ?_); refine gL (some 11) Try.func146 #[.pointer (some ⟨g, 0, none⟩)] ?_; (with_reducible refine (spec_l4Raw.calls g s0_0 t494 t495 t496 t497 t498 w0 _ ?side1 ?side2 A5.o).mono ?_); (case side1 => exact Q16); (case side2 => exact Q23); rintro e wz4 ⟨rfl, hi, hb, hk⟩; refine ⟨_, rfl, ?_⟩; have _ := zK (kB hk BK487.o NB487_0.o); have _ := zK (kB hk BK492.o NB492_0.o); have _ := zK (KeepBut.trans M53 hk (.inl rfl)); have _ := zK (hb); have _ := zK (hi); clear BK487 BK492 HK HB HI0; rename_i BK487 BK492 HK HB HI0; clear hb hk hi; obtain ⟨hczz3_0, hczz3_1, hfzz3_0, hfzz3_1⟩ := bx2 BK492.o; have hnbz4 := NB487_0.o; have hncz4 := NB0_487.o; obtain ⟨hczz5_0, hczz5_1, hfzz5_0, hfzz5_1⟩ := bx2 BK487.o))
  first
    | refine bodyPost_ret (results_cell_row rfl _ _ gb487 39 #[.int .i64 t488, .int .i64 t502] (0, 0) _ rfl (qP BK487.o) Try.underlying39 rfl (by kernel_rfl)) rfl ?_
      exact ⟨o0, Q16, Q23, Q21⟩
    | refine bodyPost_ret (results_cell_row rfl _ _ gb487 39 #[.int .i64 t496, .int .i64 t489] (0, 0) _ rfl (qP BK487.o) Try.underlying39 rfl (by kernel_rfl)) rfl ?_
      exact ⟨o0, Q16, Q23, Q21⟩) : p := h
theorem spec_l5Any.calls (g : Nat) (s0_0 : List Int) (s0_1 : Int) (s0_2 : Int) (r1 : Int) (r2 : Int) (r3 : Int) (r4 : Int) (w0 w : World) (hI : IsS173 w0 w g s0_0 s0_1 s0_2) (hB : Below w0.heap.size w0 w) (h : spec_l5Any.f s0_0 s0_1 s0_2 = some (r1, r2, r3, r4)) :
  Calls Try.prog 170 #[.pointer (some ⟨g, 0, none⟩)] w fun e w' => e = .returned (.agg #[.int .i64 r1, .int .i64 r2]) ∧ IsS173 w0 w' g s0_0 r3 r4 ∧ Below w0.heap.size w0 w' ∧ KeepBut w w' g none := by
 have hu39 := Try.underlying39
 have HI0 := zK hI
 have HK := zK (KeepBut.refl w g none)
 have HL := zK hB.size
 clear hI
 have HW0 := zK hB.size
 have HB := zK hB
 clear hB
 have H : ((spec_l5Draw.f s0_0 s0_1 s0_2).bind fun bt488 => ((spec_l1Below.f s0_0 bt488.2.2.1 bt488.2.2.2 10).bind fun bt493 => (if bt493.1 = 0 then ((spec_l4Raw.f s0_0 bt493.2.1 bt493.2.2).bind fun bt496 => (some (bt496.1, bt488.2.1, bt496.2.1, bt496.2.2))) else (if bt493.1 = 1 then ((spec_l1Int.f s0_0 bt493.2.1 bt493.2.2 (([(-1), 0, 100000, 100001] : List Int))).bind fun bt502 => (some (bt488.1, bt502.1, bt502.2.1, bt502.2.2))) else (some (bt488.1, bt488.2.1, bt493.2.1, bt493.2.2)))))) = some (r1, r2, r3, r4) := h
 clear h
 replace H := Option.bind_eq_some_iff.mp H
 obtain ⟨⟨t488, t489, t490, t491⟩, A20, H⟩ := H
 try dsimp only at H
 have A2 := zK A20
 clear A20
 replace H := Option.bind_eq_some_iff.mp H
 obtain ⟨⟨t493, t494, t495⟩, A30, H⟩ := H
 try dsimp only at H
 have A3 := zK A30
 clear A30
 by_cases c4 : t493 = 0
 ·rw [if_pos c4] at H
  have c4b0 : (t493 == 0) = true := beq_iff_eq.mpr c4
  have c4b1 : (t493 != 0) = false := bne_eq_false_iff_eq.mpr c4
  clear c4
  replace H := Option.bind_eq_some_iff.mp H
  obtain ⟨⟨t496, t497, t498⟩, A50, H⟩ := H
  try dsimp only at H
  have A5 := zK A50
  clear A50
  simp only [Option.some.injEq, Prod.mk.injEq] at H
  obtain ⟨rfl, rfl, rfl, rfl⟩ := H
  exact lf10_2
 rw [if_neg c4] at H
 have c4b0 : (t493 == 0) = false := beq_eq_false_iff_ne.mpr c4
 have c4b1 : (t493 != 0) = true := bne_iff_ne.mpr c4
 by_cases c17 : t493 = 1
 rotate_left
 ·rw [if_neg c17] at H
  have c17b0 : (t493 == 1) = false := beq_eq_false_iff_ne.mpr c17
  have c17b1 : (t493 != 1) = true := bne_iff_ne.mpr c17
  simp only [Option.some.injEq, Prod.mk.injEq] at H
  obtain ⟨rfl, rfl, rfl, rfl⟩ := H
  go_enter Try.func170, Try.ntmps170
  go_wp2_with (first | ((with_reducible refine gd (N := 2) rfl ?_); refine bE (N := 2) (cs := #[.int .i64 0, .int .i64 0]) (t := 39) ?_; intro gb487 hg w33 hbox hb; have _ := zK (IsS173.below M7 hb); have _ := zK (KeepBut.trans M1 (KeepBut.of_below hb g none) (.inl rfl)); have _ := zK (bT M13 hb); have _ := zK (hbox); have _ := zK ((by rw [hg]; exact (keep_size (w := w) (g := g) (row := none) M1) : w.heap.size ≤ gb487)); have _ := zK ((Nat.le_trans HW0.o (by rw [hg]; exact (keep_size (w := w) (g := g) (row := none) M1) : w.heap.size ≤ gb487) : w0.heap.size ≤ gb487)); have _ := zK ((by rw [hg]; exact Nat.ne_of_lt (IsS173.lt (show IsS173 w0 _ g s0_0 s0_1 s0_2 from Q0)) : g ≠ gb487)); have _ := zK ((by rw [hg]; exact Nat.ne_of_gt (IsS173.lt (show IsS173 w0 _ g s0_0 s0_1 s0_2 from Q0)) : gb487 ≠ g)); clear HI0 HK HB; rename_i HI0 HK HB BK487 GW487 GE487 NB0_487 NB487_0; clear hb hbox hg) | ((with_reducible refine gc (f := 195) rfl ?_); refine gL (some 5) Try.func195 #[.pointer (some ⟨g, 0, none⟩)] ?_; (with_reducible refine (spec_l5Draw.calls g s0_0 s0_1 s0_2 t488 t489 t490 t491 w0 _ ?side1 ?side2 A2.o).mono ?_); (case side1 => exact Q15); (case side2 => exact J11); rintro e w34 ⟨rfl, hi, hb, hk⟩; refine ⟨_, rfl, ?_⟩; have _ := zK (kB hk BK487.o NB487_0.o); have _ := zK (KeepBut.trans M31 hk (.inl rfl)); have _ := zK (hb); have _ := zK (hi); clear BK487 HK HB HI0; rename_i BK487 HK HB HI0; clear hb hk hi) | ((with_reducible refine gd (N := 3) rfl ?_); refine bE (N := 3) (cs := #[.int .i64 0, .int .i64 0]) (t := 39) ?_; intro gb492 hg w35 hbox hb; have _ := zK (IsS173.below (Q15) hb); have _ := zK (bB (qK BK487.o) hb); have _ := zK (KeepBut.trans M31 (KeepBut.of_below hb g none) (.inl rfl)); have _ := zK (bT (by repeat (first | (with_reducible first | exact HB.o | apply bA | apply bN | apply b1 | refine bS ?_ (IsS173.ge HI0.o) | refine bS ?_ GE487.o) | exact HB.o)) hb); have _ := zK (hbox); have _ := zK ((by rw [hg]; exact (keep_size (w := w) (g := g) (row := none) M31) : w.heap.size ≤ gb492)); have _ := zK ((Nat.le_trans HW0.o (by rw [hg]; exact (keep_size (w := w) (g := g) (row := none) M31) : w.heap.size ≤ gb492) : w0.heap.size ≤ gb492)); have _ := zK ((by rw [hg]; exact Nat.ne_of_lt (blk_lt (qK BK487.o)) : gb487 ≠ gb492)); have _ := zK ((by rw [hg]; exact Nat.ne_of_gt (blk_lt (qK BK487.o)) : gb492 ≠ gb487)); have _ := zK ((by rw [hg]; exact Nat.ne_of_lt (IsS173.lt (show IsS173 w0 _ g s0_0 t490 t491 from Q15)) : g ≠ gb492)); have _ := zK ((by rw [hg]; exact Nat.ne_of_gt (IsS173.lt (show IsS173 w0 _ g s0_0 t490 t491 from Q15)) : gb492 ≠ g)); clear HI0 BK487 HK HB; rename_i HI0 BK487 HK HB BK492 GW492 GE492 NB487_492 NB492_487 NB0_492 NB492_0; clear hb hbox hg; have hnb36 := NB492_487.o; have hnc36 := NB487_492.o; have hnb37 := NB492_0.o; have hnc37 := NB0_492.o; obtain ⟨hcz38_0, hcz38_1, hfz38_0, hfz38_1⟩ := bx2 BK492.o) | ((with_reducible refine gc (f := 108) rfl ?_); refine gL (some 7) Try.func108 #[.pointer (some ⟨g, 0, none⟩), .int .i64 10] ?_; (with_reducible refine (spec_l1Below.calls g s0_0 t490 t491 10 t493 t494 t495 w0 _ ?side1 ?side2 A3.o).mono ?_); (case side1 => exact Q16); (case side2 => exact Q23); rintro e w39 ⟨rfl, hi, hb, hk⟩; refine ⟨_, rfl, ?_⟩; have _ := zK (KeepBut.blk hk (g' := gb487) (o := .cells #[.int .i64 0, .int .i64 0] 39 (0, 0)) (qP BK487.o) NB487_0.o (by simp)); have _ := zK (KeepBut.blk hk (g' := gb492) (o := .cells #[.int .i64 t488, .int .i64 t489] 39 (0, 0)) (qP BK492.o) NB492_0.o (by simp)); have _ := zK (KeepBut.trans M53 hk (.inl rfl)); have _ := zK (hb); have _ := zK (hi); clear BK487 BK492 HK HB HI0; rename_i BK487 BK492 HK HB HI0; clear hb hk hi; obtain ⟨hcz40_0, hcz40_1, hfz40_0, hfz40_1⟩ := bx2 BK492.o; have hnb41 := NB487_0.o; have hnc41 := NB0_487.o; obtain ⟨hcz42_0, hcz42_1, hfz42_0, hfz42_1⟩ := bx2 BK487.o))
  refine bodyPost_ret (results_cell_row rfl _ _ gb487 39 #[.int .i64 t488, .int .i64 t489] (0, 0) _ rfl (qP BK487.o) Try.underlying39 rfl (by kernel_rfl)) rfl ?_
  exact ⟨o0, Q16, Q23, Q21⟩

 rw [if_pos c17] at H
 have c17b0 : (t493 == 1) = true := beq_iff_eq.mpr c17
 have c17b1 : (t493 != 1) = false := bne_eq_false_iff_eq.mpr c17
 clear c17
 obtain ⟨y499, hy499⟩ : ∃ y_ : List Int, y_ = (([(-1), 0, 100000, 100001] : List Int)) := ⟨_, rfl⟩
 replace H : ((spec_l1Int.f s0_0 t494 t495 y499).bind fun bt502 => (some (t488, bt502.1, bt502.2.1, bt502.2.2))) = some (r1, r2, r3, r4) := have he_ := hy499; rH
 have Ny499 := zK hy499
 clear hy499
 replace H := Option.bind_eq_some_iff.mp H
 obtain ⟨⟨t502, t503, t504⟩, A180, H⟩ := H
 try dsimp only at H
 have A18 := zK A180
 clear A180
 simp only [Option.some.injEq, Prod.mk.injEq] at H
 obtain ⟨rfl, rfl, rfl, rfl⟩ := H
 exact lf10_2
end Go.Proofs.Ytejhjenlodclpaa.PFnHints
