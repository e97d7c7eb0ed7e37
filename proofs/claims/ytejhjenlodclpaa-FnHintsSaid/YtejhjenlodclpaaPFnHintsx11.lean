/- Walks of functions that FnHints reaches, shortened. -/
import Derived.Test.YtejhjenlodclpaaPFnHintsx0
import Derived.Test.YtejhjenlodclpaaPFnHintsx9
import Derived.Test.YtejhjenlodclpaaPFnHintsx10
namespace Go.Proofs.Ytejhjenlodclpaa.PFnHints
open Go.RowKit Go.Proofs.YtejhjenlodclpaaW.PrintWords Go.Proofs.YtejhjenlodclpaaW.PrintLast Go.Proofs.YtejhjenlodclpaaW.PrintMore
attribute [local go_sem] max2_int min2_int max_two min_two max_three min_three max_four min_four
set_option maxHeartbeats 8000000
set_option maxRecDepth 100000
set_option linter.unusedVariables false
set_option linter.unusedSimpArgs false

/-! ### spec_l7Any: function 128 -/
def spec_l7Any.f (k : Nat) (s0_0 : List Int) (s0_1 : Int) (s0_2 : Int) : Option (Int × Int × List Int × Int × Int × List Int × Int × Int × Int × Int) := (spec_l1Below.f s0_0 s0_1 s0_2 9).bind fun bt506 => ((spec_l7Draw.f k s0_0 bt506.2.1 bt506.2.2 (wrap64 (1 + bt506.1))).bind fun bt509 => ((spec_l1Below.f s0_0 bt509.2.2.2.2.2.2.2.2.1 bt509.2.2.2.2.2.2.2.2.2 14).bind fun bt524 => (if bt524.1 = 0 then ((spec_l1Int.f s0_0 bt524.2.1 bt524.2.2 (([0, 999, 1000] : List Int))).bind fun bt530 => (some (bt530.1, bt509.2.1, bt509.2.2.1, bt509.2.2.2.1, bt509.2.2.2.2.1, bt509.2.2.2.2.2.1, bt509.2.2.2.2.2.2.1, bt509.2.2.2.2.2.2.2.1, bt530.2.1, bt530.2.2))) else (if bt524.1 = 1 then ((spec_l1Int.f s0_0 bt524.2.1 bt524.2.2 (([0, 8, 9] : List Int))).bind fun bt536 => (some (bt509.1, bt536.1, bt509.2.2.1, bt509.2.2.2.1, bt509.2.2.2.2.1, bt509.2.2.2.2.2.1, bt509.2.2.2.2.2.2.1, bt509.2.2.2.2.2.2.2.1, bt536.2.1, bt536.2.2))) else (if bt524.1 = 2 then ((spec_l1Int.f s0_0 bt524.2.1 bt524.2.2 (([(-1), 3, 8] : List Int))).bind fun bt542 => (some (bt509.1, bt509.2.1, (([bt542.1, 3] : List Int)), bt509.2.2.2.1, bt509.2.2.2.2.1, bt509.2.2.2.2.2.1, bt509.2.2.2.2.2.2.1, bt509.2.2.2.2.2.2.2.1, bt542.2.1, bt542.2.2))) else (if bt524.1 = 3 then ((spec_l4Raw.f s0_0 bt524.2.1 bt524.2.2).bind fun bt548 => (some (bt509.1, bt509.2.1, bt509.2.2.1, bt548.1, bt509.2.2.2.2.1, bt509.2.2.2.2.2.1, bt509.2.2.2.2.2.2.1, bt509.2.2.2.2.2.2.2.1, bt548.2.1, bt548.2.2))) else (if bt524.1 = 4 then ((spec_l4Raw.f s0_0 bt524.2.1 bt524.2.2).bind fun bt551 => (some (bt509.1, bt509.2.1, bt509.2.2.1, bt509.2.2.2.1, bt551.1, bt509.2.2.2.2.2.1, bt509.2.2.2.2.2.2.1, bt509.2.2.2.2.2.2.2.1, bt551.2.1, bt551.2.2))) else (if bt524.1 = 5 then ((spec_l1Int.f s0_0 bt524.2.1 bt524.2.2 (([0, 30, 31] : List Int))).bind fun bt557 => (some (bt509.1, bt509.2.1, bt509.2.2.1, bt509.2.2.2.1, bt509.2.2.2.2.1, (([bt557.1] : List Int)), bt509.2.2.2.2.2.2.1, bt509.2.2.2.2.2.2.2.1, bt557.2.1, bt557.2.2))) else (if bt524.1 = 6 then ((spec_l5Any.f s0_0 bt524.2.1 bt524.2.2).bind fun bt563 => (some (bt509.1, bt509.2.1, bt509.2.2.1, bt509.2.2.2.1, bt509.2.2.2.2.1, bt509.2.2.2.2.2.1, bt563.1, bt563.2.1, bt563.2.2.1, bt563.2.2.2))) else (if bt524.1 = 7 then (some (bt509.1, bt509.2.1, ([] : List Int), 1, 50, ([] : List Int), bt509.2.2.2.2.2.2.1, bt509.2.2.2.2.2.2.2.1, bt524.2.1, bt524.2.2)) else (some (bt509.1, bt509.2.1, bt509.2.2.1, bt509.2.2.2.1, bt509.2.2.2.2.1, bt509.2.2.2.2.2.1, bt509.2.2.2.2.2.2.1, bt509.2.2.2.2.2.2.2.1, bt524.2.1, bt524.2.2))))))))))))
theorem lf11_0 {p : Prop} (h : p := by
  go_enter Try.func128, Try.ntmps128
  go_wp2_with (first | ((with_reducible refine gd (N := 2) rfl ?_); refine bE (N := 2) (cs := #[.int .i64 0, .int .i64 0, .slice none 0 0, .int .i64 0, .int .i64 0, .slice none 0 0, .int .i64 0, .int .i64 0]) (t := 41) ?_; intro gb505 hg wz0 hbox hb; have _ := zK (IsS173.below M7 hb); have _ := zK (KeepBut.trans M1 (KeepBut.of_below hb g none) (.inl rfl)); have _ := zK (bT M13 hb); have _ := zK (hbox); have _ := zK ((by rw [hg]; exact (keep_size (w := w) (g := g) (row := none) M1) : w.heap.size ≤ gb505)); have _ := zK ((Nat.le_trans HW0.o (by rw [hg]; exact (keep_size (w := w) (g := g) (row := none) M1) : w.heap.size ≤ gb505) : w0.heap.size ≤ gb505)); have _ := zK ((by rw [hg]; exact Nat.ne_of_lt (IsS173.lt (show IsS173 w0 _ g s0_0 s0_1 s0_2 from Q0)) : g ≠ gb505)); have _ := zK ((by rw [hg]; exact Nat.ne_of_gt (IsS173.lt (show IsS173 w0 _ g s0_0 s0_1 s0_2 from Q0)) : gb505 ≠ g)); clear HI0 HK HB; rename_i HI0 HK HB BK505 GW505 GE505 NB0_505 NB505_0; clear hb hbox hg) | ((with_reducible refine gc (f := 108) rfl ?_); refine gL (some 6) Try.func108 #[.pointer (some ⟨g, 0, none⟩), .int .i64 9] ?_; (with_reducible refine (spec_l1Below.calls g s0_0 s0_1 s0_2 9 t506 t507 t508 w0 _ ?side1 ?side2 A2.o).mono ?_); (case side1 => exact Q17); (case side2 => exact M54); rintro e wz1 ⟨rfl, hi, hb, hk⟩; refine ⟨_, rfl, ?_⟩; have _ := zK (kB hk BK505.o NB505_0.o); have _ := zK (KeepBut.trans M3 hk (.inl rfl)); have _ := zK (hb); have _ := zK (hi); clear BK505 HK HB HI0; rename_i BK505 HK HB HI0; clear hb hk hi) | ((with_reducible refine gc (f := 169) rfl ?_); refine gL (some 8) Try.func169 #[.pointer (some ⟨g, 0, none⟩), .int .i64 (wrap64 (1 + t506))] ?_; (with_reducible refine (spec_l7Draw.calls k g s0_0 t507 t508 (wrap64 (1 + t506)) t509 t510 t511 t514 t515 t516 t519 t520 t521 t522 w0 _ ?side1 ?side2 A3.o).mono ?_); (case side1 => exact Q17); (case side2 => exact M54); rintro e wz2 ⟨v512, v517, rfl, ho0, ho1, hi, hb, hk⟩; refine ⟨_, rfl, ?_⟩; have _ := zK (kB hk BK505.o NB505_0.o); have _ := zK (Kd.R_lower ho0 (keep_size (w := w) (g := g) (row := none) M3)); have _ := zK (Kd.R_lower ho1 (keep_size (w := w) (g := g) (row := none) M3)); have _ := zK (KeepBut.trans M3 hk (.inl rfl)); have _ := zK (hb); have _ := zK (hi); clear BK505 HK HB HI0; rename_i BK505 HO513 HO518 HK HB HI0; clear hb hk hi ho0 ho1) | ((with_reducible refine gd (N := 3) rfl ?_); refine bE (N := 3) (cs := #[.int .i64 0, .int .i64 0, .slice none 0 0, .int .i64 0, .int .i64 0, .slice none 0 0, .int .i64 0, .int .i64 0]) (t := 41) ?_; intro gb523 hg wz3 hbox hb; have _ := zK (Kd.R_below (Kd.qR HO513.o) hb); have _ := zK (Kd.R_below (Kd.qR HO518.o) hb); have _ := zK (IsS173.below M35 hb); have _ := zK (bB (qK BK505.o) hb); have _ := zK (KeepBut.trans M3 (KeepBut.of_below hb g none) (.inl rfl)); have _ := zK (bT M54 hb); have _ := zK (hbox); have _ := zK ((by rw [hg]; exact (keep_size (w := w) (g := g) (row := none) M3) : w.heap.size ≤ gb523)); have _ := zK ((Nat.le_trans HW0.o (by rw [hg]; exact (keep_size (w := w) (g := g) (row := none) M3) : w.heap.size ≤ gb523) : w0.heap.size ≤ gb523)); have _ := zK ((by rw [hg]; exact Nat.ne_of_lt (blk_lt (qK BK505.o)) : gb505 ≠ gb523)); have _ := zK ((by rw [hg]; exact Nat.ne_of_gt (blk_lt (qK BK505.o)) : gb523 ≠ gb505)); have _ := zK ((by rw [hg]; exact Nat.ne_of_lt (IsS173.lt (show IsS173 w0 _ g s0_0 t521 t522 from Q17)) : g ≠ gb523)); have _ := zK ((by rw [hg]; exact Nat.ne_of_gt (IsS173.lt (show IsS173 w0 _ g s0_0 t521 t522 from Q17)) : gb523 ≠ g)); clear HO513 HO518 HI0 BK505 HK HB; rename_i HO513 HO518 HI0 BK505 HK HB BK523 GW523 GE523 NB505_523 NB523_505 NB0_523 NB523_0; clear hb hbox hg; have hnbz0 := NB523_505.o; have hncz0 := NB505_523.o; have hnbz1 := NB523_0.o; have hncz1 := NB0_523.o; obtain ⟨hczz2_0, hczz2_1, hczz2_2, hczz2_3, hczz2_4, hczz2_5, hczz2_6, hczz2_7, hfzz2_0, hfzz2_1, hfzz2_2, hfzz2_3, hfzz2_4, hfzz2_5, hfzz2_6, hfzz2_7⟩ := bx8 BK523.o; obtain ⟨Aoz0, coz0, eoz0⟩ := Kd.R_slice HO513.o; subst eoz0; obtain ⟨Aoz1, coz1, eoz1⟩ := Kd.R_slice HO518.o; subst eoz1) | ((with_reducible refine gc (f := 108) rfl ?_); refine gL (some 10) Try.func108 #[.pointer (some ⟨g, 0, none⟩), .int .i64 14] ?_; (with_reducible refine (spec_l1Below.calls g s0_0 t521 t522 14 t524 t525 t526 w0 _ ?side1 ?side2 A4.o).mono ?_); (case side1 => exact Q1); (case side2 => exact Q12); rintro e wz4 ⟨rfl, hi, hb, hk⟩; refine ⟨_, rfl, ?_⟩; have _ := zK (KeepBut.blk hk (g' := gb505) (o := .cells #[.int .i64 0, .int .i64 0, .slice none 0 0, .int .i64 0, .int .i64 0, .slice none 0 0, .int .i64 0, .int .i64 0] 41 (0, 0)) (qP BK505.o) NB505_0.o (by simp)); have _ := zK (Kd.R_mono (Kd.R_keep (IsS173.apart (show IsS173 w0 _ g s0_0 t521 t522 from Q1) (Kd.qF HO513.o BK523.o) (by decide)) hk (fun _ h => h.2)) (fun _ h => h.1)); have _ := zK (Kd.R_mono (Kd.R_keep (IsS173.apart (show IsS173 w0 _ g s0_0 t521 t522 from Q1) (Kd.qF HO518.o BK523.o) (by decide)) hk (fun _ h => h.2)) (fun _ h => h.1)); have _ := zK (KeepBut.blk hk (g' := gb523) (o := .cells #[.int .i64 t509, .int .i64 t510, .slice Aoz0 t511.length coz0, .int .i64 t514, .int .i64 t515, .slice Aoz1 t516.length coz1, .int .i64 t519, .int .i64 t520] 41 (0, 0)) (qP BK523.o) NB523_0.o (by simp)); have _ := zK (KeepBut.trans M8 hk (.inl rfl)); have _ := zK (hb); have _ := zK (hi); clear BK505 HO513 HO518 BK523 HK HB HI0; rename_i BK505 HO513 HO518 BK523 HK HB HI0; clear hb hk hi) | ((with_reducible refine gd (N := 26) rfl ?_); refine Kd.R_lit (Kd.int .i64) _ 3 ?hg (N := 26) ?hd (xs := ([(-1), 3, 8] : List Int)) (inner := [.int .i64 (-1), .int .i64 3, .int .i64 8]) (ok := fun _ => True) (okp := fun _ => True) ?hr ?hp (fun _ hk => hk) trivial (Below.refl _ _) (Nat.le_refl _) (by simp) ?_; (case hd => rfl); (case hg => rfl); (case hr => first | (go_simp; done) | (go_simp; rfl)); (case hp => exact (Reps.one (show Kd.M (Kd.int .i64) _ _ _ (-1) [.int .i64 (-1)] from rfl) (Reps.one (show Kd.M (Kd.int .i64) _ _ _ 3 [.int .i64 3] from rfl) (Reps.one (show Kd.M (Kd.int .i64) _ _ _ 8 [.int .i64 8] from rfl) (Reps.none _ _))))); intro v540 wz5 ho56 hb hg_ hnew_; clear hg_ hnew_; (first | rw [← Ny539.o] at ho56 | (simp only [Int.reduceToNat] at ho56; rw [← Ny539.o] at ho56)); have _ := zK (Kd.R_elder' (Kd.qR HO513.o) (Kd.R_base ho56) hb); have _ := zK (Kd.R_elder' (Kd.qR HO518.o) (Kd.R_base ho56) hb); have _ := zK (Kd.R_lower (Kd.R_new' (Kd.R_new' ho56 (Kd.R_lt (Kd.qR HO513.o))) (Kd.R_lt (Kd.qR HO518.o))) (keep_size (w := w) (g := g) (row := none) M8)); have _ := zK (IsS173.below M50 hb); have _ := zK (bB (qK BK505.o) hb); have _ := zK (bB (qK BK523.o) hb); have _ := zK (KeepBut.trans M8 (KeepBut.of_below hb g none) (.inl rfl)); have _ := zK (bT M63 hb); clear HO513 HO518 HI0 BK505 BK523 HK HB; rename_i HO513 HO518 HO541 HI0 BK505 BK523 HK HB; clear hb ho56; obtain ⟨Aoz2, coz2, eoz2⟩ := Kd.R_slice HO541.o; subst eoz2) | ((with_reducible refine gc (f := 145) rfl ?_); refine gL (some 27) Try.func145 #[.pointer (some ⟨g, 0, none⟩), .slice Aoz2 y539.length coz2] ?_; (with_reducible refine (spec_l1Int.calls g s0_0 t525 t526 _ _ y539 t542 t543 t544 w0 _ ?side1 ?side2 ?side3 ?side4 ?side5 A44.o).mono ?_); (case side1 => exact Q1); (case side2 => exact Q12); (case side3 => exact Kd.qC (Kd.R_reads' HO541.o).2.2); (case side4 => exact (Kd.R_reads' HO541.o).2.1); (case side5 => exact far_slice (IsS173.own_ne HI0.o HO541.o (by decide))); rintro e wz6 ⟨rfl, hi, hb, hk⟩; refine ⟨_, rfl, ?_⟩; have _ := zK (kB hk BK505.o NB505_0.o); have _ := zK (IsS173.rK (show IsS173 w0 _ g s0_0 t525 t526 from Q1) HO513.o hk); have _ := zK (IsS173.rK (show IsS173 w0 _ g s0_0 t525 t526 from Q1) HO518.o hk); have _ := zK (kB hk BK523.o NB523_0.o); have _ := zK (IsS173.rK (show IsS173 w0 _ g s0_0 t525 t526 from Q1) HO541.o hk); have _ := zK (KeepBut.trans M8 hk (.inl rfl)); have _ := zK (hb); have _ := zK (hi); clear BK505 HO513 HO518 BK523 HO541 HK HB HI0; rename_i BK505 HO513 HO518 BK523 HO541 HK HB HI0; clear hb hk hi) | ((with_reducible refine gd (N := 28) rfl ?_); refine Kd.R_lit (Kd.int .i64) _ 3 ?hg (N := 28) ?hd (xs := ([t542, 3] : List Int)) (inner := [.int .i64 t542, .int .i64 3]) (ok := fun _ => True) (okp := fun _ => True) ?hr ?hp (fun _ hk => hk) trivial (Below.refl _ _) (Nat.le_refl _) (by simp) ?_; (case hd => rfl); (case hg => rfl); (case hr => first | (go_simp; done) | (go_simp; rfl)); (case hp => exact (Reps.one (show Kd.M (Kd.int .i64) _ _ _ t542 [.int .i64 t542] from rfl) (Reps.one (show Kd.M (Kd.int .i64) _ _ _ 3 [.int .i64 3] from rfl) (Reps.none _ _)))); intro v546 wz7 ho60 hb hg_ hnew_; clear hg_ hnew_; (first | rw [← Ny545.o] at ho60 | (simp only [Int.reduceToNat] at ho60; rw [← Ny545.o] at ho60)); have _ := zK (Kd.R_elder' (Kd.qR HO513.o) (Kd.R_base ho60) hb); have _ := zK (Kd.R_elder' (Kd.qR HO518.o) (Kd.R_base ho60) hb); have _ := zK (Kd.R_elder' (Kd.qR HO541.o) (Kd.R_base ho60) hb); have _ := zK (Kd.R_lower (Kd.R_new' (Kd.R_new' (Kd.R_new' ho60 (Kd.R_lt (Kd.qR HO513.o))) (Kd.R_lt (Kd.qR HO518.o))) (Kd.R_lt (Kd.qR HO541.o))) (keep_size (w := w) (g := g) (row := none) M8)); have _ := zK (IsS173.below M50 hb); have _ := zK (bB (qK BK505.o) hb); have _ := zK (bB (qK BK523.o) hb); have _ := zK (KeepBut.trans M8 (KeepBut.of_below hb g none) (.inl rfl)); have _ := zK (bT M63 hb); clear HO513 HO518 HO541 HI0 BK505 BK523 HK HB; rename_i HO513 HO518 HO541 HO547 HI0 BK505 BK523 HK HB; clear hb ho60; obtain ⟨Aoz3, coz3, eoz3⟩ := Kd.R_slice HO547.o; subst eoz3; obtain ⟨hczz3_0, hczz3_1, hczz3_2, hczz3_3, hczz3_4, hczz3_5, hczz3_6, hczz3_7, hfzz3_0, hfzz3_1, hfzz3_2, hfzz3_3, hfzz3_4, hfzz3_5, hfzz3_6, hfzz3_7⟩ := bx8 BK523.o; have hnbz4 := NB505_0.o; have hncz4 := NB0_505.o; obtain ⟨hczz5_0, hczz5_1, hczz5_2, hczz5_3, hczz5_4, hczz5_5, hczz5_6, hczz5_7, hfzz5_0, hfzz5_1, hfzz5_2, hfzz5_3, hfzz5_4, hfzz5_5, hfzz5_6, hfzz5_7⟩ := bx8 BK505.o) | ((with_reducible refine gd (N := 43) rfl ?_); refine Kd.R_lit (Kd.int .i64) _ 3 ?hg (N := 43) ?hd (xs := ([0, 30, 31] : List Int)) (inner := [.int .i64 0, .int .i64 30, .int .i64 31]) (ok := fun _ => True) (okp := fun _ => True) ?hr ?hp (fun _ hk => hk) trivial (Below.refl _ _) (Nat.le_refl _) (by simp) ?_; (case hd => rfl); (case hg => rfl); (case hr => first | (go_simp; done) | (go_simp; rfl)); (case hp => exact (Reps.one (show Kd.M (Kd.int .i64) _ _ _ 0 [.int .i64 0] from rfl) (Reps.one (show Kd.M (Kd.int .i64) _ _ _ 30 [.int .i64 30] from rfl) (Reps.one (show Kd.M (Kd.int .i64) _ _ _ 31 [.int .i64 31] from rfl) (Reps.none _ _))))); intro v555 wz5 ho110 hb hg_ hnew_; clear hg_ hnew_; (first | rw [← Ny554.o] at ho110 | (simp only [Int.reduceToNat] at ho110; rw [← Ny554.o] at ho110)); have _ := zK (Kd.R_elder' (Kd.qR HO513.o) (Kd.R_base ho110) hb); have _ := zK (Kd.R_elder' (Kd.qR HO518.o) (Kd.R_base ho110) hb); have _ := zK (Kd.R_lower (Kd.R_new' (Kd.R_new' ho110 (Kd.R_lt (Kd.qR HO513.o))) (Kd.R_lt (Kd.qR HO518.o))) (keep_size (w := w) (g := g) (row := none) M8)); have _ := zK (IsS173.below M50 hb); have _ := zK (bB (qK BK505.o) hb); have _ := zK (bB (qK BK523.o) hb); have _ := zK (KeepBut.trans M8 (KeepBut.of_below hb g none) (.inl rfl)); have _ := zK (bT M63 hb); clear HO513 HO518 HI0 BK505 BK523 HK HB; rename_i HO513 HO518 HO556 HI0 BK505 BK523 HK HB; clear hb ho110; obtain ⟨Aoz2, coz2, eoz2⟩ := Kd.R_slice HO556.o; subst eoz2) | ((with_reducible refine gc (f := 145) rfl ?_); refine gL (some 44) Try.func145 #[.pointer (some ⟨g, 0, none⟩), .slice Aoz2 y554.length coz2] ?_; (with_reducible refine (spec_l1Int.calls g s0_0 t525 t526 _ _ y554 t557 t558 t559 w0 _ ?side1 ?side2 ?side3 ?side4 ?side5 A98.o).mono ?_); (case side1 => exact Q1); (case side2 => exact Q12); (case side3 => exact Kd.qC (Kd.R_reads' HO556.o).2.2); (case side4 => exact (Kd.R_reads' HO556.o).2.1); (case side5 => exact far_slice (IsS173.own_ne HI0.o HO556.o (by decide))); rintro e wz6 ⟨rfl, hi, hb, hk⟩; refine ⟨_, rfl, ?_⟩; have _ := zK (kB hk BK505.o NB505_0.o); have _ := zK (IsS173.rK (show IsS173 w0 _ g s0_0 t525 t526 from Q1) HO513.o hk); have _ := zK (IsS173.rK (show IsS173 w0 _ g s0_0 t525 t526 from Q1) HO518.o hk); have _ := zK (kB hk BK523.o NB523_0.o); have _ := zK (IsS173.rK (show IsS173 w0 _ g s0_0 t525 t526 from Q1) HO556.o hk); have _ := zK (KeepBut.trans M8 hk (.inl rfl)); have _ := zK (hb); have _ := zK (hi); clear BK505 HO513 HO518 BK523 HO556 HK HB HI0; rename_i BK505 HO513 HO518 BK523 HO556 HK HB HI0; clear hb hk hi) | ((with_reducible refine gd (N := 45) rfl ?_); refine Kd.R_lit (Kd.int .i64) _ 3 ?hg (N := 45) ?hd (xs := ([t557] : List Int)) (inner := [.int .i64 t557]) (ok := fun _ => True) (okp := fun _ => True) ?hr ?hp (fun _ hk => hk) trivial (Below.refl _ _) (Nat.le_refl _) (by simp) ?_; (case hd => rfl); (case hg => rfl); (case hr => first | (go_simp; done) | (go_simp; rfl)); (case hp => exact (Reps.one (show Kd.M (Kd.int .i64) _ _ _ t557 [.int .i64 t557] from rfl) (Reps.none _ _))); intro v561 wz7 ho114 hb hg_ hnew_; clear hg_ hnew_; (first | rw [← Ny560.o] at ho114 | (simp only [Int.reduceToNat] at ho114; rw [← Ny560.o] at ho114)); have _ := zK (Kd.R_elder' (Kd.qR HO513.o) (Kd.R_base ho114) hb); have _ := zK (Kd.R_elder' (Kd.qR HO518.o) (Kd.R_base ho114) hb); have _ := zK (Kd.R_elder' (Kd.qR HO556.o) (Kd.R_base ho114) hb); have _ := zK (Kd.R_lower (Kd.R_new' (Kd.R_new' (Kd.R_new' ho114 (Kd.R_lt (Kd.qR HO513.o))) (Kd.R_lt (Kd.qR HO518.o))) (Kd.R_lt (Kd.qR HO556.o))) (keep_size (w := w) (g := g) (row := none) M8)); have _ := zK (IsS173.below M50 hb); have _ := zK (bB (qK BK505.o) hb); have _ := zK (bB (qK BK523.o) hb); have _ := zK (KeepBut.trans M8 (KeepBut.of_below hb g none) (.inl rfl)); have _ := zK (bT M63 hb); clear HO513 HO518 HO556 HI0 BK505 BK523 HK HB; rename_i HO513 HO518 HO556 HO562 HI0 BK505 BK523 HK HB; clear hb ho114; obtain ⟨Aoz3, coz3, eoz3⟩ := Kd.R_slice HO562.o; subst eoz3; obtain ⟨hczz3_0, hczz3_1, hczz3_2, hczz3_3, hczz3_4, hczz3_5, hczz3_6, hczz3_7, hfzz3_0, hfzz3_1, hfzz3_2, hfzz3_3, hfzz3_4, hfzz3_5, hfzz3_6, hfzz3_7⟩ := bx8 BK523.o; have hnbz4 := NB505_0.o; have hncz4 := NB0_505.o; obtain ⟨hczz5_0, hczz5_1, hczz5_2, hczz5_3, hczz5_4, hczz5_5, hczz5_6, hczz5_7, hfzz5_0, hfzz5_1, hfzz5_2, hfzz5_3, hfzz5_4, hfzz5_5, hfzz5_6, hfzz5_7⟩ := bx8 BK505.o) | ((with_reducible refine gd (N := 14) rfl ?_); refine Kd.R_lit (Kd.int .i64) _ 3 ?hg (N := 14) ?hd (xs := ([0, 999, 1000] : List Int)) (inner := [.int .i64 0, .int .i64 999, .int .i64 1000]) (ok := fun _ => True) (okp := fun _ => True) ?hr ?hp (fun _ hk => hk) trivial (Below.refl _ _) (Nat.le_refl _) (by simp) ?_; (case hd => rfl); (case hg => rfl); (case hr => first | (go_simp; done) | (go_simp; rfl)); (case hp => exact (Reps.one (show Kd.M (Kd.int .i64) _ _ _ 0 [.int .i64 0] from rfl) (Reps.one (show Kd.M (Kd.int .i64) _ _ _ 999 [.int .i64 999] from rfl) (Reps.one (show Kd.M (Kd.int .i64) _ _ _ 1000 [.int .i64 1000] from rfl) (Reps.none _ _))))); intro v528 wz5 ho18 hb hg_ hnew_; clear hg_ hnew_; (first | rw [← Ny527.o] at ho18 | (simp only [Int.reduceToNat] at ho18; rw [← Ny527.o] at ho18)); have _ := zK (Kd.R_elder' (Kd.qR HO513.o) (Kd.R_base ho18) hb); have _ := zK (Kd.R_elder' (Kd.qR HO518.o) (Kd.R_base ho18) hb); have _ := zK (Kd.R_lower (Kd.R_new' (Kd.R_new' ho18 (Kd.R_lt (Kd.qR HO513.o))) (Kd.R_lt (Kd.qR HO518.o))) (keep_size (w := w) (g := g) (row := none) M8)); have _ := zK (IsS173.below M50 hb); have _ := zK (bB (qK BK505.o) hb); have _ := zK (bB (qK BK523.o) hb); have _ := zK (KeepBut.trans M8 (KeepBut.of_below hb g none) (.inl rfl)); have _ := zK (bT M63 hb); clear HO513 HO518 HI0 BK505 BK523 HK HB; rename_i HO513 HO518 HO529 HI0 BK505 BK523 HK HB; clear hb ho18; obtain ⟨Aoz2, coz2, eoz2⟩ := Kd.R_slice HO529.o; subst eoz2) | ((with_reducible refine gc (f := 145) rfl ?_); refine gL (some 15) Try.func145 #[.pointer (some ⟨g, 0, none⟩), .slice Aoz2 y527.length coz2] ?_; (with_reducible refine (spec_l1Int.calls g s0_0 t525 t526 _ _ y527 t530 t531 t532 w0 _ ?side1 ?side2 ?side3 ?side4 ?side5 A6.o).mono ?_); (case side1 => exact Q1); (case side2 => exact Q12); (case side3 => exact Kd.qC (Kd.R_reads' HO529.o).2.2); (case side4 => exact (Kd.R_reads' HO529.o).2.1); (case side5 => exact far_slice (IsS173.own_ne HI0.o HO529.o (by decide))); rintro e wz6 ⟨rfl, hi, hb, hk⟩; refine ⟨_, rfl, ?_⟩; have _ := zK (kB hk BK505.o NB505_0.o); have _ := zK (IsS173.rK (show IsS173 w0 _ g s0_0 t525 t526 from Q1) HO513.o hk); have _ := zK (IsS173.rK (show IsS173 w0 _ g s0_0 t525 t526 from Q1) HO518.o hk); have _ := zK (kB hk BK523.o NB523_0.o); have _ := zK (IsS173.rK (show IsS173 w0 _ g s0_0 t525 t526 from Q1) HO529.o hk); have _ := zK (KeepBut.trans M8 hk (.inl rfl)); have _ := zK (hb); have _ := zK (hi); clear BK505 HO513 HO518 BK523 HO529 HK HB HI0; rename_i BK505 HO513 HO518 BK523 HO529 HK HB HI0; clear hb hk hi; obtain ⟨hczz3_0, hczz3_1, hczz3_2, hczz3_3, hczz3_4, hczz3_5, hczz3_6, hczz3_7, hfzz3_0, hfzz3_1, hfzz3_2, hfzz3_3, hfzz3_4, hfzz3_5, hfzz3_6, hfzz3_7⟩ := bx8 BK523.o; have hnbz4 := NB505_0.o; have hncz4 := NB0_505.o; obtain ⟨hczz5_0, hczz5_1, hczz5_2, hczz5_3, hczz5_4, hczz5_5, hczz5_6, hczz5_7, hfzz5_0, hfzz5_1, hfzz5_2, hfzz5_3, hfzz5_4, hfzz5_5, hfzz5_6, hfzz5_7⟩ := bx8 BK505.o) | ((with_reducible refine gd (N := 20) rfl ?_); refine Kd.R_lit (Kd.int .i64) _ 3 ?hg (N := 20) ?hd (xs := ([0, 8, 9] : List Int)) (inner := [.int .i64 0, .int .i64 8, .int .i64 9]) (ok := fun _ => True) (okp := fun _ => True) ?hr ?hp (fun _ hk => hk) trivial (Below.refl _ _) (Nat.le_refl _) (by simp) ?_; (case hd => rfl); (case hg => rfl); (case hr => first | (go_simp; done) | (go_simp; rfl)); (case hp => exact (Reps.one (show Kd.M (Kd.int .i64) _ _ _ 0 [.int .i64 0] from rfl) (Reps.one (show Kd.M (Kd.int .i64) _ _ _ 8 [.int .i64 8] from rfl) (Reps.one (show Kd.M (Kd.int .i64) _ _ _ 9 [.int .i64 9] from rfl) (Reps.none _ _))))); intro v534 wz5 ho37 hb hg_ hnew_; clear hg_ hnew_; (first | rw [← Ny533.o] at ho37 | (simp only [Int.reduceToNat] at ho37; rw [← Ny533.o] at ho37)); have _ := zK (Kd.R_elder' (Kd.qR HO513.o) (Kd.R_base ho37) hb); have _ := zK (Kd.R_elder' (Kd.qR HO518.o) (Kd.R_base ho37) hb); have _ := zK (Kd.R_lower (Kd.R_new' (Kd.R_new' ho37 (Kd.R_lt (Kd.qR HO513.o))) (Kd.R_lt (Kd.qR HO518.o))) (keep_size (w := w) (g := g) (row := none) M8)); have _ := zK (IsS173.below M50 hb); have _ := zK (bB (qK BK505.o) hb); have _ := zK (bB (qK BK523.o) hb); have _ := zK (KeepBut.trans M8 (KeepBut.of_below hb g none) (.inl rfl)); have _ := zK (bT M63 hb); clear HO513 HO518 HI0 BK505 BK523 HK HB; rename_i HO513 HO518 HO535 HI0 BK505 BK523 HK HB; clear hb ho37; obtain ⟨Aoz2, coz2, eoz2⟩ := Kd.R_slice HO535.o; subst eoz2) | ((with_reducible refine gc (f := 145) rfl ?_); refine gL (some 21) Try.func145 #[.pointer (some ⟨g, 0, none⟩), .slice Aoz2 y533.length coz2] ?_; (with_reducible refine (spec_l1Int.calls g s0_0 t525 t526 _ _ y533 t536 t537 t538 w0 _ ?side1 ?side2 ?side3 ?side4 ?side5 A25.o).mono ?_); (case side1 => exact Q1); (case side2 => exact Q12); (case side3 => exact Kd.qC (Kd.R_reads' HO535.o).2.2); (case side4 => exact (Kd.R_reads' HO535.o).2.1); (case side5 => exact far_slice (IsS173.own_ne HI0.o HO535.o (by decide))); rintro e wz6 ⟨rfl, hi, hb, hk⟩; refine ⟨_, rfl, ?_⟩; have _ := zK (kB hk BK505.o NB505_0.o); have _ := zK (IsS173.rK (show IsS173 w0 _ g s0_0 t525 t526 from Q1) HO513.o hk); have _ := zK (IsS173.rK (show IsS173 w0 _ g s0_0 t525 t526 from Q1) HO518.o hk); have _ := zK (kB hk BK523.o NB523_0.o); have _ := zK (IsS173.rK (show IsS173 w0 _ g s0_0 t525 t526 from Q1) HO535.o hk); have _ := zK (KeepBut.trans M8 hk (.inl rfl)); have _ := zK (hb); have _ := zK (hi); clear BK505 HO513 HO518 BK523 HO535 HK HB HI0; rename_i BK505 HO513 HO518 BK523 HO535 HK HB HI0; clear hb hk hi; obtain ⟨hczz3_0, hczz3_1, hczz3_2, hczz3_3, hczz3_4, hczz3_5, hczz3_6, hczz3_7, hfzz3_0, hfzz3_1, hfzz3_2, hfzz3_3, hfzz3_4, hfzz3_5, hfzz3_6, hfzz3_7⟩ := bx8 BK523.o; have hnbz4 := NB505_0.o; have hncz4 := NB0_505.o; obtain ⟨hczz5_0, hczz5_1, hczz5_2, hczz5_3, hczz5_4, hczz5_5, hczz5_6, hczz5_7, hfzz5_0, hfzz5_1, hfzz5_2, hfzz5_3, hfzz5_4, hfzz5_5, hfzz5_6, hfzz5_7⟩ := bx8 BK505.o) | ((with_reducible refine gc (f := 170) rfl ?_); refine gL (some 50) Try.func170 #[.pointer (some ⟨g, 0, none⟩)] ?_; (with_reducible refine (spec_l5Any.calls g s0_0 t525 t526 t563 t564 t565 t566 w0 _ ?side1 ?side2 A120.o).mono ?_); (case side1 => exact Q1); (case side2 => exact Q12); rintro e wz5 ⟨rfl, hi, hb, hk⟩; refine ⟨_, rfl, ?_⟩; have _ := zK (kB hk BK505.o NB505_0.o); have _ := zK (IsS173.rK (show IsS173 w0 _ g s0_0 t525 t526 from Q1) HO513.o hk); have _ := zK (IsS173.rK (show IsS173 w0 _ g s0_0 t525 t526 from Q1) HO518.o hk); have _ := zK (kB hk BK523.o NB523_0.o); have _ := zK (KeepBut.trans M8 hk (.inl rfl)); have _ := zK (hb); have _ := zK (hi); clear BK505 HO513 HO518 BK523 HK HB HI0; rename_i BK505 HO513 HO518 BK523 HK HB HI0; clear hb hk hi; obtain ⟨hczz3_0, hczz3_1, hczz3_2, hczz3_3, hczz3_4, hczz3_5, hczz3_6, hczz3_7, hfzz3_0, hfzz3_1, hfzz3_2, hfzz3_3, hfzz3_4, hfzz3_5, hfzz3_6, hfzz3_7⟩ := bx8 BK523.o; have hnbz4 := NB505_0.o; have hncz4 := NB0_505.o; obtain ⟨hczz5_0, hczz5_1, hczz5_2, hczz5_3, hczz5_4, hczz5_5, hczz5_6, hczz5_7, hfzz5_0, hfzz5_1, hfzz5_2, hfzz5_3, hfzz5_4, hfzz5_5, hfzz5_6, hfzz5_7⟩ := bx8 BK505.o) | ((with_reducible refine gc (f := 146) rfl ?_); refine gL (some 33) Try.func146 #[.pointer (some ⟨g, 0, none⟩)] ?_; (with_reducible refine (spec_l4Raw.calls g s0_0 t525 t526 t548 t549 t550 w0 _ ?side1 ?side2 A66.o).mono ?_); (case side1 => exact Q1); (case side2 => exact Q12); rintro e wz5 ⟨rfl, hi, hb, hk⟩; refine ⟨_, rfl, ?_⟩; have _ := zK (kB hk BK505.o NB505_0.o); have _ := zK (IsS173.rK (show IsS173 w0 _ g s0_0 t525 t526 from Q1) HO513.o hk); have _ := zK (IsS173.rK (show IsS173 w0 _ g s0_0 t525 t526 from Q1) HO518.o hk); have _ := zK (kB hk BK523.o NB523_0.o); have _ := zK (KeepBut.trans M8 hk (.inl rfl)); have _ := zK (hb); have _ := zK (hi); clear BK505 HO513 HO518 BK523 HK HB HI0; rename_i BK505 HO513 HO518 BK523 HK HB HI0; clear hb hk hi; obtain ⟨hczz3_0, hczz3_1, hczz3_2, hczz3_3, hczz3_4, hczz3_5, hczz3_6, hczz3_7, hfzz3_0, hfzz3_1, hfzz3_2, hfzz3_3, hfzz3_4, hfzz3_5, hfzz3_6, hfzz3_7⟩ := bx8 BK523.o; have hnbz4 := NB505_0.o; have hncz4 := NB0_505.o; obtain ⟨hczz5_0, hczz5_1, hczz5_2, hczz5_3, hczz5_4, hczz5_5, hczz5_6, hczz5_7, hfzz5_0, hfzz5_1, hfzz5_2, hfzz5_3, hfzz5_4, hfzz5_5, hfzz5_6, hfzz5_7⟩ := bx8 BK505.o) | ((with_reducible refine gc (f := 146) rfl ?_); refine gL (some 38) Try.func146 #[.pointer (some ⟨g, 0, none⟩)] ?_; (with_reducible refine (spec_l4Raw.calls g s0_0 t525 t526 t551 t552 t553 w0 _ ?side1 ?side2 A82.o).mono ?_); (case side1 => exact Q1); (case side2 => exact Q12); rintro e wz5 ⟨rfl, hi, hb, hk⟩; refine ⟨_, rfl, ?_⟩; have _ := zK (kB hk BK505.o NB505_0.o); have _ := zK (IsS173.rK (show IsS173 w0 _ g s0_0 t525 t526 from Q1) HO513.o hk); have _ := zK (IsS173.rK (show IsS173 w0 _ g s0_0 t525 t526 from Q1) HO518.o hk); have _ := zK (kB hk BK523.o NB523_0.o); have _ := zK (KeepBut.trans M8 hk (.inl rfl)); have _ := zK (hb); have _ := zK (hi); clear BK505 HO513 HO518 BK523 HK HB HI0; rename_i BK505 HO513 HO518 BK523 HK HB HI0; clear hb hk hi; obtain ⟨hczz3_0, hczz3_1, hczz3_2, hczz3_3, hczz3_4, hczz3_5, hczz3_6, hczz3_7, hfzz3_0, hfzz3_1, hfzz3_2, hfzz3_3, hfzz3_4, hfzz3_5, hfzz3_6, hfzz3_7⟩ := bx8 BK523.o; have hnbz4 := NB505_0.o; have hncz4 := NB0_505.o; obtain ⟨hczz5_0, hczz5_1, hczz5_2, hczz5_3, hczz5_4, hczz5_5, hczz5_6, hczz5_7, hfzz5_0, hfzz5_1, hfzz5_2, hfzz5_3, hfzz5_4, hfzz5_5, hfzz5_6, hfzz5_7⟩ := bx8 BK505.o))
  first
    | refine bodyPost_ret (results_cell_row rfl _ _ gb505 41 #[.int .i64 t509, .int .i64 t510, .slice Aoz3 y545.length coz3, .int .i64 t514, .int .i64 t515, .slice Aoz1 t516.length coz1, .int .i64 t519, .int .i64 t520] (0, 0) _ rfl (qP BK505.o) Try.underlying41 rfl (by kernel_rfl)) rfl ?_
      exact ⟨_, _, o0, Kd.R_mono (Kd.qG HO547.o BK523.o BK505.o) (fun _ hk => hk.1.2), Kd.R_mono (Kd.qG HO518.o BK523.o BK505.o) (fun _ hk => hk.2), Q1, Q12, Q11⟩
    | refine bodyPost_ret (results_cell_row rfl _ _ gb505 41 #[.int .i64 t509, .int .i64 t510, .slice Aoz0 t511.length coz0, .int .i64 t514, .int .i64 t515, .slice Aoz3 y560.length coz3, .int .i64 t519, .int .i64 t520] (0, 0) _ rfl (qP BK505.o) Try.underlying41 rfl (by kernel_rfl)) rfl ?_
      exact ⟨_, _, o0, Kd.R_mono (Kd.qG HO513.o BK523.o BK505.o) (fun _ hk => hk.2), Kd.R_mono (Kd.qG HO562.o BK523.o BK505.o) (fun _ hk => hk.1.1.2), Q1, Q12, Q11⟩
    | refine bodyPost_ret (results_cell_row rfl _ _ gb505 41 #[.int .i64 t530, .int .i64 t510, .slice Aoz0 t511.length coz0, .int .i64 t514, .int .i64 t515, .slice Aoz1 t516.length coz1, .int .i64 t519, .int .i64 t520] (0, 0) _ rfl (qP BK505.o) Try.underlying41 rfl (by kernel_rfl)) rfl ?_
      exact ⟨_, _, o0, Kd.R_mono (Kd.qG HO513.o BK523.o BK505.o) (fun _ hk => hk.1), Kd.R_mono (Kd.qG HO518.o BK523.o BK505.o) (fun _ hk => hk.1), Q1, Q12, Q11⟩
    | refine bodyPost_ret (results_cell_row rfl _ _ gb505 41 #[.int .i64 t509, .int .i64 t536, .slice Aoz0 t511.length coz0, .int .i64 t514, .int .i64 t515, .slice Aoz1 t516.length coz1, .int .i64 t519, .int .i64 t520] (0, 0) _ rfl (qP BK505.o) Try.underlying41 rfl (by kernel_rfl)) rfl ?_
      exact ⟨_, _, o0, Kd.R_mono (Kd.qG HO513.o BK523.o BK505.o) (fun _ hk => hk.1), Kd.R_mono (Kd.qG HO518.o BK523.o BK505.o) (fun _ hk => hk.1), Q1, Q12, Q11⟩
    | refine bodyPost_ret (results_cell_row rfl _ _ gb505 41 #[.int .i64 t509, .int .i64 t510, .slice Aoz0 t511.length coz0, .int .i64 t514, .int .i64 t515, .slice Aoz1 t516.length coz1, .int .i64 t563, .int .i64 t564] (0, 0) _ rfl (qP BK505.o) Try.underlying41 rfl (by kernel_rfl)) rfl ?_
      exact ⟨_, _, o0, Kd.qG HO513.o BK523.o BK505.o, Kd.qG HO518.o BK523.o BK505.o, Q1, Q12, Q11⟩
    | refine bodyPost_ret (results_cell_row rfl _ _ gb505 41 #[.int .i64 t509, .int .i64 t510, .slice Aoz0 t511.length coz0, .int .i64 t548, .int .i64 t515, .slice Aoz1 t516.length coz1, .int .i64 t519, .int .i64 t520] (0, 0) _ rfl (qP BK505.o) Try.underlying41 rfl (by kernel_rfl)) rfl ?_
      exact ⟨_, _, o0, Kd.qG HO513.o BK523.o BK505.o, Kd.qG HO518.o BK523.o BK505.o, Q1, Q12, Q11⟩
    | refine bodyPost_ret (results_cell_row rfl _ _ gb505 41 #[.int .i64 t509, .int .i64 t510, .slice Aoz0 t511.length coz0, .int .i64 t514, .int .i64 t551, .slice Aoz1 t516.length coz1, .int .i64 t519, .int .i64 t520] (0, 0) _ rfl (qP BK505.o) Try.underlying41 rfl (by kernel_rfl)) rfl ?_
      exact ⟨_, _, o0, Kd.qG HO513.o BK523.o BK505.o, Kd.qG HO518.o BK523.o BK505.o, Q1, Q12, Q11⟩) : p := h
theorem lf11_1 {p : Prop} (h : p := by
  go_enter Try.func128, Try.ntmps128
  go_wp2_with (first | ((with_reducible refine gd (N := 2) rfl ?_); refine bE (N := 2) (cs := #[.int .i64 0, .int .i64 0, .slice none 0 0, .int .i64 0, .int .i64 0, .slice none 0 0, .int .i64 0, .int .i64 0]) (t := 41) ?_; intro gb505 hg wz0 hbox hb; have _ := zK (IsS173.below M7 hb); have _ := zK (KeepBut.trans M1 (KeepBut.of_below hb g none) (.inl rfl)); have _ := zK (bT M13 hb); have _ := zK (hbox); have _ := zK ((by rw [hg]; exact (keep_size (w := w) (g := g) (row := none) M1) : w.heap.size ≤ gb505)); have _ := zK ((Nat.le_trans HW0.o (by rw [hg]; exact (keep_size (w := w) (g := g) (row := none) M1) : w.heap.size ≤ gb505) : w0.heap.size ≤ gb505)); have _ := zK ((by rw [hg]; exact Nat.ne_of_lt (IsS173.lt (show IsS173 w0 _ g s0_0 s0_1 s0_2 from Q0)) : g ≠ gb505)); have _ := zK ((by rw [hg]; exact Nat.ne_of_gt (IsS173.lt (show IsS173 w0 _ g s0_0 s0_1 s0_2 from Q0)) : gb505 ≠ g)); clear HI0 HK HB; rename_i HI0 HK HB BK505 GW505 GE505 NB0_505 NB505_0; clear hb hbox hg) | ((with_reducible refine gc (f := 108) rfl ?_); refine gL (some 6) Try.func108 #[.pointer (some ⟨g, 0, none⟩), .int .i64 9] ?_; (with_reducible refine (spec_l1Below.calls g s0_0 s0_1 s0_2 9 t506 t507 t508 w0 _ ?side1 ?side2 A2.o).mono ?_); (case side1 => exact Q17); (case side2 => exact M54); rintro e wz1 ⟨rfl, hi, hb, hk⟩; refine ⟨_, rfl, ?_⟩; have _ := zK (kB hk BK505.o NB505_0.o); have _ := zK (KeepBut.trans M3 hk (.inl rfl)); have _ := zK (hb); have _ := zK (hi); clear BK505 HK HB HI0; rename_i BK505 HK HB HI0; clear hb hk hi) | ((with_reducible refine gc (f := 169) rfl ?_); refine gL (some 8) Try.func169 #[.pointer (some ⟨g, 0, none⟩), .int .i64 (wrap64 (1 + t506))] ?_; (with_reducible refine (spec_l7Draw.calls k g s0_0 t507 t508 (wrap64 (1 + t506)) t509 t510 t511 t514 t515 t516 t519 t520 t521 t522 w0 _ ?side1 ?side2 A3.o).mono ?_); (case side1 => exact Q17); (case side2 => exact M54); rintro e wz2 ⟨v512, v517, rfl, ho0, ho1, hi, hb, hk⟩; refine ⟨_, rfl, ?_⟩; have _ := zK (kB hk BK505.o NB505_0.o); have _ := zK (Kd.R_lower ho0 (keep_size (w := w) (g := g) (row := none) M3)); have _ := zK (Kd.R_lower ho1 (keep_size (w := w) (g := g) (row := none) M3)); have _ := zK (KeepBut.trans M3 hk (.inl rfl)); have _ := zK (hb); have _ := zK (hi); clear BK505 HK HB HI0; rename_i BK505 HO513 HO518 HK HB HI0; clear hb hk hi ho0 ho1) | ((with_reducible refine gd (N := 3) rfl ?_); refine bE (N := 3) (cs := #[.int .i64 0, .int .i64 0, .slice none 0 0, .int .i64 0, .int .i64 0, .slice none 0 0, .int .i64 0, .int .i64 0]) (t := 41) ?_; intro gb523 hg wz3 hbox hb; have _ := zK (Kd.R_below (Kd.qR HO513.o) hb); have _ := zK (Kd.R_below (Kd.qR HO518.o) hb); have _ := zK (IsS173.below M35 hb); have _ := zK (bB (qK BK505.o) hb); have _ := zK (KeepBut.trans M3 (KeepBut.of_below hb g none) (.inl rfl)); have _ := zK (bT M54 hb); have _ := zK (hbox); have _ := zK ((by rw [hg]; exact (keep_size (w := w) (g := g) (row := none) M3) : w.heap.size ≤ gb523)); have _ := zK ((Nat.le_trans HW0.o (by rw [hg]; exact (keep_size (w := w) (g := g) (row := none) M3) : w.heap.size ≤ gb523) : w0.heap.size ≤ gb523)); have _ := zK ((by rw [hg]; exact Nat.ne_of_lt (blk_lt (qK BK505.o)) : gb505 ≠ gb523)); have _ := zK ((by rw [hg]; exact Nat.ne_of_gt (blk_lt (qK BK505.o)) : gb523 ≠ gb505)); have _ := zK ((by rw [hg]; exact Nat.ne_of_lt (IsS173.lt (show IsS173 w0 _ g s0_0 t521 t522 from Q17)) : g ≠ gb523)); have _ := zK ((by rw [hg]; exact Nat.ne_of_gt (IsS173.lt (show IsS173 w0 _ g s0_0 t521 t522 from Q17)) : gb523 ≠ g)); clear HO513 HO518 HI0 BK505 HK HB; rename_i HO513 HO518 HI0 BK505 HK HB BK523 GW523 GE523 NB505_523 NB523_505 NB0_523 NB523_0; clear hb hbox hg; have hnbz0 := NB523_505.o; have hncz0 := NB505_523.o; have hnbz1 := NB523_0.o; have hncz1 := NB0_523.o; obtain ⟨hczz2_0, hczz2_1, hczz2_2, hczz2_3, hczz2_4, hczz2_5, hczz2_6, hczz2_7, hfzz2_0, hfzz2_1, hfzz2_2, hfzz2_3, hfzz2_4, hfzz2_5, hfzz2_6, hfzz2_7⟩ := bx8 BK523.o; obtain ⟨Aoz0, coz0, eoz0⟩ := Kd.R_slice HO513.o; subst eoz0; obtain ⟨Aoz1, coz1, eoz1⟩ := Kd.R_slice HO518.o; subst eoz1) | ((with_reducible refine gc (f := 108) rfl ?_); refine gL (some 10) Try.func108 #[.pointer (some ⟨g, 0, none⟩), .int .i64 14] ?_; (with_reducible refine (spec_l1Below.calls g s0_0 t521 t522 14 t524 t525 t526 w0 _ ?side1 ?side2 A4.o).mono ?_); (case side1 => exact Q1); (case side2 => exact Q12); rintro e wz4 ⟨rfl, hi, hb, hk⟩; refine ⟨_, rfl, ?_⟩; have _ := zK (KeepBut.blk hk (g' := gb505) (o := .cells #[.int .i64 0, .int .i64 0, .slice none 0 0, .int .i64 0, .int .i64 0, .slice none 0 0, .int .i64 0, .int .i64 0] 41 (0, 0)) (qP BK505.o) NB505_0.o (by simp)); have _ := zK (Kd.R_mono (Kd.R_keep (IsS173.apart (show IsS173 w0 _ g s0_0 t521 t522 from Q1) (Kd.qF HO513.o BK523.o) (by decide)) hk (fun _ h => h.2)) (fun _ h => h.1)); have _ := zK (Kd.R_mono (Kd.R_keep (IsS173.apart (show IsS173 w0 _ g s0_0 t521 t522 from Q1) (Kd.qF HO518.o BK523.o) (by decide)) hk (fun _ h => h.2)) (fun _ h => h.1)); have _ := zK (KeepBut.blk hk (g' := gb523) (o := .cells #[.int .i64 t509, .int .i64 t510, .slice Aoz0 t511.length coz0, .int .i64 t514, .int .i64 t515, .slice Aoz1 t516.length coz1, .int .i64 t519, .int .i64 t520] 41 (0, 0)) (qP BK523.o) NB523_0.o (by simp)); have _ := zK (KeepBut.trans M8 hk (.inl rfl)); have _ := zK (hb); have _ := zK (hi); clear BK505 HO513 HO518 BK523 HK HB HI0; rename_i BK505 HO513 HO518 BK523 HK HB HI0; clear hb hk hi; obtain ⟨hczz3_0, hczz3_1, hczz3_2, hczz3_3, hczz3_4, hczz3_5, hczz3_6, hczz3_7, hfzz3_0, hfzz3_1, hfzz3_2, hfzz3_3, hfzz3_4, hfzz3_5, hfzz3_6, hfzz3_7⟩ := bx8 BK523.o; have hnbz4 := NB505_0.o; have hncz4 := NB0_505.o; obtain ⟨hczz5_0, hczz5_1, hczz5_2, hczz5_3, hczz5_4, hczz5_5, hczz5_6, hczz5_7, hfzz5_0, hfzz5_1, hfzz5_2, hfzz5_3, hfzz5_4, hfzz5_5, hfzz5_6, hfzz5_7⟩ := bx8 BK505.o))
  first
    | refine bodyPost_ret (results_cell_row rfl _ _ gb505 41 #[.int .i64 t509, .int .i64 t510, .slice none 0 0, .int .i64 1, .int .i64 50, .slice none 0 0, .int .i64 t519, .int .i64 t520] (0, 0) _ rfl (qP BK505.o) Try.underlying41 rfl (by kernel_rfl)) rfl ?_
      exact ⟨_, _, o0, by first | exact Kd.R_nil _ _ _ _ _ | exact Kd.N_nil _ _ _ _ _ | exact Kd.V_nil _ _ _ _ _ | exact Kd.Q_nil _ _ _ _ _ | exact Kd.S_nil _ _ _ _ _, by first | exact Kd.R_nil _ _ _ _ _ | exact Kd.N_nil _ _ _ _ _ | exact Kd.V_nil _ _ _ _ _ | exact Kd.Q_nil _ _ _ _ _ | exact Kd.S_nil _ _ _ _ _, Q1, Q12, Q11⟩
    | refine bodyPost_ret (results_cell_row rfl _ _ gb505 41 #[.int .i64 t509, .int .i64 t510, .slice Aoz0 t511.length coz0, .int .i64 t514, .int .i64 t515, .slice Aoz1 t516.length coz1, .int .i64 t519, .int .i64 t520] (0, 0) _ rfl (qP BK505.o) Try.underlying41 rfl (by kernel_rfl)) rfl ?_
      exact ⟨_, _, o0, Kd.qF HO513.o BK505.o, Kd.qF HO518.o BK505.o, Q1, Q12, Q11⟩) : p := h
theorem spec_l7Any.calls (k : Nat) (g : Nat) (s0_0 : List Int) (s0_1 : Int) (s0_2 : Int) (r1 : Int) (r2 : Int) (r3 : List Int) (r4 : Int) (r5 : Int) (r6 : List Int) (r7 : Int) (r8 : Int) (r9 : Int) (r10 : Int) (w0 w : World) (hI : IsS173 w0 w g s0_0 s0_1 s0_2) (hB : Below w0.heap.size w0 w) (h : spec_l7Any.f k s0_0 s0_1 s0_2 = some (r1, r2, r3, r4, r5, r6, r7, r8, r9, r10)) :
  Calls Try.prog 128 #[.pointer (some ⟨g, 0, none⟩)] w fun e w' => ∃ v2_ v5_ : Value, e = .returned (.agg #[.int .i64 r1, .int .i64 r2, v2_, .int .i64 r4, .int .i64 r5, v5_, .int .i64 r7, .int .i64 r8]) ∧ Kd.R (Kd.int .i64) 3 w' w.heap.size (fun k_ => some k_ ≠ (v5_ : Value).ownBlock) v2_ r3 ∧ Kd.R (Kd.int .i64) 3 w' w.heap.size (fun k_ => some k_ ≠ (v2_ : Value).ownBlock) v5_ r6 ∧ IsS173 w0 w' g s0_0 r9 r10 ∧ Below w0.heap.size w0 w' ∧ KeepBut w w' g none := by
 have hu41 := Try.underlying41
 have hu39 := Try.underlying39
 have HI0 := zK hI
 have HK := zK (KeepBut.refl w g none)
 have HL := zK hB.size
 clear hI
 have HW0 := zK hB.size
 have HB := zK hB
 clear hB
 have H : ((spec_l1Below.f s0_0 s0_1 s0_2 9).bind fun bt506 => ((spec_l7Draw.f k s0_0 bt506.2.1 bt506.2.2 (wrap64 (1 + bt506.1))).bind fun bt509 => ((spec_l1Below.f s0_0 bt509.2.2.2.2.2.2.2.2.1 bt509.2.2.2.2.2.2.2.2.2 14).bind fun bt524 => (if bt524.1 = 0 then ((spec_l1Int.f s0_0 bt524.2.1 bt524.2.2 (([0, 999, 1000] : List Int))).bind fun bt530 => (some (bt530.1, bt509.2.1, bt509.2.2.1, bt509.2.2.2.1, bt509.2.2.2.2.1, bt509.2.2.2.2.2.1, bt509.2.2.2.2.2.2.1, bt509.2.2.2.2.2.2.2.1, bt530.2.1, bt530.2.2))) else (if bt524.1 = 1 then ((spec_l1Int.f s0_0 bt524.2.1 bt524.2.2 (([0, 8, 9] : List Int))).bind fun bt536 => (some (bt509.1, bt536.1, bt509.2.2.1, bt509.2.2.2.1, bt509.2.2.2.2.1, bt509.2.2.2.2.2.1, bt509.2.2.2.2.2.2.1, bt509.2.2.2.2.2.2.2.1, bt536.2.1, bt536.2.2))) else (if bt524.1 = 2 then ((spec_l1Int.f s0_0 bt524.2.1 bt524.2.2 (([(-1), 3, 8] : List Int))).bind fun bt542 => (some (bt509.1, bt509.2.1, (([bt542.1, 3] : List Int)), bt509.2.2.2.1, bt509.2.2.2.2.1, bt509.2.2.2.2.2.1, bt509.2.2.2.2.2.2.1, bt509.2.2.2.2.2.2.2.1, bt542.2.1, bt542.2.2))) else (if bt524.1 = 3 then ((spec_l4Raw.f s0_0 bt524.2.1 bt524.2.2).bind fun bt548 => (some (bt509.1, bt509.2.1, bt509.2.2.1, bt548.1, bt509.2.2.2.2.1, bt509.2.2.2.2.2.1, bt509.2.2.2.2.2.2.1, bt509.2.2.2.2.2.2.2.1, bt548.2.1, bt548.2.2))) else (if bt524.1 = 4 then ((spec_l4Raw.f s0_0 bt524.2.1 bt524.2.2).bind fun bt551 => (some (bt509.1, bt509.2.1, bt509.2.2.1, bt509.2.2.2.1, bt551.1, bt509.2.2.2.2.2.1, bt509.2.2.2.2.2.2.1, bt509.2.2.2.2.2.2.2.1, bt551.2.1, bt551.2.2))) else (if bt524.1 = 5 then ((spec_l1Int.f s0_0 bt524.2.1 bt524.2.2 (([0, 30, 31] : List Int))).bind fun bt557 => (some (bt509.1, bt509.2.1, bt509.2.2.1, bt509.2.2.2.1, bt509.2.2.2.2.1, (([bt557.1] : List Int)), bt509.2.2.2.2.2.2.1, bt509.2.2.2.2.2.2.2.1, bt557.2.1, bt557.2.2))) else (if bt524.1 = 6 then ((spec_l5Any.f s0_0 bt524.2.1 bt524.2.2).bind fun bt563 => (some (bt509.1, bt509.2.1, bt509.2.2.1, bt509.2.2.2.1, bt509.2.2.2.2.1, bt509.2.2.2.2.2.1, bt563.1, bt563.2.1, bt563.2.2.1, bt563.2.2.2))) else (if bt524.1 = 7 then (some (bt509.1, bt509.2.1, ([] : List Int), 1, 50, ([] : List Int), bt509.2.2.2.2.2.2.1, bt509.2.2.2.2.2.2.2.1, bt524.2.1, bt524.2.2)) else (some (bt509.1, bt509.2.1, bt509.2.2.1, bt509.2.2.2.1, bt509.2.2.2.2.1, bt509.2.2.2.2.2.1, bt509.2.2.2.2.2.2.1, bt509.2.2.2.2.2.2.2.1, bt524.2.1, bt524.2.2))))))))))))) = some (r1, r2, r3, r4, r5, r6, r7, r8, r9, r10) := h
 clear h
 replace H := Option.bind_eq_some_iff.mp H
 obtain ⟨⟨t506, t507, t508⟩, A20, H⟩ := H
 try dsimp only at H
 have A2 := zK A20
 clear A20
 replace H := Option.bind_eq_some_iff.mp H
 obtain ⟨⟨t509, t510, t511, t514, t515, t516, t519, t520, t521, t522⟩, A30, H⟩ := H
 try dsimp only at H
 have A3 := zK A30
 clear A30
 replace H := Option.bind_eq_some_iff.mp H
 obtain ⟨⟨t524, t525, t526⟩, A40, H⟩ := H
 try dsimp only at H
 have A4 := zK A40
 clear A40
 by_cases c5 : t524 = 0
 ·rw [if_pos c5] at H
  have c5b0 : (t524 == 0) = true := beq_iff_eq.mpr c5
  have c5b1 : (t524 != 0) = false := bne_eq_false_iff_eq.mpr c5
  clear c5
  obtain ⟨y527, hy527⟩ : ∃ y_ : List Int, y_ = (([0, 999, 1000] : List Int)) := ⟨_, rfl⟩
  replace H : ((spec_l1Int.f s0_0 t525 t526 y527).bind fun bt530 => (some (bt530.1, t510, t511, t514, t515, t516, t519, t520, bt530.2.1, bt530.2.2))) = some (r1, r2, r3, r4, r5, r6, r7, r8, r9, r10) := have he_ := hy527; rH
  have Ny527 := zK hy527
  clear hy527
  replace H := Option.bind_eq_some_iff.mp H
  obtain ⟨⟨t530, t531, t532⟩, A60, H⟩ := H
  try dsimp only at H
  have A6 := zK A60
  clear A60
  simp only [Option.some.injEq, Prod.mk.injEq] at H
  obtain ⟨rfl, rfl, rfl, rfl, rfl, rfl, rfl, rfl, rfl, rfl⟩ := H
  exact lf11_0
 rw [if_neg c5] at H
 have c5b0 : (t524 == 0) = false := beq_eq_false_iff_ne.mpr c5
 have c5b1 : (t524 != 0) = true := bne_iff_ne.mpr c5
 by_cases c24 : t524 = 1
 ·rw [if_pos c24] at H
  have c24b0 : (t524 == 1) = true := beq_iff_eq.mpr c24
  have c24b1 : (t524 != 1) = false := bne_eq_false_iff_eq.mpr c24
  clear c24
  obtain ⟨y533, hy533⟩ : ∃ y_ : List Int, y_ = (([0, 8, 9] : List Int)) := ⟨_, rfl⟩
  replace H : ((spec_l1Int.f s0_0 t525 t526 y533).bind fun bt536 => (some (t509, bt536.1, t511, t514, t515, t516, t519, t520, bt536.2.1, bt536.2.2))) = some (r1, r2, r3, r4, r5, r6, r7, r8, r9, r10) := have he_ := hy533; rH
  have Ny533 := zK hy533
  clear hy533
  replace H := Option.bind_eq_some_iff.mp H
  obtain ⟨⟨t536, t537, t538⟩, A250, H⟩ := H
  try dsimp only at H
  have A25 := zK A250
  clear A250
  simp only [Option.some.injEq, Prod.mk.injEq] at H
  obtain ⟨rfl, rfl, rfl, rfl, rfl, rfl, rfl, rfl, rfl, rfl⟩ := H
  exact lf11_0
 rw [if_neg c24] at H
 have c24b0 : (t524 == 1) = false := beq_eq_false_iff_ne.mpr c24
 have c24b1 : (t524 != 1) = true := bne_iff_ne.mpr c24
 by_cases c43 : t524 = 2
 ·rw [if_pos c43] at H
  have c43b0 : (t524 == 2) = true := beq_iff_eq.mpr c43
  have c43b1 : (t524 != 2) = false := bne_eq_false_iff_eq.mpr c43
  clear c43
  obtain ⟨y539, hy539⟩ : ∃ y_ : List Int, y_ = (([(-1), 3, 8] : List Int)) := ⟨_, rfl⟩
  replace H : ((spec_l1Int.f s0_0 t525 t526 y539).bind fun bt542 => (some (t509, t510, (([bt542.1, 3] : List Int)), t514, t515, t516, t519, t520, bt542.2.1, bt542.2.2))) = some (r1, r2, r3, r4, r5, r6, r7, r8, r9, r10) := have he_ := hy539; rH
  have Ny539 := zK hy539
  clear hy539
  replace H := Option.bind_eq_some_iff.mp H
  obtain ⟨⟨t542, t543, t544⟩, A440, H⟩ := H
  try dsimp only at H
  have A44 := zK A440
  clear A440
  obtain ⟨y545, hy545⟩ : ∃ y_ : List Int, y_ = (([t542, 3] : List Int)) := ⟨_, rfl⟩
  replace H : (some (t509, t510, y545, t514, t515, t516, t519, t520, t543, t544)) = some (r1, r2, r3, r4, r5, r6, r7, r8, r9, r10) := have he_ := hy545; rH
  have Ny545 := zK hy545
  clear hy545
  simp only [Option.some.injEq, Prod.mk.injEq] at H
  obtain ⟨rfl, rfl, rfl, rfl, rfl, rfl, rfl, rfl, rfl, rfl⟩ := H
  exact lf11_0
 rw [if_neg c43] at H
 have c43b0 : (t524 == 2) = false := beq_eq_false_iff_ne.mpr c43
 have c43b1 : (t524 != 2) = true := bne_iff_ne.mpr c43
 by_cases c65 : t524 = 3
 ·rw [if_pos c65] at H
  have c65b0 : (t524 == 3) = true := beq_iff_eq.mpr c65
  have c65b1 : (t524 != 3) = false := bne_eq_false_iff_eq.mpr c65
  clear c65
  replace H := Option.bind_eq_some_iff.mp H
  obtain ⟨⟨t548, t549, t550⟩, A660, H⟩ := H
  try dsimp only at H
  have A66 := zK A660
  clear A660
  simp only [Option.some.injEq, Prod.mk.injEq] at H
  obtain ⟨rfl, rfl, rfl, rfl, rfl, rfl, rfl, rfl, rfl, rfl⟩ := H
  exact lf11_0
 rw [if_neg c65] at H
 have c65b0 : (t524 == 3) = false := beq_eq_false_iff_ne.mpr c65
 have c65b1 : (t524 != 3) = true := bne_iff_ne.mpr c65
 by_cases c81 : t524 = 4
 ·rw [if_pos c81] at H
  have c81b0 : (t524 == 4) = true := beq_iff_eq.mpr c81
  have c81b1 : (t524 != 4) = false := bne_eq_false_iff_eq.mpr c81
  clear c81
  replace H := Option.bind_eq_some_iff.mp H
  obtain ⟨⟨t551, t552, t553⟩, A820, H⟩ := H
  try dsimp only at H
  have A82 := zK A820
  clear A820
  simp only [Option.some.injEq, Prod.mk.injEq] at H
  obtain ⟨rfl, rfl, rfl, rfl, rfl, rfl, rfl, rfl, rfl, rfl⟩ := H
  exact lf11_0
 rw [if_neg c81] at H
 have c81b0 : (t524 == 4) = false := beq_eq_false_iff_ne.mpr c81
 have c81b1 : (t524 != 4) = true := bne_iff_ne.mpr c81
 by_cases c97 : t524 = 5
 ·rw [if_pos c97] at H
  have c97b0 : (t524 == 5) = true := beq_iff_eq.mpr c97
  have c97b1 : (t524 != 5) = false := bne_eq_false_iff_eq.mpr c97
  clear c97
  obtain ⟨y554, hy554⟩ : ∃ y_ : List Int, y_ = (([0, 30, 31] : List Int)) := ⟨_, rfl⟩
  replace H : ((spec_l1Int.f s0_0 t525 t526 y554).bind fun bt557 => (some (t509, t510, t511, t514, t515, (([bt557.1] : List Int)), t519, t520, bt557.2.1, bt557.2.2))) = some (r1, r2, r3, r4, r5, r6, r7, r8, r9, r10) := have he_ := hy554; rH
  have Ny554 := zK hy554
  clear hy554
  replace H := Option.bind_eq_some_iff.mp H
  obtain ⟨⟨t557, t558, t559⟩, A980, H⟩ := H
  try dsimp only at H
  have A98 := zK A980
  clear A980
  obtain ⟨y560, hy560⟩ : ∃ y_ : List Int, y_ = (([t557] : List Int)) := ⟨_, rfl⟩
  replace H : (some (t509, t510, t511, t514, t515, y560, t519, t520, t558, t559)) = some (r1, r2, r3, r4, r5, r6, r7, r8, r9, r10) := have he_ := hy560; rH
  have Ny560 := zK hy560
  clear hy560
  simp only [Option.some.injEq, Prod.mk.injEq] at H
  obtain ⟨rfl, rfl, rfl, rfl, rfl, rfl, rfl, rfl, rfl, rfl⟩ := H
  exact lf11_0
 rw [if_neg c97] at H
 have c97b0 : (t524 == 5) = false := beq_eq_false_iff_ne.mpr c97
 have c97b1 : (t524 != 5) = true := bne_iff_ne.mpr c97
 by_cases c119 : t524 = 6
 ·rw [if_pos c119] at H
  have c119b0 : (t524 == 6) = true := beq_iff_eq.mpr c119
  have c119b1 : (t524 != 6) = false := bne_eq_false_iff_eq.mpr c119
  clear c119
  replace H := Option.bind_eq_some_iff.mp H
  obtain ⟨⟨t563, t564, t565, t566⟩, A1200, H⟩ := H
  try dsimp only at H
  have A120 := zK A1200
  clear A1200
  simp only [Option.some.injEq, Prod.mk.injEq] at H
  obtain ⟨rfl, rfl, rfl, rfl, rfl, rfl, rfl, rfl, rfl, rfl⟩ := H
  exact lf11_0
 rw [if_neg c119] at H
 have c119b0 : (t524 == 6) = false := beq_eq_false_iff_ne.mpr c119
 have c119b1 : (t524 != 6) = true := bne_iff_ne.mpr c119
 by_cases c135 : t524 = 7
 ·rw [if_pos c135] at H
  have c135b0 : (t524 == 7) = true := beq_iff_eq.mpr c135
  have c135b1 : (t524 != 7) = false := bne_eq_false_iff_eq.mpr c135
  clear c135
  simp only [Option.some.injEq, Prod.mk.injEq] at H
  obtain ⟨rfl, rfl, rfl, rfl, rfl, rfl, rfl, rfl, rfl, rfl⟩ := H
  exact lf11_1
 rw [if_neg c135] at H
 have c135b0 : (t524 == 7) = false := beq_eq_false_iff_ne.mpr c135
 have c135b1 : (t524 != 7) = true := bne_iff_ne.mpr c135
 simp only [Option.some.injEq, Prod.mk.injEq] at H
 obtain ⟨rfl, rfl, rfl, rfl, rfl, rfl, rfl, rfl, rfl, rfl⟩ := H
 exact lf11_1
/-! ### spec_Max: function 171 -/
def spec_Max.f (a0 : Int) (a1 : Int) : Option (Int) := if a1 > a0 then (some a1) else (some a0)
theorem spec_Max.calls (a0 : Int) (a1 : Int) (r : Int) (w : World) (h : spec_Max.f a0 a1 = some r) :
  Calls Try.prog 171 #[.int .i64 a0, .int .i64 a1] w fun e w' => e = .returned (.int .i64 r) ∧ Drawn0 w w' := by
 have H : (if a1 > a0 then (some a1) else (some a0)) = some r := h
 clear h
 by_cases c3 : a1 > a0
 ·rw [if_pos c3] at H
  have c3b0 : decide (a0 < a1) = true := decide_eq_true c3
  clear c3
  obtain rfl := Option.some.inj H
  go_enter Try.func171, Try.ntmps171
  go_wp2
  go_ret
  exact ⟨o2, Q4⟩
 rw [if_neg c3] at H
 have c3b0 : decide (a0 < a1) = false := decide_eq_false c3
 clear c3
 obtain rfl := Option.some.inj H
 go_enter Try.func171, Try.ntmps171
 go_wp2
 go_ret
 exact ⟨o2, Q4⟩
/-! ### spec_Min: function 172 -/
def spec_Min.f (a0 : Int) (a1 : Int) : Option (Int) := if a1 < a0 then (some a1) else (some a0)
theorem spec_Min.calls (a0 : Int) (a1 : Int) (r : Int) (w : World) (h : spec_Min.f a0 a1 = some r) :
  Calls Try.prog 172 #[.int .i64 a0, .int .i64 a1] w fun e w' => e = .returned (.int .i64 r) ∧ Drawn0 w w' := by
 have H : (if a1 < a0 then (some a1) else (some a0)) = some r := h
 clear h
 by_cases c3 : a1 < a0
 ·rw [if_pos c3] at H
  have c3b0 : decide (a1 < a0) = true := decide_eq_true c3
  clear c3
  obtain rfl := Option.some.inj H
  go_enter Try.func172, Try.ntmps172
  go_wp2
  go_ret
  exact ⟨o2, Q4⟩
 rw [if_neg c3] at H
 have c3b0 : decide (a1 < a0) = false := decide_eq_false c3
 clear c3
 obtain rfl := Option.some.inj H
 go_enter Try.func172, Try.ntmps172
 go_wp2
 go_ret
 exact ⟨o2, Q4⟩

end Go.Proofs.Ytejhjenlodclpaa.PFnHints
