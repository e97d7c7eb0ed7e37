/- Walks of functions that FnHints reaches, shortened. -/
import Derived.Test.YtejhjenlodclpaaPFnHintsx0
import Derived.Test.YtejhjenlodclpaaPFnHintsx8
import Derived.Test.YtejhjenlodclpaaPFnHintsx9
import Derived.Test.YtejhjenlodclpaaPFnHintsx10
import Derived.Test.YtejhjenlodclpaaPFnHintsx12
import Derived.Test.YtejhjenlodclpaaPFnHintsx16
namespace Go.Proofs.Ytejhjenlodclpaa.PFnHints
open Go.RowKit Go.Proofs.YtejhjenlodclpaaW.PrintWords Go.Proofs.YtejhjenlodclpaaW.PrintLast Go.Proofs.YtejhjenlodclpaaW.PrintMore
attribute [local go_sem] max2_int min2_int max_two min_two max_three min_three max_four min_four
set_option linter.unusedVariables false
set_option linter.unusedSimpArgs false

/-! ### spec_DrawSharedHints: function 80 -/
def spec_DrawSharedHints.f (k : Nat) (l0 : List Int) : Option (List Int × List Int) := (spec_l1New.f k l0).bind fun bt805 => ((spec_l6List.f k bt805.1 bt805.2.1 bt805.2.2).bind fun bt809 => ((spec_HintsOf.f k bt809.1 3).bind fun t814 => (if (bt809.1.length : Int) = 0 then (some (t814, t814)) else (if 0 < (bt809.1.length : Int) then ((spec_l8For.f k bt805.1 bt809.2.1 bt809.2.2 ((rd_T113 bt809.1 0).f0.f0) ((rd_T113 bt809.1 0).f0.f1) ((rd_T113 bt809.1 0).f0.f2) ((rd_T113 bt809.1 0).f0.f3) ((rd_T113 bt809.1 0).f0.f4) ((rd_T113 bt809.1 0).f1) ((rd_T113 bt809.1 0).f2) ((rd_T113 bt809.1 0).f3) 5).bind fun bt818 => ((spec_HintsFor.f k bt818.1 bt818.2.1 bt818.2.2.1 bt818.2.2.2.1 bt818.2.2.2.2.1 bt818.2.2.2.2.2.1 bt818.2.2.2.2.2.2.1 bt818.2.2.2.2.2.2.2.1 3).bind fun t832 => (some (t814, t832)))) else (none)))))
set_option maxHeartbeats 8000000 in
set_option maxRecDepth 100000 in
theorem spec_DrawSharedHints.calls (k : Nat) (A0 : Option Addr) (c0 : Nat) (l0 : List Int) (r1 : List Int) (r2 : List Int) (w : World) (hr0 : Kd.C (Kd.int .u8) w A0 l0.length l0) (hc0 : l0.length ≤ c0) (h : spec_DrawSharedHints.f k l0 = some (r1, r2)) :
  Calls Try.prog 80 #[.slice A0 l0.length c0] w fun e w' => ∃ v0_ v1_ : Value, e = .returned (.tuple #[v0_, v1_]) ∧ Kd.V (Kd.int .i64) 3 w' w.heap.size (fun k_ => (w.heap.size ≤ k_)) v0_ r1 ∧ Kd.V (Kd.int .i64) 3 w' w.heap.size (fun k_ => (w.heap.size ≤ k_)) v1_ r2 ∧ Below w.heap.size w w' := by
 have hu113 := Try.underlying113
 have HR0 := zK hr0
 have HC0 := zK hc0
 clear hr0 hc0
 have HB := zK (Below.refl w.heap.size w)
 have H : ((spec_l1New.f k l0).bind fun bt805 => ((spec_l6List.f k bt805.1 bt805.2.1 bt805.2.2).bind fun bt809 => ((spec_HintsOf.f k bt809.1 3).bind fun t814 => (if (bt809.1.length : Int) = 0 then (some (t814, t814)) else (if 0 < (bt809.1.length : Int) then ((spec_l8For.f k bt805.1 bt809.2.1 bt809.2.2 ((rd_T113 bt809.1 0).f0.f0) ((rd_T113 bt809.1 0).f0.f1) ((rd_T113 bt809.1 0).f0.f2) ((rd_T113 bt809.1 0).f0.f3) ((rd_T113 bt809.1 0).f0.f4) ((rd_T113 bt809.1 0).f1) ((rd_T113 bt809.1 0).f2) ((rd_T113 bt809.1 0).f3) 5).bind fun bt818 => ((spec_HintsFor.f k bt818.1 bt818.2.1 bt818.2.2.1 bt818.2.2.2.1 bt818.2.2.2.2.1 bt818.2.2.2.2.2.1 bt818.2.2.2.2.2.2.1 bt818.2.2.2.2.2.2.2.1 3).bind fun t832 => (some (t814, t832)))) else (none)))))) = some (r1, r2) := h
 clear h
 replace H := Option.bind_eq_some_iff.mp H
 obtain ⟨⟨t805, t806, t807⟩, A20, H⟩ := H
 try dsimp only at H
 have A2 := zK A20
 clear A20
 replace H := Option.bind_eq_some_iff.mp H
 obtain ⟨⟨t809, t812, t813⟩, A30, H⟩ := H
 try dsimp only at H
 have A3 := zK A30
 clear A30
 replace H := Option.bind_eq_some_iff.mp H
 obtain ⟨t814, A40, H⟩ := H
 try dsimp only at H
 have A4 := zK A40
 clear A40
 by_cases c5 : (t809.length : Int) = 0
 ·rw [if_pos c5] at H
  have c5b0 : ((t809.length : Int) == 0) = true := beq_iff_eq.mpr c5
  have c5b1 : ((t809.length : Int) != 0) = false := bne_eq_false_iff_eq.mpr c5
  clear c5
  simp only [Option.some.injEq, Prod.mk.injEq] at H
  obtain ⟨rfl, rfl⟩ := H
  go_enter Try.func80, Try.ntmps80
  go_wp2_with (first | ((with_reducible refine gc (f := 97) rfl ?_); refine gL (some 8) Try.func97 #[.slice A0 l0.length c0] ?_; (with_reducible refine (spec_l1New.calls k _ _ l0 t805 t806 t807 w _ ?side1 ?side2 ?side3 A2.o).mono ?_); (case side1 => exact J12); (case side2 => exact HR0.o); (case side3 => exact HC0.o); rintro e w6 ⟨g808, rfl, hi, hb, hb2⟩; refine ⟨_, rfl, ?_⟩; have _ := zK (hb); have _ := zK (hi); clear HB; rename_i HB HI808; clear hb hb2 hi) | ((with_reducible refine gc (f := 133) rfl ?_); refine gL (some 10) Try.func133 #[.pointer (some ⟨g808, 0, none⟩)] ?_; (with_reducible refine (spec_l6List.calls k g808 t805 t806 t807 t809 t812 t813 w _ ?side1 ?side2 A3.o).mono ?_); (case side1 => exact Q20); (case side2 => exact Q30); rintro e w7 ⟨v810, rfl, ho0, hi, hb, hk⟩; refine ⟨_, rfl, ?_⟩; have _ := zK (Kd.R_lower (Kd.R_newM (M := fun k_ => (w.heap.size ≤ k_)) ho0 (bZ M24) (fun k_ h_ => h_)) (bZ M24)); have _ := zK (hb); have _ := zK (hi); clear HB HI808; rename_i HO811 HB HI808; clear hb hk hi ho0; obtain ⟨Ao8, co8, eo8⟩ := Kd.R_slice HO811.o; subst eo8) | ((with_reducible refine gc (f := 13) rfl ?_); refine gL (some 12) Try.func13 #[.slice Ao8 t809.length co8, .int .i64 3] ?_; (with_reducible refine (spec_HintsOf.calls k _ _ t809 3 t814 _ ?side1 ?side2 A4.o).mono ?_); (case side1 => exact Kd.qC (Kd.R_reads' HO811.o).2.2); (case side2 => exact (Kd.R_reads' HO811.o).2.1); rintro e w9 ⟨v815, rfl, ho0, hb⟩; refine ⟨_, rfl, ?_⟩; have _ := zK (Kd.R_below (Kd.qR HO811.o) hb); have _ := zK (Kd.R_lower (Kd.R_newM (M := fun k_ => (w.heap.size ≤ k_)) ho0 (bZ M24) (fun k_ h_ => h_)) (bZ M24)); have _ := zK (IsS173.below (Q20) hb); have _ := zK (bT M24 hb); clear HO811 HI808 HB; rename_i HO811 HO816 HI808 HB; clear hb ho0))
  go_ret2
  exact ⟨_, _, o0, Kd.R_V (by (with_reducible repeat (first | apply Kd.RA | apply Kd.RN | apply Kd.RD)); exact Kd.R_mono HO816.o (fun _ hk => hk.1)), Kd.R_V (by (with_reducible repeat (first | apply Kd.RA | apply Kd.RN | apply Kd.RD)); exact Kd.R_mono HO816.o (fun _ hk => hk.1)), Q30⟩
 rw [if_neg c5] at H
 have c5b0 : ((t809.length : Int) == 0) = false := beq_eq_false_iff_ne.mpr c5
 have c5b1 : ((t809.length : Int) != 0) = true := bne_iff_ne.mpr c5
 have c5b2 : ¬ (t809 = []) := fun h_ => c5 (by rw [h_]; rfl)
 by_cases c10 : 0 < (t809.length : Int)
 rotate_left
 ·rw [if_neg c10] at H
  exact absurd H (by simp)

 rw [if_pos c10] at H
 have c10b0 : decide (0 < (t809.length : Int)) = true := decide_eq_true c10
 have c10b1 : decide (0 < t809.length) = true := decide_eq_true (by omega)
 clear c10
 replace H := Option.bind_eq_some_iff.mp H
 obtain ⟨⟨t818, t819, t820, t823, t824, t825, t828, t829, t830, t831⟩, A110, H⟩ := H
 try dsimp only at H
 have A11 := zK A110
 clear A110
 replace H := Option.bind_eq_some_iff.mp H
 obtain ⟨t832, A120, H⟩ := H
 replace H : (some (t814, t832)) = some (r1, r2) := H
 have A12 := zK A120
 clear A120
 simp only [Option.some.injEq, Prod.mk.injEq] at H
 obtain ⟨rfl, rfl⟩ := H
 go_enter Try.func80, Try.ntmps80
 go_wp2_with (first | ((with_reducible refine gc (f := 97) rfl ?_); refine gL (some 8) Try.func97 #[.slice A0 l0.length c0] ?_; (with_reducible refine (spec_l1New.calls k _ _ l0 t805 t806 t807 w _ ?side1 ?side2 ?side3 A2.o).mono ?_); (case side1 => exact J12); (case side2 => exact HR0.o); (case side3 => exact HC0.o); rintro e w13 ⟨g808, rfl, hi, hb, hb2⟩; refine ⟨_, rfl, ?_⟩; have _ := zK (hb); have _ := zK (hi); clear HB; rename_i HB HI808; clear hb hb2 hi) | ((with_reducible refine gc (f := 133) rfl ?_); refine gL (some 10) Try.func133 #[.pointer (some ⟨g808, 0, none⟩)] ?_; (with_reducible refine (spec_l6List.calls k g808 t805 t806 t807 t809 t812 t813 w _ ?side1 ?side2 A3.o).mono ?_); (case side1 => exact Q20); (case side2 => exact Q30); rintro e w14 ⟨v810, rfl, ho0, hi, hb, hk⟩; refine ⟨_, rfl, ?_⟩; have _ := zK (Kd.R_lower (Kd.R_newM (M := fun k_ => (w.heap.size ≤ k_)) ho0 (bZ M24) (fun k_ h_ => h_)) (bZ M24)); have _ := zK (hb); have _ := zK (hi); clear HB HI808; rename_i HO811 HB HI808; clear hb hk hi ho0; obtain ⟨Ao15, co15, eo15⟩ := Kd.R_slice HO811.o; subst eo15) | ((with_reducible refine gc (f := 13) rfl ?_); refine gL (some 12) Try.func13 #[.slice Ao15 t809.length co15, .int .i64 3] ?_; (with_reducible refine (spec_HintsOf.calls k _ _ t809 3 t814 _ ?side1 ?side2 A4.o).mono ?_); (case side1 => exact Kd.qC (Kd.R_reads' HO811.o).2.2); (case side2 => exact (Kd.R_reads' HO811.o).2.1); rintro e w16 ⟨v815, rfl, ho0, hb⟩; refine ⟨_, rfl, ?_⟩; have _ := zK (Kd.R_below (Kd.qR HO811.o) hb); have _ := zK (Kd.R_lower (Kd.R_newM (M := fun k_ => (w.heap.size ≤ k_)) ho0 (bZ M24) (fun k_ h_ => h_)) (bZ M24)); have _ := zK (IsS173.below (Q20) hb); have _ := zK (bT M24 hb); clear HO811 HI808 HB; rename_i HO811 HO816 HI808 HB; clear hb ho0; have p817 : 0 ≤ (0 : Int) := (by omega); have q817 : 0 < (t809.length : Int) := oD M4; obtain ⟨ad817, e817, hx817_0, hx817_1, hx817_2, hx817_3, hx817_4, hx817_5, hx817_6, hx817_7⟩ := at_T113 (Kd.R_reads' HO811.o).2.2 0 p817 q817; cases e817; have qi817 : (0 < t809.length) = True := eq_true (by omega); (try rw [show ((0 : Int)).toNat = 0 from rfl] at hx817_0); (try rw [show 0 * 8 = 0 from rfl] at hx817_0); (try rw [Addr.add_zero'] at hx817_0); (try rw [show ((0 : Int)).toNat = 0 from rfl] at hx817_1); (try rw [show 0 * 8 = 0 from rfl] at hx817_1); (try rw [Addr.add_zero'] at hx817_1); (try rw [show ((0 : Int)).toNat = 0 from rfl] at hx817_2); (try rw [show 0 * 8 = 0 from rfl] at hx817_2); (try rw [Addr.add_zero'] at hx817_2); (try rw [show ((0 : Int)).toNat = 0 from rfl] at hx817_3); (try rw [show 0 * 8 = 0 from rfl] at hx817_3); (try rw [Addr.add_zero'] at hx817_3); (try rw [show ((0 : Int)).toNat = 0 from rfl] at hx817_4); (try rw [show 0 * 8 = 0 from rfl] at hx817_4); (try rw [Addr.add_zero'] at hx817_4); (try rw [show ((0 : Int)).toNat = 0 from rfl] at hx817_5); (try rw [show 0 * 8 = 0 from rfl] at hx817_5); (try rw [Addr.add_zero'] at hx817_5); (try rw [show ((0 : Int)).toNat = 0 from rfl] at hx817_6); (try rw [show 0 * 8 = 0 from rfl] at hx817_6); (try rw [Addr.add_zero'] at hx817_6); (try rw [show ((0 : Int)).toNat = 0 from rfl] at hx817_7); (try rw [show 0 * 8 = 0 from rfl] at hx817_7); (try rw [Addr.add_zero'] at hx817_7); replace p817 := eq_true p817; replace q817 := eq_true q817) | ((with_reducible refine gc (f := 129) rfl ?_); refine goesL_ (some 23) rfl rfl Try.func129 (by kernel_rfl) rfl #[.pointer (some ⟨g808, 0, none⟩), .agg #[.int .i64 ((rd_T113 t809 0).f0.f0), .int .i64 ((rd_T113 t809 0).f0.f1), .int .i64 ((rd_T113 t809 0).f0.f2), .int .i64 ((rd_T113 t809 0).f0.f3), .int .i64 ((rd_T113 t809 0).f0.f4), .int .i64 ((rd_T113 t809 0).f1), .int .i64 ((rd_T113 t809 0).f2), .int .i64 ((rd_T113 t809 0).f3)], .int .i64 5] rfl M0 ?_; (with_reducible refine (spec_l8For.calls k g808 t805 t812 t813 ((rd_T113 t809 0).f0.f0) ((rd_T113 t809 0).f0.f1) ((rd_T113 t809 0).f0.f2) ((rd_T113 t809 0).f0.f3) ((rd_T113 t809 0).f0.f4) ((rd_T113 t809 0).f1) ((rd_T113 t809 0).f2) ((rd_T113 t809 0).f3) 5 t818 t819 t820 t823 t824 t825 t828 t829 t830 t831 w _ ?side1 ?side2 A11.o).mono ?_); (case side1 => exact Q20); (case side2 => exact Q30); rintro e w17 ⟨v821, v826, rfl, ho0, ho1, hi, hb, hk⟩; refine ⟨_, rfl, ?_⟩; have _ := zK (IsS173.rK (show IsS173 w _ g808 t805 t812 t813 from Q20) HO811.o hk); have _ := zK (Kd.R_mono (Kd.R_told (Kd.R_told (Kd.R_oldK (IsS173.apart (show IsS173 w _ g808 t805 t812 t813 from Q20) (Kd.qR HO816.o) (by decide)) hk) (Kd.R_base ho0)) (Kd.R_base ho1)) (fun _ h_ => h_.1)); have _ := zK (Kd.R_lower (Kd.R_new' (Kd.R_newM (M := fun k_ => (w.heap.size ≤ k_)) ho0 (bZ M24) (fun k_ h_ => h_)) (Kd.R_lt (Kd.qR HO816.o))) (bZ M24)); have _ := zK (Kd.R_lower (Kd.R_new' (Kd.R_newM (M := fun k_ => (w.heap.size ≤ k_)) ho1 (bZ M24) (fun k_ h_ => h_)) (Kd.R_lt (Kd.qR HO816.o))) (bZ M24)); have _ := zK (hb); have _ := zK (hi); clear HO811 HO816 HB HI808; rename_i HO811 HO816 HO822 HO827 HB HI808; clear hb hk hi ho0 ho1; obtain ⟨Ao18, co18, eo18⟩ := Kd.R_slice HO822.o; subst eo18; obtain ⟨Ao19, co19, eo19⟩ := Kd.R_slice HO827.o; subst eo19) | ((with_reducible refine gc (f := 22) rfl ?_); refine goesL_ (some 24) rfl rfl Try.func22 (by kernel_rfl) rfl #[.agg #[.int .i64 t818, .int .i64 t819, .slice Ao18 t820.length co18, .int .i64 t823, .int .i64 t824, .slice Ao19 t825.length co19, .int .i64 t828, .int .i64 t829], .int .i64 3] rfl M0 ?_; (with_reducible refine (spec_HintsFor.calls k t818 t819 _ _ t820 t823 t824 _ _ t825 t828 t829 3 t832 _ ?side1 ?side2 ?side3 ?side4 A12.o).mono ?_); (case side1 => exact Kd.qC (Kd.R_reads' HO822.o).2.2); (case side2 => exact (Kd.R_reads' HO822.o).2.1); (case side3 => exact Kd.qC (Kd.R_reads' HO827.o).2.2); (case side4 => exact (Kd.R_reads' HO827.o).2.1); rintro e w20 ⟨v833, rfl, ho0, hb⟩; refine ⟨_, rfl, ?_⟩; have _ := zK (Kd.R_below (Kd.qR HO811.o) hb); have _ := zK (Kd.R_elder' (Kd.qR HO816.o) (Kd.R_base ho0) hb); have _ := zK (Kd.R_elder' (Kd.qR HO822.o) (Kd.R_base ho0) hb); have _ := zK (Kd.R_elder' (Kd.qR HO827.o) (Kd.R_base ho0) hb); have _ := zK (Kd.R_lower (Kd.R_new' (Kd.R_new' (Kd.R_new' (Kd.R_newM (M := fun k_ => (w.heap.size ≤ k_)) ho0 (bZ M24) (fun k_ h_ => h_)) (Kd.R_lt (Kd.qR HO816.o))) (Kd.R_lt (Kd.qR HO822.o))) (Kd.R_lt (Kd.qR HO827.o))) (bZ M24)); have _ := zK (IsS173.below (Q20) hb); have _ := zK (bT M24 hb); clear HO811 HO816 HO822 HO827 HI808 HB; rename_i HO811 HO816 HO822 HO827 HO834 HI808 HB; clear hb ho0))
 go_ret2
 exact ⟨_, _, o0, Kd.R_V (by (with_reducible repeat (first | apply Kd.RA | apply Kd.RN | apply Kd.RD)); exact Kd.R_mono HO816.o (fun _ hk => hk.1.1.1.1)), Kd.R_V (by (with_reducible repeat (first | apply Kd.RA | apply Kd.RN | apply Kd.RD)); exact Kd.R_mono HO834.o (fun _ hk => hk.1.1.1.1)), Q30⟩
end Go.Proofs.Ytejhjenlodclpaa.PFnHints
