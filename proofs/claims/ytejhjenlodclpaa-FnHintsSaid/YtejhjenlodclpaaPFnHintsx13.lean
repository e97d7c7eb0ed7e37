/- Walks of functions that FnHints reaches, shortened. -/
import Derived.Test.YtejhjenlodclpaaPFnHintsx0
import Derived.Test.YtejhjenlodclpaaPFnHintsx1
import Derived.Test.YtejhjenlodclpaaPFnHintsx4
import Derived.Test.YtejhjenlodclpaaPFnHintsx9
import Derived.Test.YtejhjenlodclpaaPFnHintsx10
import Derived.Test.YtejhjenlodclpaaPFnHintsx11
import Derived.Test.YtejhjenlodclpaaPFnHintsx12
namespace Go.Proofs.Ytejhjenlodclpaa.PFnHints
open Go.RowKit Go.Proofs.YtejhjenlodclpaaW.PrintWords Go.Proofs.YtejhjenlodclpaaW.PrintLast Go.Proofs.YtejhjenlodclpaaW.PrintMore
attribute [local go_sem] max2_int min2_int max_two min_two max_three min_three max_four min_four
set_option maxHeartbeats 8000000
set_option maxRecDepth 100000
set_option linter.unusedVariables false
set_option linter.unusedSimpArgs false

/-! ### spec_DrawCandidates: function 73 -/
def spec_DrawCandidates.f (k : Nat) (l0 : List Int) : Option (Int × Int × List Int × Int × Int × List Int × Int × Int × (List (S113))) := (spec_l1New.f k l0).bind fun bt616 => ((spec_l6Any.f k bt616.1 bt616.2.1 bt616.2.2).bind fun bt620 => (if (bt620.1.length : Int) = 0 then ((spec_l7Any.f k bt616.1 bt620.2.1 bt620.2.2).bind fun bt625 => (some (bt625.1, bt625.2.1, bt625.2.2.1, bt625.2.2.2.1, bt625.2.2.2.2.1, bt625.2.2.2.2.2.1, bt625.2.2.2.2.2.2.1, bt625.2.2.2.2.2.2.2.1, bt620.1))) else ((spec_l1Below.f bt616.1 bt620.2.1 bt620.2.2 (bt620.1.length : Int)).bind fun bt639 => (if 0 ≤ bt639.1 then (if bt639.1 < (bt620.1.length : Int) then ((spec_l8For.f k bt616.1 bt639.2.1 bt639.2.2 ((rd_T113 bt620.1 bt639.1).f0.f0) ((rd_T113 bt620.1 bt639.1).f0.f1) ((rd_T113 bt620.1 bt639.1).f0.f2) ((rd_T113 bt620.1 bt639.1).f0.f3) ((rd_T113 bt620.1 bt639.1).f0.f4) ((rd_T113 bt620.1 bt639.1).f1) ((rd_T113 bt620.1 bt639.1).f2) ((rd_T113 bt620.1 bt639.1).f3) 5).bind fun bt643 => (some (bt643.1, bt643.2.1, bt643.2.2.1, bt643.2.2.2.1, bt643.2.2.2.2.1, bt643.2.2.2.2.2.1, bt643.2.2.2.2.2.2.1, bt643.2.2.2.2.2.2.2.1, bt620.1))) else (none)) else (none)))))
theorem lf13_0 {p : Prop} (h : p := by
  go_enter Try.func73, Try.ntmps73
  go_wp2_with (first | ((with_reducible refine gd (N := 2) rfl ?_); refine bE (N := 2) (cs := #[.int .i64 0, .int .i64 0, .slice none 0 0, .int .i64 0, .int .i64 0, .slice none 0 0, .int .i64 0, .int .i64 0]) (t := 41) ?_; intro gb615 hg wz0 hbox hb; have _ := zK (bT (qB HB.o) hb); have _ := zK (hbox); have _ := zK ((by rw [hg]; exact (bZ (qB HB.o)) : w.heap.size ≤ gb615)); have _ := zK ((by rw [hg]; exact (bZ (qB HB.o)) : w.heap.size ≤ gb615)); clear HB; rename_i HB BK615 GW615 GE615; clear hb hbox hg) | ((with_reducible refine gc (f := 97) rfl ?_); refine gL (some 7) Try.func97 #[.slice A0 l0.length c0] ?_; (with_reducible refine (spec_l1New.calls k _ _ l0 t616 t617 t618 w _ ?side1 ?side2 ?side3 A2.o).mono ?_); (case side1 => exact qX HB.o); (case side2 => exact HR0.o); (case side3 => exact HC0.o); rintro e wz1 ⟨g619, rfl, hi, hb, hb2⟩; refine ⟨_, rfl, ?_⟩; have _ := zK (bB (qK BK615.o) hb2); have _ := zK (hb); have _ := zK (hi); have _ := zK (IsS173.ne_blk hi (bB (qK BK615.o) hb2) (by decide)); have _ := zK (Ne.symm (IsS173.ne_blk hi (bB (qK BK615.o) hb2) (by decide))); clear BK615 HB; rename_i BK615 HB HI619 NB619_615 NB615_619; clear hb hb2 hi) | ((with_reducible refine gc (f := 127) rfl ?_); refine gL (some 9) Try.func127 #[.pointer (some ⟨g619, 0, none⟩)] ?_; (with_reducible refine (spec_l6Any.calls k g619 t616 t617 t618 t620 t623 t624 w _ ?side1 ?side2 A3.o).mono ?_); (case side1 => exact Q24); (case side2 => exact Q29); rintro e wz2 ⟨v621, rfl, ho0, hi, hb, hk⟩; refine ⟨_, rfl, ?_⟩; have _ := zK (kB hk BK615.o NB615_619.o); have _ := zK (Kd.R_lower ho0 (bZ M65)); have _ := zK (hb); have _ := zK (hi); clear BK615 HB HI619; rename_i BK615 HO622 HB HI619; clear hb hk hi ho0; obtain ⟨Aoz0, coz0, eoz0⟩ := Kd.R_slice HO622.o; subst eoz0) | ((with_reducible refine gc (f := 108) rfl ?_); refine gL (some 21) Try.func108 #[.pointer (some ⟨g619, 0, none⟩), .int .i64 (t620.length : Int)] ?_; (with_reducible refine (spec_l1Below.calls g619 t616 t623 t624 (t620.length : Int) t639 t640 t641 w _ ?side1 ?side2 A15.o).mono ?_); (case side1 => exact Q24); (case side2 => exact Q29); rintro e wz3 ⟨rfl, hi, hb, hk⟩; refine ⟨_, rfl, ?_⟩; have _ := zK (kB hk BK615.o NB615_619.o); have _ := zK (IsS173.rK (show IsS173 w _ g619 t616 t623 t624 from Q24) HO622.o hk); have _ := zK (hb); have _ := zK (hi); clear BK615 HO622 HB HI619; rename_i BK615 HO622 HB HI619; clear hb hk hi; have p642 : 0 ≤ (t639 : Int) := oD M4; have q642 : t639 < (t620.length : Int) := oD M4; obtain ⟨ad642, e642, hxz0_0, hxz0_1, hxz0_2, hxz0_3, hxz0_4, hxz0_5, hxz0_6, hxz0_7⟩ := at_T113 (Kd.R_reads' HO622.o).2.2 t639 p642 q642; cases e642; replace p642 := eq_true p642; replace q642 := eq_true q642) | ((with_reducible refine gc (f := 129) rfl ?_); refine goesL_ (some 24) rfl rfl Try.func129 (by kernel_rfl) rfl #[.pointer (some ⟨g619, 0, none⟩), .agg #[.int .i64 ((rd_T113 t620 t639).f0.f0), .int .i64 ((rd_T113 t620 t639).f0.f1), .int .i64 ((rd_T113 t620 t639).f0.f2), .int .i64 ((rd_T113 t620 t639).f0.f3), .int .i64 ((rd_T113 t620 t639).f0.f4), .int .i64 ((rd_T113 t620 t639).f1), .int .i64 ((rd_T113 t620 t639).f2), .int .i64 ((rd_T113 t620 t639).f3)], .int .i64 5] rfl M0 ?_; (with_reducible refine (spec_l8For.calls k g619 t616 t640 t641 ((rd_T113 t620 t639).f0.f0) ((rd_T113 t620 t639).f0.f1) ((rd_T113 t620 t639).f0.f2) ((rd_T113 t620 t639).f0.f3) ((rd_T113 t620 t639).f0.f4) ((rd_T113 t620 t639).f1) ((rd_T113 t620 t639).f2) ((rd_T113 t620 t639).f3) 5 t643 t644 t645 t648 t649 t650 t653 t654 t655 t656 w _ ?side1 ?side2 A18.o).mono ?_); (case side1 => exact Q24); (case side2 => exact Q29); rintro e wz4 ⟨v646, v651, rfl, ho0, ho1, hi, hb, hk⟩; refine ⟨_, rfl, ?_⟩; have _ := zK (kB hk BK615.o NB615_619.o); have _ := zK (IsS173.rK (show IsS173 w _ g619 t616 t640 t641 from Q24) HO622.o hk); have _ := zK (Kd.R_lower ho0 (bZ M65)); have _ := zK (Kd.R_lower ho1 (bZ M65)); have _ := zK (hb); have _ := zK (hi); clear BK615 HO622 HB HI619; rename_i BK615 HO622 HO647 HO652 HB HI619; clear hb hk hi ho0 ho1; have hnbz0 := NB615_619.o; have hncz0 := NB619_615.o; obtain ⟨hczz1_0, hczz1_1, hczz1_2, hczz1_3, hczz1_4, hczz1_5, hczz1_6, hczz1_7, hfzz1_0, hfzz1_1, hfzz1_2, hfzz1_3, hfzz1_4, hfzz1_5, hfzz1_6, hfzz1_7⟩ := bx8 BK615.o; obtain ⟨Aoz1, coz1, eoz1⟩ := Kd.R_slice HO647.o; subst eoz1; obtain ⟨Aoz2, coz2, eoz2⟩ := Kd.R_slice HO652.o; subst eoz2) | ((with_reducible refine gc (f := 128) rfl ?_); refine gL (some 14) Try.func128 #[.pointer (some ⟨g619, 0, none⟩)] ?_; (with_reducible refine (spec_l7Any.calls k g619 t616 t623 t624 t625 t626 t627 t630 t631 t632 t635 t636 t637 t638 w _ ?side1 ?side2 A5.o).mono ?_); (case side1 => exact Q24); (case side2 => exact Q29); rintro e wz3 ⟨v628, v633, rfl, ho0, ho1, hi, hb, hk⟩; refine ⟨_, rfl, ?_⟩; have _ := zK (kB hk BK615.o NB615_619.o); have _ := zK (IsS173.rK (show IsS173 w _ g619 t616 t623 t624 from Q24) HO622.o hk); have _ := zK (Kd.R_lower ho0 (bZ M65)); have _ := zK (Kd.R_lower ho1 (bZ M65)); have _ := zK (hb); have _ := zK (hi); clear BK615 HO622 HB HI619; rename_i BK615 HO622 HO629 HO634 HB HI619; clear hb hk hi ho0 ho1; have hnbz0 := NB615_619.o; have hncz0 := NB619_615.o; obtain ⟨hczz1_0, hczz1_1, hczz1_2, hczz1_3, hczz1_4, hczz1_5, hczz1_6, hczz1_7, hfzz1_0, hfzz1_1, hfzz1_2, hfzz1_3, hfzz1_4, hfzz1_5, hfzz1_6, hfzz1_7⟩ := bx8 BK615.o; obtain ⟨Aoz1, coz1, eoz1⟩ := Kd.R_slice HO629.o; subst eoz1; obtain ⟨Aoz2, coz2, eoz2⟩ := Kd.R_slice HO634.o; subst eoz2))
  first
    | refine bodyPost_ret (results_ct rfl _ _ gb615 41 #[.int .i64 t643, .int .i64 t644, .slice Aoz1 t645.length coz1, .int .i64 t648, .int .i64 t649, .slice Aoz2 t650.length coz2, .int .i64 t653, .int .i64 t654] (0, 0) _ rfl (qP BK615.o) Try.underlying41 rfl (by kernel_rfl)) rfl ?_
      exact ⟨_, _, _, o0, Kd.qF HO647.o BK615.o, Kd.qF HO652.o BK615.o, Kd.R_mono (Kd.qF HO622.o BK615.o) (fun _ hk => trivial), Q29⟩
    | refine bodyPost_ret (results_ct rfl _ _ gb615 41 #[.int .i64 t625, .int .i64 t626, .slice Aoz1 t627.length coz1, .int .i64 t630, .int .i64 t631, .slice Aoz2 t632.length coz2, .int .i64 t635, .int .i64 t636] (0, 0) _ rfl (qP BK615.o) Try.underlying41 rfl (by kernel_rfl)) rfl ?_
      exact ⟨_, _, _, o0, Kd.qF HO629.o BK615.o, Kd.qF HO634.o BK615.o, Kd.R_mono (Kd.qF HO622.o BK615.o) (fun _ hk => trivial), Q29⟩) : p := h
theorem spec_DrawCandidates.calls (k : Nat) (A0 : Option Addr) (c0 : Nat) (l0 : List Int) (r1 : Int) (r2 : Int) (r3 : List Int) (r4 : Int) (r5 : Int) (r6 : List Int) (r7 : Int) (r8 : Int) (r9 : List (S113)) (w : World) (hr0 : Kd.C (Kd.int .u8) w A0 l0.length l0) (hc0 : l0.length ≤ c0) (h : spec_DrawCandidates.f k l0 = some (r1, r2, r3, r4, r5, r6, r7, r8, r9)) :
  Calls Try.prog 73 #[.slice A0 l0.length c0] w fun e w' => ∃ v2_ v5_ v8_ : Value, e = .returned (.tuple #[.agg #[.int .i64 r1, .int .i64 r2, v2_, .int .i64 r4, .int .i64 r5, v5_, .int .i64 r7, .int .i64 r8], v8_]) ∧ Kd.R (Kd.int .i64) 3 w' w.heap.size (fun k_ => some k_ ≠ (v5_ : Value).ownBlock) v2_ r3 ∧ Kd.R (Kd.int .i64) 3 w' w.heap.size (fun k_ => some k_ ≠ (v2_ : Value).ownBlock) v5_ r6 ∧ Kd.R k113 113 w' w.heap.size (fun _ => True) v8_ r9 ∧ Below w.heap.size w w' := by
 have hu41 := Try.underlying41
 have hu113 := Try.underlying113
 have HR0 := zK hr0
 have HC0 := zK hc0
 clear hr0 hc0
 have HB := zK (Below.refl w.heap.size w)
 have H : ((spec_l1New.f k l0).bind fun bt616 => ((spec_l6Any.f k bt616.1 bt616.2.1 bt616.2.2).bind fun bt620 => (if (bt620.1.length : Int) = 0 then ((spec_l7Any.f k bt616.1 bt620.2.1 bt620.2.2).bind fun bt625 => (some (bt625.1, bt625.2.1, bt625.2.2.1, bt625.2.2.2.1, bt625.2.2.2.2.1, bt625.2.2.2.2.2.1, bt625.2.2.2.2.2.2.1, bt625.2.2.2.2.2.2.2.1, bt620.1))) else ((spec_l1Below.f bt616.1 bt620.2.1 bt620.2.2 (bt620.1.length : Int)).bind fun bt639 => (if 0 ≤ bt639.1 then (if bt639.1 < (bt620.1.length : Int) then ((spec_l8For.f k bt616.1 bt639.2.1 bt639.2.2 ((rd_T113 bt620.1 bt639.1).f0.f0) ((rd_T113 bt620.1 bt639.1).f0.f1) ((rd_T113 bt620.1 bt639.1).f0.f2) ((rd_T113 bt620.1 bt639.1).f0.f3) ((rd_T113 bt620.1 bt639.1).f0.f4) ((rd_T113 bt620.1 bt639.1).f1) ((rd_T113 bt620.1 bt639.1).f2) ((rd_T113 bt620.1 bt639.1).f3) 5).bind fun bt643 => (some (bt643.1, bt643.2.1, bt643.2.2.1, bt643.2.2.2.1, bt643.2.2.2.2.1, bt643.2.2.2.2.2.1, bt643.2.2.2.2.2.2.1, bt643.2.2.2.2.2.2.2.1, bt620.1))) else (none)) else (none)))))) = some (r1, r2, r3, r4, r5, r6, r7, r8, r9) := h
 clear h
 replace H := Option.bind_eq_some_iff.mp H
 obtain ⟨⟨t616, t617, t618⟩, A20, H⟩ := H
 try dsimp only at H
 have A2 := zK A20
 clear A20
 replace H := Option.bind_eq_some_iff.mp H
 obtain ⟨⟨t620, t623, t624⟩, A30, H⟩ := H
 try dsimp only at H
 have A3 := zK A30
 clear A30
 by_cases c4 : (t620.length : Int) = 0
 ·rw [if_pos c4] at H
  have c4b0 : ((t620.length : Int) == 0) = true := beq_iff_eq.mpr c4
  have c4b1 : ((t620.length : Int) != 0) = false := bne_eq_false_iff_eq.mpr c4
  clear c4
  replace H := Option.bind_eq_some_iff.mp H
  obtain ⟨⟨t625, t626, t627, t630, t631, t632, t635, t636, t637, t638⟩, A50, H⟩ := H
  try dsimp only at H
  have A5 := zK A50
  clear A50
  simp only [Option.some.injEq, Prod.mk.injEq] at H
  obtain ⟨rfl, rfl, rfl, rfl, rfl, rfl, rfl, rfl, rfl⟩ := H
  exact lf13_0
 rw [if_neg c4] at H
 have c4b0 : ((t620.length : Int) == 0) = false := beq_eq_false_iff_ne.mpr c4
 have c4b1 : ((t620.length : Int) != 0) = true := bne_iff_ne.mpr c4
 have c4b2 : ¬ (t620 = []) := fun h_ => c4 (by rw [h_]; rfl)
 replace H := Option.bind_eq_some_iff.mp H
 obtain ⟨⟨t639, t640, t641⟩, A150, H⟩ := H
 try dsimp only at H
 have A15 := zK A150
 clear A150
 by_cases c16 : 0 ≤ t639
 rotate_left
 ·rw [if_neg c16] at H
  exact absurd H (by simp)
 rw [if_pos c16] at H
 have c16b0 : decide (0 ≤ t639) = true := decide_eq_true c16
 clear c16
 by_cases c17 : t639 < (t620.length : Int)
 rotate_left
 ·rw [if_neg c17] at H
  exact absurd H (by simp)
 rw [if_pos c17] at H
 have c17b0 : decide (t639 < (t620.length : Int)) = true := decide_eq_true c17
 clear c17
 replace H := Option.bind_eq_some_iff.mp H
 obtain ⟨⟨t643, t644, t645, t648, t649, t650, t653, t654, t655, t656⟩, A180, H⟩ := H
 try dsimp only at H
 have A18 := zK A180
 clear A180
 simp only [Option.some.injEq, Prod.mk.injEq] at H
 obtain ⟨rfl, rfl, rfl, rfl, rfl, rfl, rfl, rfl, rfl⟩ := H
 exact lf13_0
/-! ### laws_ascends: function 74 -/
def laws_ascends.l0 : Nat → List Int → Int → Option (Bool)
 | 0, _, _ => none
 | k + 1, x0, x3 => if x3 < (x0.length : Int) then (if 0 ≤ (wrap64 (x3 - 1)) then (if (wrap64 (x3 - 1)) < (x0.length : Int) then (if 0 ≤ x3 then (if (rd x0 (wrap64 (x3 - 1))) ≥ (rd x0 x3) then (some false) else (laws_ascends.l0 k x0 (wrap64 (x3 + 1)))) else (none)) else (none)) else (none)) else (some true)
def laws_ascends.f (k : Nat) (l0 : List Int) : Option (Bool) := laws_ascends.l0 k l0 1
theorem laws_ascends.calls (k : Nat) (A0 : Option Addr) (c0 : Nat) (l0 : List Int) (r : Bool) (w : World) (hr0 : Kd.C (Kd.int .i64) w A0 l0.length l0) (hc0 : l0.length ≤ c0) (h : laws_ascends.f k l0 = some r) :
  Calls Try.prog 74 #[.slice A0 l0.length c0] w fun e w' => e = .returned (.bool r) ∧ Drawn0 w w' := by
 have HR0 := zK hr0
 have HC0 := zK hc0
 clear hr0 hc0
 have H : (laws_ascends.l0 k l0 1) = some r := h
 clear h
 have H' := zK H
 clear H
 go_enter Try.func74, Try.ntmps74
 go_wp2
 repeat (go_quiet (fail); try go_wp2)
 go_loopg [3] k (fun kq v3 w' => ∃ (x3_1 : Int), v3 = .int .i64 x3_1 ∧ Aside0 (laws_ascends.l0 kq l0 x3_1 = some r) ∧ Aside0 (kq ≤ k) ∧ Drawn0 w w')
 case atStart => exact ⟨(1), M12, H', ⟨Nat.le_refl _⟩, Q4⟩
 case round =>
  clear H'
  obtain ⟨x3_1, rfl, HA, HK1, ⟨m1, rfl⟩⟩ := hrel
  cases gk with
  | zero => exact absurd HA.o (by simp [laws_ascends.l0])
  | succ k1 =>
   have H := HA.o
   clear HA
   simp only [laws_ascends.l0] at H
   by_cases c2 : x3_1 < (l0.length : Int)
   rotate_left
   ·rw [if_neg c2] at H
    have c2b0 : decide (x3_1 < (l0.length : Int)) = false := decide_eq_false c2
    clear c2
    obtain rfl := Option.some.inj H
    go_wp2
    repeat (go_quiet (fail); try go_wp2)
    go_ret
    exact ⟨o2, Q4⟩
   rw [if_pos c2] at H
   have c2b0 : decide (x3_1 < (l0.length : Int)) = true := decide_eq_true c2
   clear c2
   obtain ⟨ji3, hji3⟩ : ∃ j_ : Int, (wrap64 (x3_1 - 1)) = j_ := ⟨_, rfl⟩
   replace H : (if 0 ≤ (ji3) then (if (ji3) < (l0.length : Int) then (if 0 ≤ x3_1 then (if (rd l0 (ji3)) ≥ (rd l0 x3_1) then (some false) else (laws_ascends.l0 k1 l0 (wrap64 (x3_1 + 1)))) else (none)) else (none)) else (none)) = some r := by first | (rw [hji3] at H; exact H) | (simp only [hji3] at H ⊢; exact H)
   have hji3w : (IntKind.i64.wrap (x3_1 - 1)) = ji3 := (i64_w _).trans hji3
   by_cases c4 : 0 ≤ (ji3)
   rotate_left
   ·rw [if_neg c4] at H
    exact absurd H (by simp)
   rw [if_pos c4] at H
   have c4b0 : decide (0 ≤ (ji3)) = true := decide_eq_true c4
   clear c4
   by_cases c5 : (ji3) < (l0.length : Int)
   rotate_left
   ·rw [if_neg c5] at H
    exact absurd H (by simp)
   rw [if_pos c5] at H
   have c5b0 : decide ((ji3) < (l0.length : Int)) = true := decide_eq_true c5
   clear c5
   by_cases c6 : 0 ≤ x3_1
   rotate_left
   ·rw [if_neg c6] at H
    exact absurd H (by simp)
   rw [if_pos c6] at H
   have c6b0 : decide (0 ≤ x3_1) = true := decide_eq_true c6
   clear c6
   by_cases c7 : (rd l0 (ji3)) ≥ (rd l0 x3_1)
   ·rw [if_pos c7] at H
    have c7b0 : decide ((rd l0 x3_1) ≤ (rd l0 (ji3))) = true := decide_eq_true c7
    clear c7
    obtain rfl := Option.some.inj H
    have p657 : 0 ≤ ((ji3) : Int) := oD M4
    have q657 : (ji3) < (l0.length : Int) := oD M4
    obtain ⟨ad657, e657, hx657_0⟩ := Kd.at_int HR0.o (ji3) p657 q657
    cases e657
    replace p657 := eq_true p657
    replace q657 := eq_true q657
    have p658 : 0 ≤ (x3_1 : Int) := oD M4
    have q658 : x3_1 < (l0.length : Int) := oD M4
    obtain ⟨ad658, e658, hx658_0⟩ := Kd.at_int HR0.o x3_1 p658 q658
    obtain rfl : ad657 = ad658 := (by injection e658)
    replace p658 := eq_true p658
    replace q658 := eq_true q658
    go_wp2
    repeat (go_quiet (fail); try go_wp2)
    go_ret
    exact ⟨by first | rfl | (simp; done) | (simp only [← hji3] <;> (first | rfl | simp)) | (simp [*]; done), Q4⟩
   rw [if_neg c7] at H
   have c7b0 : decide ((rd l0 x3_1) ≤ (rd l0 (ji3))) = false := decide_eq_false c7
   clear c7
   have H' := zK H
   clear H
   have p657 : 0 ≤ ((ji3) : Int) := oD M4
   have q657 : (ji3) < (l0.length : Int) := oD M4
   obtain ⟨ad657, e657, hx657_0⟩ := Kd.at_int HR0.o (ji3) p657 q657
   cases e657
   replace p657 := eq_true p657
   replace q657 := eq_true q657
   have p658 : 0 ≤ (x3_1 : Int) := oD M4
   have q658 : x3_1 < (l0.length : Int) := oD M4
   obtain ⟨ad658, e658, hx658_0⟩ := Kd.at_int HR0.o x3_1 p658 q658
   obtain rfl : ad657 = ad658 := (by injection e658)
   replace p658 := eq_true p658
   replace q658 := eq_true q658
   go_wp2
   repeat (go_quiet (fail); try go_wp2)
   go_roundg k1
   case measure => have := HK1.o; omega
   case rel => exact ⟨(wrap64 (x3_1 + 1)), M12, H', ⟨o6⟩, Q4⟩
/-! ### impl_WhyNot: function 131 -/
def impl_WhyNot.j0 : Nat → Bool → Int → Int → List Int → Int → Int → List Int → Int → Int → Int → Int → Int → Int → Int → Int → Int → Int → Option (ByteArray)
 | 0, _, _, _, _, _, _, _, _, _, _, _, _, _, _, _, _, _ => none
 | k + 1, x5, x660000, x660001, x660002, x660003, x660004, x660005, x660006, x660007, x661000, x661001, x661002, x661003, x661004, x661005, x661006, x661007 => if x5 = true then (some (⟨#[105, 110, 118, 97, 108, 105, 100]⟩ : ByteArray)) else (if x660001 = x661001 then ((impl_allows.f k x660002 x661002).bind fun t663 => (if t663 = true then ((impl_InRange.f x661003 x660003 x660004).bind fun t664 => (if t664 = true then ((impl_allows.f k x660005 x661005).bind fun t665 => (if t665 = true then (if x661006 < x660006 then (some (⟨#[116, 105, 109, 101]⟩ : ByteArray)) else (some (⟨#[]⟩ : ByteArray))) else (some (⟨#[112, 108, 97, 99, 101]⟩ : ByteArray)))) else (some (⟨#[115, 105, 122, 101]⟩ : ByteArray)))) else (some (⟨#[99, 111, 108, 111, 117, 114]⟩ : ByteArray)))) else (some (⟨#[107, 105, 110, 100]⟩ : ByteArray)))
def impl_WhyNot.f (k : Nat) (a0_0 : Int) (a0_1 : Int) (l0_2 : List Int) (a0_3 : Int) (a0_4 : Int) (l0_5 : List Int) (a0_6 : Int) (a0_7 : Int) (a1_0 : Int) (a1_1 : Int) (a1_2 : Int) (a1_3 : Int) (a1_4 : Int) (a1_5 : Int) (a1_6 : Int) (a1_7 : Int) : Option (ByteArray) := (impl_IsReport.f k a0_0 a0_1 l0_2 a0_3 a0_4 l0_5 a0_6 a0_7).bind fun t661 => (if t661 = true then ((impl_IsFind.f a1_0 a1_1 a1_2 a1_3 a1_4 a1_5 a1_6 a1_7).bind fun t662 => (impl_WhyNot.j0 k (!t662) a0_0 a0_1 l0_2 a0_3 a0_4 l0_5 a0_6 a0_7 a1_0 a1_1 a1_2 a1_3 a1_4 a1_5 a1_6 a1_7)) else (impl_WhyNot.j0 k true a0_0 a0_1 l0_2 a0_3 a0_4 l0_5 a0_6 a0_7 a1_0 a1_1 a1_2 a1_3 a1_4 a1_5 a1_6 a1_7))
theorem lf13_1 {p : Prop} (h : p := by
  go_wp2_with (first | ((with_reducible refine gc (f := 93) rfl ?_); refine gL (some 27) Try.func93 #[.slice A0_2 l0_2.length c0_2, .int .i64 a1_2] ?_; (with_reducible refine (impl_allows.calls kj2 _ _ l0_2 a1_2 true _ ?side1 ?side2 A19.o).mono ?_); (case side1 => exact Kd.qC (Kd.C_below HR0_2.o HB.o)); (case side2 => exact HC0_2.o); rintro e w' ⟨rfl, ⟨nd, rfl⟩⟩; refine ⟨_, rfl, ?_⟩) | ((with_reducible refine gc (f := 106) rfl ?_); refine gL (some 37) Try.func106 #[.int .i64 a1_3, .int .i64 a0_3, .int .i64 a0_4] ?_; (with_reducible refine (impl_InRange.calls a1_3 a0_3 a0_4 true _ A21.o).mono ?_); rintro e w' ⟨rfl, ⟨nd, rfl⟩⟩; refine ⟨_, rfl, ?_⟩) | ((with_reducible refine gc (f := 93) rfl ?_); refine gL (some 44) Try.func93 #[.slice A0_5 l0_5.length c0_5, .int .i64 a1_5] ?_; (with_reducible refine (impl_allows.calls kj2 _ _ l0_5 a1_5 true _ ?side1 ?side2 A23.o).mono ?_); (case side1 => exact J1); (case side2 => exact HC0_5.o); rintro e w' ⟨rfl, ⟨nd, rfl⟩⟩; refine ⟨_, rfl, ?_⟩))
  go_ret
  exact ⟨o0, o3⟩) : p := h
theorem impl_WhyNot.calls (k : Nat) (a0_0 : Int) (a0_1 : Int) (A0_2 : Option Addr) (c0_2 : Nat) (l0_2 : List Int) (a0_3 : Int) (a0_4 : Int) (A0_5 : Option Addr) (c0_5 : Nat) (l0_5 : List Int) (a0_6 : Int) (a0_7 : Int) (a1_0 : Int) (a1_1 : Int) (a1_2 : Int) (a1_3 : Int) (a1_4 : Int) (a1_5 : Int) (a1_6 : Int) (a1_7 : Int) (r : ByteArray) (w : World) (hr0_2 : Kd.C (Kd.int .i64) w A0_2 l0_2.length l0_2) (hc0_2 : l0_2.length ≤ c0_2) (hr0_5 : Kd.C (Kd.int .i64) w A0_5 l0_5.length l0_5) (hc0_5 : l0_5.length ≤ c0_5) (h : impl_WhyNot.f k a0_0 a0_1 l0_2 a0_3 a0_4 l0_5 a0_6 a0_7 a1_0 a1_1 a1_2 a1_3 a1_4 a1_5 a1_6 a1_7 = some r) :
  Calls Try.prog 131 #[.agg #[.int .i64 a0_0, .int .i64 a0_1, .slice A0_2 l0_2.length c0_2, .int .i64 a0_3, .int .i64 a0_4, .slice A0_5 l0_5.length c0_5, .int .i64 a0_6, .int .i64 a0_7], .agg #[.int .i64 a1_0, .int .i64 a1_1, .int .i64 a1_2, .int .i64 a1_3, .int .i64 a1_4, .int .i64 a1_5, .int .i64 a1_6, .int .i64 a1_7]] w fun e w' => e = .returned (.string r) ∧ Below w.heap.size w w' := by
 have hu41 := Try.underlying41
 have hu113 := Try.underlying113
 have HR0_2 := zK hr0_2
 have HC0_2 := zK hc0_2
 clear hr0_2 hc0_2
 have HR0_5 := zK hr0_5
 have HC0_5 := zK hc0_5
 clear hr0_5 hc0_5
 have HB := zK (Below.refl w.heap.size w)
 have H : ((impl_IsReport.f k a0_0 a0_1 l0_2 a0_3 a0_4 l0_5 a0_6 a0_7).bind fun t661 => (if t661 = true then ((impl_IsFind.f a1_0 a1_1 a1_2 a1_3 a1_4 a1_5 a1_6 a1_7).bind fun t662 => (impl_WhyNot.j0 k (!t662) a0_0 a0_1 l0_2 a0_3 a0_4 l0_5 a0_6 a0_7 a1_0 a1_1 a1_2 a1_3 a1_4 a1_5 a1_6 a1_7)) else (impl_WhyNot.j0 k true a0_0 a0_1 l0_2 a0_3 a0_4 l0_5 a0_6 a0_7 a1_0 a1_1 a1_2 a1_3 a1_4 a1_5 a1_6 a1_7))) = some r := h
 clear h
 have HC3 := zK H
 clear H
 go_enter Try.func131, Try.ntmps131
 go_upto_region 1 with (first | ((with_reducible refine gd (N := 2) rfl ?_); refine bE (N := 2) (cs := #[.int .i64 a0_0, .int .i64 a0_1, .slice A0_2 l0_2.length c0_2, .int .i64 a0_3, .int .i64 a0_4, .slice A0_5 l0_5.length c0_5, .int .i64 a0_6, .int .i64 a0_7]) (t := 41) ?_; intro gb659 hg w4 hbox hb; have _ := zK (bT (qB HB.o) hb); have _ := zK (hbox); have _ := zK ((by rw [hg]; exact (bZ (qB HB.o)) : w.heap.size ≤ gb659)); have _ := zK ((by rw [hg]; exact (bZ (qB HB.o)) : w.heap.size ≤ gb659)); clear HB; rename_i HB BK659 GW659 GE659; clear hb hbox hg) | ((with_reducible refine gd (N := 3) rfl ?_); refine bE (N := 3) (cs := #[.int .i64 a1_0, .int .i64 a1_1, .int .i64 a1_2, .int .i64 a1_3, .int .i64 a1_4, .int .i64 a1_5, .int .i64 a1_6, .int .i64 a1_7]) (t := 113) ?_; intro gb660 hg w5 hbox hb; have _ := zK (bB (qK BK659.o) hb); have _ := zK (bT (qX HB.o) hb); have _ := zK (hbox); have _ := zK ((by rw [hg]; exact (bZ (qX HB.o)) : w.heap.size ≤ gb660)); have _ := zK ((by rw [hg]; exact (bZ (qX HB.o)) : w.heap.size ≤ gb660)); have _ := zK ((by rw [hg]; exact Nat.ne_of_lt (blk_lt (qK BK659.o)) : gb659 ≠ gb660)); have _ := zK ((by rw [hg]; exact Nat.ne_of_gt (blk_lt (qK BK659.o)) : gb660 ≠ gb659)); clear BK659 HB; rename_i BK659 HB BK660 GW660 GE660 NB659_660 NB660_659; clear hb hbox hg))
 (try simp only [Act.put, sA, sZ, sS])
 go_cut [5] (fun v5 wc => ∃ (kq : Nat) (x5_2 : Bool), v5 = .bool x5_2 ∧ Aside0 (impl_WhyNot.j0 kq x5_2 a0_0 a0_1 l0_2 a0_3 a0_4 l0_5 a0_6 a0_7 a1_0 a1_1 a1_2 a1_3 a1_4 a1_5 a1_6 a1_7 = some r) ∧ Aside0 (kq ≤ k) ∧ Aside0 (wc.heap[gb659]? = some (.cells #[.int .i64 a0_0, .int .i64 a0_1, (.slice A0_2 l0_2.length c0_2), .int .i64 a0_3, .int .i64 a0_4, (.slice A0_5 l0_5.length c0_5), .int .i64 a0_6, .int .i64 a0_7] 41 (0, 0))) ∧ Aside0 (wc.heap[gb660]? = some (.cells #[.int .i64 a1_0, .int .i64 a1_1, .int .i64 a1_2, .int .i64 a1_3, .int .i64 a1_4, .int .i64 a1_5, .int .i64 a1_6, .int .i64 a1_7] 113 (0, 0))) ∧ Aside0 (Below w.heap.size w wc))
 case first =>
  have H := HC3.o
  clear HC3
  replace H := Option.bind_eq_some_iff.mp H
  obtain ⟨t661, A60, H⟩ := H
  try dsimp only at H
  have A6 := zK A60
  clear A60
  by_cases c7 : t661 = true
  rotate_left
  ·replace c7 := Bool.eq_false_iff.mpr c7
   subst c7
   have H1 : (impl_WhyNot.j0 k true a0_0 a0_1 l0_2 a0_3 a0_4 l0_5 a0_6 a0_7 a1_0 a1_1 a1_2 a1_3 a1_4 a1_5 a1_6 a1_7) = some r := by rw [if_neg (show ¬ (false = true) by decide)] at H; exact H
   clear H
   have H := H1
   clear H1
   have H' := zK H
   clear H
   have hnb14 := NB659_660.o
   have hnc14 := NB660_659.o
   obtain ⟨hcz15_0, hcz15_1, hcz15_2, hcz15_3, hcz15_4, hcz15_5, hcz15_6, hcz15_7, hfz15_0, hfz15_1, hfz15_2, hfz15_3, hfz15_4, hfz15_5, hfz15_6, hfz15_7⟩ := bx8 BK659.o
   go_wp2_with (first | ((with_reducible refine gc (f := 92) rfl ?_); refine goesL_ (some 7) rfl rfl Try.func92 (by kernel_rfl) rfl #[.agg #[.int .i64 a0_0, .int .i64 a0_1, .slice A0_2 l0_2.length c0_2, .int .i64 a0_3, .int .i64 a0_4, .slice A0_5 l0_5.length c0_5, .int .i64 a0_6, .int .i64 a0_7]] rfl M0 ?_; (with_reducible refine (impl_IsReport.calls k a0_0 a0_1 _ _ l0_2 a0_3 a0_4 _ _ l0_5 a0_6 a0_7 false _ ?side1 ?side2 ?side3 ?side4 A6.o).mono ?_); (case side1 => exact Kd.qC (Kd.C_below HR0_2.o HB.o)); (case side2 => exact HC0_2.o); (case side3 => exact Kd.qC (Kd.C_below HR0_5.o HB.o)); (case side4 => exact HC0_5.o); rintro e w16 ⟨rfl, hb⟩; refine ⟨_, rfl, ?_⟩; have _ := zK (bB (qK BK659.o) hb); have _ := zK (bB (qK BK660.o) hb); have _ := zK (bT M11 hb); clear BK659 BK660 HB; rename_i BK659 BK660 HB; clear hb))
   go_meet
   case rel => exact ⟨_, (true), M12, H', ⟨by first | omega | exact Nat.le_refl _⟩, ⟨by exact qK BK659.o⟩, ⟨by exact qK BK660.o⟩, ⟨o3⟩⟩
  subst c7
  have H1 : ((impl_IsFind.f a1_0 a1_1 a1_2 a1_3 a1_4 a1_5 a1_6 a1_7).bind fun t662 => (impl_WhyNot.j0 k (!t662) a0_0 a0_1 l0_2 a0_3 a0_4 l0_5 a0_6 a0_7 a1_0 a1_1 a1_2 a1_3 a1_4 a1_5 a1_6 a1_7)) = some r := by rw [if_pos rfl] at H; exact H
  clear H
  have H := H1
  clear H1
  replace H := Option.bind_eq_some_iff.mp H
  obtain ⟨t662, A80, H⟩ := H
  try dsimp only at H
  have A8 := zK A80
  clear A80
  have H' := zK H
  clear H
  have hnb9 := NB659_660.o
  have hnc9 := NB660_659.o
  obtain ⟨hcz10_0, hcz10_1, hcz10_2, hcz10_3, hcz10_4, hcz10_5, hcz10_6, hcz10_7, hfz10_0, hfz10_1, hfz10_2, hfz10_3, hfz10_4, hfz10_5, hfz10_6, hfz10_7⟩ := bx8 BK659.o
  go_wp2_with (first | ((with_reducible refine gc (f := 92) rfl ?_); refine goesL_ (some 7) rfl rfl Try.func92 (by kernel_rfl) rfl #[.agg #[.int .i64 a0_0, .int .i64 a0_1, .slice A0_2 l0_2.length c0_2, .int .i64 a0_3, .int .i64 a0_4, .slice A0_5 l0_5.length c0_5, .int .i64 a0_6, .int .i64 a0_7]] rfl M0 ?_; (with_reducible refine (impl_IsReport.calls k a0_0 a0_1 _ _ l0_2 a0_3 a0_4 _ _ l0_5 a0_6 a0_7 true _ ?side1 ?side2 ?side3 ?side4 A6.o).mono ?_); (case side1 => exact Kd.qC (Kd.C_below HR0_2.o HB.o)); (case side2 => exact HC0_2.o); (case side3 => exact Kd.qC (Kd.C_below HR0_5.o HB.o)); (case side4 => exact HC0_5.o); rintro e w11 ⟨rfl, hb⟩; refine ⟨_, rfl, ?_⟩; have _ := zK (bB (qK BK659.o) hb); have _ := zK (bB (qK BK660.o) hb); have _ := zK (bT M11 hb); clear BK659 BK660 HB; rename_i BK659 BK660 HB; clear hb; obtain ⟨hcz12_0, hcz12_1, hcz12_2, hcz12_3, hcz12_4, hcz12_5, hcz12_6, hcz12_7, hfz12_0, hfz12_1, hfz12_2, hfz12_3, hfz12_4, hfz12_5, hfz12_6, hfz12_7⟩ := bx8 BK660.o) | (go_at_call 130; (with_reducible refine (impl_IsFind.calls a1_0 a1_1 a1_2 a1_3 a1_4 a1_5 a1_6 a1_7 t662 _ A8.o).mono ?_); rintro e w13 ⟨rfl, hb⟩; have _ := zK (bB (qK BK659.o) hb); have _ := zK (bB (qK BK660.o) hb); have _ := zK (bT M11 hb); clear BK659 BK660 HB; rename_i BK659 BK660 HB; clear hb))
  go_meet
  case rel => exact ⟨_, (!t662), M12, H', ⟨by first | omega | exact Nat.le_refl _⟩, ⟨by exact qK BK659.o⟩, ⟨by exact qK BK660.o⟩, ⟨o3⟩⟩
 case rest =>
  clear HC3
  try clear c1
  try clear p2
  try clear c7
  try clear c9
  try clear c13
  try clear c14
  try clear hcz10_0 hcz10_1 hcz10_2 hcz10_3 hcz10_4 hcz10_5 hcz10_6 hcz10_7 hcz12_0 hcz12_1 hcz12_2 hcz12_3 hcz12_4 hcz12_5 hcz12_6 hcz12_7 hcz15_0 hcz15_1 hcz15_2 hcz15_3 hcz15_4 hcz15_5 hcz15_6 hcz15_7 hfz10_0 hfz10_1 hfz10_2 hfz10_3 hfz10_4 hfz10_5 hfz10_6 hfz10_7 hfz12_0 hfz12_1 hfz12_2 hfz12_3 hfz12_4 hfz12_5 hfz12_6 hfz12_7 hfz15_0 hfz15_1 hfz15_2 hfz15_3 hfz15_4 hfz15_5 hfz15_6 hfz15_7
  obtain ⟨kq, x5_2, rfl, HA, HJ2, BK659, BK660, HB⟩ := hcut
  cases kq with
  | zero => exact absurd HA.o (by simp [impl_WhyNot.j0])
  | succ kj2 =>
   have H := HA.o
   clear HA
   simp only [impl_WhyNot.j0] at H
   by_cases c17 : x5_2 = true
   ·subst c17
    have H1 : (some (⟨#[105, 110, 118, 97, 108, 105, 100]⟩ : ByteArray)) = some r := by rw [if_pos rfl] at H; exact H
    clear H
    have H := H1
    clear H1
    obtain rfl := Option.some.inj H
    go_wp2
    go_ret
    exact ⟨o0, o3⟩
   replace c17 := Bool.eq_false_iff.mpr c17
   subst c17
   have H1 : (if a0_1 = a1_1 then ((impl_allows.f kj2 l0_2 a1_2).bind fun t663 => (if t663 = true then ((impl_InRange.f a1_3 a0_3 a0_4).bind fun t664 => (if t664 = true then ((impl_allows.f kj2 l0_5 a1_5).bind fun t665 => (if t665 = true then (if a1_6 < a0_6 then (some (⟨#[116, 105, 109, 101]⟩ : ByteArray)) else (some (⟨#[]⟩ : ByteArray))) else (some (⟨#[112, 108, 97, 99, 101]⟩ : ByteArray)))) else (some (⟨#[115, 105, 122, 101]⟩ : ByteArray)))) else (some (⟨#[99, 111, 108, 111, 117, 114]⟩ : ByteArray)))) else (some (⟨#[107, 105, 110, 100]⟩ : ByteArray))) = some r := by rw [if_neg (show ¬ (false = true) by decide)] at H; exact H
   clear H
   have H := H1
   clear H1
   by_cases c18 : a0_1 = a1_1
   rotate_left
   ·rw [if_neg c18] at H
    have c18b0 : (a0_1 == a1_1) = false := beq_eq_false_iff_ne.mpr c18
    have c18b1 : (a0_1 != a1_1) = true := bne_iff_ne.mpr c18
    obtain rfl := Option.some.inj H
    have hnb41 := NB659_660.o
    have hnc41 := NB660_659.o
    obtain ⟨hcz42_0, hcz42_1, hcz42_2, hcz42_3, hcz42_4, hcz42_5, hcz42_6, hcz42_7, hfz42_0, hfz42_1, hfz42_2, hfz42_3, hfz42_4, hfz42_5, hfz42_6, hfz42_7⟩ := bx8 BK659.o
    obtain ⟨hcz43_0, hcz43_1, hcz43_2, hcz43_3, hcz43_4, hcz43_5, hcz43_6, hcz43_7, hfz43_0, hfz43_1, hfz43_2, hfz43_3, hfz43_4, hfz43_5, hfz43_6, hfz43_7⟩ := bx8 BK660.o
    go_wp2
    go_ret
    exact ⟨o0, o3⟩
   rw [if_pos c18] at H
   have c18b0 : (a0_1 == a1_1) = true := beq_iff_eq.mpr c18
   have c18b1 : (a0_1 != a1_1) = false := bne_eq_false_iff_eq.mpr c18
   clear c18
   replace H := Option.bind_eq_some_iff.mp H
   obtain ⟨t663, A190, H⟩ := H
   try dsimp only at H
   have A19 := zK A190
   clear A190
   by_cases c20 : t663 = true
   rotate_left
   ·replace c20 := Bool.eq_false_iff.mpr c20
    subst c20
    have H1 : (some (⟨#[99, 111, 108, 111, 117, 114]⟩ : ByteArray)) = some r := by rw [if_neg (show ¬ (false = true) by decide)] at H; exact H
    clear H
    have H := H1
    clear H1
    obtain rfl := Option.some.inj H
    have hnb38 := NB659_660.o
    have hnc38 := NB660_659.o
    obtain ⟨hcz39_0, hcz39_1, hcz39_2, hcz39_3, hcz39_4, hcz39_5, hcz39_6, hcz39_7, hfz39_0, hfz39_1, hfz39_2, hfz39_3, hfz39_4, hfz39_5, hfz39_6, hfz39_7⟩ := bx8 BK659.o
    obtain ⟨hcz40_0, hcz40_1, hcz40_2, hcz40_3, hcz40_4, hcz40_5, hcz40_6, hcz40_7, hfz40_0, hfz40_1, hfz40_2, hfz40_3, hfz40_4, hfz40_5, hfz40_6, hfz40_7⟩ := bx8 BK660.o
    go_wp2_with (first | ((with_reducible refine gc (f := 93) rfl ?_); refine gL (some 27) Try.func93 #[.slice A0_2 l0_2.length c0_2, .int .i64 a1_2] ?_; (with_reducible refine (impl_allows.calls kj2 _ _ l0_2 a1_2 false _ ?side1 ?side2 A19.o).mono ?_); (case side1 => exact Kd.qC (Kd.C_below HR0_2.o HB.o)); (case side2 => exact HC0_2.o); rintro e w' ⟨rfl, ⟨nd, rfl⟩⟩; refine ⟨_, rfl, ?_⟩))
    go_ret
    exact ⟨o0, o3⟩
   subst c20
   have H1 : ((impl_InRange.f a1_3 a0_3 a0_4).bind fun t664 => (if t664 = true then ((impl_allows.f kj2 l0_5 a1_5).bind fun t665 => (if t665 = true then (if a1_6 < a0_6 then (some (⟨#[116, 105, 109, 101]⟩ : ByteArray)) else (some (⟨#[]⟩ : ByteArray))) else (some (⟨#[112, 108, 97, 99, 101]⟩ : ByteArray)))) else (some (⟨#[115, 105, 122, 101]⟩ : ByteArray)))) = some r := by rw [if_pos rfl] at H; exact H
   clear H
   have H := H1
   clear H1
   replace H := Option.bind_eq_some_iff.mp H
   obtain ⟨t664, A210, H⟩ := H
   try dsimp only at H
   have A21 := zK A210
   clear A210
   by_cases c22 : t664 = true
   rotate_left
   ·replace c22 := Bool.eq_false_iff.mpr c22
    subst c22
    have H1 : (some (⟨#[115, 105, 122, 101]⟩ : ByteArray)) = some r := by rw [if_neg (show ¬ (false = true) by decide)] at H; exact H
    clear H
    have H := H1
    clear H1
    obtain rfl := Option.some.inj H
    have hnb35 := NB659_660.o
    have hnc35 := NB660_659.o
    obtain ⟨hcz36_0, hcz36_1, hcz36_2, hcz36_3, hcz36_4, hcz36_5, hcz36_6, hcz36_7, hfz36_0, hfz36_1, hfz36_2, hfz36_3, hfz36_4, hfz36_5, hfz36_6, hfz36_7⟩ := bx8 BK659.o
    obtain ⟨hcz37_0, hcz37_1, hcz37_2, hcz37_3, hcz37_4, hcz37_5, hcz37_6, hcz37_7, hfz37_0, hfz37_1, hfz37_2, hfz37_3, hfz37_4, hfz37_5, hfz37_6, hfz37_7⟩ := bx8 BK660.o
    go_wp2_with (first | ((with_reducible refine gc (f := 93) rfl ?_); refine gL (some 27) Try.func93 #[.slice A0_2 l0_2.length c0_2, .int .i64 a1_2] ?_; (with_reducible refine (impl_allows.calls kj2 _ _ l0_2 a1_2 true _ ?side1 ?side2 A19.o).mono ?_); (case side1 => exact Kd.qC (Kd.C_below HR0_2.o HB.o)); (case side2 => exact HC0_2.o); rintro e w' ⟨rfl, ⟨nd, rfl⟩⟩; refine ⟨_, rfl, ?_⟩) | ((with_reducible refine gc (f := 106) rfl ?_); refine gL (some 37) Try.func106 #[.int .i64 a1_3, .int .i64 a0_3, .int .i64 a0_4] ?_; (with_reducible refine (impl_InRange.calls a1_3 a0_3 a0_4 false _ A21.o).mono ?_); rintro e w' ⟨rfl, ⟨nd, rfl⟩⟩; refine ⟨_, rfl, ?_⟩))
    go_ret
    exact ⟨o0, o3⟩
   subst c22
   have H1 : ((impl_allows.f kj2 l0_5 a1_5).bind fun t665 => (if t665 = true then (if a1_6 < a0_6 then (some (⟨#[116, 105, 109, 101]⟩ : ByteArray)) else (some (⟨#[]⟩ : ByteArray))) else (some (⟨#[112, 108, 97, 99, 101]⟩ : ByteArray)))) = some r := by rw [if_pos rfl] at H; exact H
   clear H
   have H := H1
   clear H1
   replace H := Option.bind_eq_some_iff.mp H
   obtain ⟨t665, A230, H⟩ := H
   try dsimp only at H
   have A23 := zK A230
   clear A230
   by_cases c24 : t665 = true
   rotate_left
   ·replace c24 := Bool.eq_false_iff.mpr c24
    subst c24
    have H1 : (some (⟨#[112, 108, 97, 99, 101]⟩ : ByteArray)) = some r := by rw [if_neg (show ¬ (false = true) by decide)] at H; exact H
    clear H
    have H := H1
    clear H1
    obtain rfl := Option.some.inj H
    have hnb32 := NB659_660.o
    have hnc32 := NB660_659.o
    obtain ⟨hcz33_0, hcz33_1, hcz33_2, hcz33_3, hcz33_4, hcz33_5, hcz33_6, hcz33_7, hfz33_0, hfz33_1, hfz33_2, hfz33_3, hfz33_4, hfz33_5, hfz33_6, hfz33_7⟩ := bx8 BK659.o
    obtain ⟨hcz34_0, hcz34_1, hcz34_2, hcz34_3, hcz34_4, hcz34_5, hcz34_6, hcz34_7, hfz34_0, hfz34_1, hfz34_2, hfz34_3, hfz34_4, hfz34_5, hfz34_6, hfz34_7⟩ := bx8 BK660.o
    go_wp2_with (first | ((with_reducible refine gc (f := 93) rfl ?_); refine gL (some 27) Try.func93 #[.slice A0_2 l0_2.length c0_2, .int .i64 a1_2] ?_; (with_reducible refine (impl_allows.calls kj2 _ _ l0_2 a1_2 true _ ?side1 ?side2 A19.o).mono ?_); (case side1 => exact Kd.qC (Kd.C_below HR0_2.o HB.o)); (case side2 => exact HC0_2.o); rintro e w' ⟨rfl, ⟨nd, rfl⟩⟩; refine ⟨_, rfl, ?_⟩) | ((with_reducible refine gc (f := 106) rfl ?_); refine gL (some 37) Try.func106 #[.int .i64 a1_3, .int .i64 a0_3, .int .i64 a0_4] ?_; (with_reducible refine (impl_InRange.calls a1_3 a0_3 a0_4 true _ A21.o).mono ?_); rintro e w' ⟨rfl, ⟨nd, rfl⟩⟩; refine ⟨_, rfl, ?_⟩) | ((with_reducible refine gc (f := 93) rfl ?_); refine gL (some 44) Try.func93 #[.slice A0_5 l0_5.length c0_5, .int .i64 a1_5] ?_; (with_reducible refine (impl_allows.calls kj2 _ _ l0_5 a1_5 false _ ?side1 ?side2 A23.o).mono ?_); (case side1 => exact J1); (case side2 => exact HC0_5.o); rintro e w' ⟨rfl, ⟨nd, rfl⟩⟩; refine ⟨_, rfl, ?_⟩))
    go_ret
    exact ⟨o0, o3⟩
   subst c24
   have H1 : (if a1_6 < a0_6 then (some (⟨#[116, 105, 109, 101]⟩ : ByteArray)) else (some (⟨#[]⟩ : ByteArray))) = some r := by rw [if_pos rfl] at H; exact H
   clear H
   have H := H1
   clear H1
   by_cases c25 : a1_6 < a0_6
   ·rw [if_pos c25] at H
    have c25b0 : decide (a1_6 < a0_6) = true := decide_eq_true c25
    clear c25
    obtain rfl := Option.some.inj H
    have hnb26 := NB659_660.o
    have hnc26 := NB660_659.o
    obtain ⟨hcz27_0, hcz27_1, hcz27_2, hcz27_3, hcz27_4, hcz27_5, hcz27_6, hcz27_7, hfz27_0, hfz27_1, hfz27_2, hfz27_3, hfz27_4, hfz27_5, hfz27_6, hfz27_7⟩ := bx8 BK659.o
    obtain ⟨hcz28_0, hcz28_1, hcz28_2, hcz28_3, hcz28_4, hcz28_5, hcz28_6, hcz28_7, hfz28_0, hfz28_1, hfz28_2, hfz28_3, hfz28_4, hfz28_5, hfz28_6, hfz28_7⟩ := bx8 BK660.o
    exact lf13_1
   rw [if_neg c25] at H
   have c25b0 : decide (a1_6 < a0_6) = false := decide_eq_false c25
   clear c25
   obtain rfl := Option.some.inj H
   have hnb29 := NB659_660.o
   have hnc29 := NB660_659.o
   obtain ⟨hcz30_0, hcz30_1, hcz30_2, hcz30_3, hcz30_4, hcz30_5, hcz30_6, hcz30_7, hfz30_0, hfz30_1, hfz30_2, hfz30_3, hfz30_4, hfz30_5, hfz30_6, hfz30_7⟩ := bx8 BK659.o
   obtain ⟨hcz31_0, hcz31_1, hcz31_2, hcz31_3, hcz31_4, hcz31_5, hcz31_6, hcz31_7, hfz31_0, hfz31_1, hfz31_2, hfz31_3, hfz31_4, hfz31_5, hfz31_6, hfz31_7⟩ := bx8 BK660.o
   exact lf13_1
/-! ### impl_CanBe: function 78 -/
def impl_CanBe.f (k : Nat) (a0_0 : Int) (a0_1 : Int) (l0_2 : List Int) (a0_3 : Int) (a0_4 : Int) (l0_5 : List Int) (a0_6 : Int) (a0_7 : Int) (a1_0 : Int) (a1_1 : Int) (a1_2 : Int) (a1_3 : Int) (a1_4 : Int) (a1_5 : Int) (a1_6 : Int) (a1_7 : Int) : Option (Bool) := (impl_WhyNot.f k a0_0 a0_1 l0_2 a0_3 a0_4 l0_5 a0_6 a0_7 a1_0 a1_1 a1_2 a1_3 a1_4 a1_5 a1_6 a1_7).bind fun t668 => (some (t668.toList == ([] : List UInt8)))
theorem impl_CanBe.calls (k : Nat) (a0_0 : Int) (a0_1 : Int) (A0_2 : Option Addr) (c0_2 : Nat) (l0_2 : List Int) (a0_3 : Int) (a0_4 : Int) (A0_5 : Option Addr) (c0_5 : Nat) (l0_5 : List Int) (a0_6 : Int) (a0_7 : Int) (a1_0 : Int) (a1_1 : Int) (a1_2 : Int) (a1_3 : Int) (a1_4 : Int) (a1_5 : Int) (a1_6 : Int) (a1_7 : Int) (r : Bool) (w : World) (hr0_2 : Kd.C (Kd.int .i64) w A0_2 l0_2.length l0_2) (hc0_2 : l0_2.length ≤ c0_2) (hr0_5 : Kd.C (Kd.int .i64) w A0_5 l0_5.length l0_5) (hc0_5 : l0_5.length ≤ c0_5) (h : impl_CanBe.f k a0_0 a0_1 l0_2 a0_3 a0_4 l0_5 a0_6 a0_7 a1_0 a1_1 a1_2 a1_3 a1_4 a1_5 a1_6 a1_7 = some r) :
  Calls Try.prog 78 #[.agg #[.int .i64 a0_0, .int .i64 a0_1, .slice A0_2 l0_2.length c0_2, .int .i64 a0_3, .int .i64 a0_4, .slice A0_5 l0_5.length c0_5, .int .i64 a0_6, .int .i64 a0_7], .agg #[.int .i64 a1_0, .int .i64 a1_1, .int .i64 a1_2, .int .i64 a1_3, .int .i64 a1_4, .int .i64 a1_5, .int .i64 a1_6, .int .i64 a1_7]] w fun e w' => e = .returned (.bool r) ∧ Below w.heap.size w w' := by
 have hu41 := Try.underlying41
 have hu113 := Try.underlying113
 have HR0_2 := zK hr0_2
 have HC0_2 := zK hc0_2
 clear hr0_2 hc0_2
 have HR0_5 := zK hr0_5
 have HC0_5 := zK hc0_5
 clear hr0_5 hc0_5
 have HB := zK (Below.refl w.heap.size w)
 have H : ((impl_WhyNot.f k a0_0 a0_1 l0_2 a0_3 a0_4 l0_5 a0_6 a0_7 a1_0 a1_1 a1_2 a1_3 a1_4 a1_5 a1_6 a1_7).bind fun t668 => (some (t668.toList == ([] : List UInt8)))) = some r := h
 clear h
 replace H := Option.bind_eq_some_iff.mp H
 obtain ⟨t668, A30, H⟩ := H
 try dsimp only at H
 have A3 := zK A30
 clear A30
 obtain rfl := Option.some.inj H
 go_enter Try.func78, Try.ntmps78
 go_wp2_with (first | ((with_reducible refine gd (N := 2) rfl ?_); refine bE (N := 2) (cs := #[.int .i64 a0_0, .int .i64 a0_1, .slice A0_2 l0_2.length c0_2, .int .i64 a0_3, .int .i64 a0_4, .slice A0_5 l0_5.length c0_5, .int .i64 a0_6, .int .i64 a0_7]) (t := 41) ?_; intro gb666 hg w4 hbox hb; have _ := zK (bT (qB HB.o) hb); have _ := zK (hbox); have _ := zK ((by rw [hg]; exact (bZ (qB HB.o)) : w.heap.size ≤ gb666)); have _ := zK ((by rw [hg]; exact (bZ (qB HB.o)) : w.heap.size ≤ gb666)); clear HB; rename_i HB BK666 GW666 GE666; clear hb hbox hg) | ((with_reducible refine gd (N := 3) rfl ?_); refine bE (N := 3) (cs := #[.int .i64 a1_0, .int .i64 a1_1, .int .i64 a1_2, .int .i64 a1_3, .int .i64 a1_4, .int .i64 a1_5, .int .i64 a1_6, .int .i64 a1_7]) (t := 113) ?_; intro gb667 hg w5 hbox hb; have _ := zK (bB (qK BK666.o) hb); have _ := zK (bT (qX HB.o) hb); have _ := zK (hbox); have _ := zK ((by rw [hg]; exact (bZ (qX HB.o)) : w.heap.size ≤ gb667)); have _ := zK ((by rw [hg]; exact (bZ (qX HB.o)) : w.heap.size ≤ gb667)); have _ := zK ((by rw [hg]; exact Nat.ne_of_lt (blk_lt (qK BK666.o)) : gb666 ≠ gb667)); have _ := zK ((by rw [hg]; exact Nat.ne_of_gt (blk_lt (qK BK666.o)) : gb667 ≠ gb666)); clear BK666 HB; rename_i BK666 HB BK667 GW667 GE667 NB666_667 NB667_666; clear hb hbox hg; have hnb6 := NB666_667.o; have hnc6 := NB667_666.o; obtain ⟨hcz7_0, hcz7_1, hcz7_2, hcz7_3, hcz7_4, hcz7_5, hcz7_6, hcz7_7, hfz7_0, hfz7_1, hfz7_2, hfz7_3, hfz7_4, hfz7_5, hfz7_6, hfz7_7⟩ := bx8 BK666.o; obtain ⟨hcz8_0, hcz8_1, hcz8_2, hcz8_3, hcz8_4, hcz8_5, hcz8_6, hcz8_7, hfz8_0, hfz8_1, hfz8_2, hfz8_3, hfz8_4, hfz8_5, hfz8_6, hfz8_7⟩ := bx8 BK667.o) | ((with_reducible refine gc (f := 131) rfl ?_); refine goesL_ (some 7) rfl rfl Try.func131 (by kernel_rfl) rfl #[.agg #[.int .i64 a0_0, .int .i64 a0_1, .slice A0_2 l0_2.length c0_2, .int .i64 a0_3, .int .i64 a0_4, .slice A0_5 l0_5.length c0_5, .int .i64 a0_6, .int .i64 a0_7], .agg #[.int .i64 a1_0, .int .i64 a1_1, .int .i64 a1_2, .int .i64 a1_3, .int .i64 a1_4, .int .i64 a1_5, .int .i64 a1_6, .int .i64 a1_7]] rfl M0 ?_; (with_reducible refine (impl_WhyNot.calls k a0_0 a0_1 _ _ l0_2 a0_3 a0_4 _ _ l0_5 a0_6 a0_7 a1_0 a1_1 a1_2 a1_3 a1_4 a1_5 a1_6 a1_7 t668 _ ?side1 ?side2 ?side3 ?side4 A3.o).mono ?_); (case side1 => exact Kd.qC (Kd.C_below HR0_2.o HB.o)); (case side2 => exact HC0_2.o); (case side3 => exact Kd.qC (Kd.C_below HR0_5.o HB.o)); (case side4 => exact HC0_5.o); rintro e w9 ⟨rfl, hb⟩; refine ⟨_, rfl, ?_⟩; have _ := zK (bB (qK BK666.o) hb); have _ := zK (bB (qK BK667.o) hb); have _ := zK (bT (qX HB.o) hb); clear BK666 BK667 HB; rename_i BK666 BK667 HB; clear hb))
 go_ret
 exact ⟨o0, o3⟩

end Go.Proofs.Ytejhjenlodclpaa.PFnHints
