/- Walks of functions that FnHints reaches, shortened. -/
import Derived.Test.YtejhjenlodclpaaPFnHintsx0
import Derived.Test.YtejhjenlodclpaaPFnHintsx6
import Derived.Test.YtejhjenlodclpaaPFnHintsx7
import Derived.Test.YtejhjenlodclpaaPFnHintsx9
import Derived.Test.YtejhjenlodclpaaPFnHintsx10
import Derived.Test.YtejhjenlodclpaaPFnHintsx11
import Derived.Test.YtejhjenlodclpaaPFnHintsx12
import Derived.Test.YtejhjenlodclpaaPFnHintsx15
namespace Go.Proofs.Ytejhjenlodclpaa.PFnHints
open Go.RowKit Go.Proofs.YtejhjenlodclpaaW.PrintWords Go.Proofs.YtejhjenlodclpaaW.PrintLast Go.Proofs.YtejhjenlodclpaaW.PrintMore
attribute [local go_sem] max2_int min2_int max_two min_two max_three min_three max_four min_four
set_option maxHeartbeats 8000000
set_option maxRecDepth 100000
set_option linter.unusedVariables false
set_option linter.unusedSimpArgs false

/-! ### spec_HintsOf: function 13 -/
mutual
def spec_HintsOf.l0 : Nat → List (S113) → Int → List Int → Int → Option (List Int)
 | 0, _, _, _, _ => none
 | k + 1, x0, x1, x5, x6 => if x6 < (x0.length : Int) then ((spec_AreFinds.f k x0).bind fun t698 => (spec_HintsOf.j1 k x0 x1 x5 x6 t698)) else (spec_HintsOf.j1 k x0 x1 x5 x6 false)
def spec_HintsOf.j1 : Nat → List (S113) → Int → List Int → Int → Bool → Option (List Int)
 | 0, _, _, _, _, _ => none
 | k + 1, x0, x1, x5, x6, x15 => if x15 = true then (if 0 ≤ x6 then (if x6 < (x0.length : Int) then ((spec_HintOf.f k ((rd_T113 x0 x6).f0.f0) ((rd_T113 x0 x6).f0.f1) ((rd_T113 x0 x6).f0.f2) ((rd_T113 x0 x6).f0.f3) ((rd_T113 x0 x6).f0.f4) x1).bind fun t700 => ((spec_l9Put.f k x5 t700).bind fun t701 => (spec_HintsOf.l0 k x0 x1 t701 (wrap64 (x6 + 1))))) else (none)) else (none)) else (some x5)
end
def spec_HintsOf.f (k : Nat) (l0 : List (S113)) (a1 : Int) : Option (List Int) := spec_HintsOf.l0 k l0 a1 (([] : List Int)) 0
theorem spec_HintsOf.calls (k : Nat) (A0 : Option Addr) (c0 : Nat) (l0 : List (S113)) (a1 : Int) (r : List Int) (w : World) (hr0 : Kd.C k113 w A0 l0.length l0) (hc0 : l0.length ≤ c0) (h : spec_HintsOf.f k l0 a1 = some r) :
  Calls Try.prog 13 #[.slice A0 l0.length c0, .int .i64 a1] w fun e w' => ∃ v0_ : Value, e = .returned (v0_) ∧ Kd.R (Kd.int .i64) 3 w' w.heap.size (fun _ => True) v0_ r ∧ Below w.heap.size w w' := by
 have hu111 := Try.underlying111
 have HR0 := zK hr0
 have HC0 := zK hc0
 clear hr0 hc0
 have HB := zK (Below.refl w.heap.size w)
 have H : (spec_HintsOf.l0 k l0 a1 (([] : List Int)) 0) = some r := h
 clear h
 obtain ⟨y695, hy695⟩ : ∃ y_ : List Int, y_ = (([] : List Int)) := ⟨_, rfl⟩
 replace H : (spec_HintsOf.l0 k l0 a1 y695 0) = some r := have he_ := hy695; rH
 have Ny695 := zK hy695
 clear hy695
 have H' := zK H
 clear H
 go_enter Try.func13, Try.ntmps13
 go_wp2_with (first | ((with_reducible refine gd (N := 7) rfl ?_); refine Kd.R_lit (Kd.int .i64) _ 3 ?hg (N := 7) ?hd (xs := ([] : List Int)) (inner := []) (ok := fun _ => True) (okp := fun _ => True) ?hr ?hp (fun _ hk => hk) trivial (Below.refl _ _) (Nat.le_refl _) (by simp) ?_; (case hd => rfl); (case hg => rfl); (case hr => first | (go_simp; done) | (go_simp; rfl)); (case hp => exact (Reps.none _ _)); intro v696 w3 ho4 hb hg_ hnew_; clear hg_ hnew_; (first | rw [← Ny695.o] at ho4 | (simp only [Int.reduceToNat] at ho4; rw [← Ny695.o] at ho4)); have _ := zK (Kd.R_lower ho4 (bZ (qB HB.o))); have _ := zK (bT (qB HB.o) hb); clear HB; rename_i HO697 HB; clear hb ho4))
 go_loopg [5, 6] k (fun kq v5 v6 w' => ∃ (x5_1 : List Int) (x6_1 : Int), v6 = .int .i64 x6_1 ∧ Aside0 (spec_HintsOf.l0 kq l0 a1 x5_1 x6_1 = some r) ∧ Aside0 (kq ≤ k) ∧ Aside0 (Kd.R (Kd.int .i64) 3 w' w.heap.size (fun _ => True) v5 x5_1) ∧ Aside0 (Below w.heap.size w w'))
 case atStart => exact ⟨(y695), (0), M12, H', ⟨Nat.le_refl _⟩, ⟨by exact Kd.qR HO697.o⟩, ⟨o8⟩⟩
 case round =>
  clear H'
  try clear c1
  try clear p2
  obtain ⟨x5_1, x6_1, rfl, HA, HK1, HO_5, HB⟩ := hrel
  cases gk with
  | zero => exact absurd HA.o (by simp [spec_HintsOf.l0])
  | succ k1 =>
   have H := HA.o
   clear HA
   simp only [spec_HintsOf.l0] at H
   have HC5 := zK H
   clear H
   go_upto_region 3 with (fail)
   go_cut [15] (fun v15 wc => ∃ (kq : Nat) (x15_4 : Bool), v15 = .bool x15_4 ∧ Aside0 (spec_HintsOf.j1 kq l0 a1 x5_1 x6_1 x15_4 = some r) ∧ Aside0 (kq ≤ k1) ∧ Aside0 (Kd.R (Kd.int .i64) 3 wc w.heap.size (fun _ => True) u5 x5_1) ∧ Aside0 (Below w.heap.size w wc))
   case first =>
    have H := HC5.o
    clear HC5
    by_cases c6 : x6_1 < (l0.length : Int)
    rotate_left
    ·rw [if_neg c6] at H
     have c6b0 : decide (x6_1 < (l0.length : Int)) = false := decide_eq_false c6
     clear c6
     (first | rw [c6b0] | rw [c6b1] | (simp only [i64_w, i32_w]; rw [c6b0]) | skip)
     have H' := zK H
     clear H
     go_wp2
     go_meet
     case rel => exact ⟨_, (false), M12, H', ⟨o9⟩, ⟨o10⟩, ⟨o8⟩⟩
    rw [if_pos c6] at H
    have c6b0 : decide (x6_1 < (l0.length : Int)) = true := decide_eq_true c6
    clear c6
    (first | rw [c6b0] | rw [c6b1] | (simp only [i64_w, i32_w]; rw [c6b0]) | skip)
    replace H := Option.bind_eq_some_iff.mp H
    obtain ⟨t698, A70, H⟩ := H
    try dsimp only at H
    have A7 := zK A70
    clear A70
    have H' := zK H
    clear H
    go_wp2_with (first | (go_at_call 82; (with_reducible refine (spec_AreFinds.calls k1 _ _ l0 t698 _ ?side1 ?side2 A7.o).mono ?_); (case side1 => exact Kd.qC (Kd.C_below HR0.o HB.o)); (case side2 => exact HC0.o); rintro e w8 ⟨rfl, hb⟩; have _ := zK (Kd.R_below (Kd.qR HO_5.o) hb); have _ := zK (bT (qB HB.o) hb); clear HO_5 HB; rename_i HO_5 HB; clear hb))
    go_meet
    case rel => exact ⟨_, (t698), M12, H', ⟨o9⟩, ⟨o10⟩, ⟨o8⟩⟩
   case rest =>
    clear HC5
    try clear c1
    try clear p2
    try clear c6
    try clear c6b0
    try clear p2
    obtain ⟨kq, x15_4, rfl, HA, HJ4, HO_5, HB⟩ := hcut
    cases kq with
    | zero => exact absurd HA.o (by simp [spec_HintsOf.j1])
    | succ kj4 =>
     have H := HA.o
     clear HA
     simp only [spec_HintsOf.j1] at H
     by_cases c9 : x15_4 = true
     rotate_left
     ·replace c9 := Bool.eq_false_iff.mpr c9
      subst c9
      have H1 : (some x5_1) = some r := by rw [if_neg (show ¬ (false = true) by decide)] at H; exact H
      clear H
      have H := H1
      clear H1
      obtain rfl := Option.some.inj H
      go_wp2
      go_ret
      exact ⟨_, o0, o10, o8⟩
     subst c9
     have H1 : (if 0 ≤ x6_1 then (if x6_1 < (l0.length : Int) then ((spec_HintOf.f kj4 ((rd_T113 l0 x6_1).f0.f0) ((rd_T113 l0 x6_1).f0.f1) ((rd_T113 l0 x6_1).f0.f2) ((rd_T113 l0 x6_1).f0.f3) ((rd_T113 l0 x6_1).f0.f4) a1).bind fun t700 => ((spec_l9Put.f kj4 x5_1 t700).bind fun t701 => (spec_HintsOf.l0 kj4 l0 a1 t701 (wrap64 (x6_1 + 1))))) else (none)) else (none)) = some r := by rw [if_pos rfl] at H; exact H
     clear H
     have H := H1
     clear H1
     by_cases c10 : 0 ≤ x6_1
     rotate_left
     ·rw [if_neg c10] at H
      exact absurd H (by simp)
     rw [if_pos c10] at H
     have c10b0 : decide (0 ≤ x6_1) = true := decide_eq_true c10
     clear c10
     by_cases c11 : x6_1 < (l0.length : Int)
     rotate_left
     ·rw [if_neg c11] at H
      exact absurd H (by simp)
     rw [if_pos c11] at H
     have c11b0 : decide (x6_1 < (l0.length : Int)) = true := decide_eq_true c11
     clear c11
     replace H := Option.bind_eq_some_iff.mp H
     obtain ⟨t700, A120, H⟩ := H
     try dsimp only at H
     have A12 := zK A120
     clear A120
     replace H := Option.bind_eq_some_iff.mp H
     obtain ⟨t701, A130, H⟩ := H
     try dsimp only at H
     have A13 := zK A130
     clear A130
     have H' := zK H
     clear H
     have p699 : 0 ≤ (x6_1 : Int) := oD M4
     have q699 : x6_1 < (l0.length : Int) := oD M4
     obtain ⟨ad699, e699, hx699_0, hx699_1, hx699_2, hx699_3, hx699_4, hx699_5, hx699_6, hx699_7⟩ := at_T113 HR0.o x6_1 p699 q699
     cases e699
     replace hx699_0 := cB HB.o hx699_0
     replace hx699_1 := cB HB.o hx699_1
     replace hx699_2 := cB HB.o hx699_2
     replace hx699_3 := cB HB.o hx699_3
     replace hx699_4 := cB HB.o hx699_4
     replace hx699_5 := cB HB.o hx699_5
     replace hx699_6 := cB HB.o hx699_6
     replace hx699_7 := cB HB.o hx699_7
     replace p699 := eq_true p699
     replace q699 := eq_true q699
     go_wp2_with (first | ((with_reducible refine gc (f := 84) rfl ?_); refine goesL_ (some 25) rfl rfl Try.func84 (by kernel_rfl) rfl #[.agg #[.int .i64 ((rd_T113 l0 x6_1).f0.f0), .int .i64 ((rd_T113 l0 x6_1).f0.f1), .int .i64 ((rd_T113 l0 x6_1).f0.f2), .int .i64 ((rd_T113 l0 x6_1).f0.f3), .int .i64 ((rd_T113 l0 x6_1).f0.f4)], .int .i64 a1] rfl M0 ?_; (with_reducible refine (spec_HintOf.calls kj4 ((rd_T113 l0 x6_1).f0.f0) ((rd_T113 l0 x6_1).f0.f1) ((rd_T113 l0 x6_1).f0.f2) ((rd_T113 l0 x6_1).f0.f3) ((rd_T113 l0 x6_1).f0.f4) a1 t700 _ A12.o).mono ?_); rintro e w14 ⟨rfl, hb⟩; refine ⟨_, rfl, ?_⟩; have _ := zK (Kd.R_below (Kd.qR HO_5.o) hb); have _ := zK (bT (qB HB.o) hb); clear HO_5 HB; rename_i HO_5 HB; clear hb; obtain ⟨Ao15, co15, eo15⟩ := Kd.R_slice HO_5.o; subst eo15) | ((with_reducible refine gc (f := 83) rfl ?_); refine gL (some 26) Try.func83 #[.slice Ao15 x5_1.length co15, .int .i64 t700] ?_; (with_reducible refine (spec_l9Put.calls kj4 _ _ x5_1 t700 t701 _ ?side1 ?side2 A13.o).mono ?_); (case side1 => exact Kd.qC (Kd.R_reads' HO_5.o).2.2); (case side2 => exact (Kd.R_reads' HO_5.o).2.1); rintro e w16 ⟨v702, rfl, ho0, hb⟩; refine ⟨_, rfl, ?_⟩; have _ := zK (Kd.R_elder' (Kd.qR HO_5.o) (Kd.R_base ho0) hb); have _ := zK (Kd.R_lower (Kd.R_new' ho0 (Kd.R_lt (Kd.qR HO_5.o))) (bZ (qB HB.o))); have _ := zK (bT (qB HB.o) hb); clear HO_5 HB; rename_i HO_5 HO703 HB; clear hb ho0))
     go_roundg kj4
     case measure => have := HK1.o; have := HJ4.o; omega
     case rel => exact ⟨(t701), (wrap64 (x6_1 + 1)), M12, H', ⟨by have := HK1.o; have := HJ4.o; omega⟩, ⟨by (with_reducible repeat (first | apply Kd.RA | apply Kd.RN | apply Kd.RD)); exact Kd.R_mono HO703.o (fun _ hk => trivial)⟩, ⟨o8⟩⟩
/-! ### spec_DrawMayHave: function 132 -/
def spec_DrawMayHave.f (k : Nat) (l0 : List Int) : Option (Int × Int × List Int × Int × Int × List Int × Int × Int × List Int × Int) := (spec_l1New.f k l0).bind fun bt705 => ((spec_l6List.f k bt705.1 bt705.2.1 bt705.2.2).bind fun bt709 => ((spec_l1Below.f bt705.1 bt709.2.1 bt709.2.2 3).bind fun bt714 => (if (bt709.1.length : Int) = 0 then ((spec_l7Any.f k bt705.1 bt714.2.1 bt714.2.2).bind fun bt717 => (some (bt717.1, bt717.2.1, bt717.2.2.1, bt717.2.2.2.1, bt717.2.2.2.2.1, bt717.2.2.2.2.2.1, bt717.2.2.2.2.2.2.1, bt717.2.2.2.2.2.2.2.1, (([] : List Int)), bt714.1))) else ((spec_l1Below.f bt705.1 bt714.2.1 bt714.2.2 (bt709.1.length : Int)).bind fun bt734 => (if 0 ≤ bt734.1 then (if bt734.1 < (bt709.1.length : Int) then ((spec_l8For.f k bt705.1 bt734.2.1 bt734.2.2 ((rd_T113 bt709.1 bt734.1).f0.f0) ((rd_T113 bt709.1 bt734.1).f0.f1) ((rd_T113 bt709.1 bt734.1).f0.f2) ((rd_T113 bt709.1 bt734.1).f0.f3) ((rd_T113 bt709.1 bt734.1).f0.f4) ((rd_T113 bt709.1 bt734.1).f1) ((rd_T113 bt709.1 bt734.1).f2) ((rd_T113 bt709.1 bt734.1).f3) 5).bind fun bt738 => ((spec_l1Int.f bt705.1 bt738.2.2.2.2.2.2.2.2.1 bt738.2.2.2.2.2.2.2.2.2 (([bt714.1, bt714.1, 5] : List Int))).bind fun bt755 => ((spec_HintsOf.f k bt709.1 bt755.1).bind fun t758 => (some (bt738.1, bt738.2.1, bt738.2.2.1, bt738.2.2.2.1, bt738.2.2.2.2.1, bt738.2.2.2.2.2.1, bt738.2.2.2.2.2.2.1, bt738.2.2.2.2.2.2.2.1, t758, bt714.1))))) else (none)) else (none))))))
theorem lf16_0 {p : Prop} (h : p := by
  go_enter Try.func132, Try.ntmps132
  go_wp2_with (first | ((with_reducible refine gd (N := 2) rfl ?_); refine bE (N := 2) (cs := #[.int .i64 0, .int .i64 0, .slice none 0 0, .int .i64 0, .int .i64 0, .slice none 0 0, .int .i64 0, .int .i64 0]) (t := 41) ?_; intro gb704 hg wz0 hbox hb; have _ := zK (bT (qB HB.o) hb); have _ := zK (hbox); have _ := zK ((by rw [hg]; exact (bZ (qB HB.o)) : w.heap.size ≤ gb704)); have _ := zK ((by rw [hg]; exact (bZ (qB HB.o)) : w.heap.size ≤ gb704)); clear HB; rename_i HB BK704 GW704 GE704; clear hb hbox hg) | ((with_reducible refine gc (f := 97) rfl ?_); refine gL (some 9) Try.func97 #[.slice A0 l0.length c0] ?_; (with_reducible refine (spec_l1New.calls k _ _ l0 t705 t706 t707 w _ ?side1 ?side2 ?side3 A2.o).mono ?_); (case side1 => exact qX HB.o); (case side2 => exact HR0.o); (case side3 => exact HC0.o); rintro e wz1 ⟨g708, rfl, hi, hb, hb2⟩; refine ⟨_, rfl, ?_⟩; have _ := zK (bB (qK BK704.o) hb2); have _ := zK (hb); have _ := zK (hi); have _ := zK (IsS173.ne_blk hi (bB (qK BK704.o) hb2) (by decide)); have _ := zK (Ne.symm (IsS173.ne_blk hi (bB (qK BK704.o) hb2) (by decide))); clear BK704 HB; rename_i BK704 HB HI708 NB708_704 NB704_708; clear hb hb2 hi) | ((with_reducible refine gc (f := 133) rfl ?_); refine gL (some 11) Try.func133 #[.pointer (some ⟨g708, 0, none⟩)] ?_; (with_reducible refine (spec_l6List.calls k g708 t705 t706 t707 t709 t712 t713 w _ ?side1 ?side2 A3.o).mono ?_); (case side1 => exact Q8); (case side2 => exact Q28); rintro e wz2 ⟨v710, rfl, ho0, hi, hb, hk⟩; refine ⟨_, rfl, ?_⟩; have _ := zK (kB hk BK704.o NB704_708.o); have _ := zK (Kd.R_lower ho0 (bZ M33)); have _ := zK (hb); have _ := zK (hi); clear BK704 HB HI708; rename_i BK704 HO711 HB HI708; clear hb hk hi ho0) | ((with_reducible refine gc (f := 108) rfl ?_); refine gL (some 13) Try.func108 #[.pointer (some ⟨g708, 0, none⟩), .int .i64 3] ?_; (with_reducible refine (spec_l1Below.calls g708 t705 t712 t713 3 t714 t715 t716 w _ ?side1 ?side2 A4.o).mono ?_); (case side1 => exact Q8); (case side2 => exact Q28); rintro e wz3 ⟨rfl, hi, hb, hk⟩; refine ⟨_, rfl, ?_⟩; have _ := zK (kB hk BK704.o NB704_708.o); have _ := zK (IsS173.rK (show IsS173 w _ g708 t705 t712 t713 from Q8) HO711.o hk); have _ := zK (hb); have _ := zK (hi); clear BK704 HO711 HB HI708; rename_i BK704 HO711 HB HI708; clear hb hk hi; obtain ⟨Aoz0, coz0, eoz0⟩ := Kd.R_slice HO711.o; subst eoz0) | ((with_reducible refine gc (f := 108) rfl ?_); refine gL (some 26) Try.func108 #[.pointer (some ⟨g708, 0, none⟩), .int .i64 (t709.length : Int)] ?_; (with_reducible refine (spec_l1Below.calls g708 t705 t715 t716 (t709.length : Int) t734 t735 t736 w _ ?side1 ?side2 A19.o).mono ?_); (case side1 => exact Q8); (case side2 => exact Q28); rintro e wz4 ⟨rfl, hi, hb, hk⟩; refine ⟨_, rfl, ?_⟩; have _ := zK (kB hk BK704.o NB704_708.o); have _ := zK (IsS173.rK (show IsS173 w _ g708 t705 t715 t716 from Q8) HO711.o hk); have _ := zK (hb); have _ := zK (hi); clear BK704 HO711 HB HI708; rename_i BK704 HO711 HB HI708; clear hb hk hi; have p737 : 0 ≤ (t734 : Int) := oD M4; have q737 : t734 < (t709.length : Int) := oD M4; obtain ⟨ad737, e737, hxz0_0, hxz0_1, hxz0_2, hxz0_3, hxz0_4, hxz0_5, hxz0_6, hxz0_7⟩ := at_T113 (Kd.R_reads' HO711.o).2.2 t734 p737 q737; cases e737; replace p737 := eq_true p737; replace q737 := eq_true q737) | ((with_reducible refine gc (f := 129) rfl ?_); refine goesL_ (some 29) rfl rfl Try.func129 (by kernel_rfl) rfl #[.pointer (some ⟨g708, 0, none⟩), .agg #[.int .i64 ((rd_T113 t709 t734).f0.f0), .int .i64 ((rd_T113 t709 t734).f0.f1), .int .i64 ((rd_T113 t709 t734).f0.f2), .int .i64 ((rd_T113 t709 t734).f0.f3), .int .i64 ((rd_T113 t709 t734).f0.f4), .int .i64 ((rd_T113 t709 t734).f1), .int .i64 ((rd_T113 t709 t734).f2), .int .i64 ((rd_T113 t709 t734).f3)], .int .i64 5] rfl M0 ?_; (with_reducible refine (spec_l8For.calls k g708 t705 t735 t736 ((rd_T113 t709 t734).f0.f0) ((rd_T113 t709 t734).f0.f1) ((rd_T113 t709 t734).f0.f2) ((rd_T113 t709 t734).f0.f3) ((rd_T113 t709 t734).f0.f4) ((rd_T113 t709 t734).f1) ((rd_T113 t709 t734).f2) ((rd_T113 t709 t734).f3) 5 t738 t739 t740 t743 t744 t745 t748 t749 t750 t751 w _ ?side1 ?side2 A22.o).mono ?_); (case side1 => exact Q8); (case side2 => exact Q28); rintro e wz5 ⟨v741, v746, rfl, ho0, ho1, hi, hb, hk⟩; refine ⟨_, rfl, ?_⟩; have _ := zK (kB hk BK704.o NB704_708.o); have _ := zK (IsS173.rK (show IsS173 w _ g708 t705 t735 t736 from Q8) HO711.o hk); have _ := zK (Kd.R_lower ho0 (bZ M33)); have _ := zK (Kd.R_lower ho1 (bZ M33)); have _ := zK (hb); have _ := zK (hi); clear BK704 HO711 HB HI708; rename_i BK704 HO711 HO742 HO747 HB HI708; clear hb hk hi ho0 ho1) | ((with_reducible refine gd (N := 34) rfl ?_); refine Kd.R_lit (Kd.int .i64) _ 3 ?hg (N := 34) ?hd (xs := ([t714, t714, 5] : List Int)) (inner := [.int .i64 t714, .int .i64 t714, .int .i64 5]) (ok := fun _ => True) (okp := fun _ => True) ?hr ?hp (fun _ hk => hk) trivial (Below.refl _ _) (Nat.le_refl _) (by simp) ?_; (case hd => rfl); (case hg => rfl); (case hr => first | (go_simp; done) | (go_simp; rfl)); (case hp => exact (Reps.one (show Kd.M (Kd.int .i64) _ _ _ t714 [.int .i64 t714] from rfl) (Reps.one (show Kd.M (Kd.int .i64) _ _ _ t714 [.int .i64 t714] from rfl) (Reps.one (show Kd.M (Kd.int .i64) _ _ _ 5 [.int .i64 5] from rfl) (Reps.none _ _))))); intro v753 wz6 ho33 hb hg_ hnew_; clear hg_ hnew_; (first | rw [← Ny752.o] at ho33 | (simp only [Int.reduceToNat] at ho33; rw [← Ny752.o] at ho33)); have _ := zK (Kd.R_below (Kd.qR HO711.o) hb); have _ := zK (Kd.R_elder' (Kd.qR HO742.o) (Kd.R_base ho33) hb); have _ := zK (Kd.R_elder' (Kd.qR HO747.o) (Kd.R_base ho33) hb); have _ := zK (Kd.R_lower (Kd.R_new' (Kd.R_new' ho33 (Kd.R_lt (Kd.qR HO742.o))) (Kd.R_lt (Kd.qR HO747.o))) (bZ M33)); have _ := zK (bB (qK BK704.o) hb); have _ := zK (IsS173.below (Q8) hb); have _ := zK (bT M33 hb); clear HO711 HO742 HO747 BK704 HI708 HB; rename_i HO711 HO742 HO747 HO754 BK704 HI708 HB; clear hb ho33; obtain ⟨Aoz1, coz1, eoz1⟩ := Kd.R_slice HO754.o; subst eoz1) | ((with_reducible refine gc (f := 145) rfl ?_); refine gL (some 35) Try.func145 #[.pointer (some ⟨g708, 0, none⟩), .slice Aoz1 y752.length coz1] ?_; (with_reducible refine (spec_l1Int.calls g708 t705 t750 t751 _ _ y752 t755 t756 t757 w _ ?side1 ?side2 ?side3 ?side4 ?side5 A23.o).mono ?_); (case side1 => exact Q8); (case side2 => exact Q28); (case side3 => exact Kd.qC (Kd.R_reads' HO754.o).2.2); (case side4 => exact (Kd.R_reads' HO754.o).2.1); (case side5 => exact far_slice (IsS173.own_ne HI708.o HO754.o (by decide))); rintro e wz7 ⟨rfl, hi, hb, hk⟩; refine ⟨_, rfl, ?_⟩; have _ := zK (kB hk BK704.o NB704_708.o); have _ := zK (IsS173.rK (show IsS173 w _ g708 t705 t750 t751 from Q8) HO711.o hk); have _ := zK (IsS173.rK (show IsS173 w _ g708 t705 t750 t751 from Q8) HO742.o hk); have _ := zK (IsS173.rK (show IsS173 w _ g708 t705 t750 t751 from Q8) HO747.o hk); have _ := zK (IsS173.rK (show IsS173 w _ g708 t705 t750 t751 from Q8) HO754.o hk); have _ := zK (hb); have _ := zK (hi); clear BK704 HO711 HO742 HO747 HO754 HB HI708; rename_i BK704 HO711 HO742 HO747 HO754 HB HI708; clear hb hk hi) | ((with_reducible refine gc (f := 13) rfl ?_); refine gL (some 36) Try.func13 #[.slice (some ad737) t709.length coz0, .int .i64 t755] ?_; (with_reducible refine (spec_HintsOf.calls k _ _ t709 t755 t758 _ ?side1 ?side2 A24.o).mono ?_); (case side1 => exact Kd.qC (Kd.R_reads' HO711.o).2.2); (case side2 => exact (Kd.R_reads' HO711.o).2.1); rintro e wz8 ⟨v759, rfl, ho0, hb⟩; refine ⟨_, rfl, ?_⟩; have _ := zK (Kd.R_below (Kd.qR HO711.o) hb); have _ := zK (Kd.R_elder' (Kd.qR HO742.o) (Kd.R_base ho0) hb); have _ := zK (Kd.R_elder' (Kd.qR HO747.o) (Kd.R_base ho0) hb); have _ := zK (Kd.R_elder' (Kd.qR HO754.o) (Kd.R_base ho0) hb); have _ := zK (Kd.R_lower (Kd.R_new' (Kd.R_new' (Kd.R_new' ho0 (Kd.R_lt (Kd.qR HO742.o))) (Kd.R_lt (Kd.qR HO747.o))) (Kd.R_lt (Kd.qR HO754.o))) (bZ M33)); have _ := zK (bB (qK BK704.o) hb); have _ := zK (IsS173.below (Q8) hb); have _ := zK (bT M33 hb); clear HO711 HO742 HO747 HO754 BK704 HI708 HB; rename_i HO711 HO742 HO747 HO754 HO760 BK704 HI708 HB; clear hb ho0; have hnbz0 := NB704_708.o; have hncz0 := NB708_704.o; obtain ⟨hczz1_0, hczz1_1, hczz1_2, hczz1_3, hczz1_4, hczz1_5, hczz1_6, hczz1_7, hfzz1_0, hfzz1_1, hfzz1_2, hfzz1_3, hfzz1_4, hfzz1_5, hfzz1_6, hfzz1_7⟩ := bx8 BK704.o; obtain ⟨Aoz2, coz2, eoz2⟩ := Kd.R_slice HO742.o; subst eoz2; obtain ⟨Aoz3, coz3, eoz3⟩ := Kd.R_slice HO747.o; subst eoz3) | ((with_reducible refine gc (f := 128) rfl ?_); refine gL (some 18) Try.func128 #[.pointer (some ⟨g708, 0, none⟩)] ?_; (with_reducible refine (spec_l7Any.calls k g708 t705 t715 t716 t717 t718 t719 t722 t723 t724 t727 t728 t729 t730 w _ ?side1 ?side2 A6.o).mono ?_); (case side1 => exact Q8); (case side2 => exact Q28); rintro e wz4 ⟨v720, v725, rfl, ho0, ho1, hi, hb, hk⟩; refine ⟨_, rfl, ?_⟩; have _ := zK (kB hk BK704.o NB704_708.o); have _ := zK (IsS173.rK (show IsS173 w _ g708 t705 t715 t716 from Q8) HO711.o hk); have _ := zK (Kd.R_lower ho0 (bZ M33)); have _ := zK (Kd.R_lower ho1 (bZ M33)); have _ := zK (hb); have _ := zK (hi); clear BK704 HO711 HB HI708; rename_i BK704 HO711 HO721 HO726 HB HI708; clear hb hk hi ho0 ho1) | ((with_reducible refine gd (N := 19) rfl ?_); refine Kd.R_lit (Kd.int .i64) _ 3 ?hg (N := 19) ?hd (xs := ([] : List Int)) (inner := []) (ok := fun _ => True) (okp := fun _ => True) ?hr ?hp (fun _ hk => hk) trivial (Below.refl _ _) (Nat.le_refl _) (by simp) ?_; (case hd => rfl); (case hg => rfl); (case hr => first | (go_simp; done) | (go_simp; rfl)); (case hp => exact (Reps.none _ _)); intro v732 wz5 ho14 hb hg_ hnew_; clear hg_ hnew_; (first | rw [← Ny731.o] at ho14 | (simp only [Int.reduceToNat] at ho14; rw [← Ny731.o] at ho14)); have _ := zK (Kd.R_below (Kd.qR HO711.o) hb); have _ := zK (Kd.R_elder' (Kd.qR HO721.o) (Kd.R_base ho14) hb); have _ := zK (Kd.R_elder' (Kd.qR HO726.o) (Kd.R_base ho14) hb); have _ := zK (Kd.R_lower (Kd.R_new' (Kd.R_new' ho14 (Kd.R_lt (Kd.qR HO721.o))) (Kd.R_lt (Kd.qR HO726.o))) (bZ M33)); have _ := zK (bB (qK BK704.o) hb); have _ := zK (IsS173.below (Q8) hb); have _ := zK (bT M33 hb); clear HO711 HO721 HO726 BK704 HI708 HB; rename_i HO711 HO721 HO726 HO733 BK704 HI708 HB; clear hb ho14; have hnbz0 := NB704_708.o; have hncz0 := NB708_704.o; obtain ⟨hczz1_0, hczz1_1, hczz1_2, hczz1_3, hczz1_4, hczz1_5, hczz1_6, hczz1_7, hfzz1_0, hfzz1_1, hfzz1_2, hfzz1_3, hfzz1_4, hfzz1_5, hfzz1_6, hfzz1_7⟩ := bx8 BK704.o; obtain ⟨Aoz1, coz1, eoz1⟩ := Kd.R_slice HO721.o; subst eoz1; obtain ⟨Aoz2, coz2, eoz2⟩ := Kd.R_slice HO726.o; subst eoz2))
  first
    | refine bodyPost_ret (results_ctt rfl _ _ gb704 41 #[.int .i64 t738, .int .i64 t739, .slice Aoz2 t740.length coz2, .int .i64 t743, .int .i64 t744, .slice Aoz3 t745.length coz3, .int .i64 t748, .int .i64 t749] (0, 0) _ rfl (qP BK704.o) Try.underlying41 rfl (by kernel_rfl)) rfl ?_
      exact ⟨_, _, _, o0, Kd.R_mono (Kd.qF HO742.o BK704.o) (fun _ hk => ⟨hk.1.1, hk.2⟩), Kd.R_mono (Kd.qF HO747.o BK704.o) (fun _ hk => ⟨hk.1.1, hk.2⟩), Kd.R_mono (Kd.qF HO760.o BK704.o) (fun _ hk => ⟨hk.1.1.2, hk.1.2⟩), Q28⟩
    | refine bodyPost_ret (results_ctt rfl _ _ gb704 41 #[.int .i64 t717, .int .i64 t718, .slice Aoz1 t719.length coz1, .int .i64 t722, .int .i64 t723, .slice Aoz2 t724.length coz2, .int .i64 t727, .int .i64 t728] (0, 0) _ rfl (qP BK704.o) Try.underlying41 rfl (by kernel_rfl)) rfl ?_
      exact ⟨_, _, _, o0, Kd.R_mono (Kd.qF HO721.o BK704.o) (fun _ hk => ⟨hk.1, hk.2⟩), Kd.R_mono (Kd.qF HO726.o BK704.o) (fun _ hk => ⟨hk.1, hk.2⟩), Kd.R_mono (Kd.qF HO733.o BK704.o) (fun _ hk => ⟨hk.1.2, hk.2⟩), Q28⟩) : p := h
theorem spec_DrawMayHave.calls (k : Nat) (A0 : Option Addr) (c0 : Nat) (l0 : List Int) (r1 : Int) (r2 : Int) (r3 : List Int) (r4 : Int) (r5 : Int) (r6 : List Int) (r7 : Int) (r8 : Int) (r9 : List Int) (r10 : Int) (w : World) (hr0 : Kd.C (Kd.int .u8) w A0 l0.length l0) (hc0 : l0.length ≤ c0) (h : spec_DrawMayHave.f k l0 = some (r1, r2, r3, r4, r5, r6, r7, r8, r9, r10)) :
  Calls Try.prog 132 #[.slice A0 l0.length c0] w fun e w' => ∃ v2_ v5_ v8_ : Value, e = .returned (.tuple #[.agg #[.int .i64 r1, .int .i64 r2, v2_, .int .i64 r4, .int .i64 r5, v5_, .int .i64 r7, .int .i64 r8], v8_, .int .i64 r10]) ∧ Kd.R (Kd.int .i64) 3 w' w.heap.size (fun k_ => some k_ ≠ (v5_ : Value).ownBlock ∧ some k_ ≠ (v8_ : Value).ownBlock) v2_ r3 ∧ Kd.R (Kd.int .i64) 3 w' w.heap.size (fun k_ => some k_ ≠ (v2_ : Value).ownBlock ∧ some k_ ≠ (v8_ : Value).ownBlock) v5_ r6 ∧ Kd.R (Kd.int .i64) 3 w' w.heap.size (fun k_ => some k_ ≠ (v2_ : Value).ownBlock ∧ some k_ ≠ (v5_ : Value).ownBlock) v8_ r9 ∧ Below w.heap.size w w' := by
 have hu41 := Try.underlying41
 have hu113 := Try.underlying113
 have HR0 := zK hr0
 have HC0 := zK hc0
 clear hr0 hc0
 have HB := zK (Below.refl w.heap.size w)
 have H : ((spec_l1New.f k l0).bind fun bt705 => ((spec_l6List.f k bt705.1 bt705.2.1 bt705.2.2).bind fun bt709 => ((spec_l1Below.f bt705.1 bt709.2.1 bt709.2.2 3).bind fun bt714 => (if (bt709.1.length : Int) = 0 then ((spec_l7Any.f k bt705.1 bt714.2.1 bt714.2.2).bind fun bt717 => (some (bt717.1, bt717.2.1, bt717.2.2.1, bt717.2.2.2.1, bt717.2.2.2.2.1, bt717.2.2.2.2.2.1, bt717.2.2.2.2.2.2.1, bt717.2.2.2.2.2.2.2.1, (([] : List Int)), bt714.1))) else ((spec_l1Below.f bt705.1 bt714.2.1 bt714.2.2 (bt709.1.length : Int)).bind fun bt734 => (if 0 ≤ bt734.1 then (if bt734.1 < (bt709.1.length : Int) then ((spec_l8For.f k bt705.1 bt734.2.1 bt734.2.2 ((rd_T113 bt709.1 bt734.1).f0.f0) ((rd_T113 bt709.1 bt734.1).f0.f1) ((rd_T113 bt709.1 bt734.1).f0.f2) ((rd_T113 bt709.1 bt734.1).f0.f3) ((rd_T113 bt709.1 bt734.1).f0.f4) ((rd_T113 bt709.1 bt734.1).f1) ((rd_T113 bt709.1 bt734.1).f2) ((rd_T113 bt709.1 bt734.1).f3) 5).bind fun bt738 => ((spec_l1Int.f bt705.1 bt738.2.2.2.2.2.2.2.2.1 bt738.2.2.2.2.2.2.2.2.2 (([bt714.1, bt714.1, 5] : List Int))).bind fun bt755 => ((spec_HintsOf.f k bt709.1 bt755.1).bind fun t758 => (some (bt738.1, bt738.2.1, bt738.2.2.1, bt738.2.2.2.1, bt738.2.2.2.2.1, bt738.2.2.2.2.2.1, bt738.2.2.2.2.2.2.1, bt738.2.2.2.2.2.2.2.1, t758, bt714.1))))) else (none)) else (none))))))) = some (r1, r2, r3, r4, r5, r6, r7, r8, r9, r10) := h
 clear h
 replace H := Option.bind_eq_some_iff.mp H
 obtain ⟨⟨t705, t706, t707⟩, A20, H⟩ := H
 try dsimp only at H
 have A2 := zK A20
 clear A20
 replace H := Option.bind_eq_some_iff.mp H
 obtain ⟨⟨t709, t712, t713⟩, A30, H⟩ := H
 try dsimp only at H
 have A3 := zK A30
 clear A30
 replace H := Option.bind_eq_some_iff.mp H
 obtain ⟨⟨t714, t715, t716⟩, A40, H⟩ := H
 try dsimp only at H
 have A4 := zK A40
 clear A40
 by_cases c5 : (t709.length : Int) = 0
 ·rw [if_pos c5] at H
  have c5b0 : ((t709.length : Int) == 0) = true := beq_iff_eq.mpr c5
  have c5b1 : ((t709.length : Int) != 0) = false := bne_eq_false_iff_eq.mpr c5
  clear c5
  replace H := Option.bind_eq_some_iff.mp H
  obtain ⟨⟨t717, t718, t719, t722, t723, t724, t727, t728, t729, t730⟩, A60, H⟩ := H
  try dsimp only at H
  have A6 := zK A60
  clear A60
  obtain ⟨y731, hy731⟩ : ∃ y_ : List Int, y_ = (([] : List Int)) := ⟨_, rfl⟩
  replace H : (some (t717, t718, t719, t722, t723, t724, t727, t728, y731, t714)) = some (r1, r2, r3, r4, r5, r6, r7, r8, r9, r10) := have he_ := hy731; rH
  have Ny731 := zK hy731
  clear hy731
  simp only [Option.some.injEq, Prod.mk.injEq] at H
  obtain ⟨rfl, rfl, rfl, rfl, rfl, rfl, rfl, rfl, rfl, rfl⟩ := H
  exact lf16_0
 rw [if_neg c5] at H
 have c5b0 : ((t709.length : Int) == 0) = false := beq_eq_false_iff_ne.mpr c5
 have c5b1 : ((t709.length : Int) != 0) = true := bne_iff_ne.mpr c5
 have c5b2 : ¬ (t709 = []) := fun h_ => c5 (by rw [h_]; rfl)
 replace H := Option.bind_eq_some_iff.mp H
 obtain ⟨⟨t734, t735, t736⟩, A190, H⟩ := H
 try dsimp only at H
 have A19 := zK A190
 clear A190
 by_cases c20 : 0 ≤ t734
 rotate_left
 ·rw [if_neg c20] at H
  exact absurd H (by simp)

 rw [if_pos c20] at H
 have c20b0 : decide (0 ≤ t734) = true := decide_eq_true c20
 clear c20
 by_cases c21 : t734 < (t709.length : Int)
 rotate_left
 ·rw [if_neg c21] at H
  exact absurd H (by simp)
 rw [if_pos c21] at H
 have c21b0 : decide (t734 < (t709.length : Int)) = true := decide_eq_true c21
 clear c21
 replace H := Option.bind_eq_some_iff.mp H
 obtain ⟨⟨t738, t739, t740, t743, t744, t745, t748, t749, t750, t751⟩, A220, H⟩ := H
 try dsimp only at H
 have A22 := zK A220
 clear A220
 obtain ⟨y752, hy752⟩ : ∃ y_ : List Int, y_ = (([t714, t714, 5] : List Int)) := ⟨_, rfl⟩
 replace H : ((spec_l1Int.f t705 t750 t751 y752).bind fun bt755 => ((spec_HintsOf.f k t709 bt755.1).bind fun t758 => (some (t738, t739, t740, t743, t744, t745, t748, t749, t758, t714)))) = some (r1, r2, r3, r4, r5, r6, r7, r8, r9, r10) := have he_ := hy752; rH
 have Ny752 := zK hy752
 clear hy752
 replace H := Option.bind_eq_some_iff.mp H
 obtain ⟨⟨t755, t756, t757⟩, A230, H⟩ := H
 try dsimp only at H
 have A23 := zK A230
 clear A230
 replace H := Option.bind_eq_some_iff.mp H
 obtain ⟨t758, A240, H⟩ := H
 try dsimp only at H
 have A24 := zK A240
 clear A240
 simp only [Option.some.injEq, Prod.mk.injEq] at H
 obtain ⟨rfl, rfl, rfl, rfl, rfl, rfl, rfl, rfl, rfl, rfl⟩ := H
 exact lf16_0
end Go.Proofs.Ytejhjenlodclpaa.PFnHints
