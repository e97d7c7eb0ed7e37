/- Walks of functions that FnHints reaches, shortened. -/
import Derived.Test.YtejhjenlodclpaaPFnHintsx0
import Derived.Test.YtejhjenlodclpaaPFnHintsx2
import Derived.Test.YtejhjenlodclpaaPFnHintsx7
import Derived.Test.YtejhjenlodclpaaPFnHintsx13
namespace Go.Proofs.Ytejhjenlodclpaa.PFnHints
open Go.RowKit Go.Proofs.YtejhjenlodclpaaW.PrintWords Go.Proofs.YtejhjenlodclpaaW.PrintLast Go.Proofs.YtejhjenlodclpaaW.PrintMore
attribute [local go_sem] max2_int min2_int max_two min_two max_three min_three max_four min_four
set_option maxHeartbeats 8000000
set_option maxRecDepth 100000
set_option linter.unusedVariables false
set_option linter.unusedSimpArgs false

/-! ### impl_Candidates: function 75 -/
def impl_Candidates.l0 : Nat → List Int → List (S113) → Int → Int → Int → Int → List Int → Int → Int → List Int → Int → Int → Option (List Int)
 | 0, _, _, _, _, _, _, _, _, _, _, _, _ => none
 | k + 1, x5, x13, x14, x15, x670000, x670001, x670002, x670003, x670004, x670005, x670006, x670007 => if x15 < x14 then (if 0 ≤ x15 then (if x15 < (x13.length : Int) then ((impl_CanBe.f k x670000 x670001 x670002 x670003 x670004 x670005 x670006 x670007 ((rd_T113 x13 x15).f0.f0) ((rd_T113 x13 x15).f0.f1) ((rd_T113 x13 x15).f0.f2) ((rd_T113 x13 x15).f0.f3) ((rd_T113 x13 x15).f0.f4) ((rd_T113 x13 x15).f1) ((rd_T113 x13 x15).f2) ((rd_T113 x13 x15).f3)).bind fun t676 => (if t676 = true then (if x5.length < 17592186044416 then (impl_Candidates.l0 k (x5 ++ [(rd_T113 x13 x15).f0.f0]) x13 x14 (wrap64 (x15 + 1)) x670000 x670001 x670002 x670003 x670004 x670005 x670006 x670007) else (none)) else (impl_Candidates.l0 k x5 x13 x14 (wrap64 (x15 + 1)) x670000 x670001 x670002 x670003 x670004 x670005 x670006 x670007))) else (none)) else (none)) else (some x5)
def impl_Candidates.f (k : Nat) (a0_0 : Int) (a0_1 : Int) (l0_2 : List Int) (a0_3 : Int) (a0_4 : Int) (l0_5 : List Int) (a0_6 : Int) (a0_7 : Int) (l1 : List (S113)) : Option (List Int) := (some (([] : List Int) : List Int)).bind fun y670 => ((impl_AreFinds.f k l1).bind fun t673 => (if t673 = true then (impl_Candidates.l0 k y670 l1 (l1.length : Int) 0 a0_0 a0_1 l0_2 a0_3 a0_4 l0_5 a0_6 a0_7) else (some y670)))
theorem impl_Candidates.calls (k : Nat) (a0_0 : Int) (a0_1 : Int) (A0_2 : Option Addr) (c0_2 : Nat) (l0_2 : List Int) (a0_3 : Int) (a0_4 : Int) (A0_5 : Option Addr) (c0_5 : Nat) (l0_5 : List Int) (a0_6 : Int) (a0_7 : Int) (A1 : Option Addr) (c1 : Nat) (l1 : List (S113)) (r : List Int) (w : World) (hr0_2 : Kd.C (Kd.int .i64) w A0_2 l0_2.length l0_2) (hc0_2 : l0_2.length ≤ c0_2) (hr0_5 : Kd.C (Kd.int .i64) w A0_5 l0_5.length l0_5) (hc0_5 : l0_5.length ≤ c0_5) (hr1 : Kd.C k113 w A1 l1.length l1) (hc1 : l1.length ≤ c1) (h : impl_Candidates.f k a0_0 a0_1 l0_2 a0_3 a0_4 l0_5 a0_6 a0_7 l1 = some r) :
  Calls Try.prog 75 #[.agg #[.int .i64 a0_0, .int .i64 a0_1, .slice A0_2 l0_2.length c0_2, .int .i64 a0_3, .int .i64 a0_4, .slice A0_5 l0_5.length c0_5, .int .i64 a0_6, .int .i64 a0_7], .slice A1 l1.length c1] w fun e w' => ∃ v0_ : Value, e = .returned (v0_) ∧ Kd.R (Kd.int .i64) 3 w' w.heap.size (fun _ => True) v0_ r ∧ Below w.heap.size w w' := by
 have hu41 := Try.underlying41
 have hu113 := Try.underlying113
 have HR0_2 := zK hr0_2
 have HC0_2 := zK hc0_2
 clear hr0_2 hc0_2
 have HR0_5 := zK hr0_5
 have HC0_5 := zK hc0_5
 clear hr0_5 hc0_5
 have HR1 := zK hr1
 have HC1 := zK hc1
 clear hr1 hc1
 have HB := zK (Below.refl w.heap.size w)
 have H : ((some (([] : List Int) : List Int)).bind fun y670 => ((impl_AreFinds.f k l1).bind fun t673 => (if t673 = true then (impl_Candidates.l0 k y670 l1 (l1.length : Int) 0 a0_0 a0_1 l0_2 a0_3 a0_4 l0_5 a0_6 a0_7) else (some y670)))) = some r := h
 clear h
 obtain ⟨y670, hy670⟩ : ∃ y_ : List Int, y_ = (([] : List Int)) := ⟨_, rfl⟩
 replace H : ((impl_AreFinds.f k l1).bind fun t673 => (if t673 = true then (impl_Candidates.l0 k y670 l1 (l1.length : Int) 0 a0_0 a0_1 l0_2 a0_3 a0_4 l0_5 a0_6 a0_7) else (some y670))) = some r := have he_ := hy670; rH
 have Ny670 := zK hy670
 clear hy670
 replace H := Option.bind_eq_some_iff.mp H
 obtain ⟨t673, A30, H⟩ := H
 try dsimp only at H
 have A3 := zK A30
 clear A30
 by_cases c4 : t673 = true
 rotate_left
 ·replace c4 := Bool.eq_false_iff.mpr c4
  subst c4
  have H1 : (some y670) = some r := by rw [if_neg (show ¬ (false = true) by decide)] at H; exact H
  clear H
  have H := H1
  clear H1
  obtain rfl := Option.some.inj H
  go_enter Try.func75, Try.ntmps75
  go_wp2_with (first | ((with_reducible refine gd (N := 2) rfl ?_); refine bE (N := 2) (cs := #[.int .i64 a0_0, .int .i64 a0_1, .slice A0_2 l0_2.length c0_2, .int .i64 a0_3, .int .i64 a0_4, .slice A0_5 l0_5.length c0_5, .int .i64 a0_6, .int .i64 a0_7]) (t := 41) ?_; intro gb669 hg w27 hbox hb; have _ := zK (bT (qB HB.o) hb); have _ := zK (hbox); have _ := zK ((by rw [hg]; exact (bZ (qB HB.o)) : w.heap.size ≤ gb669)); have _ := zK ((by rw [hg]; exact (bZ (qB HB.o)) : w.heap.size ≤ gb669)); clear HB; rename_i HB BK669 GW669 GE669; clear hb hbox hg) | ((with_reducible refine gd (N := 8) rfl ?_); refine Kd.R_lit (Kd.int .i64) _ 3 ?hg (N := 8) ?hd (xs := ([] : List Int)) (inner := []) (ok := fun _ => True) (okp := fun _ => True) ?hr ?hp (fun _ hk => hk) trivial (Below.refl _ _) (Nat.le_refl _) (by simp) ?_; (case hd => rfl); (case hg => rfl); (case hr => first | (go_simp; done) | (go_simp; rfl)); (case hp => exact (Reps.none _ _)); intro v671 w28 ho29 hb hg_ hnew_; clear hg_ hnew_; (first | rw [← Ny670.o] at ho29 | (simp only [Int.reduceToNat] at ho29; rw [← Ny670.o] at ho29)); have _ := zK (Kd.R_lower ho29 (bZ M11)); have _ := zK (bB (qK BK669.o) hb); have _ := zK (bT M11 hb); clear BK669 HB; rename_i HO672 BK669 HB; clear hb ho29) | ((with_reducible refine gc (f := 76) rfl ?_); refine gL (some 10) Try.func76 #[.slice A1 l1.length c1] ?_; (with_reducible refine (impl_AreFinds.calls k _ _ l1 false _ ?side1 ?side2 A3.o).mono ?_); (case side1 => exact Kd.qC (Kd.C_below HR1.o HB.o)); (case side2 => exact HC1.o); rintro e w30 ⟨rfl, hb⟩; refine ⟨_, rfl, ?_⟩; have _ := zK (Kd.R_below (Kd.qR HO672.o) hb); have _ := zK (bB (qK BK669.o) hb); have _ := zK (bT M11 hb); clear HO672 BK669 HB; rename_i HO672 BK669 HB; clear hb))
  go_ret
  exact ⟨_, o0, by exact Kd.qR HO672.o, o3⟩
 subst c4
 have H1 : (impl_Candidates.l0 k y670 l1 (l1.length : Int) 0 a0_0 a0_1 l0_2 a0_3 a0_4 l0_5 a0_6 a0_7) = some r := by rw [if_pos rfl] at H; exact H
 clear H
 have H := H1
 clear H1
 have H' := zK H
 clear H
 go_enter Try.func75, Try.ntmps75
 go_wp2_with (first | ((with_reducible refine gd (N := 2) rfl ?_); refine bE (N := 2) (cs := #[.int .i64 a0_0, .int .i64 a0_1, .slice A0_2 l0_2.length c0_2, .int .i64 a0_3, .int .i64 a0_4, .slice A0_5 l0_5.length c0_5, .int .i64 a0_6, .int .i64 a0_7]) (t := 41) ?_; intro gb669 hg w5 hbox hb; have _ := zK (bT (qB HB.o) hb); have _ := zK (hbox); have _ := zK ((by rw [hg]; exact (bZ (qB HB.o)) : w.heap.size ≤ gb669)); have _ := zK ((by rw [hg]; exact (bZ (qB HB.o)) : w.heap.size ≤ gb669)); clear HB; rename_i HB BK669 GW669 GE669; clear hb hbox hg) | ((with_reducible refine gd (N := 8) rfl ?_); refine Kd.R_lit (Kd.int .i64) _ 3 ?hg (N := 8) ?hd (xs := ([] : List Int)) (inner := []) (ok := fun _ => True) (okp := fun _ => True) ?hr ?hp (fun _ hk => hk) trivial (Below.refl _ _) (Nat.le_refl _) (by simp) ?_; (case hd => rfl); (case hg => rfl); (case hr => first | (go_simp; done) | (go_simp; rfl)); (case hp => exact (Reps.none _ _)); intro v671 w6 ho7 hb hg_ hnew_; clear hg_ hnew_; (first | rw [← Ny670.o] at ho7 | (simp only [Int.reduceToNat] at ho7; rw [← Ny670.o] at ho7)); have _ := zK (Kd.R_lower ho7 (bZ M11)); have _ := zK (bB (qK BK669.o) hb); have _ := zK (bT M11 hb); clear BK669 HB; rename_i HO672 BK669 HB; clear hb ho7) | ((with_reducible refine gc (f := 76) rfl ?_); refine gL (some 10) Try.func76 #[.slice A1 l1.length c1] ?_; (with_reducible refine (impl_AreFinds.calls k _ _ l1 true _ ?side1 ?side2 A3.o).mono ?_); (case side1 => exact Kd.qC (Kd.C_below HR1.o HB.o)); (case side2 => exact HC1.o); rintro e w8 ⟨rfl, hb⟩; refine ⟨_, rfl, ?_⟩; have _ := zK (Kd.R_below (Kd.qR HO672.o) hb); have _ := zK (bB (qK BK669.o) hb); have _ := zK (bT M11 hb); clear HO672 BK669 HB; rename_i HO672 BK669 HB; clear hb))
 go_loopg [5, 15] k (fun kq v5 v15 w' => ∃ (x5_1 : List Int) (x15_1 : Int), v15 = .int .i64 x15_1 ∧ Aside0 (impl_Candidates.l0 kq x5_1 l1 (l1.length : Int) x15_1 a0_0 a0_1 l0_2 a0_3 a0_4 l0_5 a0_6 a0_7 = some r) ∧ Aside0 (kq ≤ k) ∧ Aside0 (Kd.R (Kd.int .i64) 3 w' w.heap.size (fun _ => True) v5 x5_1) ∧ Aside0 (w'.heap[gb669]? = some (.cells #[.int .i64 a0_0, .int .i64 a0_1, (.slice A0_2 l0_2.length c0_2), .int .i64 a0_3, .int .i64 a0_4, (.slice A0_5 l0_5.length c0_5), .int .i64 a0_6, .int .i64 a0_7] 41 (0, 0))) ∧ Aside0 (Below w.heap.size w w'))
 case atStart => exact ⟨(y670), (0), M12, H', ⟨Nat.le_refl _⟩, ⟨by exact Kd.qR HO672.o⟩, ⟨by exact qK BK669.o⟩, ⟨o3⟩⟩
 case round =>
  clear H'
  try clear c1
  try clear p2
  try clear c4
  try clear c7
  obtain ⟨x5_1, x15_1, rfl, HA, HK1, HO_5, BK669, HB⟩ := hrel
  cases gk with
  | zero => exact absurd HA.o (by simp [impl_Candidates.l0])
  | succ k1 =>
   have H := HA.o
   clear HA
   simp only [impl_Candidates.l0] at H
   by_cases c9 : x15_1 < (l1.length : Int)
   rotate_left
   ·rw [if_neg c9] at H
    have c9b0 : decide (x15_1 < (l1.length : Int)) = false := decide_eq_false c9
    clear c9
    obtain rfl := Option.some.inj H
    go_wp2
    go_ret
    exact ⟨_, o0, o10, o3⟩
   rw [if_pos c9] at H
   have c9b0 : decide (x15_1 < (l1.length : Int)) = true := decide_eq_true c9
   clear c9
   by_cases c10 : 0 ≤ x15_1
   rotate_left
   ·rw [if_neg c10] at H
    exact absurd H (by simp)
   rw [if_pos c10] at H
   have c10b0 : decide (0 ≤ x15_1) = true := decide_eq_true c10
   clear c10
   by_cases c11 : x15_1 < (l1.length : Int)
   rotate_left
   ·rw [if_neg c11] at H
    exact absurd H (by simp)
   rw [if_pos c11] at H
   have c11b0 : decide (x15_1 < (l1.length : Int)) = true := decide_eq_true c11
   clear c11
   replace H := Option.bind_eq_some_iff.mp H
   obtain ⟨t676, A120, H⟩ := H
   try dsimp only at H
   have A12 := zK A120
   clear A120
   by_cases c13 : t676 = true
   rotate_left
   ·replace c13 := Bool.eq_false_iff.mpr c13
    subst c13
    have H1 : (impl_Candidates.l0 k1 x5_1 l1 (l1.length : Int) (wrap64 (x15_1 + 1)) a0_0 a0_1 l0_2 a0_3 a0_4 l0_5 a0_6 a0_7) = some r := by rw [if_neg (show ¬ (false = true) by decide)] at H; exact H
    clear H
    have H := H1
    clear H1
    have H' := zK H
    clear H
    have p674 : 0 ≤ (x15_1 : Int) := oD M4
    have q674 : x15_1 < (l1.length : Int) := oD M4
    obtain ⟨ad674, e674, hx674_0, hx674_1, hx674_2, hx674_3, hx674_4, hx674_5, hx674_6, hx674_7⟩ := at_T113 HR1.o x15_1 p674 q674
    cases e674
    replace hx674_0 := cB HB.o hx674_0
    replace hx674_1 := cB HB.o hx674_1
    replace hx674_2 := cB HB.o hx674_2
    replace hx674_3 := cB HB.o hx674_3
    replace hx674_4 := cB HB.o hx674_4
    replace hx674_5 := cB HB.o hx674_5
    replace hx674_6 := cB HB.o hx674_6
    replace hx674_7 := cB HB.o hx674_7
    replace p674 := eq_true p674
    replace q674 := eq_true q674
    go_wp2_with (first | ((with_reducible refine gd (N := 7) rfl ?_); refine bE (N := 7) (cs := #[.int .i64 0, .int .i64 0, .int .i64 0, .int .i64 0, .int .i64 0, .int .i64 0, .int .i64 0, .int .i64 0]) (t := 113) ?_; intro gb675 hg w22 hbox hb; have _ := zK (Kd.R_below (Kd.qR HO_5.o) hb); have _ := zK (bB (qK BK669.o) hb); have _ := zK (bT M11 hb); have _ := zK (hbox); have _ := zK ((by rw [hg]; exact (bZ M11) : w.heap.size ≤ gb675)); have _ := zK ((by rw [hg]; exact (bZ M11) : w.heap.size ≤ gb675)); have _ := zK ((by rw [hg]; exact Nat.ne_of_lt (blk_lt (qK BK669.o)) : gb669 ≠ gb675)); have _ := zK ((by rw [hg]; exact Nat.ne_of_gt (blk_lt (qK BK669.o)) : gb675 ≠ gb669)); clear HO_5 BK669 HB; rename_i HO_5 BK669 HB BK675 GW675 GE675 NB669_675 NB675_669; clear hb hbox hg; have hnb23 := NB675_669.o; have hnc23 := NB669_675.o; obtain ⟨hcz24_0, hcz24_1, hcz24_2, hcz24_3, hcz24_4, hcz24_5, hcz24_6, hcz24_7, hfz24_0, hfz24_1, hfz24_2, hfz24_3, hfz24_4, hfz24_5, hfz24_6, hfz24_7⟩ := bx8 BK675.o; obtain ⟨hcz25_0, hcz25_1, hcz25_2, hcz25_3, hcz25_4, hcz25_5, hcz25_6, hcz25_7, hfz25_0, hfz25_1, hfz25_2, hfz25_3, hfz25_4, hfz25_5, hfz25_6, hfz25_7⟩ := bx8 BK669.o) | ((with_reducible refine gc (f := 78) rfl ?_); refine goesL_ (some 21) rfl rfl Try.func78 (by kernel_rfl) rfl #[.agg #[.int .i64 a0_0, .int .i64 a0_1, .slice A0_2 l0_2.length c0_2, .int .i64 a0_3, .int .i64 a0_4, .slice A0_5 l0_5.length c0_5, .int .i64 a0_6, .int .i64 a0_7], .agg #[.int .i64 ((rd_T113 l1 x15_1).f0.f0), .int .i64 ((rd_T113 l1 x15_1).f0.f1), .int .i64 ((rd_T113 l1 x15_1).f0.f2), .int .i64 ((rd_T113 l1 x15_1).f0.f3), .int .i64 ((rd_T113 l1 x15_1).f0.f4), .int .i64 ((rd_T113 l1 x15_1).f1), .int .i64 ((rd_T113 l1 x15_1).f2), .int .i64 ((rd_T113 l1 x15_1).f3)]] rfl M0 ?_; (with_reducible refine (impl_CanBe.calls k1 a0_0 a0_1 _ _ l0_2 a0_3 a0_4 _ _ l0_5 a0_6 a0_7 ((rd_T113 l1 x15_1).f0.f0) ((rd_T113 l1 x15_1).f0.f1) ((rd_T113 l1 x15_1).f0.f2) ((rd_T113 l1 x15_1).f0.f3) ((rd_T113 l1 x15_1).f0.f4) ((rd_T113 l1 x15_1).f1) ((rd_T113 l1 x15_1).f2) ((rd_T113 l1 x15_1).f3) false _ ?side1 ?side2 ?side3 ?side4 A12.o).mono ?_); (case side1 => exact Kd.C_below HR0_2.o M11); (case side2 => exact HC0_2.o); (case side3 => exact Kd.C_below HR0_5.o M11); (case side4 => exact HC0_5.o); rintro e w26 ⟨rfl, hb⟩; refine ⟨_, rfl, ?_⟩; have _ := zK (Kd.R_below (Kd.qF HO_5.o BK675.o) hb); have _ := zK (bB (g := gb669) (o := .cells #[.int .i64 a0_0, .int .i64 a0_1, .slice A0_2 l0_2.length c0_2, .int .i64 a0_3, .int .i64 a0_4, .slice A0_5 l0_5.length c0_5, .int .i64 a0_6, .int .i64 a0_7] 41 (0, 0)) (qP BK669.o) hb); have _ := zK (bB (g := gb675) (o := .cells #[.int .i64 ((rd_T113 l1 x15_1).f0.f0), .int .i64 ((rd_T113 l1 x15_1).f0.f1), .int .i64 ((rd_T113 l1 x15_1).f0.f2), .int .i64 ((rd_T113 l1 x15_1).f0.f3), .int .i64 ((rd_T113 l1 x15_1).f0.f4), .int .i64 ((rd_T113 l1 x15_1).f1), .int .i64 ((rd_T113 l1 x15_1).f2), .int .i64 ((rd_T113 l1 x15_1).f3)] 113 (0, 0)) (qP BK675.o) hb); have _ := zK (bT M11 hb); clear HO_5 BK669 BK675 HB; rename_i HO_5 BK669 BK675 HB; clear hb))
    go_roundg k1
    case measure => have := HK1.o; omega
    case rel => exact ⟨(x5_1), (wrap64 (x15_1 + 1)), M12, H', ⟨o6⟩, ⟨o10⟩, ⟨by exact qK BK669.o⟩, ⟨o3⟩⟩
   subst c13
   have H1 : (if x5_1.length < 17592186044416 then (impl_Candidates.l0 k1 (x5_1 ++ [(rd_T113 l1 x15_1).f0.f0]) l1 (l1.length : Int) (wrap64 (x15_1 + 1)) a0_0 a0_1 l0_2 a0_3 a0_4 l0_5 a0_6 a0_7) else (none)) = some r := by rw [if_pos rfl] at H; exact H
   clear H
   have H := H1
   clear H1
   by_cases c14 : x5_1.length < 17592186044416
   rotate_left
   ·rw [if_neg c14] at H
    exact absurd H (by simp)
   rw [if_pos c14] at H
   have LMc14 := zK c14
   clear c14
   obtain ⟨y677, hy677⟩ : ∃ y_ : List Int, y_ = (x5_1 ++ [(rd_T113 l1 x15_1).f0.f0]) := ⟨_, rfl⟩
   replace H : (impl_Candidates.l0 k1 y677 l1 (l1.length : Int) (wrap64 (x15_1 + 1)) a0_0 a0_1 l0_2 a0_3 a0_4 l0_5 a0_6 a0_7) = some r := have he_ := hy677; rH
   have Ny677 := zK hy677
   clear hy677
   have H' := zK H
   clear H
   have p674 : 0 ≤ (x15_1 : Int) := oD M4
   have q674 : x15_1 < (l1.length : Int) := oD M4
   obtain ⟨ad674, e674, hx674_0, hx674_1, hx674_2, hx674_3, hx674_4, hx674_5, hx674_6, hx674_7⟩ := at_T113 HR1.o x15_1 p674 q674
   cases e674
   replace hx674_0 := cB HB.o hx674_0
   replace hx674_1 := cB HB.o hx674_1
   replace hx674_2 := cB HB.o hx674_2
   replace hx674_3 := cB HB.o hx674_3
   replace hx674_4 := cB HB.o hx674_4
   replace hx674_5 := cB HB.o hx674_5
   replace hx674_6 := cB HB.o hx674_6
   replace hx674_7 := cB HB.o hx674_7
   replace p674 := eq_true p674
   replace q674 := eq_true q674
   go_wp2_with (first | ((with_reducible refine gd (N := 7) rfl ?_); refine bE (N := 7) (cs := #[.int .i64 0, .int .i64 0, .int .i64 0, .int .i64 0, .int .i64 0, .int .i64 0, .int .i64 0, .int .i64 0]) (t := 113) ?_; intro gb675 hg w15 hbox hb; have _ := zK (Kd.R_below (Kd.qR HO_5.o) hb); have _ := zK (bB (qK BK669.o) hb); have _ := zK (bT M11 hb); have _ := zK (hbox); have _ := zK ((by rw [hg]; exact (bZ M11) : w.heap.size ≤ gb675)); have _ := zK ((by rw [hg]; exact (bZ M11) : w.heap.size ≤ gb675)); have _ := zK ((by rw [hg]; exact Nat.ne_of_lt (blk_lt (qK BK669.o)) : gb669 ≠ gb675)); have _ := zK ((by rw [hg]; exact Nat.ne_of_gt (blk_lt (qK BK669.o)) : gb675 ≠ gb669)); clear HO_5 BK669 HB; rename_i HO_5 BK669 HB BK675 GW675 GE675 NB669_675 NB675_669; clear hb hbox hg; have hnb16 := NB675_669.o; have hnc16 := NB669_675.o; obtain ⟨hcz17_0, hcz17_1, hcz17_2, hcz17_3, hcz17_4, hcz17_5, hcz17_6, hcz17_7, hfz17_0, hfz17_1, hfz17_2, hfz17_3, hfz17_4, hfz17_5, hfz17_6, hfz17_7⟩ := bx8 BK675.o; obtain ⟨hcz18_0, hcz18_1, hcz18_2, hcz18_3, hcz18_4, hcz18_5, hcz18_6, hcz18_7, hfz18_0, hfz18_1, hfz18_2, hfz18_3, hfz18_4, hfz18_5, hfz18_6, hfz18_7⟩ := bx8 BK669.o) | ((with_reducible refine gc (f := 78) rfl ?_); refine goesL_ (some 21) rfl rfl Try.func78 (by kernel_rfl) rfl #[.agg #[.int .i64 a0_0, .int .i64 a0_1, .slice A0_2 l0_2.length c0_2, .int .i64 a0_3, .int .i64 a0_4, .slice A0_5 l0_5.length c0_5, .int .i64 a0_6, .int .i64 a0_7], .agg #[.int .i64 ((rd_T113 l1 x15_1).f0.f0), .int .i64 ((rd_T113 l1 x15_1).f0.f1), .int .i64 ((rd_T113 l1 x15_1).f0.f2), .int .i64 ((rd_T113 l1 x15_1).f0.f3), .int .i64 ((rd_T113 l1 x15_1).f0.f4), .int .i64 ((rd_T113 l1 x15_1).f1), .int .i64 ((rd_T113 l1 x15_1).f2), .int .i64 ((rd_T113 l1 x15_1).f3)]] rfl M0 ?_; (with_reducible refine (impl_CanBe.calls k1 a0_0 a0_1 _ _ l0_2 a0_3 a0_4 _ _ l0_5 a0_6 a0_7 ((rd_T113 l1 x15_1).f0.f0) ((rd_T113 l1 x15_1).f0.f1) ((rd_T113 l1 x15_1).f0.f2) ((rd_T113 l1 x15_1).f0.f3) ((rd_T113 l1 x15_1).f0.f4) ((rd_T113 l1 x15_1).f1) ((rd_T113 l1 x15_1).f2) ((rd_T113 l1 x15_1).f3) true _ ?side1 ?side2 ?side3 ?side4 A12.o).mono ?_); (case side1 => exact Kd.C_below HR0_2.o M11); (case side2 => exact HC0_2.o); (case side3 => exact Kd.C_below HR0_5.o M11); (case side4 => exact HC0_5.o); rintro e w19 ⟨rfl, hb⟩; refine ⟨_, rfl, ?_⟩; have _ := zK (Kd.R_below (Kd.qF HO_5.o BK675.o) hb); have _ := zK (bB (g := gb669) (o := .cells #[.int .i64 a0_0, .int .i64 a0_1, .slice A0_2 l0_2.length c0_2, .int .i64 a0_3, .int .i64 a0_4, .slice A0_5 l0_5.length c0_5, .int .i64 a0_6, .int .i64 a0_7] 41 (0, 0)) (qP BK669.o) hb); have _ := zK (bB (g := gb675) (o := .cells #[.int .i64 ((rd_T113 l1 x15_1).f0.f0), .int .i64 ((rd_T113 l1 x15_1).f0.f1), .int .i64 ((rd_T113 l1 x15_1).f0.f2), .int .i64 ((rd_T113 l1 x15_1).f0.f3), .int .i64 ((rd_T113 l1 x15_1).f0.f4), .int .i64 ((rd_T113 l1 x15_1).f1), .int .i64 ((rd_T113 l1 x15_1).f2), .int .i64 ((rd_T113 l1 x15_1).f3)] 113 (0, 0)) (qP BK675.o) hb); have _ := zK (bT M11 hb); clear HO_5 BK669 BK675 HB; rename_i HO_5 BK669 BK675 HB; clear hb; obtain ⟨hcz20_0, hcz20_1, hcz20_2, hcz20_3, hcz20_4, hcz20_5, hcz20_6, hcz20_7, hfz20_0, hfz20_1, hfz20_2, hfz20_3, hfz20_4, hfz20_5, hfz20_6, hfz20_7⟩ := bx8 BK675.o) | ((with_reducible refine gate_builtin (b := .append) (xs := #[.tmp 22, .tmp 26]) rfl ?_); at_builtin; refine Kd.R_append (Kd.int .i64) (w0 := w) w.heap.size rfl (.tmp 22) (.tmp 26) 24 3 (.int .i64 0) 8 rfl Try.underlying24 info3 rfl (by decide) (by omega) u5 x5_1 ((rd_T113 l1 x15_1).f0.f0) [.int .i64 ((rd_T113 l1 x15_1).f0.f0)] (fun _ => True) (fun _ => False) rfl rfl ?aP (fun _ hk => hk.elim) ?aF ?aO ?aB ?aS ?aL ?_; (case aP => exact rfl); (case aB => exact M11); (case aF => exact (fun _ _ => trivial)); (case aO => exact (Kd.qR HO_5.o)); (case aS => exact (bZ M11)); (case aL => have := LMc14.o; omega); intro v678 w21 ho hb hg hat; rw [← Ny677.o] at ho; have _ := zK (blk_grown (qK BK669.o) hg (Kd.R_ne HO_5.o BK669.o (by decide))); have _ := zK (blk_grown (qK BK675.o) hg (Kd.R_ne HO_5.o BK675.o (by decide))); have _ := zK (hb); have _ := zK (ho); clear BK669 BK675 HB HO_5; rename_i BK669 BK675 HB HO679; clear ho hb hg hat))
   go_roundg k1
   case measure => have := HK1.o; omega
   case rel => exact ⟨(y677), (wrap64 (x15_1 + 1)), M12, H', ⟨o6⟩, ⟨by exact Kd.qR HO679.o⟩, ⟨by exact qK BK669.o⟩, ⟨o3⟩⟩
/-! ### spec_IsThing: function 155 -/
def spec_IsThing.f (a0_0 : Int) (a0_1 : Int) (a0_2 : Int) (a0_3 : Int) (a0_4 : Int) : Option (Bool) := (spec_l1In.f a0_0 1 999).bind fun t681 => (if t681 = true then ((spec_l1In.f a0_1 1 8).bind fun t682 => (if t682 = true then ((spec_l1In.f a0_2 0 7).bind fun t683 => (if t683 = true then ((spec_l1In.f a0_3 1 50).bind fun t684 => (if t684 = true then ((spec_l1In.f a0_4 0 10000000).bind fun t685 => (some t685)) else (some false))) else (some false))) else (some false))) else (some false))
theorem lf14_0 {p : Prop} (h : p := by
  go_enter Try.func155, Try.ntmps155
  go_wp2_with (first | ((with_reducible refine gd (N := 1) rfl ?_); refine bE (N := 1) (cs := #[.int .i64 a0_0, .int .i64 a0_1, .int .i64 a0_2, .int .i64 a0_3, .int .i64 a0_4]) (t := 111) ?_; intro gb680 hg wz0 hbox hb; have _ := zK (bT (qB HB.o) hb); have _ := zK (hbox); have _ := zK ((by rw [hg]; exact (bZ (qB HB.o)) : w.heap.size ≤ gb680)); have _ := zK ((by rw [hg]; exact (bZ (qB HB.o)) : w.heap.size ≤ gb680)); clear HB; rename_i HB BK680 GW680 GE680; clear hb hbox hg; obtain ⟨hczz0_0, hczz0_1, hczz0_2, hczz0_3, hczz0_4, hfzz0_0, hfzz0_1, hfzz0_2, hfzz0_3, hfzz0_4⟩ := bx5 BK680.o) | ((with_reducible refine gc (f := 138) rfl ?_); refine gL (some 5) Try.func138 #[.int .i64 a0_0, .int .i64 1, .int .i64 999] ?_; (with_reducible refine (spec_l1In.calls a0_0 1 999 true _ A2.o).mono ?_); rintro e w' ⟨rfl, ⟨nd, rfl⟩⟩; refine ⟨_, rfl, ?_⟩) | (go_at_call 138; (with_reducible refine (spec_l1In.calls a0_1 1 8 true _ A4.o).mono ?_); rintro e w' ⟨rfl, ⟨nd, rfl⟩⟩) | (go_at_call 138; (with_reducible refine (spec_l1In.calls a0_2 0 7 true _ A6.o).mono ?_); rintro e w' ⟨rfl, ⟨nd, rfl⟩⟩) | (go_at_call 138; (with_reducible refine (spec_l1In.calls a0_3 1 50 true _ A8.o).mono ?_); rintro e w' ⟨rfl, ⟨nd, rfl⟩⟩) | (go_at_call 138; (with_reducible refine (spec_l1In.calls a0_4 0 10000000 t685 _ A10.o).mono ?_); rintro e w' ⟨rfl, ⟨nd, rfl⟩⟩) | (go_at_call 138; (with_reducible refine (spec_l1In.calls a0_3 1 50 false _ A8.o).mono ?_); rintro e w' ⟨rfl, ⟨nd, rfl⟩⟩) | (go_at_call 138; (with_reducible refine (spec_l1In.calls a0_2 0 7 false _ A6.o).mono ?_); rintro e w' ⟨rfl, ⟨nd, rfl⟩⟩) | (go_at_call 138; (with_reducible refine (spec_l1In.calls a0_1 1 8 false _ A4.o).mono ?_); rintro e w' ⟨rfl, ⟨nd, rfl⟩⟩))
  go_ret
  exact ⟨o0, o3⟩) : p := h
theorem spec_IsThing.calls (a0_0 : Int) (a0_1 : Int) (a0_2 : Int) (a0_3 : Int) (a0_4 : Int) (r : Bool) (w : World) (h : spec_IsThing.f a0_0 a0_1 a0_2 a0_3 a0_4 = some r) :
  Calls Try.prog 155 #[.agg #[.int .i64 a0_0, .int .i64 a0_1, .int .i64 a0_2, .int .i64 a0_3, .int .i64 a0_4]] w fun e w' => e = .returned (.bool r) ∧ Below w.heap.size w w' := by
 have hu111 := Try.underlying111
 have HB := zK (Below.refl w.heap.size w)
 have H : ((spec_l1In.f a0_0 1 999).bind fun t681 => (if t681 = true then ((spec_l1In.f a0_1 1 8).bind fun t682 => (if t682 = true then ((spec_l1In.f a0_2 0 7).bind fun t683 => (if t683 = true then ((spec_l1In.f a0_3 1 50).bind fun t684 => (if t684 = true then ((spec_l1In.f a0_4 0 10000000).bind fun t685 => (some t685)) else (some false))) else (some false))) else (some false))) else (some false))) = some r := h
 clear h
 replace H := Option.bind_eq_some_iff.mp H
 obtain ⟨t681, A20, H⟩ := H
 try dsimp only at H
 have A2 := zK A20
 clear A20
 by_cases c3 : t681 = true
 rotate_left
 ·replace c3 := Bool.eq_false_iff.mpr c3
  subst c3
  have H1 : (some false) = some r := by rw [if_neg (show ¬ (false = true) by decide)] at H; exact H
  clear H
  have H := H1
  clear H1
  obtain rfl := Option.some.inj H
  go_enter Try.func155, Try.ntmps155
  go_wp2_with (first | ((with_reducible refine gd (N := 1) rfl ?_); refine bE (N := 1) (cs := #[.int .i64 a0_0, .int .i64 a0_1, .int .i64 a0_2, .int .i64 a0_3, .int .i64 a0_4]) (t := 111) ?_; intro gb680 hg w19 hbox hb; have _ := zK (bT (qB HB.o) hb); have _ := zK (hbox); have _ := zK ((by rw [hg]; exact (bZ (qB HB.o)) : w.heap.size ≤ gb680)); have _ := zK ((by rw [hg]; exact (bZ (qB HB.o)) : w.heap.size ≤ gb680)); clear HB; rename_i HB BK680 GW680 GE680; clear hb hbox hg; obtain ⟨hcz20_0, hcz20_1, hcz20_2, hcz20_3, hcz20_4, hfz20_0, hfz20_1, hfz20_2, hfz20_3, hfz20_4⟩ := bx5 BK680.o) | ((with_reducible refine gc (f := 138) rfl ?_); refine gL (some 5) Try.func138 #[.int .i64 a0_0, .int .i64 1, .int .i64 999] ?_; (with_reducible refine (spec_l1In.calls a0_0 1 999 false _ A2.o).mono ?_); rintro e w' ⟨rfl, ⟨nd, rfl⟩⟩; refine ⟨_, rfl, ?_⟩))
  go_ret
  exact ⟨o0, o3⟩
 subst c3
 have H1 : ((spec_l1In.f a0_1 1 8).bind fun t682 => (if t682 = true then ((spec_l1In.f a0_2 0 7).bind fun t683 => (if t683 = true then ((spec_l1In.f a0_3 1 50).bind fun t684 => (if t684 = true then ((spec_l1In.f a0_4 0 10000000).bind fun t685 => (some t685)) else (some false))) else (some false))) else (some false))) = some r := by rw [if_pos rfl] at H; exact H
 clear H
 have H := H1
 clear H1
 replace H := Option.bind_eq_some_iff.mp H
 obtain ⟨t682, A40, H⟩ := H
 try dsimp only at H
 have A4 := zK A40
 clear A40
 by_cases c5 : t682 = true
 rotate_left
 ·replace c5 := Bool.eq_false_iff.mpr c5
  subst c5
  have H1 : (some false) = some r := by rw [if_neg (show ¬ (false = true) by decide)] at H; exact H
  clear H
  have H := H1
  clear H1
  obtain rfl := Option.some.inj H
  exact lf14_0
 subst c5
 have H1 : ((spec_l1In.f a0_2 0 7).bind fun t683 => (if t683 = true then ((spec_l1In.f a0_3 1 50).bind fun t684 => (if t684 = true then ((spec_l1In.f a0_4 0 10000000).bind fun t685 => (some t685)) else (some false))) else (some false))) = some r := by rw [if_pos rfl] at H; exact H
 clear H
 have H := H1
 clear H1
 replace H := Option.bind_eq_some_iff.mp H
 obtain ⟨t683, A60, H⟩ := H
 try dsimp only at H
 have A6 := zK A60
 clear A60
 by_cases c7 : t683 = true
 rotate_left
 ·replace c7 := Bool.eq_false_iff.mpr c7
  subst c7
  have H1 : (some false) = some r := by rw [if_neg (show ¬ (false = true) by decide)] at H; exact H
  clear H
  have H := H1
  clear H1
  obtain rfl := Option.some.inj H
  exact lf14_0
 subst c7
 have H1 : ((spec_l1In.f a0_3 1 50).bind fun t684 => (if t684 = true then ((spec_l1In.f a0_4 0 10000000).bind fun t685 => (some t685)) else (some false))) = some r := by rw [if_pos rfl] at H; exact H
 clear H
 have H := H1
 clear H1
 replace H := Option.bind_eq_some_iff.mp H
 obtain ⟨t684, A80, H⟩ := H
 try dsimp only at H
 have A8 := zK A80
 clear A80
 by_cases c9 : t684 = true
 rotate_left
 ·replace c9 := Bool.eq_false_iff.mpr c9
  subst c9
  have H1 : (some false) = some r := by rw [if_neg (show ¬ (false = true) by decide)] at H; exact H
  clear H
  have H := H1
  clear H1
  obtain rfl := Option.some.inj H
  exact lf14_0
 subst c9
 have H1 : ((spec_l1In.f a0_4 0 10000000).bind fun t685 => (some t685)) = some r := by rw [if_pos rfl] at H; exact H
 clear H
 have H := H1
 clear H1
 replace H := Option.bind_eq_some_iff.mp H
 obtain ⟨t685, A100, H⟩ := H
 replace H : (some t685) = some r := H
 have A10 := zK A100
 clear A100
 obtain rfl := Option.some.inj H
 exact lf14_0
/-! ### spec_IsFind: function 134 -/
def spec_IsFind.f (a0_0 : Int) (a0_1 : Int) (a0_2 : Int) (a0_3 : Int) (a0_4 : Int) (a0_5 : Int) (a0_6 : Int) (a0_7 : Int) : Option (Bool) := (spec_IsThing.f a0_0 a0_1 a0_2 a0_3 a0_4).bind fun t687 => (if t687 = true then ((spec_l1In.f a0_5 1 30).bind fun t688 => (if t688 = true then ((spec_l1In.f a0_6 0 100000).bind fun t689 => (if t689 = true then ((spec_l1In.f a0_7 0 999).bind fun t690 => (some t690)) else (some false))) else (some false))) else (some false))
theorem lf14_1 {p : Prop} (h : p := by
  go_enter Try.func134, Try.ntmps134
  go_wp2_with (first | ((with_reducible refine gd (N := 1) rfl ?_); refine bE (N := 1) (cs := #[.int .i64 a0_0, .int .i64 a0_1, .int .i64 a0_2, .int .i64 a0_3, .int .i64 a0_4, .int .i64 a0_5, .int .i64 a0_6, .int .i64 a0_7]) (t := 113) ?_; intro gb686 hg wz0 hbox hb; have _ := zK (bT (qB HB.o) hb); have _ := zK (hbox); have _ := zK ((by rw [hg]; exact (bZ (qB HB.o)) : w.heap.size ≤ gb686)); have _ := zK ((by rw [hg]; exact (bZ (qB HB.o)) : w.heap.size ≤ gb686)); clear HB; rename_i HB BK686 GW686 GE686; clear hb hbox hg; obtain ⟨hczz0_0, hczz0_1, hczz0_2, hczz0_3, hczz0_4, hczz0_5, hczz0_6, hczz0_7, hfzz0_0, hfzz0_1, hfzz0_2, hfzz0_3, hfzz0_4, hfzz0_5, hfzz0_6, hfzz0_7⟩ := bx8 BK686.o) | ((with_reducible refine gc (f := 155) rfl ?_); refine goesL_ (some 5) rfl rfl Try.func155 (by kernel_rfl) rfl #[.agg #[.int .i64 a0_0, .int .i64 a0_1, .int .i64 a0_2, .int .i64 a0_3, .int .i64 a0_4]] rfl M0 ?_; (with_reducible refine (spec_IsThing.calls a0_0 a0_1 a0_2 a0_3 a0_4 true _ A2.o).mono ?_); rintro e wz1 ⟨rfl, hb⟩; refine ⟨_, rfl, ?_⟩; have _ := zK (bB (qK BK686.o) hb); have _ := zK (bT (qX HB.o) hb); clear BK686 HB; rename_i BK686 HB; clear hb; obtain ⟨hczz1_0, hczz1_1, hczz1_2, hczz1_3, hczz1_4, hczz1_5, hczz1_6, hczz1_7, hfzz1_0, hfzz1_1, hfzz1_2, hfzz1_3, hfzz1_4, hfzz1_5, hfzz1_6, hfzz1_7⟩ := bx8 BK686.o) | (go_at_call 138; (with_reducible refine (spec_l1In.calls a0_5 1 30 true _ A4.o).mono ?_); rintro e w' ⟨rfl, ⟨nd, rfl⟩⟩) | (go_at_call 138; (with_reducible refine (spec_l1In.calls a0_6 0 100000 true _ A6.o).mono ?_); rintro e w' ⟨rfl, ⟨nd, rfl⟩⟩) | (go_at_call 138; (with_reducible refine (spec_l1In.calls a0_7 0 999 t690 _ A8.o).mono ?_); rintro e w' ⟨rfl, ⟨nd, rfl⟩⟩) | (go_at_call 138; (with_reducible refine (spec_l1In.calls a0_6 0 100000 false _ A6.o).mono ?_); rintro e w' ⟨rfl, ⟨nd, rfl⟩⟩) | (go_at_call 138; (with_reducible refine (spec_l1In.calls a0_5 1 30 false _ A4.o).mono ?_); rintro e w' ⟨rfl, ⟨nd, rfl⟩⟩))
  go_ret
  exact ⟨o0, o3⟩) : p := h
theorem spec_IsFind.calls (a0_0 : Int) (a0_1 : Int) (a0_2 : Int) (a0_3 : Int) (a0_4 : Int) (a0_5 : Int) (a0_6 : Int) (a0_7 : Int) (r : Bool) (w : World) (h : spec_IsFind.f a0_0 a0_1 a0_2 a0_3 a0_4 a0_5 a0_6 a0_7 = some r) :
  Calls Try.prog 134 #[.agg #[.int .i64 a0_0, .int .i64 a0_1, .int .i64 a0_2, .int .i64 a0_3, .int .i64 a0_4, .int .i64 a0_5, .int .i64 a0_6, .int .i64 a0_7]] w fun e w' => e = .returned (.bool r) ∧ Below w.heap.size w w' := by
 have hu113 := Try.underlying113
 have hu111 := Try.underlying111
 have HB := zK (Below.refl w.heap.size w)
 have H : ((spec_IsThing.f a0_0 a0_1 a0_2 a0_3 a0_4).bind fun t687 => (if t687 = true then ((spec_l1In.f a0_5 1 30).bind fun t688 => (if t688 = true then ((spec_l1In.f a0_6 0 100000).bind fun t689 => (if t689 = true then ((spec_l1In.f a0_7 0 999).bind fun t690 => (some t690)) else (some false))) else (some false))) else (some false))) = some r := h
 clear h
 replace H := Option.bind_eq_some_iff.mp H
 obtain ⟨t687, A20, H⟩ := H
 try dsimp only at H
 have A2 := zK A20
 clear A20
 by_cases c3 : t687 = true
 rotate_left
 ·replace c3 := Bool.eq_false_iff.mpr c3
  subst c3
  have H1 : (some false) = some r := by rw [if_neg (show ¬ (false = true) by decide)] at H; exact H
  clear H
  have H := H1
  clear H1
  obtain rfl := Option.some.inj H
  go_enter Try.func134, Try.ntmps134
  go_wp2_with (first | ((with_reducible refine gd (N := 1) rfl ?_); refine bE (N := 1) (cs := #[.int .i64 a0_0, .int .i64 a0_1, .int .i64 a0_2, .int .i64 a0_3, .int .i64 a0_4, .int .i64 a0_5, .int .i64 a0_6, .int .i64 a0_7]) (t := 113) ?_; intro gb686 hg w21 hbox hb; have _ := zK (bT (qB HB.o) hb); have _ := zK (hbox); have _ := zK ((by rw [hg]; exact (bZ (qB HB.o)) : w.heap.size ≤ gb686)); have _ := zK ((by rw [hg]; exact (bZ (qB HB.o)) : w.heap.size ≤ gb686)); clear HB; rename_i HB BK686 GW686 GE686; clear hb hbox hg; obtain ⟨hcz22_0, hcz22_1, hcz22_2, hcz22_3, hcz22_4, hcz22_5, hcz22_6, hcz22_7, hfz22_0, hfz22_1, hfz22_2, hfz22_3, hfz22_4, hfz22_5, hfz22_6, hfz22_7⟩ := bx8 BK686.o) | ((with_reducible refine gc (f := 155) rfl ?_); refine goesL_ (some 5) rfl rfl Try.func155 (by kernel_rfl) rfl #[.agg #[.int .i64 a0_0, .int .i64 a0_1, .int .i64 a0_2, .int .i64 a0_3, .int .i64 a0_4]] rfl M0 ?_; (with_reducible refine (spec_IsThing.calls a0_0 a0_1 a0_2 a0_3 a0_4 false _ A2.o).mono ?_); rintro e w23 ⟨rfl, hb⟩; refine ⟨_, rfl, ?_⟩; have _ := zK (bB (qK BK686.o) hb); have _ := zK (bT (qX HB.o) hb); clear BK686 HB; rename_i BK686 HB; clear hb))
  go_ret
  exact ⟨o0, o3⟩

 subst c3
 have H1 : ((spec_l1In.f a0_5 1 30).bind fun t688 => (if t688 = true then ((spec_l1In.f a0_6 0 100000).bind fun t689 => (if t689 = true then ((spec_l1In.f a0_7 0 999).bind fun t690 => (some t690)) else (some false))) else (some false))) = some r := by rw [if_pos rfl] at H; exact H
 clear H
 have H := H1
 clear H1
 replace H := Option.bind_eq_some_iff.mp H
 obtain ⟨t688, A40, H⟩ := H
 try dsimp only at H
 have A4 := zK A40
 clear A40
 by_cases c5 : t688 = true
 rotate_left
 ·replace c5 := Bool.eq_false_iff.mpr c5
  subst c5
  have H1 : (some false) = some r := by rw [if_neg (show ¬ (false = true) by decide)] at H; exact H
  clear H
  have H := H1
  clear H1
  obtain rfl := Option.some.inj H
  exact lf14_1
 subst c5
 have H1 : ((spec_l1In.f a0_6 0 100000).bind fun t689 => (if t689 = true then ((spec_l1In.f a0_7 0 999).bind fun t690 => (some t690)) else (some false))) = some r := by rw [if_pos rfl] at H; exact H
 clear H
 have H := H1
 clear H1
 replace H := Option.bind_eq_some_iff.mp H
 obtain ⟨t689, A60, H⟩ := H
 try dsimp only at H
 have A6 := zK A60
 clear A60
 by_cases c7 : t689 = true
 rotate_left
 ·replace c7 := Bool.eq_false_iff.mpr c7
  subst c7
  have H1 : (some false) = some r := by rw [if_neg (show ¬ (false = true) by decide)] at H; exact H
  clear H
  have H := H1
  clear H1
  obtain rfl := Option.some.inj H
  exact lf14_1
 subst c7
 have H1 : ((spec_l1In.f a0_7 0 999).bind fun t690 => (some t690)) = some r := by rw [if_pos rfl] at H; exact H
 clear H
 have H := H1
 clear H1
 replace H := Option.bind_eq_some_iff.mp H
 obtain ⟨t690, A80, H⟩ := H
 replace H : (some t690) = some r := H
 have A8 := zK A80
 clear A80
 obtain rfl := Option.some.inj H
 exact lf14_1
end Go.Proofs.Ytejhjenlodclpaa.PFnHints
