/- Walks of functions that FnHints reaches, shortened. -/
import Derived.Test.YtejhjenlodclpaaPFnHintsx0
import Derived.Test.YtejhjenlodclpaaPFnHintsx6
import Derived.Test.YtejhjenlodclpaaPFnHintsx7
namespace Go.Proofs.Ytejhjenlodclpaa.PFnHints
open Go.RowKit Go.Proofs.YtejhjenlodclpaaW.PrintWords Go.Proofs.YtejhjenlodclpaaW.PrintLast Go.Proofs.YtejhjenlodclpaaW.PrintMore
attribute [local go_sem] max2_int min2_int max_two min_two max_three min_three max_four min_four
set_option maxHeartbeats 8000000
set_option maxRecDepth 100000
set_option linter.unusedVariables false
set_option linter.unusedSimpArgs false

/-! ### spec_HintsFor: function 22 -/
mutual
def spec_HintsFor.l0 : Nat → Int → List Int → Int → Int → Int → List Int → Int → Int → List Int → Int → Int → Option (List Int)
 | 0, _, _, _, _, _, _, _, _, _, _, _ => none
 | k + 1, x1, x5, x6, x249000, x249001, x249002, x249003, x249004, x249005, x249006, x249007 => if x6 ≤ 7 then ((spec_IsReport.f k x249000 x249001 x249002 x249003 x249004 x249005 x249006 x249007).bind fun t252 => (spec_HintsFor.j1 k x1 x5 x6 t252 x249000 x249001 x249002 x249003 x249004 x249005 x249006 x249007)) else (spec_HintsFor.j1 k x1 x5 x6 false x249000 x249001 x249002 x249003 x249004 x249005 x249006 x249007)
def spec_HintsFor.j1 : Nat → Int → List Int → Int → Bool → Int → Int → List Int → Int → Int → List Int → Int → Int → Option (List Int)
 | 0, _, _, _, _, _, _, _, _, _, _, _, _ => none
 | k + 1, x1, x5, x6, x14, x249000, x249001, x249002, x249003, x249004, x249005, x249006, x249007 => if x14 = true then (if (x249002.length : Int) > 0 then ((spec_l8Has.f k x249002 x6).bind fun t253 => (spec_HintsFor.j2 k x1 x5 x6 (!t253) x249000 x249001 x249002 x249003 x249004 x249005 x249006 x249007)) else (spec_HintsFor.j2 k x1 x5 x6 false x249000 x249001 x249002 x249003 x249004 x249005 x249006 x249007)) else (some x5)
def spec_HintsFor.j2 : Nat → Int → List Int → Int → Bool → Int → Int → List Int → Int → Int → List Int → Int → Int → Option (List Int)
 | 0, _, _, _, _, _, _, _, _, _, _, _, _ => none
 | k + 1, x1, x5, x6, x27, x249000, x249001, x249002, x249003, x249004, x249005, x249006, x249007 => if x27 = true then (spec_HintsFor.l0 k x1 x5 (wrap64 (x6 + 1)) x249000 x249001 x249002 x249003 x249004 x249005 x249006 x249007) else (spec_HintsFor.l1 k x1 x5 x6 (wrap64 (Int.tdiv x249003 10)) x249000 x249001 x249002 x249003 x249004 x249005 x249006 x249007)
def spec_HintsFor.l1 : Nat → Int → List Int → Int → Int → Int → Int → List Int → Int → Int → List Int → Int → Int → Option (List Int)
 | 0, _, _, _, _, _, _, _, _, _, _, _, _ => none
 | k + 1, x1, x5, x6, x7, x249000, x249001, x249002, x249003, x249004, x249005, x249006, x249007 => if x7 ≤ (wrap64 (Int.tdiv x249004 10)) then ((spec_HintOf.f k 0 x249001 x6 (wrap64 (10 * x7)) 0 x1).bind fun t254 => ((spec_l9Put.f k x5 t254).bind fun t255 => (spec_HintsFor.l1 k x1 t255 x6 (wrap64 (x7 + 1)) x249000 x249001 x249002 x249003 x249004 x249005 x249006 x249007))) else (spec_HintsFor.l0 k x1 x5 (wrap64 (x6 + 1)) x249000 x249001 x249002 x249003 x249004 x249005 x249006 x249007)
end
def spec_HintsFor.f (k : Nat) (a0_0 : Int) (a0_1 : Int) (l0_2 : List Int) (a0_3 : Int) (a0_4 : Int) (l0_5 : List Int) (a0_6 : Int) (a0_7 : Int) (a1 : Int) : Option (List Int) := spec_HintsFor.l0 k a1 (([] : List Int)) 0 a0_0 a0_1 l0_2 a0_3 a0_4 l0_5 a0_6 a0_7
theorem spec_HintsFor.calls (k : Nat) (a0_0 : Int) (a0_1 : Int) (A0_2 : Option Addr) (c0_2 : Nat) (l0_2 : List Int) (a0_3 : Int) (a0_4 : Int) (A0_5 : Option Addr) (c0_5 : Nat) (l0_5 : List Int) (a0_6 : Int) (a0_7 : Int) (a1 : Int) (r : List Int) (w : World) (hr0_2 : Kd.C (Kd.int .i64) w A0_2 l0_2.length l0_2) (hc0_2 : l0_2.length ≤ c0_2) (hr0_5 : Kd.C (Kd.int .i64) w A0_5 l0_5.length l0_5) (hc0_5 : l0_5.length ≤ c0_5) (h : spec_HintsFor.f k a0_0 a0_1 l0_2 a0_3 a0_4 l0_5 a0_6 a0_7 a1 = some r) :
  Calls Try.prog 22 #[.agg #[.int .i64 a0_0, .int .i64 a0_1, .slice A0_2 l0_2.length c0_2, .int .i64 a0_3, .int .i64 a0_4, .slice A0_5 l0_5.length c0_5, .int .i64 a0_6, .int .i64 a0_7], .int .i64 a1] w fun e w' => ∃ v0_ : Value, e = .returned (v0_) ∧ Kd.R (Kd.int .i64) 3 w' w.heap.size (fun _ => True) v0_ r ∧ Below w.heap.size w w' := by
 have hu41 := Try.underlying41
 have hu111 := Try.underlying111
 have HR0_2 := zK hr0_2
 have HC0_2 := zK hc0_2
 clear hr0_2 hc0_2
 have HR0_5 := zK hr0_5
 have HC0_5 := zK hc0_5
 clear hr0_5 hc0_5
 have HB := zK (Below.refl w.heap.size w)
 have H : (spec_HintsFor.l0 k a1 (([] : List Int)) 0 a0_0 a0_1 l0_2 a0_3 a0_4 l0_5 a0_6 a0_7) = some r := h
 clear h
 obtain ⟨y249, hy249⟩ : ∃ y_ : List Int, y_ = (([] : List Int)) := ⟨_, rfl⟩
 replace H : (spec_HintsFor.l0 k a1 y249 0 a0_0 a0_1 l0_2 a0_3 a0_4 l0_5 a0_6 a0_7) = some r := have he_ := hy249; rH
 have Ny249 := zK hy249
 clear hy249
 have H' := zK H
 clear H
 go_enter Try.func22, Try.ntmps22
 go_wp2_with (first | ((with_reducible refine gd (N := 2) rfl ?_); refine bE (N := 2) (cs := #[.int .i64 a0_0, .int .i64 a0_1, .slice A0_2 l0_2.length c0_2, .int .i64 a0_3, .int .i64 a0_4, .slice A0_5 l0_5.length c0_5, .int .i64 a0_6, .int .i64 a0_7]) (t := 41) ?_; intro gb248 hg w3 hbox hb; have _ := zK (bT (qB HB.o) hb); have _ := zK (hbox); have _ := zK ((by rw [hg]; exact (bZ (qB HB.o)) : w.heap.size ≤ gb248)); have _ := zK ((by rw [hg]; exact (bZ (qB HB.o)) : w.heap.size ≤ gb248)); clear HB; rename_i HB BK248 GW248 GE248; clear hb hbox hg) | ((with_reducible refine gd (N := 8) rfl ?_); refine Kd.R_lit (Kd.int .i64) _ 3 ?hg (N := 8) ?hd (xs := ([] : List Int)) (inner := []) (ok := fun _ => True) (okp := fun _ => True) ?hr ?hp (fun _ hk => hk) trivial (Below.refl _ _) (Nat.le_refl _) (by simp) ?_; (case hd => rfl); (case hg => rfl); (case hr => first | (go_simp; done) | (go_simp; rfl)); (case hp => exact (Reps.none _ _)); intro v250 w4 ho5 hb hg_ hnew_; clear hg_ hnew_; (first | rw [← Ny249.o] at ho5 | (simp only [Int.reduceToNat] at ho5; rw [← Ny249.o] at ho5)); have _ := zK (Kd.R_lower ho5 (bZ M11)); have _ := zK (bB (qK BK248.o) hb); have _ := zK (bT M11 hb); clear BK248 HB; rename_i HO251 BK248 HB; clear hb ho5))
 go_loopg [5, 6] k (fun kq v5 v6 w' => ∃ (x5_1 : List Int) (x6_1 : Int), v6 = .int .i64 x6_1 ∧ Aside0 (spec_HintsFor.l0 kq a1 x5_1 x6_1 a0_0 a0_1 l0_2 a0_3 a0_4 l0_5 a0_6 a0_7 = some r) ∧ Aside0 (kq ≤ k) ∧ Aside0 (Kd.R (Kd.int .i64) 3 w' w.heap.size (fun _ => True) v5 x5_1) ∧ Aside0 (w'.heap[gb248]? = some (.cells #[.int .i64 a0_0, .int .i64 a0_1, (.slice A0_2 l0_2.length c0_2), .int .i64 a0_3, .int .i64 a0_4, (.slice A0_5 l0_5.length c0_5), .int .i64 a0_6, .int .i64 a0_7] 41 (0, 0))) ∧ Aside0 (Below w.heap.size w w'))
 case atStart => exact ⟨(y249), (0), M12, H', ⟨Nat.le_refl _⟩, ⟨by exact Kd.qR HO251.o⟩, ⟨by exact qK BK248.o⟩, ⟨o3⟩⟩
 case round =>
  clear H'
  try clear c2
  try clear p2
  obtain ⟨x5_1, x6_1, rfl, HA, HK1, HO_5, BK248, HB⟩ := hrel
  cases gk with
  | zero => exact absurd HA.o (by simp [spec_HintsFor.l0])
  | succ k1 =>
   have H := HA.o
   clear HA
   simp only [spec_HintsFor.l0] at H
   have HC6 := zK H
   clear H
   go_upto_region 3 with (fail)
   go_cut [14] (fun v14 wc => ∃ (kq : Nat) (x14_5 : Bool), v14 = .bool x14_5 ∧ Aside0 (spec_HintsFor.j1 kq a1 x5_1 x6_1 x14_5 a0_0 a0_1 l0_2 a0_3 a0_4 l0_5 a0_6 a0_7 = some r) ∧ Aside0 (kq ≤ k1) ∧ Aside0 (Kd.R (Kd.int .i64) 3 wc w.heap.size (fun _ => True) u5 x5_1) ∧ Aside0 (wc.heap[gb248]? = some (.cells #[.int .i64 a0_0, .int .i64 a0_1, (.slice A0_2 l0_2.length c0_2), .int .i64 a0_3, .int .i64 a0_4, (.slice A0_5 l0_5.length c0_5), .int .i64 a0_6, .int .i64 a0_7] 41 (0, 0))) ∧ Aside0 (Below w.heap.size w wc))
   case first =>
    have H := HC6.o
    clear HC6
    by_cases c7 : x6_1 ≤ 7
    rotate_left
    ·rw [if_neg c7] at H
     have c7b0 : decide (x6_1 ≤ 7) = false := decide_eq_false c7
     clear c7
     (first | rw [c7b0] | rw [c7b1] | (simp only [i64_w, i32_w]; rw [c7b0]) | skip)
     have H' := zK H
     clear H
     go_wp2
     go_meet
     case rel => exact ⟨_, (false), M12, H', ⟨o9⟩, ⟨o10⟩, ⟨by exact qK BK248.o⟩, ⟨o3⟩⟩
    rw [if_pos c7] at H
    have c7b0 : decide (x6_1 ≤ 7) = true := decide_eq_true c7
    clear c7
    (first | rw [c7b0] | rw [c7b1] | (simp only [i64_w, i32_w]; rw [c7b0]) | skip)
    replace H := Option.bind_eq_some_iff.mp H
    obtain ⟨t252, A80, H⟩ := H
    try dsimp only at H
    have A8 := zK A80
    clear A80
    have H' := zK H
    clear H
    obtain ⟨hcz9_0, hcz9_1, hcz9_2, hcz9_3, hcz9_4, hcz9_5, hcz9_6, hcz9_7, hfz9_0, hfz9_1, hfz9_2, hfz9_3, hfz9_4, hfz9_5, hfz9_6, hfz9_7⟩ := bx8 BK248.o
    go_wp2_with (first | (go_at_call 89; (with_reducible refine (spec_IsReport.calls k1 a0_0 a0_1 _ _ l0_2 a0_3 a0_4 _ _ l0_5 a0_6 a0_7 t252 _ ?side1 ?side2 ?side3 ?side4 A8.o).mono ?_); (case side1 => exact Kd.qC (Kd.C_below HR0_2.o HB.o)); (case side2 => exact HC0_2.o); (case side3 => exact Kd.qC (Kd.C_below HR0_5.o HB.o)); (case side4 => exact HC0_5.o); rintro e w10 ⟨rfl, hb⟩; have _ := zK (Kd.R_below (Kd.qR HO_5.o) hb); have _ := zK (bB (qK BK248.o) hb); have _ := zK (bT M11 hb); clear HO_5 BK248 HB; rename_i HO_5 BK248 HB; clear hb))
    go_meet
    case rel => exact ⟨_, (t252), M12, H', ⟨o9⟩, ⟨o10⟩, ⟨by exact qK BK248.o⟩, ⟨o3⟩⟩
   case rest =>
    clear HC6
    try clear c2
    try clear p2
    try clear c7
    try clear c7b0
    try clear hcz9_0 hcz9_1 hcz9_2 hcz9_3 hcz9_4 hcz9_5 hcz9_6 hcz9_7 hfz9_0 hfz9_1 hfz9_2 hfz9_3 hfz9_4 hfz9_5 hfz9_6 hfz9_7
    try clear p2
    obtain ⟨kq, x14_5, rfl, HA, HJ5, HO_5, BK248, HB⟩ := hcut
    cases kq with
    | zero => exact absurd HA.o (by simp [spec_HintsFor.j1])
    | succ kj5 =>
     have H := HA.o
     clear HA
     simp only [spec_HintsFor.j1] at H
     by_cases c11 : x14_5 = true
     rotate_left
     ·replace c11 := Bool.eq_false_iff.mpr c11
      subst c11
      have H1 : (some x5_1) = some r := by rw [if_neg (show ¬ (false = true) by decide)] at H; exact H
      clear H
      have H := H1
      clear H1
      obtain rfl := Option.some.inj H
      go_wp2
      go_ret
      exact ⟨_, o0, o10, o3⟩
     subst c11
     have H1 : (if (l0_2.length : Int) > 0 then ((spec_l8Has.f kj5 l0_2 x6_1).bind fun t253 => (spec_HintsFor.j2 kj5 a1 x5_1 x6_1 (!t253) a0_0 a0_1 l0_2 a0_3 a0_4 l0_5 a0_6 a0_7)) else (spec_HintsFor.j2 kj5 a1 x5_1 x6_1 false a0_0 a0_1 l0_2 a0_3 a0_4 l0_5 a0_6 a0_7)) = some r := by rw [if_pos rfl] at H; exact H
     clear H
     have H := H1
     clear H1
     have HC12 := zK H
     clear H
     go_upto_region 5 with (fail)
     go_cut [27] (fun v27 wc => ∃ (kq : Nat) (x27_11 : Bool), v27 = .bool x27_11 ∧ Aside0 (spec_HintsFor.j2 kq a1 x5_1 x6_1 x27_11 a0_0 a0_1 l0_2 a0_3 a0_4 l0_5 a0_6 a0_7 = some r) ∧ Aside0 (kq ≤ kj5) ∧ Aside0 (Kd.R (Kd.int .i64) 3 wc w.heap.size (fun _ => True) u5 x5_1) ∧ Aside0 (wc.heap[gb248]? = some (.cells #[.int .i64 a0_0, .int .i64 a0_1, (.slice A0_2 l0_2.length c0_2), .int .i64 a0_3, .int .i64 a0_4, (.slice A0_5 l0_5.length c0_5), .int .i64 a0_6, .int .i64 a0_7] 41 (0, 0))) ∧ Aside0 (Below w.heap.size w wc))
     case first =>
      have H := HC12.o
      clear HC12
      by_cases c13 : (l0_2.length : Int) > 0
      rotate_left
      ·rw [if_neg c13] at H
       have c13b0 : decide (0 < (l0_2.length : Int)) = false := decide_eq_false c13
       have c13b1 : decide (0 < l0_2.length) = false := decide_eq_false (by omega)
       clear c13
       (first | rw [c13b0] | rw [c13b1] | (simp only [i64_w, i32_w]; rw [c13b0]) | skip)
       have H' := zK H
       clear H
       obtain ⟨hcz16_0, hcz16_1, hcz16_2, hcz16_3, hcz16_4, hcz16_5, hcz16_6, hcz16_7, hfz16_0, hfz16_1, hfz16_2, hfz16_3, hfz16_4, hfz16_5, hfz16_6, hfz16_7⟩ := bx8 BK248.o
       go_wp2
       go_meet
       case rel => exact ⟨_, (false), M12, H', ⟨by have := HK1.o; have := HJ5.o; first | omega | exact Nat.le_refl _⟩, ⟨o10⟩, ⟨by exact qK BK248.o⟩, ⟨o3⟩⟩
      rw [if_pos c13] at H
      have c13b0 : decide (0 < (l0_2.length : Int)) = true := decide_eq_true c13
      have c13b1 : decide (0 < l0_2.length) = true := decide_eq_true (by omega)
      clear c13
      (first | rw [c13b0] | rw [c13b1] | (simp only [i64_w, i32_w]; rw [c13b0]) | skip)
      replace H := Option.bind_eq_some_iff.mp H
      obtain ⟨t253, A140, H⟩ := H
      try dsimp only at H
      have A14 := zK A140
      clear A140
      have H' := zK H
      clear H
      obtain ⟨hcz15_0, hcz15_1, hcz15_2, hcz15_3, hcz15_4, hcz15_5, hcz15_6, hcz15_7, hfz15_0, hfz15_1, hfz15_2, hfz15_3, hfz15_4, hfz15_5, hfz15_6, hfz15_7⟩ := bx8 BK248.o
      go_wp2_with (first | (go_at_call 90; (with_reducible refine (spec_l8Has.calls kj5 _ _ l0_2 x6_1 t253 _ ?side1 ?side2 A14.o).mono ?_); (case side1 => exact Kd.qC (Kd.C_below HR0_2.o HB.o)); (case side2 => exact HC0_2.o); rintro e w' ⟨rfl, ⟨nd, rfl⟩⟩))
      go_meet
      case rel => exact ⟨_, (!t253), M12, H', ⟨by have := HK1.o; have := HJ5.o; first | omega | exact Nat.le_refl _⟩, ⟨o10⟩, ⟨by exact qK BK248.o⟩, ⟨o3⟩⟩
     case rest =>
      clear HC12
      try clear c1
      try clear c2
      try clear p2
      try clear c7
      try clear c7b0
      try clear c11
      try clear c13
      try clear c13b0
      try clear c13b1
      try clear hcz15_0 hcz15_1 hcz15_2 hcz15_3 hcz15_4 hcz15_5 hcz15_6 hcz15_7 hcz16_0 hcz16_1 hcz16_2 hcz16_3 hcz16_4 hcz16_5 hcz16_6 hcz16_7 hcz9_0 hcz9_1 hcz9_2 hcz9_3 hcz9_4 hcz9_5 hcz9_6 hcz9_7 hfz15_0 hfz15_1 hfz15_2 hfz15_3 hfz15_4 hfz15_5 hfz15_6 hfz15_7 hfz16_0 hfz16_1 hfz16_2 hfz16_3 hfz16_4 hfz16_5 hfz16_6 hfz16_7 hfz9_0 hfz9_1 hfz9_2 hfz9_3 hfz9_4 hfz9_5 hfz9_6 hfz9_7
      try clear p2
      obtain ⟨kq, x27_11, rfl, HA, HJ11, HO_5, BK248, HB⟩ := hcut
      cases kq with
      | zero => exact absurd HA.o (by simp [spec_HintsFor.j2])
      | succ kj11 =>
       have H := HA.o
       clear HA
       simp only [spec_HintsFor.j2] at H
       by_cases c17 : x27_11 = true
       ·subst c17
        have H1 : (spec_HintsFor.l0 kj11 a1 x5_1 (wrap64 (x6_1 + 1)) a0_0 a0_1 l0_2 a0_3 a0_4 l0_5 a0_6 a0_7) = some r := by rw [if_pos rfl] at H; exact H
        clear H
        have H := H1
        clear H1
        have H' := zK H
        clear H
        go_wp2
        go_roundg kj11
        case measure => have := HK1.o; have := HJ5.o; have := HJ11.o; omega
        case rel => exact ⟨(x5_1), (wrap64 (x6_1 + 1)), M12, H', ⟨by have := HK1.o; have := HJ5.o; have := HJ11.o; omega⟩, ⟨o10⟩, ⟨by exact qK BK248.o⟩, ⟨o3⟩⟩
       replace c17 := Bool.eq_false_iff.mpr c17
       subst c17
       have H1 : (spec_HintsFor.l1 kj11 a1 x5_1 x6_1 (wrap64 (Int.tdiv a0_3 10)) a0_0 a0_1 l0_2 a0_3 a0_4 l0_5 a0_6 a0_7) = some r := by rw [if_neg (show ¬ (false = true) by decide)] at H; exact H
       clear H
       have H := H1
       clear H1
       have H' := zK H
       clear H
       obtain ⟨hcz18_0, hcz18_1, hcz18_2, hcz18_3, hcz18_4, hcz18_5, hcz18_6, hcz18_7, hfz18_0, hfz18_1, hfz18_2, hfz18_3, hfz18_4, hfz18_5, hfz18_6, hfz18_7⟩ := bx8 BK248.o
       go_wp2
       go_loopg [5, 7] kj11 (fun kq v5 v7 w' => ∃ (x5_4 : List Int) (x7_4 : Int), v7 = .int .i64 x7_4 ∧ Aside0 (spec_HintsFor.l1 kq a1 x5_4 x6_1 x7_4 a0_0 a0_1 l0_2 a0_3 a0_4 l0_5 a0_6 a0_7 = some r) ∧ Aside0 (kq ≤ kj11) ∧ Aside0 (Kd.R (Kd.int .i64) 3 w' w.heap.size (fun _ => True) v5 x5_4) ∧ Aside0 (w'.heap[gb248]? = some (.cells #[.int .i64 a0_0, .int .i64 a0_1, (.slice A0_2 l0_2.length c0_2), .int .i64 a0_3, .int .i64 a0_4, (.slice A0_5 l0_5.length c0_5), .int .i64 a0_6, .int .i64 a0_7] 41 (0, 0))) ∧ Aside0 (Below w.heap.size w w'))
       case atStart => exact ⟨(x5_1), (wrap64 (Int.tdiv a0_3 10)), M12, H', ⟨Nat.le_refl _⟩, ⟨o10⟩, ⟨by exact qK BK248.o⟩, ⟨o3⟩⟩
       case round =>
        clear H'
        try clear c1
        try clear c2
        try clear p2
        try clear p6
        try clear c7
        try clear c7b0
        try clear c11
        try clear c13
        try clear c13b0
        try clear c13b1
        try clear c17
        try clear hcz15_0 hcz15_1 hcz15_2 hcz15_3 hcz15_4 hcz15_5 hcz15_6 hcz15_7 hcz16_0 hcz16_1 hcz16_2 hcz16_3 hcz16_4 hcz16_5 hcz16_6 hcz16_7 hcz18_0 hcz18_1 hcz18_2 hcz18_3 hcz18_4 hcz18_5 hcz18_6 hcz18_7 hcz9_0 hcz9_1 hcz9_2 hcz9_3 hcz9_4 hcz9_5 hcz9_6 hcz9_7 hfz15_0 hfz15_1 hfz15_2 hfz15_3 hfz15_4 hfz15_5 hfz15_6 hfz15_7 hfz16_0 hfz16_1 hfz16_2 hfz16_3 hfz16_4 hfz16_5 hfz16_6 hfz16_7 hfz18_0 hfz18_1 hfz18_2 hfz18_3 hfz18_4 hfz18_5 hfz18_6 hfz18_7 hfz9_0 hfz9_1 hfz9_2 hfz9_3 hfz9_4 hfz9_5 hfz9_6 hfz9_7
        try clear p2
        obtain ⟨x5_4, x7_4, rfl, HA, HK4, HO_5, BK248, HB⟩ := hrel
        cases gk with
        | zero => exact absurd HA.o (by simp [spec_HintsFor.l1])
        | succ k4 =>
         have H := HA.o
         clear HA
         simp only [spec_HintsFor.l1] at H
         by_cases c19 : x7_4 ≤ (wrap64 (Int.tdiv a0_4 10))
         rotate_left
         ·rw [if_neg c19] at H
          have c19b0 : decide (x7_4 ≤ (wrap64 (Int.tdiv a0_4 10))) = false := decide_eq_false c19
          clear c19
          have H' := zK H
          clear H
          obtain ⟨hcz26_0, hcz26_1, hcz26_2, hcz26_3, hcz26_4, hcz26_5, hcz26_6, hcz26_7, hfz26_0, hfz26_1, hfz26_2, hfz26_3, hfz26_4, hfz26_5, hfz26_6, hfz26_7⟩ := bx8 BK248.o
          go_wp2
          go_roundg k4
          case measure => have := HK1.o; have := HJ5.o; have := HJ11.o; have := HK4.o; omega
          case rel => exact ⟨(x5_4), (wrap64 (x6_1 + 1)), M12, H', ⟨by have := HK1.o; have := HJ5.o; have := HJ11.o; have := HK4.o; omega⟩, ⟨o10⟩, ⟨by exact qK BK248.o⟩, ⟨o3⟩⟩
         rw [if_pos c19] at H
         have c19b0 : decide (x7_4 ≤ (wrap64 (Int.tdiv a0_4 10))) = true := decide_eq_true c19
         clear c19
         replace H := Option.bind_eq_some_iff.mp H
         obtain ⟨t254, A200, H⟩ := H
         try dsimp only at H
         have A20 := zK A200
         clear A200
         replace H := Option.bind_eq_some_iff.mp H
         obtain ⟨t255, A210, H⟩ := H
         try dsimp only at H
         have A21 := zK A210
         clear A210
         have H' := zK H
         clear H
         obtain ⟨hcz22_0, hcz22_1, hcz22_2, hcz22_3, hcz22_4, hcz22_5, hcz22_6, hcz22_7, hfz22_0, hfz22_1, hfz22_2, hfz22_3, hfz22_4, hfz22_5, hfz22_6, hfz22_7⟩ := bx8 BK248.o
         go_wp2_with (first | ((with_reducible refine gc (f := 84) rfl ?_); refine goesL_ (some 46) rfl rfl Try.func84 (by kernel_rfl) rfl #[.agg #[.int .i64 0, .int .i64 a0_1, .int .i64 x6_1, .int .i64 (wrap64 (10 * x7_4)), .int .i64 0], .int .i64 a1] rfl M0 ?_; (with_reducible refine (spec_HintOf.calls k4 0 a0_1 x6_1 (wrap64 (10 * x7_4)) 0 a1 t254 _ A20.o).mono ?_); rintro e w23 ⟨rfl, hb⟩; refine ⟨_, rfl, ?_⟩; have _ := zK (Kd.R_below (Kd.qR HO_5.o) hb); have _ := zK (bB (qK BK248.o) hb); have _ := zK (bT M11 hb); clear HO_5 BK248 HB; rename_i HO_5 BK248 HB; clear hb; obtain ⟨Ao24, co24, eo24⟩ := Kd.R_slice HO_5.o; subst eo24) | ((with_reducible refine gc (f := 83) rfl ?_); refine gL (some 47) Try.func83 #[.slice Ao24 x5_4.length co24, .int .i64 t254] ?_; (with_reducible refine (spec_l9Put.calls k4 _ _ x5_4 t254 t255 _ ?side1 ?side2 A21.o).mono ?_); (case side1 => exact Kd.qC (Kd.R_reads' HO_5.o).2.2); (case side2 => exact (Kd.R_reads' HO_5.o).2.1); rintro e w25 ⟨v256, rfl, ho0, hb⟩; refine ⟨_, rfl, ?_⟩; have _ := zK (Kd.R_elder' (Kd.qR HO_5.o) (Kd.R_base ho0) hb); have _ := zK (Kd.R_lower (Kd.R_new' ho0 (Kd.R_lt (Kd.qR HO_5.o))) (bZ M11)); have _ := zK (bB (qK BK248.o) hb); have _ := zK (bT M11 hb); clear HO_5 BK248 HB; rename_i HO_5 HO257 BK248 HB; clear hb ho0))
         go_roundg k4
         case measure => have := HK1.o; have := HJ5.o; have := HJ11.o; have := HK4.o; omega
         case rel => exact ⟨(t255), (wrap64 (x7_4 + 1)), M12, H', ⟨by have := HK1.o; have := HJ5.o; have := HJ11.o; have := HK4.o; omega⟩, ⟨by (with_reducible repeat (first | apply Kd.RA | apply Kd.RN | apply Kd.RD)); exact Kd.R_mono HO257.o (fun _ hk => trivial)⟩, ⟨by exact qK BK248.o⟩, ⟨o3⟩⟩
/-! ### spec_SharedHints: function 96 -/
def spec_SharedHints.l0 : Nat → List Int → List Int → List Int → Int → Option (Int)
 | 0, _, _, _, _ => none
 | k + 1, x0, x1, x5, x6 => if x6 < (x0.length : Int) then (if 0 ≤ x6 then ((spec_l8Has.f k x1 (rd x0 x6)).bind fun t262 => (if t262 = true then ((spec_l9Put.f k x5 (rd x0 x6)).bind fun t264 => (spec_SharedHints.l0 k x0 x1 t264 (wrap64 (x6 + 1)))) else (spec_SharedHints.l0 k x0 x1 x5 (wrap64 (x6 + 1))))) else (none)) else (some (x5.length : Int))
def spec_SharedHints.f (k : Nat) (l0 : List Int) (l1 : List Int) : Option (Int) := spec_SharedHints.l0 k l0 l1 (([] : List Int)) 0
theorem spec_SharedHints.calls (k : Nat) (A0 : Option Addr) (c0 : Nat) (l0 : List Int) (A1 : Option Addr) (c1 : Nat) (l1 : List Int) (r : Int) (w : World) (hr0 : Kd.C (Kd.int .i64) w A0 l0.length l0) (hc0 : l0.length ≤ c0) (hr1 : Kd.C (Kd.int .i64) w A1 l1.length l1) (hc1 : l1.length ≤ c1) (h : spec_SharedHints.f k l0 l1 = some r) :
  Calls Try.prog 96 #[.slice A0 l0.length c0, .slice A1 l1.length c1] w fun e w' => e = .returned (.int .i64 r) ∧ Below w.heap.size w w' := by
 have HR0 := zK hr0
 have HC0 := zK hc0
 clear hr0 hc0
 have HR1 := zK hr1
 have HC1 := zK hc1
 clear hr1 hc1
 have HB := zK (Below.refl w.heap.size w)
 have H : (spec_SharedHints.l0 k l0 l1 (([] : List Int)) 0) = some r := h
 clear h
 obtain ⟨y258, hy258⟩ : ∃ y_ : List Int, y_ = (([] : List Int)) := ⟨_, rfl⟩
 replace H : (spec_SharedHints.l0 k l0 l1 y258 0) = some r := have he_ := hy258; rH
 have Ny258 := zK hy258
 clear hy258
 have H' := zK H
 clear H
 go_enter Try.func96, Try.ntmps96
 go_wp2_with (first | ((with_reducible refine gd (N := 7) rfl ?_); refine Kd.R_lit (Kd.int .i64) _ 3 ?hg (N := 7) ?hd (xs := ([] : List Int)) (inner := []) (ok := fun _ => True) (okp := fun _ => True) ?hr ?hp (fun _ hk => hk) trivial (Below.refl _ _) (Nat.le_refl _) (by simp) ?_; (case hd => rfl); (case hg => rfl); (case hr => first | (go_simp; done) | (go_simp; rfl)); (case hp => exact (Reps.none _ _)); intro v259 w3 ho4 hb hg_ hnew_; clear hg_ hnew_; (first | rw [← Ny258.o] at ho4 | (simp only [Int.reduceToNat] at ho4; rw [← Ny258.o] at ho4)); have _ := zK (Kd.R_lower ho4 (bZ (qB HB.o))); have _ := zK (bT (qB HB.o) hb); clear HB; rename_i HO260 HB; clear hb ho4))
 go_loopg [5, 6] k (fun kq v5 v6 w' => ∃ (x5_1 : List Int) (x6_1 : Int), v6 = .int .i64 x6_1 ∧ Aside0 (spec_SharedHints.l0 kq l0 l1 x5_1 x6_1 = some r) ∧ Aside0 (kq ≤ k) ∧ Aside0 (Kd.R (Kd.int .i64) 3 w' w.heap.size (fun _ => True) v5 x5_1) ∧ Aside0 (Below w.heap.size w w'))
 case atStart => exact ⟨(y258), (0), M12, H', ⟨Nat.le_refl _⟩, ⟨by exact Kd.qR HO260.o⟩, ⟨o8⟩⟩
 case round =>
  clear H'
  try clear c1
  try clear p2
  obtain ⟨x5_1, x6_1, rfl, HA, HK1, HO_5, HB⟩ := hrel
  cases gk with
  | zero => exact absurd HA.o (by simp [spec_SharedHints.l0])
  | succ k1 =>
   have H := HA.o
   clear HA
   simp only [spec_SharedHints.l0] at H
   by_cases c5 : x6_1 < (l0.length : Int)
   rotate_left
   ·rw [if_neg c5] at H
    have c5b0 : decide (x6_1 < (l0.length : Int)) = false := decide_eq_false c5
    clear c5
    obtain rfl := Option.some.inj H
    obtain ⟨Ao12, co12, eo12⟩ := Kd.R_slice HO_5.o
    subst eo12
    go_wp2
    go_ret
    exact ⟨o0, o8⟩
   rw [if_pos c5] at H
   have c5b0 : decide (x6_1 < (l0.length : Int)) = true := decide_eq_true c5
   clear c5
   by_cases c6 : 0 ≤ x6_1
   rotate_left
   ·rw [if_neg c6] at H
    exact absurd H (by simp)
   rw [if_pos c6] at H
   have c6b0 : decide (0 ≤ x6_1) = true := decide_eq_true c6
   clear c6
   replace H := Option.bind_eq_some_iff.mp H
   obtain ⟨t262, A70, H⟩ := H
   try dsimp only at H
   have A7 := zK A70
   clear A70
   by_cases c8 : t262 = true
   rotate_left
   ·replace c8 := Bool.eq_false_iff.mpr c8
    subst c8
    have H1 : (spec_SharedHints.l0 k1 l0 l1 x5_1 (wrap64 (x6_1 + 1))) = some r := by rw [if_neg (show ¬ (false = true) by decide)] at H; exact H
    clear H
    have H := H1
    clear H1
    have H' := zK H
    clear H
    have p261 : 0 ≤ (x6_1 : Int) := oD M4
    have q261 : x6_1 < (l0.length : Int) := oD M4
    obtain ⟨ad261, e261, hx261_0⟩ := Kd.at_int HR0.o x6_1 p261 q261
    cases e261
    replace hx261_0 := cB HB.o hx261_0
    replace p261 := eq_true p261
    replace q261 := eq_true q261
    go_wp2_with (first | ((with_reducible refine gc (f := 90) rfl ?_); refine gL (some 19) Try.func90 #[.slice A1 l1.length c1, .int .i64 (rd l0 x6_1)] ?_; (with_reducible refine (spec_l8Has.calls k1 _ _ l1 (rd l0 x6_1) false _ ?side1 ?side2 A7.o).mono ?_); (case side1 => exact Kd.qC (Kd.C_below HR1.o HB.o)); (case side2 => exact HC1.o); rintro e w' ⟨rfl, ⟨nd, rfl⟩⟩; refine ⟨_, rfl, ?_⟩))
    go_roundg k1
    case measure => have := HK1.o; omega
    case rel => exact ⟨(x5_1), (wrap64 (x6_1 + 1)), M12, H', ⟨o6⟩, ⟨o10⟩, ⟨o8⟩⟩
   subst c8
   have H1 : ((spec_l9Put.f k1 x5_1 (rd l0 x6_1)).bind fun t264 => (spec_SharedHints.l0 k1 l0 l1 t264 (wrap64 (x6_1 + 1)))) = some r := by rw [if_pos rfl] at H; exact H
   clear H
   have H := H1
   clear H1
   replace H := Option.bind_eq_some_iff.mp H
   obtain ⟨t264, A90, H⟩ := H
   try dsimp only at H
   have A9 := zK A90
   clear A90
   have H' := zK H
   clear H
   have p261 : 0 ≤ (x6_1 : Int) := oD M4
   have q261 : x6_1 < (l0.length : Int) := oD M4
   obtain ⟨ad261, e261, hx261_0⟩ := Kd.at_int HR0.o x6_1 p261 q261
   cases e261
   replace hx261_0 := cB HB.o hx261_0
   replace p261 := eq_true p261
   replace q261 := eq_true q261
   go_wp2_with (first | ((with_reducible refine gc (f := 90) rfl ?_); refine gL (some 19) Try.func90 #[.slice A1 l1.length c1, .int .i64 (rd l0 x6_1)] ?_; (with_reducible refine (spec_l8Has.calls k1 _ _ l1 (rd l0 x6_1) true _ ?side1 ?side2 A7.o).mono ?_); (case side1 => exact Kd.qC (Kd.C_below HR1.o HB.o)); (case side2 => exact HC1.o); rintro e w' ⟨rfl, ⟨nd, rfl⟩⟩; refine ⟨_, rfl, ?_⟩; have p263 : 0 ≤ (x6_1 : Int) := oD M4; have q263 : x6_1 < (l0.length : Int) := oD M4; obtain ⟨ad263, e263, hx263_0⟩ := Kd.at_int HR0.o x6_1 p263 q263; obtain rfl : ad261 = ad263 := (by injection e263); replace hx263_0 := cB HB.o hx263_0; replace p263 := eq_true p263; replace q263 := eq_true q263; obtain ⟨Ao10, co10, eo10⟩ := Kd.R_slice HO_5.o; subst eo10) | ((with_reducible refine gc (f := 83) rfl ?_); refine gL (some 25) Try.func83 #[.slice Ao10 x5_1.length co10, .int .i64 (rd l0 x6_1)] ?_; (with_reducible refine (spec_l9Put.calls k1 _ _ x5_1 (rd l0 x6_1) t264 _ ?side1 ?side2 A9.o).mono ?_); (case side1 => exact Kd.qC (Kd.R_reads' HO_5.o).2.2); (case side2 => exact (Kd.R_reads' HO_5.o).2.1); rintro e w11 ⟨v265, rfl, ho0, hb⟩; refine ⟨_, rfl, ?_⟩; have _ := zK (Kd.R_elder' (Kd.qR HO_5.o) (Kd.R_base ho0) hb); have _ := zK (Kd.R_lower (Kd.R_new' ho0 (Kd.R_lt (Kd.qR HO_5.o))) (bZ (qB HB.o))); have _ := zK (bT (qB HB.o) hb); clear HO_5 HB; rename_i HO_5 HO266 HB; clear hb ho0))
   go_roundg k1
   case measure => have := HK1.o; omega
   case rel => exact ⟨(t264), (wrap64 (x6_1 + 1)), M12, H', ⟨o6⟩, ⟨by (with_reducible repeat (first | apply Kd.RA | apply Kd.RN | apply Kd.RD)); exact Kd.R_mono HO266.o (fun _ hk => trivial)⟩, ⟨o8⟩⟩
/-! ### spec_MayHave: function 27 -/
def spec_MayHave.f (k : Nat) (a0_0 : Int) (a0_1 : Int) (l0_2 : List Int) (a0_3 : Int) (a0_4 : Int) (l0_5 : List Int) (a0_6 : Int) (a0_7 : Int) (l1 : List Int) (a2 : Int) : Option (Bool) := (spec_HintsFor.f k a0_0 a0_1 l0_2 a0_3 a0_4 l0_5 a0_6 a0_7 a2).bind fun t268 => ((spec_SharedHints.f k t268 l1).bind fun t271 => (some (decide (t271 > 0))))
theorem spec_MayHave.calls (k : Nat) (a0_0 : Int) (a0_1 : Int) (A0_2 : Option Addr) (c0_2 : Nat) (l0_2 : List Int) (a0_3 : Int) (a0_4 : Int) (A0_5 : Option Addr) (c0_5 : Nat) (l0_5 : List Int) (a0_6 : Int) (a0_7 : Int) (A1 : Option Addr) (c1 : Nat) (l1 : List Int) (a2 : Int) (r : Bool) (w : World) (hr0_2 : Kd.C (Kd.int .i64) w A0_2 l0_2.length l0_2) (hc0_2 : l0_2.length ≤ c0_2) (hr0_5 : Kd.C (Kd.int .i64) w A0_5 l0_5.length l0_5) (hc0_5 : l0_5.length ≤ c0_5) (hr1 : Kd.C (Kd.int .i64) w A1 l1.length l1) (hc1 : l1.length ≤ c1) (h : spec_MayHave.f k a0_0 a0_1 l0_2 a0_3 a0_4 l0_5 a0_6 a0_7 l1 a2 = some r) :
  Calls Try.prog 27 #[.agg #[.int .i64 a0_0, .int .i64 a0_1, .slice A0_2 l0_2.length c0_2, .int .i64 a0_3, .int .i64 a0_4, .slice A0_5 l0_5.length c0_5, .int .i64 a0_6, .int .i64 a0_7], .slice A1 l1.length c1, .int .i64 a2] w fun e w' => e = .returned (.bool r) ∧ Below w.heap.size w w' := by
 have hu41 := Try.underlying41
 have HR0_2 := zK hr0_2
 have HC0_2 := zK hc0_2
 clear hr0_2 hc0_2
 have HR0_5 := zK hr0_5
 have HC0_5 := zK hc0_5
 clear hr0_5 hc0_5
 have HR1 := zK hr1
 have HC1 := zK hc1
 clear hr1 hc1
 have HB := zK (Below.refl w.heap.size w)
 have H : ((spec_HintsFor.f k a0_0 a0_1 l0_2 a0_3 a0_4 l0_5 a0_6 a0_7 a2).bind fun t268 => ((spec_SharedHints.f k t268 l1).bind fun t271 => (some (decide (t271 > 0))))) = some r := h
 clear h
 replace H := Option.bind_eq_some_iff.mp H
 obtain ⟨t268, A40, H⟩ := H
 try dsimp only at H
 have A4 := zK A40
 clear A40
 replace H := Option.bind_eq_some_iff.mp H
 obtain ⟨t271, A50, H⟩ := H
 replace H : (some (decide (t271 > 0))) = some r := H
 have A5 := zK A50
 clear A50
 obtain rfl := Option.some.inj H
 go_enter Try.func27, Try.ntmps27
 go_wp2_with (first | ((with_reducible refine gd (N := 3) rfl ?_); refine bE (N := 3) (cs := #[.int .i64 a0_0, .int .i64 a0_1, .slice A0_2 l0_2.length c0_2, .int .i64 a0_3, .int .i64 a0_4, .slice A0_5 l0_5.length c0_5, .int .i64 a0_6, .int .i64 a0_7]) (t := 41) ?_; intro gb267 hg w6 hbox hb; have _ := zK (bT (qB HB.o) hb); have _ := zK (hbox); have _ := zK ((by rw [hg]; exact (bZ (qB HB.o)) : w.heap.size ≤ gb267)); have _ := zK ((by rw [hg]; exact (bZ (qB HB.o)) : w.heap.size ≤ gb267)); clear HB; rename_i HB BK267 GW267 GE267; clear hb hbox hg; obtain ⟨hcz7_0, hcz7_1, hcz7_2, hcz7_3, hcz7_4, hcz7_5, hcz7_6, hcz7_7, hfz7_0, hfz7_1, hfz7_2, hfz7_3, hfz7_4, hfz7_5, hfz7_6, hfz7_7⟩ := bx8 BK267.o) | ((with_reducible refine gc (f := 22) rfl ?_); refine goesL_ (some 9) rfl rfl Try.func22 (by kernel_rfl) rfl #[.agg #[.int .i64 a0_0, .int .i64 a0_1, .slice A0_2 l0_2.length c0_2, .int .i64 a0_3, .int .i64 a0_4, .slice A0_5 l0_5.length c0_5, .int .i64 a0_6, .int .i64 a0_7], .int .i64 a2] rfl M0 ?_; (with_reducible refine (spec_HintsFor.calls k a0_0 a0_1 _ _ l0_2 a0_3 a0_4 _ _ l0_5 a0_6 a0_7 a2 t268 _ ?side1 ?side2 ?side3 ?side4 A4.o).mono ?_); (case side1 => exact Kd.qC (Kd.C_below HR0_2.o HB.o)); (case side2 => exact HC0_2.o); (case side3 => exact Kd.qC (Kd.C_below HR0_5.o HB.o)); (case side4 => exact HC0_5.o); rintro e w8 ⟨v269, rfl, ho0, hb⟩; refine ⟨_, rfl, ?_⟩; have _ := zK (Kd.R_lower ho0 (bZ (qX HB.o))); have _ := zK (bB (qK BK267.o) hb); have _ := zK (bT (qX HB.o) hb); clear BK267 HB; rename_i HO270 BK267 HB; clear hb ho0; obtain ⟨Ao9, co9, eo9⟩ := Kd.R_slice HO270.o; subst eo9) | ((with_reducible refine gc (f := 96) rfl ?_); refine gL (some 11) Try.func96 #[.slice Ao9 t268.length co9, .slice A1 l1.length c1] ?_; (with_reducible refine (spec_SharedHints.calls k _ _ t268 _ _ l1 t271 _ ?side1 ?side2 ?side3 ?side4 A5.o).mono ?_); (case side1 => exact Kd.qC (Kd.R_reads' HO270.o).2.2); (case side2 => exact (Kd.R_reads' HO270.o).2.1); (case side3 => exact Kd.qC (Kd.C_below HR1.o HB.o)); (case side4 => exact HC1.o); rintro e w10 ⟨rfl, hb⟩; refine ⟨_, rfl, ?_⟩; have _ := zK (Kd.R_below (Kd.qR HO270.o) hb); have _ := zK (bB (qK BK267.o) hb); have _ := zK (bT (qX HB.o) hb); clear HO270 BK267 HB; rename_i HO270 BK267 HB; clear hb))
 go_ret
 exact ⟨o0, o3⟩

end Go.Proofs.Ytejhjenlodclpaa.PFnHints
