/- Walks of functions that FnLetters reaches, shortened. -/
import Derived.Test.YtpkdbkheggfkkaaPFnLettersx0
import Derived.Test.YtpkdbkheggfkkaaPFnLettersx6
import Derived.Test.YtpkdbkheggfkkaaPFnLettersx8
import Derived.Test.YtpkdbkheggfkkaaPFnLettersx10
namespace Go.Proofs.Ytpkdbkheggfkkaa.PFnLetters
open Go.RowKit Go.Proofs.YtpkdbkheggfkkaaW.PrintWords Go.Proofs.YtpkdbkheggfkkaaW.PrintLast Go.Proofs.YtpkdbkheggfkkaaW.PrintMore
attribute [local go_sem] max2_int min2_int max_two min_two max_three min_three max_four min_four
set_option linter.unusedVariables false
set_option linter.unusedSimpArgs false

/-! ### slices_Index_int_int: function 156 -/
def slices_Index_int_int.l0 : Nat → List Int → Int → Int → Int → Option (Int)
 | 0, _, _, _, _ => none
 | k + 1, x0, x1, x7, x8 => if x8 < x7 then (if 0 ≤ x8 then (if x8 < (x0.length : Int) then (if x1 = (rd x0 x8) then (some x8) else (slices_Index_int_int.l0 k x0 x1 x7 (wrap64 (x8 + 1)))) else (none)) else (none)) else (some (-1))
def slices_Index_int_int.f (k : Nat) (l0 : List Int) (a1 : Int) : Option (Int) := slices_Index_int_int.l0 k l0 a1 (l0.length : Int) 0
set_option maxHeartbeats 8000000 in
set_option maxRecDepth 100000 in
theorem slices_Index_int_int.calls (k : Nat) (A0 : Option Addr) (c0 : Nat) (l0 : List Int) (a1 : Int) (r : Int) (w : World) (hr0 : Kd.C (Kd.int .i64) w A0 l0.length l0) (hc0 : l0.length ≤ c0) (h : slices_Index_int_int.f k l0 a1 = some r) :
  Calls Try.prog 156 #[.slice A0 l0.length c0, .int .i64 a1] w fun e w' => e = .returned (.int .i64 r) ∧ Drawn0 w w' := by
 have HR0 := zK hr0
 have HC0 := zK hc0
 clear hr0 hc0
 have H : (slices_Index_int_int.l0 k l0 a1 (l0.length : Int) 0) = some r := h
 clear h
 have H' := zK H
 clear H
 go_enter Try.func156, Try.ntmps156
 go_wp2
 go_loopg [8] k (fun kq v8 w' => ∃ (x8_1 : Int), v8 = .int .i64 x8_1 ∧ Aside0 (slices_Index_int_int.l0 kq l0 a1 (l0.length : Int) x8_1 = some r) ∧ Aside0 (kq ≤ k) ∧ Drawn0 w w')
 case atStart => exact ⟨(0), M7, H', ⟨Nat.le_refl _⟩, Q10⟩
 case round =>
  clear H'
  try clear c1
  try clear p2
  obtain ⟨x8_1, rfl, HA, HK1, ⟨m1, rfl⟩⟩ := hrel
  cases gk with
  | zero => exact absurd HA.o (by simp [slices_Index_int_int.l0])
  | succ k1 =>
   have H := HA.o
   clear HA
   simp only [slices_Index_int_int.l0] at H
   by_cases c3 : x8_1 < (l0.length : Int)
   rotate_left
   ·rw [if_neg c3] at H
    have c3b0 : decide (x8_1 < (l0.length : Int)) = false := decide_eq_false c3
    clear c3
    obtain rfl := Option.some.inj H
    go_wp2
    go_ret
    exact ⟨by first | rfl | (simp; done) | (simp [*]; done), Q10⟩
   rw [if_pos c3] at H
   have c3b0 : decide (x8_1 < (l0.length : Int)) = true := decide_eq_true c3
   clear c3
   by_cases c4 : 0 ≤ x8_1
   rotate_left
   ·rw [if_neg c4] at H
    exact absurd H (by simp)
   rw [if_pos c4] at H
   have c4b0 : decide (0 ≤ x8_1) = true := decide_eq_true c4
   clear c4
   by_cases c5 : x8_1 < (l0.length : Int)
   rotate_left
   ·rw [if_neg c5] at H
    exact absurd H (by simp)
   rw [if_pos c5] at H
   have c5b0 : decide (x8_1 < (l0.length : Int)) = true := decide_eq_true c5
   clear c5
   by_cases c6 : a1 = (rd l0 x8_1)
   ·rw [if_pos c6] at H
    have c6b0 : (a1 == (rd l0 x8_1)) = true := beq_iff_eq.mpr c6
    have c6b1 : (a1 != (rd l0 x8_1)) = false := bne_eq_false_iff_eq.mpr c6
    clear c6
    obtain rfl := Option.some.inj H
    have p581 : 0 ≤ (x8_1 : Int) := oD M3
    have q581 : x8_1 < (l0.length : Int) := oD M3
    obtain ⟨ad581, e581, hx581_0⟩ := Kd.at_int HR0.o x8_1 p581 q581
    cases e581
    replace p581 := eq_true p581
    replace q581 := eq_true q581
    go_wp2
    go_ret
    exact ⟨by first | rfl | (simp; done) | (simp [*]; done), Q10⟩
   rw [if_neg c6] at H
   have c6b0 : (a1 == (rd l0 x8_1)) = false := beq_eq_false_iff_ne.mpr c6
   have c6b1 : (a1 != (rd l0 x8_1)) = true := bne_iff_ne.mpr c6
   have H' := zK H
   clear H
   have p581 : 0 ≤ (x8_1 : Int) := oD M3
   have q581 : x8_1 < (l0.length : Int) := oD M3
   obtain ⟨ad581, e581, hx581_0⟩ := Kd.at_int HR0.o x8_1 p581 q581
   cases e581
   replace p581 := eq_true p581
   replace q581 := eq_true q581
   go_wp2
   go_roundg k1
   case measure => have := HK1.o; omega
   case rel => exact ⟨(wrap64 (x8_1 + 1)), M7, H', ⟨by have := HK1.o; omega⟩, Q10⟩
/-! ### slices_Contains_int_int: function 104 -/
def slices_Contains_int_int.f (k : Nat) (l0 : List Int) (a1 : Int) : Option (Bool) := (slices_Index_int_int.f k l0 a1).bind fun t582 => (some (decide (t582 ≥ 0)))
set_option maxHeartbeats 8000000 in
set_option maxRecDepth 100000 in
theorem slices_Contains_int_int.calls (k : Nat) (A0 : Option Addr) (c0 : Nat) (l0 : List Int) (a1 : Int) (r : Bool) (w : World) (hr0 : Kd.C (Kd.int .i64) w A0 l0.length l0) (hc0 : l0.length ≤ c0) (h : slices_Contains_int_int.f k l0 a1 = some r) :
  Calls Try.prog 104 #[.slice A0 l0.length c0, .int .i64 a1] w fun e w' => e = .returned (.bool r) ∧ Drawn0 w w' := by
 have HR0 := zK hr0
 have HC0 := zK hc0
 clear hr0 hc0
 have H : ((slices_Index_int_int.f k l0 a1).bind fun t582 => (some (decide (t582 ≥ 0)))) = some r := h
 clear h
 replace H := Option.bind_eq_some_iff.mp H
 obtain ⟨t582, A30, H⟩ := H
 replace H : (some (decide (t582 ≥ 0))) = some r := H
 have A3 := zK A30
 clear A30
 obtain rfl := Option.some.inj H
 go_enter Try.func104, Try.ntmps104
 go_wp2_with (first | ((with_reducible refine gate_callee (f := 156) rfl ?_); refine goesL_ (some 7) rfl rfl Try.func156 (by kernel_rfl) rfl #[.slice A0 l0.length c0, .int .i64 a1] rfl M0 ?_; (with_reducible refine (slices_Index_int_int.calls k _ _ l0 a1 t582 _ ?side1 ?side2 A3.o).mono ?_); (case side1 => exact Kd.qC HR0.o); (case side2 => exact HC0.o); rintro e w' ⟨rfl, ⟨nd, rfl⟩⟩; refine ⟨_, rfl, ?_⟩))
 go_ret
 exact ⟨by first | rfl | (simp; done) | (simp [*]; done), Q10⟩
/-! ### impl_allows: function 208 -/
def impl_allows.f (k : Nat) (l0 : List Int) (a1 : Int) : Option (Bool) := if (l0.length : Int) = 0 then (some true) else ((slices_Contains_int_int.f k l0 a1).bind fun t583 => (some t583))
set_option maxHeartbeats 8000000 in
set_option maxRecDepth 100000 in
theorem impl_allows.calls (k : Nat) (A0 : Option Addr) (c0 : Nat) (l0 : List Int) (a1 : Int) (r : Bool) (w : World) (hr0 : Kd.C (Kd.int .i64) w A0 l0.length l0) (hc0 : l0.length ≤ c0) (h : impl_allows.f k l0 a1 = some r) :
  Calls Try.prog 208 #[.slice A0 l0.length c0, .int .i64 a1] w fun e w' => e = .returned (.bool r) ∧ Drawn0 w w' := by
 have HR0 := zK hr0
 have HC0 := zK hc0
 clear hr0 hc0
 have H : (if (l0.length : Int) = 0 then (some true) else ((slices_Contains_int_int.f k l0 a1).bind fun t583 => (some t583))) = some r := h
 clear h
 by_cases c3 : (l0.length : Int) = 0
 ·rw [if_pos c3] at H
  have c3b0 : ((l0.length : Int) == 0) = true := beq_iff_eq.mpr c3
  have c3b1 : ((l0.length : Int) != 0) = false := bne_eq_false_iff_eq.mpr c3
  clear c3
  obtain rfl := Option.some.inj H
  go_enter Try.func208, Try.ntmps208
  go_wp2
  go_ret
  exact ⟨by first | rfl | (simp; done) | (simp [*]; done), Q10⟩
 rw [if_neg c3] at H
 have c3b0 : ((l0.length : Int) == 0) = false := beq_eq_false_iff_ne.mpr c3
 have c3b1 : ((l0.length : Int) != 0) = true := bne_iff_ne.mpr c3
 have c3b2 : ¬ (l0 = []) := fun h_ => c3 (by rw [h_]; rfl)
 replace H := Option.bind_eq_some_iff.mp H
 obtain ⟨t583, A40, H⟩ := H
 replace H : (some t583) = some r := H
 have A4 := zK A40
 clear A40
 obtain rfl := Option.some.inj H
 go_enter Try.func208, Try.ntmps208
 go_wp2_with (first | (go_at_call 104; (with_reducible refine (slices_Contains_int_int.calls k _ _ l0 a1 t583 _ ?side1 ?side2 A4.o).mono ?_); (case side1 => exact Kd.qC HR0.o); (case side2 => exact HC0.o); rintro e w' ⟨rfl, ⟨nd, rfl⟩⟩))
 go_ret
 exact ⟨by first | rfl | (simp; done) | (simp [*]; done), Q10⟩
/-! ### impl_WhyNot: function 172 -/
def impl_WhyNot.j0 : Nat → Bool → Int → Int → List Int → Int → Int → List Int → Int → Int → Int → Int → Int → Int → Int → Int → Int → Int → Option (ByteArray)
 | 0, _, _, _, _, _, _, _, _, _, _, _, _, _, _, _, _, _ => none
 | k + 1, x5, x585000, x585001, x585002, x585003, x585004, x585005, x585006, x585007, x586000, x586001, x586002, x586003, x586004, x586005, x586006, x586007 => if x5 = true then (some (⟨#[105, 110, 118, 97, 108, 105, 100]⟩ : ByteArray)) else (if x585001 = x586001 then ((impl_allows.f k x585002 x586002).bind fun t588 => (if t588 = true then ((impl_InRange.f x586003 x585003 x585004).bind fun t589 => (if t589 = true then ((impl_allows.f k x585005 x586005).bind fun t590 => (if t590 = true then (if x586006 < x585006 then (some (⟨#[116, 105, 109, 101]⟩ : ByteArray)) else (some (⟨#[]⟩ : ByteArray))) else (some (⟨#[112, 108, 97, 99, 101]⟩ : ByteArray)))) else (some (⟨#[115, 105, 122, 101]⟩ : ByteArray)))) else (some (⟨#[99, 111, 108, 111, 117, 114]⟩ : ByteArray)))) else (some (⟨#[107, 105, 110, 100]⟩ : ByteArray)))
def impl_WhyNot.f (k : Nat) (a0_0 : Int) (a0_1 : Int) (l0_2 : List Int) (a0_3 : Int) (a0_4 : Int) (l0_5 : List Int) (a0_6 : Int) (a0_7 : Int) (a1_0 : Int) (a1_1 : Int) (a1_2 : Int) (a1_3 : Int) (a1_4 : Int) (a1_5 : Int) (a1_6 : Int) (a1_7 : Int) : Option (ByteArray) := (impl_IsReport.f k a0_0 a0_1 l0_2 a0_3 a0_4 l0_5 a0_6 a0_7).bind fun t586 => (if t586 = true then ((impl_IsFind.f a1_0 a1_1 a1_2 a1_3 a1_4 a1_5 a1_6 a1_7).bind fun t587 => (impl_WhyNot.j0 k (!t587) a0_0 a0_1 l0_2 a0_3 a0_4 l0_5 a0_6 a0_7 a1_0 a1_1 a1_2 a1_3 a1_4 a1_5 a1_6 a1_7)) else (impl_WhyNot.j0 k true a0_0 a0_1 l0_2 a0_3 a0_4 l0_5 a0_6 a0_7 a1_0 a1_1 a1_2 a1_3 a1_4 a1_5 a1_6 a1_7))
set_option maxRecDepth 100000 in
theorem lf12_0 {p : Prop} (h : p := by
  go_wp2_with (first | ((with_reducible refine gate_callee (f := 208) rfl ?_); refine goesL_ (some 27) rfl rfl Try.func208 (by kernel_rfl) rfl #[.slice A0_2 l0_2.length c0_2, .int .i64 a1_2] rfl M0 ?_; (with_reducible refine (impl_allows.calls kj2 _ _ l0_2 a1_2 true _ ?side1 ?side2 A19.o).mono ?_); (case side1 => exact Kd.qC (Kd.C_below HR0_2.o HB.o)); (case side2 => exact HC0_2.o); rintro e w' ⟨rfl, ⟨nd, rfl⟩⟩; refine ⟨_, rfl, ?_⟩) | ((with_reducible refine gate_callee (f := 120) rfl ?_); refine goesL_ (some 37) rfl rfl Try.func120 (by kernel_rfl) rfl #[.int .i64 a1_3, .int .i64 a0_3, .int .i64 a0_4] rfl M0 ?_; (with_reducible refine (impl_InRange.calls a1_3 a0_3 a0_4 true _ A21.o).mono ?_); rintro e w' ⟨rfl, ⟨nd, rfl⟩⟩; refine ⟨_, rfl, ?_⟩) | ((with_reducible refine gate_callee (f := 208) rfl ?_); refine goesL_ (some 44) rfl rfl Try.func208 (by kernel_rfl) rfl #[.slice A0_5 l0_5.length c0_5, .int .i64 a1_5] rfl M0 ?_; (with_reducible refine (impl_allows.calls kj2 _ _ l0_5 a1_5 true _ ?side1 ?side2 A23.o).mono ?_); (case side1 => repeat (first | exact (Kd.C_below HR0_5.o M22) | (with_reducible refine Kd.CA ?_ _) | (with_reducible refine Kd.CN ?_ _) | (with_reducible refine Kd.CD ?_))); (case side2 => exact HC0_5.o); rintro e w' ⟨rfl, ⟨nd, rfl⟩⟩; refine ⟨_, rfl, ?_⟩))
  go_ret
  exact ⟨by first | rfl | (simp [errW_none, errW_some] <;> rfl) | (simp [*, errW_none, errW_some] <;> rfl), by exact qX HB.o⟩) : p := h
set_option maxHeartbeats 8000000 in
set_option maxRecDepth 100000 in
theorem impl_WhyNot.calls (k : Nat) (a0_0 : Int) (a0_1 : Int) (A0_2 : Option Addr) (c0_2 : Nat) (l0_2 : List Int) (a0_3 : Int) (a0_4 : Int) (A0_5 : Option Addr) (c0_5 : Nat) (l0_5 : List Int) (a0_6 : Int) (a0_7 : Int) (a1_0 : Int) (a1_1 : Int) (a1_2 : Int) (a1_3 : Int) (a1_4 : Int) (a1_5 : Int) (a1_6 : Int) (a1_7 : Int) (r : ByteArray) (w : World) (hr0_2 : Kd.C (Kd.int .i64) w A0_2 l0_2.length l0_2) (hc0_2 : l0_2.length ≤ c0_2) (hr0_5 : Kd.C (Kd.int .i64) w A0_5 l0_5.length l0_5) (hc0_5 : l0_5.length ≤ c0_5) (h : impl_WhyNot.f k a0_0 a0_1 l0_2 a0_3 a0_4 l0_5 a0_6 a0_7 a1_0 a1_1 a1_2 a1_3 a1_4 a1_5 a1_6 a1_7 = some r) :
  Calls Try.prog 172 #[.agg #[.int .i64 a0_0, .int .i64 a0_1, .slice A0_2 l0_2.length c0_2, .int .i64 a0_3, .int .i64 a0_4, .slice A0_5 l0_5.length c0_5, .int .i64 a0_6, .int .i64 a0_7], .agg #[.int .i64 a1_0, .int .i64 a1_1, .int .i64 a1_2, .int .i64 a1_3, .int .i64 a1_4, .int .i64 a1_5, .int .i64 a1_6, .int .i64 a1_7]] w fun e w' => e = .returned (.string r) ∧ Below w.heap.size w w' := by
 have hu87 := Try.underlying87
 have hu126 := Try.underlying126
 have HR0_2 := zK hr0_2
 have HC0_2 := zK hc0_2
 clear hr0_2 hc0_2
 have HR0_5 := zK hr0_5
 have HC0_5 := zK hc0_5
 clear hr0_5 hc0_5
 have HB := zK (Below.refl w.heap.size w)
 have H : ((impl_IsReport.f k a0_0 a0_1 l0_2 a0_3 a0_4 l0_5 a0_6 a0_7).bind fun t586 => (if t586 = true then ((impl_IsFind.f a1_0 a1_1 a1_2 a1_3 a1_4 a1_5 a1_6 a1_7).bind fun t587 => (impl_WhyNot.j0 k (!t587) a0_0 a0_1 l0_2 a0_3 a0_4 l0_5 a0_6 a0_7 a1_0 a1_1 a1_2 a1_3 a1_4 a1_5 a1_6 a1_7)) else (impl_WhyNot.j0 k true a0_0 a0_1 l0_2 a0_3 a0_4 l0_5 a0_6 a0_7 a1_0 a1_1 a1_2 a1_3 a1_4 a1_5 a1_6 a1_7))) = some r := h
 clear h
 have HC3 := zK H
 clear H
 go_enter Try.func172, Try.ntmps172
 go_upto_region 1 with (first | ((with_reducible refine gate_dst (N := 2) rfl ?_); refine box_event ?hg (N := 2) ?hd (cs := #[.int .i64 a0_0, .int .i64 a0_1, .slice A0_2 l0_2.length c0_2, .int .i64 a0_3, .int .i64 a0_4, .slice A0_5 l0_5.length c0_5, .int .i64 a0_6, .int .i64 a0_7]) (t := 87) ?hr ?_; (case hd => rfl); (case hg => rfl); (case hr => first | (go_simp; done) | (go_simp; rfl)); intro gb584 hg w4 hbox hb; have _ := zK (bT (qB HB.o) hb); have _ := zK (hbox); have _ := zK ((by rw [hg]; exact (bZ (qB HB.o)) : w.heap.size ≤ gb584)); have _ := zK ((by rw [hg]; exact (bZ (qB HB.o)) : w.heap.size ≤ gb584)); clear HB; rename_i HB BK584 GW584 GE584; clear hb hbox hg) | ((with_reducible refine gate_dst (N := 3) rfl ?_); refine box_event ?hg (N := 3) ?hd (cs := #[.int .i64 a1_0, .int .i64 a1_1, .int .i64 a1_2, .int .i64 a1_3, .int .i64 a1_4, .int .i64 a1_5, .int .i64 a1_6, .int .i64 a1_7]) (t := 126) ?hr ?_; (case hd => rfl); (case hg => rfl); (case hr => first | (go_simp; done) | (go_simp; rfl)); intro gb585 hg w5 hbox hb; have _ := zK (bB (qK BK584.o) hb); have _ := zK (bT (qX HB.o) hb); have _ := zK (hbox); have _ := zK ((by rw [hg]; exact (bZ (qX HB.o)) : w.heap.size ≤ gb585)); have _ := zK ((by rw [hg]; exact (bZ (qX HB.o)) : w.heap.size ≤ gb585)); have _ := zK ((by rw [hg]; exact Nat.ne_of_lt (blk_lt (qK BK584.o)) : gb584 ≠ gb585)); have _ := zK ((by rw [hg]; exact Nat.ne_of_gt (blk_lt (qK BK584.o)) : gb585 ≠ gb584)); clear BK584 HB; rename_i BK584 HB BK585 GW585 GE585 NB584_585 NB585_584; clear hb hbox hg))
 (try simp only [Act.put, sA, sZ, sS])
 go_cut [5] (fun v5 wc => ∃ (kq : Nat) (x5_2 : Bool), v5 = .bool x5_2 ∧ Aside0 (impl_WhyNot.j0 kq x5_2 a0_0 a0_1 l0_2 a0_3 a0_4 l0_5 a0_6 a0_7 a1_0 a1_1 a1_2 a1_3 a1_4 a1_5 a1_6 a1_7 = some r) ∧ Aside0 (kq ≤ k) ∧ Aside0 (wc.heap[gb584]? = some (.cells #[.int .i64 a0_0, .int .i64 a0_1, (.slice A0_2 l0_2.length c0_2), .int .i64 a0_3, .int .i64 a0_4, (.slice A0_5 l0_5.length c0_5), .int .i64 a0_6, .int .i64 a0_7] 87 (0, 0))) ∧ Aside0 (wc.heap[gb585]? = some (.cells #[.int .i64 a1_0, .int .i64 a1_1, .int .i64 a1_2, .int .i64 a1_3, .int .i64 a1_4, .int .i64 a1_5, .int .i64 a1_6, .int .i64 a1_7] 126 (0, 0))) ∧ Aside0 (Below w.heap.size w wc))
 case first =>
  have H := HC3.o
  clear HC3
  replace H := Option.bind_eq_some_iff.mp H
  obtain ⟨t586, A60, H⟩ := H
  try dsimp only at H
  have A6 := zK A60
  clear A60
  by_cases c7 : t586 = true
  rotate_left
  ·replace c7 := Bool.eq_false_iff.mpr c7
   subst c7
   have H1 : (impl_WhyNot.j0 k true a0_0 a0_1 l0_2 a0_3 a0_4 l0_5 a0_6 a0_7 a1_0 a1_1 a1_2 a1_3 a1_4 a1_5 a1_6 a1_7) = some r := by rw [if_neg (show ¬ (false = true) by decide)] at H; exact H
   clear H
   have H := H1
   clear H1
   have H' := zK H
   clear H
   have hnb14 := NB584_585.o
   have hnc14 := NB585_584.o
   obtain ⟨hcz15_0, hcz15_1, hcz15_2, hcz15_3, hcz15_4, hcz15_5, hcz15_6, hcz15_7, hfz15_0, hfz15_1, hfz15_2, hfz15_3, hfz15_4, hfz15_5, hfz15_6, hfz15_7⟩ := bx8 BK584.o
   go_wp2_with (first | ((with_reducible refine gate_callee (f := 167) rfl ?_); refine goesL_ (some 7) rfl rfl Try.func167 (by kernel_rfl) rfl #[.agg #[.int .i64 a0_0, .int .i64 a0_1, .slice A0_2 l0_2.length c0_2, .int .i64 a0_3, .int .i64 a0_4, .slice A0_5 l0_5.length c0_5, .int .i64 a0_6, .int .i64 a0_7]] rfl M0 ?_; (with_reducible refine (impl_IsReport.calls k a0_0 a0_1 _ _ l0_2 a0_3 a0_4 _ _ l0_5 a0_6 a0_7 false _ ?side1 ?side2 ?side3 ?side4 A6.o).mono ?_); (case side1 => exact Kd.qC (Kd.C_below HR0_2.o HB.o)); (case side2 => exact HC0_2.o); (case side3 => exact Kd.qC (Kd.C_below HR0_5.o HB.o)); (case side4 => exact HC0_5.o); rintro e w16 ⟨rfl, hb⟩; refine ⟨_, rfl, ?_⟩; have _ := zK (bB (qK BK584.o) hb); have _ := zK (bB (qK BK585.o) hb); have _ := zK (bT M22 hb); clear BK584 BK585 HB; rename_i BK584 BK585 HB; (try clear hb); (try clear hb2); (try clear hk); (try clear hi)))
   go_meet
   case rel => exact ⟨_, (true), M7, H', ⟨by first | omega | exact Nat.le_refl _⟩, ⟨by exact qK BK584.o⟩, ⟨by exact qK BK585.o⟩, ⟨by exact qX HB.o⟩⟩
  subst c7
  have H1 : ((impl_IsFind.f a1_0 a1_1 a1_2 a1_3 a1_4 a1_5 a1_6 a1_7).bind fun t587 => (impl_WhyNot.j0 k (!t587) a0_0 a0_1 l0_2 a0_3 a0_4 l0_5 a0_6 a0_7 a1_0 a1_1 a1_2 a1_3 a1_4 a1_5 a1_6 a1_7)) = some r := by rw [if_pos rfl] at H; exact H
  clear H
  have H := H1
  clear H1
  replace H := Option.bind_eq_some_iff.mp H
  obtain ⟨t587, A80, H⟩ := H
  try dsimp only at H
  have A8 := zK A80
  clear A80
  have H' := zK H
  clear H
  have hnb9 := NB584_585.o
  have hnc9 := NB585_584.o
  obtain ⟨hcz10_0, hcz10_1, hcz10_2, hcz10_3, hcz10_4, hcz10_5, hcz10_6, hcz10_7, hfz10_0, hfz10_1, hfz10_2, hfz10_3, hfz10_4, hfz10_5, hfz10_6, hfz10_7⟩ := bx8 BK584.o
  go_wp2_with (first | ((with_reducible refine gate_callee (f := 167) rfl ?_); refine goesL_ (some 7) rfl rfl Try.func167 (by kernel_rfl) rfl #[.agg #[.int .i64 a0_0, .int .i64 a0_1, .slice A0_2 l0_2.length c0_2, .int .i64 a0_3, .int .i64 a0_4, .slice A0_5 l0_5.length c0_5, .int .i64 a0_6, .int .i64 a0_7]] rfl M0 ?_; (with_reducible refine (impl_IsReport.calls k a0_0 a0_1 _ _ l0_2 a0_3 a0_4 _ _ l0_5 a0_6 a0_7 true _ ?side1 ?side2 ?side3 ?side4 A6.o).mono ?_); (case side1 => exact Kd.qC (Kd.C_below HR0_2.o HB.o)); (case side2 => exact HC0_2.o); (case side3 => exact Kd.qC (Kd.C_below HR0_5.o HB.o)); (case side4 => exact HC0_5.o); rintro e w11 ⟨rfl, hb⟩; refine ⟨_, rfl, ?_⟩; have _ := zK (bB (qK BK584.o) hb); have _ := zK (bB (qK BK585.o) hb); have _ := zK (bT M22 hb); clear BK584 BK585 HB; rename_i BK584 BK585 HB; (try clear hb); (try clear hb2); (try clear hk); (try clear hi); obtain ⟨hcz12_0, hcz12_1, hcz12_2, hcz12_3, hcz12_4, hcz12_5, hcz12_6, hcz12_7, hfz12_0, hfz12_1, hfz12_2, hfz12_3, hfz12_4, hfz12_5, hfz12_6, hfz12_7⟩ := bx8 BK585.o) | (go_at_call 168; (with_reducible refine (impl_IsFind.calls a1_0 a1_1 a1_2 a1_3 a1_4 a1_5 a1_6 a1_7 t587 _ A8.o).mono ?_); rintro e w13 ⟨rfl, hb⟩; have _ := zK (bB (qK BK584.o) hb); have _ := zK (bB (qK BK585.o) hb); have _ := zK (bT M22 hb); clear BK584 BK585 HB; rename_i BK584 BK585 HB; (try clear hb); (try clear hb2); (try clear hk); (try clear hi)))
  go_meet
  case rel => exact ⟨_, (!t587), M7, H', ⟨by first | omega | exact Nat.le_refl _⟩, ⟨by exact qK BK584.o⟩, ⟨by exact qK BK585.o⟩, ⟨by exact qX HB.o⟩⟩
 case rest =>
  clear HC3
  try clear c1
  try clear p2
  try clear c7
  try clear c9
  try clear c14
  try clear c16
  try clear hcz10_0 hcz10_1 hcz10_2 hcz10_3 hcz10_4 hcz10_5 hcz10_6 hcz10_7 hcz12_0 hcz12_1 hcz12_2 hcz12_3 hcz12_4 hcz12_5 hcz12_6 hcz12_7 hcz15_0 hcz15_1 hcz15_2 hcz15_3 hcz15_4 hcz15_5 hcz15_6 hcz15_7 hfz10_0 hfz10_1 hfz10_2 hfz10_3 hfz10_4 hfz10_5 hfz10_6 hfz10_7 hfz12_0 hfz12_1 hfz12_2 hfz12_3 hfz12_4 hfz12_5 hfz12_6 hfz12_7 hfz15_0 hfz15_1 hfz15_2 hfz15_3 hfz15_4 hfz15_5 hfz15_6 hfz15_7
  obtain ⟨kq, x5_2, rfl, HA, HJ2, BK584, BK585, HB⟩ := hcut
  cases kq with
  | zero => exact absurd HA.o (by simp [impl_WhyNot.j0])
  | succ kj2 =>
   have H := HA.o
   clear HA
   simp only [impl_WhyNot.j0] at H
   by_cases c17 : x5_2 = true
   ·subst c17
    have H1 : (some (⟨#[105, 110, 118, 97, 108, 105, 100]⟩ : ByteArray)) = some r := by rw [if_pos rfl] at H; exact H
    clear H
    have H := H1
    clear H1
    obtain rfl := Option.some.inj H
    go_wp2
    go_ret
    exact ⟨by first | rfl | (simp [errW_none, errW_some] <;> rfl) | (simp [*, errW_none, errW_some] <;> rfl), by exact qX HB.o⟩
   replace c17 := Bool.eq_false_iff.mpr c17
   subst c17
   have H1 : (if a0_1 = a1_1 then ((impl_allows.f kj2 l0_2 a1_2).bind fun t588 => (if t588 = true then ((impl_InRange.f a1_3 a0_3 a0_4).bind fun t589 => (if t589 = true then ((impl_allows.f kj2 l0_5 a1_5).bind fun t590 => (if t590 = true then (if a1_6 < a0_6 then (some (⟨#[116, 105, 109, 101]⟩ : ByteArray)) else (some (⟨#[]⟩ : ByteArray))) else (some (⟨#[112, 108, 97, 99, 101]⟩ : ByteArray)))) else (some (⟨#[115, 105, 122, 101]⟩ : ByteArray)))) else (some (⟨#[99, 111, 108, 111, 117, 114]⟩ : ByteArray)))) else (some (⟨#[107, 105, 110, 100]⟩ : ByteArray))) = some r := by rw [if_neg (show ¬ (false = true) by decide)] at H; exact H
   clear H
   have H := H1
   clear H1
   by_cases c18 : a0_1 = a1_1
   rotate_left
   ·rw [if_neg c18] at H
    have c18b0 : (a0_1 == a1_1) = false := beq_eq_false_iff_ne.mpr c18
    have c18b1 : (a0_1 != a1_1) = true := bne_iff_ne.mpr c18
    obtain rfl := Option.some.inj H
    have hnb41 := NB584_585.o
    have hnc41 := NB585_584.o
    obtain ⟨hcz42_0, hcz42_1, hcz42_2, hcz42_3, hcz42_4, hcz42_5, hcz42_6, hcz42_7, hfz42_0, hfz42_1, hfz42_2, hfz42_3, hfz42_4, hfz42_5, hfz42_6, hfz42_7⟩ := bx8 BK584.o
    obtain ⟨hcz43_0, hcz43_1, hcz43_2, hcz43_3, hcz43_4, hcz43_5, hcz43_6, hcz43_7, hfz43_0, hfz43_1, hfz43_2, hfz43_3, hfz43_4, hfz43_5, hfz43_6, hfz43_7⟩ := bx8 BK585.o
    go_wp2
    go_ret
    exact ⟨by first | rfl | (simp [errW_none, errW_some] <;> rfl) | (simp [*, errW_none, errW_some] <;> rfl), by exact qX HB.o⟩
   rw [if_pos c18] at H
   have c18b0 : (a0_1 == a1_1) = true := beq_iff_eq.mpr c18
   have c18b1 : (a0_1 != a1_1) = false := bne_eq_false_iff_eq.mpr c18
   clear c18
   replace H := Option.bind_eq_some_iff.mp H
   obtain ⟨t588, A190, H⟩ := H
   try dsimp only at H
   have A19 := zK A190
   clear A190
   by_cases c20 : t588 = true
   rotate_left
   ·replace c20 := Bool.eq_false_iff.mpr c20
    subst c20
    have H1 : (some (⟨#[99, 111, 108, 111, 117, 114]⟩ : ByteArray)) = some r := by rw [if_neg (show ¬ (false = true) by decide)] at H; exact H
    clear H
    have H := H1
    clear H1
    obtain rfl := Option.some.inj H
    have hnb38 := NB584_585.o
    have hnc38 := NB585_584.o
    obtain ⟨hcz39_0, hcz39_1, hcz39_2, hcz39_3, hcz39_4, hcz39_5, hcz39_6, hcz39_7, hfz39_0, hfz39_1, hfz39_2, hfz39_3, hfz39_4, hfz39_5, hfz39_6, hfz39_7⟩ := bx8 BK584.o
    obtain ⟨hcz40_0, hcz40_1, hcz40_2, hcz40_3, hcz40_4, hcz40_5, hcz40_6, hcz40_7, hfz40_0, hfz40_1, hfz40_2, hfz40_3, hfz40_4, hfz40_5, hfz40_6, hfz40_7⟩ := bx8 BK585.o
    go_wp2_with (first | ((with_reducible refine gate_callee (f := 208) rfl ?_); refine goesL_ (some 27) rfl rfl Try.func208 (by kernel_rfl) rfl #[.slice A0_2 l0_2.length c0_2, .int .i64 a1_2] rfl M0 ?_; (with_reducible refine (impl_allows.calls kj2 _ _ l0_2 a1_2 false _ ?side1 ?side2 A19.o).mono ?_); (case side1 => exact Kd.qC (Kd.C_below HR0_2.o HB.o)); (case side2 => exact HC0_2.o); rintro e w' ⟨rfl, ⟨nd, rfl⟩⟩; refine ⟨_, rfl, ?_⟩))
    go_ret
    exact ⟨by first | rfl | (simp [errW_none, errW_some] <;> rfl) | (simp [*, errW_none, errW_some] <;> rfl), by exact qX HB.o⟩
   subst c20
   have H1 : ((impl_InRange.f a1_3 a0_3 a0_4).bind fun t589 => (if t589 = true then ((impl_allows.f kj2 l0_5 a1_5).bind fun t590 => (if t590 = true then (if a1_6 < a0_6 then (some (⟨#[116, 105, 109, 101]⟩ : ByteArray)) else (some (⟨#[]⟩ : ByteArray))) else (some (⟨#[112, 108, 97, 99, 101]⟩ : ByteArray)))) else (some (⟨#[115, 105, 122, 101]⟩ : ByteArray)))) = some r := by rw [if_pos rfl] at H; exact H
   clear H
   have H := H1
   clear H1
   replace H := Option.bind_eq_some_iff.mp H
   obtain ⟨t589, A210, H⟩ := H
   try dsimp only at H
   have A21 := zK A210
   clear A210
   by_cases c22 : t589 = true
   rotate_left
   ·replace c22 := Bool.eq_false_iff.mpr c22
    subst c22
    have H1 : (some (⟨#[115, 105, 122, 101]⟩ : ByteArray)) = some r := by rw [if_neg (show ¬ (false = true) by decide)] at H; exact H
    clear H
    have H := H1
    clear H1
    obtain rfl := Option.some.inj H
    have hnb35 := NB584_585.o
    have hnc35 := NB585_584.o
    obtain ⟨hcz36_0, hcz36_1, hcz36_2, hcz36_3, hcz36_4, hcz36_5, hcz36_6, hcz36_7, hfz36_0, hfz36_1, hfz36_2, hfz36_3, hfz36_4, hfz36_5, hfz36_6, hfz36_7⟩ := bx8 BK584.o
    obtain ⟨hcz37_0, hcz37_1, hcz37_2, hcz37_3, hcz37_4, hcz37_5, hcz37_6, hcz37_7, hfz37_0, hfz37_1, hfz37_2, hfz37_3, hfz37_4, hfz37_5, hfz37_6, hfz37_7⟩ := bx8 BK585.o
    go_wp2_with (first | ((with_reducible refine gate_callee (f := 208) rfl ?_); refine goesL_ (some 27) rfl rfl Try.func208 (by kernel_rfl) rfl #[.slice A0_2 l0_2.length c0_2, .int .i64 a1_2] rfl M0 ?_; (with_reducible refine (impl_allows.calls kj2 _ _ l0_2 a1_2 true _ ?side1 ?side2 A19.o).mono ?_); (case side1 => exact Kd.qC (Kd.C_below HR0_2.o HB.o)); (case side2 => exact HC0_2.o); rintro e w' ⟨rfl, ⟨nd, rfl⟩⟩; refine ⟨_, rfl, ?_⟩) | ((with_reducible refine gate_callee (f := 120) rfl ?_); refine goesL_ (some 37) rfl rfl Try.func120 (by kernel_rfl) rfl #[.int .i64 a1_3, .int .i64 a0_3, .int .i64 a0_4] rfl M0 ?_; (with_reducible refine (impl_InRange.calls a1_3 a0_3 a0_4 false _ A21.o).mono ?_); rintro e w' ⟨rfl, ⟨nd, rfl⟩⟩; refine ⟨_, rfl, ?_⟩))
    go_ret
    exact ⟨by first | rfl | (simp [errW_none, errW_some] <;> rfl) | (simp [*, errW_none, errW_some] <;> rfl), by exact qX HB.o⟩
   subst c22
   have H1 : ((impl_allows.f kj2 l0_5 a1_5).bind fun t590 => (if t590 = true then (if a1_6 < a0_6 then (some (⟨#[116, 105, 109, 101]⟩ : ByteArray)) else (some (⟨#[]⟩ : ByteArray))) else (some (⟨#[112, 108, 97, 99, 101]⟩ : ByteArray)))) = some r := by rw [if_pos rfl] at H; exact H
   clear H
   have H := H1
   clear H1
   replace H := Option.bind_eq_some_iff.mp H
   obtain ⟨t590, A230, H⟩ := H
   try dsimp only at H
   have A23 := zK A230
   clear A230
   by_cases c24 : t590 = true
   rotate_left
   ·replace c24 := Bool.eq_false_iff.mpr c24
    subst c24
    have H1 : (some (⟨#[112, 108, 97, 99, 101]⟩ : ByteArray)) = some r := by rw [if_neg (show ¬ (false = true) by decide)] at H; exact H
    clear H
    have H := H1
    clear H1
    obtain rfl := Option.some.inj H
    have hnb32 := NB584_585.o
    have hnc32 := NB585_584.o
    obtain ⟨hcz33_0, hcz33_1, hcz33_2, hcz33_3, hcz33_4, hcz33_5, hcz33_6, hcz33_7, hfz33_0, hfz33_1, hfz33_2, hfz33_3, hfz33_4, hfz33_5, hfz33_6, hfz33_7⟩ := bx8 BK584.o
    obtain ⟨hcz34_0, hcz34_1, hcz34_2, hcz34_3, hcz34_4, hcz34_5, hcz34_6, hcz34_7, hfz34_0, hfz34_1, hfz34_2, hfz34_3, hfz34_4, hfz34_5, hfz34_6, hfz34_7⟩ := bx8 BK585.o
    go_wp2_with (first | ((with_reducible refine gate_callee (f := 208) rfl ?_); refine goesL_ (some 27) rfl rfl Try.func208 (by kernel_rfl) rfl #[.slice A0_2 l0_2.length c0_2, .int .i64 a1_2] rfl M0 ?_; (with_reducible refine (impl_allows.calls kj2 _ _ l0_2 a1_2 true _ ?side1 ?side2 A19.o).mono ?_); (case side1 => exact Kd.qC (Kd.C_below HR0_2.o HB.o)); (case side2 => exact HC0_2.o); rintro e w' ⟨rfl, ⟨nd, rfl⟩⟩; refine ⟨_, rfl, ?_⟩) | ((with_reducible refine gate_callee (f := 120) rfl ?_); refine goesL_ (some 37) rfl rfl Try.func120 (by kernel_rfl) rfl #[.int .i64 a1_3, .int .i64 a0_3, .int .i64 a0_4] rfl M0 ?_; (with_reducible refine (impl_InRange.calls a1_3 a0_3 a0_4 true _ A21.o).mono ?_); rintro e w' ⟨rfl, ⟨nd, rfl⟩⟩; refine ⟨_, rfl, ?_⟩) | ((with_reducible refine gate_callee (f := 208) rfl ?_); refine goesL_ (some 44) rfl rfl Try.func208 (by kernel_rfl) rfl #[.slice A0_5 l0_5.length c0_5, .int .i64 a1_5] rfl M0 ?_; (with_reducible refine (impl_allows.calls kj2 _ _ l0_5 a1_5 false _ ?side1 ?side2 A23.o).mono ?_); (case side1 => repeat (first | exact (Kd.C_below HR0_5.o M22) | (with_reducible refine Kd.CA ?_ _) | (with_reducible refine Kd.CN ?_ _) | (with_reducible refine Kd.CD ?_))); (case side2 => exact HC0_5.o); rintro e w' ⟨rfl, ⟨nd, rfl⟩⟩; refine ⟨_, rfl, ?_⟩))
    go_ret
    exact ⟨by first | rfl | (simp [errW_none, errW_some] <;> rfl) | (simp [*, errW_none, errW_some] <;> rfl), by exact qX HB.o⟩
   subst c24
   have H1 : (if a1_6 < a0_6 then (some (⟨#[116, 105, 109, 101]⟩ : ByteArray)) else (some (⟨#[]⟩ : ByteArray))) = some r := by rw [if_pos rfl] at H; exact H
   clear H
   have H := H1
   clear H1
   by_cases c25 : a1_6 < a0_6
   ·rw [if_pos c25] at H
    have c25b0 : decide (a1_6 < a0_6) = true := decide_eq_true c25
    clear c25
    obtain rfl := Option.some.inj H
    have hnb26 := NB584_585.o
    have hnc26 := NB585_584.o
    obtain ⟨hcz27_0, hcz27_1, hcz27_2, hcz27_3, hcz27_4, hcz27_5, hcz27_6, hcz27_7, hfz27_0, hfz27_1, hfz27_2, hfz27_3, hfz27_4, hfz27_5, hfz27_6, hfz27_7⟩ := bx8 BK584.o
    obtain ⟨hcz28_0, hcz28_1, hcz28_2, hcz28_3, hcz28_4, hcz28_5, hcz28_6, hcz28_7, hfz28_0, hfz28_1, hfz28_2, hfz28_3, hfz28_4, hfz28_5, hfz28_6, hfz28_7⟩ := bx8 BK585.o
    exact lf12_0
   rw [if_neg c25] at H
   have c25b0 : decide (a1_6 < a0_6) = false := decide_eq_false c25
   clear c25
   obtain rfl := Option.some.inj H
   have hnb29 := NB584_585.o
   have hnc29 := NB585_584.o
   obtain ⟨hcz30_0, hcz30_1, hcz30_2, hcz30_3, hcz30_4, hcz30_5, hcz30_6, hcz30_7, hfz30_0, hfz30_1, hfz30_2, hfz30_3, hfz30_4, hfz30_5, hfz30_6, hfz30_7⟩ := bx8 BK584.o
   obtain ⟨hcz31_0, hcz31_1, hcz31_2, hcz31_3, hcz31_4, hcz31_5, hcz31_6, hcz31_7, hfz31_0, hfz31_1, hfz31_2, hfz31_3, hfz31_4, hfz31_5, hfz31_6, hfz31_7⟩ := bx8 BK585.o
   exact lf12_0
/-! ### impl_CanBe: function 123 -/
def impl_CanBe.f (k : Nat) (a0_0 : Int) (a0_1 : Int) (l0_2 : List Int) (a0_3 : Int) (a0_4 : Int) (l0_5 : List Int) (a0_6 : Int) (a0_7 : Int) (a1_0 : Int) (a1_1 : Int) (a1_2 : Int) (a1_3 : Int) (a1_4 : Int) (a1_5 : Int) (a1_6 : Int) (a1_7 : Int) : Option (Bool) := (impl_WhyNot.f k a0_0 a0_1 l0_2 a0_3 a0_4 l0_5 a0_6 a0_7 a1_0 a1_1 a1_2 a1_3 a1_4 a1_5 a1_6 a1_7).bind fun t593 => (some (t593.toList == ([] : List UInt8)))
set_option maxHeartbeats 8000000 in
set_option maxRecDepth 100000 in
theorem impl_CanBe.calls (k : Nat) (a0_0 : Int) (a0_1 : Int) (A0_2 : Option Addr) (c0_2 : Nat) (l0_2 : List Int) (a0_3 : Int) (a0_4 : Int) (A0_5 : Option Addr) (c0_5 : Nat) (l0_5 : List Int) (a0_6 : Int) (a0_7 : Int) (a1_0 : Int) (a1_1 : Int) (a1_2 : Int) (a1_3 : Int) (a1_4 : Int) (a1_5 : Int) (a1_6 : Int) (a1_7 : Int) (r : Bool) (w : World) (hr0_2 : Kd.C (Kd.int .i64) w A0_2 l0_2.length l0_2) (hc0_2 : l0_2.length ≤ c0_2) (hr0_5 : Kd.C (Kd.int .i64) w A0_5 l0_5.length l0_5) (hc0_5 : l0_5.length ≤ c0_5) (h : impl_CanBe.f k a0_0 a0_1 l0_2 a0_3 a0_4 l0_5 a0_6 a0_7 a1_0 a1_1 a1_2 a1_3 a1_4 a1_5 a1_6 a1_7 = some r) :
  Calls Try.prog 123 #[.agg #[.int .i64 a0_0, .int .i64 a0_1, .slice A0_2 l0_2.length c0_2, .int .i64 a0_3, .int .i64 a0_4, .slice A0_5 l0_5.length c0_5, .int .i64 a0_6, .int .i64 a0_7], .agg #[.int .i64 a1_0, .int .i64 a1_1, .int .i64 a1_2, .int .i64 a1_3, .int .i64 a1_4, .int .i64 a1_5, .int .i64 a1_6, .int .i64 a1_7]] w fun e w' => e = .returned (.bool r) ∧ Below w.heap.size w w' := by
 have hu87 := Try.underlying87
 have hu126 := Try.underlying126
 have HR0_2 := zK hr0_2
 have HC0_2 := zK hc0_2
 clear hr0_2 hc0_2
 have HR0_5 := zK hr0_5
 have HC0_5 := zK hc0_5
 clear hr0_5 hc0_5
 have HB := zK (Below.refl w.heap.size w)
 have H : ((impl_WhyNot.f k a0_0 a0_1 l0_2 a0_3 a0_4 l0_5 a0_6 a0_7 a1_0 a1_1 a1_2 a1_3 a1_4 a1_5 a1_6 a1_7).bind fun t593 => (some (t593.toList == ([] : List UInt8)))) = some r := h
 clear h
 replace H := Option.bind_eq_some_iff.mp H
 obtain ⟨t593, A30, H⟩ := H
 try dsimp only at H
 have A3 := zK A30
 clear A30
 obtain rfl := Option.some.inj H
 go_enter Try.func123, Try.ntmps123
 go_wp2_with (first | ((with_reducible refine gate_dst (N := 2) rfl ?_); refine box_event ?hg (N := 2) ?hd (cs := #[.int .i64 a0_0, .int .i64 a0_1, .slice A0_2 l0_2.length c0_2, .int .i64 a0_3, .int .i64 a0_4, .slice A0_5 l0_5.length c0_5, .int .i64 a0_6, .int .i64 a0_7]) (t := 87) ?hr ?_; (case hd => rfl); (case hg => rfl); (case hr => first | (go_simp; done) | (go_simp; rfl)); intro gb591 hg w4 hbox hb; have _ := zK (bT (qB HB.o) hb); have _ := zK (hbox); have _ := zK ((by rw [hg]; exact (bZ (qB HB.o)) : w.heap.size ≤ gb591)); have _ := zK ((by rw [hg]; exact (bZ (qB HB.o)) : w.heap.size ≤ gb591)); clear HB; rename_i HB BK591 GW591 GE591; clear hb hbox hg) | ((with_reducible refine gate_dst (N := 3) rfl ?_); refine box_event ?hg (N := 3) ?hd (cs := #[.int .i64 a1_0, .int .i64 a1_1, .int .i64 a1_2, .int .i64 a1_3, .int .i64 a1_4, .int .i64 a1_5, .int .i64 a1_6, .int .i64 a1_7]) (t := 126) ?hr ?_; (case hd => rfl); (case hg => rfl); (case hr => first | (go_simp; done) | (go_simp; rfl)); intro gb592 hg w5 hbox hb; have _ := zK (bB (qK BK591.o) hb); have _ := zK (bT (qX HB.o) hb); have _ := zK (hbox); have _ := zK ((by rw [hg]; exact (bZ (qX HB.o)) : w.heap.size ≤ gb592)); have _ := zK ((by rw [hg]; exact (bZ (qX HB.o)) : w.heap.size ≤ gb592)); have _ := zK ((by rw [hg]; exact Nat.ne_of_lt (blk_lt (qK BK591.o)) : gb591 ≠ gb592)); have _ := zK ((by rw [hg]; exact Nat.ne_of_gt (blk_lt (qK BK591.o)) : gb592 ≠ gb591)); clear BK591 HB; rename_i BK591 HB BK592 GW592 GE592 NB591_592 NB592_591; clear hb hbox hg; have hnb6 := NB591_592.o; have hnc6 := NB592_591.o; obtain ⟨hcz7_0, hcz7_1, hcz7_2, hcz7_3, hcz7_4, hcz7_5, hcz7_6, hcz7_7, hfz7_0, hfz7_1, hfz7_2, hfz7_3, hfz7_4, hfz7_5, hfz7_6, hfz7_7⟩ := bx8 BK591.o; obtain ⟨hcz8_0, hcz8_1, hcz8_2, hcz8_3, hcz8_4, hcz8_5, hcz8_6, hcz8_7, hfz8_0, hfz8_1, hfz8_2, hfz8_3, hfz8_4, hfz8_5, hfz8_6, hfz8_7⟩ := bx8 BK592.o) | ((with_reducible refine gate_callee (f := 172) rfl ?_); refine goesL_ (some 7) rfl rfl Try.func172 (by kernel_rfl) rfl #[.agg #[.int .i64 a0_0, .int .i64 a0_1, .slice A0_2 l0_2.length c0_2, .int .i64 a0_3, .int .i64 a0_4, .slice A0_5 l0_5.length c0_5, .int .i64 a0_6, .int .i64 a0_7], .agg #[.int .i64 a1_0, .int .i64 a1_1, .int .i64 a1_2, .int .i64 a1_3, .int .i64 a1_4, .int .i64 a1_5, .int .i64 a1_6, .int .i64 a1_7]] rfl M0 ?_; (with_reducible refine (impl_WhyNot.calls k a0_0 a0_1 _ _ l0_2 a0_3 a0_4 _ _ l0_5 a0_6 a0_7 a1_0 a1_1 a1_2 a1_3 a1_4 a1_5 a1_6 a1_7 t593 _ ?side1 ?side2 ?side3 ?side4 A3.o).mono ?_); (case side1 => exact Kd.qC (Kd.C_below HR0_2.o HB.o)); (case side2 => exact HC0_2.o); (case side3 => exact Kd.qC (Kd.C_below HR0_5.o HB.o)); (case side4 => exact HC0_5.o); rintro e w9 ⟨rfl, hb⟩; refine ⟨_, rfl, ?_⟩; have _ := zK (bB (qK BK591.o) hb); have _ := zK (bB (qK BK592.o) hb); have _ := zK (bT (qX HB.o) hb); clear BK591 BK592 HB; rename_i BK591 BK592 HB; (try clear hb); (try clear hb2); (try clear hk); (try clear hi)))
 go_ret
 exact ⟨by first | rfl | (simp [errW_none, errW_some] <;> rfl) | (simp [*, errW_none, errW_some] <;> rfl), by exact qX HB.o⟩

end Go.Proofs.Ytpkdbkheggfkkaa.PFnLetters
