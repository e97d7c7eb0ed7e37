/- Walks of functions that FnLetters reaches, shortened. -/
import Derived.Test.YtpkdbkheggfkkaaPFnLettersx0
import Derived.Test.YtpkdbkheggfkkaaPFnLettersx6
import Derived.Test.YtpkdbkheggfkkaaPFnLettersx12
namespace Go.Proofs.Ytpkdbkheggfkkaa.PFnLetters
open Go.RowKit Go.Proofs.YtpkdbkheggfkkaaW.PrintWords Go.Proofs.YtpkdbkheggfkkaaW.PrintLast Go.Proofs.YtpkdbkheggfkkaaW.PrintMore
attribute [local go_sem] max2_int min2_int max_two min_two max_three min_three max_four min_four
set_option linter.unusedVariables false
set_option linter.unusedSimpArgs false

/-! ### impl_Score: function 169 -/
mutual
def impl_Score.j0 : Nat → Int → Int → Int → List Int → Int → Int → List Int → Int → Int → Int → Int → Int → Int → Int → Int → Int → Int → Option (Int)
 | 0, _, _, _, _, _, _, _, _, _, _, _, _, _, _, _, _, _ => none
 | k + 1, x5, x595000, x595001, x595002, x595003, x595004, x595005, x595006, x595007, x596000, x596001, x596002, x596003, x596004, x596005, x596006, x596007 => if (wrap64 (x595004 - x595003)) ≤ 5 then (impl_Score.j1 k (wrap64 (x5 + 1)) x595000 x595001 x595002 x595003 x595004 x595005 x595006 x595007 x596000 x596001 x596002 x596003 x596004 x596005 x596006 x596007) else (impl_Score.j1 k x5 x595000 x595001 x595002 x595003 x595004 x595005 x595006 x595007 x596000 x596001 x596002 x596003 x596004 x596005 x596006 x596007)
def impl_Score.j1 : Nat → Int → Int → Int → List Int → Int → Int → List Int → Int → Int → Int → Int → Int → Int → Int → Int → Int → Int → Option (Int)
 | 0, _, _, _, _, _, _, _, _, _, _, _, _, _, _, _, _, _ => none
 | k + 1, x5, x595000, x595001, x595002, x595003, x595004, x595005, x595006, x595007, x596000, x596001, x596002, x596003, x596004, x596005, x596006, x596007 => (impl_InRange.f (x595005.length : Int) 1 2).bind fun t598 => (if t598 = true then (if (wrap64 (x596006 - x595007)) ≤ 24 then (some (wrap64 ((wrap64 (x5 + 1)) + 1))) else (some (wrap64 (x5 + 1)))) else (if (wrap64 (x596006 - x595007)) ≤ 24 then (some (wrap64 (x5 + 1))) else (some x5)))
end
def impl_Score.f (k : Nat) (a0_0 : Int) (a0_1 : Int) (l0_2 : List Int) (a0_3 : Int) (a0_4 : Int) (l0_5 : List Int) (a0_6 : Int) (a0_7 : Int) (a1_0 : Int) (a1_1 : Int) (a1_2 : Int) (a1_3 : Int) (a1_4 : Int) (a1_5 : Int) (a1_6 : Int) (a1_7 : Int) : Option (Int) := (impl_CanBe.f k a0_0 a0_1 l0_2 a0_3 a0_4 l0_5 a0_6 a0_7 a1_0 a1_1 a1_2 a1_3 a1_4 a1_5 a1_6 a1_7).bind fun t596 => (if t596 = true then ((impl_InRange.f (l0_2.length : Int) 1 2).bind fun t597 => (if t597 = true then (impl_Score.j0 k (1 + 1) a0_0 a0_1 l0_2 a0_3 a0_4 l0_5 a0_6 a0_7 a1_0 a1_1 a1_2 a1_3 a1_4 a1_5 a1_6 a1_7) else (impl_Score.j0 k 1 a0_0 a0_1 l0_2 a0_3 a0_4 l0_5 a0_6 a0_7 a1_0 a1_1 a1_2 a1_3 a1_4 a1_5 a1_6 a1_7))) else (some 0))
set_option maxRecDepth 100000 in
theorem lf13_0 {p : Prop} (h : p := by
  go_wp2_with (first | ((with_reducible refine gate_callee (f := 120) rfl ?_); refine goesL_ (some 27) rfl rfl Try.func120 (by kernel_rfl) rfl #[.int .i64 (l0_5.length : Int), .int .i64 1, .int .i64 2] rfl M0 ?_; (with_reducible refine (impl_InRange.calls (l0_5.length : Int) 1 2 false _ A19.o).mono ?_); rintro e w' ⟨rfl, ⟨nd, rfl⟩⟩; refine ⟨_, rfl, ?_⟩; obtain ⟨hczz0_0, hczz0_1, hczz0_2, hczz0_3, hczz0_4, hczz0_5, hczz0_6, hczz0_7, hfzz0_0, hfzz0_1, hfzz0_2, hfzz0_3, hfzz0_4, hfzz0_5, hfzz0_6, hfzz0_7⟩ := bx8 BK595.o))
  go_ret
  exact ⟨by first | rfl | (simp [errW_none, errW_some] <;> rfl) | (simp [*, errW_none, errW_some] <;> rfl), by exact qX HB.o⟩) : p := h
set_option maxRecDepth 100000 in
theorem lf13_1 {p : Prop} (h : p := by
  go_wp2_with (first | ((with_reducible refine gate_callee (f := 120) rfl ?_); refine goesL_ (some 27) rfl rfl Try.func120 (by kernel_rfl) rfl #[.int .i64 (l0_5.length : Int), .int .i64 1, .int .i64 2] rfl M0 ?_; (with_reducible refine (impl_InRange.calls (l0_5.length : Int) 1 2 true _ A19.o).mono ?_); rintro e w' ⟨rfl, ⟨nd, rfl⟩⟩; refine ⟨_, rfl, ?_⟩; obtain ⟨hczz0_0, hczz0_1, hczz0_2, hczz0_3, hczz0_4, hczz0_5, hczz0_6, hczz0_7, hfzz0_0, hfzz0_1, hfzz0_2, hfzz0_3, hfzz0_4, hfzz0_5, hfzz0_6, hfzz0_7⟩ := bx8 BK595.o))
  go_ret
  exact ⟨by first | rfl | (simp [errW_none, errW_some] <;> rfl) | (simp [*, errW_none, errW_some] <;> rfl), by exact qX HB.o⟩) : p := h
set_option maxHeartbeats 8000000 in
set_option maxRecDepth 100000 in
theorem impl_Score.calls (k : Nat) (a0_0 : Int) (a0_1 : Int) (A0_2 : Option Addr) (c0_2 : Nat) (l0_2 : List Int) (a0_3 : Int) (a0_4 : Int) (A0_5 : Option Addr) (c0_5 : Nat) (l0_5 : List Int) (a0_6 : Int) (a0_7 : Int) (a1_0 : Int) (a1_1 : Int) (a1_2 : Int) (a1_3 : Int) (a1_4 : Int) (a1_5 : Int) (a1_6 : Int) (a1_7 : Int) (r : Int) (w : World) (hr0_2 : Kd.C (Kd.int .i64) w A0_2 l0_2.length l0_2) (hc0_2 : l0_2.length ≤ c0_2) (hr0_5 : Kd.C (Kd.int .i64) w A0_5 l0_5.length l0_5) (hc0_5 : l0_5.length ≤ c0_5) (h : impl_Score.f k a0_0 a0_1 l0_2 a0_3 a0_4 l0_5 a0_6 a0_7 a1_0 a1_1 a1_2 a1_3 a1_4 a1_5 a1_6 a1_7 = some r) :
  Calls Try.prog 169 #[.agg #[.int .i64 a0_0, .int .i64 a0_1, .slice A0_2 l0_2.length c0_2, .int .i64 a0_3, .int .i64 a0_4, .slice A0_5 l0_5.length c0_5, .int .i64 a0_6, .int .i64 a0_7], .agg #[.int .i64 a1_0, .int .i64 a1_1, .int .i64 a1_2, .int .i64 a1_3, .int .i64 a1_4, .int .i64 a1_5, .int .i64 a1_6, .int .i64 a1_7]] w fun e w' => e = .returned (.int .i64 r) ∧ Below w.heap.size w w' := by
 have hu87 := Try.underlying87
 have hu126 := Try.underlying126
 have HR0_2 := zK hr0_2
 have HC0_2 := zK hc0_2
 clear hr0_2 hc0_2
 have HR0_5 := zK hr0_5
 have HC0_5 := zK hc0_5
 clear hr0_5 hc0_5
 have HB := zK (Below.refl w.heap.size w)
 have H : ((impl_CanBe.f k a0_0 a0_1 l0_2 a0_3 a0_4 l0_5 a0_6 a0_7 a1_0 a1_1 a1_2 a1_3 a1_4 a1_5 a1_6 a1_7).bind fun t596 => (if t596 = true then ((impl_InRange.f (l0_2.length : Int) 1 2).bind fun t597 => (if t597 = true then (impl_Score.j0 k (1 + 1) a0_0 a0_1 l0_2 a0_3 a0_4 l0_5 a0_6 a0_7 a1_0 a1_1 a1_2 a1_3 a1_4 a1_5 a1_6 a1_7) else (impl_Score.j0 k 1 a0_0 a0_1 l0_2 a0_3 a0_4 l0_5 a0_6 a0_7 a1_0 a1_1 a1_2 a1_3 a1_4 a1_5 a1_6 a1_7))) else (some 0))) = some r := h
 clear h
 replace H := Option.bind_eq_some_iff.mp H
 obtain ⟨t596, A30, H⟩ := H
 try dsimp only at H
 have A3 := zK A30
 clear A30
 by_cases c4 : t596 = true
 rotate_left
 ·replace c4 := Bool.eq_false_iff.mpr c4
  subst c4
  have H1 : (some 0) = some r := by rw [if_neg (show ¬ (false = true) by decide)] at H; exact H
  clear H
  have H := H1
  clear H1
  obtain rfl := Option.some.inj H
  go_enter Try.func169, Try.ntmps169
  go_wp2_with (first | ((with_reducible refine gate_dst (N := 2) rfl ?_); refine box_event ?hg (N := 2) ?hd (cs := #[.int .i64 a0_0, .int .i64 a0_1, .slice A0_2 l0_2.length c0_2, .int .i64 a0_3, .int .i64 a0_4, .slice A0_5 l0_5.length c0_5, .int .i64 a0_6, .int .i64 a0_7]) (t := 87) ?hr ?_; (case hd => rfl); (case hg => rfl); (case hr => first | (go_simp; done) | (go_simp; rfl)); intro gb594 hg w35 hbox hb; have _ := zK (bT (qB HB.o) hb); have _ := zK (hbox); have _ := zK ((by rw [hg]; exact (bZ (qB HB.o)) : w.heap.size ≤ gb594)); have _ := zK ((by rw [hg]; exact (bZ (qB HB.o)) : w.heap.size ≤ gb594)); clear HB; rename_i HB BK594 GW594 GE594; clear hb hbox hg) | ((with_reducible refine gate_dst (N := 3) rfl ?_); refine box_event ?hg (N := 3) ?hd (cs := #[.int .i64 a1_0, .int .i64 a1_1, .int .i64 a1_2, .int .i64 a1_3, .int .i64 a1_4, .int .i64 a1_5, .int .i64 a1_6, .int .i64 a1_7]) (t := 126) ?hr ?_; (case hd => rfl); (case hg => rfl); (case hr => first | (go_simp; done) | (go_simp; rfl)); intro gb595 hg w36 hbox hb; have _ := zK (bB (qK BK594.o) hb); have _ := zK (bT M22 hb); have _ := zK (hbox); have _ := zK ((by rw [hg]; exact (bZ M22) : w.heap.size ≤ gb595)); have _ := zK ((by rw [hg]; exact (bZ M22) : w.heap.size ≤ gb595)); have _ := zK ((by rw [hg]; exact Nat.ne_of_lt (blk_lt (qK BK594.o)) : gb594 ≠ gb595)); have _ := zK ((by rw [hg]; exact Nat.ne_of_gt (blk_lt (qK BK594.o)) : gb595 ≠ gb594)); clear BK594 HB; rename_i BK594 HB BK595 GW595 GE595 NB594_595 NB595_594; clear hb hbox hg; have hnb37 := NB594_595.o; have hnc37 := NB595_594.o; obtain ⟨hcz38_0, hcz38_1, hcz38_2, hcz38_3, hcz38_4, hcz38_5, hcz38_6, hcz38_7, hfz38_0, hfz38_1, hfz38_2, hfz38_3, hfz38_4, hfz38_5, hfz38_6, hfz38_7⟩ := bx8 BK594.o; obtain ⟨hcz39_0, hcz39_1, hcz39_2, hcz39_3, hcz39_4, hcz39_5, hcz39_6, hcz39_7, hfz39_0, hfz39_1, hfz39_2, hfz39_3, hfz39_4, hfz39_5, hfz39_6, hfz39_7⟩ := bx8 BK595.o) | ((with_reducible refine gate_callee (f := 123) rfl ?_); refine goesL_ (some 8) rfl rfl Try.func123 (by kernel_rfl) rfl #[.agg #[.int .i64 a0_0, .int .i64 a0_1, .slice A0_2 l0_2.length c0_2, .int .i64 a0_3, .int .i64 a0_4, .slice A0_5 l0_5.length c0_5, .int .i64 a0_6, .int .i64 a0_7], .agg #[.int .i64 a1_0, .int .i64 a1_1, .int .i64 a1_2, .int .i64 a1_3, .int .i64 a1_4, .int .i64 a1_5, .int .i64 a1_6, .int .i64 a1_7]] rfl M0 ?_; (with_reducible refine (impl_CanBe.calls k a0_0 a0_1 _ _ l0_2 a0_3 a0_4 _ _ l0_5 a0_6 a0_7 a1_0 a1_1 a1_2 a1_3 a1_4 a1_5 a1_6 a1_7 false _ ?side1 ?side2 ?side3 ?side4 A3.o).mono ?_); (case side1 => exact Kd.qC (Kd.C_below HR0_2.o HB.o)); (case side2 => exact HC0_2.o); (case side3 => exact Kd.qC (Kd.C_below HR0_5.o HB.o)); (case side4 => exact HC0_5.o); rintro e w40 ⟨rfl, hb⟩; refine ⟨_, rfl, ?_⟩; have _ := zK (bB (qK BK594.o) hb); have _ := zK (bB (qK BK595.o) hb); have _ := zK (bT (qX HB.o) hb); clear BK594 BK595 HB; rename_i BK594 BK595 HB; (try clear hb); (try clear hb2); (try clear hk); (try clear hi)))
  go_ret
  exact ⟨by first | rfl | (simp [errW_none, errW_some] <;> rfl) | (simp [*, errW_none, errW_some] <;> rfl), by exact qX HB.o⟩

 subst c4
 have H1 : ((impl_InRange.f (l0_2.length : Int) 1 2).bind fun t597 => (if t597 = true then (impl_Score.j0 k (1 + 1) a0_0 a0_1 l0_2 a0_3 a0_4 l0_5 a0_6 a0_7 a1_0 a1_1 a1_2 a1_3 a1_4 a1_5 a1_6 a1_7) else (impl_Score.j0 k 1 a0_0 a0_1 l0_2 a0_3 a0_4 l0_5 a0_6 a0_7 a1_0 a1_1 a1_2 a1_3 a1_4 a1_5 a1_6 a1_7))) = some r := by rw [if_pos rfl] at H; exact H
 clear H
 have H := H1
 clear H1
 replace H := Option.bind_eq_some_iff.mp H
 obtain ⟨t597, A50, H⟩ := H
 try dsimp only at H
 have A5 := zK A50
 clear A50
 have HC6 := zK H
 clear H
 go_enter Try.func169, Try.ntmps169
 go_upto_if 13 with (first | ((with_reducible refine gate_dst (N := 2) rfl ?_); refine box_event ?hg (N := 2) ?hd (cs := #[.int .i64 a0_0, .int .i64 a0_1, .slice A0_2 l0_2.length c0_2, .int .i64 a0_3, .int .i64 a0_4, .slice A0_5 l0_5.length c0_5, .int .i64 a0_6, .int .i64 a0_7]) (t := 87) ?hr ?_; (case hd => rfl); (case hg => rfl); (case hr => first | (go_simp; done) | (go_simp; rfl)); intro gb594 hg w7 hbox hb; have _ := zK (bT (qB HB.o) hb); have _ := zK (hbox); have _ := zK ((by rw [hg]; exact (bZ (qB HB.o)) : w.heap.size ≤ gb594)); have _ := zK ((by rw [hg]; exact (bZ (qB HB.o)) : w.heap.size ≤ gb594)); clear HB; rename_i HB BK594 GW594 GE594; clear hb hbox hg) | ((with_reducible refine gate_dst (N := 3) rfl ?_); refine box_event ?hg (N := 3) ?hd (cs := #[.int .i64 a1_0, .int .i64 a1_1, .int .i64 a1_2, .int .i64 a1_3, .int .i64 a1_4, .int .i64 a1_5, .int .i64 a1_6, .int .i64 a1_7]) (t := 126) ?hr ?_; (case hd => rfl); (case hg => rfl); (case hr => first | (go_simp; done) | (go_simp; rfl)); intro gb595 hg w8 hbox hb; have _ := zK (bB (qK BK594.o) hb); have _ := zK (bT M22 hb); have _ := zK (hbox); have _ := zK ((by rw [hg]; exact (bZ M22) : w.heap.size ≤ gb595)); have _ := zK ((by rw [hg]; exact (bZ M22) : w.heap.size ≤ gb595)); have _ := zK ((by rw [hg]; exact Nat.ne_of_lt (blk_lt (qK BK594.o)) : gb594 ≠ gb595)); have _ := zK ((by rw [hg]; exact Nat.ne_of_gt (blk_lt (qK BK594.o)) : gb595 ≠ gb594)); clear BK594 HB; rename_i BK594 HB BK595 GW595 GE595 NB594_595 NB595_594; clear hb hbox hg; have hnb9 := NB594_595.o; have hnc9 := NB595_594.o; obtain ⟨hcz10_0, hcz10_1, hcz10_2, hcz10_3, hcz10_4, hcz10_5, hcz10_6, hcz10_7, hfz10_0, hfz10_1, hfz10_2, hfz10_3, hfz10_4, hfz10_5, hfz10_6, hfz10_7⟩ := bx8 BK594.o; obtain ⟨hcz11_0, hcz11_1, hcz11_2, hcz11_3, hcz11_4, hcz11_5, hcz11_6, hcz11_7, hfz11_0, hfz11_1, hfz11_2, hfz11_3, hfz11_4, hfz11_5, hfz11_6, hfz11_7⟩ := bx8 BK595.o) | ((with_reducible refine gate_callee (f := 123) rfl ?_); refine goesL_ (some 8) rfl rfl Try.func123 (by kernel_rfl) rfl #[.agg #[.int .i64 a0_0, .int .i64 a0_1, .slice A0_2 l0_2.length c0_2, .int .i64 a0_3, .int .i64 a0_4, .slice A0_5 l0_5.length c0_5, .int .i64 a0_6, .int .i64 a0_7], .agg #[.int .i64 a1_0, .int .i64 a1_1, .int .i64 a1_2, .int .i64 a1_3, .int .i64 a1_4, .int .i64 a1_5, .int .i64 a1_6, .int .i64 a1_7]] rfl M0 ?_; (with_reducible refine (impl_CanBe.calls k a0_0 a0_1 _ _ l0_2 a0_3 a0_4 _ _ l0_5 a0_6 a0_7 a1_0 a1_1 a1_2 a1_3 a1_4 a1_5 a1_6 a1_7 true _ ?side1 ?side2 ?side3 ?side4 A3.o).mono ?_); (case side1 => exact Kd.qC (Kd.C_below HR0_2.o HB.o)); (case side2 => exact HC0_2.o); (case side3 => exact Kd.qC (Kd.C_below HR0_5.o HB.o)); (case side4 => exact HC0_5.o); rintro e w12 ⟨rfl, hb⟩; refine ⟨_, rfl, ?_⟩; have _ := zK (bB (qK BK594.o) hb); have _ := zK (bB (qK BK595.o) hb); have _ := zK (bT (qX HB.o) hb); clear BK594 BK595 HB; rename_i BK594 BK595 HB; (try clear hb); (try clear hb2); (try clear hk); (try clear hi); obtain ⟨hcz13_0, hcz13_1, hcz13_2, hcz13_3, hcz13_4, hcz13_5, hcz13_6, hcz13_7, hfz13_0, hfz13_1, hfz13_2, hfz13_3, hfz13_4, hfz13_5, hfz13_6, hfz13_7⟩ := bx8 BK594.o) | ((with_reducible refine gate_callee (f := 120) rfl ?_); refine goesL_ (some 13) rfl rfl Try.func120 (by kernel_rfl) rfl #[.int .i64 (l0_2.length : Int), .int .i64 1, .int .i64 2] rfl M0 ?_; (with_reducible refine (impl_InRange.calls (l0_2.length : Int) 1 2 t597 _ A5.o).mono ?_); rintro e w' ⟨rfl, ⟨nd, rfl⟩⟩; refine ⟨_, rfl, ?_⟩))
 (try simp only [Act.put, sA, sZ, sS])
 go_cut [5] (fun v5 wc => ∃ (kq : Nat) (x5_5 : Int), v5 = .int .i64 x5_5 ∧ Aside0 (impl_Score.j0 kq x5_5 a0_0 a0_1 l0_2 a0_3 a0_4 l0_5 a0_6 a0_7 a1_0 a1_1 a1_2 a1_3 a1_4 a1_5 a1_6 a1_7 = some r) ∧ Aside0 (kq ≤ k) ∧ Aside0 (wc.heap[gb594]? = some (.cells #[.int .i64 a0_0, .int .i64 a0_1, (.slice A0_2 l0_2.length c0_2), .int .i64 a0_3, .int .i64 a0_4, (.slice A0_5 l0_5.length c0_5), .int .i64 a0_6, .int .i64 a0_7] 87 (0, 0))) ∧ Aside0 (wc.heap[gb595]? = some (.cells #[.int .i64 a1_0, .int .i64 a1_1, .int .i64 a1_2, .int .i64 a1_3, .int .i64 a1_4, .int .i64 a1_5, .int .i64 a1_6, .int .i64 a1_7] 126 (0, 0))) ∧ Aside0 (Below w.heap.size w wc))
 case first =>
  have H := HC6.o
  clear HC6
  by_cases c14 : t597 = true
  ·subst c14
   have H1 : (impl_Score.j0 k (1 + 1) a0_0 a0_1 l0_2 a0_3 a0_4 l0_5 a0_6 a0_7 a1_0 a1_1 a1_2 a1_3 a1_4 a1_5 a1_6 a1_7) = some r := by rw [if_pos rfl] at H; exact H
   clear H
   have H := H1
   clear H1
   have H' := zK H
   clear H
   go_wp2
   go_meet
   case rel => exact ⟨_, (1 + 1), M7, H', ⟨by first | omega | exact Nat.le_refl _⟩, ⟨by exact qK BK594.o⟩, ⟨by exact qK BK595.o⟩, ⟨by exact qX HB.o⟩⟩
  replace c14 := Bool.eq_false_iff.mpr c14
  subst c14
  have H1 : (impl_Score.j0 k 1 a0_0 a0_1 l0_2 a0_3 a0_4 l0_5 a0_6 a0_7 a1_0 a1_1 a1_2 a1_3 a1_4 a1_5 a1_6 a1_7) = some r := by rw [if_neg (show ¬ (false = true) by decide)] at H; exact H
  clear H
  have H := H1
  clear H1
  have H' := zK H
  clear H
  go_wp2
  go_meet
  case rel => exact ⟨_, (1), M7, H', ⟨by first | omega | exact Nat.le_refl _⟩, ⟨by exact qK BK594.o⟩, ⟨by exact qK BK595.o⟩, ⟨by exact qX HB.o⟩⟩
 case rest =>
  clear HC6
  try clear c1
  try clear p2
  try clear c4
  try clear c9
  try clear c12
  try clear c14
  try clear hcz10_0 hcz10_1 hcz10_2 hcz10_3 hcz10_4 hcz10_5 hcz10_6 hcz10_7 hcz11_0 hcz11_1 hcz11_2 hcz11_3 hcz11_4 hcz11_5 hcz11_6 hcz11_7 hcz13_0 hcz13_1 hcz13_2 hcz13_3 hcz13_4 hcz13_5 hcz13_6 hcz13_7 hfz10_0 hfz10_1 hfz10_2 hfz10_3 hfz10_4 hfz10_5 hfz10_6 hfz10_7 hfz11_0 hfz11_1 hfz11_2 hfz11_3 hfz11_4 hfz11_5 hfz11_6 hfz11_7 hfz13_0 hfz13_1 hfz13_2 hfz13_3 hfz13_4 hfz13_5 hfz13_6 hfz13_7
  obtain ⟨kq, x5_5, rfl, HA, HJ5, BK594, BK595, HB⟩ := hcut
  cases kq with
  | zero => exact absurd HA.o (by simp [impl_Score.j0])
  | succ kj5 =>
   have H := HA.o
   clear HA
   simp only [impl_Score.j0] at H
   have HC15 := zK H
   clear H
   have hnb16 := NB594_595.o
   have hnc16 := NB595_594.o
   obtain ⟨hcz17_0, hcz17_1, hcz17_2, hcz17_3, hcz17_4, hcz17_5, hcz17_6, hcz17_7, hfz17_0, hfz17_1, hfz17_2, hfz17_3, hfz17_4, hfz17_5, hfz17_6, hfz17_7⟩ := bx8 BK594.o
   go_upto_if 21 with (fail)
   go_cut [5] (fun v5 wc => ∃ (kq : Nat) (x5_14 : Int), v5 = .int .i64 x5_14 ∧ Aside0 (impl_Score.j1 kq x5_14 a0_0 a0_1 l0_2 a0_3 a0_4 l0_5 a0_6 a0_7 a1_0 a1_1 a1_2 a1_3 a1_4 a1_5 a1_6 a1_7 = some r) ∧ Aside0 (kq ≤ kj5) ∧ Aside0 (wc.heap[gb594]? = some (.cells #[.int .i64 a0_0, .int .i64 a0_1, (.slice A0_2 l0_2.length c0_2), .int .i64 a0_3, .int .i64 a0_4, (.slice A0_5 l0_5.length c0_5), .int .i64 a0_6, .int .i64 a0_7] 87 (0, 0))) ∧ Aside0 (wc.heap[gb595]? = some (.cells #[.int .i64 a1_0, .int .i64 a1_1, .int .i64 a1_2, .int .i64 a1_3, .int .i64 a1_4, .int .i64 a1_5, .int .i64 a1_6, .int .i64 a1_7] 126 (0, 0))) ∧ Aside0 (Below w.heap.size w wc))
   case first =>
    have H := HC15.o
    clear HC15
    by_cases c18 : (wrap64 (a0_4 - a0_3)) ≤ 5
    rotate_left
    ·rw [if_neg c18] at H
     have c18b0 : decide ((wrap64 (a0_4 - a0_3)) ≤ 5) = false := decide_eq_false c18
     clear c18
     (first | rw [c18b0] | rw [c18b1] | (simp only [i64_w, i32_w]; rw [c18b0]) | skip)
     have H' := zK H
     clear H
     go_wp2
     go_meet
     case rel => exact ⟨_, (x5_5), M7, H', ⟨by have := HJ5.o; first | omega | exact Nat.le_refl _⟩, ⟨by exact qK BK594.o⟩, ⟨by exact qK BK595.o⟩, ⟨by exact qX HB.o⟩⟩
    rw [if_pos c18] at H
    have c18b0 : decide ((wrap64 (a0_4 - a0_3)) ≤ 5) = true := decide_eq_true c18
    clear c18
    (first | rw [c18b0] | rw [c18b1] | (simp only [i64_w, i32_w]; rw [c18b0]) | skip)
    have H' := zK H
    clear H
    go_wp2
    go_meet
    case rel => exact ⟨_, (wrap64 (x5_5 + 1)), M7, H', ⟨by have := HJ5.o; first | omega | exact Nat.le_refl _⟩, ⟨by exact qK BK594.o⟩, ⟨by exact qK BK595.o⟩, ⟨by exact qX HB.o⟩⟩
   case rest =>
    clear HC15
    try clear c1
    try clear p2
    try clear c4
    try clear p6
    try clear c9
    try clear c12
    try clear c14
    try clear c16
    try clear c18
    try clear c18b0
    try clear hcz10_0 hcz10_1 hcz10_2 hcz10_3 hcz10_4 hcz10_5 hcz10_6 hcz10_7 hcz11_0 hcz11_1 hcz11_2 hcz11_3 hcz11_4 hcz11_5 hcz11_6 hcz11_7 hcz13_0 hcz13_1 hcz13_2 hcz13_3 hcz13_4 hcz13_5 hcz13_6 hcz13_7 hcz17_0 hcz17_1 hcz17_2 hcz17_3 hcz17_4 hcz17_5 hcz17_6 hcz17_7 hfz10_0 hfz10_1 hfz10_2 hfz10_3 hfz10_4 hfz10_5 hfz10_6 hfz10_7 hfz11_0 hfz11_1 hfz11_2 hfz11_3 hfz11_4 hfz11_5 hfz11_6 hfz11_7 hfz13_0 hfz13_1 hfz13_2 hfz13_3 hfz13_4 hfz13_5 hfz13_6 hfz13_7 hfz17_0 hfz17_1 hfz17_2 hfz17_3 hfz17_4 hfz17_5 hfz17_6 hfz17_7
    try clear p2
    obtain ⟨kq, x5_14, rfl, HA, HJ14, BK594, BK595, HB⟩ := hcut
    cases kq with
    | zero => exact absurd HA.o (by simp [impl_Score.j1])
    | succ kj14 =>
     have H := HA.o
     clear HA
     simp only [impl_Score.j1] at H
     replace H := Option.bind_eq_some_iff.mp H
     obtain ⟨t598, A190, H⟩ := H
     try dsimp only at H
     have A19 := zK A190
     clear A190
     by_cases c20 : t598 = true
     ·subst c20
      have H1 : (if (wrap64 (a1_6 - a0_7)) ≤ 24 then (some (wrap64 ((wrap64 (x5_14 + 1)) + 1))) else (some (wrap64 (x5_14 + 1)))) = some r := by rw [if_pos rfl] at H; exact H
      clear H
      have H := H1
      clear H1
      by_cases c21 : (wrap64 (a1_6 - a0_7)) ≤ 24
      ·rw [if_pos c21] at H
       have c21b0 : decide ((wrap64 (a1_6 - a0_7)) ≤ 24) = true := decide_eq_true c21
       clear c21
       obtain rfl := Option.some.inj H
       have hnb22 := NB594_595.o
       have hnc22 := NB595_594.o
       obtain ⟨hcz23_0, hcz23_1, hcz23_2, hcz23_3, hcz23_4, hcz23_5, hcz23_6, hcz23_7, hfz23_0, hfz23_1, hfz23_2, hfz23_3, hfz23_4, hfz23_5, hfz23_6, hfz23_7⟩ := bx8 BK594.o
       exact lf13_1
      rw [if_neg c21] at H
      have c21b0 : decide ((wrap64 (a1_6 - a0_7)) ≤ 24) = false := decide_eq_false c21
      clear c21
      obtain rfl := Option.some.inj H
      have hnb25 := NB594_595.o
      have hnc25 := NB595_594.o
      obtain ⟨hcz26_0, hcz26_1, hcz26_2, hcz26_3, hcz26_4, hcz26_5, hcz26_6, hcz26_7, hfz26_0, hfz26_1, hfz26_2, hfz26_3, hfz26_4, hfz26_5, hfz26_6, hfz26_7⟩ := bx8 BK594.o
      exact lf13_1
     replace c20 := Bool.eq_false_iff.mpr c20
     subst c20
     have H1 : (if (wrap64 (a1_6 - a0_7)) ≤ 24 then (some (wrap64 (x5_14 + 1))) else (some x5_14)) = some r := by rw [if_neg (show ¬ (false = true) by decide)] at H; exact H
     clear H
     have H := H1
     clear H1
     by_cases c28 : (wrap64 (a1_6 - a0_7)) ≤ 24
     ·rw [if_pos c28] at H
      have c28b0 : decide ((wrap64 (a1_6 - a0_7)) ≤ 24) = true := decide_eq_true c28
      clear c28
      obtain rfl := Option.some.inj H
      have hnb29 := NB594_595.o
      have hnc29 := NB595_594.o
      obtain ⟨hcz30_0, hcz30_1, hcz30_2, hcz30_3, hcz30_4, hcz30_5, hcz30_6, hcz30_7, hfz30_0, hfz30_1, hfz30_2, hfz30_3, hfz30_4, hfz30_5, hfz30_6, hfz30_7⟩ := bx8 BK594.o
      exact lf13_0
     rw [if_neg c28] at H
     have c28b0 : decide ((wrap64 (a1_6 - a0_7)) ≤ 24) = false := decide_eq_false c28
     clear c28
     obtain rfl := Option.some.inj H
     have hnb32 := NB594_595.o
     have hnc32 := NB595_594.o
     obtain ⟨hcz33_0, hcz33_1, hcz33_2, hcz33_3, hcz33_4, hcz33_5, hcz33_6, hcz33_7, hfz33_0, hfz33_1, hfz33_2, hfz33_3, hfz33_4, hfz33_5, hfz33_6, hfz33_7⟩ := bx8 BK594.o
     exact lf13_0
-- NOT PRINTED: function 207 (impl_Letter_207)

-- NOT PRINTED: function 170 (impl_Letter_170)
/-! ### impl_toWrite_1: slices.ContainsFunc with function 171 -/
theorem impl_toWrite_1.run_mf (fn : Fn) (first cap : Array Value) (w : World) : (Instr.makeFunc fn first cap).run Try.prog w = .ok (.func fn first cap) w := rfl
theorem impl_toWrite_1.events_mf (fn : Fn) (first cap : Array Value) (w : World) (es : Array Event) : (Instr.makeFunc fn first cap).events Try.prog w es = es := rfl
attribute [local go_sem] impl_toWrite_1.run_mf impl_toWrite_1.events_mf
def impl_toWrite_1.p (a0 a1 : Int) (y : S81) : Bool := (y.f0 == a0) && (y.f1 == a1)
def impl_toWrite_1.idx (q : S81 → Bool) : Nat → List (S81) → Int
 | _, [] => -1
 | i, x :: l => if q x then (i : Int) else impl_toWrite_1.idx q (i + 1) l
theorem impl_toWrite_1.idx_any (q : S81 → Bool) : ∀ (l : List (S81)) (i : Nat), decide (0 ≤ impl_toWrite_1.idx q i l) = l.any q
 | [], i => by simp [impl_toWrite_1.idx]
 | x :: l, i => by
  have ih := impl_toWrite_1.idx_any q l (i + 1)
  by_cases hq : q x = true
  ·rw [show impl_toWrite_1.idx q i (x :: l) = (i : Int) by simp [impl_toWrite_1.idx, hq], List.any_cons, hq, Bool.true_or]
   exact decide_eq_true (by omega)
  ·rw [show impl_toWrite_1.idx q i (x :: l) = impl_toWrite_1.idx q (i + 1) l by simp [impl_toWrite_1.idx, hq], List.any_cons, Bool.eq_false_iff.mpr hq, Bool.false_or]
   exact ih
def impl_toWrite_1.f (l0 : List (S81)) (a0 a1 : Int) : Option Bool := some (l0.any (impl_toWrite_1.p a0 a1))
set_option maxHeartbeats 8000000 in
set_option maxRecDepth 100000 in
theorem impl_toWrite_1.one (y : S81) (B1 B2 : Nat) (a0 a1 : Int) (w : World) (hB1 : ∃ cs, w.heap[B1]? = some (.cells cs 87 (0, 0)) ∧ cs[0]? = some (.int .i64 a0)) (hB2 : ∃ cs, w.heap[B2]? = some (.cells cs 126 (0, 0)) ∧ cs[0]? = some (.int .i64 a1)) :
  Calls Try.prog 171 #[.agg #[.int .i64 y.f0, .int .i64 y.f1, .int .i64 y.f2], .pointer (some ⟨B1, 0, none⟩), .pointer (some ⟨B2, 0, none⟩)] w fun e w' => e = .returned (.bool (impl_toWrite_1.p a0 a1 y)) ∧ Below w.heap.size w w' := by
 obtain ⟨cs1, hB1, h1⟩ := hB1
 obtain ⟨cs2, hB2, h2⟩ := hB2
 have hc0 : ∀ o, (w.alloc o).cell? ⟨B1, 0, none⟩ = some (.int .i64 a0) := fun o => (bc (kA hB1 o) 0).trans h1
 have hc1 : ∀ o, (w.alloc o).cell? ⟨B2, 0, none⟩ = some (.int .i64 a1) := fun o => (bc (kA hB2 o) 0).trans h2
 have hd0 := (bc hB1 0).trans h1
 have hd1 := (bc hB2 0).trans h2
 rcases Bool.eq_false_or_eq_true (y.f0 == a0) with b0 | b0 <;>
 rcases Bool.eq_false_or_eq_true (y.f1 == a1) with b1 | b1 <;>
 (go_enter Try.func171, Try.ntmps171
  go_wp2
  go_ret
  exact ⟨by first | rfl | (simp [impl_toWrite_1.p]; done) | (simp [impl_toWrite_1.p] <;> rfl) | (simp [impl_toWrite_1.p, b0, b1]; done), by repeat (first | exact Below.refl _ _ | apply bA | apply bN | apply below_drew1)⟩)
set_option maxHeartbeats 8000000 in
set_option maxRecDepth 100000 in
theorem impl_toWrite_1.at (B1 B2 : Nat) (A0 : Option Addr) (c0 : Nat) (l0 : List (S81)) (a0 a1 : Int) (w : World) (hr0 : Kd.C k81 w A0 l0.length l0) (hc0 : l0.length ≤ c0) (hB1 : ∃ cs, w.heap[B1]? = some (.cells cs 87 (0, 0)) ∧ cs[0]? = some (.int .i64 a0)) (hB2 : ∃ cs, w.heap[B2]? = some (.cells cs 126 (0, 0)) ∧ cs[0]? = some (.int .i64 a1)) :
  Calls Try.prog 207 #[.slice A0 l0.length c0, .func (.func 171) #[] #[.pointer (some ⟨B1, 0, none⟩), .pointer (some ⟨B2, 0, none⟩)]] w fun e w' => e = .returned (.int .i64 (impl_toWrite_1.idx (impl_toWrite_1.p a0 a1) 0 l0)) ∧ Below w.heap.size w w' := by
 have hlen : l0.length ≤ 9223372036854775807 := hr0.2.1
 have HR0 := zK hr0
 obtain ⟨cs1, hB1, h1⟩ := hB1
 obtain ⟨cs2, hB2, h2⟩ := hB2
 have HB1 := zK hB1
 have HB2 := zK hB2
 have HV1 := zK h1
 have HV2 := zK h2
 clear hr0 hB1 hB2 h1 h2
 generalize hq : impl_toWrite_1.p a0 a1 = q
 obtain ⟨r, hr⟩ : ∃ r, r = impl_toWrite_1.idx q 0 l0 := ⟨_, rfl⟩
 rw [← hr]
 have R0 := zK hr
 have HQ := zK hq
 clear hr hq
 go_enter Try.func207, Try.ntmps207
 go_wp2
 go_loopg [5, 8] l0.length (fun kq v5 v8 w' => ∃ (x8 : Int), v8 = .int .i64 x8 ∧ 0 ≤ x8 ∧ x8 ≤ (l0.length : Int) ∧ (l0.length : Int) - x8 ≤ kq ∧ Aside0 (impl_toWrite_1.idx q x8.toNat (l0.drop x8.toNat) = r) ∧ Aside0 (Below w.heap.size w w'))
 case atStart => exact ⟨0, rfl, by omega, by omega, by omega, ⟨R0.o.symm⟩, ⟨Below.refl _ _⟩⟩
 case round =>
  obtain ⟨x8, rfl, h0, h1, h2, HA, HB⟩ := hrel
  by_cases c3 : x8 < (l0.length : Int)
  ·have c3b0 : decide (x8 < (l0.length : Int)) = true := decide_eq_true c3
   obtain ⟨ad1, e1, hx_0, hx_1, hx_2⟩ := at_T81 HR0.o x8 h0 c3
   cases e1
   replace hx_0 := cB HB.o hx_0
   replace hx_1 := cB HB.o hx_1
   replace hx_2 := cB HB.o hx_2
   have hrd : l0.drop x8.toNat = rd_T81 l0 x8 :: l0.drop (x8.toNat + 1) := by
    rw [List.drop_eq_getElem_cons (by omega)]
    congr 1
    rw [rd_T81, List.getD_eq_getElem?_getD, List.getElem?_eq_getElem (by omega)]
    rfl
   have hn : (x8 + 1).toNat = x8.toNat + 1 := by omega
   have hw : wrap64 (x8 + 1) = x8 + 1 := by
    unfold wrap64
    omega
   have hD := HA.o
   rw [hrd] at hD
   have hone := fun (W : World) (hb : ∃ cs, W.heap[B1]? = some (.cells cs 87 (0, 0)) ∧ cs[0]? = some (.int .i64 a0)) (hb2 : ∃ cs, W.heap[B2]? = some (.cells cs 126 (0, 0)) ∧ cs[0]? = some (.int .i64 a1)) => impl_toWrite_1.one (rd_T81 l0 x8) B1 B2 a0 a1 W hb hb2
   rw [HQ.o] at hone
   have hBr1 := zK (bB HB1.o HB.o)
   have hBr2 := zK (bB HB2.o HB.o)
   have p8 := eq_true h0
   have q8 := eq_true c3
   by_cases hcase : q (rd_T81 l0 x8) = true
   ·rw [hcase] at hone
    have hr : (x8.toNat : Int) = r := by
     rw [← hD]
     simp [impl_toWrite_1.idx, hcase]
    have hr' : x8 = r := by omega
    subst hr'
    go_wp2_with (go_at_call 171; (with_reducible refine (hone _ ⟨cs1, (qK hBr1.out), HV1.o⟩ ⟨cs2, (qK hBr2.out), HV2.o⟩).mono ?_); rintro e w14 ⟨rfl, hb⟩; have HB := zK (bT (qB HB.o) hb); clear hb)
    go_ret
    exact ⟨rfl, by exact qB HB.o⟩
   ·rw [Bool.eq_false_iff.mpr hcase] at hone
    have hr : impl_toWrite_1.idx q (x8 + 1).toNat (l0.drop (x8 + 1).toNat) = r := by
     rw [← hD, hn]
     simp [impl_toWrite_1.idx, hcase]
    have HA' := zK hr
    clear hD HA
    go_wp2_with (go_at_call 171; (with_reducible refine (hone _ ⟨cs1, (qK hBr1.out), HV1.o⟩ ⟨cs2, (qK hBr2.out), HV2.o⟩).mono ?_); rintro e w14 ⟨rfl, hb⟩; have HB := zK (bT (qB HB.o) hb); clear hb)
    go_roundg (gk - 1)
    case measure => omega
    case rel => exact ⟨x8 + 1, (by first | rfl | rw [hw] | (simp [hw]; done)), by omega, by omega, by omega, HA', ⟨by exact qB HB.o⟩⟩
  ·have c3b0 : decide (x8 < (l0.length : Int)) = false := decide_eq_false c3
   have hr : r = -1 := by
    have := HA.o
    rw [List.drop_of_length_le (by omega)] at this
    exact this.symm
   subst hr
   go_wp2
   go_ret
   exact ⟨rfl, HB.o⟩
set_option maxHeartbeats 8000000 in
set_option maxRecDepth 100000 in
theorem impl_toWrite_1.calls (B1 B2 : Nat) (A0 : Option Addr) (c0 : Nat) (l0 : List (S81)) (a0 a1 : Int) (r : Bool) (w : World) (hr0 : Kd.C k81 w A0 l0.length l0) (hc0 : l0.length ≤ c0) (hB1 : ∃ cs, w.heap[B1]? = some (.cells cs 87 (0, 0)) ∧ cs[0]? = some (.int .i64 a0)) (hB2 : ∃ cs, w.heap[B2]? = some (.cells cs 126 (0, 0)) ∧ cs[0]? = some (.int .i64 a1)) (h : impl_toWrite_1.f l0 a0 a1 = some r) :
  Calls Try.prog 170 #[.slice A0 l0.length c0, .func (.func 171) #[] #[.pointer (some ⟨B1, 0, none⟩), .pointer (some ⟨B2, 0, none⟩)]] w fun e w' => e = .returned (.bool r) ∧ Below w.heap.size w w' := by
 obtain rfl : l0.any (impl_toWrite_1.p a0 a1) = r := Option.some.inj h
 have HR0 := zK hr0
 obtain ⟨cs1, hB1, h1⟩ := hB1
 obtain ⟨cs2, hB2, h2⟩ := hB2
 have HB1 := zK hB1
 have HB2 := zK hB2
 have HV1 := zK h1
 have HV2 := zK h2
 have HC0 := zK hc0
 have hi := (impl_toWrite_1.idx_any (impl_toWrite_1.p a0 a1) l0 0).symm
 clear hr0 hB1 hB2 h1 h2 hc0 h
 obtain ⟨r, hr⟩ : ∃ r, r = impl_toWrite_1.idx (impl_toWrite_1.p a0 a1) 0 l0 := ⟨_, rfl⟩
 rw [← hr] at hi
 rw [hi]
 have R0 := zK hr.symm
 clear hr hi
 go_enter Try.func170, Try.ntmps170
 go_wp2_with (go_at_call 207; (with_reducible refine (impl_toWrite_1.at B1 B2 _ _ l0 a0 a1 _ ?side1 ?side2 ?side3 ?side4).mono ?_); (case side1 => exact Kd.qC HR0.o); (case side2 => exact HC0.o); (case side3 => exact ⟨cs1, (qK HB1.o), HV1.o⟩); (case side4 => exact ⟨cs2, (qK HB2.o), HV2.o⟩); rintro e w14 ⟨rfl, hb⟩; rw [R0.o])
 go_ret
 exact ⟨by first | rfl | (simp; done), by first | exact hb | (repeat (first | exact hb | apply bA | apply bN | apply below_drew1))⟩
/-! ### impl_toWrite: function 119 -/
def impl_toWrite.l0 : Nat → List (S81) → Int → Int → List (S126) → Int → Int → Int → Int → List Int → Int → Int → List Int → Int → Int → Option (Int)
 | 0, _, _, _, _, _, _, _, _, _, _, _, _, _, _ => none
 | k + 1, x0, x7, x8, x12, x13, x14, x600000, x600001, x600002, x600003, x600004, x600005, x600006, x600007 => if x14 < x13 then (if 0 ≤ x14 then (if x14 < (x12.length : Int) then ((impl_Score.f k x600000 x600001 x600002 x600003 x600004 x600005 x600006 x600007 ((rd_T126 x12 x14).f0.f0) ((rd_T126 x12 x14).f0.f1) ((rd_T126 x12 x14).f0.f2) ((rd_T126 x12 x14).f0.f3) ((rd_T126 x12 x14).f0.f4) ((rd_T126 x12 x14).f1) ((rd_T126 x12 x14).f2) ((rd_T126 x12 x14).f3)).bind fun t602 => (if t602 > x8 then ((impl_toWrite_1.f x0 x600000 ((rd_T126 x12 x14).f0.f0)).bind fun t603 => (if t603 = true then (impl_toWrite.l0 k x0 x7 x8 x12 x13 (wrap64 (x14 + 1)) x600000 x600001 x600002 x600003 x600004 x600005 x600006 x600007) else (impl_toWrite.l0 k x0 ((rd_T126 x12 x14).f0.f0) t602 x12 x13 (wrap64 (x14 + 1)) x600000 x600001 x600002 x600003 x600004 x600005 x600006 x600007))) else (impl_toWrite.l0 k x0 x7 x8 x12 x13 (wrap64 (x14 + 1)) x600000 x600001 x600002 x600003 x600004 x600005 x600006 x600007))) else (none)) else (none)) else (some x7)
def impl_toWrite.f (k : Nat) (l0 : List (S81)) (a1_0 : Int) (a1_1 : Int) (l1_2 : List Int) (a1_3 : Int) (a1_4 : Int) (l1_5 : List Int) (a1_6 : Int) (a1_7 : Int) (l2 : List (S126)) : Option (Int) := impl_toWrite.l0 k l0 0 0 l2 (l2.length : Int) 0 a1_0 a1_1 l1_2 a1_3 a1_4 l1_5 a1_6 a1_7
set_option maxHeartbeats 8000000 in
set_option maxRecDepth 100000 in
theorem impl_toWrite.calls (k : Nat) (A0 : Option Addr) (c0 : Nat) (l0 : List (S81)) (a1_0 : Int) (a1_1 : Int) (A1_2 : Option Addr) (c1_2 : Nat) (l1_2 : List Int) (a1_3 : Int) (a1_4 : Int) (A1_5 : Option Addr) (c1_5 : Nat) (l1_5 : List Int) (a1_6 : Int) (a1_7 : Int) (A2 : Option Addr) (c2 : Nat) (l2 : List (S126)) (r : Int) (w : World) (hr0 : Kd.C k81 w A0 l0.length l0) (hc0 : l0.length ≤ c0) (hr1_2 : Kd.C (Kd.int .i64) w A1_2 l1_2.length l1_2) (hc1_2 : l1_2.length ≤ c1_2) (hr1_5 : Kd.C (Kd.int .i64) w A1_5 l1_5.length l1_5) (hc1_5 : l1_5.length ≤ c1_5) (hr2 : Kd.C k126 w A2 l2.length l2) (hc2 : l2.length ≤ c2) (h : impl_toWrite.f k l0 a1_0 a1_1 l1_2 a1_3 a1_4 l1_5 a1_6 a1_7 l2 = some r) :
  Calls Try.prog 119 #[.slice A0 l0.length c0, .agg #[.int .i64 a1_0, .int .i64 a1_1, .slice A1_2 l1_2.length c1_2, .int .i64 a1_3, .int .i64 a1_4, .slice A1_5 l1_5.length c1_5, .int .i64 a1_6, .int .i64 a1_7], .slice A2 l2.length c2] w fun e w' => e = .returned (.int .i64 r) ∧ Below w.heap.size w w' := by
 have hu87 := Try.underlying87
 have hu126 := Try.underlying126
 have HR0 := zK hr0
 have HC0 := zK hc0
 clear hr0 hc0
 have HR1_2 := zK hr1_2
 have HC1_2 := zK hc1_2
 clear hr1_2 hc1_2
 have HR1_5 := zK hr1_5
 have HC1_5 := zK hc1_5
 clear hr1_5 hc1_5
 have HR2 := zK hr2
 have HC2 := zK hc2
 clear hr2 hc2
 have HB := zK (Below.refl w.heap.size w)
 have H : (impl_toWrite.l0 k l0 0 0 l2 (l2.length : Int) 0 a1_0 a1_1 l1_2 a1_3 a1_4 l1_5 a1_6 a1_7) = some r := h
 clear h
 have H' := zK H
 clear H
 go_enter Try.func119, Try.ntmps119
 go_wp2_with (first | ((with_reducible refine gate_dst (N := 4) rfl ?_); refine box_event ?hg (N := 4) ?hd (cs := #[.int .i64 a1_0, .int .i64 a1_1, .slice A1_2 l1_2.length c1_2, .int .i64 a1_3, .int .i64 a1_4, .slice A1_5 l1_5.length c1_5, .int .i64 a1_6, .int .i64 a1_7]) (t := 87) ?hr ?_; (case hd => rfl); (case hg => rfl); (case hr => first | (go_simp; done) | (go_simp; rfl)); intro gb599 hg w4 hbox hb; have _ := zK (bT (qB HB.o) hb); have _ := zK (hbox); have _ := zK ((by rw [hg]; exact (bZ (qB HB.o)) : w.heap.size ≤ gb599)); have _ := zK ((by rw [hg]; exact (bZ (qB HB.o)) : w.heap.size ≤ gb599)); clear HB; rename_i HB BK599 GW599 GE599; clear hb hbox hg))
 go_loopg [7, 8, 14] k (fun kq v7 v8 v14 w' => ∃ (x7_1 : Int) (x8_1 : Int) (x14_1 : Int), v7 = .int .i64 x7_1 ∧ v8 = .int .i64 x8_1 ∧ v14 = .int .i64 x14_1 ∧ Aside0 (impl_toWrite.l0 kq l0 x7_1 x8_1 l2 (l2.length : Int) x14_1 a1_0 a1_1 l1_2 a1_3 a1_4 l1_5 a1_6 a1_7 = some r) ∧ Aside0 (kq ≤ k) ∧ Aside0 (w'.heap[gb599]? = some (.cells #[.int .i64 a1_0, .int .i64 a1_1, (.slice A1_2 l1_2.length c1_2), .int .i64 a1_3, .int .i64 a1_4, (.slice A1_5 l1_5.length c1_5), .int .i64 a1_6, .int .i64 a1_7] 87 (0, 0))) ∧ Aside0 (Below w.heap.size w w'))
 case atStart => exact ⟨(0), (0), (0), M7, M7, M7, H', ⟨Nat.le_refl _⟩, ⟨by exact qK BK599.o⟩, ⟨by exact qX HB.o⟩⟩
 case round =>
  clear H'
  try clear c1
  try clear c2
  try clear p2
  obtain ⟨x7_1, x8_1, x14_1, rfl, rfl, rfl, HA, HK1, BK599, HB⟩ := hrel
  cases gk with
  | zero => exact absurd HA.o (by simp [impl_toWrite.l0])
  | succ k1 =>
   have H := HA.o
   clear HA
   simp only [impl_toWrite.l0] at H
   by_cases c5 : x14_1 < (l2.length : Int)
   rotate_left
   ·rw [if_neg c5] at H
    have c5b0 : decide (x14_1 < (l2.length : Int)) = false := decide_eq_false c5
    clear c5
    obtain rfl := Option.some.inj H
    go_wp2
    go_ret
    exact ⟨by first | rfl | (simp [errW_none, errW_some] <;> rfl) | (simp [*, errW_none, errW_some] <;> rfl), by exact qX HB.o⟩

   rw [if_pos c5] at H
   have c5b0 : decide (x14_1 < (l2.length : Int)) = true := decide_eq_true c5
   clear c5
   by_cases c6 : 0 ≤ x14_1
   rotate_left
   ·rw [if_neg c6] at H
    exact absurd H (by simp)
   rw [if_pos c6] at H
   have c6b0 : decide (0 ≤ x14_1) = true := decide_eq_true c6
   clear c6
   by_cases c7 : x14_1 < (l2.length : Int)
   rotate_left
   ·rw [if_neg c7] at H
    exact absurd H (by simp)
   rw [if_pos c7] at H
   have c7b0 : decide (x14_1 < (l2.length : Int)) = true := decide_eq_true c7
   clear c7
   replace H := Option.bind_eq_some_iff.mp H
   obtain ⟨t602, A80, H⟩ := H
   try dsimp only at H
   have A8 := zK A80
   clear A80
   by_cases c9 : t602 > x8_1
   rotate_left
   ·rw [if_neg c9] at H
    have c9b0 : decide (x8_1 < t602) = false := decide_eq_false c9
    clear c9
    have H' := zK H
    clear H
    have p600 : 0 ≤ (x14_1 : Int) := oD M3
    have q600 : x14_1 < (l2.length : Int) := oD M3
    obtain ⟨ad600, e600, hx600_0, hx600_1, hx600_2, hx600_3, hx600_4, hx600_5, hx600_6, hx600_7⟩ := at_T126 HR2.o x14_1 p600 q600
    cases e600
    replace hx600_0 := cB HB.o hx600_0
    replace hx600_1 := cB HB.o hx600_1
    replace hx600_2 := cB HB.o hx600_2
    replace hx600_3 := cB HB.o hx600_3
    replace hx600_4 := cB HB.o hx600_4
    replace hx600_5 := cB HB.o hx600_5
    replace hx600_6 := cB HB.o hx600_6
    replace hx600_7 := cB HB.o hx600_7
    replace p600 := eq_true p600
    replace q600 := eq_true q600
    go_wp2_with (first | ((with_reducible refine gate_dst (N := 10) rfl ?_); refine box_event ?hg (N := 10) ?hd (cs := #[.int .i64 0, .int .i64 0, .int .i64 0, .int .i64 0, .int .i64 0, .int .i64 0, .int .i64 0, .int .i64 0]) (t := 126) ?hr ?_; (case hd => rfl); (case hg => rfl); (case hr => first | (go_simp; done) | (go_simp; rfl)); intro gb601 hg w29 hbox hb; have _ := zK (bB (qK BK599.o) hb); have _ := zK (bT M22 hb); have _ := zK (hbox); have _ := zK ((by rw [hg]; exact (bZ M22) : w.heap.size ≤ gb601)); have _ := zK ((by rw [hg]; exact (bZ M22) : w.heap.size ≤ gb601)); have _ := zK ((by rw [hg]; exact Nat.ne_of_lt (blk_lt (qK BK599.o)) : gb599 ≠ gb601)); have _ := zK ((by rw [hg]; exact Nat.ne_of_gt (blk_lt (qK BK599.o)) : gb601 ≠ gb599)); clear BK599 HB; rename_i BK599 HB BK601 GW601 GE601 NB599_601 NB601_599; clear hb hbox hg; have hnb30 := NB601_599.o; have hnc30 := NB599_601.o; obtain ⟨hcz31_0, hcz31_1, hcz31_2, hcz31_3, hcz31_4, hcz31_5, hcz31_6, hcz31_7, hfz31_0, hfz31_1, hfz31_2, hfz31_3, hfz31_4, hfz31_5, hfz31_6, hfz31_7⟩ := bx8 BK601.o; obtain ⟨hcz32_0, hcz32_1, hcz32_2, hcz32_3, hcz32_4, hcz32_5, hcz32_6, hcz32_7, hfz32_0, hfz32_1, hfz32_2, hfz32_3, hfz32_4, hfz32_5, hfz32_6, hfz32_7⟩ := bx8 BK599.o) | ((with_reducible refine gate_callee (f := 169) rfl ?_); refine goesL_ (some 20) rfl rfl Try.func169 (by kernel_rfl) rfl #[.agg #[.int .i64 a1_0, .int .i64 a1_1, .slice A1_2 l1_2.length c1_2, .int .i64 a1_3, .int .i64 a1_4, .slice A1_5 l1_5.length c1_5, .int .i64 a1_6, .int .i64 a1_7], .agg #[.int .i64 ((rd_T126 l2 x14_1).f0.f0), .int .i64 ((rd_T126 l2 x14_1).f0.f1), .int .i64 ((rd_T126 l2 x14_1).f0.f2), .int .i64 ((rd_T126 l2 x14_1).f0.f3), .int .i64 ((rd_T126 l2 x14_1).f0.f4), .int .i64 ((rd_T126 l2 x14_1).f1), .int .i64 ((rd_T126 l2 x14_1).f2), .int .i64 ((rd_T126 l2 x14_1).f3)]] rfl M0 ?_; (with_reducible refine (impl_Score.calls k1 a1_0 a1_1 _ _ l1_2 a1_3 a1_4 _ _ l1_5 a1_6 a1_7 ((rd_T126 l2 x14_1).f0.f0) ((rd_T126 l2 x14_1).f0.f1) ((rd_T126 l2 x14_1).f0.f2) ((rd_T126 l2 x14_1).f0.f3) ((rd_T126 l2 x14_1).f0.f4) ((rd_T126 l2 x14_1).f1) ((rd_T126 l2 x14_1).f2) ((rd_T126 l2 x14_1).f3) t602 _ ?side1 ?side2 ?side3 ?side4 A8.o).mono ?_); (case side1 => exact Kd.C_below HR1_2.o M22); (case side2 => exact HC1_2.o); (case side3 => exact Kd.C_below HR1_5.o M22); (case side4 => exact HC1_5.o); rintro e w33 ⟨rfl, hb⟩; refine ⟨_, rfl, ?_⟩; have _ := zK (bB (g := gb599) (o := .cells #[.int .i64 a1_0, .int .i64 a1_1, .slice A1_2 l1_2.length c1_2, .int .i64 a1_3, .int .i64 a1_4, .slice A1_5 l1_5.length c1_5, .int .i64 a1_6, .int .i64 a1_7] 87 (0, 0)) M15 hb); have _ := zK (bB (g := gb601) (o := .cells #[.int .i64 ((rd_T126 l2 x14_1).f0.f0), .int .i64 ((rd_T126 l2 x14_1).f0.f1), .int .i64 ((rd_T126 l2 x14_1).f0.f2), .int .i64 ((rd_T126 l2 x14_1).f0.f3), .int .i64 ((rd_T126 l2 x14_1).f0.f4), .int .i64 ((rd_T126 l2 x14_1).f1), .int .i64 ((rd_T126 l2 x14_1).f2), .int .i64 ((rd_T126 l2 x14_1).f3)] 126 (0, 0)) (by (with_reducible repeat (first | refine kN ?_ _ | refine kD ?_ | refine kA ?_ _)); refine blk_put (cs := #[.int .i64 ((rd_T126 l2 x14_1).f0.f0), .int .i64 ((rd_T126 l2 x14_1).f0.f1), .int .i64 ((rd_T126 l2 x14_1).f0.f2), .int .i64 ((rd_T126 l2 x14_1).f0.f3), .int .i64 ((rd_T126 l2 x14_1).f0.f4), .int .i64 ((rd_T126 l2 x14_1).f1), .int .i64 ((rd_T126 l2 x14_1).f2), .int .i64 0]) ?_ 7 _ rfl; (with_reducible repeat (first | refine kN ?_ _ | refine kD ?_ | refine kA ?_ _)); refine blk_put (cs := #[.int .i64 ((rd_T126 l2 x14_1).f0.f0), .int .i64 ((rd_T126 l2 x14_1).f0.f1), .int .i64 ((rd_T126 l2 x14_1).f0.f2), .int .i64 ((rd_T126 l2 x14_1).f0.f3), .int .i64 ((rd_T126 l2 x14_1).f0.f4), .int .i64 ((rd_T126 l2 x14_1).f1), .int .i64 0, .int .i64 0]) ?_ 6 _ rfl; (with_reducible repeat (first | refine kN ?_ _ | refine kD ?_ | refine kA ?_ _)); refine blk_put (cs := #[.int .i64 ((rd_T126 l2 x14_1).f0.f0), .int .i64 ((rd_T126 l2 x14_1).f0.f1), .int .i64 ((rd_T126 l2 x14_1).f0.f2), .int .i64 ((rd_T126 l2 x14_1).f0.f3), .int .i64 ((rd_T126 l2 x14_1).f0.f4), .int .i64 0, .int .i64 0, .int .i64 0]) ?_ 5 _ rfl; (with_reducible repeat (first | refine kN ?_ _ | refine kD ?_ | refine kA ?_ _)); refine blk_put (cs := #[.int .i64 ((rd_T126 l2 x14_1).f0.f0), .int .i64 ((rd_T126 l2 x14_1).f0.f1), .int .i64 ((rd_T126 l2 x14_1).f0.f2), .int .i64 ((rd_T126 l2 x14_1).f0.f3), .int .i64 0, .int .i64 0, .int .i64 0, .int .i64 0]) ?_ 4 _ rfl; (with_reducible repeat (first | refine kN ?_ _ | refine kD ?_ | refine kA ?_ _)); refine blk_put (cs := #[.int .i64 ((rd_T126 l2 x14_1).f0.f0), .int .i64 ((rd_T126 l2 x14_1).f0.f1), .int .i64 ((rd_T126 l2 x14_1).f0.f2), .int .i64 0, .int .i64 0, .int .i64 0, .int .i64 0, .int .i64 0]) ?_ 3 _ rfl; (with_reducible repeat (first | refine kN ?_ _ | refine kD ?_ | refine kA ?_ _)); refine blk_put (cs := #[.int .i64 ((rd_T126 l2 x14_1).f0.f0), .int .i64 ((rd_T126 l2 x14_1).f0.f1), .int .i64 0, .int .i64 0, .int .i64 0, .int .i64 0, .int .i64 0, .int .i64 0]) ?_ 2 _ rfl; (with_reducible repeat (first | refine kN ?_ _ | refine kD ?_ | refine kA ?_ _)); refine blk_put (cs := #[.int .i64 ((rd_T126 l2 x14_1).f0.f0), .int .i64 0, .int .i64 0, .int .i64 0, .int .i64 0, .int .i64 0, .int .i64 0, .int .i64 0]) ?_ 1 _ rfl; (with_reducible repeat (first | refine kN ?_ _ | refine kD ?_ | refine kA ?_ _)); refine blk_put (cs := #[.int .i64 0, .int .i64 0, .int .i64 0, .int .i64 0, .int .i64 0, .int .i64 0, .int .i64 0, .int .i64 0]) ?_ 0 _ rfl; exact qK BK601.o) hb); have _ := zK (bT M22 hb); clear BK599 BK601 HB; rename_i BK599 BK601 HB; (try clear hb); (try clear hb2); (try clear hk); (try clear hi)))
    go_roundg k1
    case measure => have := HK1.o; omega
    case rel => exact ⟨(x7_1), (x8_1), (wrap64 (x14_1 + 1)), M7, M7, M7, H', ⟨by have := HK1.o; omega⟩, ⟨by exact qK BK599.o⟩, ⟨by exact qX HB.o⟩⟩
   rw [if_pos c9] at H
   have c9b0 : decide (x8_1 < t602) = true := decide_eq_true c9
   clear c9
   replace H := Option.bind_eq_some_iff.mp H
   obtain ⟨t603, A100, H⟩ := H
   try dsimp only at H
   have A10 := zK A100
   clear A100
   by_cases c11 : t603 = true
   ·subst c11
    have H1 : (impl_toWrite.l0 k1 l0 x7_1 x8_1 l2 (l2.length : Int) (wrap64 (x14_1 + 1)) a1_0 a1_1 l1_2 a1_3 a1_4 l1_5 a1_6 a1_7) = some r := by rw [if_pos rfl] at H; exact H
    clear H
    have H := H1
    clear H1
    have H' := zK H
    clear H
    have p600 : 0 ≤ (x14_1 : Int) := oD M3
    have q600 : x14_1 < (l2.length : Int) := oD M3
    obtain ⟨ad600, e600, hx600_0, hx600_1, hx600_2, hx600_3, hx600_4, hx600_5, hx600_6, hx600_7⟩ := at_T126 HR2.o x14_1 p600 q600
    cases e600
    replace hx600_0 := cB HB.o hx600_0
    replace hx600_1 := cB HB.o hx600_1
    replace hx600_2 := cB HB.o hx600_2
    replace hx600_3 := cB HB.o hx600_3
    replace hx600_4 := cB HB.o hx600_4
    replace hx600_5 := cB HB.o hx600_5
    replace hx600_6 := cB HB.o hx600_6
    replace hx600_7 := cB HB.o hx600_7
    replace p600 := eq_true p600
    replace q600 := eq_true q600
    go_wp2_with (first | ((with_reducible refine gate_dst (N := 10) rfl ?_); refine box_event ?hg (N := 10) ?hd (cs := #[.int .i64 0, .int .i64 0, .int .i64 0, .int .i64 0, .int .i64 0, .int .i64 0, .int .i64 0, .int .i64 0]) (t := 126) ?hr ?_; (case hd => rfl); (case hg => rfl); (case hr => first | (go_simp; done) | (go_simp; rfl)); intro gb601 hg w12 hbox hb; have _ := zK (bB (qK BK599.o) hb); have _ := zK (bT M22 hb); have _ := zK (hbox); have _ := zK ((by rw [hg]; exact (bZ M22) : w.heap.size ≤ gb601)); have _ := zK ((by rw [hg]; exact (bZ M22) : w.heap.size ≤ gb601)); have _ := zK ((by rw [hg]; exact Nat.ne_of_lt (blk_lt (qK BK599.o)) : gb599 ≠ gb601)); have _ := zK ((by rw [hg]; exact Nat.ne_of_gt (blk_lt (qK BK599.o)) : gb601 ≠ gb599)); clear BK599 HB; rename_i BK599 HB BK601 GW601 GE601 NB599_601 NB601_599; clear hb hbox hg; have hnb13 := NB601_599.o; have hnc13 := NB599_601.o; obtain ⟨hcz14_0, hcz14_1, hcz14_2, hcz14_3, hcz14_4, hcz14_5, hcz14_6, hcz14_7, hfz14_0, hfz14_1, hfz14_2, hfz14_3, hfz14_4, hfz14_5, hfz14_6, hfz14_7⟩ := bx8 BK601.o; obtain ⟨hcz15_0, hcz15_1, hcz15_2, hcz15_3, hcz15_4, hcz15_5, hcz15_6, hcz15_7, hfz15_0, hfz15_1, hfz15_2, hfz15_3, hfz15_4, hfz15_5, hfz15_6, hfz15_7⟩ := bx8 BK599.o) | ((with_reducible refine gate_callee (f := 169) rfl ?_); refine goesL_ (some 20) rfl rfl Try.func169 (by kernel_rfl) rfl #[.agg #[.int .i64 a1_0, .int .i64 a1_1, .slice A1_2 l1_2.length c1_2, .int .i64 a1_3, .int .i64 a1_4, .slice A1_5 l1_5.length c1_5, .int .i64 a1_6, .int .i64 a1_7], .agg #[.int .i64 ((rd_T126 l2 x14_1).f0.f0), .int .i64 ((rd_T126 l2 x14_1).f0.f1), .int .i64 ((rd_T126 l2 x14_1).f0.f2), .int .i64 ((rd_T126 l2 x14_1).f0.f3), .int .i64 ((rd_T126 l2 x14_1).f0.f4), .int .i64 ((rd_T126 l2 x14_1).f1), .int .i64 ((rd_T126 l2 x14_1).f2), .int .i64 ((rd_T126 l2 x14_1).f3)]] rfl M0 ?_; (with_reducible refine (impl_Score.calls k1 a1_0 a1_1 _ _ l1_2 a1_3 a1_4 _ _ l1_5 a1_6 a1_7 ((rd_T126 l2 x14_1).f0.f0) ((rd_T126 l2 x14_1).f0.f1) ((rd_T126 l2 x14_1).f0.f2) ((rd_T126 l2 x14_1).f0.f3) ((rd_T126 l2 x14_1).f0.f4) ((rd_T126 l2 x14_1).f1) ((rd_T126 l2 x14_1).f2) ((rd_T126 l2 x14_1).f3) t602 _ ?side1 ?side2 ?side3 ?side4 A8.o).mono ?_); (case side1 => exact Kd.C_below HR1_2.o M22); (case side2 => exact HC1_2.o); (case side3 => exact Kd.C_below HR1_5.o M22); (case side4 => exact HC1_5.o); rintro e w16 ⟨rfl, hb⟩; refine ⟨_, rfl, ?_⟩; have _ := zK (bB (g := gb599) (o := .cells #[.int .i64 a1_0, .int .i64 a1_1, .slice A1_2 l1_2.length c1_2, .int .i64 a1_3, .int .i64 a1_4, .slice A1_5 l1_5.length c1_5, .int .i64 a1_6, .int .i64 a1_7] 87 (0, 0)) M15 hb); have _ := zK (bB (g := gb601) (o := .cells #[.int .i64 ((rd_T126 l2 x14_1).f0.f0), .int .i64 ((rd_T126 l2 x14_1).f0.f1), .int .i64 ((rd_T126 l2 x14_1).f0.f2), .int .i64 ((rd_T126 l2 x14_1).f0.f3), .int .i64 ((rd_T126 l2 x14_1).f0.f4), .int .i64 ((rd_T126 l2 x14_1).f1), .int .i64 ((rd_T126 l2 x14_1).f2), .int .i64 ((rd_T126 l2 x14_1).f3)] 126 (0, 0)) (by (with_reducible repeat (first | refine kN ?_ _ | refine kD ?_ | refine kA ?_ _)); refine blk_put (cs := #[.int .i64 ((rd_T126 l2 x14_1).f0.f0), .int .i64 ((rd_T126 l2 x14_1).f0.f1), .int .i64 ((rd_T126 l2 x14_1).f0.f2), .int .i64 ((rd_T126 l2 x14_1).f0.f3), .int .i64 ((rd_T126 l2 x14_1).f0.f4), .int .i64 ((rd_T126 l2 x14_1).f1), .int .i64 ((rd_T126 l2 x14_1).f2), .int .i64 0]) ?_ 7 _ rfl; (with_reducible repeat (first | refine kN ?_ _ | refine kD ?_ | refine kA ?_ _)); refine blk_put (cs := #[.int .i64 ((rd_T126 l2 x14_1).f0.f0), .int .i64 ((rd_T126 l2 x14_1).f0.f1), .int .i64 ((rd_T126 l2 x14_1).f0.f2), .int .i64 ((rd_T126 l2 x14_1).f0.f3), .int .i64 ((rd_T126 l2 x14_1).f0.f4), .int .i64 ((rd_T126 l2 x14_1).f1), .int .i64 0, .int .i64 0]) ?_ 6 _ rfl; (with_reducible repeat (first | refine kN ?_ _ | refine kD ?_ | refine kA ?_ _)); refine blk_put (cs := #[.int .i64 ((rd_T126 l2 x14_1).f0.f0), .int .i64 ((rd_T126 l2 x14_1).f0.f1), .int .i64 ((rd_T126 l2 x14_1).f0.f2), .int .i64 ((rd_T126 l2 x14_1).f0.f3), .int .i64 ((rd_T126 l2 x14_1).f0.f4), .int .i64 0, .int .i64 0, .int .i64 0]) ?_ 5 _ rfl; (with_reducible repeat (first | refine kN ?_ _ | refine kD ?_ | refine kA ?_ _)); refine blk_put (cs := #[.int .i64 ((rd_T126 l2 x14_1).f0.f0), .int .i64 ((rd_T126 l2 x14_1).f0.f1), .int .i64 ((rd_T126 l2 x14_1).f0.f2), .int .i64 ((rd_T126 l2 x14_1).f0.f3), .int .i64 0, .int .i64 0, .int .i64 0, .int .i64 0]) ?_ 4 _ rfl; (with_reducible repeat (first | refine kN ?_ _ | refine kD ?_ | refine kA ?_ _)); refine blk_put (cs := #[.int .i64 ((rd_T126 l2 x14_1).f0.f0), .int .i64 ((rd_T126 l2 x14_1).f0.f1), .int .i64 ((rd_T126 l2 x14_1).f0.f2), .int .i64 0, .int .i64 0, .int .i64 0, .int .i64 0, .int .i64 0]) ?_ 3 _ rfl; (with_reducible repeat (first | refine kN ?_ _ | refine kD ?_ | refine kA ?_ _)); refine blk_put (cs := #[.int .i64 ((rd_T126 l2 x14_1).f0.f0), .int .i64 ((rd_T126 l2 x14_1).f0.f1), .int .i64 0, .int .i64 0, .int .i64 0, .int .i64 0, .int .i64 0, .int .i64 0]) ?_ 2 _ rfl; (with_reducible repeat (first | refine kN ?_ _ | refine kD ?_ | refine kA ?_ _)); refine blk_put (cs := #[.int .i64 ((rd_T126 l2 x14_1).f0.f0), .int .i64 0, .int .i64 0, .int .i64 0, .int .i64 0, .int .i64 0, .int .i64 0, .int .i64 0]) ?_ 1 _ rfl; (with_reducible repeat (first | refine kN ?_ _ | refine kD ?_ | refine kA ?_ _)); refine blk_put (cs := #[.int .i64 0, .int .i64 0, .int .i64 0, .int .i64 0, .int .i64 0, .int .i64 0, .int .i64 0, .int .i64 0]) ?_ 0 _ rfl; exact qK BK601.o) hb); have _ := zK (bT M22 hb); clear BK599 BK601 HB; rename_i BK599 BK601 HB; (try clear hb); (try clear hb2); (try clear hk); (try clear hi); obtain ⟨hcz17_0, hcz17_1, hcz17_2, hcz17_3, hcz17_4, hcz17_5, hcz17_6, hcz17_7, hfz17_0, hfz17_1, hfz17_2, hfz17_3, hfz17_4, hfz17_5, hfz17_6, hfz17_7⟩ := bx8 BK599.o; obtain ⟨hcz18_0, hcz18_1, hcz18_2, hcz18_3, hcz18_4, hcz18_5, hcz18_6, hcz18_7, hfz18_0, hfz18_1, hfz18_2, hfz18_3, hfz18_4, hfz18_5, hfz18_6, hfz18_7⟩ := bx8 BK601.o) | (go_at_call 170; (with_reducible refine (impl_toWrite_1.calls _ _ _ _ l0 a1_0 ((rd_T126 l2 x14_1).f0.f0) true _ ?side1 ?side2 ?side3 ?side4 A10.o).mono ?_); (case side1 => exact Kd.qC (Kd.C_below HR0.o HB.o)); (case side2 => exact HC0.o); (case side3 => first | exact ⟨_, (qK BK599.o), rfl⟩ | exact ⟨_, (qK BK601.o), rfl⟩); (case side4 => first | exact ⟨_, (qK BK599.o), rfl⟩ | exact ⟨_, (qK BK601.o), rfl⟩); rintro e w19 ⟨rfl, hb⟩; have _ := zK (bB (qK BK599.o) hb); have _ := zK (bB (qK BK601.o) hb); have _ := zK (bT M22 hb); clear BK599 BK601 HB; rename_i BK599 BK601 HB; (try clear hb); (try clear hb2); (try clear hk); (try clear hi)))
    go_roundg k1
    case measure => have := HK1.o; omega
    case rel => exact ⟨(x7_1), (x8_1), (wrap64 (x14_1 + 1)), M7, M7, M7, H', ⟨by have := HK1.o; omega⟩, ⟨by exact qK BK599.o⟩, ⟨by exact qX HB.o⟩⟩
   replace c11 := Bool.eq_false_iff.mpr c11
   subst c11
   have H1 : (impl_toWrite.l0 k1 l0 ((rd_T126 l2 x14_1).f0.f0) t602 l2 (l2.length : Int) (wrap64 (x14_1 + 1)) a1_0 a1_1 l1_2 a1_3 a1_4 l1_5 a1_6 a1_7) = some r := by rw [if_neg (show ¬ (false = true) by decide)] at H; exact H
   clear H
   have H := H1
   clear H1
   have H' := zK H
   clear H
   have p600 : 0 ≤ (x14_1 : Int) := oD M3
   have q600 : x14_1 < (l2.length : Int) := oD M3
   obtain ⟨ad600, e600, hx600_0, hx600_1, hx600_2, hx600_3, hx600_4, hx600_5, hx600_6, hx600_7⟩ := at_T126 HR2.o x14_1 p600 q600
   cases e600
   replace hx600_0 := cB HB.o hx600_0
   replace hx600_1 := cB HB.o hx600_1
   replace hx600_2 := cB HB.o hx600_2
   replace hx600_3 := cB HB.o hx600_3
   replace hx600_4 := cB HB.o hx600_4
   replace hx600_5 := cB HB.o hx600_5
   replace hx600_6 := cB HB.o hx600_6
   replace hx600_7 := cB HB.o hx600_7
   replace p600 := eq_true p600
   replace q600 := eq_true q600
   go_wp2_with (first | ((with_reducible refine gate_dst (N := 10) rfl ?_); refine box_event ?hg (N := 10) ?hd (cs := #[.int .i64 0, .int .i64 0, .int .i64 0, .int .i64 0, .int .i64 0, .int .i64 0, .int .i64 0, .int .i64 0]) (t := 126) ?hr ?_; (case hd => rfl); (case hg => rfl); (case hr => first | (go_simp; done) | (go_simp; rfl)); intro gb601 hg w20 hbox hb; have _ := zK (bB (qK BK599.o) hb); have _ := zK (bT M22 hb); have _ := zK (hbox); have _ := zK ((by rw [hg]; exact (bZ M22) : w.heap.size ≤ gb601)); have _ := zK ((by rw [hg]; exact (bZ M22) : w.heap.size ≤ gb601)); have _ := zK ((by rw [hg]; exact Nat.ne_of_lt (blk_lt (qK BK599.o)) : gb599 ≠ gb601)); have _ := zK ((by rw [hg]; exact Nat.ne_of_gt (blk_lt (qK BK599.o)) : gb601 ≠ gb599)); clear BK599 HB; rename_i BK599 HB BK601 GW601 GE601 NB599_601 NB601_599; clear hb hbox hg; have hnb21 := NB601_599.o; have hnc21 := NB599_601.o; obtain ⟨hcz22_0, hcz22_1, hcz22_2, hcz22_3, hcz22_4, hcz22_5, hcz22_6, hcz22_7, hfz22_0, hfz22_1, hfz22_2, hfz22_3, hfz22_4, hfz22_5, hfz22_6, hfz22_7⟩ := bx8 BK601.o; obtain ⟨hcz23_0, hcz23_1, hcz23_2, hcz23_3, hcz23_4, hcz23_5, hcz23_6, hcz23_7, hfz23_0, hfz23_1, hfz23_2, hfz23_3, hfz23_4, hfz23_5, hfz23_6, hfz23_7⟩ := bx8 BK599.o) | ((with_reducible refine gate_callee (f := 169) rfl ?_); refine goesL_ (some 20) rfl rfl Try.func169 (by kernel_rfl) rfl #[.agg #[.int .i64 a1_0, .int .i64 a1_1, .slice A1_2 l1_2.length c1_2, .int .i64 a1_3, .int .i64 a1_4, .slice A1_5 l1_5.length c1_5, .int .i64 a1_6, .int .i64 a1_7], .agg #[.int .i64 ((rd_T126 l2 x14_1).f0.f0), .int .i64 ((rd_T126 l2 x14_1).f0.f1), .int .i64 ((rd_T126 l2 x14_1).f0.f2), .int .i64 ((rd_T126 l2 x14_1).f0.f3), .int .i64 ((rd_T126 l2 x14_1).f0.f4), .int .i64 ((rd_T126 l2 x14_1).f1), .int .i64 ((rd_T126 l2 x14_1).f2), .int .i64 ((rd_T126 l2 x14_1).f3)]] rfl M0 ?_; (with_reducible refine (impl_Score.calls k1 a1_0 a1_1 _ _ l1_2 a1_3 a1_4 _ _ l1_5 a1_6 a1_7 ((rd_T126 l2 x14_1).f0.f0) ((rd_T126 l2 x14_1).f0.f1) ((rd_T126 l2 x14_1).f0.f2) ((rd_T126 l2 x14_1).f0.f3) ((rd_T126 l2 x14_1).f0.f4) ((rd_T126 l2 x14_1).f1) ((rd_T126 l2 x14_1).f2) ((rd_T126 l2 x14_1).f3) t602 _ ?side1 ?side2 ?side3 ?side4 A8.o).mono ?_); (case side1 => exact Kd.C_below HR1_2.o M22); (case side2 => exact HC1_2.o); (case side3 => exact Kd.C_below HR1_5.o M22); (case side4 => exact HC1_5.o); rintro e w24 ⟨rfl, hb⟩; refine ⟨_, rfl, ?_⟩; have _ := zK (bB (g := gb599) (o := .cells #[.int .i64 a1_0, .int .i64 a1_1, .slice A1_2 l1_2.length c1_2, .int .i64 a1_3, .int .i64 a1_4, .slice A1_5 l1_5.length c1_5, .int .i64 a1_6, .int .i64 a1_7] 87 (0, 0)) M15 hb); have _ := zK (bB (g := gb601) (o := .cells #[.int .i64 ((rd_T126 l2 x14_1).f0.f0), .int .i64 ((rd_T126 l2 x14_1).f0.f1), .int .i64 ((rd_T126 l2 x14_1).f0.f2), .int .i64 ((rd_T126 l2 x14_1).f0.f3), .int .i64 ((rd_T126 l2 x14_1).f0.f4), .int .i64 ((rd_T126 l2 x14_1).f1), .int .i64 ((rd_T126 l2 x14_1).f2), .int .i64 ((rd_T126 l2 x14_1).f3)] 126 (0, 0)) (by (with_reducible repeat (first | refine kN ?_ _ | refine kD ?_ | refine kA ?_ _)); refine blk_put (cs := #[.int .i64 ((rd_T126 l2 x14_1).f0.f0), .int .i64 ((rd_T126 l2 x14_1).f0.f1), .int .i64 ((rd_T126 l2 x14_1).f0.f2), .int .i64 ((rd_T126 l2 x14_1).f0.f3), .int .i64 ((rd_T126 l2 x14_1).f0.f4), .int .i64 ((rd_T126 l2 x14_1).f1), .int .i64 ((rd_T126 l2 x14_1).f2), .int .i64 0]) ?_ 7 _ rfl; (with_reducible repeat (first | refine kN ?_ _ | refine kD ?_ | refine kA ?_ _)); refine blk_put (cs := #[.int .i64 ((rd_T126 l2 x14_1).f0.f0), .int .i64 ((rd_T126 l2 x14_1).f0.f1), .int .i64 ((rd_T126 l2 x14_1).f0.f2), .int .i64 ((rd_T126 l2 x14_1).f0.f3), .int .i64 ((rd_T126 l2 x14_1).f0.f4), .int .i64 ((rd_T126 l2 x14_1).f1), .int .i64 0, .int .i64 0]) ?_ 6 _ rfl; (with_reducible repeat (first | refine kN ?_ _ | refine kD ?_ | refine kA ?_ _)); refine blk_put (cs := #[.int .i64 ((rd_T126 l2 x14_1).f0.f0), .int .i64 ((rd_T126 l2 x14_1).f0.f1), .int .i64 ((rd_T126 l2 x14_1).f0.f2), .int .i64 ((rd_T126 l2 x14_1).f0.f3), .int .i64 ((rd_T126 l2 x14_1).f0.f4), .int .i64 0, .int .i64 0, .int .i64 0]) ?_ 5 _ rfl; (with_reducible repeat (first | refine kN ?_ _ | refine kD ?_ | refine kA ?_ _)); refine blk_put (cs := #[.int .i64 ((rd_T126 l2 x14_1).f0.f0), .int .i64 ((rd_T126 l2 x14_1).f0.f1), .int .i64 ((rd_T126 l2 x14_1).f0.f2), .int .i64 ((rd_T126 l2 x14_1).f0.f3), .int .i64 0, .int .i64 0, .int .i64 0, .int .i64 0]) ?_ 4 _ rfl; (with_reducible repeat (first | refine kN ?_ _ | refine kD ?_ | refine kA ?_ _)); refine blk_put (cs := #[.int .i64 ((rd_T126 l2 x14_1).f0.f0), .int .i64 ((rd_T126 l2 x14_1).f0.f1), .int .i64 ((rd_T126 l2 x14_1).f0.f2), .int .i64 0, .int .i64 0, .int .i64 0, .int .i64 0, .int .i64 0]) ?_ 3 _ rfl; (with_reducible repeat (first | refine kN ?_ _ | refine kD ?_ | refine kA ?_ _)); refine blk_put (cs := #[.int .i64 ((rd_T126 l2 x14_1).f0.f0), .int .i64 ((rd_T126 l2 x14_1).f0.f1), .int .i64 0, .int .i64 0, .int .i64 0, .int .i64 0, .int .i64 0, .int .i64 0]) ?_ 2 _ rfl; (with_reducible repeat (first | refine kN ?_ _ | refine kD ?_ | refine kA ?_ _)); refine blk_put (cs := #[.int .i64 ((rd_T126 l2 x14_1).f0.f0), .int .i64 0, .int .i64 0, .int .i64 0, .int .i64 0, .int .i64 0, .int .i64 0, .int .i64 0]) ?_ 1 _ rfl; (with_reducible repeat (first | refine kN ?_ _ | refine kD ?_ | refine kA ?_ _)); refine blk_put (cs := #[.int .i64 0, .int .i64 0, .int .i64 0, .int .i64 0, .int .i64 0, .int .i64 0, .int .i64 0, .int .i64 0]) ?_ 0 _ rfl; exact qK BK601.o) hb); have _ := zK (bT M22 hb); clear BK599 BK601 HB; rename_i BK599 BK601 HB; (try clear hb); (try clear hb2); (try clear hk); (try clear hi); obtain ⟨hcz25_0, hcz25_1, hcz25_2, hcz25_3, hcz25_4, hcz25_5, hcz25_6, hcz25_7, hfz25_0, hfz25_1, hfz25_2, hfz25_3, hfz25_4, hfz25_5, hfz25_6, hfz25_7⟩ := bx8 BK599.o; obtain ⟨hcz26_0, hcz26_1, hcz26_2, hcz26_3, hcz26_4, hcz26_5, hcz26_6, hcz26_7, hfz26_0, hfz26_1, hfz26_2, hfz26_3, hfz26_4, hfz26_5, hfz26_6, hfz26_7⟩ := bx8 BK601.o) | (go_at_call 170; (with_reducible refine (impl_toWrite_1.calls _ _ _ _ l0 a1_0 ((rd_T126 l2 x14_1).f0.f0) false _ ?side1 ?side2 ?side3 ?side4 A10.o).mono ?_); (case side1 => exact Kd.qC (Kd.C_below HR0.o HB.o)); (case side2 => exact HC0.o); (case side3 => first | exact ⟨_, (qK BK599.o), rfl⟩ | exact ⟨_, (qK BK601.o), rfl⟩); (case side4 => first | exact ⟨_, (qK BK599.o), rfl⟩ | exact ⟨_, (qK BK601.o), rfl⟩); rintro e w27 ⟨rfl, hb⟩; have _ := zK (bB (qK BK599.o) hb); have _ := zK (bB (qK BK601.o) hb); have _ := zK (bT M22 hb); clear BK599 BK601 HB; rename_i BK599 BK601 HB; (try clear hb); (try clear hb2); (try clear hk); (try clear hi); obtain ⟨hcz28_0, hcz28_1, hcz28_2, hcz28_3, hcz28_4, hcz28_5, hcz28_6, hcz28_7, hfz28_0, hfz28_1, hfz28_2, hfz28_3, hfz28_4, hfz28_5, hfz28_6, hfz28_7⟩ := bx8 BK601.o))
   go_roundg k1
   case measure => have := HK1.o; omega
   case rel => exact ⟨((rd_T126 l2 x14_1).f0.f0), (t602), (wrap64 (x14_1 + 1)), M7, M7, M7, H', ⟨by have := HK1.o; omega⟩, ⟨by exact qK BK599.o⟩, ⟨by exact qX HB.o⟩⟩
end Go.Proofs.Ytpkdbkheggfkkaa.PFnLetters
