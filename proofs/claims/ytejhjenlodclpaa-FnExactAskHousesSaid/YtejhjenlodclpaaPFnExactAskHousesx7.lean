/- Walks of functions that FnExactAskHouses reaches: written by a tool of the kit for this claim, then shortened by a program of ours. -/
import Derived.Test.YtejhjenlodclpaaPFnExactAskHousesx0
import Derived.Test.YtejhjenlodclpaaPFnExactAskHousesx6
/- narrow -/
namespace Go.Proofs.Ytejhjenlodclpaa.PFnExactAskHouses
open Go.RowKit Go.Proofs.YtejhjenlodclpaaW.PrintWords Go.Proofs.YtejhjenlodclpaaW.PrintLast Go.Proofs.YtejhjenlodclpaaW.PrintMore
attribute [local go_sem] max2_int min2_int max_two min_two max_three min_three max_four min_four   -- for this text's walks alone
set_option linter.unusedVariables false
set_option linter.unusedSimpArgs false

/-! ### impl_IsReport: function 92 -/
def impl_IsReport.f (k : Nat) (a0_0 : Int) (a0_1 : Int) (l0_2 : List Int) (a0_3 : Int) (a0_4 : Int) (l0_5 : List Int) (a0_6 : Int) (a0_7 : Int) : Option (Bool) := (impl_InRange.f a0_0 1 999).bind fun t253 => (if t253 = true then ((impl_InRange.f a0_1 1 8).bind fun t254 => (if t254 = true then ((impl_isAscending.f k l0_2 0 7).bind fun t255 => (if t255 = true then (if 1 ≤ a0_3 then (if a0_3 ≤ a0_4 then (if a0_4 ≤ 50 then ((impl_isAscending.f k l0_5 1 30).bind fun t256 => (if t256 = true then (if (l0_5.length : Int) ≤ 10 then ((impl_IsSpan.f a0_6 a0_7).bind fun t257 => (some t257)) else (some false)) else (some false))) else (some false)) else (some false)) else (some false)) else (some false))) else (some false))) else (some false))
set_option maxHeartbeats 8000000 in
set_option maxRecDepth 100000 in
theorem impl_IsReport.calls (k : Nat) (a0_0 : Int) (a0_1 : Int) (A0_2 : Option Addr) (c0_2 : Nat) (l0_2 : List Int) (a0_3 : Int) (a0_4 : Int) (A0_5 : Option Addr) (c0_5 : Nat) (l0_5 : List Int) (a0_6 : Int) (a0_7 : Int) (r : Bool) (w : World) (hr0_2 : Kd.C (Kd.int .i64) w A0_2 l0_2.length l0_2) (hc0_2 : l0_2.length ≤ c0_2) (hr0_5 : Kd.C (Kd.int .i64) w A0_5 l0_5.length l0_5) (hc0_5 : l0_5.length ≤ c0_5) (h : impl_IsReport.f k a0_0 a0_1 l0_2 a0_3 a0_4 l0_5 a0_6 a0_7 = some r) :
  Calls Try.prog 92 #[.agg #[.int .i64 a0_0, .int .i64 a0_1, .slice A0_2 l0_2.length c0_2, .int .i64 a0_3, .int .i64 a0_4, .slice A0_5 l0_5.length c0_5, .int .i64 a0_6, .int .i64 a0_7]] w fun e w' => e = .returned (.bool r) ∧ Below w.heap.size w w' := by
 have hu41 := Try.underlying41
 have hu39 := Try.underlying39
 have HR0_2 := zK hr0_2
 have HC0_2 := zK hc0_2
 clear hr0_2 hc0_2
 have HR0_5 := zK hr0_5
 have HC0_5 := zK hc0_5
 clear hr0_5 hc0_5
 have HB := zK (Below.refl w.heap.size w)
 have H : ((impl_InRange.f a0_0 1 999).bind fun t253 => (if t253 = true then ((impl_InRange.f a0_1 1 8).bind fun t254 => (if t254 = true then ((impl_isAscending.f k l0_2 0 7).bind fun t255 => (if t255 = true then (if 1 ≤ a0_3 then (if a0_3 ≤ a0_4 then (if a0_4 ≤ 50 then ((impl_isAscending.f k l0_5 1 30).bind fun t256 => (if t256 = true then (if (l0_5.length : Int) ≤ 10 then ((impl_IsSpan.f a0_6 a0_7).bind fun t257 => (some t257)) else (some false)) else (some false))) else (some false)) else (some false)) else (some false)) else (some false))) else (some false))) else (some false))) = some r := h
 clear h
 replace H := Option.bind_eq_some_iff.mp H
 obtain ⟨t253, A20, H⟩ := H
 replace H : (if t253 = true then ((impl_InRange.f a0_1 1 8).bind fun t254 => (if t254 = true then ((impl_isAscending.f k l0_2 0 7).bind fun t255 => (if t255 = true then (if 1 ≤ a0_3 then (if a0_3 ≤ a0_4 then (if a0_4 ≤ 50 then ((impl_isAscending.f k l0_5 1 30).bind fun t256 => (if t256 = true then (if (l0_5.length : Int) ≤ 10 then ((impl_IsSpan.f a0_6 a0_7).bind fun t257 => (some t257)) else (some false)) else (some false))) else (some false)) else (some false)) else (some false)) else (some false))) else (some false))) else (some false)) = some r := H
 have A2 := zK A20
 clear A20
 by_cases c3 : t253 = true
 rotate_left
 ·replace c3 := Bool.eq_false_iff.mpr c3
  subst c3
  have H1 : (some false) = some r := by rw [if_neg (show ¬ (false = true) by decide)] at H; exact H
  clear H
  have H := H1
  clear H1
  obtain rfl := Option.some.inj H
  go_enter Try.func92, Try.ntmps92
  go_wp2_with (first | ((with_reducible refine gate_dst (N := 1) rfl ?_); (try (refine gate_guard (by rfl) ?_; dsimp only)); refine box_event ?hg (N := 1) ?hd (cs := #[.int .i64 a0_0, .int .i64 a0_1, .slice A0_2 l0_2.length c0_2, .int .i64 a0_3, .int .i64 a0_4, .slice A0_5 l0_5.length c0_5, .int .i64 a0_6, .int .i64 a0_7]) (t := 41) ?hr ?_; (case hd => rfl); (case hg => rfl); (case hr => first | (go_simp; done) | (go_simp; rfl)); intro gb252 hg w32 hbox hb; have n0_ := zK (bT (qB HB.out) hb); have n1_ := zK (hbox); have n2_ := zK ((by rw [hg]; exact (bZ (qB HB.out)) : w.heap.size ≤ gb252)); have n3_ := zK ((by rw [hg]; exact (bZ (qB HB.out)) : w.heap.size ≤ gb252)); clear HB; have HB := n0_; have BK252 := n1_; have GW252 := n2_; have GE252 := n3_; clear n0_ n1_ n2_ n3_; clear hb hbox hg; have hcz33_0 : w32.cell? ⟨gb252, 0, none⟩ = some (.int .i64 a0_0) := (bc BK252.out 0).trans rfl; have hcz33_1 : w32.cell? ⟨gb252, 1, none⟩ = some (.int .i64 a0_1) := (bc BK252.out 1).trans rfl; have hcz33_2 : w32.cell? ⟨gb252, 2, none⟩ = some (.slice A0_2 l0_2.length c0_2) := (bc BK252.out 2).trans rfl; have hcz33_3 : w32.cell? ⟨gb252, 3, none⟩ = some (.int .i64 a0_3) := (bc BK252.out 3).trans rfl; have hcz33_4 : w32.cell? ⟨gb252, 4, none⟩ = some (.int .i64 a0_4) := (bc BK252.out 4).trans rfl; have hcz33_5 : w32.cell? ⟨gb252, 5, none⟩ = some (.slice A0_5 l0_5.length c0_5) := (bc BK252.out 5).trans rfl; have hcz33_6 : w32.cell? ⟨gb252, 6, none⟩ = some (.int .i64 a0_6) := (bc BK252.out 6).trans rfl; have hcz33_7 : w32.cell? ⟨gb252, 7, none⟩ = some (.int .i64 a0_7) := (bc BK252.out 7).trans rfl; have hfz33_0 := bf BK252.out 0; have hfz33_1 := bf BK252.out 1; have hfz33_2 := bf BK252.out 2; have hfz33_3 := bf BK252.out 3; have hfz33_4 := bf BK252.out 4; have hfz33_5 := bf BK252.out 5; have hfz33_6 := bf BK252.out 6; have hfz33_7 := bf BK252.out 7) | ((with_reducible refine gate_callee (f := 106) rfl ?_); refine goesL_ (some 5) rfl rfl Try.func106 (by kernel_rfl) rfl #[.int .i64 a0_0, .int .i64 1, .int .i64 999] rfl m0 ?_; (with_reducible refine (impl_InRange.calls a0_0 1 999 false _ A2.out).mono ?_); rintro e w' ⟨rfl, ⟨nd, rfl⟩⟩; refine ⟨_, rfl, ?_⟩))
  go_ret
  exact ⟨by first | rfl | (simp [errW_none, errW_some] <;> rfl) | (simp [*, errW_none, errW_some] <;> rfl), by repeat (first | (with_reducible first | exact HB.out | apply bA | apply bN | apply b1 | refine bS ?_ GE252.out) | exact HB.out)⟩
 subst c3
 have H1 : ((impl_InRange.f a0_1 1 8).bind fun t254 => (if t254 = true then ((impl_isAscending.f k l0_2 0 7).bind fun t255 => (if t255 = true then (if 1 ≤ a0_3 then (if a0_3 ≤ a0_4 then (if a0_4 ≤ 50 then ((impl_isAscending.f k l0_5 1 30).bind fun t256 => (if t256 = true then (if (l0_5.length : Int) ≤ 10 then ((impl_IsSpan.f a0_6 a0_7).bind fun t257 => (some t257)) else (some false)) else (some false))) else (some false)) else (some false)) else (some false)) else (some false))) else (some false))) = some r := by rw [if_pos rfl] at H; exact H
 clear H
 have H := H1
 clear H1
 replace H := Option.bind_eq_some_iff.mp H
 obtain ⟨t254, A40, H⟩ := H
 replace H : (if t254 = true then ((impl_isAscending.f k l0_2 0 7).bind fun t255 => (if t255 = true then (if 1 ≤ a0_3 then (if a0_3 ≤ a0_4 then (if a0_4 ≤ 50 then ((impl_isAscending.f k l0_5 1 30).bind fun t256 => (if t256 = true then (if (l0_5.length : Int) ≤ 10 then ((impl_IsSpan.f a0_6 a0_7).bind fun t257 => (some t257)) else (some false)) else (some false))) else (some false)) else (some false)) else (some false)) else (some false))) else (some false)) = some r := H
 have A4 := zK A40
 clear A40
 by_cases c5 : t254 = true
 rotate_left
 ·replace c5 := Bool.eq_false_iff.mpr c5
  subst c5
  have H1 : (some false) = some r := by rw [if_neg (show ¬ (false = true) by decide)] at H; exact H
  clear H
  have H := H1
  clear H1
  obtain rfl := Option.some.inj H
  go_enter Try.func92, Try.ntmps92
  go_wp2_with (first | ((with_reducible refine gate_dst (N := 1) rfl ?_); (try (refine gate_guard (by rfl) ?_; dsimp only)); refine box_event ?hg (N := 1) ?hd (cs := #[.int .i64 a0_0, .int .i64 a0_1, .slice A0_2 l0_2.length c0_2, .int .i64 a0_3, .int .i64 a0_4, .slice A0_5 l0_5.length c0_5, .int .i64 a0_6, .int .i64 a0_7]) (t := 41) ?hr ?_; (case hd => rfl); (case hg => rfl); (case hr => first | (go_simp; done) | (go_simp; rfl)); intro gb252 hg w30 hbox hb; have n0_ := zK (bT (qB HB.out) hb); have n1_ := zK (hbox); have n2_ := zK ((by rw [hg]; exact (bZ (qB HB.out)) : w.heap.size ≤ gb252)); have n3_ := zK ((by rw [hg]; exact (bZ (qB HB.out)) : w.heap.size ≤ gb252)); clear HB; have HB := n0_; have BK252 := n1_; have GW252 := n2_; have GE252 := n3_; clear n0_ n1_ n2_ n3_; clear hb hbox hg; have hcz31_0 : w30.cell? ⟨gb252, 0, none⟩ = some (.int .i64 a0_0) := (bc BK252.out 0).trans rfl; have hcz31_1 : w30.cell? ⟨gb252, 1, none⟩ = some (.int .i64 a0_1) := (bc BK252.out 1).trans rfl; have hcz31_2 : w30.cell? ⟨gb252, 2, none⟩ = some (.slice A0_2 l0_2.length c0_2) := (bc BK252.out 2).trans rfl; have hcz31_3 : w30.cell? ⟨gb252, 3, none⟩ = some (.int .i64 a0_3) := (bc BK252.out 3).trans rfl; have hcz31_4 : w30.cell? ⟨gb252, 4, none⟩ = some (.int .i64 a0_4) := (bc BK252.out 4).trans rfl; have hcz31_5 : w30.cell? ⟨gb252, 5, none⟩ = some (.slice A0_5 l0_5.length c0_5) := (bc BK252.out 5).trans rfl; have hcz31_6 : w30.cell? ⟨gb252, 6, none⟩ = some (.int .i64 a0_6) := (bc BK252.out 6).trans rfl; have hcz31_7 : w30.cell? ⟨gb252, 7, none⟩ = some (.int .i64 a0_7) := (bc BK252.out 7).trans rfl; have hfz31_0 := bf BK252.out 0; have hfz31_1 := bf BK252.out 1; have hfz31_2 := bf BK252.out 2; have hfz31_3 := bf BK252.out 3; have hfz31_4 := bf BK252.out 4; have hfz31_5 := bf BK252.out 5; have hfz31_6 := bf BK252.out 6; have hfz31_7 := bf BK252.out 7) | ((with_reducible refine gate_callee (f := 106) rfl ?_); refine goesL_ (some 5) rfl rfl Try.func106 (by kernel_rfl) rfl #[.int .i64 a0_0, .int .i64 1, .int .i64 999] rfl m0 ?_; (with_reducible refine (impl_InRange.calls a0_0 1 999 true _ A2.out).mono ?_); rintro e w' ⟨rfl, ⟨nd, rfl⟩⟩; refine ⟨_, rfl, ?_⟩) | (go_at_call 106; (with_reducible refine (impl_InRange.calls a0_1 1 8 false _ A4.out).mono ?_); rintro e w' ⟨rfl, ⟨nd, rfl⟩⟩))
  go_ret
  exact ⟨by first | rfl | (simp [errW_none, errW_some] <;> rfl) | (simp [*, errW_none, errW_some] <;> rfl), by repeat (first | (with_reducible first | exact HB.out | apply bA | apply bN | apply b1 | refine bS ?_ GE252.out) | exact HB.out)⟩
 subst c5
 have H1 : ((impl_isAscending.f k l0_2 0 7).bind fun t255 => (if t255 = true then (if 1 ≤ a0_3 then (if a0_3 ≤ a0_4 then (if a0_4 ≤ 50 then ((impl_isAscending.f k l0_5 1 30).bind fun t256 => (if t256 = true then (if (l0_5.length : Int) ≤ 10 then ((impl_IsSpan.f a0_6 a0_7).bind fun t257 => (some t257)) else (some false)) else (some false))) else (some false)) else (some false)) else (some false)) else (some false))) = some r := by rw [if_pos rfl] at H; exact H
 clear H
 have H := H1
 clear H1
 replace H := Option.bind_eq_some_iff.mp H
 obtain ⟨t255, A60, H⟩ := H
 replace H : (if t255 = true then (if 1 ≤ a0_3 then (if a0_3 ≤ a0_4 then (if a0_4 ≤ 50 then ((impl_isAscending.f k l0_5 1 30).bind fun t256 => (if t256 = true then (if (l0_5.length : Int) ≤ 10 then ((impl_IsSpan.f a0_6 a0_7).bind fun t257 => (some t257)) else (some false)) else (some false))) else (some false)) else (some false)) else (some false)) else (some false)) = some r := H
 have A6 := zK A60
 clear A60
 by_cases c7 : t255 = true
 rotate_left
 ·replace c7 := Bool.eq_false_iff.mpr c7
  subst c7
  have H1 : (some false) = some r := by rw [if_neg (show ¬ (false = true) by decide)] at H; exact H
  clear H
  have H := H1
  clear H1
  obtain rfl := Option.some.inj H
  go_enter Try.func92, Try.ntmps92
  go_wp2_with (first | ((with_reducible refine gate_dst (N := 1) rfl ?_); (try (refine gate_guard (by rfl) ?_; dsimp only)); refine box_event ?hg (N := 1) ?hd (cs := #[.int .i64 a0_0, .int .i64 a0_1, .slice A0_2 l0_2.length c0_2, .int .i64 a0_3, .int .i64 a0_4, .slice A0_5 l0_5.length c0_5, .int .i64 a0_6, .int .i64 a0_7]) (t := 41) ?hr ?_; (case hd => rfl); (case hg => rfl); (case hr => first | (go_simp; done) | (go_simp; rfl)); intro gb252 hg w28 hbox hb; have n0_ := zK (bT (qB HB.out) hb); have n1_ := zK (hbox); have n2_ := zK ((by rw [hg]; exact (bZ (qB HB.out)) : w.heap.size ≤ gb252)); have n3_ := zK ((by rw [hg]; exact (bZ (qB HB.out)) : w.heap.size ≤ gb252)); clear HB; have HB := n0_; have BK252 := n1_; have GW252 := n2_; have GE252 := n3_; clear n0_ n1_ n2_ n3_; clear hb hbox hg; have hcz29_0 : w28.cell? ⟨gb252, 0, none⟩ = some (.int .i64 a0_0) := (bc BK252.out 0).trans rfl; have hcz29_1 : w28.cell? ⟨gb252, 1, none⟩ = some (.int .i64 a0_1) := (bc BK252.out 1).trans rfl; have hcz29_2 : w28.cell? ⟨gb252, 2, none⟩ = some (.slice A0_2 l0_2.length c0_2) := (bc BK252.out 2).trans rfl; have hcz29_3 : w28.cell? ⟨gb252, 3, none⟩ = some (.int .i64 a0_3) := (bc BK252.out 3).trans rfl; have hcz29_4 : w28.cell? ⟨gb252, 4, none⟩ = some (.int .i64 a0_4) := (bc BK252.out 4).trans rfl; have hcz29_5 : w28.cell? ⟨gb252, 5, none⟩ = some (.slice A0_5 l0_5.length c0_5) := (bc BK252.out 5).trans rfl; have hcz29_6 : w28.cell? ⟨gb252, 6, none⟩ = some (.int .i64 a0_6) := (bc BK252.out 6).trans rfl; have hcz29_7 : w28.cell? ⟨gb252, 7, none⟩ = some (.int .i64 a0_7) := (bc BK252.out 7).trans rfl; have hfz29_0 := bf BK252.out 0; have hfz29_1 := bf BK252.out 1; have hfz29_2 := bf BK252.out 2; have hfz29_3 := bf BK252.out 3; have hfz29_4 := bf BK252.out 4; have hfz29_5 := bf BK252.out 5; have hfz29_6 := bf BK252.out 6; have hfz29_7 := bf BK252.out 7) | ((with_reducible refine gate_callee (f := 106) rfl ?_); refine goesL_ (some 5) rfl rfl Try.func106 (by kernel_rfl) rfl #[.int .i64 a0_0, .int .i64 1, .int .i64 999] rfl m0 ?_; (with_reducible refine (impl_InRange.calls a0_0 1 999 true _ A2.out).mono ?_); rintro e w' ⟨rfl, ⟨nd, rfl⟩⟩; refine ⟨_, rfl, ?_⟩) | (go_at_call 106; (with_reducible refine (impl_InRange.calls a0_1 1 8 true _ A4.out).mono ?_); rintro e w' ⟨rfl, ⟨nd, rfl⟩⟩) | (go_at_call 141; (with_reducible refine (impl_isAscending.calls k _ _ l0_2 0 7 false _ ?side1 ?side2 A6.out).mono ?_); (case side1 => repeat (first | exact (Kd.C_below HR0_2.out m36) | (with_reducible refine Kd.CA ?_ _) | (with_reducible refine Kd.CN ?_ _) | (with_reducible refine Kd.CD ?_))); (case side2 => exact HC0_2.out); rintro e w' ⟨rfl, ⟨nd, rfl⟩⟩))
  go_ret
  exact ⟨by first | rfl | (simp [errW_none, errW_some] <;> rfl) | (simp [*, errW_none, errW_some] <;> rfl), by repeat (first | (with_reducible first | exact HB.out | apply bA | apply bN | apply b1 | refine bS ?_ GE252.out) | exact HB.out)⟩
 subst c7
 have H1 : (if 1 ≤ a0_3 then (if a0_3 ≤ a0_4 then (if a0_4 ≤ 50 then ((impl_isAscending.f k l0_5 1 30).bind fun t256 => (if t256 = true then (if (l0_5.length : Int) ≤ 10 then ((impl_IsSpan.f a0_6 a0_7).bind fun t257 => (some t257)) else (some false)) else (some false))) else (some false)) else (some false)) else (some false)) = some r := by rw [if_pos rfl] at H; exact H
 clear H
 have H := H1
 clear H1
 by_cases c8 : 1 ≤ a0_3
 rotate_left
 ·rw [if_neg c8] at H
  have c8b0 : decide (1 ≤ a0_3) = false := decide_eq_false c8
  clear c8
  obtain rfl := Option.some.inj H
  go_enter Try.func92, Try.ntmps92
  go_wp2_with (first | ((with_reducible refine gate_dst (N := 1) rfl ?_); (try (refine gate_guard (by rfl) ?_; dsimp only)); refine box_event ?hg (N := 1) ?hd (cs := #[.int .i64 a0_0, .int .i64 a0_1, .slice A0_2 l0_2.length c0_2, .int .i64 a0_3, .int .i64 a0_4, .slice A0_5 l0_5.length c0_5, .int .i64 a0_6, .int .i64 a0_7]) (t := 41) ?hr ?_; (case hd => rfl); (case hg => rfl); (case hr => first | (go_simp; done) | (go_simp; rfl)); intro gb252 hg w26 hbox hb; have n0_ := zK (bT (qB HB.out) hb); have n1_ := zK (hbox); have n2_ := zK ((by rw [hg]; exact (bZ (qB HB.out)) : w.heap.size ≤ gb252)); have n3_ := zK ((by rw [hg]; exact (bZ (qB HB.out)) : w.heap.size ≤ gb252)); clear HB; have HB := n0_; have BK252 := n1_; have GW252 := n2_; have GE252 := n3_; clear n0_ n1_ n2_ n3_; clear hb hbox hg; have hcz27_0 : w26.cell? ⟨gb252, 0, none⟩ = some (.int .i64 a0_0) := (bc BK252.out 0).trans rfl; have hcz27_1 : w26.cell? ⟨gb252, 1, none⟩ = some (.int .i64 a0_1) := (bc BK252.out 1).trans rfl; have hcz27_2 : w26.cell? ⟨gb252, 2, none⟩ = some (.slice A0_2 l0_2.length c0_2) := (bc BK252.out 2).trans rfl; have hcz27_3 : w26.cell? ⟨gb252, 3, none⟩ = some (.int .i64 a0_3) := (bc BK252.out 3).trans rfl; have hcz27_4 : w26.cell? ⟨gb252, 4, none⟩ = some (.int .i64 a0_4) := (bc BK252.out 4).trans rfl; have hcz27_5 : w26.cell? ⟨gb252, 5, none⟩ = some (.slice A0_5 l0_5.length c0_5) := (bc BK252.out 5).trans rfl; have hcz27_6 : w26.cell? ⟨gb252, 6, none⟩ = some (.int .i64 a0_6) := (bc BK252.out 6).trans rfl; have hcz27_7 : w26.cell? ⟨gb252, 7, none⟩ = some (.int .i64 a0_7) := (bc BK252.out 7).trans rfl; have hfz27_0 := bf BK252.out 0; have hfz27_1 := bf BK252.out 1; have hfz27_2 := bf BK252.out 2; have hfz27_3 := bf BK252.out 3; have hfz27_4 := bf BK252.out 4; have hfz27_5 := bf BK252.out 5; have hfz27_6 := bf BK252.out 6; have hfz27_7 := bf BK252.out 7) | ((with_reducible refine gate_callee (f := 106) rfl ?_); refine goesL_ (some 5) rfl rfl Try.func106 (by kernel_rfl) rfl #[.int .i64 a0_0, .int .i64 1, .int .i64 999] rfl m0 ?_; (with_reducible refine (impl_InRange.calls a0_0 1 999 true _ A2.out).mono ?_); rintro e w' ⟨rfl, ⟨nd, rfl⟩⟩; refine ⟨_, rfl, ?_⟩) | (go_at_call 106; (with_reducible refine (impl_InRange.calls a0_1 1 8 true _ A4.out).mono ?_); rintro e w' ⟨rfl, ⟨nd, rfl⟩⟩) | (go_at_call 141; (with_reducible refine (impl_isAscending.calls k _ _ l0_2 0 7 true _ ?side1 ?side2 A6.out).mono ?_); (case side1 => repeat (first | exact (Kd.C_below HR0_2.out m36) | (with_reducible refine Kd.CA ?_ _) | (with_reducible refine Kd.CN ?_ _) | (with_reducible refine Kd.CD ?_))); (case side2 => exact HC0_2.out); rintro e w' ⟨rfl, ⟨nd, rfl⟩⟩))
  go_ret
  exact ⟨by first | rfl | (simp [errW_none, errW_some] <;> rfl) | (simp [*, errW_none, errW_some] <;> rfl), by repeat (first | (with_reducible first | exact HB.out | apply bA | apply bN | apply b1 | refine bS ?_ GE252.out) | exact HB.out)⟩
 rw [if_pos c8] at H
 have c8b0 : decide (1 ≤ a0_3) = true := decide_eq_true c8
 clear c8
 by_cases c9 : a0_3 ≤ a0_4
 rotate_left
 ·rw [if_neg c9] at H
  have c9b0 : decide (a0_3 ≤ a0_4) = false := decide_eq_false c9
  clear c9
  obtain rfl := Option.some.inj H
  go_enter Try.func92, Try.ntmps92
  go_wp2_with (first | ((with_reducible refine gate_dst (N := 1) rfl ?_); (try (refine gate_guard (by rfl) ?_; dsimp only)); refine box_event ?hg (N := 1) ?hd (cs := #[.int .i64 a0_0, .int .i64 a0_1, .slice A0_2 l0_2.length c0_2, .int .i64 a0_3, .int .i64 a0_4, .slice A0_5 l0_5.length c0_5, .int .i64 a0_6, .int .i64 a0_7]) (t := 41) ?hr ?_; (case hd => rfl); (case hg => rfl); (case hr => first | (go_simp; done) | (go_simp; rfl)); intro gb252 hg w24 hbox hb; have n0_ := zK (bT (qB HB.out) hb); have n1_ := zK (hbox); have n2_ := zK ((by rw [hg]; exact (bZ (qB HB.out)) : w.heap.size ≤ gb252)); have n3_ := zK ((by rw [hg]; exact (bZ (qB HB.out)) : w.heap.size ≤ gb252)); clear HB; have HB := n0_; have BK252 := n1_; have GW252 := n2_; have GE252 := n3_; clear n0_ n1_ n2_ n3_; clear hb hbox hg; have hcz25_0 : w24.cell? ⟨gb252, 0, none⟩ = some (.int .i64 a0_0) := (bc BK252.out 0).trans rfl; have hcz25_1 : w24.cell? ⟨gb252, 1, none⟩ = some (.int .i64 a0_1) := (bc BK252.out 1).trans rfl; have hcz25_2 : w24.cell? ⟨gb252, 2, none⟩ = some (.slice A0_2 l0_2.length c0_2) := (bc BK252.out 2).trans rfl; have hcz25_3 : w24.cell? ⟨gb252, 3, none⟩ = some (.int .i64 a0_3) := (bc BK252.out 3).trans rfl; have hcz25_4 : w24.cell? ⟨gb252, 4, none⟩ = some (.int .i64 a0_4) := (bc BK252.out 4).trans rfl; have hcz25_5 : w24.cell? ⟨gb252, 5, none⟩ = some (.slice A0_5 l0_5.length c0_5) := (bc BK252.out 5).trans rfl; have hcz25_6 : w24.cell? ⟨gb252, 6, none⟩ = some (.int .i64 a0_6) := (bc BK252.out 6).trans rfl; have hcz25_7 : w24.cell? ⟨gb252, 7, none⟩ = some (.int .i64 a0_7) := (bc BK252.out 7).trans rfl; have hfz25_0 := bf BK252.out 0; have hfz25_1 := bf BK252.out 1; have hfz25_2 := bf BK252.out 2; have hfz25_3 := bf BK252.out 3; have hfz25_4 := bf BK252.out 4; have hfz25_5 := bf BK252.out 5; have hfz25_6 := bf BK252.out 6; have hfz25_7 := bf BK252.out 7) | ((with_reducible refine gate_callee (f := 106) rfl ?_); refine goesL_ (some 5) rfl rfl Try.func106 (by kernel_rfl) rfl #[.int .i64 a0_0, .int .i64 1, .int .i64 999] rfl m0 ?_; (with_reducible refine (impl_InRange.calls a0_0 1 999 true _ A2.out).mono ?_); rintro e w' ⟨rfl, ⟨nd, rfl⟩⟩; refine ⟨_, rfl, ?_⟩) | (go_at_call 106; (with_reducible refine (impl_InRange.calls a0_1 1 8 true _ A4.out).mono ?_); rintro e w' ⟨rfl, ⟨nd, rfl⟩⟩) | (go_at_call 141; (with_reducible refine (impl_isAscending.calls k _ _ l0_2 0 7 true _ ?side1 ?side2 A6.out).mono ?_); (case side1 => repeat (first | exact (Kd.C_below HR0_2.out m36) | (with_reducible refine Kd.CA ?_ _) | (with_reducible refine Kd.CN ?_ _) | (with_reducible refine Kd.CD ?_))); (case side2 => exact HC0_2.out); rintro e w' ⟨rfl, ⟨nd, rfl⟩⟩))
  go_ret
  exact ⟨by first | rfl | (simp [errW_none, errW_some] <;> rfl) | (simp [*, errW_none, errW_some] <;> rfl), by repeat (first | (with_reducible first | exact HB.out | apply bA | apply bN | apply b1 | refine bS ?_ GE252.out) | exact HB.out)⟩
 rw [if_pos c9] at H
 have c9b0 : decide (a0_3 ≤ a0_4) = true := decide_eq_true c9
 clear c9
 by_cases c10 : a0_4 ≤ 50
 rotate_left
 ·rw [if_neg c10] at H
  have c10b0 : decide (a0_4 ≤ 50) = false := decide_eq_false c10
  clear c10
  obtain rfl := Option.some.inj H
  go_enter Try.func92, Try.ntmps92
  go_wp2_with (first | ((with_reducible refine gate_dst (N := 1) rfl ?_); (try (refine gate_guard (by rfl) ?_; dsimp only)); refine box_event ?hg (N := 1) ?hd (cs := #[.int .i64 a0_0, .int .i64 a0_1, .slice A0_2 l0_2.length c0_2, .int .i64 a0_3, .int .i64 a0_4, .slice A0_5 l0_5.length c0_5, .int .i64 a0_6, .int .i64 a0_7]) (t := 41) ?hr ?_; (case hd => rfl); (case hg => rfl); (case hr => first | (go_simp; done) | (go_simp; rfl)); intro gb252 hg w22 hbox hb; have n0_ := zK (bT (qB HB.out) hb); have n1_ := zK (hbox); have n2_ := zK ((by rw [hg]; exact (bZ (qB HB.out)) : w.heap.size ≤ gb252)); have n3_ := zK ((by rw [hg]; exact (bZ (qB HB.out)) : w.heap.size ≤ gb252)); clear HB; have HB := n0_; have BK252 := n1_; have GW252 := n2_; have GE252 := n3_; clear n0_ n1_ n2_ n3_; clear hb hbox hg; have hcz23_0 : w22.cell? ⟨gb252, 0, none⟩ = some (.int .i64 a0_0) := (bc BK252.out 0).trans rfl; have hcz23_1 : w22.cell? ⟨gb252, 1, none⟩ = some (.int .i64 a0_1) := (bc BK252.out 1).trans rfl; have hcz23_2 : w22.cell? ⟨gb252, 2, none⟩ = some (.slice A0_2 l0_2.length c0_2) := (bc BK252.out 2).trans rfl; have hcz23_3 : w22.cell? ⟨gb252, 3, none⟩ = some (.int .i64 a0_3) := (bc BK252.out 3).trans rfl; have hcz23_4 : w22.cell? ⟨gb252, 4, none⟩ = some (.int .i64 a0_4) := (bc BK252.out 4).trans rfl; have hcz23_5 : w22.cell? ⟨gb252, 5, none⟩ = some (.slice A0_5 l0_5.length c0_5) := (bc BK252.out 5).trans rfl; have hcz23_6 : w22.cell? ⟨gb252, 6, none⟩ = some (.int .i64 a0_6) := (bc BK252.out 6).trans rfl; have hcz23_7 : w22.cell? ⟨gb252, 7, none⟩ = some (.int .i64 a0_7) := (bc BK252.out 7).trans rfl; have hfz23_0 := bf BK252.out 0; have hfz23_1 := bf BK252.out 1; have hfz23_2 := bf BK252.out 2; have hfz23_3 := bf BK252.out 3; have hfz23_4 := bf BK252.out 4; have hfz23_5 := bf BK252.out 5; have hfz23_6 := bf BK252.out 6; have hfz23_7 := bf BK252.out 7) | ((with_reducible refine gate_callee (f := 106) rfl ?_); refine goesL_ (some 5) rfl rfl Try.func106 (by kernel_rfl) rfl #[.int .i64 a0_0, .int .i64 1, .int .i64 999] rfl m0 ?_; (with_reducible refine (impl_InRange.calls a0_0 1 999 true _ A2.out).mono ?_); rintro e w' ⟨rfl, ⟨nd, rfl⟩⟩; refine ⟨_, rfl, ?_⟩) | (go_at_call 106; (with_reducible refine (impl_InRange.calls a0_1 1 8 true _ A4.out).mono ?_); rintro e w' ⟨rfl, ⟨nd, rfl⟩⟩) | (go_at_call 141; (with_reducible refine (impl_isAscending.calls k _ _ l0_2 0 7 true _ ?side1 ?side2 A6.out).mono ?_); (case side1 => repeat (first | exact (Kd.C_below HR0_2.out m36) | (with_reducible refine Kd.CA ?_ _) | (with_reducible refine Kd.CN ?_ _) | (with_reducible refine Kd.CD ?_))); (case side2 => exact HC0_2.out); rintro e w' ⟨rfl, ⟨nd, rfl⟩⟩))
  go_ret
  exact ⟨by first | rfl | (simp [errW_none, errW_some] <;> rfl) | (simp [*, errW_none, errW_some] <;> rfl), by repeat (first | (with_reducible first | exact HB.out | apply bA | apply bN | apply b1 | refine bS ?_ GE252.out) | exact HB.out)⟩
 rw [if_pos c10] at H
 have c10b0 : decide (a0_4 ≤ 50) = true := decide_eq_true c10
 clear c10
 replace H := Option.bind_eq_some_iff.mp H
 obtain ⟨t256, A110, H⟩ := H
 replace H : (if t256 = true then (if (l0_5.length : Int) ≤ 10 then ((impl_IsSpan.f a0_6 a0_7).bind fun t257 => (some t257)) else (some false)) else (some false)) = some r := H
 have A11 := zK A110
 clear A110
 by_cases c12 : t256 = true
 rotate_left
 ·replace c12 := Bool.eq_false_iff.mpr c12
  subst c12
  have H1 : (some false) = some r := by rw [if_neg (show ¬ (false = true) by decide)] at H; exact H
  clear H
  have H := H1
  clear H1
  obtain rfl := Option.some.inj H
  go_enter Try.func92, Try.ntmps92
  go_wp2_with (first | ((with_reducible refine gate_dst (N := 1) rfl ?_); (try (refine gate_guard (by rfl) ?_; dsimp only)); refine box_event ?hg (N := 1) ?hd (cs := #[.int .i64 a0_0, .int .i64 a0_1, .slice A0_2 l0_2.length c0_2, .int .i64 a0_3, .int .i64 a0_4, .slice A0_5 l0_5.length c0_5, .int .i64 a0_6, .int .i64 a0_7]) (t := 41) ?hr ?_; (case hd => rfl); (case hg => rfl); (case hr => first | (go_simp; done) | (go_simp; rfl)); intro gb252 hg w20 hbox hb; have n0_ := zK (bT (qB HB.out) hb); have n1_ := zK (hbox); have n2_ := zK ((by rw [hg]; exact (bZ (qB HB.out)) : w.heap.size ≤ gb252)); have n3_ := zK ((by rw [hg]; exact (bZ (qB HB.out)) : w.heap.size ≤ gb252)); clear HB; have HB := n0_; have BK252 := n1_; have GW252 := n2_; have GE252 := n3_; clear n0_ n1_ n2_ n3_; clear hb hbox hg; have hcz21_0 : w20.cell? ⟨gb252, 0, none⟩ = some (.int .i64 a0_0) := (bc BK252.out 0).trans rfl; have hcz21_1 : w20.cell? ⟨gb252, 1, none⟩ = some (.int .i64 a0_1) := (bc BK252.out 1).trans rfl; have hcz21_2 : w20.cell? ⟨gb252, 2, none⟩ = some (.slice A0_2 l0_2.length c0_2) := (bc BK252.out 2).trans rfl; have hcz21_3 : w20.cell? ⟨gb252, 3, none⟩ = some (.int .i64 a0_3) := (bc BK252.out 3).trans rfl; have hcz21_4 : w20.cell? ⟨gb252, 4, none⟩ = some (.int .i64 a0_4) := (bc BK252.out 4).trans rfl; have hcz21_5 : w20.cell? ⟨gb252, 5, none⟩ = some (.slice A0_5 l0_5.length c0_5) := (bc BK252.out 5).trans rfl; have hcz21_6 : w20.cell? ⟨gb252, 6, none⟩ = some (.int .i64 a0_6) := (bc BK252.out 6).trans rfl; have hcz21_7 : w20.cell? ⟨gb252, 7, none⟩ = some (.int .i64 a0_7) := (bc BK252.out 7).trans rfl; have hfz21_0 := bf BK252.out 0; have hfz21_1 := bf BK252.out 1; have hfz21_2 := bf BK252.out 2; have hfz21_3 := bf BK252.out 3; have hfz21_4 := bf BK252.out 4; have hfz21_5 := bf BK252.out 5; have hfz21_6 := bf BK252.out 6; have hfz21_7 := bf BK252.out 7) | ((with_reducible refine gate_callee (f := 106) rfl ?_); refine goesL_ (some 5) rfl rfl Try.func106 (by kernel_rfl) rfl #[.int .i64 a0_0, .int .i64 1, .int .i64 999] rfl m0 ?_; (with_reducible refine (impl_InRange.calls a0_0 1 999 true _ A2.out).mono ?_); rintro e w' ⟨rfl, ⟨nd, rfl⟩⟩; refine ⟨_, rfl, ?_⟩) | (go_at_call 106; (with_reducible refine (impl_InRange.calls a0_1 1 8 true _ A4.out).mono ?_); rintro e w' ⟨rfl, ⟨nd, rfl⟩⟩) | (go_at_call 141; (with_reducible refine (impl_isAscending.calls k _ _ l0_2 0 7 true _ ?side1 ?side2 A6.out).mono ?_); (case side1 => repeat (first | exact (Kd.C_below HR0_2.out m36) | (with_reducible refine Kd.CA ?_ _) | (with_reducible refine Kd.CN ?_ _) | (with_reducible refine Kd.CD ?_))); (case side2 => exact HC0_2.out); rintro e w' ⟨rfl, ⟨nd, rfl⟩⟩) | (go_at_call 141; (with_reducible refine (impl_isAscending.calls k _ _ l0_5 1 30 false _ ?side1 ?side2 A11.out).mono ?_); (case side1 => repeat (first | exact (Kd.C_below HR0_5.out m36) | (with_reducible refine Kd.CA ?_ _) | (with_reducible refine Kd.CN ?_ _) | (with_reducible refine Kd.CD ?_))); (case side2 => exact HC0_5.out); rintro e w' ⟨rfl, ⟨nd, rfl⟩⟩))
  go_ret
  exact ⟨by first | rfl | (simp [errW_none, errW_some] <;> rfl) | (simp [*, errW_none, errW_some] <;> rfl), by repeat (first | (with_reducible first | exact HB.out | apply bA | apply bN | apply b1 | refine bS ?_ GE252.out) | exact HB.out)⟩
 subst c12
 have H1 : (if (l0_5.length : Int) ≤ 10 then ((impl_IsSpan.f a0_6 a0_7).bind fun t257 => (some t257)) else (some false)) = some r := by rw [if_pos rfl] at H; exact H
 clear H
 have H := H1
 clear H1
 by_cases c13 : (l0_5.length : Int) ≤ 10
 rotate_left
 ·rw [if_neg c13] at H
  have c13b0 : decide ((l0_5.length : Int) ≤ 10) = false := decide_eq_false c13
  have c13b1 : decide (l0_5.length ≤ 10) = false := decide_eq_false (by omega)
  clear c13
  obtain rfl := Option.some.inj H
  go_enter Try.func92, Try.ntmps92
  go_wp2_with (first | ((with_reducible refine gate_dst (N := 1) rfl ?_); (try (refine gate_guard (by rfl) ?_; dsimp only)); refine box_event ?hg (N := 1) ?hd (cs := #[.int .i64 a0_0, .int .i64 a0_1, .slice A0_2 l0_2.length c0_2, .int .i64 a0_3, .int .i64 a0_4, .slice A0_5 l0_5.length c0_5, .int .i64 a0_6, .int .i64 a0_7]) (t := 41) ?hr ?_; (case hd => rfl); (case hg => rfl); (case hr => first | (go_simp; done) | (go_simp; rfl)); intro gb252 hg w18 hbox hb; have n0_ := zK (bT (qB HB.out) hb); have n1_ := zK (hbox); have n2_ := zK ((by rw [hg]; exact (bZ (qB HB.out)) : w.heap.size ≤ gb252)); have n3_ := zK ((by rw [hg]; exact (bZ (qB HB.out)) : w.heap.size ≤ gb252)); clear HB; have HB := n0_; have BK252 := n1_; have GW252 := n2_; have GE252 := n3_; clear n0_ n1_ n2_ n3_; clear hb hbox hg; have hcz19_0 : w18.cell? ⟨gb252, 0, none⟩ = some (.int .i64 a0_0) := (bc BK252.out 0).trans rfl; have hcz19_1 : w18.cell? ⟨gb252, 1, none⟩ = some (.int .i64 a0_1) := (bc BK252.out 1).trans rfl; have hcz19_2 : w18.cell? ⟨gb252, 2, none⟩ = some (.slice A0_2 l0_2.length c0_2) := (bc BK252.out 2).trans rfl; have hcz19_3 : w18.cell? ⟨gb252, 3, none⟩ = some (.int .i64 a0_3) := (bc BK252.out 3).trans rfl; have hcz19_4 : w18.cell? ⟨gb252, 4, none⟩ = some (.int .i64 a0_4) := (bc BK252.out 4).trans rfl; have hcz19_5 : w18.cell? ⟨gb252, 5, none⟩ = some (.slice A0_5 l0_5.length c0_5) := (bc BK252.out 5).trans rfl; have hcz19_6 : w18.cell? ⟨gb252, 6, none⟩ = some (.int .i64 a0_6) := (bc BK252.out 6).trans rfl; have hcz19_7 : w18.cell? ⟨gb252, 7, none⟩ = some (.int .i64 a0_7) := (bc BK252.out 7).trans rfl; have hfz19_0 := bf BK252.out 0; have hfz19_1 := bf BK252.out 1; have hfz19_2 := bf BK252.out 2; have hfz19_3 := bf BK252.out 3; have hfz19_4 := bf BK252.out 4; have hfz19_5 := bf BK252.out 5; have hfz19_6 := bf BK252.out 6; have hfz19_7 := bf BK252.out 7) | ((with_reducible refine gate_callee (f := 106) rfl ?_); refine goesL_ (some 5) rfl rfl Try.func106 (by kernel_rfl) rfl #[.int .i64 a0_0, .int .i64 1, .int .i64 999] rfl m0 ?_; (with_reducible refine (impl_InRange.calls a0_0 1 999 true _ A2.out).mono ?_); rintro e w' ⟨rfl, ⟨nd, rfl⟩⟩; refine ⟨_, rfl, ?_⟩) | (go_at_call 106; (with_reducible refine (impl_InRange.calls a0_1 1 8 true _ A4.out).mono ?_); rintro e w' ⟨rfl, ⟨nd, rfl⟩⟩) | (go_at_call 141; (with_reducible refine (impl_isAscending.calls k _ _ l0_2 0 7 true _ ?side1 ?side2 A6.out).mono ?_); (case side1 => repeat (first | exact (Kd.C_below HR0_2.out m36) | (with_reducible refine Kd.CA ?_ _) | (with_reducible refine Kd.CN ?_ _) | (with_reducible refine Kd.CD ?_))); (case side2 => exact HC0_2.out); rintro e w' ⟨rfl, ⟨nd, rfl⟩⟩) | (go_at_call 141; (with_reducible refine (impl_isAscending.calls k _ _ l0_5 1 30 true _ ?side1 ?side2 A11.out).mono ?_); (case side1 => repeat (first | exact (Kd.C_below HR0_5.out m36) | (with_reducible refine Kd.CA ?_ _) | (with_reducible refine Kd.CN ?_ _) | (with_reducible refine Kd.CD ?_))); (case side2 => exact HC0_5.out); rintro e w' ⟨rfl, ⟨nd, rfl⟩⟩))
  go_ret
  exact ⟨by first | rfl | (simp [errW_none, errW_some] <;> rfl) | (simp [*, errW_none, errW_some] <;> rfl), by repeat (first | (with_reducible first | exact HB.out | apply bA | apply bN | apply b1 | refine bS ?_ GE252.out) | exact HB.out)⟩
 rw [if_pos c13] at H
 have c13b0 : decide ((l0_5.length : Int) ≤ 10) = true := decide_eq_true c13
 have c13b1 : decide (l0_5.length ≤ 10) = true := decide_eq_true (by omega)
 clear c13
 replace H := Option.bind_eq_some_iff.mp H
 obtain ⟨t257, A140, H⟩ := H
 replace H : (some t257) = some r := H
 have A14 := zK A140
 clear A140
 obtain rfl := Option.some.inj H
 go_enter Try.func92, Try.ntmps92
 go_wp2_with (first | ((with_reducible refine gate_dst (N := 1) rfl ?_); (try (refine gate_guard (by rfl) ?_; dsimp only)); refine box_event ?hg (N := 1) ?hd (cs := #[.int .i64 a0_0, .int .i64 a0_1, .slice A0_2 l0_2.length c0_2, .int .i64 a0_3, .int .i64 a0_4, .slice A0_5 l0_5.length c0_5, .int .i64 a0_6, .int .i64 a0_7]) (t := 41) ?hr ?_; (case hd => rfl); (case hg => rfl); (case hr => first | (go_simp; done) | (go_simp; rfl)); intro gb252 hg w15 hbox hb; have n0_ := zK (bT (qB HB.out) hb); have n1_ := zK (hbox); have n2_ := zK ((by rw [hg]; exact (bZ (qB HB.out)) : w.heap.size ≤ gb252)); have n3_ := zK ((by rw [hg]; exact (bZ (qB HB.out)) : w.heap.size ≤ gb252)); clear HB; have HB := n0_; have BK252 := n1_; have GW252 := n2_; have GE252 := n3_; clear n0_ n1_ n2_ n3_; clear hb hbox hg; have hcz16_0 : w15.cell? ⟨gb252, 0, none⟩ = some (.int .i64 a0_0) := (bc BK252.out 0).trans rfl; have hcz16_1 : w15.cell? ⟨gb252, 1, none⟩ = some (.int .i64 a0_1) := (bc BK252.out 1).trans rfl; have hcz16_2 : w15.cell? ⟨gb252, 2, none⟩ = some (.slice A0_2 l0_2.length c0_2) := (bc BK252.out 2).trans rfl; have hcz16_3 : w15.cell? ⟨gb252, 3, none⟩ = some (.int .i64 a0_3) := (bc BK252.out 3).trans rfl; have hcz16_4 : w15.cell? ⟨gb252, 4, none⟩ = some (.int .i64 a0_4) := (bc BK252.out 4).trans rfl; have hcz16_5 : w15.cell? ⟨gb252, 5, none⟩ = some (.slice A0_5 l0_5.length c0_5) := (bc BK252.out 5).trans rfl; have hcz16_6 : w15.cell? ⟨gb252, 6, none⟩ = some (.int .i64 a0_6) := (bc BK252.out 6).trans rfl; have hcz16_7 : w15.cell? ⟨gb252, 7, none⟩ = some (.int .i64 a0_7) := (bc BK252.out 7).trans rfl; have hfz16_0 := bf BK252.out 0; have hfz16_1 := bf BK252.out 1; have hfz16_2 := bf BK252.out 2; have hfz16_3 := bf BK252.out 3; have hfz16_4 := bf BK252.out 4; have hfz16_5 := bf BK252.out 5; have hfz16_6 := bf BK252.out 6; have hfz16_7 := bf BK252.out 7) | ((with_reducible refine gate_callee (f := 106) rfl ?_); refine goesL_ (some 5) rfl rfl Try.func106 (by kernel_rfl) rfl #[.int .i64 a0_0, .int .i64 1, .int .i64 999] rfl m0 ?_; (with_reducible refine (impl_InRange.calls a0_0 1 999 true _ A2.out).mono ?_); rintro e w' ⟨rfl, ⟨nd, rfl⟩⟩; refine ⟨_, rfl, ?_⟩) | (go_at_call 106; (with_reducible refine (impl_InRange.calls a0_1 1 8 true _ A4.out).mono ?_); rintro e w' ⟨rfl, ⟨nd, rfl⟩⟩) | (go_at_call 141; (with_reducible refine (impl_isAscending.calls k _ _ l0_2 0 7 true _ ?side1 ?side2 A6.out).mono ?_); (case side1 => repeat (first | exact (Kd.C_below HR0_2.out m36) | (with_reducible refine Kd.CA ?_ _) | (with_reducible refine Kd.CN ?_ _) | (with_reducible refine Kd.CD ?_))); (case side2 => exact HC0_2.out); rintro e w' ⟨rfl, ⟨nd, rfl⟩⟩) | (go_at_call 141; (with_reducible refine (impl_isAscending.calls k _ _ l0_5 1 30 true _ ?side1 ?side2 A11.out).mono ?_); (case side1 => repeat (first | exact (Kd.C_below HR0_5.out m36) | (with_reducible refine Kd.CA ?_ _) | (with_reducible refine Kd.CN ?_ _) | (with_reducible refine Kd.CD ?_))); (case side2 => exact HC0_5.out); rintro e w' ⟨rfl, ⟨nd, rfl⟩⟩) | (go_at_call 142; (with_reducible refine (impl_IsSpan.calls a0_6 a0_7 t257 _ A14.out).mono ?_); rintro e w17 ⟨rfl, hb⟩; have n0_ := zK (bB (g := gb252) (o := .cells #[.int .i64 a0_0, .int .i64 a0_1, .slice A0_2 l0_2.length c0_2, .int .i64 a0_3, .int .i64 a0_4, .slice A0_5 l0_5.length c0_5, .int .i64 a0_6, .int .i64 a0_7] 41 (0, 0)) (qK BK252.out) hb); have n1_ := zK (bT m36 hb); clear BK252 HB; have BK252 := n0_; have HB := n1_; clear n0_ n1_; (try clear hb); (try clear hb2); (try clear hk); (try clear hi)))
 go_ret
 exact ⟨by first | rfl | (simp [errW_none, errW_some] <;> rfl) | (simp [*, errW_none, errW_some] <;> rfl), by repeat (first | (with_reducible first | exact HB.out | apply bA | apply bN | apply b1 | refine bS ?_ GE252.out) | exact HB.out)⟩
/-! ### slices_Index_int_int: function 148 -/
def slices_Index_int_int.l0 : Nat → List Int → Int → Int → Int → Option (Int)
 | 0, _, _, _, _ => none
 | k + 1, x0, x1, x7, x8 => if x8 < x7 then (if 0 ≤ x8 then (if x8 < (x0.length : Int) then (if x1 = (rd x0 x8) then (some x8) else (slices_Index_int_int.l0 k x0 x1 x7 (wrap64 (x8 + 1)))) else (none)) else (none)) else (some (-1))
def slices_Index_int_int.f (k : Nat) (l0 : List Int) (a1 : Int) : Option (Int) := slices_Index_int_int.l0 k l0 a1 (l0.length : Int) 0
set_option maxHeartbeats 8000000 in
set_option maxRecDepth 100000 in
theorem slices_Index_int_int.calls (k : Nat) (A0 : Option Addr) (c0 : Nat) (l0 : List Int) (a1 : Int) (r : Int) (w : World) (hr0 : Kd.C (Kd.int .i64) w A0 l0.length l0) (hc0 : l0.length ≤ c0) (h : slices_Index_int_int.f k l0 a1 = some r) :
  Calls Try.prog 148 #[.slice A0 l0.length c0, .int .i64 a1] w fun e w' => e = .returned (.int .i64 r) ∧ Drawn0 w w' := by
 have HR0 := zK hr0
 have HC0 := zK hc0
 clear hr0 hc0
 have H : (slices_Index_int_int.l0 k l0 a1 (l0.length : Int) 0) = some r := h
 clear h
 have H' := zK H
 clear H
 go_enter Try.func148, Try.ntmps148
 go_wp2
 go_loopg [8] k (fun kq v8 w' => ∃ (x8_1 : Int), v8 = .int .i64 x8_1 ∧ Aside0 (slices_Index_int_int.l0 kq l0 a1 (l0.length : Int) x8_1 = some r) ∧ Aside0 (kq ≤ k) ∧ Drawn0 w w')
 case atStart => exact ⟨(0), m5, H', ⟨Nat.le_refl _⟩, by repeat (first | exact Drawn0.refl _ | apply Drawn0.step)⟩
 case round =>
  clear H'
  try clear c1
  try clear p2
  obtain ⟨x8_1, rfl, HA, HK1, ⟨m1, rfl⟩⟩ := hrel
  cases gk with
  | zero => exact absurd HA.out (by simp [slices_Index_int_int.l0])
  | succ k1 =>
   have H := HA.out
   clear HA
   simp only [slices_Index_int_int.l0] at H
   by_cases c3 : x8_1 < (l0.length : Int)
   rotate_left
   ·rw [if_neg c3] at H
    have c3b0 : decide (x8_1 < (l0.length : Int)) = false := decide_eq_false c3
    clear c3
    obtain rfl := Option.some.inj H
    go_wp2
    go_ret
    exact ⟨by first | rfl | (simp; done) | (simp [*]; done), by repeat (first | exact Drawn0.refl _ | apply Drawn0.step)⟩
   rw [if_pos c3] at H
   have c3b0 : decide (x8_1 < (l0.length : Int)) = true := decide_eq_true c3
   clear c3
   by_cases c4 : 0 ≤ x8_1
   rotate_left
   ·rw [if_neg c4] at H
    exact absurd H (by simp)
   rw [if_pos c4] at H
   have c4b0 : decide (0 ≤ x8_1) = true := decide_eq_true c4
   clear c4
   by_cases c5 : x8_1 < (l0.length : Int)
   rotate_left
   ·rw [if_neg c5] at H
    exact absurd H (by simp)
   rw [if_pos c5] at H
   have c5b0 : decide (x8_1 < (l0.length : Int)) = true := decide_eq_true c5
   clear c5
   by_cases c6 : a1 = (rd l0 x8_1)
   ·rw [if_pos c6] at H
    have c6b0 : (a1 == (rd l0 x8_1)) = true := beq_iff_eq.mpr c6
    have c6b1 : (a1 != (rd l0 x8_1)) = false := bne_eq_false_iff_eq.mpr c6
    clear c6
    obtain rfl := Option.some.inj H
    have p258 : 0 ≤ (x8_1 : Int) := oD m3
    have q258 : x8_1 < (l0.length : Int) := oD m3
    obtain ⟨ad258, e258, hx258_0⟩ := Kd.at_int HR0.out x8_1 p258 q258
    cases e258
    replace p258 := eq_true p258
    replace q258 := eq_true q258
    go_wp2
    go_ret
    exact ⟨by first | rfl | (simp; done) | (simp [*]; done), by repeat (first | exact Drawn0.refl _ | apply Drawn0.step)⟩
   rw [if_neg c6] at H
   have c6b0 : (a1 == (rd l0 x8_1)) = false := beq_eq_false_iff_ne.mpr c6
   have c6b1 : (a1 != (rd l0 x8_1)) = true := bne_iff_ne.mpr c6
   have H' := zK H
   clear H
   have p258 : 0 ≤ (x8_1 : Int) := oD m3
   have q258 : x8_1 < (l0.length : Int) := oD m3
   obtain ⟨ad258, e258, hx258_0⟩ := Kd.at_int HR0.out x8_1 p258 q258
   cases e258
   replace p258 := eq_true p258
   replace q258 := eq_true q258
   go_wp2
   go_roundg k1
   case measure => have := HK1.out; omega
   case rel => exact ⟨(wrap64 (x8_1 + 1)), m5, H', ⟨by have := HK1.out; omega⟩, by repeat (first | exact Drawn0.refl _ | apply Drawn0.step)⟩
/-! ### slices_Contains_int_int: function 103 -/
def slices_Contains_int_int.f (k : Nat) (l0 : List Int) (a1 : Int) : Option (Bool) := (slices_Index_int_int.f k l0 a1).bind fun t259 => (some (decide (t259 ≥ 0)))
set_option maxHeartbeats 8000000 in
set_option maxRecDepth 100000 in
theorem slices_Contains_int_int.calls (k : Nat) (A0 : Option Addr) (c0 : Nat) (l0 : List Int) (a1 : Int) (r : Bool) (w : World) (hr0 : Kd.C (Kd.int .i64) w A0 l0.length l0) (hc0 : l0.length ≤ c0) (h : slices_Contains_int_int.f k l0 a1 = some r) :
  Calls Try.prog 103 #[.slice A0 l0.length c0, .int .i64 a1] w fun e w' => e = .returned (.bool r) ∧ Drawn0 w w' := by
 have HR0 := zK hr0
 have HC0 := zK hc0
 clear hr0 hc0
 have H : ((slices_Index_int_int.f k l0 a1).bind fun t259 => (some (decide (t259 ≥ 0)))) = some r := h
 clear h
 replace H := Option.bind_eq_some_iff.mp H
 obtain ⟨t259, A30, H⟩ := H
 replace H : (some (decide (t259 ≥ 0))) = some r := H
 have A3 := zK A30
 clear A30
 obtain rfl := Option.some.inj H
 go_enter Try.func103, Try.ntmps103
 go_wp2_with (first | ((with_reducible refine gate_callee (f := 148) rfl ?_); refine goesL_ (some 7) rfl rfl Try.func148 (by kernel_rfl) rfl #[.slice A0 l0.length c0, .int .i64 a1] rfl m0 ?_; (with_reducible refine (slices_Index_int_int.calls k _ _ l0 a1 t259 _ ?side1 ?side2 A3.out).mono ?_); (case side1 => exact Kd.qC HR0.out); (case side2 => exact HC0.out); rintro e w' ⟨rfl, ⟨nd, rfl⟩⟩; refine ⟨_, rfl, ?_⟩))
 go_ret
 exact ⟨by first | rfl | (simp; done) | (simp [*]; done), by repeat (first | exact Drawn0.refl _ | apply Drawn0.step)⟩
/-! ### impl_allows: function 93 -/
def impl_allows.f (k : Nat) (l0 : List Int) (a1 : Int) : Option (Bool) := if (l0.length : Int) = 0 then (some true) else ((slices_Contains_int_int.f k l0 a1).bind fun t260 => (some t260))
set_option maxHeartbeats 8000000 in
set_option maxRecDepth 100000 in
theorem impl_allows.calls (k : Nat) (A0 : Option Addr) (c0 : Nat) (l0 : List Int) (a1 : Int) (r : Bool) (w : World) (hr0 : Kd.C (Kd.int .i64) w A0 l0.length l0) (hc0 : l0.length ≤ c0) (h : impl_allows.f k l0 a1 = some r) :
  Calls Try.prog 93 #[.slice A0 l0.length c0, .int .i64 a1] w fun e w' => e = .returned (.bool r) ∧ Drawn0 w w' := by
 have HR0 := zK hr0
 have HC0 := zK hc0
 clear hr0 hc0
 have H : (if (l0.length : Int) = 0 then (some true) else ((slices_Contains_int_int.f k l0 a1).bind fun t260 => (some t260))) = some r := h
 clear h
 by_cases c3 : (l0.length : Int) = 0
 ·rw [if_pos c3] at H
  have c3b0 : ((l0.length : Int) == 0) = true := beq_iff_eq.mpr c3
  have c3b1 : ((l0.length : Int) != 0) = false := bne_eq_false_iff_eq.mpr c3
  clear c3
  obtain rfl := Option.some.inj H
  go_enter Try.func93, Try.ntmps93
  go_wp2
  go_ret
  exact ⟨by first | rfl | (simp; done) | (simp [*]; done), by repeat (first | exact Drawn0.refl _ | apply Drawn0.step)⟩
 rw [if_neg c3] at H
 have c3b0 : ((l0.length : Int) == 0) = false := beq_eq_false_iff_ne.mpr c3
 have c3b1 : ((l0.length : Int) != 0) = true := bne_iff_ne.mpr c3
 have c3b2 : ¬ (l0 = []) := fun h_ => c3 (by rw [h_]; rfl)
 replace H := Option.bind_eq_some_iff.mp H
 obtain ⟨t260, A40, H⟩ := H
 replace H : (some t260) = some r := H
 have A4 := zK A40
 clear A40
 obtain rfl := Option.some.inj H
 go_enter Try.func93, Try.ntmps93
 go_wp2_with (first | (go_at_call 103; (with_reducible refine (slices_Contains_int_int.calls k _ _ l0 a1 t260 _ ?side1 ?side2 A4.out).mono ?_); (case side1 => exact Kd.qC HR0.out); (case side2 => exact HC0.out); rintro e w' ⟨rfl, ⟨nd, rfl⟩⟩))
 go_ret
 exact ⟨by first | rfl | (simp; done) | (simp [*]; done), by repeat (first | exact Drawn0.refl _ | apply Drawn0.step)⟩
/-! ### impl_Mod: function 196 -/
def impl_Mod.f (a0 : Int) (a1 : Int) : Option (Int) := (impl_InRange.f a1 1 1000000000000).bind fun t261 => (if t261 = true then (if a1 = 0 then (none) else (if (Int.tmod a0 a1) < 0 then (some (wrap64 ((Int.tmod a0 a1) + a1))) else (some (Int.tmod a0 a1)))) else (some 0))
set_option maxHeartbeats 8000000 in
set_option maxRecDepth 100000 in
theorem impl_Mod.calls (a0 : Int) (a1 : Int) (r : Int) (w : World) (h : impl_Mod.f a0 a1 = some r) :
  Calls Try.prog 196 #[.int .i64 a0, .int .i64 a1] w fun e w' => e = .returned (.int .i64 r) ∧ Drawn0 w w' := by
 have H : ((impl_InRange.f a1 1 1000000000000).bind fun t261 => (if t261 = true then (if a1 = 0 then (none) else (if (Int.tmod a0 a1) < 0 then (some (wrap64 ((Int.tmod a0 a1) + a1))) else (some (Int.tmod a0 a1)))) else (some 0))) = some r := h
 clear h
 replace H := Option.bind_eq_some_iff.mp H
 obtain ⟨t261, A30, H⟩ := H
 replace H : (if t261 = true then (if a1 = 0 then (none) else (if (Int.tmod a0 a1) < 0 then (some (wrap64 ((Int.tmod a0 a1) + a1))) else (some (Int.tmod a0 a1)))) else (some 0)) = some r := H
 have A3 := zK A30
 clear A30
 by_cases c4 : t261 = true
 rotate_left
 ·replace c4 := Bool.eq_false_iff.mpr c4
  subst c4
  have H1 : (some 0) = some r := by rw [if_neg (show ¬ (false = true) by decide)] at H; exact H
  clear H
  have H := H1
  clear H1
  obtain rfl := Option.some.inj H
  go_enter Try.func196, Try.ntmps196
  go_wp2_with (first | ((with_reducible refine gate_callee (f := 106) rfl ?_); refine goesL_ (some 7) rfl rfl Try.func106 (by kernel_rfl) rfl #[.int .i64 a1, .int .i64 1, .int .i64 1000000000000] rfl m0 ?_; (with_reducible refine (impl_InRange.calls a1 1 1000000000000 false _ A3.out).mono ?_); rintro e w' ⟨rfl, ⟨nd, rfl⟩⟩; refine ⟨_, rfl, ?_⟩))
  go_ret
  exact ⟨by first | rfl | (simp; done) | (simp [*]; done), by repeat (first | exact Drawn0.refl _ | apply Drawn0.step)⟩
 subst c4
 have H1 : (if a1 = 0 then (none) else (if (Int.tmod a0 a1) < 0 then (some (wrap64 ((Int.tmod a0 a1) + a1))) else (some (Int.tmod a0 a1)))) = some r := by rw [if_pos rfl] at H; exact H
 clear H
 have H := H1
 clear H1
 by_cases c5 : a1 = 0
 ·rw [if_pos c5] at H
  exact absurd H (by simp)
 rw [if_neg c5] at H
 have c5b0 : (a1 == 0) = false := beq_eq_false_iff_ne.mpr c5
 have c5b1 : (a1 != 0) = true := bne_iff_ne.mpr c5
 by_cases c6 : (Int.tmod a0 a1) < 0
 ·rw [if_pos c6] at H
  have c6b0 : decide ((Int.tmod a0 a1) < 0) = true := decide_eq_true c6
  clear c6
  obtain rfl := Option.some.inj H
  go_enter Try.func196, Try.ntmps196
  go_wp2_with (first | ((with_reducible refine gate_callee (f := 106) rfl ?_); refine goesL_ (some 7) rfl rfl Try.func106 (by kernel_rfl) rfl #[.int .i64 a1, .int .i64 1, .int .i64 1000000000000] rfl m0 ?_; (with_reducible refine (impl_InRange.calls a1 1 1000000000000 true _ A3.out).mono ?_); rintro e w' ⟨rfl, ⟨nd, rfl⟩⟩; refine ⟨_, rfl, ?_⟩))
  go_ret
  exact ⟨by first | rfl | (simp; done) | (simp [*]; done), by repeat (first | exact Drawn0.refl _ | apply Drawn0.step)⟩
 rw [if_neg c6] at H
 have c6b0 : decide ((Int.tmod a0 a1) < 0) = false := decide_eq_false c6
 clear c6
 obtain rfl := Option.some.inj H
 go_enter Try.func196, Try.ntmps196
 go_wp2_with (first | ((with_reducible refine gate_callee (f := 106) rfl ?_); refine goesL_ (some 7) rfl rfl Try.func106 (by kernel_rfl) rfl #[.int .i64 a1, .int .i64 1, .int .i64 1000000000000] rfl m0 ?_; (with_reducible refine (impl_InRange.calls a1 1 1000000000000 true _ A3.out).mono ?_); rintro e w' ⟨rfl, ⟨nd, rfl⟩⟩; refine ⟨_, rfl, ?_⟩))
 go_ret
 exact ⟨by first | rfl | (simp; done) | (simp [*]; done), by repeat (first | exact Drawn0.refl _ | apply Drawn0.step)⟩
/-! ### impl_fold: function 176 -/
def impl_fold.f (a0 : Int) (a1 : Int) : Option (Int) := (impl_Mod.f a1 2147483647).bind fun t262 => (some (Int.tmod (wrap64 ((wrap64 ((wrap64 (a0 * 1000003)) + t262)) + 13)) 2147483647))
set_option maxHeartbeats 8000000 in
set_option maxRecDepth 100000 in
theorem impl_fold.calls (a0 : Int) (a1 : Int) (r : Int) (w : World) (h : impl_fold.f a0 a1 = some r) :
  Calls Try.prog 176 #[.int .i64 a0, .int .i64 a1] w fun e w' => e = .returned (.int .i64 r) ∧ Drawn0 w w' := by
 have H : ((impl_Mod.f a1 2147483647).bind fun t262 => (some (Int.tmod (wrap64 ((wrap64 ((wrap64 (a0 * 1000003)) + t262)) + 13)) 2147483647))) = some r := h
 clear h
 replace H := Option.bind_eq_some_iff.mp H
 obtain ⟨t262, A30, H⟩ := H
 replace H : (some (Int.tmod (wrap64 ((wrap64 ((wrap64 (a0 * 1000003)) + t262)) + 13)) 2147483647)) = some r := H
 have A3 := zK A30
 clear A30
 obtain rfl := Option.some.inj H
 go_enter Try.func176, Try.ntmps176
 go_wp2_with (first | ((with_reducible refine gate_callee (f := 196) rfl ?_); refine goesL_ (some 8) rfl rfl Try.func196 (by kernel_rfl) rfl #[.int .i64 a1, .int .i64 2147483647] rfl m0 ?_; (with_reducible refine (impl_Mod.calls a1 2147483647 t262 _ A3.out).mono ?_); rintro e w' ⟨rfl, ⟨nd, rfl⟩⟩; refine ⟨_, rfl, ?_⟩))
 go_ret
 exact ⟨by first | rfl | (simp; done) | (simp [*]; done), by repeat (first | exact Drawn0.refl _ | apply Drawn0.step)⟩
/-! ### impl_Hash: function 143 -/
def impl_Hash.l0 : Nat → Int → List Int → Int → Int → Option (Int)
 | 0, _, _, _, _ => none
 | k + 1, x3, x6, x7, x8 => if x8 < x7 then (if 0 ≤ x8 then (if x8 < (x6.length : Int) then ((impl_fold.f x3 (rd x6 x8)).bind fun t264 => (impl_Hash.l0 k t264 x6 x7 (wrap64 (x8 + 1)))) else (none)) else (none)) else (some x3)
def impl_Hash.f (k : Nat) (l0 : List Int) : Option (Int) := impl_Hash.l0 k 11 l0 (l0.length : Int) 0
set_option maxHeartbeats 8000000 in
set_option maxRecDepth 100000 in
theorem impl_Hash.calls (k : Nat) (A0 : Option Addr) (c0 : Nat) (l0 : List Int) (r : Int) (w : World) (hr0 : Kd.C (Kd.int .i64) w A0 l0.length l0) (hc0 : l0.length ≤ c0) (h : impl_Hash.f k l0 = some r) :
  Calls Try.prog 143 #[.slice A0 l0.length c0] w fun e w' => e = .returned (.int .i64 r) ∧ Drawn0 w w' := by
 have HR0 := zK hr0
 have HC0 := zK hc0
 clear hr0 hc0
 have H : (impl_Hash.l0 k 11 l0 (l0.length : Int) 0) = some r := h
 clear h
 have H' := zK H
 clear H
 go_enter Try.func143, Try.ntmps143
 go_wp2
 go_loopg [3, 8] k (fun kq v3 v8 w' => ∃ (x3_1 : Int) (x8_1 : Int), v3 = .int .i64 x3_1 ∧ v8 = .int .i64 x8_1 ∧ Aside0 (impl_Hash.l0 kq x3_1 l0 (l0.length : Int) x8_1 = some r) ∧ Aside0 (kq ≤ k) ∧ Drawn0 w w')
 case atStart => exact ⟨(11), (0), m5, m5, H', ⟨Nat.le_refl _⟩, by repeat (first | exact Drawn0.refl _ | apply Drawn0.step)⟩
 case round =>
  clear H'
  try clear c1
  obtain ⟨x3_1, x8_1, rfl, rfl, HA, HK1, ⟨m1, rfl⟩⟩ := hrel
  cases gk with
  | zero => exact absurd HA.out (by simp [impl_Hash.l0])
  | succ k1 =>
   have H := HA.out
   clear HA
   simp only [impl_Hash.l0] at H
   by_cases c2 : x8_1 < (l0.length : Int)
   rotate_left
   ·rw [if_neg c2] at H
    have c2b0 : decide (x8_1 < (l0.length : Int)) = false := decide_eq_false c2
    clear c2
    obtain rfl := Option.some.inj H
    go_wp2
    go_ret
    exact ⟨by first | rfl | (simp; done) | (simp [*]; done), by repeat (first | exact Drawn0.refl _ | apply Drawn0.step)⟩
   rw [if_pos c2] at H
   have c2b0 : decide (x8_1 < (l0.length : Int)) = true := decide_eq_true c2
   clear c2
   by_cases c3 : 0 ≤ x8_1
   rotate_left
   ·rw [if_neg c3] at H
    exact absurd H (by simp)
   rw [if_pos c3] at H
   have c3b0 : decide (0 ≤ x8_1) = true := decide_eq_true c3
   clear c3
   by_cases c4 : x8_1 < (l0.length : Int)
   rotate_left
   ·rw [if_neg c4] at H
    exact absurd H (by simp)
   rw [if_pos c4] at H
   have c4b0 : decide (x8_1 < (l0.length : Int)) = true := decide_eq_true c4
   clear c4
   replace H := Option.bind_eq_some_iff.mp H
   obtain ⟨t264, A50, H⟩ := H
   replace H : (impl_Hash.l0 k1 t264 l0 (l0.length : Int) (wrap64 (x8_1 + 1))) = some r := H
   have A5 := zK A50
   clear A50
   have H' := zK H
   clear H
   have p263 : 0 ≤ (x8_1 : Int) := oD m3
   have q263 : x8_1 < (l0.length : Int) := oD m3
   obtain ⟨ad263, e263, hx263_0⟩ := Kd.at_int HR0.out x8_1 p263 q263
   cases e263
   replace p263 := eq_true p263
   replace q263 := eq_true q263
   go_wp2_with (first | ((with_reducible refine gate_callee (f := 176) rfl ?_); refine goesL_ (some 14) rfl rfl Try.func176 (by kernel_rfl) rfl #[.int .i64 x3_1, .int .i64 (rd l0 x8_1)] rfl m0 ?_; (with_reducible refine (impl_fold.calls x3_1 (rd l0 x8_1) t264 _ A5.out).mono ?_); rintro e w' ⟨rfl, ⟨nd, rfl⟩⟩; refine ⟨_, rfl, ?_⟩))
   go_roundg k1
   case measure => have := HK1.out; omega
   case rel => exact ⟨(t264), (wrap64 (x8_1 + 1)), m5, m5, H', ⟨by have := HK1.out; omega⟩, by repeat (first | exact Drawn0.refl _ | apply Drawn0.step)⟩
/-! ### impl_hint: function 94 -/
def impl_hint.f (k : Nat) (a0 : Int) (a1 : Int) (a2 : Int) (a3 : Int) : Option (Int) := (impl_Hash.f k (([a0, a1, a2, wrap64 (Int.tdiv a3 10)] : List Int))).bind fun t268 => (some t268)
set_option maxHeartbeats 8000000 in
set_option maxRecDepth 100000 in
theorem impl_hint.calls (k : Nat) (a0 : Int) (a1 : Int) (a2 : Int) (a3 : Int) (r : Int) (w : World) (h : impl_hint.f k a0 a1 a2 a3 = some r) :
  Calls Try.prog 94 #[.int .i64 a0, .int .i64 a1, .int .i64 a2, .int .i64 a3] w fun e w' => e = .returned (.int .i64 r) ∧ Below w.heap.size w w' := by
 have HB := zK (Below.refl w.heap.size w)
 have H : ((impl_Hash.f k (([a0, a1, a2, wrap64 (Int.tdiv a3 10)] : List Int))).bind fun t268 => (some t268)) = some r := h
 clear h
 obtain ⟨y265, hy265⟩ : ∃ y_ : List Int, y_ = (([a0, a1, a2, wrap64 (Int.tdiv a3 10)] : List Int)) := ⟨_, rfl⟩
 replace H : ((impl_Hash.f k y265).bind fun t268 => (some t268)) = some r := by first | (rw [hy265]; with_reducible exact H) | (have H2_ := (Option.bind_some _ _).symm.trans H; rw [hy265]; with_reducible exact H2_) | (have H2_ := (Option.bind_some _ _).symm.trans H; with_reducible exact H2_) | with_reducible exact H | (rw [hy265]; exact H) | exact H
 have Ny265 := zK hy265
 clear hy265
 replace H := Option.bind_eq_some_iff.mp H
 obtain ⟨t268, A50, H⟩ := H
 replace H : (some t268) = some r := H
 have A5 := zK A50
 clear A50
 obtain rfl := Option.some.inj H
 go_enter Try.func94, Try.ntmps94
 go_wp2_with (first | ((with_reducible refine gate_dst (N := 14) rfl ?_); refine Kd.R_lit (Kd.int .i64) _ 3 ?hg (N := 14) ?hd (xs := ([a0, a1, a2, wrap64 (Int.tdiv a3 10)] : List Int)) (inner := [.int .i64 a0, .int .i64 a1, .int .i64 a2, .int .i64 (wrap64 (Int.tdiv a3 10))]) (ok := fun _ => True) (okp := fun _ => True) ?hr ?hp (fun _ hk => hk) trivial (Below.refl _ _) (Nat.le_refl _) (by simp) ?_; (case hd => rfl); (case hg => rfl); (case hr => first | (go_simp; done) | (go_simp; rfl)); (case hp => exact (Reps.one (show Kd.M (Kd.int .i64) _ _ _ a0 [.int .i64 a0] from rfl) (Reps.one (show Kd.M (Kd.int .i64) _ _ _ a1 [.int .i64 a1] from rfl) (Reps.one (show Kd.M (Kd.int .i64) _ _ _ a2 [.int .i64 a2] from rfl) (Reps.one (show Kd.M (Kd.int .i64) _ _ _ (wrap64 (Int.tdiv a3 10)) [.int .i64 (wrap64 (Int.tdiv a3 10))] from rfl) (Reps.none _ _)))))); intro v266 w6 ho7 hb hg_ hnew_; clear hg_ hnew_; (first | rw [← Ny265.out] at ho7 | (simp only [Int.reduceToNat] at ho7; rw [← Ny265.out] at ho7)); have n0_ := zK (Kd.R_lower ho7 (bZ (qB HB.out))); have n1_ := zK (bT (qB HB.out) hb); clear HB; have HO267 := n0_; have HB := n1_; clear n0_ n1_; clear hb ho7; obtain ⟨Ao8, co8, eo8⟩ := Kd.R_slice HO267.out; subst eo8) | ((with_reducible refine gate_callee (f := 143) rfl ?_); refine goesL_ (some 15) rfl rfl Try.func143 (by kernel_rfl) rfl #[.slice Ao8 y265.length co8] rfl m0 ?_; (with_reducible refine (impl_Hash.calls k _ _ y265 t268 _ ?side1 ?side2 A5.out).mono ?_); (case side1 => exact Kd.qC (Kd.R_reads' HO267.out).2.2); (case side2 => exact (Kd.R_reads' HO267.out).2.1); rintro e w' ⟨rfl, ⟨nd, rfl⟩⟩; refine ⟨_, rfl, ?_⟩))
 go_ret
 exact ⟨by first | rfl | (simp [errW_none, errW_some] <;> rfl) | (simp [*, errW_none, errW_some] <;> rfl), by exact qB HB.out⟩

end Go.Proofs.Ytejhjenlodclpaa.PFnExactAskHouses
