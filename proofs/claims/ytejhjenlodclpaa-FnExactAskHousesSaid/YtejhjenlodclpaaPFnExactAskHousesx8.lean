/- Walks of functions that FnExactAskHouses reaches: written by a tool of the kit for this claim, then shortened by a program of ours. -/
import Derived.Test.YtejhjenlodclpaaPFnExactAskHousesx0
import Derived.Test.YtejhjenlodclpaaPFnExactAskHousesx6
import Derived.Test.YtejhjenlodclpaaPFnExactAskHousesx7
/- narrow -/
namespace Go.Proofs.Ytejhjenlodclpaa.PFnExactAskHouses
open Go.RowKit Go.Proofs.YtejhjenlodclpaaW.PrintWords Go.Proofs.YtejhjenlodclpaaW.PrintLast Go.Proofs.YtejhjenlodclpaaW.PrintMore
attribute [local go_sem] max2_int min2_int max_two min_two max_three min_three max_four min_four   -- for this text's walks alone
set_option linter.unusedVariables false
set_option linter.unusedSimpArgs false

/-! ### impl_HintsFor: function 24 -/
mutual
def impl_HintsFor.l0 : Nat → Int → List Int → Int → Int → Int → List Int → Int → Int → List Int → Int → Int → Option (List Int)
 | 0, _, _, _, _, _, _, _, _, _, _, _ => none
 | k + 1, x1, x5, x13, x270000, x270001, x270002, x270003, x270004, x270005, x270006, x270007 => if x13 < 8 then (impl_HintsFor.l1 k x1 x5 x13 x270003 x13 x270000 x270001 x270002 x270003 x270004 x270005 x270006 x270007) else ((impl_united.f x5 ([] : List Int)).bind fun t277 => (some t277))
def impl_HintsFor.l1 : Nat → Int → List Int → Int → Int → Int → Int → Int → List Int → Int → Int → List Int → Int → Int → Option (List Int)
 | 0, _, _, _, _, _, _, _, _, _, _, _, _, _ => none
 | k + 1, x1, x5, x6, x7, x13, x270000, x270001, x270002, x270003, x270004, x270005, x270006, x270007 => if x7 ≤ x270004 then ((impl_allows.f k x270002 x6).bind fun t280 => (if t280 = true then ((impl_hint.f k x1 x270001 x6 x7).bind fun t281 => (if x5.length < 17592186044416 then (impl_HintsFor.l1 k x1 (x5 ++ [t281]) x6 (wrap64 (x7 + 1)) x13 x270000 x270001 x270002 x270003 x270004 x270005 x270006 x270007) else (none))) else (impl_HintsFor.l1 k x1 x5 x6 (wrap64 (x7 + 1)) x13 x270000 x270001 x270002 x270003 x270004 x270005 x270006 x270007))) else (impl_HintsFor.l0 k x1 x5 (wrap64 (x13 + 1)) x270000 x270001 x270002 x270003 x270004 x270005 x270006 x270007)
end
def impl_HintsFor.f (k : Nat) (a0_0 : Int) (a0_1 : Int) (l0_2 : List Int) (a0_3 : Int) (a0_4 : Int) (l0_5 : List Int) (a0_6 : Int) (a0_7 : Int) (a1 : Int) : Option (List Int) := (impl_IsReport.f k a0_0 a0_1 l0_2 a0_3 a0_4 l0_5 a0_6 a0_7).bind fun t270 => (if t270 = true then (impl_HintsFor.l0 k a1 (([] : List Int)) 0 a0_0 a0_1 l0_2 a0_3 a0_4 l0_5 a0_6 a0_7) else (some (([] : List Int))))
set_option maxHeartbeats 8000000 in
set_option maxRecDepth 100000 in
theorem impl_HintsFor.calls (k : Nat) (a0_0 : Int) (a0_1 : Int) (A0_2 : Option Addr) (c0_2 : Nat) (l0_2 : List Int) (a0_3 : Int) (a0_4 : Int) (A0_5 : Option Addr) (c0_5 : Nat) (l0_5 : List Int) (a0_6 : Int) (a0_7 : Int) (a1 : Int) (r : List Int) (w : World) (hr0_2 : Kd.C (Kd.int .i64) w A0_2 l0_2.length l0_2) (hc0_2 : l0_2.length ≤ c0_2) (hr0_5 : Kd.C (Kd.int .i64) w A0_5 l0_5.length l0_5) (hc0_5 : l0_5.length ≤ c0_5) (h : impl_HintsFor.f k a0_0 a0_1 l0_2 a0_3 a0_4 l0_5 a0_6 a0_7 a1 = some r) :
  Calls Try.prog 24 #[.agg #[.int .i64 a0_0, .int .i64 a0_1, .slice A0_2 l0_2.length c0_2, .int .i64 a0_3, .int .i64 a0_4, .slice A0_5 l0_5.length c0_5, .int .i64 a0_6, .int .i64 a0_7], .int .i64 a1] w fun e w' => ∃ v0_ : Value, e = .returned (v0_) ∧ Kd.R (Kd.int .i64) 3 w' w.heap.size (fun _ => True) v0_ r ∧ Below w.heap.size w w' := by
 have hu41 := Try.underlying41
 have HR0_2 := zK hr0_2
 have HC0_2 := zK hc0_2
 clear hr0_2 hc0_2
 have HR0_5 := zK hr0_5
 have HC0_5 := zK hc0_5
 clear hr0_5 hc0_5
 have HB := zK (Below.refl w.heap.size w)
 have H : ((impl_IsReport.f k a0_0 a0_1 l0_2 a0_3 a0_4 l0_5 a0_6 a0_7).bind fun t270 => (if t270 = true then (impl_HintsFor.l0 k a1 (([] : List Int)) 0 a0_0 a0_1 l0_2 a0_3 a0_4 l0_5 a0_6 a0_7) else (some (([] : List Int))))) = some r := h
 clear h
 replace H := Option.bind_eq_some_iff.mp H
 obtain ⟨t270, A30, H⟩ := H
 replace H : (if t270 = true then (impl_HintsFor.l0 k a1 (([] : List Int)) 0 a0_0 a0_1 l0_2 a0_3 a0_4 l0_5 a0_6 a0_7) else (some (([] : List Int)))) = some r := H
 have A3 := zK A30
 clear A30
 by_cases c4 : t270 = true
 rotate_left
 ·replace c4 := Bool.eq_false_iff.mpr c4
  subst c4
  have H1 : (some (([] : List Int))) = some r := by rw [if_neg (show ¬ (false = true) by decide)] at H; exact H
  clear H
  have H := H1
  clear H1
  obtain ⟨y271, hy271⟩ : ∃ y_ : List Int, y_ = (([] : List Int)) := ⟨_, rfl⟩
  replace H : (some y271) = some r := by first | (rw [hy271]; with_reducible exact H) | (have H2_ := (Option.bind_some _ _).symm.trans H; rw [hy271]; with_reducible exact H2_) | (have H2_ := (Option.bind_some _ _).symm.trans H; with_reducible exact H2_) | with_reducible exact H | (rw [hy271]; exact H) | exact H
  have Ny271 := zK hy271
  clear hy271
  obtain rfl := Option.some.inj H
  go_enter Try.func24, Try.ntmps24
  go_wp2_with (first | ((with_reducible refine gate_dst (N := 2) rfl ?_); refine box_event ?hg (N := 2) ?hd (cs := #[.int .i64 a0_0, .int .i64 a0_1, .slice A0_2 l0_2.length c0_2, .int .i64 a0_3, .int .i64 a0_4, .slice A0_5 l0_5.length c0_5, .int .i64 a0_6, .int .i64 a0_7]) (t := 41) ?hr ?_; (case hd => rfl); (case hg => rfl); (case hr => first | (go_simp; done) | (go_simp; rfl)); intro gb269 hg w25 hbox hb; have n0_ := zK (bT (qB HB.out) hb); have n1_ := zK (hbox); have n2_ := zK ((by rw [hg]; exact (bZ (qB HB.out)) : w.heap.size ≤ gb269)); have n3_ := zK ((by rw [hg]; exact (bZ (qB HB.out)) : w.heap.size ≤ gb269)); clear HB; have HB := n0_; have BK269 := n1_; have GW269 := n2_; have GE269 := n3_; clear n0_ n1_ n2_ n3_; clear hb hbox hg; have hcz26_0 : w25.cell? ⟨gb269, 0, none⟩ = some (.int .i64 a0_0) := (bc BK269.out 0).trans rfl; have hcz26_1 : w25.cell? ⟨gb269, 1, none⟩ = some (.int .i64 a0_1) := (bc BK269.out 1).trans rfl; have hcz26_2 : w25.cell? ⟨gb269, 2, none⟩ = some (.slice A0_2 l0_2.length c0_2) := (bc BK269.out 2).trans rfl; have hcz26_3 : w25.cell? ⟨gb269, 3, none⟩ = some (.int .i64 a0_3) := (bc BK269.out 3).trans rfl; have hcz26_4 : w25.cell? ⟨gb269, 4, none⟩ = some (.int .i64 a0_4) := (bc BK269.out 4).trans rfl; have hcz26_5 : w25.cell? ⟨gb269, 5, none⟩ = some (.slice A0_5 l0_5.length c0_5) := (bc BK269.out 5).trans rfl; have hcz26_6 : w25.cell? ⟨gb269, 6, none⟩ = some (.int .i64 a0_6) := (bc BK269.out 6).trans rfl; have hcz26_7 : w25.cell? ⟨gb269, 7, none⟩ = some (.int .i64 a0_7) := (bc BK269.out 7).trans rfl; have hfz26_0 := bf BK269.out 0; have hfz26_1 := bf BK269.out 1; have hfz26_2 := bf BK269.out 2; have hfz26_3 := bf BK269.out 3; have hfz26_4 := bf BK269.out 4; have hfz26_5 := bf BK269.out 5; have hfz26_6 := bf BK269.out 6; have hfz26_7 := bf BK269.out 7) | ((with_reducible refine gate_callee (f := 92) rfl ?_); refine goesL_ (some 9) rfl rfl Try.func92 (by kernel_rfl) rfl #[.agg #[.int .i64 a0_0, .int .i64 a0_1, .slice A0_2 l0_2.length c0_2, .int .i64 a0_3, .int .i64 a0_4, .slice A0_5 l0_5.length c0_5, .int .i64 a0_6, .int .i64 a0_7]] rfl m0 ?_; (with_reducible refine (impl_IsReport.calls k a0_0 a0_1 _ _ l0_2 a0_3 a0_4 _ _ l0_5 a0_6 a0_7 false _ ?side1 ?side2 ?side3 ?side4 A3.out).mono ?_); (case side1 => exact Kd.qC (Kd.C_below HR0_2.out HB.out)); (case side2 => exact HC0_2.out); (case side3 => exact Kd.qC (Kd.C_below HR0_5.out HB.out)); (case side4 => exact HC0_5.out); rintro e w27 ⟨rfl, hb⟩; refine ⟨_, rfl, ?_⟩; have n0_ := zK (bB (g := gb269) (o := .cells #[.int .i64 a0_0, .int .i64 a0_1, .slice A0_2 l0_2.length c0_2, .int .i64 a0_3, .int .i64 a0_4, .slice A0_5 l0_5.length c0_5, .int .i64 a0_6, .int .i64 a0_7] 41 (0, 0)) (qK BK269.out) hb); have n1_ := zK (bT m37 hb); clear BK269 HB; have BK269 := n0_; have HB := n1_; clear n0_ n1_; (try clear hb); (try clear hb2); (try clear hk); (try clear hi)) | ((with_reducible refine gate_dst (N := 11) rfl ?_); refine Kd.R_lit (Kd.int .i64) _ 3 ?hg (N := 11) ?hd (xs := ([] : List Int)) (inner := []) (ok := fun _ => True) (okp := fun _ => True) ?hr ?hp (fun _ hk => hk) trivial (Below.refl _ _) (Nat.le_refl _) (by simp) ?_; (case hd => rfl); (case hg => rfl); (case hr => first | (go_simp; done) | (go_simp; rfl)); (case hp => exact (Reps.none _ _)); intro v272 w28 ho29 hb hg_ hnew_; clear hg_ hnew_; (first | rw [← Ny271.out] at ho29 | (simp only [Int.reduceToNat] at ho29; rw [← Ny271.out] at ho29)); have n0_ := zK (Kd.R_lower ho29 (bZ m37)); have n1_ := zK (bB (g := gb269) (o := .cells #[.int .i64 a0_0, .int .i64 a0_1, .slice A0_2 l0_2.length c0_2, .int .i64 a0_3, .int .i64 a0_4, .slice A0_5 l0_5.length c0_5, .int .i64 a0_6, .int .i64 a0_7] 41 (0, 0)) (qK BK269.out) hb); have n2_ := zK (bT m37 hb); clear BK269 HB; have HO273 := n0_; have BK269 := n1_; have HB := n2_; clear n0_ n1_ n2_; clear hb ho29))
  go_ret
  exact ⟨_, by first | rfl | (simp [errW_none, errW_some] <;> rfl) | (simp [*, errW_none, errW_some] <;> rfl), by exact Kd.qR HO273.out, by repeat (first | (with_reducible first | exact HB.out | apply bA | apply bN | apply b1 | refine bS ?_ GE269.out) | exact HB.out)⟩
 subst c4
 have H1 : (impl_HintsFor.l0 k a1 (([] : List Int)) 0 a0_0 a0_1 l0_2 a0_3 a0_4 l0_5 a0_6 a0_7) = some r := by rw [if_pos rfl] at H; exact H
 clear H
 have H := H1
 clear H1
 obtain ⟨y274, hy274⟩ : ∃ y_ : List Int, y_ = (([] : List Int)) := ⟨_, rfl⟩
 replace H : (impl_HintsFor.l0 k a1 y274 0 a0_0 a0_1 l0_2 a0_3 a0_4 l0_5 a0_6 a0_7) = some r := by first | (rw [hy274]; with_reducible exact H) | (have H2_ := (Option.bind_some _ _).symm.trans H; rw [hy274]; with_reducible exact H2_) | (have H2_ := (Option.bind_some _ _).symm.trans H; with_reducible exact H2_) | with_reducible exact H | (rw [hy274]; exact H) | exact H
 have Ny274 := zK hy274
 clear hy274
 have H' := zK H
 clear H
 go_enter Try.func24, Try.ntmps24
 go_wp2_with (first | ((with_reducible refine gate_dst (N := 2) rfl ?_); refine box_event ?hg (N := 2) ?hd (cs := #[.int .i64 a0_0, .int .i64 a0_1, .slice A0_2 l0_2.length c0_2, .int .i64 a0_3, .int .i64 a0_4, .slice A0_5 l0_5.length c0_5, .int .i64 a0_6, .int .i64 a0_7]) (t := 41) ?hr ?_; (case hd => rfl); (case hg => rfl); (case hr => first | (go_simp; done) | (go_simp; rfl)); intro gb269 hg w5 hbox hb; have n0_ := zK (bT (qB HB.out) hb); have n1_ := zK (hbox); have n2_ := zK ((by rw [hg]; exact (bZ (qB HB.out)) : w.heap.size ≤ gb269)); have n3_ := zK ((by rw [hg]; exact (bZ (qB HB.out)) : w.heap.size ≤ gb269)); clear HB; have HB := n0_; have BK269 := n1_; have GW269 := n2_; have GE269 := n3_; clear n0_ n1_ n2_ n3_; clear hb hbox hg; have hcz6_0 : w5.cell? ⟨gb269, 0, none⟩ = some (.int .i64 a0_0) := (bc BK269.out 0).trans rfl; have hcz6_1 : w5.cell? ⟨gb269, 1, none⟩ = some (.int .i64 a0_1) := (bc BK269.out 1).trans rfl; have hcz6_2 : w5.cell? ⟨gb269, 2, none⟩ = some (.slice A0_2 l0_2.length c0_2) := (bc BK269.out 2).trans rfl; have hcz6_3 : w5.cell? ⟨gb269, 3, none⟩ = some (.int .i64 a0_3) := (bc BK269.out 3).trans rfl; have hcz6_4 : w5.cell? ⟨gb269, 4, none⟩ = some (.int .i64 a0_4) := (bc BK269.out 4).trans rfl; have hcz6_5 : w5.cell? ⟨gb269, 5, none⟩ = some (.slice A0_5 l0_5.length c0_5) := (bc BK269.out 5).trans rfl; have hcz6_6 : w5.cell? ⟨gb269, 6, none⟩ = some (.int .i64 a0_6) := (bc BK269.out 6).trans rfl; have hcz6_7 : w5.cell? ⟨gb269, 7, none⟩ = some (.int .i64 a0_7) := (bc BK269.out 7).trans rfl; have hfz6_0 := bf BK269.out 0; have hfz6_1 := bf BK269.out 1; have hfz6_2 := bf BK269.out 2; have hfz6_3 := bf BK269.out 3; have hfz6_4 := bf BK269.out 4; have hfz6_5 := bf BK269.out 5; have hfz6_6 := bf BK269.out 6; have hfz6_7 := bf BK269.out 7) | ((with_reducible refine gate_callee (f := 92) rfl ?_); refine goesL_ (some 9) rfl rfl Try.func92 (by kernel_rfl) rfl #[.agg #[.int .i64 a0_0, .int .i64 a0_1, .slice A0_2 l0_2.length c0_2, .int .i64 a0_3, .int .i64 a0_4, .slice A0_5 l0_5.length c0_5, .int .i64 a0_6, .int .i64 a0_7]] rfl m0 ?_; (with_reducible refine (impl_IsReport.calls k a0_0 a0_1 _ _ l0_2 a0_3 a0_4 _ _ l0_5 a0_6 a0_7 true _ ?side1 ?side2 ?side3 ?side4 A3.out).mono ?_); (case side1 => exact Kd.qC (Kd.C_below HR0_2.out HB.out)); (case side2 => exact HC0_2.out); (case side3 => exact Kd.qC (Kd.C_below HR0_5.out HB.out)); (case side4 => exact HC0_5.out); rintro e w7 ⟨rfl, hb⟩; refine ⟨_, rfl, ?_⟩; have n0_ := zK (bB (g := gb269) (o := .cells #[.int .i64 a0_0, .int .i64 a0_1, .slice A0_2 l0_2.length c0_2, .int .i64 a0_3, .int .i64 a0_4, .slice A0_5 l0_5.length c0_5, .int .i64 a0_6, .int .i64 a0_7] 41 (0, 0)) (qK BK269.out) hb); have n1_ := zK (bT m37 hb); clear BK269 HB; have BK269 := n0_; have HB := n1_; clear n0_ n1_; (try clear hb); (try clear hb2); (try clear hk); (try clear hi)) | ((with_reducible refine gate_dst (N := 12) rfl ?_); refine Kd.R_lit (Kd.int .i64) _ 3 ?hg (N := 12) ?hd (xs := ([] : List Int)) (inner := []) (ok := fun _ => True) (okp := fun _ => True) ?hr ?hp (fun _ hk => hk) trivial (Below.refl _ _) (Nat.le_refl _) (by simp) ?_; (case hd => rfl); (case hg => rfl); (case hr => first | (go_simp; done) | (go_simp; rfl)); (case hp => exact (Reps.none _ _)); intro v275 w8 ho9 hb hg_ hnew_; clear hg_ hnew_; (first | rw [← Ny274.out] at ho9 | (simp only [Int.reduceToNat] at ho9; rw [← Ny274.out] at ho9)); have n0_ := zK (Kd.R_lower ho9 (bZ m37)); have n1_ := zK (bB (g := gb269) (o := .cells #[.int .i64 a0_0, .int .i64 a0_1, .slice A0_2 l0_2.length c0_2, .int .i64 a0_3, .int .i64 a0_4, .slice A0_5 l0_5.length c0_5, .int .i64 a0_6, .int .i64 a0_7] 41 (0, 0)) (qK BK269.out) hb); have n2_ := zK (bT m37 hb); clear BK269 HB; have HO276 := n0_; have BK269 := n1_; have HB := n2_; clear n0_ n1_ n2_; clear hb ho9))
 go_loopg [5, 13] k (fun kq v5 v13 w' => ∃ (x5_1 : List Int) (x13_1 : Int), v13 = .int .i64 x13_1 ∧ Aside0 (impl_HintsFor.l0 kq a1 x5_1 x13_1 a0_0 a0_1 l0_2 a0_3 a0_4 l0_5 a0_6 a0_7 = some r) ∧ Aside0 (kq ≤ k) ∧ Aside0 (Kd.R (Kd.int .i64) 3 w' w.heap.size (fun _ => True) v5 x5_1) ∧ Aside0 (w'.heap[gb269]? = some (.cells #[.int .i64 a0_0, .int .i64 a0_1, (.slice A0_2 l0_2.length c0_2), .int .i64 a0_3, .int .i64 a0_4, (.slice A0_5 l0_5.length c0_5), .int .i64 a0_6, .int .i64 a0_7] 41 (0, 0))) ∧ Aside0 (Below w.heap.size w w'))
 case atStart => exact ⟨(y274), (0), m5, H', ⟨Nat.le_refl _⟩, ⟨by exact Kd.qR HO276.out⟩, ⟨by exact qK BK269.out⟩, ⟨by repeat (first | (with_reducible first | exact HB.out | apply bA | apply bN | apply b1 | refine bS ?_ GE269.out) | exact HB.out)⟩⟩
 case round =>
  clear H'
  try clear c2
  try clear p2
  try clear c4
  try clear c9
  try clear hcz6_0
  try clear hcz6_1
  try clear hcz6_2
  try clear hcz6_3
  try clear hcz6_4
  try clear hcz6_5
  try clear hcz6_6
  try clear hcz6_7
  try clear hfz6_0
  try clear hfz6_1
  try clear hfz6_2
  try clear hfz6_3
  try clear hfz6_4
  try clear hfz6_5
  try clear hfz6_6
  try clear hfz6_7
  obtain ⟨x5_1, x13_1, rfl, HA, HK1, HO_5, BK269, HB⟩ := hrel
  cases gk with
  | zero => exact absurd HA.out (by simp [impl_HintsFor.l0])
  | succ k1 =>
   have H := HA.out
   clear HA
   simp only [impl_HintsFor.l0] at H
   by_cases c10 : x13_1 < 8
   rotate_left
   ·rw [if_neg c10] at H
    have c10b0 : decide (x13_1 < 8) = false := decide_eq_false c10
    clear c10
    replace H := Option.bind_eq_some_iff.mp H
    obtain ⟨t277, A220, H⟩ := H
    replace H : (some t277) = some r := H
    have A22 := zK A220
    clear A220
    obtain rfl := Option.some.inj H
    obtain ⟨Ao23, co23, eo23⟩ := Kd.R_slice HO_5.out
    subst eo23
    go_wp2_with (first | ((with_reducible refine gate_callee (f := 86) rfl ?_); refine goesL_ (some 39) rfl rfl Try.func86 (by kernel_rfl) rfl #[.slice Ao23 x5_1.length co23, .slice none 0 0] rfl m0 ?_; (refine (impl_united.calls _ _ x5_1 _ _ ([] : List Int) t277 _ ?side1 ?side2 ?side3 ?side4 A22.out).mono ?_); (case side1 => exact Kd.qC (Kd.R_reads' HO_5.out).2.2); (case side2 => exact (Kd.R_reads' HO_5.out).2.1); (case side3 => exact Kd.C_nil _ _); (case side4 => exact Nat.le_refl _); rintro e w24 ⟨v278, rfl, ho0, hb⟩; refine ⟨_, rfl, ?_⟩; have n0_ := zK (Kd.R_elder' (Kd.qR HO_5.out) (Kd.R_base ho0) hb); have n1_ := zK (Kd.R_lower (Kd.R_new' ho0 (Kd.R_lt (Kd.qR HO_5.out))) (bZ m37)); have n2_ := zK (bB (g := gb269) (o := .cells #[.int .i64 a0_0, .int .i64 a0_1, .slice A0_2 l0_2.length c0_2, .int .i64 a0_3, .int .i64 a0_4, .slice A0_5 l0_5.length c0_5, .int .i64 a0_6, .int .i64 a0_7] 41 (0, 0)) (qK BK269.out) hb); have n3_ := zK (bT m37 hb); clear HO_5 BK269 HB; have HO_5 := n0_; have HO279 := n1_; have BK269 := n2_; have HB := n3_; clear n0_ n1_ n2_ n3_; (try clear hb); (try clear hb2); (try clear hk); (try clear hi); (try clear ho0)))
    go_ret
    exact ⟨_, by first | rfl | (simp [errW_none, errW_some] <;> rfl) | (simp [*, errW_none, errW_some] <;> rfl), by (with_reducible repeat (first | apply Kd.RA | apply Kd.RN | apply Kd.RD)); exact Kd.R_mono HO279.out (fun _ hk => trivial), by repeat (first | (with_reducible first | exact HB.out | apply bA | apply bN | apply b1 | refine bS ?_ GE269.out) | exact HB.out)⟩
   rw [if_pos c10] at H
   have c10b0 : decide (x13_1 < 8) = true := decide_eq_true c10
   clear c10
   have H' := zK H
   clear H
   have hcz11_0 : wr.cell? ⟨gb269, 0, none⟩ = some (.int .i64 a0_0) := (bc BK269.out 0).trans rfl
   have hcz11_1 : wr.cell? ⟨gb269, 1, none⟩ = some (.int .i64 a0_1) := (bc BK269.out 1).trans rfl
   have hcz11_2 : wr.cell? ⟨gb269, 2, none⟩ = some (.slice A0_2 l0_2.length c0_2) := (bc BK269.out 2).trans rfl
   have hcz11_3 : wr.cell? ⟨gb269, 3, none⟩ = some (.int .i64 a0_3) := (bc BK269.out 3).trans rfl
   have hcz11_4 : wr.cell? ⟨gb269, 4, none⟩ = some (.int .i64 a0_4) := (bc BK269.out 4).trans rfl
   have hcz11_5 : wr.cell? ⟨gb269, 5, none⟩ = some (.slice A0_5 l0_5.length c0_5) := (bc BK269.out 5).trans rfl
   have hcz11_6 : wr.cell? ⟨gb269, 6, none⟩ = some (.int .i64 a0_6) := (bc BK269.out 6).trans rfl
   have hcz11_7 : wr.cell? ⟨gb269, 7, none⟩ = some (.int .i64 a0_7) := (bc BK269.out 7).trans rfl
   have hfz11_0 := bf BK269.out 0
   have hfz11_1 := bf BK269.out 1
   have hfz11_2 := bf BK269.out 2
   have hfz11_3 := bf BK269.out 3
   have hfz11_4 := bf BK269.out 4
   have hfz11_5 := bf BK269.out 5
   have hfz11_6 := bf BK269.out 6
   have hfz11_7 := bf BK269.out 7
   go_wp2
   go_loopg [5, 7] k1 (fun kq v5 v7 w' => ∃ (x5_2 : List Int) (x7_2 : Int), v7 = .int .i64 x7_2 ∧ Aside0 (impl_HintsFor.l1 kq a1 x5_2 x13_1 x7_2 x13_1 a0_0 a0_1 l0_2 a0_3 a0_4 l0_5 a0_6 a0_7 = some r) ∧ Aside0 (kq ≤ k1) ∧ Aside0 (Kd.R (Kd.int .i64) 3 w' w.heap.size (fun _ => True) v5 x5_2) ∧ Aside0 (w'.heap[gb269]? = some (.cells #[.int .i64 a0_0, .int .i64 a0_1, (.slice A0_2 l0_2.length c0_2), .int .i64 a0_3, .int .i64 a0_4, (.slice A0_5 l0_5.length c0_5), .int .i64 a0_6, .int .i64 a0_7] 41 (0, 0))) ∧ Aside0 (Below w.heap.size w w'))
   case atStart => exact ⟨(x5_1), (a0_3), m5, H', ⟨Nat.le_refl _⟩, ⟨by exact Kd.qR HO_5.out⟩, ⟨by exact qK BK269.out⟩, ⟨by repeat (first | (with_reducible first | exact HB.out | apply bA | apply bN | apply b1 | refine bS ?_ GE269.out) | exact HB.out)⟩⟩
   case round =>
    clear H'
    try clear c1
    try clear c2
    try clear p2
    try clear c4
    try clear c9
    try clear c10
    try clear c10b0
    try clear hcz11_0
    try clear hcz11_1
    try clear hcz11_2
    try clear hcz11_3
    try clear hcz11_4
    try clear hcz11_5
    try clear hcz11_6
    try clear hcz11_7
    try clear hcz6_0
    try clear hcz6_1
    try clear hcz6_2
    try clear hcz6_3
    try clear hcz6_4
    try clear hcz6_5
    try clear hcz6_6
    try clear hcz6_7
    try clear hfz11_0
    try clear hfz11_1
    try clear hfz11_2
    try clear hfz11_3
    try clear hfz11_4
    try clear hfz11_5
    try clear hfz11_6
    try clear hfz11_7
    try clear hfz6_0
    try clear hfz6_1
    try clear hfz6_2
    try clear hfz6_3
    try clear hfz6_4
    try clear hfz6_5
    try clear hfz6_6
    try clear hfz6_7
    try clear p2
    obtain ⟨x5_2, x7_2, rfl, HA, HK2, HO_5, BK269, HB⟩ := hrel
    cases gk with
    | zero => exact absurd HA.out (by simp [impl_HintsFor.l1])
    | succ k2 =>
     have H := HA.out
     clear HA
     simp only [impl_HintsFor.l1] at H
     by_cases c12 : x7_2 ≤ a0_4
     rotate_left
     ·rw [if_neg c12] at H
      have c12b0 : decide (x7_2 ≤ a0_4) = false := decide_eq_false c12
      clear c12
      have H' := zK H
      clear H
      have hcz21_0 : wr.cell? ⟨gb269, 0, none⟩ = some (.int .i64 a0_0) := (bc BK269.out 0).trans rfl
      have hcz21_1 : wr.cell? ⟨gb269, 1, none⟩ = some (.int .i64 a0_1) := (bc BK269.out 1).trans rfl
      have hcz21_2 : wr.cell? ⟨gb269, 2, none⟩ = some (.slice A0_2 l0_2.length c0_2) := (bc BK269.out 2).trans rfl
      have hcz21_3 : wr.cell? ⟨gb269, 3, none⟩ = some (.int .i64 a0_3) := (bc BK269.out 3).trans rfl
      have hcz21_4 : wr.cell? ⟨gb269, 4, none⟩ = some (.int .i64 a0_4) := (bc BK269.out 4).trans rfl
      have hcz21_5 : wr.cell? ⟨gb269, 5, none⟩ = some (.slice A0_5 l0_5.length c0_5) := (bc BK269.out 5).trans rfl
      have hcz21_6 : wr.cell? ⟨gb269, 6, none⟩ = some (.int .i64 a0_6) := (bc BK269.out 6).trans rfl
      have hcz21_7 : wr.cell? ⟨gb269, 7, none⟩ = some (.int .i64 a0_7) := (bc BK269.out 7).trans rfl
      have hfz21_0 := bf BK269.out 0
      have hfz21_1 := bf BK269.out 1
      have hfz21_2 := bf BK269.out 2
      have hfz21_3 := bf BK269.out 3
      have hfz21_4 := bf BK269.out 4
      have hfz21_5 := bf BK269.out 5
      have hfz21_6 := bf BK269.out 6
      have hfz21_7 := bf BK269.out 7
      go_wp2
      go_roundg k2
      case measure => have := HK1.out; have := HK2.out; omega
      case rel => exact ⟨(x5_2), (wrap64 (x13_1 + 1)), m5, H', ⟨by have := HK1.out; have := HK2.out; omega⟩, ⟨by exact Kd.qR HO_5.out⟩, ⟨by exact qK BK269.out⟩, ⟨by repeat (first | (with_reducible first | exact HB.out | apply bA | apply bN | apply b1 | refine bS ?_ GE269.out) | exact HB.out)⟩⟩
     rw [if_pos c12] at H
     have c12b0 : decide (x7_2 ≤ a0_4) = true := decide_eq_true c12
     clear c12
     replace H := Option.bind_eq_some_iff.mp H
     obtain ⟨t280, A130, H⟩ := H
     replace H : (if t280 = true then ((impl_hint.f k2 a1 a0_1 x13_1 x7_2).bind fun t281 => (if x5_2.length < 17592186044416 then (impl_HintsFor.l1 k2 a1 (x5_2 ++ [t281]) x13_1 (wrap64 (x7_2 + 1)) x13_1 a0_0 a0_1 l0_2 a0_3 a0_4 l0_5 a0_6 a0_7) else (none))) else (impl_HintsFor.l1 k2 a1 x5_2 x13_1 (wrap64 (x7_2 + 1)) x13_1 a0_0 a0_1 l0_2 a0_3 a0_4 l0_5 a0_6 a0_7)) = some r := H
     have A13 := zK A130
     clear A130
     by_cases c14 : t280 = true
     rotate_left
     ·replace c14 := Bool.eq_false_iff.mpr c14
      subst c14
      have H1 : (impl_HintsFor.l1 k2 a1 x5_2 x13_1 (wrap64 (x7_2 + 1)) x13_1 a0_0 a0_1 l0_2 a0_3 a0_4 l0_5 a0_6 a0_7) = some r := by rw [if_neg (show ¬ (false = true) by decide)] at H; exact H
      clear H
      have H := H1
      clear H1
      have H' := zK H
      clear H
      have hcz20_0 : wr.cell? ⟨gb269, 0, none⟩ = some (.int .i64 a0_0) := (bc BK269.out 0).trans rfl
      have hcz20_1 : wr.cell? ⟨gb269, 1, none⟩ = some (.int .i64 a0_1) := (bc BK269.out 1).trans rfl
      have hcz20_2 : wr.cell? ⟨gb269, 2, none⟩ = some (.slice A0_2 l0_2.length c0_2) := (bc BK269.out 2).trans rfl
      have hcz20_3 : wr.cell? ⟨gb269, 3, none⟩ = some (.int .i64 a0_3) := (bc BK269.out 3).trans rfl
      have hcz20_4 : wr.cell? ⟨gb269, 4, none⟩ = some (.int .i64 a0_4) := (bc BK269.out 4).trans rfl
      have hcz20_5 : wr.cell? ⟨gb269, 5, none⟩ = some (.slice A0_5 l0_5.length c0_5) := (bc BK269.out 5).trans rfl
      have hcz20_6 : wr.cell? ⟨gb269, 6, none⟩ = some (.int .i64 a0_6) := (bc BK269.out 6).trans rfl
      have hcz20_7 : wr.cell? ⟨gb269, 7, none⟩ = some (.int .i64 a0_7) := (bc BK269.out 7).trans rfl
      have hfz20_0 := bf BK269.out 0
      have hfz20_1 := bf BK269.out 1
      have hfz20_2 := bf BK269.out 2
      have hfz20_3 := bf BK269.out 3
      have hfz20_4 := bf BK269.out 4
      have hfz20_5 := bf BK269.out 5
      have hfz20_6 := bf BK269.out 6
      have hfz20_7 := bf BK269.out 7
      go_wp2_with (first | ((with_reducible refine gate_callee (f := 93) rfl ?_); refine goesL_ (some 27) rfl rfl Try.func93 (by kernel_rfl) rfl #[.slice A0_2 l0_2.length c0_2, .int .i64 x13_1] rfl m0 ?_; (with_reducible refine (impl_allows.calls k2 _ _ l0_2 x13_1 false _ ?side1 ?side2 A13.out).mono ?_); (case side1 => exact Kd.qC (Kd.C_below HR0_2.out HB.out)); (case side2 => exact HC0_2.out); rintro e w' ⟨rfl, ⟨nd, rfl⟩⟩; refine ⟨_, rfl, ?_⟩))
      go_roundg k2
      case measure => have := HK1.out; have := HK2.out; omega
      case rel => exact ⟨(x5_2), (wrap64 (x7_2 + 1)), m5, H', ⟨by have := HK1.out; have := HK2.out; omega⟩, ⟨by exact Kd.qR HO_5.out⟩, ⟨by exact qK BK269.out⟩, ⟨by repeat (first | (with_reducible first | exact HB.out | apply bA | apply bN | apply b1 | refine bS ?_ GE269.out) | exact HB.out)⟩⟩
     subst c14
     have H1 : ((impl_hint.f k2 a1 a0_1 x13_1 x7_2).bind fun t281 => (if x5_2.length < 17592186044416 then (impl_HintsFor.l1 k2 a1 (x5_2 ++ [t281]) x13_1 (wrap64 (x7_2 + 1)) x13_1 a0_0 a0_1 l0_2 a0_3 a0_4 l0_5 a0_6 a0_7) else (none))) = some r := by rw [if_pos rfl] at H; exact H
     clear H
     have H := H1
     clear H1
     replace H := Option.bind_eq_some_iff.mp H
     obtain ⟨t281, A150, H⟩ := H
     replace H : (if x5_2.length < 17592186044416 then (impl_HintsFor.l1 k2 a1 (x5_2 ++ [t281]) x13_1 (wrap64 (x7_2 + 1)) x13_1 a0_0 a0_1 l0_2 a0_3 a0_4 l0_5 a0_6 a0_7) else (none)) = some r := H
     have A15 := zK A150
     clear A150
     by_cases c16 : x5_2.length < 17592186044416
     rotate_left
     ·rw [if_neg c16] at H
      exact absurd H (by simp)
     rw [if_pos c16] at H
     have LMc16 := zK c16
     clear c16
     obtain ⟨y282, hy282⟩ : ∃ y_ : List Int, y_ = (x5_2 ++ [t281]) := ⟨_, rfl⟩
     replace H : (impl_HintsFor.l1 k2 a1 y282 x13_1 (wrap64 (x7_2 + 1)) x13_1 a0_0 a0_1 l0_2 a0_3 a0_4 l0_5 a0_6 a0_7) = some r := by first | (rw [hy282]; with_reducible exact H) | (have H2_ := (Option.bind_some _ _).symm.trans H; rw [hy282]; with_reducible exact H2_) | (have H2_ := (Option.bind_some _ _).symm.trans H; with_reducible exact H2_) | with_reducible exact H | (rw [hy282]; exact H) | exact H
     have Ny282 := zK hy282
     clear hy282
     have H' := zK H
     clear H
     have hcz17_0 : wr.cell? ⟨gb269, 0, none⟩ = some (.int .i64 a0_0) := (bc BK269.out 0).trans rfl
     have hcz17_1 : wr.cell? ⟨gb269, 1, none⟩ = some (.int .i64 a0_1) := (bc BK269.out 1).trans rfl
     have hcz17_2 : wr.cell? ⟨gb269, 2, none⟩ = some (.slice A0_2 l0_2.length c0_2) := (bc BK269.out 2).trans rfl
     have hcz17_3 : wr.cell? ⟨gb269, 3, none⟩ = some (.int .i64 a0_3) := (bc BK269.out 3).trans rfl
     have hcz17_4 : wr.cell? ⟨gb269, 4, none⟩ = some (.int .i64 a0_4) := (bc BK269.out 4).trans rfl
     have hcz17_5 : wr.cell? ⟨gb269, 5, none⟩ = some (.slice A0_5 l0_5.length c0_5) := (bc BK269.out 5).trans rfl
     have hcz17_6 : wr.cell? ⟨gb269, 6, none⟩ = some (.int .i64 a0_6) := (bc BK269.out 6).trans rfl
     have hcz17_7 : wr.cell? ⟨gb269, 7, none⟩ = some (.int .i64 a0_7) := (bc BK269.out 7).trans rfl
     have hfz17_0 := bf BK269.out 0
     have hfz17_1 := bf BK269.out 1
     have hfz17_2 := bf BK269.out 2
     have hfz17_3 := bf BK269.out 3
     have hfz17_4 := bf BK269.out 4
     have hfz17_5 := bf BK269.out 5
     have hfz17_6 := bf BK269.out 6
     have hfz17_7 := bf BK269.out 7
     go_wp2_with (first | ((with_reducible refine gate_callee (f := 93) rfl ?_); refine goesL_ (some 27) rfl rfl Try.func93 (by kernel_rfl) rfl #[.slice A0_2 l0_2.length c0_2, .int .i64 x13_1] rfl m0 ?_; (with_reducible refine (impl_allows.calls k2 _ _ l0_2 x13_1 true _ ?side1 ?side2 A13.out).mono ?_); (case side1 => exact Kd.qC (Kd.C_below HR0_2.out HB.out)); (case side2 => exact HC0_2.out); rintro e w' ⟨rfl, ⟨nd, rfl⟩⟩; refine ⟨_, rfl, ?_⟩) | ((with_reducible refine gate_callee (f := 94) rfl ?_); refine goesL_ (some 34) rfl rfl Try.func94 (by kernel_rfl) rfl #[.int .i64 a1, .int .i64 a0_1, .int .i64 x13_1, .int .i64 x7_2] rfl m0 ?_; (with_reducible refine (impl_hint.calls k2 a1 a0_1 x13_1 x7_2 t281 _ A15.out).mono ?_); rintro e w18 ⟨rfl, hb⟩; refine ⟨_, rfl, ?_⟩; have n0_ := zK (Kd.R_below (Kd.qR HO_5.out) hb); have n1_ := zK (bB (g := gb269) (o := .cells #[.int .i64 a0_0, .int .i64 a0_1, .slice A0_2 l0_2.length c0_2, .int .i64 a0_3, .int .i64 a0_4, .slice A0_5 l0_5.length c0_5, .int .i64 a0_6, .int .i64 a0_7] 41 (0, 0)) (qK BK269.out) hb); have n2_ := zK (bT m37 hb); clear HO_5 BK269 HB; have HO_5 := n0_; have BK269 := n1_; have HB := n2_; clear n0_ n1_ n2_; (try clear hb); (try clear hb2); (try clear hk); (try clear hi)) | ((with_reducible refine gate_builtin (b := .append) (xs := #[.tmp 28, .tmp 35]) rfl ?_); at_builtin; refine Kd.R_append (Kd.int .i64) (w0 := w) w.heap.size rfl (.tmp 28) (.tmp 35) 24 3 (.int .i64 0) 8 rfl Try.underlying24 info3 rfl (by decide) (by omega) u5 x5_2 t281 [.int .i64 t281] (fun _ => True) (fun _ => False) rfl rfl ?aP (fun _ hk => hk.elim) ?aF ?aO ?aB ?aS ?aL ?_; (case aP => exact rfl); (case aB => exact m37); (case aF => exact (fun _ _ => trivial)); (case aO => exact (Kd.qR HO_5.out)); (case aS => exact (bZ m37)); (case aL => have := LMc16.out; omega); intro v283 w19 ho hb hg hat; rw [← Ny282.out] at ho; have n0_ := zK (blk_grown (g := gb269) (o := .cells #[.int .i64 a0_0, .int .i64 a0_1, .slice A0_2 l0_2.length c0_2, .int .i64 a0_3, .int .i64 a0_4, .slice A0_5 l0_5.length c0_5, .int .i64 a0_6, .int .i64 a0_7] 41 (0, 0)) (qK BK269.out) hg (Kd.R_ne HO_5.out BK269.out (by decide))); have n1_ := zK (hb); have n2_ := zK (ho); clear BK269 HB HO_5; have BK269 := n0_; have HB := n1_; have HO284 := n2_; clear n0_ n1_ n2_; clear ho hb hg hat))
     go_roundg k2
     case measure => have := HK1.out; have := HK2.out; omega
     case rel => exact ⟨(y282), (wrap64 (x7_2 + 1)), m5, H', ⟨by have := HK1.out; have := HK2.out; omega⟩, ⟨by exact Kd.qR HO284.out⟩, ⟨by exact qK BK269.out⟩, ⟨by repeat (first | (with_reducible first | exact HB.out | apply bA | apply bN | apply b1 | refine bS ?_ GE269.out) | exact HB.out)⟩⟩
/-! ### impl_SharedHints: function 81 -/
def impl_SharedHints.l0 : Nat → List Int → Int → List Int → Int → Int → Option (Int)
 | 0, _, _, _, _, _ => none
 | k + 1, x1, x5, x9, x10, x11 => if x11 < x10 then (if 0 ≤ x11 then (if x11 < (x9.length : Int) then ((slices_Contains_int_int.f k x1 (rd x9 x11)).bind fun t289 => (if t289 = true then (impl_SharedHints.l0 k x1 (wrap64 (x5 + 1)) x9 x10 (wrap64 (x11 + 1))) else (impl_SharedHints.l0 k x1 x5 x9 x10 (wrap64 (x11 + 1))))) else (none)) else (none)) else (some x5)
def impl_SharedHints.f (k : Nat) (l0 : List Int) (l1 : List Int) : Option (Int) := (impl_united.f l0 ([] : List Int)).bind fun t285 => (impl_SharedHints.l0 k l1 0 t285 (t285.length : Int) 0)
set_option maxHeartbeats 8000000 in
set_option maxRecDepth 100000 in
theorem impl_SharedHints.calls (k : Nat) (A0 : Option Addr) (c0 : Nat) (l0 : List Int) (A1 : Option Addr) (c1 : Nat) (l1 : List Int) (r : Int) (w : World) (hr0 : Kd.C (Kd.int .i64) w A0 l0.length l0) (hc0 : l0.length ≤ c0) (hr1 : Kd.C (Kd.int .i64) w A1 l1.length l1) (hc1 : l1.length ≤ c1) (h : impl_SharedHints.f k l0 l1 = some r) :
  Calls Try.prog 81 #[.slice A0 l0.length c0, .slice A1 l1.length c1] w fun e w' => e = .returned (.int .i64 r) ∧ Below w.heap.size w w' := by
 have HR0 := zK hr0
 have HC0 := zK hc0
 clear hr0 hc0
 have HR1 := zK hr1
 have HC1 := zK hc1
 clear hr1 hc1
 have HB := zK (Below.refl w.heap.size w)
 have H : ((impl_united.f l0 ([] : List Int)).bind fun t285 => (impl_SharedHints.l0 k l1 0 t285 (t285.length : Int) 0)) = some r := h
 clear h
 replace H := Option.bind_eq_some_iff.mp H
 obtain ⟨t285, A30, H⟩ := H
 replace H : (impl_SharedHints.l0 k l1 0 t285 (t285.length : Int) 0) = some r := H
 have A3 := zK A30
 clear A30
 have H' := zK H
 clear H
 go_enter Try.func81, Try.ntmps81
 go_wp2_with (first | ((with_reducible refine gate_callee (f := 86) rfl ?_); refine goesL_ (some 9) rfl rfl Try.func86 (by kernel_rfl) rfl #[.slice A0 l0.length c0, .slice none 0 0] rfl m0 ?_; (refine (impl_united.calls _ _ l0 _ _ ([] : List Int) t285 _ ?side1 ?side2 ?side3 ?side4 A3.out).mono ?_); (case side1 => exact Kd.qC HR0.out); (case side2 => exact HC0.out); (case side3 => exact Kd.C_nil _ _); (case side4 => exact Nat.le_refl _); rintro e w4 ⟨v286, rfl, ho0, hb⟩; refine ⟨_, rfl, ?_⟩; have n0_ := zK (Kd.R_lower ho0 (bZ (qB HB.out))); have n1_ := zK (bT (qB HB.out) hb); clear HB; have HO287 := n0_; have HB := n1_; clear n0_ n1_; (try clear hb); (try clear hb2); (try clear hk); (try clear hi); (try clear ho0); obtain ⟨Ao5, co5, eo5⟩ := Kd.R_slice HO287.out; subst eo5))
 go_loopg [5, 11] k (fun kq v5 v11 w' => ∃ (x5_1 : Int) (x11_1 : Int), v5 = .int .i64 x5_1 ∧ v11 = .int .i64 x11_1 ∧ Aside0 (impl_SharedHints.l0 kq l1 x5_1 t285 (t285.length : Int) x11_1 = some r) ∧ Aside0 (kq ≤ k) ∧ Aside0 (Kd.R (Kd.int .i64) 3 w' w.heap.size (fun _ => True) (.slice Ao5 t285.length co5) t285) ∧ Aside0 (Below w.heap.size w w'))
 case atStart => exact ⟨(0), (0), m5, m5, H', ⟨Nat.le_refl _⟩, ⟨by exact Kd.qR HO287.out⟩, ⟨by exact qB HB.out⟩⟩
 case round =>
  clear H'
  try clear c1
  try clear p2
  obtain ⟨x5_1, x11_1, rfl, rfl, HA, HK1, HO_9, HB⟩ := hrel
  cases gk with
  | zero => exact absurd HA.out (by simp [impl_SharedHints.l0])
  | succ k1 =>
   have H := HA.out
   clear HA
   simp only [impl_SharedHints.l0] at H
   by_cases c6 : x11_1 < (t285.length : Int)
   rotate_left
   ·rw [if_neg c6] at H
    have c6b0 : decide (x11_1 < (t285.length : Int)) = false := decide_eq_false c6
    clear c6
    obtain rfl := Option.some.inj H
    go_wp2
    go_ret
    exact ⟨by first | rfl | (simp [errW_none, errW_some] <;> rfl) | (simp [*, errW_none, errW_some] <;> rfl), by exact qB HB.out⟩
   rw [if_pos c6] at H
   have c6b0 : decide (x11_1 < (t285.length : Int)) = true := decide_eq_true c6
   clear c6
   by_cases c7 : 0 ≤ x11_1
   rotate_left
   ·rw [if_neg c7] at H
    exact absurd H (by simp)
   rw [if_pos c7] at H
   have c7b0 : decide (0 ≤ x11_1) = true := decide_eq_true c7
   clear c7
   by_cases c8 : x11_1 < (t285.length : Int)
   rotate_left
   ·rw [if_neg c8] at H
    exact absurd H (by simp)
   rw [if_pos c8] at H
   have c8b0 : decide (x11_1 < (t285.length : Int)) = true := decide_eq_true c8
   clear c8
   replace H := Option.bind_eq_some_iff.mp H
   obtain ⟨t289, A90, H⟩ := H
   replace H : (if t289 = true then (impl_SharedHints.l0 k1 l1 (wrap64 (x5_1 + 1)) t285 (t285.length : Int) (wrap64 (x11_1 + 1))) else (impl_SharedHints.l0 k1 l1 x5_1 t285 (t285.length : Int) (wrap64 (x11_1 + 1)))) = some r := H
   have A9 := zK A90
   clear A90
   by_cases c10 : t289 = true
   ·subst c10
    have H1 : (impl_SharedHints.l0 k1 l1 (wrap64 (x5_1 + 1)) t285 (t285.length : Int) (wrap64 (x11_1 + 1))) = some r := by rw [if_pos rfl] at H; exact H
    clear H
    have H := H1
    clear H1
    have H' := zK H
    clear H
    have p288 : 0 ≤ (x11_1 : Int) := oD m3
    have q288 : x11_1 < (t285.length : Int) := oD m3
    obtain ⟨ad288, e288, hx288_0⟩ := Kd.at_int (Kd.R_reads' HO_9.out).2.2 x11_1 p288 q288
    cases e288
    replace p288 := eq_true p288
    replace q288 := eq_true q288
    go_wp2_with (first | ((with_reducible refine gate_callee (f := 103) rfl ?_); refine goesL_ (some 17) rfl rfl Try.func103 (by kernel_rfl) rfl #[.slice A1 l1.length c1, .int .i64 (rd t285 x11_1)] rfl m0 ?_; (with_reducible refine (slices_Contains_int_int.calls k1 _ _ l1 (rd t285 x11_1) true _ ?side1 ?side2 A9.out).mono ?_); (case side1 => exact Kd.qC (Kd.C_below HR1.out HB.out)); (case side2 => exact HC1.out); rintro e w' ⟨rfl, ⟨nd, rfl⟩⟩; refine ⟨_, rfl, ?_⟩))
    go_roundg k1
    case measure => have := HK1.out; omega
    case rel => exact ⟨(wrap64 (x5_1 + 1)), (wrap64 (x11_1 + 1)), m5, m5, H', ⟨by have := HK1.out; omega⟩, ⟨by exact Kd.qR HO_9.out⟩, ⟨by exact qB HB.out⟩⟩
   replace c10 := Bool.eq_false_iff.mpr c10
   subst c10
   have H1 : (impl_SharedHints.l0 k1 l1 x5_1 t285 (t285.length : Int) (wrap64 (x11_1 + 1))) = some r := by rw [if_neg (show ¬ (false = true) by decide)] at H; exact H
   clear H
   have H := H1
   clear H1
   have H' := zK H
   clear H
   have p288 : 0 ≤ (x11_1 : Int) := oD m3
   have q288 : x11_1 < (t285.length : Int) := oD m3
   obtain ⟨ad288, e288, hx288_0⟩ := Kd.at_int (Kd.R_reads' HO_9.out).2.2 x11_1 p288 q288
   cases e288
   replace p288 := eq_true p288
   replace q288 := eq_true q288
   go_wp2_with (first | ((with_reducible refine gate_callee (f := 103) rfl ?_); refine goesL_ (some 17) rfl rfl Try.func103 (by kernel_rfl) rfl #[.slice A1 l1.length c1, .int .i64 (rd t285 x11_1)] rfl m0 ?_; (with_reducible refine (slices_Contains_int_int.calls k1 _ _ l1 (rd t285 x11_1) false _ ?side1 ?side2 A9.out).mono ?_); (case side1 => exact Kd.qC (Kd.C_below HR1.out HB.out)); (case side2 => exact HC1.out); rintro e w' ⟨rfl, ⟨nd, rfl⟩⟩; refine ⟨_, rfl, ?_⟩))
   go_roundg k1
   case measure => have := HK1.out; omega
   case rel => exact ⟨(x5_1), (wrap64 (x11_1 + 1)), m5, m5, H', ⟨by have := HK1.out; omega⟩, ⟨by exact Kd.qR HO_9.out⟩, ⟨by exact qB HB.out⟩⟩
/-! ### impl_MayHave: function 29 -/
def impl_MayHave.f (k : Nat) (a0_0 : Int) (a0_1 : Int) (l0_2 : List Int) (a0_3 : Int) (a0_4 : Int) (l0_5 : List Int) (a0_6 : Int) (a0_7 : Int) (l1 : List Int) (a2 : Int) : Option (Bool) := (impl_HintsFor.f k a0_0 a0_1 l0_2 a0_3 a0_4 l0_5 a0_6 a0_7 a2).bind fun t291 => ((impl_SharedHints.f k t291 l1).bind fun t294 => (some (decide (t294 > 0))))
set_option maxHeartbeats 8000000 in
set_option maxRecDepth 100000 in
theorem impl_MayHave.calls (k : Nat) (a0_0 : Int) (a0_1 : Int) (A0_2 : Option Addr) (c0_2 : Nat) (l0_2 : List Int) (a0_3 : Int) (a0_4 : Int) (A0_5 : Option Addr) (c0_5 : Nat) (l0_5 : List Int) (a0_6 : Int) (a0_7 : Int) (A1 : Option Addr) (c1 : Nat) (l1 : List Int) (a2 : Int) (r : Bool) (w : World) (hr0_2 : Kd.C (Kd.int .i64) w A0_2 l0_2.length l0_2) (hc0_2 : l0_2.length ≤ c0_2) (hr0_5 : Kd.C (Kd.int .i64) w A0_5 l0_5.length l0_5) (hc0_5 : l0_5.length ≤ c0_5) (hr1 : Kd.C (Kd.int .i64) w A1 l1.length l1) (hc1 : l1.length ≤ c1) (h : impl_MayHave.f k a0_0 a0_1 l0_2 a0_3 a0_4 l0_5 a0_6 a0_7 l1 a2 = some r) :
  Calls Try.prog 29 #[.agg #[.int .i64 a0_0, .int .i64 a0_1, .slice A0_2 l0_2.length c0_2, .int .i64 a0_3, .int .i64 a0_4, .slice A0_5 l0_5.length c0_5, .int .i64 a0_6, .int .i64 a0_7], .slice A1 l1.length c1, .int .i64 a2] w fun e w' => e = .returned (.bool r) ∧ Below w.heap.size w w' := by
 have hu41 := Try.underlying41
 have HR0_2 := zK hr0_2
 have HC0_2 := zK hc0_2
 clear hr0_2 hc0_2
 have HR0_5 := zK hr0_5
 have HC0_5 := zK hc0_5
 clear hr0_5 hc0_5
 have HR1 := zK hr1
 have HC1 := zK hc1
 clear hr1 hc1
 have HB := zK (Below.refl w.heap.size w)
 have H : ((impl_HintsFor.f k a0_0 a0_1 l0_2 a0_3 a0_4 l0_5 a0_6 a0_7 a2).bind fun t291 => ((impl_SharedHints.f k t291 l1).bind fun t294 => (some (decide (t294 > 0))))) = some r := h
 clear h
 replace H := Option.bind_eq_some_iff.mp H
 obtain ⟨t291, A40, H⟩ := H
 replace H : ((impl_SharedHints.f k t291 l1).bind fun t294 => (some (decide (t294 > 0)))) = some r := H
 have A4 := zK A40
 clear A40
 replace H := Option.bind_eq_some_iff.mp H
 obtain ⟨t294, A50, H⟩ := H
 replace H : (some (decide (t294 > 0))) = some r := H
 have A5 := zK A50
 clear A50
 obtain rfl := Option.some.inj H
 go_enter Try.func29, Try.ntmps29
 go_wp2_with (first | ((with_reducible refine gate_dst (N := 3) rfl ?_); refine box_event ?hg (N := 3) ?hd (cs := #[.int .i64 a0_0, .int .i64 a0_1, .slice A0_2 l0_2.length c0_2, .int .i64 a0_3, .int .i64 a0_4, .slice A0_5 l0_5.length c0_5, .int .i64 a0_6, .int .i64 a0_7]) (t := 41) ?hr ?_; (case hd => rfl); (case hg => rfl); (case hr => first | (go_simp; done) | (go_simp; rfl)); intro gb290 hg w6 hbox hb; have n0_ := zK (bT (qB HB.out) hb); have n1_ := zK (hbox); have n2_ := zK ((by rw [hg]; exact (bZ (qB HB.out)) : w.heap.size ≤ gb290)); have n3_ := zK ((by rw [hg]; exact (bZ (qB HB.out)) : w.heap.size ≤ gb290)); clear HB; have HB := n0_; have BK290 := n1_; have GW290 := n2_; have GE290 := n3_; clear n0_ n1_ n2_ n3_; clear hb hbox hg; have hcz7_0 : w6.cell? ⟨gb290, 0, none⟩ = some (.int .i64 a0_0) := (bc BK290.out 0).trans rfl; have hcz7_1 : w6.cell? ⟨gb290, 1, none⟩ = some (.int .i64 a0_1) := (bc BK290.out 1).trans rfl; have hcz7_2 : w6.cell? ⟨gb290, 2, none⟩ = some (.slice A0_2 l0_2.length c0_2) := (bc BK290.out 2).trans rfl; have hcz7_3 : w6.cell? ⟨gb290, 3, none⟩ = some (.int .i64 a0_3) := (bc BK290.out 3).trans rfl; have hcz7_4 : w6.cell? ⟨gb290, 4, none⟩ = some (.int .i64 a0_4) := (bc BK290.out 4).trans rfl; have hcz7_5 : w6.cell? ⟨gb290, 5, none⟩ = some (.slice A0_5 l0_5.length c0_5) := (bc BK290.out 5).trans rfl; have hcz7_6 : w6.cell? ⟨gb290, 6, none⟩ = some (.int .i64 a0_6) := (bc BK290.out 6).trans rfl; have hcz7_7 : w6.cell? ⟨gb290, 7, none⟩ = some (.int .i64 a0_7) := (bc BK290.out 7).trans rfl; have hfz7_0 := bf BK290.out 0; have hfz7_1 := bf BK290.out 1; have hfz7_2 := bf BK290.out 2; have hfz7_3 := bf BK290.out 3; have hfz7_4 := bf BK290.out 4; have hfz7_5 := bf BK290.out 5; have hfz7_6 := bf BK290.out 6; have hfz7_7 := bf BK290.out 7) | ((with_reducible refine gate_callee (f := 24) rfl ?_); refine goesL_ (some 9) rfl rfl Try.func24 (by kernel_rfl) rfl #[.agg #[.int .i64 a0_0, .int .i64 a0_1, .slice A0_2 l0_2.length c0_2, .int .i64 a0_3, .int .i64 a0_4, .slice A0_5 l0_5.length c0_5, .int .i64 a0_6, .int .i64 a0_7], .int .i64 a2] rfl m0 ?_; (with_reducible refine (impl_HintsFor.calls k a0_0 a0_1 _ _ l0_2 a0_3 a0_4 _ _ l0_5 a0_6 a0_7 a2 t291 _ ?side1 ?side2 ?side3 ?side4 A4.out).mono ?_); (case side1 => exact Kd.qC (Kd.C_below HR0_2.out HB.out)); (case side2 => exact HC0_2.out); (case side3 => exact Kd.qC (Kd.C_below HR0_5.out HB.out)); (case side4 => exact HC0_5.out); rintro e w8 ⟨v292, rfl, ho0, hb⟩; refine ⟨_, rfl, ?_⟩; have n0_ := zK (Kd.R_lower ho0 (bZ (by repeat (first | (with_reducible first | exact HB.out | apply bA | apply bN | apply b1 | refine bS ?_ GE290.out) | exact HB.out)))); have n1_ := zK (bB (g := gb290) (o := .cells #[.int .i64 a0_0, .int .i64 a0_1, .slice A0_2 l0_2.length c0_2, .int .i64 a0_3, .int .i64 a0_4, .slice A0_5 l0_5.length c0_5, .int .i64 a0_6, .int .i64 a0_7] 41 (0, 0)) (qK BK290.out) hb); have n2_ := zK (bT (by repeat (first | (with_reducible first | exact HB.out | apply bA | apply bN | apply b1 | refine bS ?_ GE290.out) | exact HB.out)) hb); clear BK290 HB; have HO293 := n0_; have BK290 := n1_; have HB := n2_; clear n0_ n1_ n2_; (try clear hb); (try clear hb2); (try clear hk); (try clear hi); (try clear ho0); obtain ⟨Ao9, co9, eo9⟩ := Kd.R_slice HO293.out; subst eo9) | ((with_reducible refine gate_callee (f := 81) rfl ?_); refine goesL_ (some 11) rfl rfl Try.func81 (by kernel_rfl) rfl #[.slice Ao9 t291.length co9, .slice A1 l1.length c1] rfl m0 ?_; (with_reducible refine (impl_SharedHints.calls k _ _ t291 _ _ l1 t294 _ ?side1 ?side2 ?side3 ?side4 A5.out).mono ?_); (case side1 => exact Kd.qC (Kd.R_reads' HO293.out).2.2); (case side2 => exact (Kd.R_reads' HO293.out).2.1); (case side3 => exact Kd.qC (Kd.C_below HR1.out HB.out)); (case side4 => exact HC1.out); rintro e w10 ⟨rfl, hb⟩; refine ⟨_, rfl, ?_⟩; have n0_ := zK (Kd.R_below (Kd.qR HO293.out) hb); have n1_ := zK (bB (g := gb290) (o := .cells #[.int .i64 a0_0, .int .i64 a0_1, .slice A0_2 l0_2.length c0_2, .int .i64 a0_3, .int .i64 a0_4, .slice A0_5 l0_5.length c0_5, .int .i64 a0_6, .int .i64 a0_7] 41 (0, 0)) (qK BK290.out) hb); have n2_ := zK (bT (by repeat (first | (with_reducible first | exact HB.out | apply bA | apply bN | apply b1 | refine bS ?_ GE290.out) | exact HB.out)) hb); clear HO293 BK290 HB; have HO293 := n0_; have BK290 := n1_; have HB := n2_; clear n0_ n1_ n2_; (try clear hb); (try clear hb2); (try clear hk); (try clear hi)))
 go_ret
 exact ⟨by first | rfl | (simp [errW_none, errW_some] <;> rfl) | (simp [*, errW_none, errW_some] <;> rfl), by repeat (first | (with_reducible first | exact HB.out | apply bA | apply bN | apply b1 | refine bS ?_ GE290.out) | exact HB.out)⟩
/-! ### impl_AskHouses: function 44 -/
def impl_AskHouses.l0 : Nat → Int → List Int → List (List Int) → Int → Int → Int → Int → List Int → Int → Int → List Int → Int → Int → Option (List Int)
 | 0, _, _, _, _, _, _, _, _, _, _, _, _, _ => none
 | k + 1, x2, x7, x11, x12, x13, x296000, x296001, x296002, x296003, x296004, x296005, x296006, x296007 => if x13 < x12 then (if 0 ≤ x13 then (if x13 < (x11.length : Int) then ((impl_MayHave.f k x296000 x296001 x296002 x296003 x296004 x296005 x296006 x296007 (rd_L1 x11 x13) x2).bind fun t300 => (if t300 = true then (if x7.length < 17592186044416 then (impl_AskHouses.l0 k x2 (x7 ++ [x13]) x11 x12 (wrap64 (x13 + 1)) x296000 x296001 x296002 x296003 x296004 x296005 x296006 x296007) else (none)) else (impl_AskHouses.l0 k x2 x7 x11 x12 (wrap64 (x13 + 1)) x296000 x296001 x296002 x296003 x296004 x296005 x296006 x296007))) else (none)) else (none)) else (some x7)
def impl_AskHouses.f (k : Nat) (a0_0 : Int) (a0_1 : Int) (l0_2 : List Int) (a0_3 : Int) (a0_4 : Int) (l0_5 : List Int) (a0_6 : Int) (a0_7 : Int) (l1 : List (List Int)) (a2 : Int) : Option (List Int) := impl_AskHouses.l0 k a2 (([] : List Int)) l1 (l1.length : Int) 0 a0_0 a0_1 l0_2 a0_3 a0_4 l0_5 a0_6 a0_7
set_option maxHeartbeats 8000000 in
set_option maxRecDepth 100000 in
theorem impl_AskHouses.calls (k : Nat) (a0_0 : Int) (a0_1 : Int) (A0_2 : Option Addr) (c0_2 : Nat) (l0_2 : List Int) (a0_3 : Int) (a0_4 : Int) (A0_5 : Option Addr) (c0_5 : Nat) (l0_5 : List Int) (a0_6 : Int) (a0_7 : Int) (A1 : Option Addr) (c1 : Nat) (l1 : List (List Int)) (a2 : Int) (r : List Int) (w : World) (hr0_2 : Kd.C (Kd.int .i64) w A0_2 l0_2.length l0_2) (hc0_2 : l0_2.length ≤ c0_2) (hr0_5 : Kd.C (Kd.int .i64) w A0_5 l0_5.length l0_5) (hc0_5 : l0_5.length ≤ c0_5) (hr1 : Kd.C (Kd.slice 3 (Kd.int .i64)) w A1 l1.length l1) (hc1 : l1.length ≤ c1) (h : impl_AskHouses.f k a0_0 a0_1 l0_2 a0_3 a0_4 l0_5 a0_6 a0_7 l1 a2 = some r) :
  Calls Try.prog 44 #[.agg #[.int .i64 a0_0, .int .i64 a0_1, .slice A0_2 l0_2.length c0_2, .int .i64 a0_3, .int .i64 a0_4, .slice A0_5 l0_5.length c0_5, .int .i64 a0_6, .int .i64 a0_7], .slice A1 l1.length c1, .int .i64 a2] w fun e w' => ∃ v0_ : Value, e = .returned (v0_) ∧ Kd.R (Kd.int .i64) 3 w' w.heap.size (fun _ => True) v0_ r ∧ Below w.heap.size w w' := by
 have hu41 := Try.underlying41
 have HR0_2 := zK hr0_2
 have HC0_2 := zK hc0_2
 clear hr0_2 hc0_2
 have HR0_5 := zK hr0_5
 have HC0_5 := zK hc0_5
 clear hr0_5 hc0_5
 have HR1 := zK hr1
 have HC1 := zK hc1
 clear hr1 hc1
 have HB := zK (Below.refl w.heap.size w)
 have H : (impl_AskHouses.l0 k a2 (([] : List Int)) l1 (l1.length : Int) 0 a0_0 a0_1 l0_2 a0_3 a0_4 l0_5 a0_6 a0_7) = some r := h
 clear h
 obtain ⟨y296, hy296⟩ : ∃ y_ : List Int, y_ = (([] : List Int)) := ⟨_, rfl⟩
 replace H : (impl_AskHouses.l0 k a2 y296 l1 (l1.length : Int) 0 a0_0 a0_1 l0_2 a0_3 a0_4 l0_5 a0_6 a0_7) = some r := by first | (rw [hy296]; with_reducible exact H) | (have H2_ := (Option.bind_some _ _).symm.trans H; rw [hy296]; with_reducible exact H2_) | (have H2_ := (Option.bind_some _ _).symm.trans H; with_reducible exact H2_) | with_reducible exact H | (rw [hy296]; exact H) | exact H
 have Ny296 := zK hy296
 clear hy296
 have H' := zK H
 clear H
 go_enter Try.func44, Try.ntmps44
 go_wp2_with (first | ((with_reducible refine gate_dst (N := 3) rfl ?_); refine box_event ?hg (N := 3) ?hd (cs := #[.int .i64 a0_0, .int .i64 a0_1, .slice A0_2 l0_2.length c0_2, .int .i64 a0_3, .int .i64 a0_4, .slice A0_5 l0_5.length c0_5, .int .i64 a0_6, .int .i64 a0_7]) (t := 41) ?hr ?_; (case hd => rfl); (case hg => rfl); (case hr => first | (go_simp; done) | (go_simp; rfl)); intro gb295 hg w4 hbox hb; have n0_ := zK (bT (qB HB.out) hb); have n1_ := zK (hbox); have n2_ := zK ((by rw [hg]; exact (bZ (qB HB.out)) : w.heap.size ≤ gb295)); have n3_ := zK ((by rw [hg]; exact (bZ (qB HB.out)) : w.heap.size ≤ gb295)); clear HB; have HB := n0_; have BK295 := n1_; have GW295 := n2_; have GE295 := n3_; clear n0_ n1_ n2_ n3_; clear hb hbox hg) | ((with_reducible refine gate_dst (N := 10) rfl ?_); refine Kd.R_lit (Kd.int .i64) _ 3 ?hg (N := 10) ?hd (xs := ([] : List Int)) (inner := []) (ok := fun _ => True) (okp := fun _ => True) ?hr ?hp (fun _ hk => hk) trivial (Below.refl _ _) (Nat.le_refl _) (by simp) ?_; (case hd => rfl); (case hg => rfl); (case hr => first | (go_simp; done) | (go_simp; rfl)); (case hp => exact (Reps.none _ _)); intro v297 w5 ho6 hb hg_ hnew_; clear hg_ hnew_; (first | rw [← Ny296.out] at ho6 | (simp only [Int.reduceToNat] at ho6; rw [← Ny296.out] at ho6)); have n0_ := zK (Kd.R_lower ho6 (bZ m43)); have n1_ := zK (bB (g := gb295) (o := .cells #[.int .i64 a0_0, .int .i64 a0_1, .slice A0_2 l0_2.length c0_2, .int .i64 a0_3, .int .i64 a0_4, .slice A0_5 l0_5.length c0_5, .int .i64 a0_6, .int .i64 a0_7] 41 (0, 0)) (qK BK295.out) hb); have n2_ := zK (bT m43 hb); clear BK295 HB; have HO298 := n0_; have BK295 := n1_; have HB := n2_; clear n0_ n1_ n2_; clear hb ho6))
 go_loopg [7, 13] k (fun kq v7 v13 w' => ∃ (x7_1 : List Int) (x13_1 : Int), v13 = .int .i64 x13_1 ∧ Aside0 (impl_AskHouses.l0 kq a2 x7_1 l1 (l1.length : Int) x13_1 a0_0 a0_1 l0_2 a0_3 a0_4 l0_5 a0_6 a0_7 = some r) ∧ Aside0 (kq ≤ k) ∧ Aside0 (Kd.R (Kd.int .i64) 3 w' w.heap.size (fun _ => True) v7 x7_1) ∧ Aside0 (w'.heap[gb295]? = some (.cells #[.int .i64 a0_0, .int .i64 a0_1, (.slice A0_2 l0_2.length c0_2), .int .i64 a0_3, .int .i64 a0_4, (.slice A0_5 l0_5.length c0_5), .int .i64 a0_6, .int .i64 a0_7] 41 (0, 0))) ∧ Aside0 (Below w.heap.size w w'))
 case atStart => exact ⟨(y296), (0), m5, H', ⟨Nat.le_refl _⟩, ⟨by exact Kd.qR HO298.out⟩, ⟨by exact qK BK295.out⟩, ⟨by repeat (first | (with_reducible first | exact HB.out | apply bA | apply bN | apply b1 | refine bS ?_ GE295.out) | exact HB.out)⟩⟩
 case round =>
  clear H'
  try clear c1
  try clear p2
  try clear c4
  obtain ⟨x7_1, x13_1, rfl, HA, HK1, HO_7, BK295, HB⟩ := hrel
  cases gk with
  | zero => exact absurd HA.out (by simp [impl_AskHouses.l0])
  | succ k1 =>
   have H := HA.out
   clear HA
   simp only [impl_AskHouses.l0] at H
   by_cases c7 : x13_1 < (l1.length : Int)
   rotate_left
   ·rw [if_neg c7] at H
    have c7b0 : decide (x13_1 < (l1.length : Int)) = false := decide_eq_false c7
    clear c7
    obtain rfl := Option.some.inj H
    go_wp2
    go_ret
    exact ⟨_, by first | rfl | (simp [errW_none, errW_some] <;> rfl) | (simp [*, errW_none, errW_some] <;> rfl), by exact Kd.qR HO_7.out, by repeat (first | (with_reducible first | exact HB.out | apply bA | apply bN | apply b1 | refine bS ?_ GE295.out) | exact HB.out)⟩

   rw [if_pos c7] at H
   have c7b0 : decide (x13_1 < (l1.length : Int)) = true := decide_eq_true c7
   clear c7
   by_cases c8 : 0 ≤ x13_1
   rotate_left
   ·rw [if_neg c8] at H
    exact absurd H (by simp)
   rw [if_pos c8] at H
   have c8b0 : decide (0 ≤ x13_1) = true := decide_eq_true c8
   clear c8
   by_cases c9 : x13_1 < (l1.length : Int)
   rotate_left
   ·rw [if_neg c9] at H
    exact absurd H (by simp)
   rw [if_pos c9] at H
   have c9b0 : decide (x13_1 < (l1.length : Int)) = true := decide_eq_true c9
   clear c9
   replace H := Option.bind_eq_some_iff.mp H
   obtain ⟨t300, A100, H⟩ := H
   replace H : (if t300 = true then (if x7_1.length < 17592186044416 then (impl_AskHouses.l0 k1 a2 (x7_1 ++ [x13_1]) l1 (l1.length : Int) (wrap64 (x13_1 + 1)) a0_0 a0_1 l0_2 a0_3 a0_4 l0_5 a0_6 a0_7) else (none)) else (impl_AskHouses.l0 k1 a2 x7_1 l1 (l1.length : Int) (wrap64 (x13_1 + 1)) a0_0 a0_1 l0_2 a0_3 a0_4 l0_5 a0_6 a0_7)) = some r := H
   have A10 := zK A100
   clear A100
   by_cases c11 : t300 = true
   rotate_left
   ·replace c11 := Bool.eq_false_iff.mpr c11
    subst c11
    have H1 : (impl_AskHouses.l0 k1 a2 x7_1 l1 (l1.length : Int) (wrap64 (x13_1 + 1)) a0_0 a0_1 l0_2 a0_3 a0_4 l0_5 a0_6 a0_7) = some r := by rw [if_neg (show ¬ (false = true) by decide)] at H; exact H
    clear H
    have H := H1
    clear H1
    have H' := zK H
    clear H
    have p299 : 0 ≤ (x13_1 : Int) := oD m3
    have q299 : x13_1 < (l1.length : Int) := oD m3
    obtain ⟨ad299, A299_0, c299_0, e299, hx299_0, hl299_0, hi299_0⟩ := at_L1 HR1.out x13_1 p299 q299
    cases e299
    replace hx299_0 := (HB.out.cell (bL w hx299_0)).trans hx299_0
    have HR299_0 := zK hi299_0
    have HC299_0 := zK hl299_0
    clear hi299_0 hl299_0
    replace p299 := eq_true p299
    replace q299 := eq_true q299
    have hcz16_0 : wr.cell? ⟨gb295, 0, none⟩ = some (.int .i64 a0_0) := (bc BK295.out 0).trans rfl
    have hcz16_1 : wr.cell? ⟨gb295, 1, none⟩ = some (.int .i64 a0_1) := (bc BK295.out 1).trans rfl
    have hcz16_2 : wr.cell? ⟨gb295, 2, none⟩ = some (.slice A0_2 l0_2.length c0_2) := (bc BK295.out 2).trans rfl
    have hcz16_3 : wr.cell? ⟨gb295, 3, none⟩ = some (.int .i64 a0_3) := (bc BK295.out 3).trans rfl
    have hcz16_4 : wr.cell? ⟨gb295, 4, none⟩ = some (.int .i64 a0_4) := (bc BK295.out 4).trans rfl
    have hcz16_5 : wr.cell? ⟨gb295, 5, none⟩ = some (.slice A0_5 l0_5.length c0_5) := (bc BK295.out 5).trans rfl
    have hcz16_6 : wr.cell? ⟨gb295, 6, none⟩ = some (.int .i64 a0_6) := (bc BK295.out 6).trans rfl
    have hcz16_7 : wr.cell? ⟨gb295, 7, none⟩ = some (.int .i64 a0_7) := (bc BK295.out 7).trans rfl
    have hfz16_0 := bf BK295.out 0
    have hfz16_1 := bf BK295.out 1
    have hfz16_2 := bf BK295.out 2
    have hfz16_3 := bf BK295.out 3
    have hfz16_4 := bf BK295.out 4
    have hfz16_5 := bf BK295.out 5
    have hfz16_6 := bf BK295.out 6
    have hfz16_7 := bf BK295.out 7
    go_wp2_with (first | ((with_reducible refine gate_callee (f := 29) rfl ?_); refine goesL_ (some 21) rfl rfl Try.func29 (by kernel_rfl) rfl #[.agg #[.int .i64 a0_0, .int .i64 a0_1, .slice A0_2 l0_2.length c0_2, .int .i64 a0_3, .int .i64 a0_4, .slice A0_5 l0_5.length c0_5, .int .i64 a0_6, .int .i64 a0_7], .slice A299_0 (rd_L1 l1 x13_1).length c299_0, .int .i64 a2] rfl m0 ?_; (with_reducible refine (impl_MayHave.calls k1 a0_0 a0_1 _ _ l0_2 a0_3 a0_4 _ _ l0_5 a0_6 a0_7 _ _ (rd_L1 l1 x13_1) a2 false _ ?side1 ?side2 ?side3 ?side4 ?side5 ?side6 A10.out).mono ?_); (case side1 => exact Kd.qC (Kd.C_below HR0_2.out HB.out)); (case side2 => exact HC0_2.out); (case side3 => exact Kd.qC (Kd.C_below HR0_5.out HB.out)); (case side4 => exact HC0_5.out); (case side5 => exact Kd.qC (Kd.C_below HR299_0.out HB.out)); (case side6 => exact HC299_0.out); rintro e w17 ⟨rfl, hb⟩; refine ⟨_, rfl, ?_⟩; have n0_ := zK (Kd.R_below (Kd.qR HO_7.out) hb); have n1_ := zK (bB (g := gb295) (o := .cells #[.int .i64 a0_0, .int .i64 a0_1, .slice A0_2 l0_2.length c0_2, .int .i64 a0_3, .int .i64 a0_4, .slice A0_5 l0_5.length c0_5, .int .i64 a0_6, .int .i64 a0_7] 41 (0, 0)) (qK BK295.out) hb); have n2_ := zK (bT m43 hb); clear HO_7 BK295 HB; have HO_7 := n0_; have BK295 := n1_; have HB := n2_; clear n0_ n1_ n2_; (try clear hb); (try clear hb2); (try clear hk); (try clear hi)))
    go_roundg k1
    case measure => have := HK1.out; omega
    case rel => exact ⟨(x7_1), (wrap64 (x13_1 + 1)), m5, H', ⟨by have := HK1.out; omega⟩, ⟨by exact Kd.qR HO_7.out⟩, ⟨by exact qK BK295.out⟩, ⟨by repeat (first | (with_reducible first | exact HB.out | apply bA | apply bN | apply b1 | refine bS ?_ GE295.out) | exact HB.out)⟩⟩
   subst c11
   have H1 : (if x7_1.length < 17592186044416 then (impl_AskHouses.l0 k1 a2 (x7_1 ++ [x13_1]) l1 (l1.length : Int) (wrap64 (x13_1 + 1)) a0_0 a0_1 l0_2 a0_3 a0_4 l0_5 a0_6 a0_7) else (none)) = some r := by rw [if_pos rfl] at H; exact H
   clear H
   have H := H1
   clear H1
   by_cases c12 : x7_1.length < 17592186044416
   rotate_left
   ·rw [if_neg c12] at H
    exact absurd H (by simp)
   rw [if_pos c12] at H
   have LMc12 := zK c12
   clear c12
   obtain ⟨y301, hy301⟩ : ∃ y_ : List Int, y_ = (x7_1 ++ [x13_1]) := ⟨_, rfl⟩
   replace H : (impl_AskHouses.l0 k1 a2 y301 l1 (l1.length : Int) (wrap64 (x13_1 + 1)) a0_0 a0_1 l0_2 a0_3 a0_4 l0_5 a0_6 a0_7) = some r := by first | (rw [hy301]; with_reducible exact H) | (have H2_ := (Option.bind_some _ _).symm.trans H; rw [hy301]; with_reducible exact H2_) | (have H2_ := (Option.bind_some _ _).symm.trans H; with_reducible exact H2_) | with_reducible exact H | (rw [hy301]; exact H) | exact H
   have Ny301 := zK hy301
   clear hy301
   have H' := zK H
   clear H
   have p299 : 0 ≤ (x13_1 : Int) := oD m3
   have q299 : x13_1 < (l1.length : Int) := oD m3
   obtain ⟨ad299, A299_0, c299_0, e299, hx299_0, hl299_0, hi299_0⟩ := at_L1 HR1.out x13_1 p299 q299
   cases e299
   replace hx299_0 := (HB.out.cell (bL w hx299_0)).trans hx299_0
   have HR299_0 := zK hi299_0
   have HC299_0 := zK hl299_0
   clear hi299_0 hl299_0
   replace p299 := eq_true p299
   replace q299 := eq_true q299
   have hcz13_0 : wr.cell? ⟨gb295, 0, none⟩ = some (.int .i64 a0_0) := (bc BK295.out 0).trans rfl
   have hcz13_1 : wr.cell? ⟨gb295, 1, none⟩ = some (.int .i64 a0_1) := (bc BK295.out 1).trans rfl
   have hcz13_2 : wr.cell? ⟨gb295, 2, none⟩ = some (.slice A0_2 l0_2.length c0_2) := (bc BK295.out 2).trans rfl
   have hcz13_3 : wr.cell? ⟨gb295, 3, none⟩ = some (.int .i64 a0_3) := (bc BK295.out 3).trans rfl
   have hcz13_4 : wr.cell? ⟨gb295, 4, none⟩ = some (.int .i64 a0_4) := (bc BK295.out 4).trans rfl
   have hcz13_5 : wr.cell? ⟨gb295, 5, none⟩ = some (.slice A0_5 l0_5.length c0_5) := (bc BK295.out 5).trans rfl
   have hcz13_6 : wr.cell? ⟨gb295, 6, none⟩ = some (.int .i64 a0_6) := (bc BK295.out 6).trans rfl
   have hcz13_7 : wr.cell? ⟨gb295, 7, none⟩ = some (.int .i64 a0_7) := (bc BK295.out 7).trans rfl
   have hfz13_0 := bf BK295.out 0
   have hfz13_1 := bf BK295.out 1
   have hfz13_2 := bf BK295.out 2
   have hfz13_3 := bf BK295.out 3
   have hfz13_4 := bf BK295.out 4
   have hfz13_5 := bf BK295.out 5
   have hfz13_6 := bf BK295.out 6
   have hfz13_7 := bf BK295.out 7
   go_wp2_with (first | ((with_reducible refine gate_callee (f := 29) rfl ?_); refine goesL_ (some 21) rfl rfl Try.func29 (by kernel_rfl) rfl #[.agg #[.int .i64 a0_0, .int .i64 a0_1, .slice A0_2 l0_2.length c0_2, .int .i64 a0_3, .int .i64 a0_4, .slice A0_5 l0_5.length c0_5, .int .i64 a0_6, .int .i64 a0_7], .slice A299_0 (rd_L1 l1 x13_1).length c299_0, .int .i64 a2] rfl m0 ?_; (with_reducible refine (impl_MayHave.calls k1 a0_0 a0_1 _ _ l0_2 a0_3 a0_4 _ _ l0_5 a0_6 a0_7 _ _ (rd_L1 l1 x13_1) a2 true _ ?side1 ?side2 ?side3 ?side4 ?side5 ?side6 A10.out).mono ?_); (case side1 => exact Kd.qC (Kd.C_below HR0_2.out HB.out)); (case side2 => exact HC0_2.out); (case side3 => exact Kd.qC (Kd.C_below HR0_5.out HB.out)); (case side4 => exact HC0_5.out); (case side5 => exact Kd.qC (Kd.C_below HR299_0.out HB.out)); (case side6 => exact HC299_0.out); rintro e w14 ⟨rfl, hb⟩; refine ⟨_, rfl, ?_⟩; have n0_ := zK (Kd.R_below (Kd.qR HO_7.out) hb); have n1_ := zK (bB (g := gb295) (o := .cells #[.int .i64 a0_0, .int .i64 a0_1, .slice A0_2 l0_2.length c0_2, .int .i64 a0_3, .int .i64 a0_4, .slice A0_5 l0_5.length c0_5, .int .i64 a0_6, .int .i64 a0_7] 41 (0, 0)) (qK BK295.out) hb); have n2_ := zK (bT m43 hb); clear HO_7 BK295 HB; have HO_7 := n0_; have BK295 := n1_; have HB := n2_; clear n0_ n1_ n2_; (try clear hb); (try clear hb2); (try clear hk); (try clear hi)) | ((with_reducible refine gate_builtin (b := .append) (xs := #[.tmp 22, .tmp 24]) rfl ?_); at_builtin; refine Kd.R_append (Kd.int .i64) (w0 := w) w.heap.size rfl (.tmp 22) (.tmp 24) 24 3 (.int .i64 0) 8 rfl Try.underlying24 info3 rfl (by decide) (by omega) u7 x7_1 x13_1 [.int .i64 x13_1] (fun _ => True) (fun _ => False) rfl rfl ?aP (fun _ hk => hk.elim) ?aF ?aO ?aB ?aS ?aL ?_; (case aP => exact rfl); (case aB => exact m43); (case aF => exact (fun _ _ => trivial)); (case aO => exact (Kd.qR HO_7.out)); (case aS => exact (bZ m43)); (case aL => have := LMc12.out; omega); intro v302 w15 ho hb hg hat; rw [← Ny301.out] at ho; have n0_ := zK (blk_grown (g := gb295) (o := .cells #[.int .i64 a0_0, .int .i64 a0_1, .slice A0_2 l0_2.length c0_2, .int .i64 a0_3, .int .i64 a0_4, .slice A0_5 l0_5.length c0_5, .int .i64 a0_6, .int .i64 a0_7] 41 (0, 0)) (qK BK295.out) hg (Kd.R_ne HO_7.out BK295.out (by decide))); have n1_ := zK (hb); have n2_ := zK (ho); clear BK295 HB HO_7; have BK295 := n0_; have HB := n1_; have HO303 := n2_; clear n0_ n1_ n2_; clear ho hb hg hat))
   go_roundg k1
   case measure => have := HK1.out; omega
   case rel => exact ⟨(y301), (wrap64 (x13_1 + 1)), m5, H', ⟨by have := HK1.out; omega⟩, ⟨by exact Kd.qR HO303.out⟩, ⟨by exact qK BK295.out⟩, ⟨by repeat (first | (with_reducible first | exact HB.out | apply bA | apply bN | apply b1 | refine bS ?_ GE295.out) | exact HB.out)⟩⟩
end Go.Proofs.Ytejhjenlodclpaa.PFnExactAskHouses
