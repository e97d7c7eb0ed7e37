/- Walks of functions that FnExactSendAll reaches: written by a tool of the kit for this claim, then shortened by a program of ours. -/
import Derived.Test.YtejhjenlodclpaaPFnExactSendAllx0
import Derived.Test.YtejhjenlodclpaaPFnExactSendAllx1
import Derived.Test.YtejhjenlodclpaaPFnExactSendAllx2
/- narrow -/
namespace Go.Proofs.Ytejhjenlodclpaa.PFnExactSendAll
open Go.RowKit Go.Proofs.YtejhjenlodclpaaW.PrintWords Go.Proofs.YtejhjenlodclpaaW.PrintLast Go.Proofs.YtejhjenlodclpaaW.PrintMore
attribute [local go_sem] max2_int min2_int max_two min_two max_three min_three max_four min_four   -- for this text's walks alone
set_option linter.unusedVariables false
set_option linter.unusedSimpArgs false

/-! ### slices_Sort: slices.Sort at whole numbers (function 105), by the kit's shelf -/
def slices_Sort.f (l0 : List Int) : Option (List Int) := if l0.length < 4611686018427387904 then some (l0.mergeSort fun x y => decide (x ≤ y)) else none
theorem slices_Sort.calls (P0_ : Nat → Prop) (u9000_ : Value) (l0 : List Int) (r : List Int) (w0 w : World) (hB : Below w0.heap.size w0 w) (ho0 : Kd.R (Kd.int .i64) 3 w w0.heap.size P0_ u9000_ l0) (h : slices_Sort.f l0 = some r) :
  Calls Try.prog 105 #[u9000_] w fun e w' => e = .returned (.tuple #[]) ∧ Kd.R (Kd.int .i64) 3 w' w0.heap.size (fun k_ => (P0_ k_ ∨ w.heap.size ≤ k_)) u9000_ r ∧ Below w0.heap.size w0 w' ∧ Kept w w' (fun k_ => P0_ k_) := by
 unfold slices_Sort.f at h
 split at h
 ·rename_i hl
  obtain rfl := Option.some.inj h
  exact Go.Proofs.Ytejhjenlodclpaa.Slc.sort_row Try.sortInt hB ho0 hl
 cases h
/-! ### impl_InHouse: function 33 -/
def impl_InHouse.l0 : Nat → List (S138) → Int → List Int → List (S138) → Int → Int → Option (List Int)
 | 0, _, _, _, _, _, _ => none
 | k + 1, x0, x1, x5, x13, x14, x15 => if x15 < x14 then (if 0 ≤ x15 then (if x15 < (x13.length : Int) then (if ((rd_T138 x13 x15).f1) = 2 then (if ((rd_T138 x13 x15).f2) = x1 then ((impl_lastHand.f k x0 ((rd_T138 x13 x15).f0)).bind fun t132 => (if t132 = x15 then (if x5.length < 17592186044416 then (impl_InHouse.l0 k x0 x1 (x5 ++ [(rd_T138 x13 x15).f0]) x13 x14 (wrap64 (x15 + 1))) else (none)) else (impl_InHouse.l0 k x0 x1 x5 x13 x14 (wrap64 (x15 + 1))))) else (impl_InHouse.l0 k x0 x1 x5 x13 x14 (wrap64 (x15 + 1)))) else (impl_InHouse.l0 k x0 x1 x5 x13 x14 (wrap64 (x15 + 1)))) else (none)) else (none)) else ((slices_Sort.f x5).bind fun t136 => (some t136))
def impl_InHouse.f (k : Nat) (l0 : List (S138)) (a1 : Int) : Option (List Int) := (some (([] : List Int) : List Int)).bind fun y126 => ((impl_IsChain.f k l0).bind fun t129 => (if t129 = true then (impl_InHouse.l0 k l0 a1 y126 l0 (l0.length : Int) 0) else (some y126)))
set_option maxHeartbeats 8000000 in
set_option maxRecDepth 100000 in
theorem impl_InHouse.calls (k : Nat) (A0 : Option Addr) (c0 : Nat) (l0 : List (S138)) (a1 : Int) (r : List Int) (w : World) (hr0 : Kd.C k138 w A0 l0.length l0) (hc0 : l0.length ≤ c0) (h : impl_InHouse.f k l0 a1 = some r) :
  Calls Try.prog 33 #[.slice A0 l0.length c0, .int .i64 a1] w fun e w' => ∃ v0_ : Value, e = .returned (v0_) ∧ Kd.R (Kd.int .i64) 3 w' w.heap.size (fun _ => True) v0_ r ∧ Below w.heap.size w w' := by
 have hu138 := Try.underlying138
 have HR0 := zK hr0
 have HC0 := zK hc0
 clear hr0 hc0
 have HB := zK (Below.refl w.heap.size w)
 have H : ((some (([] : List Int) : List Int)).bind fun y126 => ((impl_IsChain.f k l0).bind fun t129 => (if t129 = true then (impl_InHouse.l0 k l0 a1 y126 l0 (l0.length : Int) 0) else (some y126)))) = some r := h
 clear h
 obtain ⟨y126, hy126⟩ : ∃ y_ : List Int, y_ = (([] : List Int)) := ⟨_, rfl⟩
 replace H : ((impl_IsChain.f k l0).bind fun t129 => (if t129 = true then (impl_InHouse.l0 k l0 a1 y126 l0 (l0.length : Int) 0) else (some y126))) = some r := by first | (rw [hy126]; with_reducible exact H) | (have H2_ := (Option.bind_some _ _).symm.trans H; rw [hy126]; with_reducible exact H2_) | (have H2_ := (Option.bind_some _ _).symm.trans H; with_reducible exact H2_) | with_reducible exact H | (rw [hy126]; exact H) | exact H
 have Ny126 := zK hy126
 clear hy126
 replace H := Option.bind_eq_some_iff.mp H
 obtain ⟨t129, A30, H⟩ := H
 replace H : (if t129 = true then (impl_InHouse.l0 k l0 a1 y126 l0 (l0.length : Int) 0) else (some y126)) = some r := H
 have A3 := zK A30
 clear A30
 by_cases c4 : t129 = true
 rotate_left
 ·replace c4 := Bool.eq_false_iff.mpr c4
  subst c4
  have H1 : (some y126) = some r := by rw [if_neg (show ¬ (false = true) by decide)] at H; exact H
  clear H
  have H := H1
  clear H1
  obtain rfl := Option.some.inj H
  go_enter Try.func33, Try.ntmps33
  go_wp2_with (first | ((with_reducible refine gate_dst (N := 8) rfl ?_); refine Kd.R_lit (Kd.int .i64) _ 3 ?hg (N := 8) ?hd (xs := ([] : List Int)) (inner := []) (ok := fun _ => True) (okp := fun _ => True) ?hr ?hp (fun _ hk => hk) trivial (Below.refl _ _) (Nat.le_refl _) (by simp) ?_; (case hd => rfl); (case hg => rfl); (case hr => first | (go_simp; done) | (go_simp; rfl)); (case hp => exact (Reps.none _ _)); intro v127 w28 ho29 hb hg_ hnew_; clear hg_ hnew_; (first | rw [← Ny126.out] at ho29 | (simp only [Int.reduceToNat] at ho29; rw [← Ny126.out] at ho29)); have n0_ := zK (Kd.R_lower ho29 (bZ (qB HB.out))); have n1_ := zK (bT (qB HB.out) hb); clear HB; have HO128 := n0_; have HB := n1_; clear n0_ n1_; clear hb ho29) | ((with_reducible refine gate_callee (f := 34) rfl ?_); refine goesL_ (some 10) rfl rfl Try.func34 (by kernel_rfl) rfl #[.slice A0 l0.length c0] rfl M0 ?_; (with_reducible refine (impl_IsChain.calls k _ _ l0 false _ ?side1 ?side2 A3.out).mono ?_); (case side1 => exact Kd.qC (Kd.C_below HR0.out HB.out)); (case side2 => exact HC0.out); rintro e w30 ⟨rfl, hb⟩; refine ⟨_, rfl, ?_⟩; have n0_ := zK (Kd.R_below (Kd.qR HO128.out) hb); have n1_ := zK (bT (qB HB.out) hb); clear HO128 HB; have HO128 := n0_; have HB := n1_; clear n0_ n1_; (try clear hb); (try clear hb2); (try clear hk); (try clear hi)))
  go_ret
  exact ⟨_, by first | rfl | (simp [errW_none, errW_some] <;> rfl) | (simp [*, errW_none, errW_some] <;> rfl), by exact Kd.qR HO128.out, by exact qB HB.out⟩
 subst c4
 have H1 : (impl_InHouse.l0 k l0 a1 y126 l0 (l0.length : Int) 0) = some r := by rw [if_pos rfl] at H; exact H
 clear H
 have H := H1
 clear H1
 have H' := zK H
 clear H
 go_enter Try.func33, Try.ntmps33
 go_wp2_with (first | ((with_reducible refine gate_dst (N := 8) rfl ?_); refine Kd.R_lit (Kd.int .i64) _ 3 ?hg (N := 8) ?hd (xs := ([] : List Int)) (inner := []) (ok := fun _ => True) (okp := fun _ => True) ?hr ?hp (fun _ hk => hk) trivial (Below.refl _ _) (Nat.le_refl _) (by simp) ?_; (case hd => rfl); (case hg => rfl); (case hr => first | (go_simp; done) | (go_simp; rfl)); (case hp => exact (Reps.none _ _)); intro v127 w5 ho6 hb hg_ hnew_; clear hg_ hnew_; (first | rw [← Ny126.out] at ho6 | (simp only [Int.reduceToNat] at ho6; rw [← Ny126.out] at ho6)); have n0_ := zK (Kd.R_lower ho6 (bZ (qB HB.out))); have n1_ := zK (bT (qB HB.out) hb); clear HB; have HO128 := n0_; have HB := n1_; clear n0_ n1_; clear hb ho6) | ((with_reducible refine gate_callee (f := 34) rfl ?_); refine goesL_ (some 10) rfl rfl Try.func34 (by kernel_rfl) rfl #[.slice A0 l0.length c0] rfl M0 ?_; (with_reducible refine (impl_IsChain.calls k _ _ l0 true _ ?side1 ?side2 A3.out).mono ?_); (case side1 => exact Kd.qC (Kd.C_below HR0.out HB.out)); (case side2 => exact HC0.out); rintro e w7 ⟨rfl, hb⟩; refine ⟨_, rfl, ?_⟩; have n0_ := zK (Kd.R_below (Kd.qR HO128.out) hb); have n1_ := zK (bT (qB HB.out) hb); clear HO128 HB; have HO128 := n0_; have HB := n1_; clear n0_ n1_; (try clear hb); (try clear hb2); (try clear hk); (try clear hi)))
 go_loopg [5, 15] k (fun kq v5 v15 w' => ∃ (x5_1 : List Int) (x15_1 : Int), v15 = .int .i64 x15_1 ∧ Aside0 (impl_InHouse.l0 kq l0 a1 x5_1 l0 (l0.length : Int) x15_1 = some r) ∧ Aside0 (kq ≤ k) ∧ Aside0 (Kd.R (Kd.int .i64) 3 w' w.heap.size (fun _ => True) v5 x5_1) ∧ Aside0 (Below w.heap.size w w'))
 case atStart => exact ⟨(y126), (0), M3, H', ⟨Nat.le_refl _⟩, ⟨by exact Kd.qR HO128.out⟩, ⟨by exact qB HB.out⟩⟩
 case round =>
  clear H'
  try clear p2
  try clear c3
  try clear c4
  obtain ⟨x5_1, x15_1, rfl, HA, HK1, HO_5, HB⟩ := hrel
  cases gk with
  | zero => exact absurd HA.out (by simp [impl_InHouse.l0])
  | succ k1 =>
   have H := HA.out
   clear HA
   simp only [impl_InHouse.l0] at H
   by_cases c8 : x15_1 < (l0.length : Int)
   rotate_left
   ·rw [if_neg c8] at H
    have c8b0 : decide (x15_1 < (l0.length : Int)) = false := decide_eq_false c8
    clear c8
    replace H := Option.bind_eq_some_iff.mp H
    obtain ⟨t136, A250, H⟩ := H
    replace H : (some t136) = some r := H
    have A25 := zK A250
    clear A250
    obtain rfl := Option.some.inj H
    obtain ⟨Ao26, co26, eo26⟩ := Kd.R_slice HO_5.out
    subst eo26
    go_wp2_with (first | ((with_reducible refine gate_callee (f := 105) rfl ?_); refine goesL_ (some 44) rfl rfl Try.func105 (by kernel_rfl) rfl #[.slice Ao26 x5_1.length co26] rfl M0 ?_; (with_reducible refine (slices_Sort.calls (fun k_ => some k_ = (.slice Ao26 x5_1.length co26 : Value).ownBlock) (.slice Ao26 x5_1.length co26) x5_1 t136 w _ ?side1 ?side2 A25.out).mono ?_); (case side1 => repeat (first | (with_reducible first | exact HB.out | apply bA | apply bN | apply b1) | exact HB.out)); (case side2 => exact Kd.R_tight rfl HO_5.out); rintro e w27 ⟨rfl, hy0, hb, hkp⟩; refine ⟨_, rfl, ?_⟩; have n0_ := zK (Kd.R_reok rfl hy0 (fun k_ e_ => HO_5.out.1 k_ e_)); have n1_ := zK (hb); clear HO_5 HB; have HO_5 := n0_; have HB := n1_; clear n0_ n1_; (try clear hb); (try clear hkp); (try clear hy0)))
    go_ret
    exact ⟨_, by first | rfl | (simp [errW_none, errW_some] <;> rfl) | (simp [*, errW_none, errW_some] <;> rfl), by exact Kd.qR HO_5.out, by exact qB HB.out⟩
   rw [if_pos c8] at H
   have c8b0 : decide (x15_1 < (l0.length : Int)) = true := decide_eq_true c8
   clear c8
   by_cases c9 : 0 ≤ x15_1
   rotate_left
   ·rw [if_neg c9] at H
    exact absurd H (by simp)
   rw [if_pos c9] at H
   have c9b0 : decide (0 ≤ x15_1) = true := decide_eq_true c9
   clear c9
   by_cases c10 : x15_1 < (l0.length : Int)
   rotate_left
   ·rw [if_neg c10] at H
    exact absurd H (by simp)
   rw [if_pos c10] at H
   have c10b0 : decide (x15_1 < (l0.length : Int)) = true := decide_eq_true c10
   clear c10
   by_cases c11 : ((rd_T138 l0 x15_1).f1) = 2
   rotate_left
   ·rw [if_neg c11] at H
    have c11b0 : (((rd_T138 l0 x15_1).f1) == 2) = false := beq_eq_false_iff_ne.mpr c11
    have c11b1 : (((rd_T138 l0 x15_1).f1) != 2) = true := bne_iff_ne.mpr c11
    have H' := zK H
    clear H
    have p130 : 0 ≤ (x15_1 : Int) := oD M1
    have q130 : x15_1 < (l0.length : Int) := oD M1
    obtain ⟨ad130, e130, hx130_0, hx130_1, hx130_2, hx130_3, hx130_4⟩ := at_T138 HR0.out x15_1 p130 q130
    cases e130
    replace hx130_0 := (HB.out.cell (bL w hx130_0)).trans hx130_0
    replace hx130_1 := (HB.out.cell (bL w hx130_1)).trans hx130_1
    replace hx130_2 := (HB.out.cell (bL w hx130_2)).trans hx130_2
    replace hx130_3 := (HB.out.cell (bL w hx130_3)).trans hx130_3
    replace hx130_4 := (HB.out.cell (bL w hx130_4)).trans hx130_4
    replace p130 := eq_true p130
    replace q130 := eq_true q130
    go_wp2_with (first | ((with_reducible refine gate_dst (N := 7) rfl ?_); refine box_event ?hg (N := 7) ?hd (cs := #[.int .i64 0, .int .i64 0, .int .i64 0, .int .i64 0, .int .i64 0]) (t := 138) ?hr ?_; (case hd => rfl); (case hg => rfl); (case hr => first | (go_simp; done) | (go_simp; rfl)); intro gb131 hg w23 hbox hb; have n0_ := zK (Kd.R_below (Kd.qR HO_5.out) hb); have n1_ := zK (bT (qB HB.out) hb); have n2_ := zK (hbox); have n3_ := zK ((by rw [hg]; exact (bZ (qB HB.out)) : w.heap.size ≤ gb131)); have n4_ := zK ((by rw [hg]; exact (bZ (qB HB.out)) : w.heap.size ≤ gb131)); clear HO_5 HB; have HO_5 := n0_; have HB := n1_; have BK131 := n2_; have GW131 := n3_; have GE131 := n4_; clear n0_ n1_ n2_ n3_ n4_; clear hb hbox hg; have hcz24_0 : w23.cell? ⟨gb131, 0, none⟩ = some (.int .i64 0) := (bc BK131.out 0).trans rfl; have hcz24_1 : w23.cell? ⟨gb131, 1, none⟩ = some (.int .i64 0) := (bc BK131.out 1).trans rfl; have hcz24_2 : w23.cell? ⟨gb131, 2, none⟩ = some (.int .i64 0) := (bc BK131.out 2).trans rfl; have hcz24_3 : w23.cell? ⟨gb131, 3, none⟩ = some (.int .i64 0) := (bc BK131.out 3).trans rfl; have hcz24_4 : w23.cell? ⟨gb131, 4, none⟩ = some (.int .i64 0) := (bc BK131.out 4).trans rfl; have hfz24_0 := bf BK131.out 0; have hfz24_1 := bf BK131.out 1; have hfz24_2 := bf BK131.out 2; have hfz24_3 := bf BK131.out 3; have hfz24_4 := bf BK131.out 4))
    go_roundg k1
    case measure => have := HK1.out; omega
    case rel => exact ⟨(x5_1), (wrap64 (x15_1 + 1)), M3, H', ⟨by have := HK1.out; omega⟩, ⟨by (with_reducible repeat (first | apply Kd.RA | apply Kd.RN | apply Kd.RD)); exact Kd.R_mono (Kd.R_far (p := ⟨gb131, 4, none⟩) (Kd.R_far (p := ⟨gb131, 3, none⟩) (Kd.R_far (p := ⟨gb131, 2, none⟩) (Kd.R_far (p := ⟨gb131, 1, none⟩) (Kd.R_far (p := ⟨gb131, 0, none⟩) (Kd.R_types HO_5.out BK131.out (by decide)) (fun _ hk => hk.2) (.int .i64 ((rd_T138 l0 x15_1).f0))) (fun _ hk => hk.2) (.int .i64 ((rd_T138 l0 x15_1).f1))) (fun _ hk => hk.2) (.int .i64 ((rd_T138 l0 x15_1).f2))) (fun _ hk => hk.2) (.int .i64 ((rd_T138 l0 x15_1).f3))) (fun _ hk => hk.2) (.int .i64 ((rd_T138 l0 x15_1).f4))) (fun _ hk => trivial)⟩, ⟨by repeat (first | (with_reducible first | exact HB.out | apply bA | apply bN | apply b1 | refine bS ?_ GE131.out) | exact HB.out)⟩⟩
   rw [if_pos c11] at H
   have c11b0 : (((rd_T138 l0 x15_1).f1) == 2) = true := beq_iff_eq.mpr c11
   have c11b1 : (((rd_T138 l0 x15_1).f1) != 2) = false := bne_eq_false_iff_eq.mpr c11
   clear c11
   by_cases c12 : ((rd_T138 l0 x15_1).f2) = a1
   rotate_left
   ·rw [if_neg c12] at H
    have c12b0 : (((rd_T138 l0 x15_1).f2) == a1) = false := beq_eq_false_iff_ne.mpr c12
    have c12b1 : (((rd_T138 l0 x15_1).f2) != a1) = true := bne_iff_ne.mpr c12
    have H' := zK H
    clear H
    have p130 : 0 ≤ (x15_1 : Int) := oD M1
    have q130 : x15_1 < (l0.length : Int) := oD M1
    obtain ⟨ad130, e130, hx130_0, hx130_1, hx130_2, hx130_3, hx130_4⟩ := at_T138 HR0.out x15_1 p130 q130
    cases e130
    replace hx130_0 := (HB.out.cell (bL w hx130_0)).trans hx130_0
    replace hx130_1 := (HB.out.cell (bL w hx130_1)).trans hx130_1
    replace hx130_2 := (HB.out.cell (bL w hx130_2)).trans hx130_2
    replace hx130_3 := (HB.out.cell (bL w hx130_3)).trans hx130_3
    replace hx130_4 := (HB.out.cell (bL w hx130_4)).trans hx130_4
    replace p130 := eq_true p130
    replace q130 := eq_true q130
    go_wp2_with (first | ((with_reducible refine gate_dst (N := 7) rfl ?_); refine box_event ?hg (N := 7) ?hd (cs := #[.int .i64 0, .int .i64 0, .int .i64 0, .int .i64 0, .int .i64 0]) (t := 138) ?hr ?_; (case hd => rfl); (case hg => rfl); (case hr => first | (go_simp; done) | (go_simp; rfl)); intro gb131 hg w21 hbox hb; have n0_ := zK (Kd.R_below (Kd.qR HO_5.out) hb); have n1_ := zK (bT (qB HB.out) hb); have n2_ := zK (hbox); have n3_ := zK ((by rw [hg]; exact (bZ (qB HB.out)) : w.heap.size ≤ gb131)); have n4_ := zK ((by rw [hg]; exact (bZ (qB HB.out)) : w.heap.size ≤ gb131)); clear HO_5 HB; have HO_5 := n0_; have HB := n1_; have BK131 := n2_; have GW131 := n3_; have GE131 := n4_; clear n0_ n1_ n2_ n3_ n4_; clear hb hbox hg; have hcz22_0 : w21.cell? ⟨gb131, 0, none⟩ = some (.int .i64 0) := (bc BK131.out 0).trans rfl; have hcz22_1 : w21.cell? ⟨gb131, 1, none⟩ = some (.int .i64 0) := (bc BK131.out 1).trans rfl; have hcz22_2 : w21.cell? ⟨gb131, 2, none⟩ = some (.int .i64 0) := (bc BK131.out 2).trans rfl; have hcz22_3 : w21.cell? ⟨gb131, 3, none⟩ = some (.int .i64 0) := (bc BK131.out 3).trans rfl; have hcz22_4 : w21.cell? ⟨gb131, 4, none⟩ = some (.int .i64 0) := (bc BK131.out 4).trans rfl; have hfz22_0 := bf BK131.out 0; have hfz22_1 := bf BK131.out 1; have hfz22_2 := bf BK131.out 2; have hfz22_3 := bf BK131.out 3; have hfz22_4 := bf BK131.out 4))
    go_roundg k1
    case measure => have := HK1.out; omega
    case rel => exact ⟨(x5_1), (wrap64 (x15_1 + 1)), M3, H', ⟨by have := HK1.out; omega⟩, ⟨by (with_reducible repeat (first | apply Kd.RA | apply Kd.RN | apply Kd.RD)); exact Kd.R_mono (Kd.R_far (p := ⟨gb131, 4, none⟩) (Kd.R_far (p := ⟨gb131, 3, none⟩) (Kd.R_far (p := ⟨gb131, 2, none⟩) (Kd.R_far (p := ⟨gb131, 1, none⟩) (Kd.R_far (p := ⟨gb131, 0, none⟩) (Kd.R_types HO_5.out BK131.out (by decide)) (fun _ hk => hk.2) (.int .i64 ((rd_T138 l0 x15_1).f0))) (fun _ hk => hk.2) (.int .i64 ((rd_T138 l0 x15_1).f1))) (fun _ hk => hk.2) (.int .i64 ((rd_T138 l0 x15_1).f2))) (fun _ hk => hk.2) (.int .i64 ((rd_T138 l0 x15_1).f3))) (fun _ hk => hk.2) (.int .i64 ((rd_T138 l0 x15_1).f4))) (fun _ hk => trivial)⟩, ⟨by repeat (first | (with_reducible first | exact HB.out | apply bA | apply bN | apply b1 | refine bS ?_ GE131.out) | exact HB.out)⟩⟩
   rw [if_pos c12] at H
   have c12b0 : (((rd_T138 l0 x15_1).f2) == a1) = true := beq_iff_eq.mpr c12
   have c12b1 : (((rd_T138 l0 x15_1).f2) != a1) = false := bne_eq_false_iff_eq.mpr c12
   clear c12
   replace H := Option.bind_eq_some_iff.mp H
   obtain ⟨t132, A130, H⟩ := H
   replace H : (if t132 = x15_1 then (if x5_1.length < 17592186044416 then (impl_InHouse.l0 k1 l0 a1 (x5_1 ++ [(rd_T138 l0 x15_1).f0]) l0 (l0.length : Int) (wrap64 (x15_1 + 1))) else (none)) else (impl_InHouse.l0 k1 l0 a1 x5_1 l0 (l0.length : Int) (wrap64 (x15_1 + 1)))) = some r := H
   have A13 := zK A130
   clear A130
   by_cases c14 : t132 = x15_1
   rotate_left
   ·rw [if_neg c14] at H
    have c14b0 : (t132 == x15_1) = false := beq_eq_false_iff_ne.mpr c14
    have c14b1 : (t132 != x15_1) = true := bne_iff_ne.mpr c14
    have H' := zK H
    clear H
    have p130 : 0 ≤ (x15_1 : Int) := oD M1
    have q130 : x15_1 < (l0.length : Int) := oD M1
    obtain ⟨ad130, e130, hx130_0, hx130_1, hx130_2, hx130_3, hx130_4⟩ := at_T138 HR0.out x15_1 p130 q130
    cases e130
    replace hx130_0 := (HB.out.cell (bL w hx130_0)).trans hx130_0
    replace hx130_1 := (HB.out.cell (bL w hx130_1)).trans hx130_1
    replace hx130_2 := (HB.out.cell (bL w hx130_2)).trans hx130_2
    replace hx130_3 := (HB.out.cell (bL w hx130_3)).trans hx130_3
    replace hx130_4 := (HB.out.cell (bL w hx130_4)).trans hx130_4
    replace p130 := eq_true p130
    replace q130 := eq_true q130
    go_wp2_with (first | ((with_reducible refine gate_dst (N := 7) rfl ?_); refine box_event ?hg (N := 7) ?hd (cs := #[.int .i64 0, .int .i64 0, .int .i64 0, .int .i64 0, .int .i64 0]) (t := 138) ?hr ?_; (case hd => rfl); (case hg => rfl); (case hr => first | (go_simp; done) | (go_simp; rfl)); intro gb131 hg w19 hbox hb; have n0_ := zK (Kd.R_below (Kd.qR HO_5.out) hb); have n1_ := zK (bT (qB HB.out) hb); have n2_ := zK (hbox); have n3_ := zK ((by rw [hg]; exact (bZ (qB HB.out)) : w.heap.size ≤ gb131)); have n4_ := zK ((by rw [hg]; exact (bZ (qB HB.out)) : w.heap.size ≤ gb131)); clear HO_5 HB; have HO_5 := n0_; have HB := n1_; have BK131 := n2_; have GW131 := n3_; have GE131 := n4_; clear n0_ n1_ n2_ n3_ n4_; clear hb hbox hg; have hcz20_0 : w19.cell? ⟨gb131, 0, none⟩ = some (.int .i64 0) := (bc BK131.out 0).trans rfl; have hcz20_1 : w19.cell? ⟨gb131, 1, none⟩ = some (.int .i64 0) := (bc BK131.out 1).trans rfl; have hcz20_2 : w19.cell? ⟨gb131, 2, none⟩ = some (.int .i64 0) := (bc BK131.out 2).trans rfl; have hcz20_3 : w19.cell? ⟨gb131, 3, none⟩ = some (.int .i64 0) := (bc BK131.out 3).trans rfl; have hcz20_4 : w19.cell? ⟨gb131, 4, none⟩ = some (.int .i64 0) := (bc BK131.out 4).trans rfl; have hfz20_0 := bf BK131.out 0; have hfz20_1 := bf BK131.out 1; have hfz20_2 := bf BK131.out 2; have hfz20_3 := bf BK131.out 3; have hfz20_4 := bf BK131.out 4) | (go_at_call 104; (with_reducible refine (impl_lastHand.calls k1 _ _ l0 ((rd_T138 l0 x15_1).f0) t132 _ ?side1 ?side2 A13.out).mono ?_); (case side1 => exact Kd.C_below HR0.out (by repeat (first | (with_reducible first | exact HB.out | apply bA | apply bN | apply b1 | refine bS ?_ GE131.out) | exact HB.out))); (case side2 => exact HC0.out); rintro e w' ⟨rfl, ⟨nd, rfl⟩⟩))
    go_roundg k1
    case measure => have := HK1.out; omega
    case rel => exact ⟨(x5_1), (wrap64 (x15_1 + 1)), M3, H', ⟨by have := HK1.out; omega⟩, ⟨by (with_reducible repeat (first | apply Kd.RA | apply Kd.RN | apply Kd.RD)); exact Kd.R_mono (Kd.R_far (p := ⟨gb131, 4, none⟩) (Kd.R_far (p := ⟨gb131, 3, none⟩) (Kd.R_far (p := ⟨gb131, 2, none⟩) (Kd.R_far (p := ⟨gb131, 1, none⟩) (Kd.R_far (p := ⟨gb131, 0, none⟩) (Kd.R_types HO_5.out BK131.out (by decide)) (fun _ hk => hk.2) (.int .i64 ((rd_T138 l0 x15_1).f0))) (fun _ hk => hk.2) (.int .i64 ((rd_T138 l0 x15_1).f1))) (fun _ hk => hk.2) (.int .i64 ((rd_T138 l0 x15_1).f2))) (fun _ hk => hk.2) (.int .i64 ((rd_T138 l0 x15_1).f3))) (fun _ hk => hk.2) (.int .i64 ((rd_T138 l0 x15_1).f4))) (fun _ hk => trivial)⟩, ⟨by repeat (first | (with_reducible first | exact HB.out | apply bA | apply bN | apply b1 | refine bS ?_ GE131.out) | exact HB.out)⟩⟩
   rw [if_pos c14] at H
   have c14b0 : (t132 == x15_1) = true := beq_iff_eq.mpr c14
   have c14b1 : (t132 != x15_1) = false := bne_eq_false_iff_eq.mpr c14
   clear c14
   by_cases c15 : x5_1.length < 17592186044416
   rotate_left
   ·rw [if_neg c15] at H
    exact absurd H (by simp)
   rw [if_pos c15] at H
   have LMc15 := zK c15
   clear c15
   obtain ⟨y133, hy133⟩ : ∃ y_ : List Int, y_ = (x5_1 ++ [(rd_T138 l0 x15_1).f0]) := ⟨_, rfl⟩
   replace H : (impl_InHouse.l0 k1 l0 a1 y133 l0 (l0.length : Int) (wrap64 (x15_1 + 1))) = some r := by first | (rw [hy133]; with_reducible exact H) | (have H2_ := (Option.bind_some _ _).symm.trans H; rw [hy133]; with_reducible exact H2_) | (have H2_ := (Option.bind_some _ _).symm.trans H; with_reducible exact H2_) | with_reducible exact H | (rw [hy133]; exact H) | exact H
   have Ny133 := zK hy133
   clear hy133
   have H' := zK H
   clear H
   have p130 : 0 ≤ (x15_1 : Int) := oD M1
   have q130 : x15_1 < (l0.length : Int) := oD M1
   obtain ⟨ad130, e130, hx130_0, hx130_1, hx130_2, hx130_3, hx130_4⟩ := at_T138 HR0.out x15_1 p130 q130
   cases e130
   replace hx130_0 := (HB.out.cell (bL w hx130_0)).trans hx130_0
   replace hx130_1 := (HB.out.cell (bL w hx130_1)).trans hx130_1
   replace hx130_2 := (HB.out.cell (bL w hx130_2)).trans hx130_2
   replace hx130_3 := (HB.out.cell (bL w hx130_3)).trans hx130_3
   replace hx130_4 := (HB.out.cell (bL w hx130_4)).trans hx130_4
   replace p130 := eq_true p130
   replace q130 := eq_true q130
   go_wp2_with (first | ((with_reducible refine gate_dst (N := 7) rfl ?_); refine box_event ?hg (N := 7) ?hd (cs := #[.int .i64 0, .int .i64 0, .int .i64 0, .int .i64 0, .int .i64 0]) (t := 138) ?hr ?_; (case hd => rfl); (case hg => rfl); (case hr => first | (go_simp; done) | (go_simp; rfl)); intro gb131 hg w16 hbox hb; have n0_ := zK (Kd.R_below (Kd.qR HO_5.out) hb); have n1_ := zK (bT (qB HB.out) hb); have n2_ := zK (hbox); have n3_ := zK ((by rw [hg]; exact (bZ (qB HB.out)) : w.heap.size ≤ gb131)); have n4_ := zK ((by rw [hg]; exact (bZ (qB HB.out)) : w.heap.size ≤ gb131)); clear HO_5 HB; have HO_5 := n0_; have HB := n1_; have BK131 := n2_; have GW131 := n3_; have GE131 := n4_; clear n0_ n1_ n2_ n3_ n4_; clear hb hbox hg; have hcz17_0 : w16.cell? ⟨gb131, 0, none⟩ = some (.int .i64 0) := (bc BK131.out 0).trans rfl; have hcz17_1 : w16.cell? ⟨gb131, 1, none⟩ = some (.int .i64 0) := (bc BK131.out 1).trans rfl; have hcz17_2 : w16.cell? ⟨gb131, 2, none⟩ = some (.int .i64 0) := (bc BK131.out 2).trans rfl; have hcz17_3 : w16.cell? ⟨gb131, 3, none⟩ = some (.int .i64 0) := (bc BK131.out 3).trans rfl; have hcz17_4 : w16.cell? ⟨gb131, 4, none⟩ = some (.int .i64 0) := (bc BK131.out 4).trans rfl; have hfz17_0 := bf BK131.out 0; have hfz17_1 := bf BK131.out 1; have hfz17_2 := bf BK131.out 2; have hfz17_3 := bf BK131.out 3; have hfz17_4 := bf BK131.out 4) | (go_at_call 104; (with_reducible refine (impl_lastHand.calls k1 _ _ l0 ((rd_T138 l0 x15_1).f0) t132 _ ?side1 ?side2 A13.out).mono ?_); (case side1 => exact Kd.C_below HR0.out (by repeat (first | (with_reducible first | exact HB.out | apply bA | apply bN | apply b1 | refine bS ?_ GE131.out) | exact HB.out))); (case side2 => exact HC0.out); rintro e w' ⟨rfl, ⟨nd, rfl⟩⟩) | ((with_reducible refine gate_builtin (b := .append) (xs := #[.tmp 37, .tmp 40]) rfl ?_); at_builtin; refine Kd.R_append (Kd.int .i64) (w0 := w) w.heap.size rfl (.tmp 37) (.tmp 40) 24 3 (.int .i64 0) 8 rfl Try.underlying24 info3 rfl (by decide) (by omega) u5 x5_1 ((rd_T138 l0 x15_1).f0) [.int .i64 ((rd_T138 l0 x15_1).f0)] (fun _ => True) (fun _ => False) rfl (by first | (go_simp; done) | (go_simp; rfl)) ?aP (fun _ hk => hk.elim) ?aF ?aO ?aB ?aS ?aL ?_; (case aP => exact rfl); (case aB => exact (by repeat (first | (with_reducible first | exact HB.out | apply bA | apply bN | apply b1 | refine bS ?_ GE131.out) | exact HB.out))); (case aF => exact (fun _ _ => trivial)); (case aO => exact (by (with_reducible repeat (first | apply Kd.RA | apply Kd.RN | apply Kd.RD)); exact Kd.R_mono (Kd.R_far (p := ⟨gb131, 4, none⟩) (Kd.R_far (p := ⟨gb131, 3, none⟩) (Kd.R_far (p := ⟨gb131, 2, none⟩) (Kd.R_far (p := ⟨gb131, 1, none⟩) (Kd.R_far (p := ⟨gb131, 0, none⟩) (Kd.R_types HO_5.out BK131.out (by decide)) (fun _ hk => hk.2) (.int .i64 ((rd_T138 l0 x15_1).f0))) (fun _ hk => hk.2) (.int .i64 ((rd_T138 l0 x15_1).f1))) (fun _ hk => hk.2) (.int .i64 ((rd_T138 l0 x15_1).f2))) (fun _ hk => hk.2) (.int .i64 ((rd_T138 l0 x15_1).f3))) (fun _ hk => hk.2) (.int .i64 ((rd_T138 l0 x15_1).f4))) (fun _ hk => trivial))); (case aS => exact (bZ (by repeat (first | (with_reducible first | exact HB.out | apply bA | apply bN | apply b1 | refine bS ?_ GE131.out) | exact HB.out)))); (case aL => have := LMc15.out; omega); intro v134 w18 ho hb hg hat; rw [← Ny133.out] at ho; have n0_ := zK (blk_grown (g := gb131) (o := .cells #[.int .i64 ((rd_T138 l0 x15_1).f0), .int .i64 ((rd_T138 l0 x15_1).f1), .int .i64 ((rd_T138 l0 x15_1).f2), .int .i64 ((rd_T138 l0 x15_1).f3), .int .i64 ((rd_T138 l0 x15_1).f4)] 138 (0, 0)) (by (with_reducible repeat (first | refine kN ?_ _ | refine kD ?_ | refine kA ?_ _)); refine blk_put (cs := #[.int .i64 ((rd_T138 l0 x15_1).f0), .int .i64 ((rd_T138 l0 x15_1).f1), .int .i64 ((rd_T138 l0 x15_1).f2), .int .i64 ((rd_T138 l0 x15_1).f3), .int .i64 0]) ?_ 4 _ rfl; (with_reducible repeat (first | refine kN ?_ _ | refine kD ?_ | refine kA ?_ _)); refine blk_put (cs := #[.int .i64 ((rd_T138 l0 x15_1).f0), .int .i64 ((rd_T138 l0 x15_1).f1), .int .i64 ((rd_T138 l0 x15_1).f2), .int .i64 0, .int .i64 0]) ?_ 3 _ rfl; (with_reducible repeat (first | refine kN ?_ _ | refine kD ?_ | refine kA ?_ _)); refine blk_put (cs := #[.int .i64 ((rd_T138 l0 x15_1).f0), .int .i64 ((rd_T138 l0 x15_1).f1), .int .i64 0, .int .i64 0, .int .i64 0]) ?_ 2 _ rfl; (with_reducible repeat (first | refine kN ?_ _ | refine kD ?_ | refine kA ?_ _)); refine blk_put (cs := #[.int .i64 ((rd_T138 l0 x15_1).f0), .int .i64 0, .int .i64 0, .int .i64 0, .int .i64 0]) ?_ 1 _ rfl; (with_reducible repeat (first | refine kN ?_ _ | refine kD ?_ | refine kA ?_ _)); refine blk_put (cs := #[.int .i64 0, .int .i64 0, .int .i64 0, .int .i64 0, .int .i64 0]) ?_ 0 _ rfl; exact qK BK131.out) hg (Kd.R_ne HO_5.out BK131.out (by decide))); have n1_ := zK (hb); have n2_ := zK (ho); clear BK131 HB HO_5; have BK131 := n0_; have HB := n1_; have HO135 := n2_; clear n0_ n1_ n2_; clear ho hb hg hat))
   go_roundg k1
   case measure => have := HK1.out; omega
   case rel => exact ⟨(y133), (wrap64 (x15_1 + 1)), M3, H', ⟨by have := HK1.out; omega⟩, ⟨by exact Kd.qR HO135.out⟩, ⟨by repeat (first | (with_reducible first | exact HB.out | apply bA | apply bN | apply b1 | refine bS ?_ GE131.out) | exact HB.out)⟩⟩
/-! ### impl_isAscending: function 141 -/
def impl_isAscending.l0 : Nat → List Int → Int → Int → List Int → Int → Int → Option (Bool)
 | 0, _, _, _, _, _, _ => none
 | k + 1, x0, x1, x2, x9, x10, x11 => if x11 < x10 then (if 0 ≤ x11 then (if x11 < (x9.length : Int) then ((impl_InRange.f (rd x9 x11) x1 x2).bind fun t138 => (if t138 = true then (if x11 > 0 then (if 0 ≤ (wrap64 (x11 - 1)) then (if (wrap64 (x11 - 1)) < (x0.length : Int) then (if (rd x9 x11) ≤ (rd x0 (wrap64 (x11 - 1))) then (some false) else (impl_isAscending.l0 k x0 x1 x2 x9 x10 (wrap64 (x11 + 1)))) else (none)) else (none)) else (impl_isAscending.l0 k x0 x1 x2 x9 x10 (wrap64 (x11 + 1)))) else (some false))) else (none)) else (none)) else (some true)
def impl_isAscending.f (k : Nat) (l0 : List Int) (a1 : Int) (a2 : Int) : Option (Bool) := impl_isAscending.l0 k l0 a1 a2 l0 (l0.length : Int) 0
set_option maxHeartbeats 8000000 in
set_option maxRecDepth 100000 in
theorem impl_isAscending.calls (k : Nat) (A0 : Option Addr) (c0 : Nat) (l0 : List Int) (a1 : Int) (a2 : Int) (r : Bool) (w : World) (hr0 : Kd.C (Kd.int .i64) w A0 l0.length l0) (hc0 : l0.length ≤ c0) (h : impl_isAscending.f k l0 a1 a2 = some r) :
  Calls Try.prog 141 #[.slice A0 l0.length c0, .int .i64 a1, .int .i64 a2] w fun e w' => e = .returned (.bool r) ∧ Drawn0 w w' := by
 have HR0 := zK hr0
 have HC0 := zK hc0
 clear hr0 hc0
 have H : (impl_isAscending.l0 k l0 a1 a2 l0 (l0.length : Int) 0) = some r := h
 clear h
 have H' := zK H
 clear H
 go_enter Try.func141, Try.ntmps141
 go_wp2
 go_loopg [11] k (fun kq v11 w' => ∃ (x11_1 : Int), v11 = .int .i64 x11_1 ∧ Aside0 (impl_isAscending.l0 kq l0 a1 a2 l0 (l0.length : Int) x11_1 = some r) ∧ Aside0 (kq ≤ k) ∧ Drawn0 w w')
 case atStart => exact ⟨(0), M3, H', ⟨Nat.le_refl _⟩, by repeat (first | exact Drawn0.refl _ | apply Drawn0.step)⟩
 case round =>
  clear H'
  try clear c1
  try clear p2
  obtain ⟨x11_1, rfl, HA, HK1, ⟨m1, rfl⟩⟩ := hrel
  cases gk with
  | zero => exact absurd HA.out (by simp [impl_isAscending.l0])
  | succ k1 =>
   have H := HA.out
   clear HA
   simp only [impl_isAscending.l0] at H
   by_cases c4 : x11_1 < (l0.length : Int)
   rotate_left
   ·rw [if_neg c4] at H
    have c4b0 : decide (x11_1 < (l0.length : Int)) = false := decide_eq_false c4
    clear c4
    obtain rfl := Option.some.inj H
    go_wp2
    go_ret
    exact ⟨by first | rfl | (simp; done) | (simp [*]; done), by repeat (first | exact Drawn0.refl _ | apply Drawn0.step)⟩
   rw [if_pos c4] at H
   have c4b0 : decide (x11_1 < (l0.length : Int)) = true := decide_eq_true c4
   clear c4
   by_cases c5 : 0 ≤ x11_1
   rotate_left
   ·rw [if_neg c5] at H
    exact absurd H (by simp)
   rw [if_pos c5] at H
   have c5b0 : decide (0 ≤ x11_1) = true := decide_eq_true c5
   clear c5
   by_cases c6 : x11_1 < (l0.length : Int)
   rotate_left
   ·rw [if_neg c6] at H
    exact absurd H (by simp)
   rw [if_pos c6] at H
   have c6b0 : decide (x11_1 < (l0.length : Int)) = true := decide_eq_true c6
   clear c6
   replace H := Option.bind_eq_some_iff.mp H
   obtain ⟨t138, A70, H⟩ := H
   replace H : (if t138 = true then (if x11_1 > 0 then (if 0 ≤ (wrap64 (x11_1 - 1)) then (if (wrap64 (x11_1 - 1)) < (l0.length : Int) then (if (rd l0 x11_1) ≤ (rd l0 (wrap64 (x11_1 - 1))) then (some false) else (impl_isAscending.l0 k1 l0 a1 a2 l0 (l0.length : Int) (wrap64 (x11_1 + 1)))) else (none)) else (none)) else (impl_isAscending.l0 k1 l0 a1 a2 l0 (l0.length : Int) (wrap64 (x11_1 + 1)))) else (some false)) = some r := H
   have A7 := zK A70
   clear A70
   by_cases c8 : t138 = true
   rotate_left
   ·replace c8 := Bool.eq_false_iff.mpr c8
    subst c8
    have H1 : (some false) = some r := by rw [if_neg (show ¬ (false = true) by decide)] at H; exact H
    clear H
    have H := H1
    clear H1
    obtain rfl := Option.some.inj H
    have p137 : 0 ≤ (x11_1 : Int) := oD M1
    have q137 : x11_1 < (l0.length : Int) := oD M1
    obtain ⟨ad137, e137, hx137_0⟩ := Kd.at_int HR0.out x11_1 p137 q137
    cases e137
    replace p137 := eq_true p137
    replace q137 := eq_true q137
    go_wp2_with (first | ((with_reducible refine gate_callee (f := 106) rfl ?_); refine goesL_ (some 19) rfl rfl Try.func106 (by kernel_rfl) rfl #[.int .i64 (rd l0 x11_1), .int .i64 a1, .int .i64 a2] rfl M0 ?_; (with_reducible refine (impl_InRange.calls (rd l0 x11_1) a1 a2 false _ A7.out).mono ?_); rintro e w' ⟨rfl, ⟨nd, rfl⟩⟩; refine ⟨_, rfl, ?_⟩))
    go_ret
    exact ⟨by first | rfl | (simp; done) | (simp [*]; done), by repeat (first | exact Drawn0.refl _ | apply Drawn0.step)⟩
   subst c8
   have H1 : (if x11_1 > 0 then (if 0 ≤ (wrap64 (x11_1 - 1)) then (if (wrap64 (x11_1 - 1)) < (l0.length : Int) then (if (rd l0 x11_1) ≤ (rd l0 (wrap64 (x11_1 - 1))) then (some false) else (impl_isAscending.l0 k1 l0 a1 a2 l0 (l0.length : Int) (wrap64 (x11_1 + 1)))) else (none)) else (none)) else (impl_isAscending.l0 k1 l0 a1 a2 l0 (l0.length : Int) (wrap64 (x11_1 + 1)))) = some r := by rw [if_pos rfl] at H; exact H
   clear H
   have H := H1
   clear H1
   by_cases c9 : x11_1 > 0
   rotate_left
   ·rw [if_neg c9] at H
    have c9b0 : decide (0 < x11_1) = false := decide_eq_false c9
    clear c9
    have H' := zK H
    clear H
    have p137 : 0 ≤ (x11_1 : Int) := oD M1
    have q137 : x11_1 < (l0.length : Int) := oD M1
    obtain ⟨ad137, e137, hx137_0⟩ := Kd.at_int HR0.out x11_1 p137 q137
    cases e137
    replace p137 := eq_true p137
    replace q137 := eq_true q137
    go_wp2_with (first | ((with_reducible refine gate_callee (f := 106) rfl ?_); refine goesL_ (some 19) rfl rfl Try.func106 (by kernel_rfl) rfl #[.int .i64 (rd l0 x11_1), .int .i64 a1, .int .i64 a2] rfl M0 ?_; (with_reducible refine (impl_InRange.calls (rd l0 x11_1) a1 a2 true _ A7.out).mono ?_); rintro e w' ⟨rfl, ⟨nd, rfl⟩⟩; refine ⟨_, rfl, ?_⟩))
    go_roundg k1
    case measure => have := HK1.out; omega
    case rel => exact ⟨(wrap64 (x11_1 + 1)), M3, H', ⟨by have := HK1.out; omega⟩, by repeat (first | exact Drawn0.refl _ | apply Drawn0.step)⟩
   rw [if_pos c9] at H
   have c9b0 : decide (0 < x11_1) = true := decide_eq_true c9
   clear c9
   obtain ⟨ji10, hji10⟩ : ∃ j_ : Int, (wrap64 (x11_1 - 1)) = j_ := ⟨_, rfl⟩
   replace H : (if 0 ≤ (ji10) then (if (ji10) < (l0.length : Int) then (if (rd l0 x11_1) ≤ (rd l0 (ji10)) then (some false) else (impl_isAscending.l0 k1 l0 a1 a2 l0 (l0.length : Int) (wrap64 (x11_1 + 1)))) else (none)) else (none)) = some r := by first | (rw [hji10] at H; exact H) | (simp only [hji10] at H ⊢; exact H)
   (try rw [hji10] at A7)
   have hji10w : (IntKind.i64.wrap (x11_1 - 1)) = ji10 := (i64_w _).trans hji10
   by_cases c11 : 0 ≤ (ji10)
   rotate_left
   ·rw [if_neg c11] at H
    exact absurd H (by simp)
   rw [if_pos c11] at H
   have c11b0 : decide (0 ≤ (ji10)) = true := decide_eq_true c11
   clear c11
   by_cases c12 : (ji10) < (l0.length : Int)
   rotate_left
   ·rw [if_neg c12] at H
    exact absurd H (by simp)
   rw [if_pos c12] at H
   have c12b0 : decide ((ji10) < (l0.length : Int)) = true := decide_eq_true c12
   clear c12
   by_cases c13 : (rd l0 x11_1) ≤ (rd l0 (ji10))
   ·rw [if_pos c13] at H
    have c13b0 : decide ((rd l0 x11_1) ≤ (rd l0 (ji10))) = true := decide_eq_true c13
    clear c13
    obtain rfl := Option.some.inj H
    have p137 : 0 ≤ (x11_1 : Int) := oD M1
    have q137 : x11_1 < (l0.length : Int) := oD M1
    obtain ⟨ad137, e137, hx137_0⟩ := Kd.at_int HR0.out x11_1 p137 q137
    cases e137
    replace p137 := eq_true p137
    replace q137 := eq_true q137
    go_wp2_with (first | ((with_reducible refine gate_callee (f := 106) rfl ?_); refine goesL_ (some 19) rfl rfl Try.func106 (by kernel_rfl) rfl #[.int .i64 (rd l0 x11_1), .int .i64 a1, .int .i64 a2] rfl M0 ?_; (with_reducible refine (impl_InRange.calls (rd l0 x11_1) a1 a2 true _ A7.out).mono ?_); rintro e w' ⟨rfl, ⟨nd, rfl⟩⟩; refine ⟨_, rfl, ?_⟩; have p139 : 0 ≤ ((ji10) : Int) := oD M1; have q139 : (ji10) < (l0.length : Int) := oD M1; obtain ⟨ad139, e139, hx139_0⟩ := Kd.at_int HR0.out (ji10) p139 q139; obtain rfl : ad137 = ad139 := (by injection e139); replace p139 := eq_true p139; replace q139 := eq_true q139))
    go_ret
    exact ⟨by first | rfl | (simp; done) | (simp only [← hji10] <;> (first | rfl | simp)) | (simp [*]; done), by repeat (first | exact Drawn0.refl _ | apply Drawn0.step)⟩
   rw [if_neg c13] at H
   have c13b0 : decide ((rd l0 x11_1) ≤ (rd l0 (ji10))) = false := decide_eq_false c13
   clear c13
   have H' := zK H
   clear H
   have p137 : 0 ≤ (x11_1 : Int) := oD M1
   have q137 : x11_1 < (l0.length : Int) := oD M1
   obtain ⟨ad137, e137, hx137_0⟩ := Kd.at_int HR0.out x11_1 p137 q137
   cases e137
   replace p137 := eq_true p137
   replace q137 := eq_true q137
   go_wp2_with (first | ((with_reducible refine gate_callee (f := 106) rfl ?_); refine goesL_ (some 19) rfl rfl Try.func106 (by kernel_rfl) rfl #[.int .i64 (rd l0 x11_1), .int .i64 a1, .int .i64 a2] rfl M0 ?_; (with_reducible refine (impl_InRange.calls (rd l0 x11_1) a1 a2 true _ A7.out).mono ?_); rintro e w' ⟨rfl, ⟨nd, rfl⟩⟩; refine ⟨_, rfl, ?_⟩; have p139 : 0 ≤ ((ji10) : Int) := oD M1; have q139 : (ji10) < (l0.length : Int) := oD M1; obtain ⟨ad139, e139, hx139_0⟩ := Kd.at_int HR0.out (ji10) p139 q139; obtain rfl : ad137 = ad139 := (by injection e139); replace p139 := eq_true p139; replace q139 := eq_true q139))
   go_roundg k1
   case measure => have := HK1.out; omega
   case rel => exact ⟨(wrap64 (x11_1 + 1)), M3, H', ⟨by have := HK1.out; omega⟩, by repeat (first | exact Drawn0.refl _ | apply Drawn0.step)⟩
/-! ### impl_IsParcel: function 100 -/
def impl_IsParcel.f (k : Nat) (a0_0 : Int) (a0_1 : Int) (l0_2 : List Int) (a0_3 : Int) : Option (Bool) := (impl_InRange.f a0_0 1 9).bind fun t141 => (if t141 = true then ((impl_InRange.f a0_1 1 9).bind fun t142 => (if t142 = true then (if a0_0 = a0_1 then (some false) else ((impl_InRange.f (l0_2.length : Int) 1 10).bind fun t143 => (if t143 = true then ((impl_isAscending.f k l0_2 1 999).bind fun t144 => (if t144 = true then ((impl_InRange.f a0_3 0 100000).bind fun t145 => (some t145)) else (some false))) else (some false)))) else (some false))) else (some false))
set_option maxHeartbeats 8000000 in
set_option maxRecDepth 100000 in
theorem impl_IsParcel.calls (k : Nat) (a0_0 : Int) (a0_1 : Int) (A0_2 : Option Addr) (c0_2 : Nat) (l0_2 : List Int) (a0_3 : Int) (r : Bool) (w : World) (hr0_2 : Kd.C (Kd.int .i64) w A0_2 l0_2.length l0_2) (hc0_2 : l0_2.length ≤ c0_2) (h : impl_IsParcel.f k a0_0 a0_1 l0_2 a0_3 = some r) :
  Calls Try.prog 100 #[.agg #[.int .i64 a0_0, .int .i64 a0_1, .slice A0_2 l0_2.length c0_2, .int .i64 a0_3]] w fun e w' => e = .returned (.bool r) ∧ Below w.heap.size w w' := by
 have hu53 := Try.underlying53
 have HR0_2 := zK hr0_2
 have HC0_2 := zK hc0_2
 clear hr0_2 hc0_2
 have HB := zK (Below.refl w.heap.size w)
 have H : ((impl_InRange.f a0_0 1 9).bind fun t141 => (if t141 = true then ((impl_InRange.f a0_1 1 9).bind fun t142 => (if t142 = true then (if a0_0 = a0_1 then (some false) else ((impl_InRange.f (l0_2.length : Int) 1 10).bind fun t143 => (if t143 = true then ((impl_isAscending.f k l0_2 1 999).bind fun t144 => (if t144 = true then ((impl_InRange.f a0_3 0 100000).bind fun t145 => (some t145)) else (some false))) else (some false)))) else (some false))) else (some false))) = some r := h
 clear h
 replace H := Option.bind_eq_some_iff.mp H
 obtain ⟨t141, A20, H⟩ := H
 replace H : (if t141 = true then ((impl_InRange.f a0_1 1 9).bind fun t142 => (if t142 = true then (if a0_0 = a0_1 then (some false) else ((impl_InRange.f (l0_2.length : Int) 1 10).bind fun t143 => (if t143 = true then ((impl_isAscending.f k l0_2 1 999).bind fun t144 => (if t144 = true then ((impl_InRange.f a0_3 0 100000).bind fun t145 => (some t145)) else (some false))) else (some false)))) else (some false))) else (some false)) = some r := H
 have A2 := zK A20
 clear A20
 by_cases c3 : t141 = true
 rotate_left
 ·replace c3 := Bool.eq_false_iff.mpr c3
  subst c3
  have H1 : (some false) = some r := by rw [if_neg (show ¬ (false = true) by decide)] at H; exact H
  clear H
  have H := H1
  clear H1
  obtain rfl := Option.some.inj H
  go_enter Try.func100, Try.ntmps100
  go_wp2_with (first | ((with_reducible refine gate_dst (N := 1) rfl ?_); (try (refine gate_guard (by rfl) ?_; dsimp only)); refine box_event ?hg (N := 1) ?hd (cs := #[.int .i64 a0_0, .int .i64 a0_1, .slice A0_2 l0_2.length c0_2, .int .i64 a0_3]) (t := 53) ?hr ?_; (case hd => rfl); (case hg => rfl); (case hr => first | (go_simp; done) | (go_simp; rfl)); intro gb140 hg w22 hbox hb; have n0_ := zK (bT (qB HB.out) hb); have n1_ := zK (hbox); have n2_ := zK ((by rw [hg]; exact (bZ (qB HB.out)) : w.heap.size ≤ gb140)); have n3_ := zK ((by rw [hg]; exact (bZ (qB HB.out)) : w.heap.size ≤ gb140)); clear HB; have HB := n0_; have BK140 := n1_; have GW140 := n2_; have GE140 := n3_; clear n0_ n1_ n2_ n3_; clear hb hbox hg; have hcz23_0 : w22.cell? ⟨gb140, 0, none⟩ = some (.int .i64 a0_0) := (bc BK140.out 0).trans rfl; have hcz23_1 : w22.cell? ⟨gb140, 1, none⟩ = some (.int .i64 a0_1) := (bc BK140.out 1).trans rfl; have hcz23_2 : w22.cell? ⟨gb140, 2, none⟩ = some (.slice A0_2 l0_2.length c0_2) := (bc BK140.out 2).trans rfl; have hcz23_3 : w22.cell? ⟨gb140, 3, none⟩ = some (.int .i64 a0_3) := (bc BK140.out 3).trans rfl; have hfz23_0 := bf BK140.out 0; have hfz23_1 := bf BK140.out 1; have hfz23_2 := bf BK140.out 2; have hfz23_3 := bf BK140.out 3) | ((with_reducible refine gate_callee (f := 106) rfl ?_); refine goesL_ (some 5) rfl rfl Try.func106 (by kernel_rfl) rfl #[.int .i64 a0_0, .int .i64 1, .int .i64 9] rfl M0 ?_; (with_reducible refine (impl_InRange.calls a0_0 1 9 false _ A2.out).mono ?_); rintro e w' ⟨rfl, ⟨nd, rfl⟩⟩; refine ⟨_, rfl, ?_⟩))
  go_ret
  exact ⟨by first | rfl | (simp [errW_none, errW_some] <;> rfl) | (simp [*, errW_none, errW_some] <;> rfl), by repeat (first | (with_reducible first | exact HB.out | apply bA | apply bN | apply b1 | refine bS ?_ GE140.out) | exact HB.out)⟩
 subst c3
 have H1 : ((impl_InRange.f a0_1 1 9).bind fun t142 => (if t142 = true then (if a0_0 = a0_1 then (some false) else ((impl_InRange.f (l0_2.length : Int) 1 10).bind fun t143 => (if t143 = true then ((impl_isAscending.f k l0_2 1 999).bind fun t144 => (if t144 = true then ((impl_InRange.f a0_3 0 100000).bind fun t145 => (some t145)) else (some false))) else (some false)))) else (some false))) = some r := by rw [if_pos rfl] at H; exact H
 clear H
 have H := H1
 clear H1
 replace H := Option.bind_eq_some_iff.mp H
 obtain ⟨t142, A40, H⟩ := H
 replace H : (if t142 = true then (if a0_0 = a0_1 then (some false) else ((impl_InRange.f (l0_2.length : Int) 1 10).bind fun t143 => (if t143 = true then ((impl_isAscending.f k l0_2 1 999).bind fun t144 => (if t144 = true then ((impl_InRange.f a0_3 0 100000).bind fun t145 => (some t145)) else (some false))) else (some false)))) else (some false)) = some r := H
 have A4 := zK A40
 clear A40
 by_cases c5 : t142 = true
 rotate_left
 ·replace c5 := Bool.eq_false_iff.mpr c5
  subst c5
  have H1 : (some false) = some r := by rw [if_neg (show ¬ (false = true) by decide)] at H; exact H
  clear H
  have H := H1
  clear H1
  obtain rfl := Option.some.inj H
  go_enter Try.func100, Try.ntmps100
  go_wp2_with (first | ((with_reducible refine gate_dst (N := 1) rfl ?_); (try (refine gate_guard (by rfl) ?_; dsimp only)); refine box_event ?hg (N := 1) ?hd (cs := #[.int .i64 a0_0, .int .i64 a0_1, .slice A0_2 l0_2.length c0_2, .int .i64 a0_3]) (t := 53) ?hr ?_; (case hd => rfl); (case hg => rfl); (case hr => first | (go_simp; done) | (go_simp; rfl)); intro gb140 hg w20 hbox hb; have n0_ := zK (bT (qB HB.out) hb); have n1_ := zK (hbox); have n2_ := zK ((by rw [hg]; exact (bZ (qB HB.out)) : w.heap.size ≤ gb140)); have n3_ := zK ((by rw [hg]; exact (bZ (qB HB.out)) : w.heap.size ≤ gb140)); clear HB; have HB := n0_; have BK140 := n1_; have GW140 := n2_; have GE140 := n3_; clear n0_ n1_ n2_ n3_; clear hb hbox hg; have hcz21_0 : w20.cell? ⟨gb140, 0, none⟩ = some (.int .i64 a0_0) := (bc BK140.out 0).trans rfl; have hcz21_1 : w20.cell? ⟨gb140, 1, none⟩ = some (.int .i64 a0_1) := (bc BK140.out 1).trans rfl; have hcz21_2 : w20.cell? ⟨gb140, 2, none⟩ = some (.slice A0_2 l0_2.length c0_2) := (bc BK140.out 2).trans rfl; have hcz21_3 : w20.cell? ⟨gb140, 3, none⟩ = some (.int .i64 a0_3) := (bc BK140.out 3).trans rfl; have hfz21_0 := bf BK140.out 0; have hfz21_1 := bf BK140.out 1; have hfz21_2 := bf BK140.out 2; have hfz21_3 := bf BK140.out 3) | ((with_reducible refine gate_callee (f := 106) rfl ?_); refine goesL_ (some 5) rfl rfl Try.func106 (by kernel_rfl) rfl #[.int .i64 a0_0, .int .i64 1, .int .i64 9] rfl M0 ?_; (with_reducible refine (impl_InRange.calls a0_0 1 9 true _ A2.out).mono ?_); rintro e w' ⟨rfl, ⟨nd, rfl⟩⟩; refine ⟨_, rfl, ?_⟩) | (go_at_call 106; (with_reducible refine (impl_InRange.calls a0_1 1 9 false _ A4.out).mono ?_); rintro e w' ⟨rfl, ⟨nd, rfl⟩⟩))
  go_ret
  exact ⟨by first | rfl | (simp [errW_none, errW_some] <;> rfl) | (simp [*, errW_none, errW_some] <;> rfl), by repeat (first | (with_reducible first | exact HB.out | apply bA | apply bN | apply b1 | refine bS ?_ GE140.out) | exact HB.out)⟩
 subst c5
 have H1 : (if a0_0 = a0_1 then (some false) else ((impl_InRange.f (l0_2.length : Int) 1 10).bind fun t143 => (if t143 = true then ((impl_isAscending.f k l0_2 1 999).bind fun t144 => (if t144 = true then ((impl_InRange.f a0_3 0 100000).bind fun t145 => (some t145)) else (some false))) else (some false)))) = some r := by rw [if_pos rfl] at H; exact H
 clear H
 have H := H1
 clear H1
 by_cases c6 : a0_0 = a0_1
 ·rw [if_pos c6] at H
  have c6b0 : (a0_0 == a0_1) = true := beq_iff_eq.mpr c6
  have c6b1 : (a0_0 != a0_1) = false := bne_eq_false_iff_eq.mpr c6
  clear c6
  obtain rfl := Option.some.inj H
  go_enter Try.func100, Try.ntmps100
  go_wp2_with (first | ((with_reducible refine gate_dst (N := 1) rfl ?_); (try (refine gate_guard (by rfl) ?_; dsimp only)); refine box_event ?hg (N := 1) ?hd (cs := #[.int .i64 a0_0, .int .i64 a0_1, .slice A0_2 l0_2.length c0_2, .int .i64 a0_3]) (t := 53) ?hr ?_; (case hd => rfl); (case hg => rfl); (case hr => first | (go_simp; done) | (go_simp; rfl)); intro gb140 hg w7 hbox hb; have n0_ := zK (bT (qB HB.out) hb); have n1_ := zK (hbox); have n2_ := zK ((by rw [hg]; exact (bZ (qB HB.out)) : w.heap.size ≤ gb140)); have n3_ := zK ((by rw [hg]; exact (bZ (qB HB.out)) : w.heap.size ≤ gb140)); clear HB; have HB := n0_; have BK140 := n1_; have GW140 := n2_; have GE140 := n3_; clear n0_ n1_ n2_ n3_; clear hb hbox hg; have hcz8_0 : w7.cell? ⟨gb140, 0, none⟩ = some (.int .i64 a0_0) := (bc BK140.out 0).trans rfl; have hcz8_1 : w7.cell? ⟨gb140, 1, none⟩ = some (.int .i64 a0_1) := (bc BK140.out 1).trans rfl; have hcz8_2 : w7.cell? ⟨gb140, 2, none⟩ = some (.slice A0_2 l0_2.length c0_2) := (bc BK140.out 2).trans rfl; have hcz8_3 : w7.cell? ⟨gb140, 3, none⟩ = some (.int .i64 a0_3) := (bc BK140.out 3).trans rfl; have hfz8_0 := bf BK140.out 0; have hfz8_1 := bf BK140.out 1; have hfz8_2 := bf BK140.out 2; have hfz8_3 := bf BK140.out 3) | ((with_reducible refine gate_callee (f := 106) rfl ?_); refine goesL_ (some 5) rfl rfl Try.func106 (by kernel_rfl) rfl #[.int .i64 a0_0, .int .i64 1, .int .i64 9] rfl M0 ?_; (with_reducible refine (impl_InRange.calls a0_0 1 9 true _ A2.out).mono ?_); rintro e w' ⟨rfl, ⟨nd, rfl⟩⟩; refine ⟨_, rfl, ?_⟩) | (go_at_call 106; (with_reducible refine (impl_InRange.calls a0_1 1 9 true _ A4.out).mono ?_); rintro e w' ⟨rfl, ⟨nd, rfl⟩⟩))
  go_ret
  exact ⟨by first | rfl | (simp [errW_none, errW_some] <;> rfl) | (simp [*, errW_none, errW_some] <;> rfl), by repeat (first | (with_reducible first | exact HB.out | apply bA | apply bN | apply b1 | refine bS ?_ GE140.out) | exact HB.out)⟩
 rw [if_neg c6] at H
 have c6b0 : (a0_0 == a0_1) = false := beq_eq_false_iff_ne.mpr c6
 have c6b1 : (a0_0 != a0_1) = true := bne_iff_ne.mpr c6
 replace H := Option.bind_eq_some_iff.mp H
 obtain ⟨t143, A90, H⟩ := H
 replace H : (if t143 = true then ((impl_isAscending.f k l0_2 1 999).bind fun t144 => (if t144 = true then ((impl_InRange.f a0_3 0 100000).bind fun t145 => (some t145)) else (some false))) else (some false)) = some r := H
 have A9 := zK A90
 clear A90
 by_cases c10 : t143 = true
 rotate_left
 ·replace c10 := Bool.eq_false_iff.mpr c10
  subst c10
  have H1 : (some false) = some r := by rw [if_neg (show ¬ (false = true) by decide)] at H; exact H
  clear H
  have H := H1
  clear H1
  obtain rfl := Option.some.inj H
  go_enter Try.func100, Try.ntmps100
  go_wp2_with (first | ((with_reducible refine gate_dst (N := 1) rfl ?_); (try (refine gate_guard (by rfl) ?_; dsimp only)); refine box_event ?hg (N := 1) ?hd (cs := #[.int .i64 a0_0, .int .i64 a0_1, .slice A0_2 l0_2.length c0_2, .int .i64 a0_3]) (t := 53) ?hr ?_; (case hd => rfl); (case hg => rfl); (case hr => first | (go_simp; done) | (go_simp; rfl)); intro gb140 hg w18 hbox hb; have n0_ := zK (bT (qB HB.out) hb); have n1_ := zK (hbox); have n2_ := zK ((by rw [hg]; exact (bZ (qB HB.out)) : w.heap.size ≤ gb140)); have n3_ := zK ((by rw [hg]; exact (bZ (qB HB.out)) : w.heap.size ≤ gb140)); clear HB; have HB := n0_; have BK140 := n1_; have GW140 := n2_; have GE140 := n3_; clear n0_ n1_ n2_ n3_; clear hb hbox hg; have hcz19_0 : w18.cell? ⟨gb140, 0, none⟩ = some (.int .i64 a0_0) := (bc BK140.out 0).trans rfl; have hcz19_1 : w18.cell? ⟨gb140, 1, none⟩ = some (.int .i64 a0_1) := (bc BK140.out 1).trans rfl; have hcz19_2 : w18.cell? ⟨gb140, 2, none⟩ = some (.slice A0_2 l0_2.length c0_2) := (bc BK140.out 2).trans rfl; have hcz19_3 : w18.cell? ⟨gb140, 3, none⟩ = some (.int .i64 a0_3) := (bc BK140.out 3).trans rfl; have hfz19_0 := bf BK140.out 0; have hfz19_1 := bf BK140.out 1; have hfz19_2 := bf BK140.out 2; have hfz19_3 := bf BK140.out 3) | ((with_reducible refine gate_callee (f := 106) rfl ?_); refine goesL_ (some 5) rfl rfl Try.func106 (by kernel_rfl) rfl #[.int .i64 a0_0, .int .i64 1, .int .i64 9] rfl M0 ?_; (with_reducible refine (impl_InRange.calls a0_0 1 9 true _ A2.out).mono ?_); rintro e w' ⟨rfl, ⟨nd, rfl⟩⟩; refine ⟨_, rfl, ?_⟩) | (go_at_call 106; (with_reducible refine (impl_InRange.calls a0_1 1 9 true _ A4.out).mono ?_); rintro e w' ⟨rfl, ⟨nd, rfl⟩⟩) | (go_at_call 106; (with_reducible refine (impl_InRange.calls (l0_2.length : Int) 1 10 false _ A9.out).mono ?_); rintro e w' ⟨rfl, ⟨nd, rfl⟩⟩))
  go_ret
  exact ⟨by first | rfl | (simp [errW_none, errW_some] <;> rfl) | (simp [*, errW_none, errW_some] <;> rfl), by repeat (first | (with_reducible first | exact HB.out | apply bA | apply bN | apply b1 | refine bS ?_ GE140.out) | exact HB.out)⟩
 subst c10
 have H1 : ((impl_isAscending.f k l0_2 1 999).bind fun t144 => (if t144 = true then ((impl_InRange.f a0_3 0 100000).bind fun t145 => (some t145)) else (some false))) = some r := by rw [if_pos rfl] at H; exact H
 clear H
 have H := H1
 clear H1
 replace H := Option.bind_eq_some_iff.mp H
 obtain ⟨t144, A110, H⟩ := H
 replace H : (if t144 = true then ((impl_InRange.f a0_3 0 100000).bind fun t145 => (some t145)) else (some false)) = some r := H
 have A11 := zK A110
 clear A110
 by_cases c12 : t144 = true
 rotate_left
 ·replace c12 := Bool.eq_false_iff.mpr c12
  subst c12
  have H1 : (some false) = some r := by rw [if_neg (show ¬ (false = true) by decide)] at H; exact H
  clear H
  have H := H1
  clear H1
  obtain rfl := Option.some.inj H
  go_enter Try.func100, Try.ntmps100
  go_wp2_with (first | ((with_reducible refine gate_dst (N := 1) rfl ?_); (try (refine gate_guard (by rfl) ?_; dsimp only)); refine box_event ?hg (N := 1) ?hd (cs := #[.int .i64 a0_0, .int .i64 a0_1, .slice A0_2 l0_2.length c0_2, .int .i64 a0_3]) (t := 53) ?hr ?_; (case hd => rfl); (case hg => rfl); (case hr => first | (go_simp; done) | (go_simp; rfl)); intro gb140 hg w16 hbox hb; have n0_ := zK (bT (qB HB.out) hb); have n1_ := zK (hbox); have n2_ := zK ((by rw [hg]; exact (bZ (qB HB.out)) : w.heap.size ≤ gb140)); have n3_ := zK ((by rw [hg]; exact (bZ (qB HB.out)) : w.heap.size ≤ gb140)); clear HB; have HB := n0_; have BK140 := n1_; have GW140 := n2_; have GE140 := n3_; clear n0_ n1_ n2_ n3_; clear hb hbox hg; have hcz17_0 : w16.cell? ⟨gb140, 0, none⟩ = some (.int .i64 a0_0) := (bc BK140.out 0).trans rfl; have hcz17_1 : w16.cell? ⟨gb140, 1, none⟩ = some (.int .i64 a0_1) := (bc BK140.out 1).trans rfl; have hcz17_2 : w16.cell? ⟨gb140, 2, none⟩ = some (.slice A0_2 l0_2.length c0_2) := (bc BK140.out 2).trans rfl; have hcz17_3 : w16.cell? ⟨gb140, 3, none⟩ = some (.int .i64 a0_3) := (bc BK140.out 3).trans rfl; have hfz17_0 := bf BK140.out 0; have hfz17_1 := bf BK140.out 1; have hfz17_2 := bf BK140.out 2; have hfz17_3 := bf BK140.out 3) | ((with_reducible refine gate_callee (f := 106) rfl ?_); refine goesL_ (some 5) rfl rfl Try.func106 (by kernel_rfl) rfl #[.int .i64 a0_0, .int .i64 1, .int .i64 9] rfl M0 ?_; (with_reducible refine (impl_InRange.calls a0_0 1 9 true _ A2.out).mono ?_); rintro e w' ⟨rfl, ⟨nd, rfl⟩⟩; refine ⟨_, rfl, ?_⟩) | (go_at_call 106; (with_reducible refine (impl_InRange.calls a0_1 1 9 true _ A4.out).mono ?_); rintro e w' ⟨rfl, ⟨nd, rfl⟩⟩) | (go_at_call 106; (with_reducible refine (impl_InRange.calls (l0_2.length : Int) 1 10 true _ A9.out).mono ?_); rintro e w' ⟨rfl, ⟨nd, rfl⟩⟩) | (go_at_call 141; (with_reducible refine (impl_isAscending.calls k _ _ l0_2 1 999 false _ ?side1 ?side2 A11.out).mono ?_); (case side1 => repeat (first | exact (Kd.C_below HR0_2.out (by repeat (first | (with_reducible first | exact HB.out | apply bA | apply bN | apply b1 | refine bS ?_ GE140.out) | exact HB.out))) | (with_reducible refine Kd.CA ?_ _) | (with_reducible refine Kd.CN ?_ _) | (with_reducible refine Kd.CD ?_))); (case side2 => exact HC0_2.out); rintro e w' ⟨rfl, ⟨nd, rfl⟩⟩))
  go_ret
  exact ⟨by first | rfl | (simp [errW_none, errW_some] <;> rfl) | (simp [*, errW_none, errW_some] <;> rfl), by repeat (first | (with_reducible first | exact HB.out | apply bA | apply bN | apply b1 | refine bS ?_ GE140.out) | exact HB.out)⟩
 subst c12
 have H1 : ((impl_InRange.f a0_3 0 100000).bind fun t145 => (some t145)) = some r := by rw [if_pos rfl] at H; exact H
 clear H
 have H := H1
 clear H1
 replace H := Option.bind_eq_some_iff.mp H
 obtain ⟨t145, A130, H⟩ := H
 replace H : (some t145) = some r := H
 have A13 := zK A130
 clear A130
 obtain rfl := Option.some.inj H
 go_enter Try.func100, Try.ntmps100
 go_wp2_with (first | ((with_reducible refine gate_dst (N := 1) rfl ?_); (try (refine gate_guard (by rfl) ?_; dsimp only)); refine box_event ?hg (N := 1) ?hd (cs := #[.int .i64 a0_0, .int .i64 a0_1, .slice A0_2 l0_2.length c0_2, .int .i64 a0_3]) (t := 53) ?hr ?_; (case hd => rfl); (case hg => rfl); (case hr => first | (go_simp; done) | (go_simp; rfl)); intro gb140 hg w14 hbox hb; have n0_ := zK (bT (qB HB.out) hb); have n1_ := zK (hbox); have n2_ := zK ((by rw [hg]; exact (bZ (qB HB.out)) : w.heap.size ≤ gb140)); have n3_ := zK ((by rw [hg]; exact (bZ (qB HB.out)) : w.heap.size ≤ gb140)); clear HB; have HB := n0_; have BK140 := n1_; have GW140 := n2_; have GE140 := n3_; clear n0_ n1_ n2_ n3_; clear hb hbox hg; have hcz15_0 : w14.cell? ⟨gb140, 0, none⟩ = some (.int .i64 a0_0) := (bc BK140.out 0).trans rfl; have hcz15_1 : w14.cell? ⟨gb140, 1, none⟩ = some (.int .i64 a0_1) := (bc BK140.out 1).trans rfl; have hcz15_2 : w14.cell? ⟨gb140, 2, none⟩ = some (.slice A0_2 l0_2.length c0_2) := (bc BK140.out 2).trans rfl; have hcz15_3 : w14.cell? ⟨gb140, 3, none⟩ = some (.int .i64 a0_3) := (bc BK140.out 3).trans rfl; have hfz15_0 := bf BK140.out 0; have hfz15_1 := bf BK140.out 1; have hfz15_2 := bf BK140.out 2; have hfz15_3 := bf BK140.out 3) | ((with_reducible refine gate_callee (f := 106) rfl ?_); refine goesL_ (some 5) rfl rfl Try.func106 (by kernel_rfl) rfl #[.int .i64 a0_0, .int .i64 1, .int .i64 9] rfl M0 ?_; (with_reducible refine (impl_InRange.calls a0_0 1 9 true _ A2.out).mono ?_); rintro e w' ⟨rfl, ⟨nd, rfl⟩⟩; refine ⟨_, rfl, ?_⟩) | (go_at_call 106; (with_reducible refine (impl_InRange.calls a0_1 1 9 true _ A4.out).mono ?_); rintro e w' ⟨rfl, ⟨nd, rfl⟩⟩) | (go_at_call 106; (with_reducible refine (impl_InRange.calls (l0_2.length : Int) 1 10 true _ A9.out).mono ?_); rintro e w' ⟨rfl, ⟨nd, rfl⟩⟩) | (go_at_call 141; (with_reducible refine (impl_isAscending.calls k _ _ l0_2 1 999 true _ ?side1 ?side2 A11.out).mono ?_); (case side1 => repeat (first | exact (Kd.C_below HR0_2.out (by repeat (first | (with_reducible first | exact HB.out | apply bA | apply bN | apply b1 | refine bS ?_ GE140.out) | exact HB.out))) | (with_reducible refine Kd.CA ?_ _) | (with_reducible refine Kd.CN ?_ _) | (with_reducible refine Kd.CD ?_))); (case side2 => exact HC0_2.out); rintro e w' ⟨rfl, ⟨nd, rfl⟩⟩) | (go_at_call 106; (with_reducible refine (impl_InRange.calls a0_3 0 100000 t145 _ A13.out).mono ?_); rintro e w' ⟨rfl, ⟨nd, rfl⟩⟩))
 go_ret
 exact ⟨by first | rfl | (simp [errW_none, errW_some] <;> rfl) | (simp [*, errW_none, errW_some] <;> rfl), by repeat (first | (with_reducible first | exact HB.out | apply bA | apply bN | apply b1 | refine bS ?_ GE140.out) | exact HB.out)⟩
/-! ### impl_Hand: function 101 -/
def impl_Hand.f (l0 : List (S138)) : Option ((List (S138))) := (some (([] : List (S138)) : List (S138))).bind fun y146 => (if y146.length + l0.length < 3518437208883 then (some (y146 ++ l0)) else (none))
set_option maxHeartbeats 8000000 in
set_option maxRecDepth 100000 in
theorem impl_Hand.calls_some (ad0 : Addr) (c0 : Nat) (l0 : List (S138)) (r : List (S138)) (w : World) (hr0 : Kd.C k138 w (some ad0) l0.length l0) (hc0 : l0.length ≤ c0) (h : impl_Hand.f l0 = some r) :
  Calls Try.prog 101 #[.slice (some ad0) l0.length c0] w fun e w' => ∃ v0_ : Value, e = .returned (v0_) ∧ Kd.R k138 138 w' w.heap.size (fun _ => True) v0_ r ∧ Below w.heap.size w w' := by
 have HR0 := zK hr0
 have HC0 := zK hc0
 clear hr0 hc0
 have HB := zK (Below.refl w.heap.size w)
 have H : ((some (([] : List (S138)) : List (S138))).bind fun y146 => (if y146.length + l0.length < 3518437208883 then (some (y146 ++ l0)) else (none))) = some r := h
 clear h
 obtain ⟨y146, hy146⟩ : ∃ y_ : List (S138), y_ = (([] : List (S138))) := ⟨_, rfl⟩
 replace H : (if y146.length + l0.length < 3518437208883 then (some (y146 ++ l0)) else (none)) = some r := by first | (rw [hy146]; with_reducible exact H) | (have H2_ := (Option.bind_some _ _).symm.trans H; rw [hy146]; with_reducible exact H2_) | (have H2_ := (Option.bind_some _ _).symm.trans H; with_reducible exact H2_) | with_reducible exact H | (rw [hy146]; exact H) | exact H
 have Ny146 := zK hy146
 clear hy146
 by_cases c2 : y146.length + l0.length < 3518437208883
 rotate_left
 ·rw [if_neg c2] at H
  exact absurd H (by simp)
 rw [if_pos c2] at H
 have LMc2 := zK c2
 clear c2
 obtain ⟨y149, hy149⟩ : ∃ y_ : List (S138), y_ = (y146 ++ l0) := ⟨_, rfl⟩
 replace H : (some y149) = some r := by first | (rw [hy149]; with_reducible exact H) | (have H2_ := (Option.bind_some _ _).symm.trans H; rw [hy149]; with_reducible exact H2_) | (have H2_ := (Option.bind_some _ _).symm.trans H; with_reducible exact H2_) | with_reducible exact H | (rw [hy149]; exact H) | exact H
 have Ny149 := zK hy149
 clear hy149
 obtain rfl := Option.some.inj H
 have hnil := fun (w_ : World) (c_ : Nat) => Go.Lib.run_eql_slice_nil (P := Try.prog) w_ 51 138 (some ad0) l0.length c_ 0 0 Try.underlying51
 go_enter Try.func101, Try.ntmps101
 go_wp2_with (first | ((with_reducible refine gate_dst (N := 5) rfl ?_); refine Kd.R_lit k138 _ 138 ?hg (N := 5) ?hd (xs := ([] : List (S138))) (inner := []) (ok := fun _ => True) (okp := fun _ => True) ?hr ?hp (fun _ hk => hk) trivial (Below.refl _ _) (Nat.le_refl _) (by simp) ?_; (case hd => rfl); (case hg => rfl); (case hr => first | (go_simp; done) | (go_simp; rfl)); (case hp => exact (Reps.none _ _)); intro v147 w3 ho4 hb hg_ hnew_; clear hg_ hnew_; (first | rw [← Ny146.out] at ho4 | (simp only [Int.reduceToNat] at ho4; rw [← Ny146.out] at ho4)); have n0_ := zK (Kd.R_lower ho4 (bZ (qB HB.out))); have n1_ := zK (bT (qB HB.out) hb); clear HB; have HO148 := n0_; have HB := n1_; clear n0_ n1_; clear hb ho4) | ((with_reducible refine gate_builtin (b := .append) (xs := #[.tmp 5, .tmp 6]) rfl ?_); at_builtin; refine Kd.R_append_rows k138 (w0 := w) w.heap.size rfl (.tmp 5) (.tmp 6) 51 138 (.agg #[(.int .i64 0), (.int .i64 0), (.int .i64 0), (.int .i64 0), (.int .i64 0)]) 40 rfl Try.underlying51 info138 rfl (by decide) (by omega) v147 y146 l0 _ _ _ (fun _ => True) (fun _ => False) rfl rfl ?aO ?aR (fun _ _ h => h) (fun _ h => h.elim) ?aF ?aB ?aS ?aL ?_; (case aR => exact Kd.qC (Kd.C_below HR0.out HB.out)); (case aB => exact (qB HB.out)); (case aF => exact (fun _ _ => trivial)); (case aO => exact (Kd.qR HO148.out)); (case aS => exact (bZ (qB HB.out))); (case aL => have := LMc2.out; omega); intro v150 w5 ho hb hg hat; rw [← Ny149.out] at ho; have n0_ := zK (hb); have n1_ := zK (ho); clear HB HO148; have HB := n0_; have HO151 := n1_; clear n0_ n1_; clear ho hb hg hat))
 go_ret
 exact ⟨_, by first | rfl | (simp [errW_none, errW_some] <;> rfl) | (simp [*, errW_none, errW_some] <;> rfl), by exact Kd.qR HO151.out, by exact qB HB.out⟩
theorem impl_Hand.calls (A0 : Option Addr) (c0 : Nat) (l0 : List (S138)) (r : List (S138)) (w : World) (hr0 : Kd.C k138 w A0 l0.length l0) (hc0 : l0.length ≤ c0) (h : impl_Hand.f l0 = some r) :
  Calls Try.prog 101 #[.slice A0 l0.length c0] w fun e w' => ∃ v0_ : Value, e = .returned (v0_) ∧ Kd.R k138 138 w' w.heap.size (fun _ => True) v0_ r ∧ Below w.heap.size w w' := by
 cases A0 with
 | some ad0 => exact impl_Hand.calls_some ad0 c0 l0 r w hr0 hc0 h
 | none =>
  have e0 : l0 = [] := by
   by_cases hp : 0 < l0.length
   ·obtain ⟨ad, he, _⟩ := hr0.2.2 hp
    cases he
   exact List.eq_nil_of_length_eq_zero (by omega)
  subst e0
  have er : r = [] := by
   unfold impl_Hand.f at h
   simpa using h.symm
  subst er
  have hnil := fun (w_ : World) (c_ : Nat) => Go.Lib.run_eql_slice_nil (P := Try.prog) w_ 51 138 none 0 c_ 0 0 Try.underlying51
  go_enter Try.func101, Try.ntmps101
  go_wp2
  go_ret
  exact ⟨_, rfl, Kd.R_nil _ _ _ _ _, Below.refl _ _⟩

end Go.Proofs.Ytejhjenlodclpaa.PFnExactSendAll
