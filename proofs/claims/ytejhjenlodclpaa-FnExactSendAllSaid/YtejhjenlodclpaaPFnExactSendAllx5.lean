/- Walks of functions that FnExactSendAll reaches: written by a tool of the kit for this claim, then shortened by a program of ours. -/
import Derived.Test.YtejhjenlodclpaaPFnExactSendAllx0
import Derived.Test.YtejhjenlodclpaaPFnExactSendAllx3
import Derived.Test.YtejhjenlodclpaaPFnExactSendAllx4
/- narrow -/
namespace Go.Proofs.Ytejhjenlodclpaa.PFnExactSendAll
open Go.RowKit Go.Proofs.YtejhjenlodclpaaW.PrintWords Go.Proofs.YtejhjenlodclpaaW.PrintLast Go.Proofs.YtejhjenlodclpaaW.PrintMore
attribute [local go_sem] max2_int min2_int max_two min_two max_three min_three max_four min_four   -- for this text's walks alone
set_option linter.unusedVariables false
set_option linter.unusedSimpArgs false

/-! ### impl_SendParcel: function 32 -/
def impl_SendParcel.l0 : Nat → List (S138) → List Int → List (S138) → List Int → Int → Int → Int → Int → List Int → Int → Option ((List (S138)) × Bool)
 | 0, _, _, _, _, _, _, _, _, _, _ => none
 | k + 1, x0, x6, x7, x23, x24, x25, x171000, x171001, x171002, x171003 => if x25 < x24 then (if 0 ≤ x25 then (if x25 < (x23.length : Int) then ((impl_AddHand.f k x7 (rd x23 x25) 2 x171001 x171003 0).bind fun bt182 => (if bt182.2 = true then ((slices_Contains_int_int.f k x6 (rd x23 x25)).bind fun t186 => (if t186 = true then (impl_SendParcel.l0 k x0 x6 bt182.1 x23 x24 (wrap64 (x25 + 1)) x171000 x171001 x171002 x171003) else ((impl_Hand.f x0).bind fun t187 => (some (t187, false))))) else ((impl_Hand.f x0).bind fun t190 => (some (t190, false))))) else (none)) else (none)) else (some (x7, true))
def impl_SendParcel.f (k : Nat) (l0 : List (S138)) (a1_0 : Int) (a1_1 : Int) (l1_2 : List Int) (a1_3 : Int) : Option ((List (S138)) × Bool) := (impl_IsParcel.f k a1_0 a1_1 l1_2 a1_3).bind fun t171 => (if t171 = true then ((impl_InHouse.f k l0 a1_0).bind fun t175 => ((impl_Hand.f l0).bind fun t178 => (impl_SendParcel.l0 k l0 t175 t178 l1_2 (l1_2.length : Int) 0 a1_0 a1_1 l1_2 a1_3))) else ((impl_Hand.f l0).bind fun t172 => (some (t172, false))))
set_option maxHeartbeats 8000000 in
set_option maxRecDepth 100000 in
theorem impl_SendParcel.calls (k : Nat) (A0 : Option Addr) (c0 : Nat) (l0 : List (S138)) (a1_0 : Int) (a1_1 : Int) (A1_2 : Option Addr) (c1_2 : Nat) (l1_2 : List Int) (a1_3 : Int) (r1 : List (S138)) (r2 : Bool) (w : World) (hr0 : Kd.C k138 w A0 l0.length l0) (hc0 : l0.length ≤ c0) (hr1_2 : Kd.C (Kd.int .i64) w A1_2 l1_2.length l1_2) (hc1_2 : l1_2.length ≤ c1_2) (h : impl_SendParcel.f k l0 a1_0 a1_1 l1_2 a1_3 = some (r1, r2)) :
  Calls Try.prog 32 #[.slice A0 l0.length c0, .agg #[.int .i64 a1_0, .int .i64 a1_1, .slice A1_2 l1_2.length c1_2, .int .i64 a1_3]] w fun e w' => ∃ v0_ : Value, e = .returned (.tuple #[v0_, .bool r2]) ∧ Kd.R k138 138 w' w.heap.size (fun _ => True) v0_ r1 ∧ Below w.heap.size w w' := by
 have hu53 := Try.underlying53
 have hu138 := Try.underlying138
 have HR0 := zK hr0
 have HC0 := zK hc0
 clear hr0 hc0
 have HR1_2 := zK hr1_2
 have HC1_2 := zK hc1_2
 clear hr1_2 hc1_2
 have HB := zK (Below.refl w.heap.size w)
 have H : ((impl_IsParcel.f k a1_0 a1_1 l1_2 a1_3).bind fun t171 => (if t171 = true then ((impl_InHouse.f k l0 a1_0).bind fun t175 => ((impl_Hand.f l0).bind fun t178 => (impl_SendParcel.l0 k l0 t175 t178 l1_2 (l1_2.length : Int) 0 a1_0 a1_1 l1_2 a1_3))) else ((impl_Hand.f l0).bind fun t172 => (some (t172, false))))) = some (r1, r2) := h
 clear h
 replace H := Option.bind_eq_some_iff.mp H
 obtain ⟨t171, A30, H⟩ := H
 replace H : (if t171 = true then ((impl_InHouse.f k l0 a1_0).bind fun t175 => ((impl_Hand.f l0).bind fun t178 => (impl_SendParcel.l0 k l0 t175 t178 l1_2 (l1_2.length : Int) 0 a1_0 a1_1 l1_2 a1_3))) else ((impl_Hand.f l0).bind fun t172 => (some (t172, false)))) = some (r1, r2) := H
 have A3 := zK A30
 clear A30
 by_cases c4 : t171 = true
 rotate_left
 ·replace c4 := Bool.eq_false_iff.mpr c4
  subst c4
  have H1 : ((impl_Hand.f l0).bind fun t172 => (some (t172, false))) = some (r1, r2) := by rw [if_neg (show ¬ (false = true) by decide)] at H; exact H
  clear H
  have H := H1
  clear H1
  replace H := Option.bind_eq_some_iff.mp H
  obtain ⟨t172, A360, H⟩ := H
  replace H : (some (t172, false)) = some (r1, r2) := H
  have A36 := zK A360
  clear A360
  simp only [Option.some.injEq, Prod.mk.injEq] at H
  obtain ⟨rfl, rfl⟩ := H
  go_enter Try.func32, Try.ntmps32
  go_wp2_with (first | ((with_reducible refine gate_dst (N := 3) rfl ?_); refine box_event ?hg (N := 3) ?hd (cs := #[.int .i64 a1_0, .int .i64 a1_1, .slice A1_2 l1_2.length c1_2, .int .i64 a1_3]) (t := 53) ?hr ?_; (case hd => rfl); (case hg => rfl); (case hr => first | (go_simp; done) | (go_simp; rfl)); intro gb170 hg w37 hbox hb; have n0_ := zK (bT (qB HB.out) hb); have n1_ := zK (hbox); have n2_ := zK ((by rw [hg]; exact (bZ (qB HB.out)) : w.heap.size ≤ gb170)); have n3_ := zK ((by rw [hg]; exact (bZ (qB HB.out)) : w.heap.size ≤ gb170)); clear HB; have HB := n0_; have BK170 := n1_; have GW170 := n2_; have GE170 := n3_; clear n0_ n1_ n2_ n3_; clear hb hbox hg; have hcz38_0 : w37.cell? ⟨gb170, 0, none⟩ = some (.int .i64 a1_0) := (bc BK170.out 0).trans rfl; have hcz38_1 : w37.cell? ⟨gb170, 1, none⟩ = some (.int .i64 a1_1) := (bc BK170.out 1).trans rfl; have hcz38_2 : w37.cell? ⟨gb170, 2, none⟩ = some (.slice A1_2 l1_2.length c1_2) := (bc BK170.out 2).trans rfl; have hcz38_3 : w37.cell? ⟨gb170, 3, none⟩ = some (.int .i64 a1_3) := (bc BK170.out 3).trans rfl; have hfz38_0 := bf BK170.out 0; have hfz38_1 := bf BK170.out 1; have hfz38_2 := bf BK170.out 2; have hfz38_3 := bf BK170.out 3) | ((with_reducible refine gate_callee (f := 100) rfl ?_); refine goesL_ (some 12) rfl rfl Try.func100 (by kernel_rfl) rfl #[.agg #[.int .i64 a1_0, .int .i64 a1_1, .slice A1_2 l1_2.length c1_2, .int .i64 a1_3]] rfl M0 ?_; (with_reducible refine (impl_IsParcel.calls k a1_0 a1_1 _ _ l1_2 a1_3 false _ ?side1 ?side2 A3.out).mono ?_); (case side1 => exact Kd.qC (Kd.C_below HR1_2.out HB.out)); (case side2 => exact HC1_2.out); rintro e w39 ⟨rfl, hb⟩; refine ⟨_, rfl, ?_⟩; have n0_ := zK (bB (g := gb170) (o := .cells #[.int .i64 a1_0, .int .i64 a1_1, .slice A1_2 l1_2.length c1_2, .int .i64 a1_3] 53 (0, 0)) (qK BK170.out) hb); have n1_ := zK (bT M7 hb); clear BK170 HB; have BK170 := n0_; have HB := n1_; clear n0_ n1_; (try clear hb); (try clear hb2); (try clear hk); (try clear hi)) | ((with_reducible refine gate_callee (f := 101) rfl ?_); refine goesL_ (some 15) rfl rfl Try.func101 (by kernel_rfl) rfl #[.slice A0 l0.length c0] rfl M0 ?_; (with_reducible refine (impl_Hand.calls _ _ l0 t172 _ ?side1 ?side2 A36.out).mono ?_); (case side1 => exact Kd.qC (Kd.C_below HR0.out HB.out)); (case side2 => exact HC0.out); rintro e w40 ⟨v173, rfl, ho0, hb⟩; refine ⟨_, rfl, ?_⟩; have n0_ := zK (Kd.R_lower ho0 (bZ M7)); have n1_ := zK (bB (g := gb170) (o := .cells #[.int .i64 a1_0, .int .i64 a1_1, .slice A1_2 l1_2.length c1_2, .int .i64 a1_3] 53 (0, 0)) (qK BK170.out) hb); have n2_ := zK (bT M7 hb); clear BK170 HB; have HO174 := n0_; have BK170 := n1_; have HB := n2_; clear n0_ n1_ n2_; (try clear hb); (try clear hb2); (try clear hk); (try clear hi); (try clear ho0)))
  go_ret2
  exact ⟨_, by first | rfl | (simp [errW_none, errW_some] <;> rfl) | (simp [*, errW_none, errW_some] <;> rfl), by exact Kd.qR HO174.out, by repeat (first | (with_reducible first | exact HB.out | apply bA | apply bN | apply b1 | refine bS ?_ GE170.out) | exact HB.out)⟩
 subst c4
 have H1 : ((impl_InHouse.f k l0 a1_0).bind fun t175 => ((impl_Hand.f l0).bind fun t178 => (impl_SendParcel.l0 k l0 t175 t178 l1_2 (l1_2.length : Int) 0 a1_0 a1_1 l1_2 a1_3))) = some (r1, r2) := by rw [if_pos rfl] at H; exact H
 clear H
 have H := H1
 clear H1
 replace H := Option.bind_eq_some_iff.mp H
 obtain ⟨t175, A50, H⟩ := H
 replace H : ((impl_Hand.f l0).bind fun t178 => (impl_SendParcel.l0 k l0 t175 t178 l1_2 (l1_2.length : Int) 0 a1_0 a1_1 l1_2 a1_3)) = some (r1, r2) := H
 have A5 := zK A50
 clear A50
 replace H := Option.bind_eq_some_iff.mp H
 obtain ⟨t178, A60, H⟩ := H
 replace H : (impl_SendParcel.l0 k l0 t175 t178 l1_2 (l1_2.length : Int) 0 a1_0 a1_1 l1_2 a1_3) = some (r1, r2) := H
 have A6 := zK A60
 clear A60
 have H' := zK H
 clear H
 go_enter Try.func32, Try.ntmps32
 go_wp2_with (first | ((with_reducible refine gate_dst (N := 3) rfl ?_); refine box_event ?hg (N := 3) ?hd (cs := #[.int .i64 a1_0, .int .i64 a1_1, .slice A1_2 l1_2.length c1_2, .int .i64 a1_3]) (t := 53) ?hr ?_; (case hd => rfl); (case hg => rfl); (case hr => first | (go_simp; done) | (go_simp; rfl)); intro gb170 hg w7 hbox hb; have n0_ := zK (bT (qB HB.out) hb); have n1_ := zK (hbox); have n2_ := zK ((by rw [hg]; exact (bZ (qB HB.out)) : w.heap.size ≤ gb170)); have n3_ := zK ((by rw [hg]; exact (bZ (qB HB.out)) : w.heap.size ≤ gb170)); clear HB; have HB := n0_; have BK170 := n1_; have GW170 := n2_; have GE170 := n3_; clear n0_ n1_ n2_ n3_; clear hb hbox hg; have hcz8_0 : w7.cell? ⟨gb170, 0, none⟩ = some (.int .i64 a1_0) := (bc BK170.out 0).trans rfl; have hcz8_1 : w7.cell? ⟨gb170, 1, none⟩ = some (.int .i64 a1_1) := (bc BK170.out 1).trans rfl; have hcz8_2 : w7.cell? ⟨gb170, 2, none⟩ = some (.slice A1_2 l1_2.length c1_2) := (bc BK170.out 2).trans rfl; have hcz8_3 : w7.cell? ⟨gb170, 3, none⟩ = some (.int .i64 a1_3) := (bc BK170.out 3).trans rfl; have hfz8_0 := bf BK170.out 0; have hfz8_1 := bf BK170.out 1; have hfz8_2 := bf BK170.out 2; have hfz8_3 := bf BK170.out 3) | ((with_reducible refine gate_callee (f := 100) rfl ?_); refine goesL_ (some 12) rfl rfl Try.func100 (by kernel_rfl) rfl #[.agg #[.int .i64 a1_0, .int .i64 a1_1, .slice A1_2 l1_2.length c1_2, .int .i64 a1_3]] rfl M0 ?_; (with_reducible refine (impl_IsParcel.calls k a1_0 a1_1 _ _ l1_2 a1_3 true _ ?side1 ?side2 A3.out).mono ?_); (case side1 => exact Kd.qC (Kd.C_below HR1_2.out HB.out)); (case side2 => exact HC1_2.out); rintro e w9 ⟨rfl, hb⟩; refine ⟨_, rfl, ?_⟩; have n0_ := zK (bB (g := gb170) (o := .cells #[.int .i64 a1_0, .int .i64 a1_1, .slice A1_2 l1_2.length c1_2, .int .i64 a1_3] 53 (0, 0)) (qK BK170.out) hb); have n1_ := zK (bT M7 hb); clear BK170 HB; have BK170 := n0_; have HB := n1_; clear n0_ n1_; (try clear hb); (try clear hb2); (try clear hk); (try clear hi); have hcz10_0 : w9.cell? ⟨gb170, 0, none⟩ = some (.int .i64 a1_0) := (bc BK170.out 0).trans rfl; have hcz10_1 : w9.cell? ⟨gb170, 1, none⟩ = some (.int .i64 a1_1) := (bc BK170.out 1).trans rfl; have hcz10_2 : w9.cell? ⟨gb170, 2, none⟩ = some (.slice A1_2 l1_2.length c1_2) := (bc BK170.out 2).trans rfl; have hcz10_3 : w9.cell? ⟨gb170, 3, none⟩ = some (.int .i64 a1_3) := (bc BK170.out 3).trans rfl; have hfz10_0 := bf BK170.out 0; have hfz10_1 := bf BK170.out 1; have hfz10_2 := bf BK170.out 2; have hfz10_3 := bf BK170.out 3) | ((with_reducible refine gate_callee (f := 33) rfl ?_); refine goesL_ (some 19) rfl rfl Try.func33 (by kernel_rfl) rfl #[.slice A0 l0.length c0, .int .i64 a1_0] rfl M0 ?_; (with_reducible refine (impl_InHouse.calls k _ _ l0 a1_0 t175 _ ?side1 ?side2 A5.out).mono ?_); (case side1 => exact Kd.qC (Kd.C_below HR0.out HB.out)); (case side2 => exact HC0.out); rintro e w11 ⟨v176, rfl, ho0, hb⟩; refine ⟨_, rfl, ?_⟩; have n0_ := zK (Kd.R_lower ho0 (bZ M7)); have n1_ := zK (bB (g := gb170) (o := .cells #[.int .i64 a1_0, .int .i64 a1_1, .slice A1_2 l1_2.length c1_2, .int .i64 a1_3] 53 (0, 0)) (qK BK170.out) hb); have n2_ := zK (bT M7 hb); clear BK170 HB; have HO177 := n0_; have BK170 := n1_; have HB := n2_; clear n0_ n1_ n2_; (try clear hb); (try clear hb2); (try clear hk); (try clear hi); (try clear ho0)) | ((with_reducible refine gate_callee (f := 101) rfl ?_); refine goesL_ (some 21) rfl rfl Try.func101 (by kernel_rfl) rfl #[.slice A0 l0.length c0] rfl M0 ?_; (with_reducible refine (impl_Hand.calls _ _ l0 t178 _ ?side1 ?side2 A6.out).mono ?_); (case side1 => exact Kd.qC (Kd.C_below HR0.out HB.out)); (case side2 => exact HC0.out); rintro e w12 ⟨v179, rfl, ho0, hb⟩; refine ⟨_, rfl, ?_⟩; have n0_ := zK (Kd.R_below (Kd.qR HO177.out) hb); have n1_ := zK (Kd.R_lower ho0 (bZ M7)); have n2_ := zK (bB (g := gb170) (o := .cells #[.int .i64 a1_0, .int .i64 a1_1, .slice A1_2 l1_2.length c1_2, .int .i64 a1_3] 53 (0, 0)) (qK BK170.out) hb); have n3_ := zK (bT M7 hb); clear HO177 BK170 HB; have HO177 := n0_; have HO180 := n1_; have BK170 := n2_; have HB := n3_; clear n0_ n1_ n2_ n3_; (try clear hb); (try clear hb2); (try clear hk); (try clear hi); (try clear ho0); have hcz13_0 : w12.cell? ⟨gb170, 0, none⟩ = some (.int .i64 a1_0) := (bc BK170.out 0).trans rfl; have hcz13_1 : w12.cell? ⟨gb170, 1, none⟩ = some (.int .i64 a1_1) := (bc BK170.out 1).trans rfl; have hcz13_2 : w12.cell? ⟨gb170, 2, none⟩ = some (.slice A1_2 l1_2.length c1_2) := (bc BK170.out 2).trans rfl; have hcz13_3 : w12.cell? ⟨gb170, 3, none⟩ = some (.int .i64 a1_3) := (bc BK170.out 3).trans rfl; have hfz13_0 := bf BK170.out 0; have hfz13_1 := bf BK170.out 1; have hfz13_2 := bf BK170.out 2; have hfz13_3 := bf BK170.out 3))
 go_loopg [7, 25] k (fun kq v7 v25 w' => ∃ (x7_1 : List (S138)) (x25_1 : Int), v25 = .int .i64 x25_1 ∧ Aside0 (impl_SendParcel.l0 kq l0 t175 x7_1 l1_2 (l1_2.length : Int) x25_1 a1_0 a1_1 l1_2 a1_3 = some (r1, r2)) ∧ Aside0 (kq ≤ k) ∧ Aside0 (Kd.R (Kd.int .i64) 3 w' w.heap.size (fun _ => True) v176 t175) ∧ Aside0 (Kd.R k138 138 w' w.heap.size (fun _ => True) v7 x7_1) ∧ Aside0 (w'.heap[gb170]? = some (.cells #[.int .i64 a1_0, .int .i64 a1_1, (.slice A1_2 l1_2.length c1_2), .int .i64 a1_3] 53 (0, 0))) ∧ Aside0 (Below w.heap.size w w'))
 case atStart => exact ⟨(t178), (0), M3, H', ⟨Nat.le_refl _⟩, ⟨by exact Kd.qR HO177.out⟩, ⟨by exact Kd.qR HO180.out⟩, ⟨by exact qK BK170.out⟩, ⟨by repeat (first | (with_reducible first | exact HB.out | apply bA | apply bN | apply b1 | refine bS ?_ GE170.out) | exact HB.out)⟩⟩
 case round =>
  clear H'
  try clear c1
  try clear p2
  try clear c3
  try clear c4
  try clear c10
  try clear hcz10_0
  try clear hcz10_1
  try clear hcz10_2
  try clear hcz10_3
  try clear hcz13_0
  try clear hcz13_1
  try clear hcz13_2
  try clear hcz13_3
  try clear hcz8_0
  try clear hcz8_1
  try clear hcz8_2
  try clear hcz8_3
  try clear hfz10_0
  try clear hfz10_1
  try clear hfz10_2
  try clear hfz10_3
  try clear hfz13_0
  try clear hfz13_1
  try clear hfz13_2
  try clear hfz13_3
  try clear hfz8_0
  try clear hfz8_1
  try clear hfz8_2
  try clear hfz8_3
  obtain ⟨x7_1, x25_1, rfl, HA, HK1, HO_6, HO_7, BK170, HB⟩ := hrel
  cases gk with
  | zero => exact absurd HA.out (by simp [impl_SendParcel.l0])
  | succ k1 =>
   have H := HA.out
   clear HA
   simp only [impl_SendParcel.l0] at H
   by_cases c14 : x25_1 < (l1_2.length : Int)
   rotate_left
   ·rw [if_neg c14] at H
    have c14b0 : decide (x25_1 < (l1_2.length : Int)) = false := decide_eq_false c14
    clear c14
    simp only [Option.some.injEq, Prod.mk.injEq] at H
    obtain ⟨rfl, rfl⟩ := H
    go_wp2
    go_ret2
    exact ⟨_, by first | rfl | (simp [errW_none, errW_some] <;> rfl) | (simp [*, errW_none, errW_some] <;> rfl), by exact Kd.qR HO_7.out, by repeat (first | (with_reducible first | exact HB.out | apply bA | apply bN | apply b1 | refine bS ?_ GE170.out) | exact HB.out)⟩
   rw [if_pos c14] at H
   have c14b0 : decide (x25_1 < (l1_2.length : Int)) = true := decide_eq_true c14
   clear c14
   by_cases c15 : 0 ≤ x25_1
   rotate_left
   ·rw [if_neg c15] at H
    exact absurd H (by simp)
   rw [if_pos c15] at H
   have c15b0 : decide (0 ≤ x25_1) = true := decide_eq_true c15
   clear c15
   by_cases c16 : x25_1 < (l1_2.length : Int)
   rotate_left
   ·rw [if_neg c16] at H
    exact absurd H (by simp)
   rw [if_pos c16] at H
   have c16b0 : decide (x25_1 < (l1_2.length : Int)) = true := decide_eq_true c16
   clear c16
   replace H := Option.bind_eq_some_iff.mp H
   obtain ⟨⟨t182, t185⟩, A170, H⟩ := H
   replace H : (if t185 = true then ((slices_Contains_int_int.f k1 t175 (rd l1_2 x25_1)).bind fun t186 => (if t186 = true then (impl_SendParcel.l0 k1 l0 t175 t182 l1_2 (l1_2.length : Int) (wrap64 (x25_1 + 1)) a1_0 a1_1 l1_2 a1_3) else ((impl_Hand.f l0).bind fun t187 => (some (t187, false))))) else ((impl_Hand.f l0).bind fun t190 => (some (t190, false)))) = some (r1, r2) := H
   have A17 := zK A170
   clear A170
   by_cases c18 : t185 = true
   rotate_left
   ·replace c18 := Bool.eq_false_iff.mpr c18
    subst c18
    have H1 : ((impl_Hand.f l0).bind fun t190 => (some (t190, false))) = some (r1, r2) := by rw [if_neg (show ¬ (false = true) by decide)] at H; exact H
    clear H
    have H := H1
    clear H1
    replace H := Option.bind_eq_some_iff.mp H
    obtain ⟨t190, A310, H⟩ := H
    replace H : (some (t190, false)) = some (r1, r2) := H
    have A31 := zK A310
    clear A310
    simp only [Option.some.injEq, Prod.mk.injEq] at H
    obtain ⟨rfl, rfl⟩ := H
    have p181 : 0 ≤ (x25_1 : Int) := oD M1
    have q181 : x25_1 < (l1_2.length : Int) := oD M1
    obtain ⟨ad181, e181, hx181_0⟩ := Kd.at_int HR1_2.out x25_1 p181 q181
    cases e181
    replace hx181_0 := (HB.out.cell (bL w hx181_0)).trans hx181_0
    replace p181 := eq_true p181
    replace q181 := eq_true q181
    have hcz32_0 : wr.cell? ⟨gb170, 0, none⟩ = some (.int .i64 a1_0) := (bc BK170.out 0).trans rfl
    have hcz32_1 : wr.cell? ⟨gb170, 1, none⟩ = some (.int .i64 a1_1) := (bc BK170.out 1).trans rfl
    have hcz32_2 : wr.cell? ⟨gb170, 2, none⟩ = some (.slice (some ad181) l1_2.length c1_2) := (bc BK170.out 2).trans rfl
    have hcz32_3 : wr.cell? ⟨gb170, 3, none⟩ = some (.int .i64 a1_3) := (bc BK170.out 3).trans rfl
    have hfz32_0 := bf BK170.out 0
    have hfz32_1 := bf BK170.out 1
    have hfz32_2 := bf BK170.out 2
    have hfz32_3 := bf BK170.out 3
    obtain ⟨Ao33, co33, eo33⟩ := Kd.R_slice HO_7.out
    subst eo33
    go_wp2_with (first | ((with_reducible refine gate_callee (f := 102) rfl ?_); refine goesL_ (some 37) rfl rfl Try.func102 (by kernel_rfl) rfl #[.slice Ao33 x7_1.length co33, .agg #[.int .i64 (rd l1_2 x25_1), .int .i64 2, .int .i64 a1_1, .int .i64 a1_3, .int .i64 0]] rfl M0 ?_; (with_reducible refine (impl_AddHand.calls k1 _ _ x7_1 (rd l1_2 x25_1) 2 a1_1 a1_3 0 t182 false _ ?side1 ?side2 A17.out).mono ?_); (case side1 => exact Kd.qC (Kd.R_reads' HO_7.out).2.2); (case side2 => exact (Kd.R_reads' HO_7.out).2.1); rintro e w34 ⟨v183, rfl, ho0, hb⟩; refine ⟨_, rfl, ?_⟩; have n0_ := zK (Kd.R_below (Kd.qR HO_6.out) hb); have n1_ := zK (Kd.R_elder' (Kd.qR HO_7.out) (Kd.R_base ho0) hb); have n2_ := zK (Kd.R_lower (Kd.R_new' ho0 (Kd.R_lt (Kd.qR HO_7.out))) (bZ M7)); have n3_ := zK (bB (g := gb170) (o := .cells #[.int .i64 a1_0, .int .i64 a1_1, .slice (some ad181) l1_2.length c1_2, .int .i64 a1_3] 53 (0, 0)) (qK BK170.out) hb); have n4_ := zK (bT M7 hb); clear HO_6 HO_7 BK170 HB; have HO_6 := n0_; have HO_7 := n1_; have HO184 := n2_; have BK170 := n3_; have HB := n4_; clear n0_ n1_ n2_ n3_ n4_; (try clear hb); (try clear hb2); (try clear hk); (try clear hi); (try clear ho0)) | ((with_reducible refine gate_callee (f := 101) rfl ?_); refine goesL_ (some 49) rfl rfl Try.func101 (by kernel_rfl) rfl #[.slice A0 l0.length c0] rfl M0 ?_; (with_reducible refine (impl_Hand.calls _ _ l0 t190 _ ?side1 ?side2 A31.out).mono ?_); (case side1 => exact Kd.qC (Kd.C_below HR0.out HB.out)); (case side2 => exact HC0.out); rintro e w35 ⟨v191, rfl, ho0, hb⟩; refine ⟨_, rfl, ?_⟩; have n0_ := zK (Kd.R_below (Kd.qR HO_6.out) hb); have n1_ := zK (Kd.R_elder' (Kd.qR HO_7.out) (Kd.R_base ho0) hb); have n2_ := zK (Kd.R_elder' (Kd.qR HO184.out) (Kd.R_base ho0) hb); have n3_ := zK (Kd.R_lower (Kd.R_new' (Kd.R_new' ho0 (Kd.R_lt (Kd.qR HO_7.out))) (Kd.R_lt (Kd.qR HO184.out))) (bZ M7)); have n4_ := zK (bB (g := gb170) (o := .cells #[.int .i64 a1_0, .int .i64 a1_1, .slice (some ad181) l1_2.length c1_2, .int .i64 a1_3] 53 (0, 0)) (qK BK170.out) hb); have n5_ := zK (bT M7 hb); clear HO_6 HO_7 HO184 BK170 HB; have HO_6 := n0_; have HO_7 := n1_; have HO184 := n2_; have HO192 := n3_; have BK170 := n4_; have HB := n5_; clear n0_ n1_ n2_ n3_ n4_ n5_; (try clear hb); (try clear hb2); (try clear hk); (try clear hi); (try clear ho0)))
    go_ret2
    exact ⟨_, by first | rfl | (simp [errW_none, errW_some] <;> rfl) | (simp [*, errW_none, errW_some] <;> rfl), by (with_reducible repeat (first | apply Kd.RA | apply Kd.RN | apply Kd.RD)); exact Kd.R_mono HO192.out (fun _ hk => trivial), by repeat (first | (with_reducible first | exact HB.out | apply bA | apply bN | apply b1 | refine bS ?_ GE170.out) | exact HB.out)⟩
   subst c18
   have H1 : ((slices_Contains_int_int.f k1 t175 (rd l1_2 x25_1)).bind fun t186 => (if t186 = true then (impl_SendParcel.l0 k1 l0 t175 t182 l1_2 (l1_2.length : Int) (wrap64 (x25_1 + 1)) a1_0 a1_1 l1_2 a1_3) else ((impl_Hand.f l0).bind fun t187 => (some (t187, false))))) = some (r1, r2) := by rw [if_pos rfl] at H; exact H
   clear H
   have H := H1
   clear H1
   replace H := Option.bind_eq_some_iff.mp H
   obtain ⟨t186, A190, H⟩ := H
   replace H : (if t186 = true then (impl_SendParcel.l0 k1 l0 t175 t182 l1_2 (l1_2.length : Int) (wrap64 (x25_1 + 1)) a1_0 a1_1 l1_2 a1_3) else ((impl_Hand.f l0).bind fun t187 => (some (t187, false)))) = some (r1, r2) := H
   have A19 := zK A190
   clear A190
   by_cases c20 : t186 = true
   ·subst c20
    have H1 : (impl_SendParcel.l0 k1 l0 t175 t182 l1_2 (l1_2.length : Int) (wrap64 (x25_1 + 1)) a1_0 a1_1 l1_2 a1_3) = some (r1, r2) := by rw [if_pos rfl] at H; exact H
    clear H
    have H := H1
    clear H1
    have H' := zK H
    clear H
    have p181 : 0 ≤ (x25_1 : Int) := oD M1
    have q181 : x25_1 < (l1_2.length : Int) := oD M1
    obtain ⟨ad181, e181, hx181_0⟩ := Kd.at_int HR1_2.out x25_1 p181 q181
    cases e181
    replace hx181_0 := (HB.out.cell (bL w hx181_0)).trans hx181_0
    replace p181 := eq_true p181
    replace q181 := eq_true q181
    have hcz21_0 : wr.cell? ⟨gb170, 0, none⟩ = some (.int .i64 a1_0) := (bc BK170.out 0).trans rfl
    have hcz21_1 : wr.cell? ⟨gb170, 1, none⟩ = some (.int .i64 a1_1) := (bc BK170.out 1).trans rfl
    have hcz21_2 : wr.cell? ⟨gb170, 2, none⟩ = some (.slice (some ad181) l1_2.length c1_2) := (bc BK170.out 2).trans rfl
    have hcz21_3 : wr.cell? ⟨gb170, 3, none⟩ = some (.int .i64 a1_3) := (bc BK170.out 3).trans rfl
    have hfz21_0 := bf BK170.out 0
    have hfz21_1 := bf BK170.out 1
    have hfz21_2 := bf BK170.out 2
    have hfz21_3 := bf BK170.out 3
    obtain ⟨Ao22, co22, eo22⟩ := Kd.R_slice HO_7.out
    subst eo22
    go_wp2_with (first | ((with_reducible refine gate_callee (f := 102) rfl ?_); refine goesL_ (some 37) rfl rfl Try.func102 (by kernel_rfl) rfl #[.slice Ao22 x7_1.length co22, .agg #[.int .i64 (rd l1_2 x25_1), .int .i64 2, .int .i64 a1_1, .int .i64 a1_3, .int .i64 0]] rfl M0 ?_; (with_reducible refine (impl_AddHand.calls k1 _ _ x7_1 (rd l1_2 x25_1) 2 a1_1 a1_3 0 t182 true _ ?side1 ?side2 A17.out).mono ?_); (case side1 => exact Kd.qC (Kd.R_reads' HO_7.out).2.2); (case side2 => exact (Kd.R_reads' HO_7.out).2.1); rintro e w23 ⟨v183, rfl, ho0, hb⟩; refine ⟨_, rfl, ?_⟩; have n0_ := zK (Kd.R_below (Kd.qR HO_6.out) hb); have n1_ := zK (Kd.R_elder' (Kd.qR HO_7.out) (Kd.R_base ho0) hb); have n2_ := zK (Kd.R_lower (Kd.R_new' ho0 (Kd.R_lt (Kd.qR HO_7.out))) (bZ M7)); have n3_ := zK (bB (g := gb170) (o := .cells #[.int .i64 a1_0, .int .i64 a1_1, .slice (some ad181) l1_2.length c1_2, .int .i64 a1_3] 53 (0, 0)) (qK BK170.out) hb); have n4_ := zK (bT M7 hb); clear HO_6 HO_7 BK170 HB; have HO_6 := n0_; have HO_7 := n1_; have HO184 := n2_; have BK170 := n3_; have HB := n4_; clear n0_ n1_ n2_ n3_ n4_; (try clear hb); (try clear hb2); (try clear hk); (try clear hi); (try clear ho0); obtain ⟨Ao24, co24, eo24⟩ := Kd.R_slice HO_6.out; subst eo24) | (go_at_call 103; (with_reducible refine (slices_Contains_int_int.calls k1 _ _ t175 (rd l1_2 x25_1) true _ ?side1 ?side2 A19.out).mono ?_); (case side1 => exact Kd.qC (Kd.R_reads' HO_6.out).2.2); (case side2 => exact (Kd.R_reads' HO_6.out).2.1); rintro e w' ⟨rfl, ⟨nd, rfl⟩⟩))
    go_roundg k1
    case measure => have := HK1.out; omega
    case rel => exact ⟨(t182), (wrap64 (x25_1 + 1)), M3, H', ⟨by have := HK1.out; omega⟩, ⟨by exact Kd.qR HO_6.out⟩, ⟨by (with_reducible repeat (first | apply Kd.RA | apply Kd.RN | apply Kd.RD)); exact Kd.R_mono HO184.out (fun _ hk => trivial)⟩, ⟨by exact qK BK170.out⟩, ⟨by repeat (first | (with_reducible first | exact HB.out | apply bA | apply bN | apply b1 | refine bS ?_ GE170.out) | exact HB.out)⟩⟩
   replace c20 := Bool.eq_false_iff.mpr c20
   subst c20
   have H1 : ((impl_Hand.f l0).bind fun t187 => (some (t187, false))) = some (r1, r2) := by rw [if_neg (show ¬ (false = true) by decide)] at H; exact H
   clear H
   have H := H1
   clear H1
   replace H := Option.bind_eq_some_iff.mp H
   obtain ⟨t187, A250, H⟩ := H
   replace H : (some (t187, false)) = some (r1, r2) := H
   have A25 := zK A250
   clear A250
   simp only [Option.some.injEq, Prod.mk.injEq] at H
   obtain ⟨rfl, rfl⟩ := H
   have p181 : 0 ≤ (x25_1 : Int) := oD M1
   have q181 : x25_1 < (l1_2.length : Int) := oD M1
   obtain ⟨ad181, e181, hx181_0⟩ := Kd.at_int HR1_2.out x25_1 p181 q181
   cases e181
   replace hx181_0 := (HB.out.cell (bL w hx181_0)).trans hx181_0
   replace p181 := eq_true p181
   replace q181 := eq_true q181
   have hcz26_0 : wr.cell? ⟨gb170, 0, none⟩ = some (.int .i64 a1_0) := (bc BK170.out 0).trans rfl
   have hcz26_1 : wr.cell? ⟨gb170, 1, none⟩ = some (.int .i64 a1_1) := (bc BK170.out 1).trans rfl
   have hcz26_2 : wr.cell? ⟨gb170, 2, none⟩ = some (.slice (some ad181) l1_2.length c1_2) := (bc BK170.out 2).trans rfl
   have hcz26_3 : wr.cell? ⟨gb170, 3, none⟩ = some (.int .i64 a1_3) := (bc BK170.out 3).trans rfl
   have hfz26_0 := bf BK170.out 0
   have hfz26_1 := bf BK170.out 1
   have hfz26_2 := bf BK170.out 2
   have hfz26_3 := bf BK170.out 3
   obtain ⟨Ao27, co27, eo27⟩ := Kd.R_slice HO_7.out
   subst eo27
   go_wp2_with (first | ((with_reducible refine gate_callee (f := 102) rfl ?_); refine goesL_ (some 37) rfl rfl Try.func102 (by kernel_rfl) rfl #[.slice Ao27 x7_1.length co27, .agg #[.int .i64 (rd l1_2 x25_1), .int .i64 2, .int .i64 a1_1, .int .i64 a1_3, .int .i64 0]] rfl M0 ?_; (with_reducible refine (impl_AddHand.calls k1 _ _ x7_1 (rd l1_2 x25_1) 2 a1_1 a1_3 0 t182 true _ ?side1 ?side2 A17.out).mono ?_); (case side1 => exact Kd.qC (Kd.R_reads' HO_7.out).2.2); (case side2 => exact (Kd.R_reads' HO_7.out).2.1); rintro e w28 ⟨v183, rfl, ho0, hb⟩; refine ⟨_, rfl, ?_⟩; have n0_ := zK (Kd.R_below (Kd.qR HO_6.out) hb); have n1_ := zK (Kd.R_elder' (Kd.qR HO_7.out) (Kd.R_base ho0) hb); have n2_ := zK (Kd.R_lower (Kd.R_new' ho0 (Kd.R_lt (Kd.qR HO_7.out))) (bZ M7)); have n3_ := zK (bB (g := gb170) (o := .cells #[.int .i64 a1_0, .int .i64 a1_1, .slice (some ad181) l1_2.length c1_2, .int .i64 a1_3] 53 (0, 0)) (qK BK170.out) hb); have n4_ := zK (bT M7 hb); clear HO_6 HO_7 BK170 HB; have HO_6 := n0_; have HO_7 := n1_; have HO184 := n2_; have BK170 := n3_; have HB := n4_; clear n0_ n1_ n2_ n3_ n4_; (try clear hb); (try clear hb2); (try clear hk); (try clear hi); (try clear ho0); obtain ⟨Ao29, co29, eo29⟩ := Kd.R_slice HO_6.out; subst eo29) | (go_at_call 103; (with_reducible refine (slices_Contains_int_int.calls k1 _ _ t175 (rd l1_2 x25_1) false _ ?side1 ?side2 A19.out).mono ?_); (case side1 => exact Kd.qC (Kd.R_reads' HO_6.out).2.2); (case side2 => exact (Kd.R_reads' HO_6.out).2.1); rintro e w' ⟨rfl, ⟨nd, rfl⟩⟩) | ((with_reducible refine gate_callee (f := 101) rfl ?_); refine goesL_ (some 49) rfl rfl Try.func101 (by kernel_rfl) rfl #[.slice A0 l0.length c0] rfl M0 ?_; (with_reducible refine (impl_Hand.calls _ _ l0 t187 _ ?side1 ?side2 A25.out).mono ?_); (case side1 => repeat (first | exact (Kd.C_below HR0.out M7) | (with_reducible refine Kd.CA ?_ _) | (with_reducible refine Kd.CN ?_ _) | (with_reducible refine Kd.CD ?_))); (case side2 => exact HC0.out); rintro e w30 ⟨v188, rfl, ho0, hb⟩; refine ⟨_, rfl, ?_⟩; have n0_ := zK (Kd.R_below (Kd.qR HO_6.out) hb); have n1_ := zK (Kd.R_elder' (Kd.qR HO_7.out) (Kd.R_base ho0) hb); have n2_ := zK (Kd.R_elder' (Kd.qR HO184.out) (Kd.R_base ho0) hb); have n3_ := zK (Kd.R_lower (Kd.R_new' (Kd.R_new' ho0 (Kd.R_lt (Kd.qR HO_7.out))) (Kd.R_lt (Kd.qR HO184.out))) (bZ M7)); have n4_ := zK (bB (g := gb170) (o := .cells #[.int .i64 a1_0, .int .i64 a1_1, .slice (some ad181) l1_2.length c1_2, .int .i64 a1_3] 53 (0, 0)) (qK BK170.out) hb); have n5_ := zK (bT M7 hb); clear HO_6 HO_7 HO184 BK170 HB; have HO_6 := n0_; have HO_7 := n1_; have HO184 := n2_; have HO189 := n3_; have BK170 := n4_; have HB := n5_; clear n0_ n1_ n2_ n3_ n4_ n5_; (try clear hb); (try clear hb2); (try clear hk); (try clear hi); (try clear ho0)))
   go_ret2
   exact ⟨_, by first | rfl | (simp [errW_none, errW_some] <;> rfl) | (simp [*, errW_none, errW_some] <;> rfl), by (with_reducible repeat (first | apply Kd.RA | apply Kd.RN | apply Kd.RD)); exact Kd.R_mono HO189.out (fun _ hk => trivial), by repeat (first | (with_reducible first | exact HB.out | apply bA | apply bN | apply b1 | refine bS ?_ GE170.out) | exact HB.out)⟩
/-! ### impl_SendAll: function 40 -/
def impl_SendAll.l0 : Nat → List (S138) → Int → List (S53) → Int → Int → Option ((List (S138)) × Int)
 | 0, _, _, _, _, _ => none
 | k + 1, x6, x7, x13, x14, x15 => if x15 < x14 then (if 0 ≤ x15 then (if x15 < (x13.length : Int) then ((impl_SendParcel.f k x6 ((rd_T53 x13 x15).f0) ((rd_T53 x13 x15).f1) ((rd_T53 x13 x15).f2) ((rd_T53 x13 x15).f3)).bind fun bt198 => (if bt198.2 = true then (impl_SendAll.l0 k bt198.1 (wrap64 (x7 + 1)) x13 x14 (wrap64 (x15 + 1))) else (impl_SendAll.l0 k bt198.1 x7 x13 x14 (wrap64 (x15 + 1))))) else (none)) else (none)) else (some (x6, x7))
def impl_SendAll.f (k : Nat) (l0 : List (S138)) (l1 : List (S53)) : Option ((List (S138)) × Int) := (impl_Hand.f l0).bind fun t193 => (impl_SendAll.l0 k t193 0 l1 (l1.length : Int) 0)
set_option maxHeartbeats 8000000 in
set_option maxRecDepth 100000 in
theorem impl_SendAll.calls (k : Nat) (A0 : Option Addr) (c0 : Nat) (l0 : List (S138)) (A1 : Option Addr) (c1 : Nat) (l1 : List (S53)) (r1 : List (S138)) (r2 : Int) (w : World) (hr0 : Kd.C k138 w A0 l0.length l0) (hc0 : l0.length ≤ c0) (hr1 : Kd.C k53 w A1 l1.length l1) (hc1 : l1.length ≤ c1) (h : impl_SendAll.f k l0 l1 = some (r1, r2)) :
  Calls Try.prog 40 #[.slice A0 l0.length c0, .slice A1 l1.length c1] w fun e w' => ∃ v0_ : Value, e = .returned (.tuple #[v0_, .int .i64 r2]) ∧ Kd.R k138 138 w' w.heap.size (fun _ => True) v0_ r1 ∧ Below w.heap.size w w' := by
 have hu53 := Try.underlying53
 have HR0 := zK hr0
 have HC0 := zK hc0
 clear hr0 hc0
 have HR1 := zK hr1
 have HC1 := zK hc1
 clear hr1 hc1
 have HB := zK (Below.refl w.heap.size w)
 have H : ((impl_Hand.f l0).bind fun t193 => (impl_SendAll.l0 k t193 0 l1 (l1.length : Int) 0)) = some (r1, r2) := h
 clear h
 replace H := Option.bind_eq_some_iff.mp H
 obtain ⟨t193, A30, H⟩ := H
 replace H : (impl_SendAll.l0 k t193 0 l1 (l1.length : Int) 0) = some (r1, r2) := H
 have A3 := zK A30
 clear A30
 have H' := zK H
 clear H
 go_enter Try.func40, Try.ntmps40
 go_wp2_with (first | ((with_reducible refine gate_callee (f := 101) rfl ?_); refine goesL_ (some 12) rfl rfl Try.func101 (by kernel_rfl) rfl #[.slice A0 l0.length c0] rfl M0 ?_; (with_reducible refine (impl_Hand.calls _ _ l0 t193 _ ?side1 ?side2 A3.out).mono ?_); (case side1 => exact Kd.qC HR0.out); (case side2 => exact HC0.out); rintro e w4 ⟨v194, rfl, ho0, hb⟩; refine ⟨_, rfl, ?_⟩; have n0_ := zK (Kd.R_lower ho0 (bZ (qB HB.out))); have n1_ := zK (bT (qB HB.out) hb); clear HB; have HO195 := n0_; have HB := n1_; clear n0_ n1_; (try clear hb); (try clear hb2); (try clear hk); (try clear hi); (try clear ho0)))
 go_loopg [6, 7, 15] k (fun kq v6 v7 v15 w' => ∃ (x6_1 : List (S138)) (x7_1 : Int) (x15_1 : Int), v7 = .int .i64 x7_1 ∧ v15 = .int .i64 x15_1 ∧ Aside0 (impl_SendAll.l0 kq x6_1 x7_1 l1 (l1.length : Int) x15_1 = some (r1, r2)) ∧ Aside0 (kq ≤ k) ∧ Aside0 (Kd.R k138 138 w' w.heap.size (fun _ => True) v6 x6_1) ∧ Aside0 (Below w.heap.size w w'))
 case atStart => exact ⟨(t193), (0), (0), M3, M3, H', ⟨Nat.le_refl _⟩, ⟨by exact Kd.qR HO195.out⟩, ⟨by exact qB HB.out⟩⟩
 case round =>
  clear H'
  try clear c1
  try clear p2
  try clear c4
  obtain ⟨x6_1, x7_1, x15_1, rfl, rfl, HA, HK1, HO_6, HB⟩ := hrel
  cases gk with
  | zero => exact absurd HA.out (by simp [impl_SendAll.l0])
  | succ k1 =>
   have H := HA.out
   clear HA
   simp only [impl_SendAll.l0] at H
   by_cases c5 : x15_1 < (l1.length : Int)
   rotate_left
   ·rw [if_neg c5] at H
    have c5b0 : decide (x15_1 < (l1.length : Int)) = false := decide_eq_false c5
    clear c5
    simp only [Option.some.injEq, Prod.mk.injEq] at H
    obtain ⟨rfl, rfl⟩ := H
    go_wp2
    go_ret2
    exact ⟨_, by first | rfl | (simp [errW_none, errW_some] <;> rfl) | (simp [*, errW_none, errW_some] <;> rfl), by exact Kd.qR HO_6.out, by exact qB HB.out⟩
   rw [if_pos c5] at H
   have c5b0 : decide (x15_1 < (l1.length : Int)) = true := decide_eq_true c5
   clear c5
   by_cases c6 : 0 ≤ x15_1
   rotate_left
   ·rw [if_neg c6] at H
    exact absurd H (by simp)
   rw [if_pos c6] at H
   have c6b0 : decide (0 ≤ x15_1) = true := decide_eq_true c6
   clear c6
   by_cases c7 : x15_1 < (l1.length : Int)
   rotate_left
   ·rw [if_neg c7] at H
    exact absurd H (by simp)
   rw [if_pos c7] at H
   have c7b0 : decide (x15_1 < (l1.length : Int)) = true := decide_eq_true c7
   clear c7
   replace H := Option.bind_eq_some_iff.mp H
   obtain ⟨⟨t198, t201⟩, A80, H⟩ := H
   replace H : (if t201 = true then (impl_SendAll.l0 k1 t198 (wrap64 (x7_1 + 1)) l1 (l1.length : Int) (wrap64 (x15_1 + 1))) else (impl_SendAll.l0 k1 t198 x7_1 l1 (l1.length : Int) (wrap64 (x15_1 + 1)))) = some (r1, r2) := H
   have A8 := zK A80
   clear A80
   by_cases c9 : t201 = true
   ·subst c9
    have H1 : (impl_SendAll.l0 k1 t198 (wrap64 (x7_1 + 1)) l1 (l1.length : Int) (wrap64 (x15_1 + 1))) = some (r1, r2) := by rw [if_pos rfl] at H; exact H
    clear H
    have H := H1
    clear H1
    have H' := zK H
    clear H
    have p196 : 0 ≤ (x15_1 : Int) := oD M1
    have q196 : x15_1 < (l1.length : Int) := oD M1
    obtain ⟨ad196, A196_2, c196_2, e196, hx196_0, hx196_1, hx196_2, hx196_3, hl196_2, hi196_2⟩ := at_T53 HR1.out x15_1 p196 q196
    cases e196
    replace hx196_0 := (HB.out.cell (bL w hx196_0)).trans hx196_0
    replace hx196_1 := (HB.out.cell (bL w hx196_1)).trans hx196_1
    replace hx196_2 := (HB.out.cell (bL w hx196_2)).trans hx196_2
    replace hx196_3 := (HB.out.cell (bL w hx196_3)).trans hx196_3
    have HR196_2 := zK hi196_2
    have HC196_2 := zK hl196_2
    clear hi196_2 hl196_2
    replace p196 := eq_true p196
    replace q196 := eq_true q196
    go_wp2_with (first | ((with_reducible refine gate_dst (N := 9) rfl ?_); refine box_event ?hg (N := 9) ?hd (cs := #[.int .i64 0, .int .i64 0, .slice none 0 0, .int .i64 0]) (t := 53) ?hr ?_; (case hd => rfl); (case hg => rfl); (case hr => first | (go_simp; done) | (go_simp; rfl)); intro gb197 hg w10 hbox hb; have n0_ := zK (Kd.R_below (Kd.qR HO_6.out) hb); have n1_ := zK (bT (qB HB.out) hb); have n2_ := zK (hbox); have n3_ := zK ((by rw [hg]; exact (bZ (qB HB.out)) : w.heap.size ≤ gb197)); have n4_ := zK ((by rw [hg]; exact (bZ (qB HB.out)) : w.heap.size ≤ gb197)); clear HO_6 HB; have HO_6 := n0_; have HB := n1_; have BK197 := n2_; have GW197 := n3_; have GE197 := n4_; clear n0_ n1_ n2_ n3_ n4_; clear hb hbox hg; have hcz11_0 : w10.cell? ⟨gb197, 0, none⟩ = some (.int .i64 0) := (bc BK197.out 0).trans rfl; have hcz11_1 : w10.cell? ⟨gb197, 1, none⟩ = some (.int .i64 0) := (bc BK197.out 1).trans rfl; have hcz11_2 : w10.cell? ⟨gb197, 2, none⟩ = some (.slice none 0 0) := (bc BK197.out 2).trans rfl; have hcz11_3 : w10.cell? ⟨gb197, 3, none⟩ = some (.int .i64 0) := (bc BK197.out 3).trans rfl; have hfz11_0 := bf BK197.out 0; have hfz11_1 := bf BK197.out 1; have hfz11_2 := bf BK197.out 2; have hfz11_3 := bf BK197.out 3; obtain ⟨Ao12, co12, eo12⟩ := Kd.R_slice HO_6.out; subst eo12) | ((with_reducible refine gate_callee (f := 32) rfl ?_); refine goesL_ (some 22) rfl rfl Try.func32 (by kernel_rfl) rfl #[.slice Ao12 x6_1.length co12, .agg #[.int .i64 ((rd_T53 l1 x15_1).f0), .int .i64 ((rd_T53 l1 x15_1).f1), .slice A196_2 ((rd_T53 l1 x15_1).f2).length c196_2, .int .i64 ((rd_T53 l1 x15_1).f3)]] rfl M0 ?_; (with_reducible refine (impl_SendParcel.calls k1 _ _ x6_1 ((rd_T53 l1 x15_1).f0) ((rd_T53 l1 x15_1).f1) _ _ ((rd_T53 l1 x15_1).f2) ((rd_T53 l1 x15_1).f3) t198 true _ ?side1 ?side2 ?side3 ?side4 A8.out).mono ?_); (case side1 => refine (Kd.R_reads' (e := 138) (base := w.heap.size) (ok := fun k_ => True) (n := x6_1.length) (c := co12) ?_).2.2; exact M6); (case side2 => exact (Kd.R_reads' HO_6.out).2.1); (case side3 => exact Kd.C_below HR196_2.out M13); (case side4 => exact HC196_2.out); rintro e w13 ⟨v199, rfl, ho0, hb⟩; refine ⟨_, rfl, ?_⟩; have n0_ := zK (Kd.R_elder' M6 (Kd.R_base ho0) hb); have n1_ := zK (Kd.R_lower (Kd.R_new' ho0 (Kd.R_lt M6)) (bZ M13)); have n2_ := zK (bB (g := gb197) (o := .cells #[.int .i64 ((rd_T53 l1 x15_1).f0), .int .i64 ((rd_T53 l1 x15_1).f1), .slice A196_2 ((rd_T53 l1 x15_1).f2).length c196_2, .int .i64 ((rd_T53 l1 x15_1).f3)] 53 (0, 0)) M10 hb); have n3_ := zK (bT M13 hb); clear HO_6 BK197 HB; have HO_6 := n0_; have HO200 := n1_; have BK197 := n2_; have HB := n3_; clear n0_ n1_ n2_ n3_; (try clear hb); (try clear hb2); (try clear hk); (try clear hi); (try clear ho0)))
    go_roundg k1
    case measure => have := HK1.out; omega
    case rel => exact ⟨(t198), (wrap64 (x7_1 + 1)), (wrap64 (x15_1 + 1)), M3, M3, H', ⟨by have := HK1.out; omega⟩, ⟨by (with_reducible repeat (first | apply Kd.RA | apply Kd.RN | apply Kd.RD)); exact Kd.R_mono HO200.out (fun _ hk => trivial)⟩, ⟨by repeat (first | (with_reducible first | exact HB.out | apply bA | apply bN | apply b1 | refine bS ?_ GE197.out) | exact HB.out)⟩⟩
   replace c9 := Bool.eq_false_iff.mpr c9
   subst c9
   have H1 : (impl_SendAll.l0 k1 t198 x7_1 l1 (l1.length : Int) (wrap64 (x15_1 + 1))) = some (r1, r2) := by rw [if_neg (show ¬ (false = true) by decide)] at H; exact H
   clear H
   have H := H1
   clear H1
   have H' := zK H
   clear H
   have p196 : 0 ≤ (x15_1 : Int) := oD M1
   have q196 : x15_1 < (l1.length : Int) := oD M1
   obtain ⟨ad196, A196_2, c196_2, e196, hx196_0, hx196_1, hx196_2, hx196_3, hl196_2, hi196_2⟩ := at_T53 HR1.out x15_1 p196 q196
   cases e196
   replace hx196_0 := (HB.out.cell (bL w hx196_0)).trans hx196_0
   replace hx196_1 := (HB.out.cell (bL w hx196_1)).trans hx196_1
   replace hx196_2 := (HB.out.cell (bL w hx196_2)).trans hx196_2
   replace hx196_3 := (HB.out.cell (bL w hx196_3)).trans hx196_3
   have HR196_2 := zK hi196_2
   have HC196_2 := zK hl196_2
   clear hi196_2 hl196_2
   replace p196 := eq_true p196
   replace q196 := eq_true q196
   go_wp2_with (first | ((with_reducible refine gate_dst (N := 9) rfl ?_); refine box_event ?hg (N := 9) ?hd (cs := #[.int .i64 0, .int .i64 0, .slice none 0 0, .int .i64 0]) (t := 53) ?hr ?_; (case hd => rfl); (case hg => rfl); (case hr => first | (go_simp; done) | (go_simp; rfl)); intro gb197 hg w14 hbox hb; have n0_ := zK (Kd.R_below (Kd.qR HO_6.out) hb); have n1_ := zK (bT (qB HB.out) hb); have n2_ := zK (hbox); have n3_ := zK ((by rw [hg]; exact (bZ (qB HB.out)) : w.heap.size ≤ gb197)); have n4_ := zK ((by rw [hg]; exact (bZ (qB HB.out)) : w.heap.size ≤ gb197)); clear HO_6 HB; have HO_6 := n0_; have HB := n1_; have BK197 := n2_; have GW197 := n3_; have GE197 := n4_; clear n0_ n1_ n2_ n3_ n4_; clear hb hbox hg; have hcz15_0 : w14.cell? ⟨gb197, 0, none⟩ = some (.int .i64 0) := (bc BK197.out 0).trans rfl; have hcz15_1 : w14.cell? ⟨gb197, 1, none⟩ = some (.int .i64 0) := (bc BK197.out 1).trans rfl; have hcz15_2 : w14.cell? ⟨gb197, 2, none⟩ = some (.slice none 0 0) := (bc BK197.out 2).trans rfl; have hcz15_3 : w14.cell? ⟨gb197, 3, none⟩ = some (.int .i64 0) := (bc BK197.out 3).trans rfl; have hfz15_0 := bf BK197.out 0; have hfz15_1 := bf BK197.out 1; have hfz15_2 := bf BK197.out 2; have hfz15_3 := bf BK197.out 3; obtain ⟨Ao16, co16, eo16⟩ := Kd.R_slice HO_6.out; subst eo16) | ((with_reducible refine gate_callee (f := 32) rfl ?_); refine goesL_ (some 22) rfl rfl Try.func32 (by kernel_rfl) rfl #[.slice Ao16 x6_1.length co16, .agg #[.int .i64 ((rd_T53 l1 x15_1).f0), .int .i64 ((rd_T53 l1 x15_1).f1), .slice A196_2 ((rd_T53 l1 x15_1).f2).length c196_2, .int .i64 ((rd_T53 l1 x15_1).f3)]] rfl M0 ?_; (with_reducible refine (impl_SendParcel.calls k1 _ _ x6_1 ((rd_T53 l1 x15_1).f0) ((rd_T53 l1 x15_1).f1) _ _ ((rd_T53 l1 x15_1).f2) ((rd_T53 l1 x15_1).f3) t198 false _ ?side1 ?side2 ?side3 ?side4 A8.out).mono ?_); (case side1 => refine (Kd.R_reads' (e := 138) (base := w.heap.size) (ok := fun k_ => True) (n := x6_1.length) (c := co16) ?_).2.2; exact M6); (case side2 => exact (Kd.R_reads' HO_6.out).2.1); (case side3 => exact Kd.C_below HR196_2.out M13); (case side4 => exact HC196_2.out); rintro e w17 ⟨v199, rfl, ho0, hb⟩; refine ⟨_, rfl, ?_⟩; have n0_ := zK (Kd.R_elder' M6 (Kd.R_base ho0) hb); have n1_ := zK (Kd.R_lower (Kd.R_new' ho0 (Kd.R_lt M6)) (bZ M13)); have n2_ := zK (bB (g := gb197) (o := .cells #[.int .i64 ((rd_T53 l1 x15_1).f0), .int .i64 ((rd_T53 l1 x15_1).f1), .slice A196_2 ((rd_T53 l1 x15_1).f2).length c196_2, .int .i64 ((rd_T53 l1 x15_1).f3)] 53 (0, 0)) M10 hb); have n3_ := zK (bT M13 hb); clear HO_6 BK197 HB; have HO_6 := n0_; have HO200 := n1_; have BK197 := n2_; have HB := n3_; clear n0_ n1_ n2_ n3_; (try clear hb); (try clear hb2); (try clear hk); (try clear hi); (try clear ho0)))
   go_roundg k1
   case measure => have := HK1.out; omega
   case rel => exact ⟨(t198), (x7_1), (wrap64 (x15_1 + 1)), M3, M3, H', ⟨by have := HK1.out; omega⟩, ⟨by (with_reducible repeat (first | apply Kd.RA | apply Kd.RN | apply Kd.RD)); exact Kd.R_mono HO200.out (fun _ hk => trivial)⟩, ⟨by repeat (first | (with_reducible first | exact HB.out | apply bA | apply bN | apply b1 | refine bS ?_ GE197.out) | exact HB.out)⟩⟩
/-! ### laws_szHandS: function 47 -/
def laws_szHandS.f (l0 : List (S145)) (a1 : Int) : Option (Int) := if (wrap64 (a1 - (l0.length : Int))) < 0 then (some (-1)) else (some (wrap64 (a1 - (l0.length : Int))))
set_option maxHeartbeats 8000000 in
set_option maxRecDepth 100000 in
theorem laws_szHandS.calls (A0 : Option Addr) (c0 : Nat) (l0 : List (S145)) (a1 : Int) (r : Int) (w : World) (hr0 : Kd.C k145 w A0 l0.length l0) (hc0 : l0.length ≤ c0) (h : laws_szHandS.f l0 a1 = some r) :
  Calls Try.prog 47 #[.slice A0 l0.length c0, .int .i64 a1] w fun e w' => e = .returned (.int .i64 r) ∧ Drawn0 w w' := by
 have HR0 := zK hr0
 have HC0 := zK hc0
 clear hr0 hc0
 have H : (if (wrap64 (a1 - (l0.length : Int))) < 0 then (some (-1)) else (some (wrap64 (a1 - (l0.length : Int))))) = some r := h
 clear h
 by_cases c3 : (wrap64 (a1 - (l0.length : Int))) < 0
 ·rw [if_pos c3] at H
  have c3b0 : decide ((wrap64 (a1 - (l0.length : Int))) < 0) = true := decide_eq_true c3
  clear c3
  obtain rfl := Option.some.inj H
  go_enter Try.func47, Try.ntmps47
  go_wp2
  go_ret
  exact ⟨by first | rfl | (simp; done) | (simp [*]; done), by repeat (first | exact Drawn0.refl _ | apply Drawn0.step)⟩
 rw [if_neg c3] at H
 have c3b0 : decide ((wrap64 (a1 - (l0.length : Int))) < 0) = false := decide_eq_false c3
 clear c3
 obtain rfl := Option.some.inj H
 go_enter Try.func47, Try.ntmps47
 go_wp2
 go_ret
 exact ⟨by first | rfl | (simp; done) | (simp [*]; done), by repeat (first | exact Drawn0.refl _ | apply Drawn0.step)⟩
/-! ### laws_toHand: function 112 -/
def laws_toHand.f (a0_0 : Int) (a0_1 : Int) (a0_2 : Int) (a0_3 : Int) (a0_4 : Int) : Option (Int × Int × Int × Int × Int) := some (a0_0, a0_1, a0_2, a0_3, a0_4)
set_option maxHeartbeats 8000000 in
set_option maxRecDepth 100000 in
theorem laws_toHand.calls (a0_0 : Int) (a0_1 : Int) (a0_2 : Int) (a0_3 : Int) (a0_4 : Int) (r1 : Int) (r2 : Int) (r3 : Int) (r4 : Int) (r5 : Int) (w : World) (h : laws_toHand.f a0_0 a0_1 a0_2 a0_3 a0_4 = some (r1, r2, r3, r4, r5)) :
  Calls Try.prog 112 #[.agg #[.int .i64 a0_0, .int .i64 a0_1, .int .i64 a0_2, .int .i64 a0_3, .int .i64 a0_4]] w fun e w' => e = .returned (.agg #[.int .i64 r1, .int .i64 r2, .int .i64 r3, .int .i64 r4, .int .i64 r5]) ∧ Below w.heap.size w w' := by
 have hu145 := Try.underlying145
 have hu138 := Try.underlying138
 have HB := zK (Below.refl w.heap.size w)
 have H : (some (a0_0, a0_1, a0_2, a0_3, a0_4)) = some (r1, r2, r3, r4, r5) := h
 clear h
 simp only [Option.some.injEq, Prod.mk.injEq] at H
 obtain ⟨rfl, rfl, rfl, rfl, rfl⟩ := H
 go_enter Try.func112, Try.ntmps112
 go_wp2_with (first | ((with_reducible refine gate_dst (N := 1) rfl ?_); refine box_event ?hg (N := 1) ?hd (cs := #[.int .i64 a0_0, .int .i64 a0_1, .int .i64 a0_2, .int .i64 a0_3, .int .i64 a0_4]) (t := 145) ?hr ?_; (case hd => rfl); (case hg => rfl); (case hr => first | (go_simp; done) | (go_simp; rfl)); intro gb202 hg w2 hbox hb; have n0_ := zK (bT (qB HB.out) hb); have n1_ := zK (hbox); have n2_ := zK ((by rw [hg]; exact (bZ (qB HB.out)) : w.heap.size ≤ gb202)); have n3_ := zK ((by rw [hg]; exact (bZ (qB HB.out)) : w.heap.size ≤ gb202)); clear HB; have HB := n0_; have BK202 := n1_; have GW202 := n2_; have GE202 := n3_; clear n0_ n1_ n2_ n3_; clear hb hbox hg) | ((with_reducible refine gate_dst (N := 2) rfl ?_); refine box_event ?hg (N := 2) ?hd (cs := #[.int .i64 0, .int .i64 0, .int .i64 0, .int .i64 0, .int .i64 0]) (t := 138) ?hr ?_; (case hd => rfl); (case hg => rfl); (case hr => first | (go_simp; done) | (go_simp; rfl)); intro gb203 hg w3 hbox hb; have n0_ := zK (bB (g := gb202) (o := .cells #[.int .i64 a0_0, .int .i64 a0_1, .int .i64 a0_2, .int .i64 a0_3, .int .i64 a0_4] 145 (0, 0)) (qK BK202.out) hb); have n1_ := zK (bT (by repeat (first | (with_reducible first | exact HB.out | apply bA | apply bN | apply b1 | refine bS ?_ GE202.out) | exact HB.out)) hb); have n2_ := zK (hbox); have n3_ := zK ((by rw [hg]; exact (bZ (by repeat (first | (with_reducible first | exact HB.out | apply bA | apply bN | apply b1 | refine bS ?_ GE202.out) | exact HB.out))) : w.heap.size ≤ gb203)); have n4_ := zK ((by rw [hg]; exact (bZ (by repeat (first | (with_reducible first | exact HB.out | apply bA | apply bN | apply b1 | refine bS ?_ GE202.out) | exact HB.out))) : w.heap.size ≤ gb203)); have n5_ := zK ((by rw [hg]; exact Nat.ne_of_lt (blk_lt (g := gb202) (o := .cells #[.int .i64 a0_0, .int .i64 a0_1, .int .i64 a0_2, .int .i64 a0_3, .int .i64 a0_4] 145 (0, 0)) (qK BK202.out)) : gb202 ≠ gb203)); have n6_ := zK ((by rw [hg]; exact Nat.ne_of_gt (blk_lt (g := gb202) (o := .cells #[.int .i64 a0_0, .int .i64 a0_1, .int .i64 a0_2, .int .i64 a0_3, .int .i64 a0_4] 145 (0, 0)) (qK BK202.out)) : gb203 ≠ gb202)); clear BK202 HB; have BK202 := n0_; have HB := n1_; have BK203 := n2_; have GW203 := n3_; have GE203 := n4_; have NB202_203 := n5_; have NB203_202 := n6_; clear n0_ n1_ n2_ n3_ n4_ n5_ n6_; clear hb hbox hg) | ((with_reducible refine gate_dst (N := 3) rfl ?_); refine box_event ?hg (N := 3) ?hd (cs := #[.int .i64 0, .int .i64 0, .int .i64 0, .int .i64 0, .int .i64 0]) (t := 138) ?hr ?_; (case hd => rfl); (case hg => rfl); (case hr => first | (go_simp; done) | (go_simp; rfl)); intro gb204 hg w4 hbox hb; have n0_ := zK (bB (g := gb202) (o := .cells #[.int .i64 a0_0, .int .i64 a0_1, .int .i64 a0_2, .int .i64 a0_3, .int .i64 a0_4] 145 (0, 0)) (qK BK202.out) hb); have n1_ := zK (bB (g := gb203) (o := .cells #[.int .i64 0, .int .i64 0, .int .i64 0, .int .i64 0, .int .i64 0] 138 (0, 0)) (qK BK203.out) hb); have n2_ := zK (bT (by repeat (first | (with_reducible first | exact HB.out | apply bA | apply bN | apply b1 | refine bS ?_ GE202.out | refine bS ?_ GE203.out) | exact HB.out)) hb); have n3_ := zK (hbox); have n4_ := zK ((by rw [hg]; exact (bZ (by repeat (first | (with_reducible first | exact HB.out | apply bA | apply bN | apply b1 | refine bS ?_ GE202.out | refine bS ?_ GE203.out) | exact HB.out))) : w.heap.size ≤ gb204)); have n5_ := zK ((by rw [hg]; exact (bZ (by repeat (first | (with_reducible first | exact HB.out | apply bA | apply bN | apply b1 | refine bS ?_ GE202.out | refine bS ?_ GE203.out) | exact HB.out))) : w.heap.size ≤ gb204)); have n6_ := zK ((by rw [hg]; exact Nat.ne_of_lt (blk_lt (g := gb202) (o := .cells #[.int .i64 a0_0, .int .i64 a0_1, .int .i64 a0_2, .int .i64 a0_3, .int .i64 a0_4] 145 (0, 0)) (qK BK202.out)) : gb202 ≠ gb204)); have n7_ := zK ((by rw [hg]; exact Nat.ne_of_gt (blk_lt (g := gb202) (o := .cells #[.int .i64 a0_0, .int .i64 a0_1, .int .i64 a0_2, .int .i64 a0_3, .int .i64 a0_4] 145 (0, 0)) (qK BK202.out)) : gb204 ≠ gb202)); have n8_ := zK ((by rw [hg]; exact Nat.ne_of_lt (blk_lt (g := gb203) (o := .cells #[.int .i64 0, .int .i64 0, .int .i64 0, .int .i64 0, .int .i64 0] 138 (0, 0)) (qK BK203.out)) : gb203 ≠ gb204)); have n9_ := zK ((by rw [hg]; exact Nat.ne_of_gt (blk_lt (g := gb203) (o := .cells #[.int .i64 0, .int .i64 0, .int .i64 0, .int .i64 0, .int .i64 0] 138 (0, 0)) (qK BK203.out)) : gb204 ≠ gb203)); clear BK202 BK203 HB; have BK202 := n0_; have BK203 := n1_; have HB := n2_; have BK204 := n3_; have GW204 := n4_; have GE204 := n5_; have NB202_204 := n6_; have NB204_202 := n7_; have NB203_204 := n8_; have NB204_203 := n9_; clear n0_ n1_ n2_ n3_ n4_ n5_ n6_ n7_ n8_ n9_; clear hb hbox hg; have hnb5 := NB202_203.out; have hnc5 := NB203_202.out; have hnb6 := NB202_204.out; have hnc6 := NB204_202.out; have hcz7_0 : w4.cell? ⟨gb202, 0, none⟩ = some (.int .i64 a0_0) := (bc BK202.out 0).trans rfl; have hcz7_1 : w4.cell? ⟨gb202, 1, none⟩ = some (.int .i64 a0_1) := (bc BK202.out 1).trans rfl; have hcz7_2 : w4.cell? ⟨gb202, 2, none⟩ = some (.int .i64 a0_2) := (bc BK202.out 2).trans rfl; have hcz7_3 : w4.cell? ⟨gb202, 3, none⟩ = some (.int .i64 a0_3) := (bc BK202.out 3).trans rfl; have hcz7_4 : w4.cell? ⟨gb202, 4, none⟩ = some (.int .i64 a0_4) := (bc BK202.out 4).trans rfl; have hfz7_0 := bf BK202.out 0; have hfz7_1 := bf BK202.out 1; have hfz7_2 := bf BK202.out 2; have hfz7_3 := bf BK202.out 3; have hfz7_4 := bf BK202.out 4; have hnb8 := NB204_203.out; have hnc8 := NB203_204.out; have hcz9_0 : w4.cell? ⟨gb204, 0, none⟩ = some (.int .i64 0) := (bc BK204.out 0).trans rfl; have hcz9_1 : w4.cell? ⟨gb204, 1, none⟩ = some (.int .i64 0) := (bc BK204.out 1).trans rfl; have hcz9_2 : w4.cell? ⟨gb204, 2, none⟩ = some (.int .i64 0) := (bc BK204.out 2).trans rfl; have hcz9_3 : w4.cell? ⟨gb204, 3, none⟩ = some (.int .i64 0) := (bc BK204.out 3).trans rfl; have hcz9_4 : w4.cell? ⟨gb204, 4, none⟩ = some (.int .i64 0) := (bc BK204.out 4).trans rfl; have hfz9_0 := bf BK204.out 0; have hfz9_1 := bf BK204.out 1; have hfz9_2 := bf BK204.out 2; have hfz9_3 := bf BK204.out 3; have hfz9_4 := bf BK204.out 4; have hcz10_0 : w4.cell? ⟨gb203, 0, none⟩ = some (.int .i64 0) := (bc BK203.out 0).trans rfl; have hcz10_1 : w4.cell? ⟨gb203, 1, none⟩ = some (.int .i64 0) := (bc BK203.out 1).trans rfl; have hcz10_2 : w4.cell? ⟨gb203, 2, none⟩ = some (.int .i64 0) := (bc BK203.out 2).trans rfl; have hcz10_3 : w4.cell? ⟨gb203, 3, none⟩ = some (.int .i64 0) := (bc BK203.out 3).trans rfl; have hcz10_4 : w4.cell? ⟨gb203, 4, none⟩ = some (.int .i64 0) := (bc BK203.out 4).trans rfl; have hfz10_0 := bf BK203.out 0; have hfz10_1 := bf BK203.out 1; have hfz10_2 := bf BK203.out 2; have hfz10_3 := bf BK203.out 3; have hfz10_4 := bf BK203.out 4))
 refine bodyPost_ret (results_cell_row rfl _ _ gb203 138 #[.int .i64 a0_0, .int .i64 a0_1, .int .i64 a0_2, .int .i64 a0_3, .int .i64 a0_4] (0, 0) _ rfl (by (with_reducible repeat (first | refine kN ?_ _ | refine kD ?_ | refine kA ?_ _)); refine blk_put (cs := #[.int .i64 a0_0, .int .i64 a0_1, .int .i64 a0_2, .int .i64 a0_3, .int .i64 0]) ?_ 4 _ rfl; (with_reducible repeat (first | refine kN ?_ _ | refine kD ?_ | refine kA ?_ _)); refine blk_put (cs := #[.int .i64 a0_0, .int .i64 a0_1, .int .i64 a0_2, .int .i64 0, .int .i64 0]) ?_ 3 _ rfl; (with_reducible repeat (first | refine kN ?_ _ | refine kD ?_ | refine kA ?_ _)); refine blk_put (cs := #[.int .i64 a0_0, .int .i64 a0_1, .int .i64 0, .int .i64 0, .int .i64 0]) ?_ 2 _ rfl; (with_reducible repeat (first | refine kN ?_ _ | refine kD ?_ | refine kA ?_ _)); refine blk_put (cs := #[.int .i64 a0_0, .int .i64 0, .int .i64 0, .int .i64 0, .int .i64 0]) ?_ 1 _ rfl; (with_reducible repeat (first | refine kN ?_ _ | refine kD ?_ | refine kA ?_ _)); refine blk_put (cs := #[.int .i64 0, .int .i64 0, .int .i64 0, .int .i64 0, .int .i64 0]) ?_ 0 _ rfl; (with_reducible repeat (first | refine kN ?_ _ | refine kD ?_ | refine kA ?_ _)); refine blk_far ?_ NB203_204.out _; (with_reducible repeat (first | refine kN ?_ _ | refine kD ?_ | refine kA ?_ _)); refine blk_far ?_ NB203_204.out _; (with_reducible repeat (first | refine kN ?_ _ | refine kD ?_ | refine kA ?_ _)); refine blk_far ?_ NB203_204.out _; (with_reducible repeat (first | refine kN ?_ _ | refine kD ?_ | refine kA ?_ _)); refine blk_far ?_ NB203_204.out _; (with_reducible repeat (first | refine kN ?_ _ | refine kD ?_ | refine kA ?_ _)); refine blk_far ?_ NB203_204.out _; exact qK BK203.out) Try.underlying138 rfl (by kernel_rfl)) rfl ?_
 exact ⟨by first | rfl | (simp [errW_none, errW_some] <;> rfl) | (simp [*, errW_none, errW_some] <;> rfl), by repeat (first | (with_reducible first | exact HB.out | apply bA | apply bN | apply b1 | refine bS ?_ GE202.out | refine bS ?_ GE203.out | refine bS ?_ GE204.out) | exact HB.out)⟩
/-! ### laws_toHandS: function 50 -/
def laws_toHandS.l0 : Nat → List (S145) → List (S138) → Int → Option ((List (S138)))
 | 0, _, _, _ => none
 | k + 1, x0, x3, x4 => if x4 < (x0.length : Int) then (if 0 ≤ x4 then ((laws_toHand.f ((rd_T145 x0 x4).f0) ((rd_T145 x0 x4).f1) ((rd_T145 x0 x4).f2) ((rd_T145 x0 x4).f3) ((rd_T145 x0 x4).f4)).bind fun bt209 => (if x4 < (x3.length : Int) then (laws_toHandS.l0 k x0 (x3.set (x4 : Int).toNat (⟨bt209.1, bt209.2.1, bt209.2.2.1, bt209.2.2.2.1, bt209.2.2.2.2⟩ : S138)) (wrap64 (x4 + 1))) else (none))) else (none)) else (some x3)
def laws_toHandS.f (k : Nat) (l0 : List (S145)) : Option ((List (S138))) := if 0 ≤ (l0.length : Int) then (if ((l0.length : Int) : Int).toNat ≤ 7036874417766 then (laws_toHandS.l0 k l0 (List.replicate ((l0.length : Int) : Int).toNat z138) 0) else (none)) else (none)
set_option maxHeartbeats 8000000 in
set_option maxRecDepth 100000 in
theorem laws_toHandS.calls (k : Nat) (A0 : Option Addr) (c0 : Nat) (l0 : List (S145)) (r : List (S138)) (w : World) (hr0 : Kd.C k145 w A0 l0.length l0) (hc0 : l0.length ≤ c0) (h : laws_toHandS.f k l0 = some r) :
  Calls Try.prog 50 #[.slice A0 l0.length c0] w fun e w' => ∃ v0_ : Value, e = .returned (v0_) ∧ Kd.R k138 138 w' w.heap.size (fun _ => True) v0_ r ∧ Below w.heap.size w w' := by
 have hu145 := Try.underlying145
 have hu138 := Try.underlying138
 have HR0 := zK hr0
 have HC0 := zK hc0
 clear hr0 hc0
 have HB := zK (Below.refl w.heap.size w)
 have H : (if 0 ≤ (l0.length : Int) then (if ((l0.length : Int) : Int).toNat ≤ 7036874417766 then (laws_toHandS.l0 k l0 (List.replicate ((l0.length : Int) : Int).toNat z138) 0) else (none)) else (none)) = some r := h
 clear h
 by_cases c2 : 0 ≤ (l0.length : Int)
 rotate_left
 ·rw [if_neg c2] at H
  exact absurd H (by simp)
 rw [if_pos c2] at H
 have c2b0 := eq_true c2
 have c2b1 : decide (0 ≤ (l0.length : Int)) = true := decide_eq_true c2
 clear c2
 by_cases c3 : ((l0.length : Int) : Int).toNat ≤ 7036874417766
 rotate_left
 ·rw [if_neg c3] at H
  exact absurd H (by simp)
 rw [if_pos c3] at H
 have c3b0 := eq_true c3
 have c3b1 : decide (((l0.length : Int) : Int).toNat ≤ 7036874417766) = true := decide_eq_true c3
 clear c3
 obtain ⟨y205, hy205⟩ : ∃ y_ : List (S138), y_ = (List.replicate ((l0.length : Int) : Int).toNat z138) := ⟨_, rfl⟩
 replace H : (laws_toHandS.l0 k l0 y205 0) = some r := by first | (rw [hy205]; with_reducible exact H) | (have H2_ := (Option.bind_some _ _).symm.trans H; rw [hy205]; with_reducible exact H2_) | (have H2_ := (Option.bind_some _ _).symm.trans H; with_reducible exact H2_) | with_reducible exact H | (rw [hy205]; exact H) | exact H
 have Ny205 := zK hy205
 clear hy205
 have H' := zK H
 clear H
 go_enter Try.func50, Try.ntmps50
 go_wp2_with (first | ((with_reducible refine gate_dst (N := 7) rfl ?_); refine Kd.R_make k138 _ 138 rfl (N := 7) rfl 51 _ _ rfl (l0.length : Int) rfl rfl Try.underlying51 (.agg #[(.int .i64 0), (.int .i64 0), (.int .i64 0), (.int .i64 0), (.int .i64 0)]) 40 info138 rfl (by decide) (by omega) z138 (ok := fun _ => True) (okp := fun _ => True) (k138_mkM _ _ _ z138 ) (fun _ hk => hk) trivial (oD M1) (Nat.le_trans (Nat.mul_le_mul_right _ (oD M1 : (l0.length : Int).toNat ≤ 7036874417766)) (by omega)) (Below.refl _ _) (Nat.le_refl _) ?_; intro v206 w4 ho5 hb hg_ hnew_; clear hg_ hnew_; (first | rw [← Ny205.out] at ho5 | (simp only [Int.reduceToNat] at ho5; rw [← Ny205.out] at ho5)); have n0_ := zK (Kd.R_lower ho5 (bZ (qB HB.out))); have n1_ := zK (bT (qB HB.out) hb); clear HB; have HO207 := n0_; have HB := n1_; clear n0_ n1_; clear hb ho5))
 go_loopg [4] k (fun kq v4 w' => ∃ (x3_1 : List (S138)) (x4_1 : Int), v4 = .int .i64 x4_1 ∧ Aside0 (laws_toHandS.l0 kq l0 x3_1 x4_1 = some r) ∧ Aside0 (kq ≤ k) ∧ Aside0 (Kd.R k138 138 w' w.heap.size (fun _ => True) v206 x3_1) ∧ Aside0 (Below w.heap.size w w'))
 case atStart => exact ⟨(y205), (0), M3, H', ⟨Nat.le_refl _⟩, ⟨by exact Kd.qR HO207.out⟩, ⟨by exact qB HB.out⟩⟩
 case round =>
  clear H'
  try clear c2
  try clear c2b0
  try clear c2b1
  try clear p2
  try clear c3
  try clear c3b0
  try clear c3b1
  try clear c5
  obtain ⟨x3_1, x4_1, rfl, HA, HK1, HO_3, HB⟩ := hrel
  cases gk with
  | zero => exact absurd HA.out (by simp [laws_toHandS.l0])
  | succ k1 =>
   have H := HA.out
   clear HA
   simp only [laws_toHandS.l0] at H
   by_cases c6 : x4_1 < (l0.length : Int)
   rotate_left
   ·rw [if_neg c6] at H
    have c6b0 : decide (x4_1 < (l0.length : Int)) = false := decide_eq_false c6
    clear c6
    obtain rfl := Option.some.inj H
    go_wp2
    go_ret
    exact ⟨_, by first | rfl | (simp [errW_none, errW_some] <;> rfl) | (simp [*, errW_none, errW_some] <;> rfl), by exact Kd.qR HO_3.out, by exact qB HB.out⟩
   rw [if_pos c6] at H
   have c6b0 : decide (x4_1 < (l0.length : Int)) = true := decide_eq_true c6
   clear c6
   by_cases c7 : 0 ≤ x4_1
   rotate_left
   ·rw [if_neg c7] at H
    exact absurd H (by simp)
   rw [if_pos c7] at H
   have c7b0 : decide (0 ≤ x4_1) = true := decide_eq_true c7
   clear c7
   replace H := Option.bind_eq_some_iff.mp H
   obtain ⟨⟨t209, t210, t211, t212, t213⟩, A80, H⟩ := H
   replace H : (if x4_1 < (x3_1.length : Int) then (laws_toHandS.l0 k1 l0 (x3_1.set (x4_1 : Int).toNat (⟨t209, t210, t211, t212, t213⟩ : S138)) (wrap64 (x4_1 + 1))) else (none)) = some r := H
   have A8 := zK A80
   clear A80
   by_cases c9 : x4_1 < (x3_1.length : Int)
   rotate_left
   ·rw [if_neg c9] at H
    exact absurd H (by simp)
   rw [if_pos c9] at H
   have c9b0 : decide (x4_1 < (x3_1.length : Int)) = true := decide_eq_true c9
   clear c9
   obtain ⟨y214, hy214⟩ : ∃ y_ : List (S138), y_ = (x3_1.set (x4_1 : Int).toNat (⟨t209, t210, t211, t212, t213⟩ : S138)) := ⟨_, rfl⟩
   replace H : (laws_toHandS.l0 k1 l0 y214 (wrap64 (x4_1 + 1))) = some r := by first | (rw [hy214]; with_reducible exact H) | (have H2_ := (Option.bind_some _ _).symm.trans H; rw [hy214]; with_reducible exact H2_) | (have H2_ := (Option.bind_some _ _).symm.trans H; with_reducible exact H2_) | with_reducible exact H | (rw [hy214]; exact H) | exact H
   have Ny214 := zK hy214
   clear hy214
   have H' := zK H
   clear H
   have p208 : 0 ≤ (x4_1 : Int) := oD M1
   have q208 : x4_1 < (l0.length : Int) := oD M1
   obtain ⟨ad208, e208, hx208_0, hx208_1, hx208_2, hx208_3, hx208_4⟩ := at_T145 HR0.out x4_1 p208 q208
   cases e208
   replace hx208_0 := (HB.out.cell (bL w hx208_0)).trans hx208_0
   replace hx208_1 := (HB.out.cell (bL w hx208_1)).trans hx208_1
   replace hx208_2 := (HB.out.cell (bL w hx208_2)).trans hx208_2
   replace hx208_3 := (HB.out.cell (bL w hx208_3)).trans hx208_3
   replace hx208_4 := (HB.out.cell (bL w hx208_4)).trans hx208_4
   replace p208 := eq_true p208
   replace q208 := eq_true q208
   go_wp2_with (first | ((with_reducible refine gate_callee (f := 112) rfl ?_); refine goesL_ (some 20) rfl rfl Try.func112 (by kernel_rfl) rfl #[.agg #[.int .i64 ((rd_T145 l0 x4_1).f0), .int .i64 ((rd_T145 l0 x4_1).f1), .int .i64 ((rd_T145 l0 x4_1).f2), .int .i64 ((rd_T145 l0 x4_1).f3), .int .i64 ((rd_T145 l0 x4_1).f4)]] rfl M0 ?_; (with_reducible refine (laws_toHand.calls ((rd_T145 l0 x4_1).f0) ((rd_T145 l0 x4_1).f1) ((rd_T145 l0 x4_1).f2) ((rd_T145 l0 x4_1).f3) ((rd_T145 l0 x4_1).f4) t209 t210 t211 t212 t213 _ A8.out).mono ?_); rintro e w11 ⟨rfl, hb⟩; refine ⟨_, rfl, ?_⟩; have n0_ := zK (Kd.R_below (Kd.qR HO_3.out) hb); have n1_ := zK (bT (qB HB.out) hb); clear HO_3 HB; have HO_3 := n0_; have HB := n1_; clear n0_ n1_; (try clear hb); (try clear hb2); (try clear hk); (try clear hi); have p10 : 0 ≤ (x4_1 : Int) := oD M1; have q10 : (x4_1 : Int) < ((x3_1.length : Int) : Int) := oD M1; obtain ⟨go10, co10, eo10, gb10, gl10, cl10, HG10⟩ := Kd.R_form HO_3.out (by omega); (first | cases eo10 | (injection eo10 with ea_ en_ ec_; (first | subst ea_ | (injection ea_ with ea_; subst ea_)); subst ec_; clear en_)); have GB10 := zK gb10; have GG10 := zK HG10; clear gb10 gl10 HG10; obtain ⟨ce10, hcl10, hM10, hcc10, hfr10⟩ := Kd.R_elem HO_3.out z138 (x4_1 : Int) p10 q10; obtain rfl := k138_openM hM10; have hx10_0 : w11.cell? ⟨go10, (x4_1 : Int).toNat * 5, none⟩ = some (.int .i64 ((rd_T138 x3_1 x4_1).f0)) := hcc10 0 _ rfl; have hx10_1 : w11.cell? ⟨go10, (x4_1 : Int).toNat * 5 + 1, none⟩ = some (.int .i64 ((rd_T138 x3_1 x4_1).f1)) := hcc10 1 _ rfl; have hx10_2 : w11.cell? ⟨go10, (x4_1 : Int).toNat * 5 + 2, none⟩ = some (.int .i64 ((rd_T138 x3_1 x4_1).f2)) := hcc10 2 _ rfl; have hx10_3 : w11.cell? ⟨go10, (x4_1 : Int).toNat * 5 + 3, none⟩ = some (.int .i64 ((rd_T138 x3_1 x4_1).f3)) := hcc10 3 _ rfl; have hx10_4 : w11.cell? ⟨go10, (x4_1 : Int).toNat * 5 + 4, none⟩ = some (.int .i64 ((rd_T138 x3_1 x4_1).f4)) := hcc10 4 _ rfl; have hf10_0 : w11.frozen? ⟨go10, (x4_1 : Int).toNat * 5, none⟩ = false := hfr10 0; have hf10_1 : w11.frozen? ⟨go10, (x4_1 : Int).toNat * 5 + 1, none⟩ = false := hfr10 1; have hf10_2 : w11.frozen? ⟨go10, (x4_1 : Int).toNat * 5 + 2, none⟩ = false := hfr10 2; have hf10_3 : w11.frozen? ⟨go10, (x4_1 : Int).toNat * 5 + 3, none⟩ = false := hfr10 3; have hf10_4 : w11.frozen? ⟨go10, (x4_1 : Int).toNat * 5 + 4, none⟩ = false := hfr10 4; clear hcl10 hcc10 hfr10 hM10; replace p10 := eq_true p10; replace q10 := eq_true q10; have HX12 := zK (show Kd.R k138 138 w11 w.heap.size (fun _ => True) (.slice (some ⟨go10, 0, none⟩) x3_1.length co10) x3_1 from (Kd.qR HO_3.out)); obtain ⟨ce12, hcl12, hM12, hcc12, hfr12⟩ := Kd.R_elem HX12.out z138 (x4_1 : Int) (oD M1) (by have h_ : (x4_1 : Int) < ((x3_1.length : Int) : Int) := oD M1; first | exact h_ | (have e_ := (Kd.R_reads' HO_3.out).1; omega) | simpa using h_); obtain rfl := k138_openM hM12; have HP12 := Kd.R_seg HX12.out (x4_1 : Int) (oD M1) (by have h_ : (x4_1 : Int) < ((x3_1.length : Int) : Int) := oD M1; first | exact h_ | (have e_ := (Kd.R_reads' HO_3.out).1; omega) | simpa using h_) (seg := [.int .i64 t209, .int .i64 t210, .int .i64 t211, .int .i64 t212, .int .i64 t213]) (j := 0) hcl12 hcc12 (show 5 ≤ 5 from by decide) (x' := (⟨t209, t210, t211, t212, t213⟩ : S138)) (k138_mkM _ _ _ (⟨t209, t210, t211, t212, t213⟩ : S138) ) (fun _ hk => hk); have hx12_0 := hcc12 0 _ rfl; (try simp only [show (k138).sz = 5 from rfl, Nat.mul_one, Nat.add_zero] at hx12_0); have hf12_0 := hfr12 0; (try simp only [show (k138).sz = 5 from rfl, Nat.mul_one, Nat.add_zero] at hf12_0); have hx12_1 := hcc12 1 _ rfl; (try simp only [show (k138).sz = 5 from rfl, Nat.mul_one, Nat.add_zero] at hx12_1); have hf12_1 := hfr12 1; (try simp only [show (k138).sz = 5 from rfl, Nat.mul_one, Nat.add_zero] at hf12_1); have hx12_2 := hcc12 2 _ rfl; (try simp only [show (k138).sz = 5 from rfl, Nat.mul_one, Nat.add_zero] at hx12_2); have hf12_2 := hfr12 2; (try simp only [show (k138).sz = 5 from rfl, Nat.mul_one, Nat.add_zero] at hf12_2); have hx12_3 := hcc12 3 _ rfl; (try simp only [show (k138).sz = 5 from rfl, Nat.mul_one, Nat.add_zero] at hx12_3); have hf12_3 := hfr12 3; (try simp only [show (k138).sz = 5 from rfl, Nat.mul_one, Nat.add_zero] at hf12_3); have hx12_4 := hcc12 4 _ rfl; (try simp only [show (k138).sz = 5 from rfl, Nat.mul_one, Nat.add_zero] at hx12_4); have hf12_4 := hfr12 4; (try simp only [show (k138).sz = 5 from rfl, Nat.mul_one, Nat.add_zero] at hf12_4); clear hcl12 hcc12 hfr12 hM12) | ((with_reducible refine gate_store (t := 138) (p := 21) rfl ?_); refine store_event (t := 138) (p := 21) (v := ?vo_w13) (w1 := (((((w11.setCell ⟨go10, (x4_1 : Int).toNat * 5, none⟩ (.int .i64 t209)).setCell ⟨go10, (x4_1 : Int).toNat * 5 + 1, none⟩ (.int .i64 t210)).setCell ⟨go10, (x4_1 : Int).toNat * 5 + 2, none⟩ (.int .i64 t211)).setCell ⟨go10, (x4_1 : Int).toNat * 5 + 3, none⟩ (.int .i64 t212)).setCell ⟨go10, (x4_1 : Int).toNat * 5 + 4, none⟩ (.int .i64 t213))) ?hg ?ho ?hn ?hr ?_; (case ho => rfl); (case hg => rfl); (case hn => rfl); (case hr => first | (go_simp; done) | (go_simp; rfl)); intro w13 hw; have hg : w11.grownBy w13 (some go10) := (by rw [hw]; exact HP12.2); have hp_ : Kd.R k138 138 w13 w.heap.size (fun _ => True) (.slice (some ⟨go10, 0, none⟩) x3_1.length co10) y214 := (by rw [hw, Ny214.out]; exact HP12.1); clear HP12; have n0_ := zK (hp_); have n1_ := zK ((by rw [hw]; exact bS (bS (bS (bS (bS (HB.out) GB10.out) GB10.out) GB10.out) GB10.out) GB10.out : Below w.heap.size w w13)); clear HO_3 HB; have HO_3 := n0_; have HB := n1_; clear n0_ n1_; clear hg hw hp_))
   go_roundg k1
   case measure => have := HK1.out; omega
   case rel => exact ⟨(y214), (wrap64 (x4_1 + 1)), M3, H', ⟨by have := HK1.out; omega⟩, ⟨by exact Kd.qR HO_3.out⟩, ⟨by exact qB HB.out⟩⟩
/-! ### laws_eqHand: function 113 -/
def laws_eqHand.f (a0_0 : Int) (a0_1 : Int) (a0_2 : Int) (a0_3 : Int) (a0_4 : Int) (a1_0 : Int) (a1_1 : Int) (a1_2 : Int) (a1_3 : Int) (a1_4 : Int) : Option (Bool) := if a0_0 = a1_0 then (if a0_1 = a1_1 then (if a0_2 = a1_2 then (if a0_3 = a1_3 then (if a0_4 = a1_4 then (some true) else (some false)) else (some false)) else (some false)) else (some false)) else (some false)
set_option maxHeartbeats 8000000 in
set_option maxRecDepth 100000 in
theorem laws_eqHand.calls (a0_0 : Int) (a0_1 : Int) (a0_2 : Int) (a0_3 : Int) (a0_4 : Int) (a1_0 : Int) (a1_1 : Int) (a1_2 : Int) (a1_3 : Int) (a1_4 : Int) (r : Bool) (w : World) (h : laws_eqHand.f a0_0 a0_1 a0_2 a0_3 a0_4 a1_0 a1_1 a1_2 a1_3 a1_4 = some r) :
  Calls Try.prog 113 #[.agg #[.int .i64 a0_0, .int .i64 a0_1, .int .i64 a0_2, .int .i64 a0_3, .int .i64 a0_4], .agg #[.int .i64 a1_0, .int .i64 a1_1, .int .i64 a1_2, .int .i64 a1_3, .int .i64 a1_4]] w fun e w' => e = .returned (.bool r) ∧ Below w.heap.size w w' := by
 have hu138 := Try.underlying138
 have HB := zK (Below.refl w.heap.size w)
 have H : (if a0_0 = a1_0 then (if a0_1 = a1_1 then (if a0_2 = a1_2 then (if a0_3 = a1_3 then (if a0_4 = a1_4 then (some true) else (some false)) else (some false)) else (some false)) else (some false)) else (some false)) = some r := h
 clear h
 by_cases c3 : a0_0 = a1_0
 rotate_left
 ·rw [if_neg c3] at H
  have c3b0 : (a0_0 == a1_0) = false := beq_eq_false_iff_ne.mpr c3
  have c3b1 : (a0_0 != a1_0) = true := bne_iff_ne.mpr c3
  obtain rfl := Option.some.inj H
  go_enter Try.func113, Try.ntmps113
  go_wp2_with (first | ((with_reducible refine gate_dst (N := 2) rfl ?_); refine box_event ?hg (N := 2) ?hd (cs := #[.int .i64 a0_0, .int .i64 a0_1, .int .i64 a0_2, .int .i64 a0_3, .int .i64 a0_4]) (t := 138) ?hr ?_; (case hd => rfl); (case hg => rfl); (case hr => first | (go_simp; done) | (go_simp; rfl)); intro gb215 hg w33 hbox hb; have n0_ := zK (bT (qB HB.out) hb); have n1_ := zK (hbox); have n2_ := zK ((by rw [hg]; exact (bZ (qB HB.out)) : w.heap.size ≤ gb215)); have n3_ := zK ((by rw [hg]; exact (bZ (qB HB.out)) : w.heap.size ≤ gb215)); clear HB; have HB := n0_; have BK215 := n1_; have GW215 := n2_; have GE215 := n3_; clear n0_ n1_ n2_ n3_; clear hb hbox hg) | ((with_reducible refine gate_dst (N := 3) rfl ?_); refine box_event ?hg (N := 3) ?hd (cs := #[.int .i64 a1_0, .int .i64 a1_1, .int .i64 a1_2, .int .i64 a1_3, .int .i64 a1_4]) (t := 138) ?hr ?_; (case hd => rfl); (case hg => rfl); (case hr => first | (go_simp; done) | (go_simp; rfl)); intro gb216 hg w34 hbox hb; have n0_ := zK (bB (g := gb215) (o := .cells #[.int .i64 a0_0, .int .i64 a0_1, .int .i64 a0_2, .int .i64 a0_3, .int .i64 a0_4] 138 (0, 0)) (qK BK215.out) hb); have n1_ := zK (bT M8 hb); have n2_ := zK (hbox); have n3_ := zK ((by rw [hg]; exact (bZ M8) : w.heap.size ≤ gb216)); have n4_ := zK ((by rw [hg]; exact (bZ M8) : w.heap.size ≤ gb216)); have n5_ := zK ((by rw [hg]; exact Nat.ne_of_lt (blk_lt (g := gb215) (o := .cells #[.int .i64 a0_0, .int .i64 a0_1, .int .i64 a0_2, .int .i64 a0_3, .int .i64 a0_4] 138 (0, 0)) (qK BK215.out)) : gb215 ≠ gb216)); have n6_ := zK ((by rw [hg]; exact Nat.ne_of_gt (blk_lt (g := gb215) (o := .cells #[.int .i64 a0_0, .int .i64 a0_1, .int .i64 a0_2, .int .i64 a0_3, .int .i64 a0_4] 138 (0, 0)) (qK BK215.out)) : gb216 ≠ gb215)); clear BK215 HB; have BK215 := n0_; have HB := n1_; have BK216 := n2_; have GW216 := n3_; have GE216 := n4_; have NB215_216 := n5_; have NB216_215 := n6_; clear n0_ n1_ n2_ n3_ n4_ n5_ n6_; clear hb hbox hg; have hnb35 := NB215_216.out; have hnc35 := NB216_215.out; have hcz36_0 : w34.cell? ⟨gb215, 0, none⟩ = some (.int .i64 a0_0) := (bc BK215.out 0).trans rfl; have hcz36_1 : w34.cell? ⟨gb215, 1, none⟩ = some (.int .i64 a0_1) := (bc BK215.out 1).trans rfl; have hcz36_2 : w34.cell? ⟨gb215, 2, none⟩ = some (.int .i64 a0_2) := (bc BK215.out 2).trans rfl; have hcz36_3 : w34.cell? ⟨gb215, 3, none⟩ = some (.int .i64 a0_3) := (bc BK215.out 3).trans rfl; have hcz36_4 : w34.cell? ⟨gb215, 4, none⟩ = some (.int .i64 a0_4) := (bc BK215.out 4).trans rfl; have hfz36_0 := bf BK215.out 0; have hfz36_1 := bf BK215.out 1; have hfz36_2 := bf BK215.out 2; have hfz36_3 := bf BK215.out 3; have hfz36_4 := bf BK215.out 4; have hcz37_0 : w34.cell? ⟨gb216, 0, none⟩ = some (.int .i64 a1_0) := (bc BK216.out 0).trans rfl; have hcz37_1 : w34.cell? ⟨gb216, 1, none⟩ = some (.int .i64 a1_1) := (bc BK216.out 1).trans rfl; have hcz37_2 : w34.cell? ⟨gb216, 2, none⟩ = some (.int .i64 a1_2) := (bc BK216.out 2).trans rfl; have hcz37_3 : w34.cell? ⟨gb216, 3, none⟩ = some (.int .i64 a1_3) := (bc BK216.out 3).trans rfl; have hcz37_4 : w34.cell? ⟨gb216, 4, none⟩ = some (.int .i64 a1_4) := (bc BK216.out 4).trans rfl; have hfz37_0 := bf BK216.out 0; have hfz37_1 := bf BK216.out 1; have hfz37_2 := bf BK216.out 2; have hfz37_3 := bf BK216.out 3; have hfz37_4 := bf BK216.out 4))
  go_ret
  exact ⟨by first | rfl | (simp [errW_none, errW_some] <;> rfl) | (simp [*, errW_none, errW_some] <;> rfl), by repeat (first | (with_reducible first | exact HB.out | apply bA | apply bN | apply b1 | refine bS ?_ GE215.out | refine bS ?_ GE216.out) | exact HB.out)⟩

 rw [if_pos c3] at H
 have c3b0 : (a0_0 == a1_0) = true := beq_iff_eq.mpr c3
 have c3b1 : (a0_0 != a1_0) = false := bne_eq_false_iff_eq.mpr c3
 clear c3
 by_cases c4 : a0_1 = a1_1
 rotate_left
 ·rw [if_neg c4] at H
  have c4b0 : (a0_1 == a1_1) = false := beq_eq_false_iff_ne.mpr c4
  have c4b1 : (a0_1 != a1_1) = true := bne_iff_ne.mpr c4
  obtain rfl := Option.some.inj H
  go_enter Try.func113, Try.ntmps113
  go_wp2_with (first | ((with_reducible refine gate_dst (N := 2) rfl ?_); refine box_event ?hg (N := 2) ?hd (cs := #[.int .i64 a0_0, .int .i64 a0_1, .int .i64 a0_2, .int .i64 a0_3, .int .i64 a0_4]) (t := 138) ?hr ?_; (case hd => rfl); (case hg => rfl); (case hr => first | (go_simp; done) | (go_simp; rfl)); intro gb215 hg w28 hbox hb; have n0_ := zK (bT (qB HB.out) hb); have n1_ := zK (hbox); have n2_ := zK ((by rw [hg]; exact (bZ (qB HB.out)) : w.heap.size ≤ gb215)); have n3_ := zK ((by rw [hg]; exact (bZ (qB HB.out)) : w.heap.size ≤ gb215)); clear HB; have HB := n0_; have BK215 := n1_; have GW215 := n2_; have GE215 := n3_; clear n0_ n1_ n2_ n3_; clear hb hbox hg) | ((with_reducible refine gate_dst (N := 3) rfl ?_); refine box_event ?hg (N := 3) ?hd (cs := #[.int .i64 a1_0, .int .i64 a1_1, .int .i64 a1_2, .int .i64 a1_3, .int .i64 a1_4]) (t := 138) ?hr ?_; (case hd => rfl); (case hg => rfl); (case hr => first | (go_simp; done) | (go_simp; rfl)); intro gb216 hg w29 hbox hb; have n0_ := zK (bB (g := gb215) (o := .cells #[.int .i64 a0_0, .int .i64 a0_1, .int .i64 a0_2, .int .i64 a0_3, .int .i64 a0_4] 138 (0, 0)) (qK BK215.out) hb); have n1_ := zK (bT M8 hb); have n2_ := zK (hbox); have n3_ := zK ((by rw [hg]; exact (bZ M8) : w.heap.size ≤ gb216)); have n4_ := zK ((by rw [hg]; exact (bZ M8) : w.heap.size ≤ gb216)); have n5_ := zK ((by rw [hg]; exact Nat.ne_of_lt (blk_lt (g := gb215) (o := .cells #[.int .i64 a0_0, .int .i64 a0_1, .int .i64 a0_2, .int .i64 a0_3, .int .i64 a0_4] 138 (0, 0)) (qK BK215.out)) : gb215 ≠ gb216)); have n6_ := zK ((by rw [hg]; exact Nat.ne_of_gt (blk_lt (g := gb215) (o := .cells #[.int .i64 a0_0, .int .i64 a0_1, .int .i64 a0_2, .int .i64 a0_3, .int .i64 a0_4] 138 (0, 0)) (qK BK215.out)) : gb216 ≠ gb215)); clear BK215 HB; have BK215 := n0_; have HB := n1_; have BK216 := n2_; have GW216 := n3_; have GE216 := n4_; have NB215_216 := n5_; have NB216_215 := n6_; clear n0_ n1_ n2_ n3_ n4_ n5_ n6_; clear hb hbox hg; have hnb30 := NB215_216.out; have hnc30 := NB216_215.out; have hcz31_0 : w29.cell? ⟨gb215, 0, none⟩ = some (.int .i64 a0_0) := (bc BK215.out 0).trans rfl; have hcz31_1 : w29.cell? ⟨gb215, 1, none⟩ = some (.int .i64 a0_1) := (bc BK215.out 1).trans rfl; have hcz31_2 : w29.cell? ⟨gb215, 2, none⟩ = some (.int .i64 a0_2) := (bc BK215.out 2).trans rfl; have hcz31_3 : w29.cell? ⟨gb215, 3, none⟩ = some (.int .i64 a0_3) := (bc BK215.out 3).trans rfl; have hcz31_4 : w29.cell? ⟨gb215, 4, none⟩ = some (.int .i64 a0_4) := (bc BK215.out 4).trans rfl; have hfz31_0 := bf BK215.out 0; have hfz31_1 := bf BK215.out 1; have hfz31_2 := bf BK215.out 2; have hfz31_3 := bf BK215.out 3; have hfz31_4 := bf BK215.out 4; have hcz32_0 : w29.cell? ⟨gb216, 0, none⟩ = some (.int .i64 a1_0) := (bc BK216.out 0).trans rfl; have hcz32_1 : w29.cell? ⟨gb216, 1, none⟩ = some (.int .i64 a1_1) := (bc BK216.out 1).trans rfl; have hcz32_2 : w29.cell? ⟨gb216, 2, none⟩ = some (.int .i64 a1_2) := (bc BK216.out 2).trans rfl; have hcz32_3 : w29.cell? ⟨gb216, 3, none⟩ = some (.int .i64 a1_3) := (bc BK216.out 3).trans rfl; have hcz32_4 : w29.cell? ⟨gb216, 4, none⟩ = some (.int .i64 a1_4) := (bc BK216.out 4).trans rfl; have hfz32_0 := bf BK216.out 0; have hfz32_1 := bf BK216.out 1; have hfz32_2 := bf BK216.out 2; have hfz32_3 := bf BK216.out 3; have hfz32_4 := bf BK216.out 4))
  go_ret
  exact ⟨by first | rfl | (simp [errW_none, errW_some] <;> rfl) | (simp [*, errW_none, errW_some] <;> rfl), by repeat (first | (with_reducible first | exact HB.out | apply bA | apply bN | apply b1 | refine bS ?_ GE215.out | refine bS ?_ GE216.out) | exact HB.out)⟩
 rw [if_pos c4] at H
 have c4b0 : (a0_1 == a1_1) = true := beq_iff_eq.mpr c4
 have c4b1 : (a0_1 != a1_1) = false := bne_eq_false_iff_eq.mpr c4
 clear c4
 by_cases c5 : a0_2 = a1_2
 rotate_left
 ·rw [if_neg c5] at H
  have c5b0 : (a0_2 == a1_2) = false := beq_eq_false_iff_ne.mpr c5
  have c5b1 : (a0_2 != a1_2) = true := bne_iff_ne.mpr c5
  obtain rfl := Option.some.inj H
  go_enter Try.func113, Try.ntmps113
  go_wp2_with (first | ((with_reducible refine gate_dst (N := 2) rfl ?_); refine box_event ?hg (N := 2) ?hd (cs := #[.int .i64 a0_0, .int .i64 a0_1, .int .i64 a0_2, .int .i64 a0_3, .int .i64 a0_4]) (t := 138) ?hr ?_; (case hd => rfl); (case hg => rfl); (case hr => first | (go_simp; done) | (go_simp; rfl)); intro gb215 hg w23 hbox hb; have n0_ := zK (bT (qB HB.out) hb); have n1_ := zK (hbox); have n2_ := zK ((by rw [hg]; exact (bZ (qB HB.out)) : w.heap.size ≤ gb215)); have n3_ := zK ((by rw [hg]; exact (bZ (qB HB.out)) : w.heap.size ≤ gb215)); clear HB; have HB := n0_; have BK215 := n1_; have GW215 := n2_; have GE215 := n3_; clear n0_ n1_ n2_ n3_; clear hb hbox hg) | ((with_reducible refine gate_dst (N := 3) rfl ?_); refine box_event ?hg (N := 3) ?hd (cs := #[.int .i64 a1_0, .int .i64 a1_1, .int .i64 a1_2, .int .i64 a1_3, .int .i64 a1_4]) (t := 138) ?hr ?_; (case hd => rfl); (case hg => rfl); (case hr => first | (go_simp; done) | (go_simp; rfl)); intro gb216 hg w24 hbox hb; have n0_ := zK (bB (g := gb215) (o := .cells #[.int .i64 a0_0, .int .i64 a0_1, .int .i64 a0_2, .int .i64 a0_3, .int .i64 a0_4] 138 (0, 0)) (qK BK215.out) hb); have n1_ := zK (bT M8 hb); have n2_ := zK (hbox); have n3_ := zK ((by rw [hg]; exact (bZ M8) : w.heap.size ≤ gb216)); have n4_ := zK ((by rw [hg]; exact (bZ M8) : w.heap.size ≤ gb216)); have n5_ := zK ((by rw [hg]; exact Nat.ne_of_lt (blk_lt (g := gb215) (o := .cells #[.int .i64 a0_0, .int .i64 a0_1, .int .i64 a0_2, .int .i64 a0_3, .int .i64 a0_4] 138 (0, 0)) (qK BK215.out)) : gb215 ≠ gb216)); have n6_ := zK ((by rw [hg]; exact Nat.ne_of_gt (blk_lt (g := gb215) (o := .cells #[.int .i64 a0_0, .int .i64 a0_1, .int .i64 a0_2, .int .i64 a0_3, .int .i64 a0_4] 138 (0, 0)) (qK BK215.out)) : gb216 ≠ gb215)); clear BK215 HB; have BK215 := n0_; have HB := n1_; have BK216 := n2_; have GW216 := n3_; have GE216 := n4_; have NB215_216 := n5_; have NB216_215 := n6_; clear n0_ n1_ n2_ n3_ n4_ n5_ n6_; clear hb hbox hg; have hnb25 := NB215_216.out; have hnc25 := NB216_215.out; have hcz26_0 : w24.cell? ⟨gb215, 0, none⟩ = some (.int .i64 a0_0) := (bc BK215.out 0).trans rfl; have hcz26_1 : w24.cell? ⟨gb215, 1, none⟩ = some (.int .i64 a0_1) := (bc BK215.out 1).trans rfl; have hcz26_2 : w24.cell? ⟨gb215, 2, none⟩ = some (.int .i64 a0_2) := (bc BK215.out 2).trans rfl; have hcz26_3 : w24.cell? ⟨gb215, 3, none⟩ = some (.int .i64 a0_3) := (bc BK215.out 3).trans rfl; have hcz26_4 : w24.cell? ⟨gb215, 4, none⟩ = some (.int .i64 a0_4) := (bc BK215.out 4).trans rfl; have hfz26_0 := bf BK215.out 0; have hfz26_1 := bf BK215.out 1; have hfz26_2 := bf BK215.out 2; have hfz26_3 := bf BK215.out 3; have hfz26_4 := bf BK215.out 4; have hcz27_0 : w24.cell? ⟨gb216, 0, none⟩ = some (.int .i64 a1_0) := (bc BK216.out 0).trans rfl; have hcz27_1 : w24.cell? ⟨gb216, 1, none⟩ = some (.int .i64 a1_1) := (bc BK216.out 1).trans rfl; have hcz27_2 : w24.cell? ⟨gb216, 2, none⟩ = some (.int .i64 a1_2) := (bc BK216.out 2).trans rfl; have hcz27_3 : w24.cell? ⟨gb216, 3, none⟩ = some (.int .i64 a1_3) := (bc BK216.out 3).trans rfl; have hcz27_4 : w24.cell? ⟨gb216, 4, none⟩ = some (.int .i64 a1_4) := (bc BK216.out 4).trans rfl; have hfz27_0 := bf BK216.out 0; have hfz27_1 := bf BK216.out 1; have hfz27_2 := bf BK216.out 2; have hfz27_3 := bf BK216.out 3; have hfz27_4 := bf BK216.out 4))
  go_ret
  exact ⟨by first | rfl | (simp [errW_none, errW_some] <;> rfl) | (simp [*, errW_none, errW_some] <;> rfl), by repeat (first | (with_reducible first | exact HB.out | apply bA | apply bN | apply b1 | refine bS ?_ GE215.out | refine bS ?_ GE216.out) | exact HB.out)⟩
 rw [if_pos c5] at H
 have c5b0 : (a0_2 == a1_2) = true := beq_iff_eq.mpr c5
 have c5b1 : (a0_2 != a1_2) = false := bne_eq_false_iff_eq.mpr c5
 clear c5
 by_cases c6 : a0_3 = a1_3
 rotate_left
 ·rw [if_neg c6] at H
  have c6b0 : (a0_3 == a1_3) = false := beq_eq_false_iff_ne.mpr c6
  have c6b1 : (a0_3 != a1_3) = true := bne_iff_ne.mpr c6
  obtain rfl := Option.some.inj H
  go_enter Try.func113, Try.ntmps113
  go_wp2_with (first | ((with_reducible refine gate_dst (N := 2) rfl ?_); refine box_event ?hg (N := 2) ?hd (cs := #[.int .i64 a0_0, .int .i64 a0_1, .int .i64 a0_2, .int .i64 a0_3, .int .i64 a0_4]) (t := 138) ?hr ?_; (case hd => rfl); (case hg => rfl); (case hr => first | (go_simp; done) | (go_simp; rfl)); intro gb215 hg w18 hbox hb; have n0_ := zK (bT (qB HB.out) hb); have n1_ := zK (hbox); have n2_ := zK ((by rw [hg]; exact (bZ (qB HB.out)) : w.heap.size ≤ gb215)); have n3_ := zK ((by rw [hg]; exact (bZ (qB HB.out)) : w.heap.size ≤ gb215)); clear HB; have HB := n0_; have BK215 := n1_; have GW215 := n2_; have GE215 := n3_; clear n0_ n1_ n2_ n3_; clear hb hbox hg) | ((with_reducible refine gate_dst (N := 3) rfl ?_); refine box_event ?hg (N := 3) ?hd (cs := #[.int .i64 a1_0, .int .i64 a1_1, .int .i64 a1_2, .int .i64 a1_3, .int .i64 a1_4]) (t := 138) ?hr ?_; (case hd => rfl); (case hg => rfl); (case hr => first | (go_simp; done) | (go_simp; rfl)); intro gb216 hg w19 hbox hb; have n0_ := zK (bB (g := gb215) (o := .cells #[.int .i64 a0_0, .int .i64 a0_1, .int .i64 a0_2, .int .i64 a0_3, .int .i64 a0_4] 138 (0, 0)) (qK BK215.out) hb); have n1_ := zK (bT M8 hb); have n2_ := zK (hbox); have n3_ := zK ((by rw [hg]; exact (bZ M8) : w.heap.size ≤ gb216)); have n4_ := zK ((by rw [hg]; exact (bZ M8) : w.heap.size ≤ gb216)); have n5_ := zK ((by rw [hg]; exact Nat.ne_of_lt (blk_lt (g := gb215) (o := .cells #[.int .i64 a0_0, .int .i64 a0_1, .int .i64 a0_2, .int .i64 a0_3, .int .i64 a0_4] 138 (0, 0)) (qK BK215.out)) : gb215 ≠ gb216)); have n6_ := zK ((by rw [hg]; exact Nat.ne_of_gt (blk_lt (g := gb215) (o := .cells #[.int .i64 a0_0, .int .i64 a0_1, .int .i64 a0_2, .int .i64 a0_3, .int .i64 a0_4] 138 (0, 0)) (qK BK215.out)) : gb216 ≠ gb215)); clear BK215 HB; have BK215 := n0_; have HB := n1_; have BK216 := n2_; have GW216 := n3_; have GE216 := n4_; have NB215_216 := n5_; have NB216_215 := n6_; clear n0_ n1_ n2_ n3_ n4_ n5_ n6_; clear hb hbox hg; have hnb20 := NB215_216.out; have hnc20 := NB216_215.out; have hcz21_0 : w19.cell? ⟨gb215, 0, none⟩ = some (.int .i64 a0_0) := (bc BK215.out 0).trans rfl; have hcz21_1 : w19.cell? ⟨gb215, 1, none⟩ = some (.int .i64 a0_1) := (bc BK215.out 1).trans rfl; have hcz21_2 : w19.cell? ⟨gb215, 2, none⟩ = some (.int .i64 a0_2) := (bc BK215.out 2).trans rfl; have hcz21_3 : w19.cell? ⟨gb215, 3, none⟩ = some (.int .i64 a0_3) := (bc BK215.out 3).trans rfl; have hcz21_4 : w19.cell? ⟨gb215, 4, none⟩ = some (.int .i64 a0_4) := (bc BK215.out 4).trans rfl; have hfz21_0 := bf BK215.out 0; have hfz21_1 := bf BK215.out 1; have hfz21_2 := bf BK215.out 2; have hfz21_3 := bf BK215.out 3; have hfz21_4 := bf BK215.out 4; have hcz22_0 : w19.cell? ⟨gb216, 0, none⟩ = some (.int .i64 a1_0) := (bc BK216.out 0).trans rfl; have hcz22_1 : w19.cell? ⟨gb216, 1, none⟩ = some (.int .i64 a1_1) := (bc BK216.out 1).trans rfl; have hcz22_2 : w19.cell? ⟨gb216, 2, none⟩ = some (.int .i64 a1_2) := (bc BK216.out 2).trans rfl; have hcz22_3 : w19.cell? ⟨gb216, 3, none⟩ = some (.int .i64 a1_3) := (bc BK216.out 3).trans rfl; have hcz22_4 : w19.cell? ⟨gb216, 4, none⟩ = some (.int .i64 a1_4) := (bc BK216.out 4).trans rfl; have hfz22_0 := bf BK216.out 0; have hfz22_1 := bf BK216.out 1; have hfz22_2 := bf BK216.out 2; have hfz22_3 := bf BK216.out 3; have hfz22_4 := bf BK216.out 4))
  go_ret
  exact ⟨by first | rfl | (simp [errW_none, errW_some] <;> rfl) | (simp [*, errW_none, errW_some] <;> rfl), by repeat (first | (with_reducible first | exact HB.out | apply bA | apply bN | apply b1 | refine bS ?_ GE215.out | refine bS ?_ GE216.out) | exact HB.out)⟩
 rw [if_pos c6] at H
 have c6b0 : (a0_3 == a1_3) = true := beq_iff_eq.mpr c6
 have c6b1 : (a0_3 != a1_3) = false := bne_eq_false_iff_eq.mpr c6
 clear c6
 by_cases c7 : a0_4 = a1_4
 rotate_left
 ·rw [if_neg c7] at H
  have c7b0 : (a0_4 == a1_4) = false := beq_eq_false_iff_ne.mpr c7
  have c7b1 : (a0_4 != a1_4) = true := bne_iff_ne.mpr c7
  obtain rfl := Option.some.inj H
  go_enter Try.func113, Try.ntmps113
  go_wp2_with (first | ((with_reducible refine gate_dst (N := 2) rfl ?_); refine box_event ?hg (N := 2) ?hd (cs := #[.int .i64 a0_0, .int .i64 a0_1, .int .i64 a0_2, .int .i64 a0_3, .int .i64 a0_4]) (t := 138) ?hr ?_; (case hd => rfl); (case hg => rfl); (case hr => first | (go_simp; done) | (go_simp; rfl)); intro gb215 hg w13 hbox hb; have n0_ := zK (bT (qB HB.out) hb); have n1_ := zK (hbox); have n2_ := zK ((by rw [hg]; exact (bZ (qB HB.out)) : w.heap.size ≤ gb215)); have n3_ := zK ((by rw [hg]; exact (bZ (qB HB.out)) : w.heap.size ≤ gb215)); clear HB; have HB := n0_; have BK215 := n1_; have GW215 := n2_; have GE215 := n3_; clear n0_ n1_ n2_ n3_; clear hb hbox hg) | ((with_reducible refine gate_dst (N := 3) rfl ?_); refine box_event ?hg (N := 3) ?hd (cs := #[.int .i64 a1_0, .int .i64 a1_1, .int .i64 a1_2, .int .i64 a1_3, .int .i64 a1_4]) (t := 138) ?hr ?_; (case hd => rfl); (case hg => rfl); (case hr => first | (go_simp; done) | (go_simp; rfl)); intro gb216 hg w14 hbox hb; have n0_ := zK (bB (g := gb215) (o := .cells #[.int .i64 a0_0, .int .i64 a0_1, .int .i64 a0_2, .int .i64 a0_3, .int .i64 a0_4] 138 (0, 0)) (qK BK215.out) hb); have n1_ := zK (bT M8 hb); have n2_ := zK (hbox); have n3_ := zK ((by rw [hg]; exact (bZ M8) : w.heap.size ≤ gb216)); have n4_ := zK ((by rw [hg]; exact (bZ M8) : w.heap.size ≤ gb216)); have n5_ := zK ((by rw [hg]; exact Nat.ne_of_lt (blk_lt (g := gb215) (o := .cells #[.int .i64 a0_0, .int .i64 a0_1, .int .i64 a0_2, .int .i64 a0_3, .int .i64 a0_4] 138 (0, 0)) (qK BK215.out)) : gb215 ≠ gb216)); have n6_ := zK ((by rw [hg]; exact Nat.ne_of_gt (blk_lt (g := gb215) (o := .cells #[.int .i64 a0_0, .int .i64 a0_1, .int .i64 a0_2, .int .i64 a0_3, .int .i64 a0_4] 138 (0, 0)) (qK BK215.out)) : gb216 ≠ gb215)); clear BK215 HB; have BK215 := n0_; have HB := n1_; have BK216 := n2_; have GW216 := n3_; have GE216 := n4_; have NB215_216 := n5_; have NB216_215 := n6_; clear n0_ n1_ n2_ n3_ n4_ n5_ n6_; clear hb hbox hg; have hnb15 := NB215_216.out; have hnc15 := NB216_215.out; have hcz16_0 : w14.cell? ⟨gb215, 0, none⟩ = some (.int .i64 a0_0) := (bc BK215.out 0).trans rfl; have hcz16_1 : w14.cell? ⟨gb215, 1, none⟩ = some (.int .i64 a0_1) := (bc BK215.out 1).trans rfl; have hcz16_2 : w14.cell? ⟨gb215, 2, none⟩ = some (.int .i64 a0_2) := (bc BK215.out 2).trans rfl; have hcz16_3 : w14.cell? ⟨gb215, 3, none⟩ = some (.int .i64 a0_3) := (bc BK215.out 3).trans rfl; have hcz16_4 : w14.cell? ⟨gb215, 4, none⟩ = some (.int .i64 a0_4) := (bc BK215.out 4).trans rfl; have hfz16_0 := bf BK215.out 0; have hfz16_1 := bf BK215.out 1; have hfz16_2 := bf BK215.out 2; have hfz16_3 := bf BK215.out 3; have hfz16_4 := bf BK215.out 4; have hcz17_0 : w14.cell? ⟨gb216, 0, none⟩ = some (.int .i64 a1_0) := (bc BK216.out 0).trans rfl; have hcz17_1 : w14.cell? ⟨gb216, 1, none⟩ = some (.int .i64 a1_1) := (bc BK216.out 1).trans rfl; have hcz17_2 : w14.cell? ⟨gb216, 2, none⟩ = some (.int .i64 a1_2) := (bc BK216.out 2).trans rfl; have hcz17_3 : w14.cell? ⟨gb216, 3, none⟩ = some (.int .i64 a1_3) := (bc BK216.out 3).trans rfl; have hcz17_4 : w14.cell? ⟨gb216, 4, none⟩ = some (.int .i64 a1_4) := (bc BK216.out 4).trans rfl; have hfz17_0 := bf BK216.out 0; have hfz17_1 := bf BK216.out 1; have hfz17_2 := bf BK216.out 2; have hfz17_3 := bf BK216.out 3; have hfz17_4 := bf BK216.out 4))
  go_ret
  exact ⟨by first | rfl | (simp [errW_none, errW_some] <;> rfl) | (simp [*, errW_none, errW_some] <;> rfl), by repeat (first | (with_reducible first | exact HB.out | apply bA | apply bN | apply b1 | refine bS ?_ GE215.out | refine bS ?_ GE216.out) | exact HB.out)⟩
 rw [if_pos c7] at H
 have c7b0 : (a0_4 == a1_4) = true := beq_iff_eq.mpr c7
 have c7b1 : (a0_4 != a1_4) = false := bne_eq_false_iff_eq.mpr c7
 clear c7
 obtain rfl := Option.some.inj H
 go_enter Try.func113, Try.ntmps113
 go_wp2_with (first | ((with_reducible refine gate_dst (N := 2) rfl ?_); refine box_event ?hg (N := 2) ?hd (cs := #[.int .i64 a0_0, .int .i64 a0_1, .int .i64 a0_2, .int .i64 a0_3, .int .i64 a0_4]) (t := 138) ?hr ?_; (case hd => rfl); (case hg => rfl); (case hr => first | (go_simp; done) | (go_simp; rfl)); intro gb215 hg w8 hbox hb; have n0_ := zK (bT (qB HB.out) hb); have n1_ := zK (hbox); have n2_ := zK ((by rw [hg]; exact (bZ (qB HB.out)) : w.heap.size ≤ gb215)); have n3_ := zK ((by rw [hg]; exact (bZ (qB HB.out)) : w.heap.size ≤ gb215)); clear HB; have HB := n0_; have BK215 := n1_; have GW215 := n2_; have GE215 := n3_; clear n0_ n1_ n2_ n3_; clear hb hbox hg) | ((with_reducible refine gate_dst (N := 3) rfl ?_); refine box_event ?hg (N := 3) ?hd (cs := #[.int .i64 a1_0, .int .i64 a1_1, .int .i64 a1_2, .int .i64 a1_3, .int .i64 a1_4]) (t := 138) ?hr ?_; (case hd => rfl); (case hg => rfl); (case hr => first | (go_simp; done) | (go_simp; rfl)); intro gb216 hg w9 hbox hb; have n0_ := zK (bB (g := gb215) (o := .cells #[.int .i64 a0_0, .int .i64 a0_1, .int .i64 a0_2, .int .i64 a0_3, .int .i64 a0_4] 138 (0, 0)) (qK BK215.out) hb); have n1_ := zK (bT M8 hb); have n2_ := zK (hbox); have n3_ := zK ((by rw [hg]; exact (bZ M8) : w.heap.size ≤ gb216)); have n4_ := zK ((by rw [hg]; exact (bZ M8) : w.heap.size ≤ gb216)); have n5_ := zK ((by rw [hg]; exact Nat.ne_of_lt (blk_lt (g := gb215) (o := .cells #[.int .i64 a0_0, .int .i64 a0_1, .int .i64 a0_2, .int .i64 a0_3, .int .i64 a0_4] 138 (0, 0)) (qK BK215.out)) : gb215 ≠ gb216)); have n6_ := zK ((by rw [hg]; exact Nat.ne_of_gt (blk_lt (g := gb215) (o := .cells #[.int .i64 a0_0, .int .i64 a0_1, .int .i64 a0_2, .int .i64 a0_3, .int .i64 a0_4] 138 (0, 0)) (qK BK215.out)) : gb216 ≠ gb215)); clear BK215 HB; have BK215 := n0_; have HB := n1_; have BK216 := n2_; have GW216 := n3_; have GE216 := n4_; have NB215_216 := n5_; have NB216_215 := n6_; clear n0_ n1_ n2_ n3_ n4_ n5_ n6_; clear hb hbox hg; have hnb10 := NB215_216.out; have hnc10 := NB216_215.out; have hcz11_0 : w9.cell? ⟨gb215, 0, none⟩ = some (.int .i64 a0_0) := (bc BK215.out 0).trans rfl; have hcz11_1 : w9.cell? ⟨gb215, 1, none⟩ = some (.int .i64 a0_1) := (bc BK215.out 1).trans rfl; have hcz11_2 : w9.cell? ⟨gb215, 2, none⟩ = some (.int .i64 a0_2) := (bc BK215.out 2).trans rfl; have hcz11_3 : w9.cell? ⟨gb215, 3, none⟩ = some (.int .i64 a0_3) := (bc BK215.out 3).trans rfl; have hcz11_4 : w9.cell? ⟨gb215, 4, none⟩ = some (.int .i64 a0_4) := (bc BK215.out 4).trans rfl; have hfz11_0 := bf BK215.out 0; have hfz11_1 := bf BK215.out 1; have hfz11_2 := bf BK215.out 2; have hfz11_3 := bf BK215.out 3; have hfz11_4 := bf BK215.out 4; have hcz12_0 : w9.cell? ⟨gb216, 0, none⟩ = some (.int .i64 a1_0) := (bc BK216.out 0).trans rfl; have hcz12_1 : w9.cell? ⟨gb216, 1, none⟩ = some (.int .i64 a1_1) := (bc BK216.out 1).trans rfl; have hcz12_2 : w9.cell? ⟨gb216, 2, none⟩ = some (.int .i64 a1_2) := (bc BK216.out 2).trans rfl; have hcz12_3 : w9.cell? ⟨gb216, 3, none⟩ = some (.int .i64 a1_3) := (bc BK216.out 3).trans rfl; have hcz12_4 : w9.cell? ⟨gb216, 4, none⟩ = some (.int .i64 a1_4) := (bc BK216.out 4).trans rfl; have hfz12_0 := bf BK216.out 0; have hfz12_1 := bf BK216.out 1; have hfz12_2 := bf BK216.out 2; have hfz12_3 := bf BK216.out 3; have hfz12_4 := bf BK216.out 4))
 go_ret
 exact ⟨by first | rfl | (simp [errW_none, errW_some] <;> rfl) | (simp [*, errW_none, errW_some] <;> rfl), by repeat (first | (with_reducible first | exact HB.out | apply bA | apply bN | apply b1 | refine bS ?_ GE215.out | refine bS ?_ GE216.out) | exact HB.out)⟩
end Go.Proofs.Ytejhjenlodclpaa.PFnExactSendAll
