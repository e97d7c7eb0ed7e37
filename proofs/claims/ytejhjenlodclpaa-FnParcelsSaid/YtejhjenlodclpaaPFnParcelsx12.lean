/- Walks of functions that FnParcels reaches: written by a tool of the kit for this claim, then shortened by a program of ours. -/
import Derived.Test.YtejhjenlodclpaaPFnParcelsx0
import Derived.Test.YtejhjenlodclpaaPFnParcelsx7
import Derived.Test.YtejhjenlodclpaaPFnParcelsx9
import Derived.Test.YtejhjenlodclpaaPFnParcelsx10
import Derived.Test.YtejhjenlodclpaaPFnParcelsx11
/- narrow -/
namespace Go.Proofs.Ytejhjenlodclpaa.PFnParcels
open Go.RowKit Go.Proofs.YtejhjenlodclpaaW.PrintWords Go.Proofs.YtejhjenlodclpaaW.PrintLast Go.Proofs.YtejhjenlodclpaaW.PrintMore
attribute [local go_sem] max2_int min2_int max_two min_two max_three min_three max_four min_four   -- for this text's walks alone
set_option linter.unusedVariables false
set_option linter.unusedSimpArgs false

/-! ### impl_SendParcel: function 32 -/
def impl_SendParcel.l0 : Nat → List (S138) → List Int → List (S138) → List Int → Int → Int → Int → Int → List Int → Int → Option ((List (S138)) × Bool)
 | 0, _, _, _, _, _, _, _, _, _, _ => none
 | k + 1, x0, x6, x7, x23, x24, x25, x419000, x419001, x419002, x419003 => if x25 < x24 then (if 0 ≤ x25 then (if x25 < (x23.length : Int) then ((impl_AddHand.f k x7 (rd x23 x25) 2 x419001 x419003 0).bind fun bt430 => (if bt430.2 = true then ((slices_Contains_int_int.f k x6 (rd x23 x25)).bind fun t434 => (if t434 = true then (impl_SendParcel.l0 k x0 x6 bt430.1 x23 x24 (wrap64 (x25 + 1)) x419000 x419001 x419002 x419003) else ((impl_Hand.f x0).bind fun t435 => (some (t435, false))))) else ((impl_Hand.f x0).bind fun t438 => (some (t438, false))))) else (none)) else (none)) else (some (x7, true))
def impl_SendParcel.f (k : Nat) (l0 : List (S138)) (a1_0 : Int) (a1_1 : Int) (l1_2 : List Int) (a1_3 : Int) : Option ((List (S138)) × Bool) := (impl_IsParcel.f k a1_0 a1_1 l1_2 a1_3).bind fun t419 => (if t419 = true then ((impl_InHouse.f k l0 a1_0).bind fun t423 => ((impl_Hand.f l0).bind fun t426 => (impl_SendParcel.l0 k l0 t423 t426 l1_2 (l1_2.length : Int) 0 a1_0 a1_1 l1_2 a1_3))) else ((impl_Hand.f l0).bind fun t420 => (some (t420, false))))
set_option maxHeartbeats 8000000 in
set_option maxRecDepth 100000 in
theorem impl_SendParcel.calls (k : Nat) (A0 : Option Addr) (c0 : Nat) (l0 : List (S138)) (a1_0 : Int) (a1_1 : Int) (A1_2 : Option Addr) (c1_2 : Nat) (l1_2 : List Int) (a1_3 : Int) (r1 : List (S138)) (r2 : Bool) (w : World) (hr0 : Kd.C k138 w A0 l0.length l0) (hc0 : l0.length ≤ c0) (hr1_2 : Kd.C (Kd.int .i64) w A1_2 l1_2.length l1_2) (hc1_2 : l1_2.length ≤ c1_2) (h : impl_SendParcel.f k l0 a1_0 a1_1 l1_2 a1_3 = some (r1, r2)) :
  Calls Try.prog 32 #[.slice A0 l0.length c0, .agg #[.int .i64 a1_0, .int .i64 a1_1, .slice A1_2 l1_2.length c1_2, .int .i64 a1_3]] w fun e w' => ∃ v0_ : Value, e = .returned (.tuple #[v0_, .bool r2]) ∧ Kd.R k138 138 w' w.heap.size (fun _ => True) v0_ r1 ∧ Below w.heap.size w w' := by
 have hu53 := Try.underlying53
 have hu138 := Try.underlying138
 have HR0 := zK hr0
 have HC0 := zK hc0
 clear hr0 hc0
 have HR1_2 := zK hr1_2
 have HC1_2 := zK hc1_2
 clear hr1_2 hc1_2
 have HB := zK (Below.refl w.heap.size w)
 have H : ((impl_IsParcel.f k a1_0 a1_1 l1_2 a1_3).bind fun t419 => (if t419 = true then ((impl_InHouse.f k l0 a1_0).bind fun t423 => ((impl_Hand.f l0).bind fun t426 => (impl_SendParcel.l0 k l0 t423 t426 l1_2 (l1_2.length : Int) 0 a1_0 a1_1 l1_2 a1_3))) else ((impl_Hand.f l0).bind fun t420 => (some (t420, false))))) = some (r1, r2) := h
 clear h
 replace H := Option.bind_eq_some_iff.mp H
 obtain ⟨t419, A30, H⟩ := H
 replace H : (if t419 = true then ((impl_InHouse.f k l0 a1_0).bind fun t423 => ((impl_Hand.f l0).bind fun t426 => (impl_SendParcel.l0 k l0 t423 t426 l1_2 (l1_2.length : Int) 0 a1_0 a1_1 l1_2 a1_3))) else ((impl_Hand.f l0).bind fun t420 => (some (t420, false)))) = some (r1, r2) := H
 have A3 := zK A30
 clear A30
 by_cases c4 : t419 = true
 rotate_left
 ·replace c4 := Bool.eq_false_iff.mpr c4
  subst c4
  have H1 : ((impl_Hand.f l0).bind fun t420 => (some (t420, false))) = some (r1, r2) := by rw [if_neg (show ¬ (false = true) by decide)] at H; exact H
  clear H
  have H := H1
  clear H1
  replace H := Option.bind_eq_some_iff.mp H
  obtain ⟨t420, A360, H⟩ := H
  replace H : (some (t420, false)) = some (r1, r2) := H
  have A36 := zK A360
  clear A360
  simp only [Option.some.injEq, Prod.mk.injEq] at H
  obtain ⟨rfl, rfl⟩ := H
  go_enter Try.func32, Try.ntmps32
  go_wp2_with (first | ((with_reducible refine gate_dst (N := 3) rfl ?_); refine box_event ?hg (N := 3) ?hd (cs := #[.int .i64 a1_0, .int .i64 a1_1, .slice A1_2 l1_2.length c1_2, .int .i64 a1_3]) (t := 53) ?hr ?_; (case hd => rfl); (case hg => rfl); (case hr => first | (go_simp; done) | (go_simp; rfl)); intro gb418 hg w37 hbox hb; have n0_ := zK (bT (by repeat (first | (with_reducible first | exact HB.out | apply bA | apply bN | apply b1) | exact HB.out)) hb); have n1_ := zK (hbox); have n2_ := zK ((by rw [hg]; exact (bZ (by repeat (first | (with_reducible first | exact HB.out | apply bA | apply bN | apply b1) | exact HB.out))) : w.heap.size ≤ gb418)); have n3_ := zK ((by rw [hg]; exact (bZ (by repeat (first | (with_reducible first | exact HB.out | apply bA | apply bN | apply b1) | exact HB.out))) : w.heap.size ≤ gb418)); clear HB; have HB := n0_; have BK418 := n1_; have GW418 := n2_; have GE418 := n3_; clear n0_ n1_ n2_ n3_; clear hb hbox hg; have hcz38_0 : w37.cell? ⟨gb418, 0, none⟩ = some (.int .i64 a1_0) := (bc BK418.out 0).trans rfl; have hcz38_1 : w37.cell? ⟨gb418, 1, none⟩ = some (.int .i64 a1_1) := (bc BK418.out 1).trans rfl; have hcz38_2 : w37.cell? ⟨gb418, 2, none⟩ = some (.slice A1_2 l1_2.length c1_2) := (bc BK418.out 2).trans rfl; have hcz38_3 : w37.cell? ⟨gb418, 3, none⟩ = some (.int .i64 a1_3) := (bc BK418.out 3).trans rfl; have hfz38_0 := bf BK418.out 0; have hfz38_1 := bf BK418.out 1; have hfz38_2 := bf BK418.out 2; have hfz38_3 := bf BK418.out 3) | ((with_reducible refine gate_callee (f := 100) rfl ?_); refine goesL_ (some 12) rfl rfl Try.func100 (by kernel_rfl) rfl #[.agg #[.int .i64 a1_0, .int .i64 a1_1, .slice A1_2 l1_2.length c1_2, .int .i64 a1_3]] rfl (by (try simp only [List.map_toArray, List.map_cons, List.map_nil]); first | done | rfl | (simp only [List.length_drop, List.length_take]; rfl)) ?_; (with_reducible refine (impl_IsParcel.calls k a1_0 a1_1 _ _ l1_2 a1_3 false _ ?side1 ?side2 A3.out).mono ?_); (case side1 => repeat (first | exact (Kd.C_below HR1_2.out HB.out) | (with_reducible refine Kd.CA ?_ _) | (with_reducible refine Kd.CN ?_ _) | (with_reducible refine Kd.CD ?_))); (case side2 => exact HC1_2.out); rintro e w39 ⟨rfl, hb⟩; refine ⟨_, rfl, ?_⟩; have n0_ := zK (bB (g := gb418) (o := .cells #[.int .i64 a1_0, .int .i64 a1_1, .slice A1_2 l1_2.length c1_2, .int .i64 a1_3] 53 (0, 0)) (by (with_reducible repeat (first | refine kN ?_ _ | refine kD ?_ | refine kA ?_ _)); exact BK418.out) hb); have n1_ := zK (bT (by repeat (first | (with_reducible first | exact HB.out | apply bA | apply bN | apply b1 | refine bS ?_ GE418.out) | exact HB.out)) hb); clear BK418; clear HB; have BK418 := n0_; have HB := n1_; clear n0_ n1_; (try clear hb); (try clear hb2); (try clear hk); (try clear hi)) | ((with_reducible refine gate_callee (f := 101) rfl ?_); refine goesL_ (some 15) rfl rfl Try.func101 (by kernel_rfl) rfl #[.slice A0 l0.length c0] rfl (by (try simp only [List.map_toArray, List.map_cons, List.map_nil]); first | done | rfl | (simp only [List.length_drop, List.length_take]; rfl)) ?_; (with_reducible refine (impl_Hand.calls _ _ l0 t420 _ ?side1 ?side2 A36.out).mono ?_); (case side1 => repeat (first | exact (Kd.C_below HR0.out HB.out) | (with_reducible refine Kd.CA ?_ _) | (with_reducible refine Kd.CN ?_ _) | (with_reducible refine Kd.CD ?_))); (case side2 => exact HC0.out); rintro e w40 ⟨v421, rfl, ho0, hb⟩; refine ⟨_, rfl, ?_⟩; have n0_ := zK (Kd.R_lower ho0 (bZ (by repeat (first | (with_reducible first | exact HB.out | apply bA | apply bN | apply b1 | refine bS ?_ GE418.out) | exact HB.out)))); have n1_ := zK (bB (g := gb418) (o := .cells #[.int .i64 a1_0, .int .i64 a1_1, .slice A1_2 l1_2.length c1_2, .int .i64 a1_3] 53 (0, 0)) (by (with_reducible repeat (first | refine kN ?_ _ | refine kD ?_ | refine kA ?_ _)); exact BK418.out) hb); have n2_ := zK (bT (by repeat (first | (with_reducible first | exact HB.out | apply bA | apply bN | apply b1 | refine bS ?_ GE418.out) | exact HB.out)) hb); clear BK418; clear HB; have HO422 := n0_; have BK418 := n1_; have HB := n2_; clear n0_ n1_ n2_; (try clear hb); (try clear hb2); (try clear hk); (try clear hi); (try clear ho0)))
  go_ret2
  exact ⟨_, by first | rfl | (simp [errW_none, errW_some] <;> rfl) | (simp [*, errW_none, errW_some] <;> rfl), by (with_reducible repeat (first | apply Kd.RA | apply Kd.RN | apply Kd.RD)); exact HO422.out, by repeat (first | (with_reducible first | exact HB.out | apply bA | apply bN | apply b1 | refine bS ?_ GE418.out) | exact HB.out)⟩
 subst c4
 have H1 : ((impl_InHouse.f k l0 a1_0).bind fun t423 => ((impl_Hand.f l0).bind fun t426 => (impl_SendParcel.l0 k l0 t423 t426 l1_2 (l1_2.length : Int) 0 a1_0 a1_1 l1_2 a1_3))) = some (r1, r2) := by rw [if_pos rfl] at H; exact H
 clear H
 have H := H1
 clear H1
 replace H := Option.bind_eq_some_iff.mp H
 obtain ⟨t423, A50, H⟩ := H
 replace H : ((impl_Hand.f l0).bind fun t426 => (impl_SendParcel.l0 k l0 t423 t426 l1_2 (l1_2.length : Int) 0 a1_0 a1_1 l1_2 a1_3)) = some (r1, r2) := H
 have A5 := zK A50
 clear A50
 replace H := Option.bind_eq_some_iff.mp H
 obtain ⟨t426, A60, H⟩ := H
 replace H : (impl_SendParcel.l0 k l0 t423 t426 l1_2 (l1_2.length : Int) 0 a1_0 a1_1 l1_2 a1_3) = some (r1, r2) := H
 have A6 := zK A60
 clear A60
 have H' := zK H
 clear H
 go_enter Try.func32, Try.ntmps32
 go_wp2_with (first | ((with_reducible refine gate_dst (N := 3) rfl ?_); refine box_event ?hg (N := 3) ?hd (cs := #[.int .i64 a1_0, .int .i64 a1_1, .slice A1_2 l1_2.length c1_2, .int .i64 a1_3]) (t := 53) ?hr ?_; (case hd => rfl); (case hg => rfl); (case hr => first | (go_simp; done) | (go_simp; rfl)); intro gb418 hg w7 hbox hb; have n0_ := zK (bT (by repeat (first | (with_reducible first | exact HB.out | apply bA | apply bN | apply b1) | exact HB.out)) hb); have n1_ := zK (hbox); have n2_ := zK ((by rw [hg]; exact (bZ (by repeat (first | (with_reducible first | exact HB.out | apply bA | apply bN | apply b1) | exact HB.out))) : w.heap.size ≤ gb418)); have n3_ := zK ((by rw [hg]; exact (bZ (by repeat (first | (with_reducible first | exact HB.out | apply bA | apply bN | apply b1) | exact HB.out))) : w.heap.size ≤ gb418)); clear HB; have HB := n0_; have BK418 := n1_; have GW418 := n2_; have GE418 := n3_; clear n0_ n1_ n2_ n3_; clear hb hbox hg; have hcz8_0 : w7.cell? ⟨gb418, 0, none⟩ = some (.int .i64 a1_0) := (bc BK418.out 0).trans rfl; have hcz8_1 : w7.cell? ⟨gb418, 1, none⟩ = some (.int .i64 a1_1) := (bc BK418.out 1).trans rfl; have hcz8_2 : w7.cell? ⟨gb418, 2, none⟩ = some (.slice A1_2 l1_2.length c1_2) := (bc BK418.out 2).trans rfl; have hcz8_3 : w7.cell? ⟨gb418, 3, none⟩ = some (.int .i64 a1_3) := (bc BK418.out 3).trans rfl; have hfz8_0 := bf BK418.out 0; have hfz8_1 := bf BK418.out 1; have hfz8_2 := bf BK418.out 2; have hfz8_3 := bf BK418.out 3) | ((with_reducible refine gate_callee (f := 100) rfl ?_); refine goesL_ (some 12) rfl rfl Try.func100 (by kernel_rfl) rfl #[.agg #[.int .i64 a1_0, .int .i64 a1_1, .slice A1_2 l1_2.length c1_2, .int .i64 a1_3]] rfl (by (try simp only [List.map_toArray, List.map_cons, List.map_nil]); first | done | rfl | (simp only [List.length_drop, List.length_take]; rfl)) ?_; (with_reducible refine (impl_IsParcel.calls k a1_0 a1_1 _ _ l1_2 a1_3 true _ ?side1 ?side2 A3.out).mono ?_); (case side1 => repeat (first | exact (Kd.C_below HR1_2.out HB.out) | (with_reducible refine Kd.CA ?_ _) | (with_reducible refine Kd.CN ?_ _) | (with_reducible refine Kd.CD ?_))); (case side2 => exact HC1_2.out); rintro e w9 ⟨rfl, hb⟩; refine ⟨_, rfl, ?_⟩; have n0_ := zK (bB (g := gb418) (o := .cells #[.int .i64 a1_0, .int .i64 a1_1, .slice A1_2 l1_2.length c1_2, .int .i64 a1_3] 53 (0, 0)) (by (with_reducible repeat (first | refine kN ?_ _ | refine kD ?_ | refine kA ?_ _)); exact BK418.out) hb); have n1_ := zK (bT (by repeat (first | (with_reducible first | exact HB.out | apply bA | apply bN | apply b1 | refine bS ?_ GE418.out) | exact HB.out)) hb); clear BK418; clear HB; have BK418 := n0_; have HB := n1_; clear n0_ n1_; (try clear hb); (try clear hb2); (try clear hk); (try clear hi); have hcz10_0 : w9.cell? ⟨gb418, 0, none⟩ = some (.int .i64 a1_0) := (bc BK418.out 0).trans rfl; have hcz10_1 : w9.cell? ⟨gb418, 1, none⟩ = some (.int .i64 a1_1) := (bc BK418.out 1).trans rfl; have hcz10_2 : w9.cell? ⟨gb418, 2, none⟩ = some (.slice A1_2 l1_2.length c1_2) := (bc BK418.out 2).trans rfl; have hcz10_3 : w9.cell? ⟨gb418, 3, none⟩ = some (.int .i64 a1_3) := (bc BK418.out 3).trans rfl; have hfz10_0 := bf BK418.out 0; have hfz10_1 := bf BK418.out 1; have hfz10_2 := bf BK418.out 2; have hfz10_3 := bf BK418.out 3) | ((with_reducible refine gate_callee (f := 33) rfl ?_); refine goesL_ (some 19) rfl rfl Try.func33 (by kernel_rfl) rfl #[.slice A0 l0.length c0, .int .i64 a1_0] rfl (by (try simp only [List.map_toArray, List.map_cons, List.map_nil]); first | done | rfl | (simp only [List.length_drop, List.length_take]; rfl)) ?_; (with_reducible refine (impl_InHouse.calls k _ _ l0 a1_0 t423 _ ?side1 ?side2 A5.out).mono ?_); (case side1 => repeat (first | exact (Kd.C_below HR0.out HB.out) | (with_reducible refine Kd.CA ?_ _) | (with_reducible refine Kd.CN ?_ _) | (with_reducible refine Kd.CD ?_))); (case side2 => exact HC0.out); rintro e w11 ⟨v424, rfl, ho0, hb⟩; refine ⟨_, rfl, ?_⟩; have n0_ := zK (Kd.R_lower ho0 (bZ (by repeat (first | (with_reducible first | exact HB.out | apply bA | apply bN | apply b1 | refine bS ?_ GE418.out) | exact HB.out)))); have n1_ := zK (bB (g := gb418) (o := .cells #[.int .i64 a1_0, .int .i64 a1_1, .slice A1_2 l1_2.length c1_2, .int .i64 a1_3] 53 (0, 0)) (by (with_reducible repeat (first | refine kN ?_ _ | refine kD ?_ | refine kA ?_ _)); exact BK418.out) hb); have n2_ := zK (bT (by repeat (first | (with_reducible first | exact HB.out | apply bA | apply bN | apply b1 | refine bS ?_ GE418.out) | exact HB.out)) hb); clear BK418; clear HB; have HO425 := n0_; have BK418 := n1_; have HB := n2_; clear n0_ n1_ n2_; (try clear hb); (try clear hb2); (try clear hk); (try clear hi); (try clear ho0)) | ((with_reducible refine gate_callee (f := 101) rfl ?_); refine goesL_ (some 21) rfl rfl Try.func101 (by kernel_rfl) rfl #[.slice A0 l0.length c0] rfl (by (try simp only [List.map_toArray, List.map_cons, List.map_nil]); first | done | rfl | (simp only [List.length_drop, List.length_take]; rfl)) ?_; (with_reducible refine (impl_Hand.calls _ _ l0 t426 _ ?side1 ?side2 A6.out).mono ?_); (case side1 => repeat (first | exact (Kd.C_below HR0.out HB.out) | (with_reducible refine Kd.CA ?_ _) | (with_reducible refine Kd.CN ?_ _) | (with_reducible refine Kd.CD ?_))); (case side2 => exact HC0.out); rintro e w12 ⟨v427, rfl, ho0, hb⟩; refine ⟨_, rfl, ?_⟩; have n0_ := zK (Kd.R_below (by (with_reducible repeat (first | apply Kd.RA | apply Kd.RN | apply Kd.RD)); exact HO425.out) hb); have n1_ := zK (Kd.R_lower ho0 (bZ (by repeat (first | (with_reducible first | exact HB.out | apply bA | apply bN | apply b1 | refine bS ?_ GE418.out) | exact HB.out)))); have n2_ := zK (bB (g := gb418) (o := .cells #[.int .i64 a1_0, .int .i64 a1_1, .slice A1_2 l1_2.length c1_2, .int .i64 a1_3] 53 (0, 0)) (by (with_reducible repeat (first | refine kN ?_ _ | refine kD ?_ | refine kA ?_ _)); exact BK418.out) hb); have n3_ := zK (bT (by repeat (first | (with_reducible first | exact HB.out | apply bA | apply bN | apply b1 | refine bS ?_ GE418.out) | exact HB.out)) hb); clear HO425; clear BK418; clear HB; have HO425 := n0_; have HO428 := n1_; have BK418 := n2_; have HB := n3_; clear n0_ n1_ n2_ n3_; (try clear hb); (try clear hb2); (try clear hk); (try clear hi); (try clear ho0); have hcz13_0 : w12.cell? ⟨gb418, 0, none⟩ = some (.int .i64 a1_0) := (bc BK418.out 0).trans rfl; have hcz13_1 : w12.cell? ⟨gb418, 1, none⟩ = some (.int .i64 a1_1) := (bc BK418.out 1).trans rfl; have hcz13_2 : w12.cell? ⟨gb418, 2, none⟩ = some (.slice A1_2 l1_2.length c1_2) := (bc BK418.out 2).trans rfl; have hcz13_3 : w12.cell? ⟨gb418, 3, none⟩ = some (.int .i64 a1_3) := (bc BK418.out 3).trans rfl; have hfz13_0 := bf BK418.out 0; have hfz13_1 := bf BK418.out 1; have hfz13_2 := bf BK418.out 2; have hfz13_3 := bf BK418.out 3))
 go_loopg [7, 25] k (fun kq v7 v25 w' => ∃ (x7_1 : List (S138)) (x25_1 : Int), v25 = .int .i64 x25_1 ∧ Aside0 (impl_SendParcel.l0 kq l0 t423 x7_1 l1_2 (l1_2.length : Int) x25_1 a1_0 a1_1 l1_2 a1_3 = some (r1, r2)) ∧ Aside0 (kq ≤ k) ∧ Aside0 (Kd.R (Kd.int .i64) 3 w' w.heap.size (fun _ => True) v424 t423) ∧ Aside0 (Kd.R k138 138 w' w.heap.size (fun _ => True) v7 x7_1) ∧ Aside0 (w'.heap[gb418]? = some (.cells #[.int .i64 a1_0, .int .i64 a1_1, (.slice A1_2 l1_2.length c1_2), .int .i64 a1_3] 53 (0, 0))) ∧ Aside0 (Below w.heap.size w w'))
 case atStart => exact ⟨(t426), (0), (by first | rfl | (simp; done) | (simp [*]; done)), H', ⟨Nat.le_refl _⟩, ⟨by (with_reducible repeat (first | apply Kd.RA | apply Kd.RN | apply Kd.RD)); exact HO425.out⟩, ⟨by (with_reducible repeat (first | apply Kd.RA | apply Kd.RN | apply Kd.RD)); exact HO428.out⟩, ⟨by (with_reducible repeat (first | refine kN ?_ _ | refine kD ?_ | refine kA ?_ _)); exact BK418.out⟩, ⟨by repeat (first | (with_reducible first | exact HB.out | apply bA | apply bN | apply b1 | refine bS ?_ GE418.out) | exact HB.out)⟩⟩
 case round =>
  clear H'
  try clear c1
  try clear p2
  try clear c3
  try clear c4
  try clear c10
  try clear hcz10_0
  try clear hcz10_1
  try clear hcz10_2
  try clear hcz10_3
  try clear hcz13_0
  try clear hcz13_1
  try clear hcz13_2
  try clear hcz13_3
  try clear hcz8_0
  try clear hcz8_1
  try clear hcz8_2
  try clear hcz8_3
  try clear hfz10_0
  try clear hfz10_1
  try clear hfz10_2
  try clear hfz10_3
  try clear hfz13_0
  try clear hfz13_1
  try clear hfz13_2
  try clear hfz13_3
  try clear hfz8_0
  try clear hfz8_1
  try clear hfz8_2
  try clear hfz8_3
  obtain ⟨x7_1, x25_1, rfl, HA, HK1, HO_6, HO_7, BK418, HB⟩ := hrel
  cases gk with
  | zero => exact absurd HA.out (by simp [impl_SendParcel.l0])
  | succ k1 =>
   have H := HA.out
   clear HA
   simp only [impl_SendParcel.l0] at H
   by_cases c14 : x25_1 < (l1_2.length : Int)
   rotate_left
   ·rw [if_neg c14] at H
    have c14b0 : decide (x25_1 < (l1_2.length : Int)) = false := decide_eq_false c14
    clear c14
    simp only [Option.some.injEq, Prod.mk.injEq] at H
    obtain ⟨rfl, rfl⟩ := H
    go_wp2
    go_ret2
    exact ⟨_, by first | rfl | (simp [errW_none, errW_some] <;> rfl) | (simp [*, errW_none, errW_some] <;> rfl), by (with_reducible repeat (first | apply Kd.RA | apply Kd.RN | apply Kd.RD)); exact HO_7.out, by repeat (first | (with_reducible first | exact HB.out | apply bA | apply bN | apply b1 | refine bS ?_ GE418.out) | exact HB.out)⟩
   rw [if_pos c14] at H
   have c14b0 : decide (x25_1 < (l1_2.length : Int)) = true := decide_eq_true c14
   clear c14
   by_cases c15 : 0 ≤ x25_1
   rotate_left
   ·rw [if_neg c15] at H
    exact absurd H (by simp)
   rw [if_pos c15] at H
   have c15b0 : decide (0 ≤ x25_1) = true := decide_eq_true c15
   clear c15
   by_cases c16 : x25_1 < (l1_2.length : Int)
   rotate_left
   ·rw [if_neg c16] at H
    exact absurd H (by simp)
   rw [if_pos c16] at H
   have c16b0 : decide (x25_1 < (l1_2.length : Int)) = true := decide_eq_true c16
   clear c16
   replace H := Option.bind_eq_some_iff.mp H
   obtain ⟨⟨t430, t433⟩, A170, H⟩ := H
   replace H : (if t433 = true then ((slices_Contains_int_int.f k1 t423 (rd l1_2 x25_1)).bind fun t434 => (if t434 = true then (impl_SendParcel.l0 k1 l0 t423 t430 l1_2 (l1_2.length : Int) (wrap64 (x25_1 + 1)) a1_0 a1_1 l1_2 a1_3) else ((impl_Hand.f l0).bind fun t435 => (some (t435, false))))) else ((impl_Hand.f l0).bind fun t438 => (some (t438, false)))) = some (r1, r2) := H
   have A17 := zK A170
   clear A170
   by_cases c18 : t433 = true
   rotate_left
   ·replace c18 := Bool.eq_false_iff.mpr c18
    subst c18
    have H1 : ((impl_Hand.f l0).bind fun t438 => (some (t438, false))) = some (r1, r2) := by rw [if_neg (show ¬ (false = true) by decide)] at H; exact H
    clear H
    have H := H1
    clear H1
    replace H := Option.bind_eq_some_iff.mp H
    obtain ⟨t438, A310, H⟩ := H
    replace H : (some (t438, false)) = some (r1, r2) := H
    have A31 := zK A310
    clear A310
    simp only [Option.some.injEq, Prod.mk.injEq] at H
    obtain ⟨rfl, rfl⟩ := H
    have p429 : 0 ≤ (x25_1 : Int) := oD (by first | (with_reducible assumption) | assumption)
    have q429 : x25_1 < (l1_2.length : Int) := oD (by first | (with_reducible assumption) | assumption)
    obtain ⟨ad429, e429, hx429_0⟩ := Kd.at_int HR1_2.out x25_1 p429 q429
    cases e429
    replace hx429_0 := (HB.out.cell (bL w hx429_0)).trans hx429_0
    replace p429 := eq_true p429
    replace q429 := eq_true q429
    have hcz32_0 : wr.cell? ⟨gb418, 0, none⟩ = some (.int .i64 a1_0) := (bc BK418.out 0).trans rfl
    have hcz32_1 : wr.cell? ⟨gb418, 1, none⟩ = some (.int .i64 a1_1) := (bc BK418.out 1).trans rfl
    have hcz32_2 : wr.cell? ⟨gb418, 2, none⟩ = some (.slice (some ad429) l1_2.length c1_2) := (bc BK418.out 2).trans rfl
    have hcz32_3 : wr.cell? ⟨gb418, 3, none⟩ = some (.int .i64 a1_3) := (bc BK418.out 3).trans rfl
    have hfz32_0 := bf BK418.out 0
    have hfz32_1 := bf BK418.out 1
    have hfz32_2 := bf BK418.out 2
    have hfz32_3 := bf BK418.out 3
    obtain ⟨Ao33, co33, eo33⟩ := Kd.R_slice HO_7.out
    subst eo33
    go_wp2_with (first | ((with_reducible refine gate_callee (f := 102) rfl ?_); refine goesL_ (some 37) rfl rfl Try.func102 (by kernel_rfl) rfl #[.slice Ao33 x7_1.length co33, .agg #[.int .i64 (rd l1_2 x25_1), .int .i64 2, .int .i64 a1_1, .int .i64 a1_3, .int .i64 0]] rfl (by (try simp only [List.map_toArray, List.map_cons, List.map_nil]); first | done | rfl | (simp only [List.length_drop, List.length_take]; rfl)) ?_; (with_reducible refine (impl_AddHand.calls k1 _ _ x7_1 (rd l1_2 x25_1) 2 a1_1 a1_3 0 t430 false _ ?side1 ?side2 A17.out).mono ?_); (case side1 => repeat (first | exact (Kd.R_reads' HO_7.out).2.2 | (with_reducible refine Kd.CA ?_ _) | (with_reducible refine Kd.CN ?_ _) | (with_reducible refine Kd.CD ?_))); (case side2 => exact (Kd.R_reads' HO_7.out).2.1); rintro e w34 ⟨v431, rfl, ho0, hb⟩; refine ⟨_, rfl, ?_⟩; have n0_ := zK (Kd.R_below (by (with_reducible repeat (first | apply Kd.RA | apply Kd.RN | apply Kd.RD)); exact HO_6.out) hb); have n1_ := zK (Kd.R_elder' (by (with_reducible repeat (first | apply Kd.RA | apply Kd.RN | apply Kd.RD)); exact HO_7.out) (Kd.R_base ho0) hb); have n2_ := zK (Kd.R_lower (Kd.R_new' ho0 (Kd.R_lt (by (with_reducible repeat (first | apply Kd.RA | apply Kd.RN | apply Kd.RD)); exact HO_7.out))) (bZ (by repeat (first | (with_reducible first | exact HB.out | apply bA | apply bN | apply b1 | refine bS ?_ GE418.out) | exact HB.out)))); have n3_ := zK (bB (g := gb418) (o := .cells #[.int .i64 a1_0, .int .i64 a1_1, .slice (some ad429) l1_2.length c1_2, .int .i64 a1_3] 53 (0, 0)) (by (with_reducible repeat (first | refine kN ?_ _ | refine kD ?_ | refine kA ?_ _)); exact BK418.out) hb); have n4_ := zK (bT (by repeat (first | (with_reducible first | exact HB.out | apply bA | apply bN | apply b1 | refine bS ?_ GE418.out) | exact HB.out)) hb); clear HO_6; clear HO_7; clear BK418; clear HB; have HO_6 := n0_; have HO_7 := n1_; have HO432 := n2_; have BK418 := n3_; have HB := n4_; clear n0_ n1_ n2_ n3_ n4_; (try clear hb); (try clear hb2); (try clear hk); (try clear hi); (try clear ho0)) | ((with_reducible refine gate_callee (f := 101) rfl ?_); refine goesL_ (some 49) rfl rfl Try.func101 (by kernel_rfl) rfl #[.slice A0 l0.length c0] rfl (by (try simp only [List.map_toArray, List.map_cons, List.map_nil]); first | done | rfl | (simp only [List.length_drop, List.length_take]; rfl)) ?_; (with_reducible refine (impl_Hand.calls _ _ l0 t438 _ ?side1 ?side2 A31.out).mono ?_); (case side1 => repeat (first | exact (Kd.C_below HR0.out HB.out) | (with_reducible refine Kd.CA ?_ _) | (with_reducible refine Kd.CN ?_ _) | (with_reducible refine Kd.CD ?_))); (case side2 => exact HC0.out); rintro e w35 ⟨v439, rfl, ho0, hb⟩; refine ⟨_, rfl, ?_⟩; have n0_ := zK (Kd.R_below (by (with_reducible repeat (first | apply Kd.RA | apply Kd.RN | apply Kd.RD)); exact HO_6.out) hb); have n1_ := zK (Kd.R_elder' (by (with_reducible repeat (first | apply Kd.RA | apply Kd.RN | apply Kd.RD)); exact HO_7.out) (Kd.R_base ho0) hb); have n2_ := zK (Kd.R_elder' (by (with_reducible repeat (first | apply Kd.RA | apply Kd.RN | apply Kd.RD)); exact HO432.out) (Kd.R_base ho0) hb); have n3_ := zK (Kd.R_lower (Kd.R_new' (Kd.R_new' ho0 (Kd.R_lt (by (with_reducible repeat (first | apply Kd.RA | apply Kd.RN | apply Kd.RD)); exact HO_7.out))) (Kd.R_lt (by (with_reducible repeat (first | apply Kd.RA | apply Kd.RN | apply Kd.RD)); exact HO432.out))) (bZ (by repeat (first | (with_reducible first | exact HB.out | apply bA | apply bN | apply b1 | refine bS ?_ GE418.out) | exact HB.out)))); have n4_ := zK (bB (g := gb418) (o := .cells #[.int .i64 a1_0, .int .i64 a1_1, .slice (some ad429) l1_2.length c1_2, .int .i64 a1_3] 53 (0, 0)) (by (with_reducible repeat (first | refine kN ?_ _ | refine kD ?_ | refine kA ?_ _)); exact BK418.out) hb); have n5_ := zK (bT (by repeat (first | (with_reducible first | exact HB.out | apply bA | apply bN | apply b1 | refine bS ?_ GE418.out) | exact HB.out)) hb); clear HO_6; clear HO_7; clear HO432; clear BK418; clear HB; have HO_6 := n0_; have HO_7 := n1_; have HO432 := n2_; have HO440 := n3_; have BK418 := n4_; have HB := n5_; clear n0_ n1_ n2_ n3_ n4_ n5_; (try clear hb); (try clear hb2); (try clear hk); (try clear hi); (try clear ho0)))
    go_ret2
    exact ⟨_, by first | rfl | (simp [errW_none, errW_some] <;> rfl) | (simp [*, errW_none, errW_some] <;> rfl), by (with_reducible repeat (first | apply Kd.RA | apply Kd.RN | apply Kd.RD)); exact Kd.R_mono HO440.out (fun _ hk => trivial), by repeat (first | (with_reducible first | exact HB.out | apply bA | apply bN | apply b1 | refine bS ?_ GE418.out) | exact HB.out)⟩
   subst c18
   have H1 : ((slices_Contains_int_int.f k1 t423 (rd l1_2 x25_1)).bind fun t434 => (if t434 = true then (impl_SendParcel.l0 k1 l0 t423 t430 l1_2 (l1_2.length : Int) (wrap64 (x25_1 + 1)) a1_0 a1_1 l1_2 a1_3) else ((impl_Hand.f l0).bind fun t435 => (some (t435, false))))) = some (r1, r2) := by rw [if_pos rfl] at H; exact H
   clear H
   have H := H1
   clear H1
   replace H := Option.bind_eq_some_iff.mp H
   obtain ⟨t434, A190, H⟩ := H
   replace H : (if t434 = true then (impl_SendParcel.l0 k1 l0 t423 t430 l1_2 (l1_2.length : Int) (wrap64 (x25_1 + 1)) a1_0 a1_1 l1_2 a1_3) else ((impl_Hand.f l0).bind fun t435 => (some (t435, false)))) = some (r1, r2) := H
   have A19 := zK A190
   clear A190
   by_cases c20 : t434 = true
   ·subst c20
    have H1 : (impl_SendParcel.l0 k1 l0 t423 t430 l1_2 (l1_2.length : Int) (wrap64 (x25_1 + 1)) a1_0 a1_1 l1_2 a1_3) = some (r1, r2) := by rw [if_pos rfl] at H; exact H
    clear H
    have H := H1
    clear H1
    have H' := zK H
    clear H
    have p429 : 0 ≤ (x25_1 : Int) := oD (by first | (with_reducible assumption) | assumption)
    have q429 : x25_1 < (l1_2.length : Int) := oD (by first | (with_reducible assumption) | assumption)
    obtain ⟨ad429, e429, hx429_0⟩ := Kd.at_int HR1_2.out x25_1 p429 q429
    cases e429
    replace hx429_0 := (HB.out.cell (bL w hx429_0)).trans hx429_0
    replace p429 := eq_true p429
    replace q429 := eq_true q429
    have hcz21_0 : wr.cell? ⟨gb418, 0, none⟩ = some (.int .i64 a1_0) := (bc BK418.out 0).trans rfl
    have hcz21_1 : wr.cell? ⟨gb418, 1, none⟩ = some (.int .i64 a1_1) := (bc BK418.out 1).trans rfl
    have hcz21_2 : wr.cell? ⟨gb418, 2, none⟩ = some (.slice (some ad429) l1_2.length c1_2) := (bc BK418.out 2).trans rfl
    have hcz21_3 : wr.cell? ⟨gb418, 3, none⟩ = some (.int .i64 a1_3) := (bc BK418.out 3).trans rfl
    have hfz21_0 := bf BK418.out 0
    have hfz21_1 := bf BK418.out 1
    have hfz21_2 := bf BK418.out 2
    have hfz21_3 := bf BK418.out 3
    obtain ⟨Ao22, co22, eo22⟩ := Kd.R_slice HO_7.out
    subst eo22
    go_wp2_with (first | ((with_reducible refine gate_callee (f := 102) rfl ?_); refine goesL_ (some 37) rfl rfl Try.func102 (by kernel_rfl) rfl #[.slice Ao22 x7_1.length co22, .agg #[.int .i64 (rd l1_2 x25_1), .int .i64 2, .int .i64 a1_1, .int .i64 a1_3, .int .i64 0]] rfl (by (try simp only [List.map_toArray, List.map_cons, List.map_nil]); first | done | rfl | (simp only [List.length_drop, List.length_take]; rfl)) ?_; (with_reducible refine (impl_AddHand.calls k1 _ _ x7_1 (rd l1_2 x25_1) 2 a1_1 a1_3 0 t430 true _ ?side1 ?side2 A17.out).mono ?_); (case side1 => repeat (first | exact (Kd.R_reads' HO_7.out).2.2 | (with_reducible refine Kd.CA ?_ _) | (with_reducible refine Kd.CN ?_ _) | (with_reducible refine Kd.CD ?_))); (case side2 => exact (Kd.R_reads' HO_7.out).2.1); rintro e w23 ⟨v431, rfl, ho0, hb⟩; refine ⟨_, rfl, ?_⟩; have n0_ := zK (Kd.R_below (by (with_reducible repeat (first | apply Kd.RA | apply Kd.RN | apply Kd.RD)); exact HO_6.out) hb); have n1_ := zK (Kd.R_elder' (by (with_reducible repeat (first | apply Kd.RA | apply Kd.RN | apply Kd.RD)); exact HO_7.out) (Kd.R_base ho0) hb); have n2_ := zK (Kd.R_lower (Kd.R_new' ho0 (Kd.R_lt (by (with_reducible repeat (first | apply Kd.RA | apply Kd.RN | apply Kd.RD)); exact HO_7.out))) (bZ (by repeat (first | (with_reducible first | exact HB.out | apply bA | apply bN | apply b1 | refine bS ?_ GE418.out) | exact HB.out)))); have n3_ := zK (bB (g := gb418) (o := .cells #[.int .i64 a1_0, .int .i64 a1_1, .slice (some ad429) l1_2.length c1_2, .int .i64 a1_3] 53 (0, 0)) (by (with_reducible repeat (first | refine kN ?_ _ | refine kD ?_ | refine kA ?_ _)); exact BK418.out) hb); have n4_ := zK (bT (by repeat (first | (with_reducible first | exact HB.out | apply bA | apply bN | apply b1 | refine bS ?_ GE418.out) | exact HB.out)) hb); clear HO_6; clear HO_7; clear BK418; clear HB; have HO_6 := n0_; have HO_7 := n1_; have HO432 := n2_; have BK418 := n3_; have HB := n4_; clear n0_ n1_ n2_ n3_ n4_; (try clear hb); (try clear hb2); (try clear hk); (try clear hi); (try clear ho0); obtain ⟨Ao24, co24, eo24⟩ := Kd.R_slice HO_6.out; subst eo24) | (go_at_call 103; (with_reducible refine (slices_Contains_int_int.calls k1 _ _ t423 (rd l1_2 x25_1) true _ ?side1 ?side2 A19.out).mono ?_); (case side1 => repeat (first | exact (Kd.R_reads' HO_6.out).2.2 | (with_reducible refine Kd.CA ?_ _) | (with_reducible refine Kd.CN ?_ _) | (with_reducible refine Kd.CD ?_))); (case side2 => exact (Kd.R_reads' HO_6.out).2.1); rintro e w' ⟨rfl, ⟨nd, rfl⟩⟩))
    go_roundg k1
    case measure => have := HK1.out; omega
    case rel => exact ⟨(t430), (wrap64 (x25_1 + 1)), (by first | rfl | (simp; done) | (simp [*]; done)), H', ⟨by have := HK1.out; omega⟩, ⟨by (with_reducible repeat (first | apply Kd.RA | apply Kd.RN | apply Kd.RD)); exact HO_6.out⟩, ⟨by (with_reducible repeat (first | apply Kd.RA | apply Kd.RN | apply Kd.RD)); exact Kd.R_mono HO432.out (fun _ hk => trivial)⟩, ⟨by (with_reducible repeat (first | refine kN ?_ _ | refine kD ?_ | refine kA ?_ _)); exact BK418.out⟩, ⟨by repeat (first | (with_reducible first | exact HB.out | apply bA | apply bN | apply b1 | refine bS ?_ GE418.out) | exact HB.out)⟩⟩
   replace c20 := Bool.eq_false_iff.mpr c20
   subst c20
   have H1 : ((impl_Hand.f l0).bind fun t435 => (some (t435, false))) = some (r1, r2) := by rw [if_neg (show ¬ (false = true) by decide)] at H; exact H
   clear H
   have H := H1
   clear H1
   replace H := Option.bind_eq_some_iff.mp H
   obtain ⟨t435, A250, H⟩ := H
   replace H : (some (t435, false)) = some (r1, r2) := H
   have A25 := zK A250
   clear A250
   simp only [Option.some.injEq, Prod.mk.injEq] at H
   obtain ⟨rfl, rfl⟩ := H
   have p429 : 0 ≤ (x25_1 : Int) := oD (by first | (with_reducible assumption) | assumption)
   have q429 : x25_1 < (l1_2.length : Int) := oD (by first | (with_reducible assumption) | assumption)
   obtain ⟨ad429, e429, hx429_0⟩ := Kd.at_int HR1_2.out x25_1 p429 q429
   cases e429
   replace hx429_0 := (HB.out.cell (bL w hx429_0)).trans hx429_0
   replace p429 := eq_true p429
   replace q429 := eq_true q429
   have hcz26_0 : wr.cell? ⟨gb418, 0, none⟩ = some (.int .i64 a1_0) := (bc BK418.out 0).trans rfl
   have hcz26_1 : wr.cell? ⟨gb418, 1, none⟩ = some (.int .i64 a1_1) := (bc BK418.out 1).trans rfl
   have hcz26_2 : wr.cell? ⟨gb418, 2, none⟩ = some (.slice (some ad429) l1_2.length c1_2) := (bc BK418.out 2).trans rfl
   have hcz26_3 : wr.cell? ⟨gb418, 3, none⟩ = some (.int .i64 a1_3) := (bc BK418.out 3).trans rfl
   have hfz26_0 := bf BK418.out 0
   have hfz26_1 := bf BK418.out 1
   have hfz26_2 := bf BK418.out 2
   have hfz26_3 := bf BK418.out 3
   obtain ⟨Ao27, co27, eo27⟩ := Kd.R_slice HO_7.out
   subst eo27
   go_wp2_with (first | ((with_reducible refine gate_callee (f := 102) rfl ?_); refine goesL_ (some 37) rfl rfl Try.func102 (by kernel_rfl) rfl #[.slice Ao27 x7_1.length co27, .agg #[.int .i64 (rd l1_2 x25_1), .int .i64 2, .int .i64 a1_1, .int .i64 a1_3, .int .i64 0]] rfl (by (try simp only [List.map_toArray, List.map_cons, List.map_nil]); first | done | rfl | (simp only [List.length_drop, List.length_take]; rfl)) ?_; (with_reducible refine (impl_AddHand.calls k1 _ _ x7_1 (rd l1_2 x25_1) 2 a1_1 a1_3 0 t430 true _ ?side1 ?side2 A17.out).mono ?_); (case side1 => repeat (first | exact (Kd.R_reads' HO_7.out).2.2 | (with_reducible refine Kd.CA ?_ _) | (with_reducible refine Kd.CN ?_ _) | (with_reducible refine Kd.CD ?_))); (case side2 => exact (Kd.R_reads' HO_7.out).2.1); rintro e w28 ⟨v431, rfl, ho0, hb⟩; refine ⟨_, rfl, ?_⟩; have n0_ := zK (Kd.R_below (by (with_reducible repeat (first | apply Kd.RA | apply Kd.RN | apply Kd.RD)); exact HO_6.out) hb); have n1_ := zK (Kd.R_elder' (by (with_reducible repeat (first | apply Kd.RA | apply Kd.RN | apply Kd.RD)); exact HO_7.out) (Kd.R_base ho0) hb); have n2_ := zK (Kd.R_lower (Kd.R_new' ho0 (Kd.R_lt (by (with_reducible repeat (first | apply Kd.RA | apply Kd.RN | apply Kd.RD)); exact HO_7.out))) (bZ (by repeat (first | (with_reducible first | exact HB.out | apply bA | apply bN | apply b1 | refine bS ?_ GE418.out) | exact HB.out)))); have n3_ := zK (bB (g := gb418) (o := .cells #[.int .i64 a1_0, .int .i64 a1_1, .slice (some ad429) l1_2.length c1_2, .int .i64 a1_3] 53 (0, 0)) (by (with_reducible repeat (first | refine kN ?_ _ | refine kD ?_ | refine kA ?_ _)); exact BK418.out) hb); have n4_ := zK (bT (by repeat (first | (with_reducible first | exact HB.out | apply bA | apply bN | apply b1 | refine bS ?_ GE418.out) | exact HB.out)) hb); clear HO_6; clear HO_7; clear BK418; clear HB; have HO_6 := n0_; have HO_7 := n1_; have HO432 := n2_; have BK418 := n3_; have HB := n4_; clear n0_ n1_ n2_ n3_ n4_; (try clear hb); (try clear hb2); (try clear hk); (try clear hi); (try clear ho0); obtain ⟨Ao29, co29, eo29⟩ := Kd.R_slice HO_6.out; subst eo29) | (go_at_call 103; (with_reducible refine (slices_Contains_int_int.calls k1 _ _ t423 (rd l1_2 x25_1) false _ ?side1 ?side2 A19.out).mono ?_); (case side1 => repeat (first | exact (Kd.R_reads' HO_6.out).2.2 | (with_reducible refine Kd.CA ?_ _) | (with_reducible refine Kd.CN ?_ _) | (with_reducible refine Kd.CD ?_))); (case side2 => exact (Kd.R_reads' HO_6.out).2.1); rintro e w' ⟨rfl, ⟨nd, rfl⟩⟩) | ((with_reducible refine gate_callee (f := 101) rfl ?_); refine goesL_ (some 49) rfl rfl Try.func101 (by kernel_rfl) rfl #[.slice A0 l0.length c0] rfl (by (try simp only [List.map_toArray, List.map_cons, List.map_nil]); first | done | rfl | (simp only [List.length_drop, List.length_take]; rfl)) ?_; (with_reducible refine (impl_Hand.calls _ _ l0 t435 _ ?side1 ?side2 A25.out).mono ?_); (case side1 => repeat (first | exact (Kd.C_below HR0.out (by repeat (first | (with_reducible first | exact HB.out | apply bA | apply bN | apply b1 | refine bS ?_ GE418.out) | exact HB.out))) | (with_reducible refine Kd.CA ?_ _) | (with_reducible refine Kd.CN ?_ _) | (with_reducible refine Kd.CD ?_))); (case side2 => exact HC0.out); rintro e w30 ⟨v436, rfl, ho0, hb⟩; refine ⟨_, rfl, ?_⟩; have n0_ := zK (Kd.R_below (by (with_reducible repeat (first | apply Kd.RA | apply Kd.RN | apply Kd.RD)); exact HO_6.out) hb); have n1_ := zK (Kd.R_elder' (by (with_reducible repeat (first | apply Kd.RA | apply Kd.RN | apply Kd.RD)); exact HO_7.out) (Kd.R_base ho0) hb); have n2_ := zK (Kd.R_elder' (by (with_reducible repeat (first | apply Kd.RA | apply Kd.RN | apply Kd.RD)); exact HO432.out) (Kd.R_base ho0) hb); have n3_ := zK (Kd.R_lower (Kd.R_new' (Kd.R_new' ho0 (Kd.R_lt (by (with_reducible repeat (first | apply Kd.RA | apply Kd.RN | apply Kd.RD)); exact HO_7.out))) (Kd.R_lt (by (with_reducible repeat (first | apply Kd.RA | apply Kd.RN | apply Kd.RD)); exact HO432.out))) (bZ (by repeat (first | (with_reducible first | exact HB.out | apply bA | apply bN | apply b1 | refine bS ?_ GE418.out) | exact HB.out)))); have n4_ := zK (bB (g := gb418) (o := .cells #[.int .i64 a1_0, .int .i64 a1_1, .slice (some ad429) l1_2.length c1_2, .int .i64 a1_3] 53 (0, 0)) (by (with_reducible repeat (first | refine kN ?_ _ | refine kD ?_ | refine kA ?_ _)); exact BK418.out) hb); have n5_ := zK (bT (by repeat (first | (with_reducible first | exact HB.out | apply bA | apply bN | apply b1 | refine bS ?_ GE418.out) | exact HB.out)) hb); clear HO_6; clear HO_7; clear HO432; clear BK418; clear HB; have HO_6 := n0_; have HO_7 := n1_; have HO432 := n2_; have HO437 := n3_; have BK418 := n4_; have HB := n5_; clear n0_ n1_ n2_ n3_ n4_ n5_; (try clear hb); (try clear hb2); (try clear hk); (try clear hi); (try clear ho0)))
   go_ret2
   exact ⟨_, by first | rfl | (simp [errW_none, errW_some] <;> rfl) | (simp [*, errW_none, errW_some] <;> rfl), by (with_reducible repeat (first | apply Kd.RA | apply Kd.RN | apply Kd.RD)); exact Kd.R_mono HO437.out (fun _ hk => trivial), by repeat (first | (with_reducible first | exact HB.out | apply bA | apply bN | apply b1 | refine bS ?_ GE418.out) | exact HB.out)⟩
/-! ### laws_contains: function 37 -/
def laws_contains.l0 : Nat → List Int → Int → Int → Option (Bool)
 | 0, _, _, _ => none
 | k + 1, x0, x1, x5 => if x5 < (x0.length : Int) then (if 0 ≤ x5 then (if (rd x0 x5) = x1 then (some true) else (laws_contains.l0 k x0 x1 (wrap64 (x5 + 1)))) else (none)) else (some false)
def laws_contains.f (k : Nat) (l0 : List Int) (a1 : Int) : Option (Bool) := laws_contains.l0 k l0 a1 0
set_option maxHeartbeats 8000000 in
set_option maxRecDepth 100000 in
theorem laws_contains.calls (k : Nat) (A0 : Option Addr) (c0 : Nat) (l0 : List Int) (a1 : Int) (r : Bool) (w : World) (hr0 : Kd.C (Kd.int .i64) w A0 l0.length l0) (hc0 : l0.length ≤ c0) (h : laws_contains.f k l0 a1 = some r) :
  Calls Try.prog 37 #[.slice A0 l0.length c0, .int .i64 a1] w fun e w' => e = .returned (.bool r) ∧ Drawn0 w w' := by
 have HR0 := zK hr0
 have HC0 := zK hc0
 clear hr0 hc0
 have H : (laws_contains.l0 k l0 a1 0) = some r := h
 clear h
 have H' := zK H
 clear H
 go_enter Try.func37, Try.ntmps37
 go_wp2
 go_loopg [5] k (fun kq v5 w' => ∃ (x5_1 : Int), v5 = .int .i64 x5_1 ∧ Aside0 (laws_contains.l0 kq l0 a1 x5_1 = some r) ∧ Aside0 (kq ≤ k) ∧ Drawn0 w w')
 case atStart => exact ⟨(0), (by first | rfl | (simp; done) | (simp [*]; done)), H', ⟨Nat.le_refl _⟩, by repeat (first | exact Drawn0.refl _ | apply Drawn0.step)⟩
 case round =>
  clear H'
  try clear p2
  obtain ⟨x5_1, rfl, HA, HK1, ⟨m1, rfl⟩⟩ := hrel
  cases gk with
  | zero => exact absurd HA.out (by simp [laws_contains.l0])
  | succ k1 =>
   have H := HA.out
   clear HA
   simp only [laws_contains.l0] at H
   by_cases c3 : x5_1 < (l0.length : Int)
   rotate_left
   ·rw [if_neg c3] at H
    have c3b0 : decide (x5_1 < (l0.length : Int)) = false := decide_eq_false c3
    clear c3
    obtain rfl := Option.some.inj H
    go_wp2
    go_ret
    exact ⟨by first | rfl | (simp; done) | (simp [*]; done), by repeat (first | exact Drawn0.refl _ | apply Drawn0.step)⟩
   rw [if_pos c3] at H
   have c3b0 : decide (x5_1 < (l0.length : Int)) = true := decide_eq_true c3
   clear c3
   by_cases c4 : 0 ≤ x5_1
   rotate_left
   ·rw [if_neg c4] at H
    exact absurd H (by simp)
   rw [if_pos c4] at H
   have c4b0 : decide (0 ≤ x5_1) = true := decide_eq_true c4
   clear c4
   by_cases c5 : (rd l0 x5_1) = a1
   ·rw [if_pos c5] at H
    have c5b0 : ((rd l0 x5_1) == a1) = true := beq_iff_eq.mpr c5
    have c5b1 : ((rd l0 x5_1) != a1) = false := bne_eq_false_iff_eq.mpr c5
    clear c5
    obtain rfl := Option.some.inj H
    have p441 : 0 ≤ (x5_1 : Int) := oD (by first | (with_reducible assumption) | assumption)
    have q441 : x5_1 < (l0.length : Int) := oD (by first | (with_reducible assumption) | assumption)
    obtain ⟨ad441, e441, hx441_0⟩ := Kd.at_int HR0.out x5_1 p441 q441
    cases e441
    replace p441 := eq_true p441
    replace q441 := eq_true q441
    go_wp2
    go_ret
    exact ⟨by first | rfl | (simp; done) | (simp [*]; done), by repeat (first | exact Drawn0.refl _ | apply Drawn0.step)⟩
   rw [if_neg c5] at H
   have c5b0 : ((rd l0 x5_1) == a1) = false := beq_eq_false_iff_ne.mpr c5
   have c5b1 : ((rd l0 x5_1) != a1) = true := bne_iff_ne.mpr c5
   have H' := zK H
   clear H
   have p441 : 0 ≤ (x5_1 : Int) := oD (by first | (with_reducible assumption) | assumption)
   have q441 : x5_1 < (l0.length : Int) := oD (by first | (with_reducible assumption) | assumption)
   obtain ⟨ad441, e441, hx441_0⟩ := Kd.at_int HR0.out x5_1 p441 q441
   cases e441
   replace p441 := eq_true p441
   replace q441 := eq_true q441
   go_wp2
   go_roundg k1
   case measure => have := HK1.out; omega
   case rel => exact ⟨(wrap64 (x5_1 + 1)), (by first | rfl | (simp; done) | (simp [*]; done)), H', ⟨by have := HK1.out; omega⟩, by repeat (first | exact Drawn0.refl _ | apply Drawn0.step)⟩
/-! ### laws_within: function 35 -/
def laws_within.l0 : Nat → List Int → List Int → Int → Option (Bool)
 | 0, _, _, _ => none
 | k + 1, x0, x1, x5 => if x5 < (x0.length : Int) then (if 0 ≤ x5 then ((laws_contains.f k x1 (rd x0 x5)).bind fun t443 => (if t443 = true then (laws_within.l0 k x0 x1 (wrap64 (x5 + 1))) else (some false))) else (none)) else (some true)
def laws_within.f (k : Nat) (l0 : List Int) (l1 : List Int) : Option (Bool) := laws_within.l0 k l0 l1 0
set_option maxHeartbeats 8000000 in
set_option maxRecDepth 100000 in
theorem laws_within.calls (k : Nat) (A0 : Option Addr) (c0 : Nat) (l0 : List Int) (A1 : Option Addr) (c1 : Nat) (l1 : List Int) (r : Bool) (w : World) (hr0 : Kd.C (Kd.int .i64) w A0 l0.length l0) (hc0 : l0.length ≤ c0) (hr1 : Kd.C (Kd.int .i64) w A1 l1.length l1) (hc1 : l1.length ≤ c1) (h : laws_within.f k l0 l1 = some r) :
  Calls Try.prog 35 #[.slice A0 l0.length c0, .slice A1 l1.length c1] w fun e w' => e = .returned (.bool r) ∧ Drawn0 w w' := by
 have HR0 := zK hr0
 have HC0 := zK hc0
 clear hr0 hc0
 have HR1 := zK hr1
 have HC1 := zK hc1
 clear hr1 hc1
 have H : (laws_within.l0 k l0 l1 0) = some r := h
 clear h
 have H' := zK H
 clear H
 go_enter Try.func35, Try.ntmps35
 go_wp2
 go_loopg [5] k (fun kq v5 w' => ∃ (x5_1 : Int), v5 = .int .i64 x5_1 ∧ Aside0 (laws_within.l0 kq l0 l1 x5_1 = some r) ∧ Aside0 (kq ≤ k) ∧ Drawn0 w w')
 case atStart => exact ⟨(0), (by first | rfl | (simp; done) | (simp [*]; done)), H', ⟨Nat.le_refl _⟩, by repeat (first | exact Drawn0.refl _ | apply Drawn0.step)⟩
 case round =>
  clear H'
  try clear c1
  try clear p2
  obtain ⟨x5_1, rfl, HA, HK1, ⟨m1, rfl⟩⟩ := hrel
  cases gk with
  | zero => exact absurd HA.out (by simp [laws_within.l0])
  | succ k1 =>
   have H := HA.out
   clear HA
   simp only [laws_within.l0] at H
   by_cases c3 : x5_1 < (l0.length : Int)
   rotate_left
   ·rw [if_neg c3] at H
    have c3b0 : decide (x5_1 < (l0.length : Int)) = false := decide_eq_false c3
    clear c3
    obtain rfl := Option.some.inj H
    go_wp2
    go_ret
    exact ⟨by first | rfl | (simp; done) | (simp [*]; done), by repeat (first | exact Drawn0.refl _ | apply Drawn0.step)⟩
   rw [if_pos c3] at H
   have c3b0 : decide (x5_1 < (l0.length : Int)) = true := decide_eq_true c3
   clear c3
   by_cases c4 : 0 ≤ x5_1
   rotate_left
   ·rw [if_neg c4] at H
    exact absurd H (by simp)
   rw [if_pos c4] at H
   have c4b0 : decide (0 ≤ x5_1) = true := decide_eq_true c4
   clear c4
   replace H := Option.bind_eq_some_iff.mp H
   obtain ⟨t443, A50, H⟩ := H
   replace H : (if t443 = true then (laws_within.l0 k1 l0 l1 (wrap64 (x5_1 + 1))) else (some false)) = some r := H
   have A5 := zK A50
   clear A50
   by_cases c6 : t443 = true
   rotate_left
   ·replace c6 := Bool.eq_false_iff.mpr c6
    subst c6
    have H1 : (some false) = some r := by rw [if_neg (show ¬ (false = true) by decide)] at H; exact H
    clear H
    have H := H1
    clear H1
    obtain rfl := Option.some.inj H
    have p442 : 0 ≤ (x5_1 : Int) := oD (by first | (with_reducible assumption) | assumption)
    have q442 : x5_1 < (l0.length : Int) := oD (by first | (with_reducible assumption) | assumption)
    obtain ⟨ad442, e442, hx442_0⟩ := Kd.at_int HR0.out x5_1 p442 q442
    cases e442
    replace p442 := eq_true p442
    replace q442 := eq_true q442
    go_wp2_with (first | ((with_reducible refine gate_callee (f := 37) rfl ?_); refine goesL_ (some 17) rfl rfl Try.func37 (by kernel_rfl) rfl #[.slice A1 l1.length c1, .int .i64 (rd l0 x5_1)] rfl (by (try simp only [List.map_toArray, List.map_cons, List.map_nil]); first | done | rfl | (simp only [List.length_drop, List.length_take]; rfl)) ?_; (with_reducible refine (laws_contains.calls k1 _ _ l1 (rd l0 x5_1) false _ ?side1 ?side2 A5.out).mono ?_); (case side1 => repeat (first | exact HR1.out | (with_reducible refine Kd.CA ?_ _) | (with_reducible refine Kd.CN ?_ _) | (with_reducible refine Kd.CD ?_))); (case side2 => exact HC1.out); rintro e w' ⟨rfl, ⟨nd, rfl⟩⟩; refine ⟨_, rfl, ?_⟩))
    go_ret
    exact ⟨by first | rfl | (simp; done) | (simp [*]; done), by repeat (first | exact Drawn0.refl _ | apply Drawn0.step)⟩
   subst c6
   have H1 : (laws_within.l0 k1 l0 l1 (wrap64 (x5_1 + 1))) = some r := by rw [if_pos rfl] at H; exact H
   clear H
   have H := H1
   clear H1
   have H' := zK H
   clear H
   have p442 : 0 ≤ (x5_1 : Int) := oD (by first | (with_reducible assumption) | assumption)
   have q442 : x5_1 < (l0.length : Int) := oD (by first | (with_reducible assumption) | assumption)
   obtain ⟨ad442, e442, hx442_0⟩ := Kd.at_int HR0.out x5_1 p442 q442
   cases e442
   replace p442 := eq_true p442
   replace q442 := eq_true q442
   go_wp2_with (first | ((with_reducible refine gate_callee (f := 37) rfl ?_); refine goesL_ (some 17) rfl rfl Try.func37 (by kernel_rfl) rfl #[.slice A1 l1.length c1, .int .i64 (rd l0 x5_1)] rfl (by (try simp only [List.map_toArray, List.map_cons, List.map_nil]); first | done | rfl | (simp only [List.length_drop, List.length_take]; rfl)) ?_; (with_reducible refine (laws_contains.calls k1 _ _ l1 (rd l0 x5_1) true _ ?side1 ?side2 A5.out).mono ?_); (case side1 => repeat (first | exact HR1.out | (with_reducible refine Kd.CA ?_ _) | (with_reducible refine Kd.CN ?_ _) | (with_reducible refine Kd.CD ?_))); (case side2 => exact HC1.out); rintro e w' ⟨rfl, ⟨nd, rfl⟩⟩; refine ⟨_, rfl, ?_⟩))
   go_roundg k1
   case measure => have := HK1.out; omega
   case rel => exact ⟨(wrap64 (x5_1 + 1)), (by first | rfl | (simp; done) | (simp [*]; done)), H', ⟨by have := HK1.out; omega⟩, by repeat (first | exact Drawn0.refl _ | apply Drawn0.step)⟩
/-! ### impl_CountIn: function 36 -/
def impl_CountIn.l0 : Nat → List (S138) → Int → List (S138) → Int → Int → Option (Int)
 | 0, _, _, _, _, _ => none
 | k + 1, x0, x3, x10, x11, x12 => if x12 < x11 then (if 0 ≤ x12 then (if x12 < (x10.length : Int) then (if ((rd_T138 x10 x12).f1) = 2 then ((impl_lastHand.f k x0 ((rd_T138 x10 x12).f0)).bind fun t447 => (if t447 = x12 then (impl_CountIn.l0 k x0 (wrap64 (x3 + 1)) x10 x11 (wrap64 (x12 + 1))) else (impl_CountIn.l0 k x0 x3 x10 x11 (wrap64 (x12 + 1))))) else (impl_CountIn.l0 k x0 x3 x10 x11 (wrap64 (x12 + 1)))) else (none)) else (none)) else (some x3)
def impl_CountIn.f (k : Nat) (l0 : List (S138)) : Option (Int) := (impl_IsChain.f k l0).bind fun t444 => (if t444 = true then (impl_CountIn.l0 k l0 0 l0 (l0.length : Int) 0) else (some 0))
set_option maxHeartbeats 8000000 in
set_option maxRecDepth 100000 in
theorem impl_CountIn.calls (k : Nat) (A0 : Option Addr) (c0 : Nat) (l0 : List (S138)) (r : Int) (w : World) (hr0 : Kd.C k138 w A0 l0.length l0) (hc0 : l0.length ≤ c0) (h : impl_CountIn.f k l0 = some r) :
  Calls Try.prog 36 #[.slice A0 l0.length c0] w fun e w' => e = .returned (.int .i64 r) ∧ Below w.heap.size w w' := by
 have hu138 := Try.underlying138
 have HR0 := zK hr0
 have HC0 := zK hc0
 clear hr0 hc0
 have HB := zK (Below.refl w.heap.size w)
 have H : ((impl_IsChain.f k l0).bind fun t444 => (if t444 = true then (impl_CountIn.l0 k l0 0 l0 (l0.length : Int) 0) else (some 0))) = some r := h
 clear h
 replace H := Option.bind_eq_some_iff.mp H
 obtain ⟨t444, A20, H⟩ := H
 replace H : (if t444 = true then (impl_CountIn.l0 k l0 0 l0 (l0.length : Int) 0) else (some 0)) = some r := H
 have A2 := zK A20
 clear A20
 by_cases c3 : t444 = true
 rotate_left
 ·replace c3 := Bool.eq_false_iff.mpr c3
  subst c3
  have H1 : (some 0) = some r := by rw [if_neg (show ¬ (false = true) by decide)] at H; exact H
  clear H
  have H := H1
  clear H1
  obtain rfl := Option.some.inj H
  go_enter Try.func36, Try.ntmps36
  go_wp2_with (first | ((with_reducible refine gate_callee (f := 34) rfl ?_); refine goesL_ (some 7) rfl rfl Try.func34 (by kernel_rfl) rfl #[.slice A0 l0.length c0] rfl (by (try simp only [List.map_toArray, List.map_cons, List.map_nil]); first | done | rfl | (simp only [List.length_drop, List.length_take]; rfl)) ?_; (with_reducible refine (impl_IsChain.calls k _ _ l0 false _ ?side1 ?side2 A2.out).mono ?_); (case side1 => repeat (first | exact HR0.out | (with_reducible refine Kd.CA ?_ _) | (with_reducible refine Kd.CN ?_ _) | (with_reducible refine Kd.CD ?_))); (case side2 => exact HC0.out); rintro e w17 ⟨rfl, hb⟩; refine ⟨_, rfl, ?_⟩; have n0_ := zK (bT (by repeat (first | (with_reducible first | exact HB.out | apply bA | apply bN | apply b1) | exact HB.out)) hb); clear HB; have HB := n0_; clear n0_; (try clear hb); (try clear hb2); (try clear hk); (try clear hi)))
  go_ret
  exact ⟨by first | rfl | (simp [errW_none, errW_some] <;> rfl) | (simp [*, errW_none, errW_some] <;> rfl), by repeat (first | (with_reducible first | exact HB.out | apply bA | apply bN | apply b1) | exact HB.out)⟩
 subst c3
 have H1 : (impl_CountIn.l0 k l0 0 l0 (l0.length : Int) 0) = some r := by rw [if_pos rfl] at H; exact H
 clear H
 have H := H1
 clear H1
 have H' := zK H
 clear H
 go_enter Try.func36, Try.ntmps36
 go_wp2_with (first | ((with_reducible refine gate_callee (f := 34) rfl ?_); refine goesL_ (some 7) rfl rfl Try.func34 (by kernel_rfl) rfl #[.slice A0 l0.length c0] rfl (by (try simp only [List.map_toArray, List.map_cons, List.map_nil]); first | done | rfl | (simp only [List.length_drop, List.length_take]; rfl)) ?_; (with_reducible refine (impl_IsChain.calls k _ _ l0 true _ ?side1 ?side2 A2.out).mono ?_); (case side1 => repeat (first | exact HR0.out | (with_reducible refine Kd.CA ?_ _) | (with_reducible refine Kd.CN ?_ _) | (with_reducible refine Kd.CD ?_))); (case side2 => exact HC0.out); rintro e w4 ⟨rfl, hb⟩; refine ⟨_, rfl, ?_⟩; have n0_ := zK (bT (by repeat (first | (with_reducible first | exact HB.out | apply bA | apply bN | apply b1) | exact HB.out)) hb); clear HB; have HB := n0_; clear n0_; (try clear hb); (try clear hb2); (try clear hk); (try clear hi)))
 go_loopg [3, 12] k (fun kq v3 v12 w' => ∃ (x3_1 : Int) (x12_1 : Int), v3 = .int .i64 x3_1 ∧ v12 = .int .i64 x12_1 ∧ Aside0 (impl_CountIn.l0 kq l0 x3_1 l0 (l0.length : Int) x12_1 = some r) ∧ Aside0 (kq ≤ k) ∧ Aside0 (Below w.heap.size w w'))
 case atStart => exact ⟨(0), (0), (by first | rfl | (simp; done) | (simp [*]; done)), (by first | rfl | (simp; done) | (simp [*]; done)), H', ⟨Nat.le_refl _⟩, ⟨by repeat (first | (with_reducible first | exact HB.out | apply bA | apply bN | apply b1) | exact HB.out)⟩⟩
 case round =>
  clear H'
  try clear p2
  try clear c3
  obtain ⟨x3_1, x12_1, rfl, rfl, HA, HK1, HB⟩ := hrel
  cases gk with
  | zero => exact absurd HA.out (by simp [impl_CountIn.l0])
  | succ k1 =>
   have H := HA.out
   clear HA
   simp only [impl_CountIn.l0] at H
   by_cases c5 : x12_1 < (l0.length : Int)
   rotate_left
   ·rw [if_neg c5] at H
    have c5b0 : decide (x12_1 < (l0.length : Int)) = false := decide_eq_false c5
    clear c5
    obtain rfl := Option.some.inj H
    go_wp2
    go_ret
    exact ⟨by first | rfl | (simp [errW_none, errW_some] <;> rfl) | (simp [*, errW_none, errW_some] <;> rfl), by repeat (first | (with_reducible first | exact HB.out | apply bA | apply bN | apply b1) | exact HB.out)⟩
   rw [if_pos c5] at H
   have c5b0 : decide (x12_1 < (l0.length : Int)) = true := decide_eq_true c5
   clear c5
   by_cases c6 : 0 ≤ x12_1
   rotate_left
   ·rw [if_neg c6] at H
    exact absurd H (by simp)
   rw [if_pos c6] at H
   have c6b0 : decide (0 ≤ x12_1) = true := decide_eq_true c6
   clear c6
   by_cases c7 : x12_1 < (l0.length : Int)
   rotate_left
   ·rw [if_neg c7] at H
    exact absurd H (by simp)
   rw [if_pos c7] at H
   have c7b0 : decide (x12_1 < (l0.length : Int)) = true := decide_eq_true c7
   clear c7
   by_cases c8 : ((rd_T138 l0 x12_1).f1) = 2
   rotate_left
   ·rw [if_neg c8] at H
    have c8b0 : (((rd_T138 l0 x12_1).f1) == 2) = false := beq_eq_false_iff_ne.mpr c8
    have c8b1 : (((rd_T138 l0 x12_1).f1) != 2) = true := bne_iff_ne.mpr c8
    have H' := zK H
    clear H
    have p445 : 0 ≤ (x12_1 : Int) := oD (by first | (with_reducible assumption) | assumption)
    have q445 : x12_1 < (l0.length : Int) := oD (by first | (with_reducible assumption) | assumption)
    obtain ⟨ad445, e445, hx445_0, hx445_1, hx445_2, hx445_3, hx445_4⟩ := at_T138 HR0.out x12_1 p445 q445
    cases e445
    replace hx445_0 := (HB.out.cell (bL w hx445_0)).trans hx445_0
    replace hx445_1 := (HB.out.cell (bL w hx445_1)).trans hx445_1
    replace hx445_2 := (HB.out.cell (bL w hx445_2)).trans hx445_2
    replace hx445_3 := (HB.out.cell (bL w hx445_3)).trans hx445_3
    replace hx445_4 := (HB.out.cell (bL w hx445_4)).trans hx445_4
    replace p445 := eq_true p445
    replace q445 := eq_true q445
    go_wp2_with (first | ((with_reducible refine gate_dst (N := 5) rfl ?_); refine box_event ?hg (N := 5) ?hd (cs := #[.int .i64 0, .int .i64 0, .int .i64 0, .int .i64 0, .int .i64 0]) (t := 138) ?hr ?_; (case hd => rfl); (case hg => rfl); (case hr => first | (go_simp; done) | (go_simp; rfl)); intro gb446 hg w15 hbox hb; have n0_ := zK (bT (by repeat (first | (with_reducible first | exact HB.out | apply bA | apply bN | apply b1) | exact HB.out)) hb); have n1_ := zK (hbox); have n2_ := zK ((by rw [hg]; exact (bZ (by repeat (first | (with_reducible first | exact HB.out | apply bA | apply bN | apply b1) | exact HB.out))) : w.heap.size ≤ gb446)); have n3_ := zK ((by rw [hg]; exact (bZ (by repeat (first | (with_reducible first | exact HB.out | apply bA | apply bN | apply b1) | exact HB.out))) : w.heap.size ≤ gb446)); clear HB; have HB := n0_; have BK446 := n1_; have GW446 := n2_; have GE446 := n3_; clear n0_ n1_ n2_ n3_; clear hb hbox hg; have hcz16_0 : w15.cell? ⟨gb446, 0, none⟩ = some (.int .i64 0) := (bc BK446.out 0).trans rfl; have hcz16_1 : w15.cell? ⟨gb446, 1, none⟩ = some (.int .i64 0) := (bc BK446.out 1).trans rfl; have hcz16_2 : w15.cell? ⟨gb446, 2, none⟩ = some (.int .i64 0) := (bc BK446.out 2).trans rfl; have hcz16_3 : w15.cell? ⟨gb446, 3, none⟩ = some (.int .i64 0) := (bc BK446.out 3).trans rfl; have hcz16_4 : w15.cell? ⟨gb446, 4, none⟩ = some (.int .i64 0) := (bc BK446.out 4).trans rfl; have hfz16_0 := bf BK446.out 0; have hfz16_1 := bf BK446.out 1; have hfz16_2 := bf BK446.out 2; have hfz16_3 := bf BK446.out 3; have hfz16_4 := bf BK446.out 4))
    go_roundg k1
    case measure => have := HK1.out; omega
    case rel => exact ⟨(x3_1), (wrap64 (x12_1 + 1)), (by first | rfl | (simp; done) | (simp [*]; done)), (by first | rfl | (simp; done) | (simp [*]; done)), H', ⟨by have := HK1.out; omega⟩, ⟨by repeat (first | (with_reducible first | exact HB.out | apply bA | apply bN | apply b1 | refine bS ?_ GE446.out) | exact HB.out)⟩⟩
   rw [if_pos c8] at H
   have c8b0 : (((rd_T138 l0 x12_1).f1) == 2) = true := beq_iff_eq.mpr c8
   have c8b1 : (((rd_T138 l0 x12_1).f1) != 2) = false := bne_eq_false_iff_eq.mpr c8
   clear c8
   replace H := Option.bind_eq_some_iff.mp H
   obtain ⟨t447, A90, H⟩ := H
   replace H : (if t447 = x12_1 then (impl_CountIn.l0 k1 l0 (wrap64 (x3_1 + 1)) l0 (l0.length : Int) (wrap64 (x12_1 + 1))) else (impl_CountIn.l0 k1 l0 x3_1 l0 (l0.length : Int) (wrap64 (x12_1 + 1)))) = some r := H
   have A9 := zK A90
   clear A90
   by_cases c10 : t447 = x12_1
   rotate_left
   ·rw [if_neg c10] at H
    have c10b0 : (t447 == x12_1) = false := beq_eq_false_iff_ne.mpr c10
    have c10b1 : (t447 != x12_1) = true := bne_iff_ne.mpr c10
    have H' := zK H
    clear H
    have p445 : 0 ≤ (x12_1 : Int) := oD (by first | (with_reducible assumption) | assumption)
    have q445 : x12_1 < (l0.length : Int) := oD (by first | (with_reducible assumption) | assumption)
    obtain ⟨ad445, e445, hx445_0, hx445_1, hx445_2, hx445_3, hx445_4⟩ := at_T138 HR0.out x12_1 p445 q445
    cases e445
    replace hx445_0 := (HB.out.cell (bL w hx445_0)).trans hx445_0
    replace hx445_1 := (HB.out.cell (bL w hx445_1)).trans hx445_1
    replace hx445_2 := (HB.out.cell (bL w hx445_2)).trans hx445_2
    replace hx445_3 := (HB.out.cell (bL w hx445_3)).trans hx445_3
    replace hx445_4 := (HB.out.cell (bL w hx445_4)).trans hx445_4
    replace p445 := eq_true p445
    replace q445 := eq_true q445
    go_wp2_with (first | ((with_reducible refine gate_dst (N := 5) rfl ?_); refine box_event ?hg (N := 5) ?hd (cs := #[.int .i64 0, .int .i64 0, .int .i64 0, .int .i64 0, .int .i64 0]) (t := 138) ?hr ?_; (case hd => rfl); (case hg => rfl); (case hr => first | (go_simp; done) | (go_simp; rfl)); intro gb446 hg w13 hbox hb; have n0_ := zK (bT (by repeat (first | (with_reducible first | exact HB.out | apply bA | apply bN | apply b1) | exact HB.out)) hb); have n1_ := zK (hbox); have n2_ := zK ((by rw [hg]; exact (bZ (by repeat (first | (with_reducible first | exact HB.out | apply bA | apply bN | apply b1) | exact HB.out))) : w.heap.size ≤ gb446)); have n3_ := zK ((by rw [hg]; exact (bZ (by repeat (first | (with_reducible first | exact HB.out | apply bA | apply bN | apply b1) | exact HB.out))) : w.heap.size ≤ gb446)); clear HB; have HB := n0_; have BK446 := n1_; have GW446 := n2_; have GE446 := n3_; clear n0_ n1_ n2_ n3_; clear hb hbox hg; have hcz14_0 : w13.cell? ⟨gb446, 0, none⟩ = some (.int .i64 0) := (bc BK446.out 0).trans rfl; have hcz14_1 : w13.cell? ⟨gb446, 1, none⟩ = some (.int .i64 0) := (bc BK446.out 1).trans rfl; have hcz14_2 : w13.cell? ⟨gb446, 2, none⟩ = some (.int .i64 0) := (bc BK446.out 2).trans rfl; have hcz14_3 : w13.cell? ⟨gb446, 3, none⟩ = some (.int .i64 0) := (bc BK446.out 3).trans rfl; have hcz14_4 : w13.cell? ⟨gb446, 4, none⟩ = some (.int .i64 0) := (bc BK446.out 4).trans rfl; have hfz14_0 := bf BK446.out 0; have hfz14_1 := bf BK446.out 1; have hfz14_2 := bf BK446.out 2; have hfz14_3 := bf BK446.out 3; have hfz14_4 := bf BK446.out 4) | (go_at_call 104; (with_reducible refine (impl_lastHand.calls k1 _ _ l0 ((rd_T138 l0 x12_1).f0) t447 _ ?side1 ?side2 A9.out).mono ?_); (case side1 => exact Kd.C_below HR0.out (by repeat (first | (with_reducible first | exact HB.out | apply bA | apply bN | apply b1 | refine bS ?_ GE446.out) | exact HB.out))); (case side2 => exact HC0.out); rintro e w' ⟨rfl, ⟨nd, rfl⟩⟩))
    go_roundg k1
    case measure => have := HK1.out; omega
    case rel => exact ⟨(x3_1), (wrap64 (x12_1 + 1)), (by first | rfl | (simp; done) | (simp [*]; done)), (by first | rfl | (simp; done) | (simp [*]; done)), H', ⟨by have := HK1.out; omega⟩, ⟨by repeat (first | (with_reducible first | exact HB.out | apply bA | apply bN | apply b1 | refine bS ?_ GE446.out) | exact HB.out)⟩⟩
   rw [if_pos c10] at H
   have c10b0 : (t447 == x12_1) = true := beq_iff_eq.mpr c10
   have c10b1 : (t447 != x12_1) = false := bne_eq_false_iff_eq.mpr c10
   clear c10
   have H' := zK H
   clear H
   have p445 : 0 ≤ (x12_1 : Int) := oD (by first | (with_reducible assumption) | assumption)
   have q445 : x12_1 < (l0.length : Int) := oD (by first | (with_reducible assumption) | assumption)
   obtain ⟨ad445, e445, hx445_0, hx445_1, hx445_2, hx445_3, hx445_4⟩ := at_T138 HR0.out x12_1 p445 q445
   cases e445
   replace hx445_0 := (HB.out.cell (bL w hx445_0)).trans hx445_0
   replace hx445_1 := (HB.out.cell (bL w hx445_1)).trans hx445_1
   replace hx445_2 := (HB.out.cell (bL w hx445_2)).trans hx445_2
   replace hx445_3 := (HB.out.cell (bL w hx445_3)).trans hx445_3
   replace hx445_4 := (HB.out.cell (bL w hx445_4)).trans hx445_4
   replace p445 := eq_true p445
   replace q445 := eq_true q445
   go_wp2_with (first | ((with_reducible refine gate_dst (N := 5) rfl ?_); refine box_event ?hg (N := 5) ?hd (cs := #[.int .i64 0, .int .i64 0, .int .i64 0, .int .i64 0, .int .i64 0]) (t := 138) ?hr ?_; (case hd => rfl); (case hg => rfl); (case hr => first | (go_simp; done) | (go_simp; rfl)); intro gb446 hg w11 hbox hb; have n0_ := zK (bT (by repeat (first | (with_reducible first | exact HB.out | apply bA | apply bN | apply b1) | exact HB.out)) hb); have n1_ := zK (hbox); have n2_ := zK ((by rw [hg]; exact (bZ (by repeat (first | (with_reducible first | exact HB.out | apply bA | apply bN | apply b1) | exact HB.out))) : w.heap.size ≤ gb446)); have n3_ := zK ((by rw [hg]; exact (bZ (by repeat (first | (with_reducible first | exact HB.out | apply bA | apply bN | apply b1) | exact HB.out))) : w.heap.size ≤ gb446)); clear HB; have HB := n0_; have BK446 := n1_; have GW446 := n2_; have GE446 := n3_; clear n0_ n1_ n2_ n3_; clear hb hbox hg; have hcz12_0 : w11.cell? ⟨gb446, 0, none⟩ = some (.int .i64 0) := (bc BK446.out 0).trans rfl; have hcz12_1 : w11.cell? ⟨gb446, 1, none⟩ = some (.int .i64 0) := (bc BK446.out 1).trans rfl; have hcz12_2 : w11.cell? ⟨gb446, 2, none⟩ = some (.int .i64 0) := (bc BK446.out 2).trans rfl; have hcz12_3 : w11.cell? ⟨gb446, 3, none⟩ = some (.int .i64 0) := (bc BK446.out 3).trans rfl; have hcz12_4 : w11.cell? ⟨gb446, 4, none⟩ = some (.int .i64 0) := (bc BK446.out 4).trans rfl; have hfz12_0 := bf BK446.out 0; have hfz12_1 := bf BK446.out 1; have hfz12_2 := bf BK446.out 2; have hfz12_3 := bf BK446.out 3; have hfz12_4 := bf BK446.out 4) | (go_at_call 104; (with_reducible refine (impl_lastHand.calls k1 _ _ l0 ((rd_T138 l0 x12_1).f0) t447 _ ?side1 ?side2 A9.out).mono ?_); (case side1 => exact Kd.C_below HR0.out (by repeat (first | (with_reducible first | exact HB.out | apply bA | apply bN | apply b1 | refine bS ?_ GE446.out) | exact HB.out))); (case side2 => exact HC0.out); rintro e w' ⟨rfl, ⟨nd, rfl⟩⟩))
   go_roundg k1
   case measure => have := HK1.out; omega
   case rel => exact ⟨(wrap64 (x3_1 + 1)), (wrap64 (x12_1 + 1)), (by first | rfl | (simp; done) | (simp [*]; done)), (by first | rfl | (simp; done) | (simp [*]; done)), H', ⟨by have := HK1.out; omega⟩, ⟨by repeat (first | (with_reducible first | exact HB.out | apply bA | apply bN | apply b1 | refine bS ?_ GE446.out) | exact HB.out)⟩⟩
/-! ### impl_HousesOf: function 38 -/
def impl_HousesOf.l0 : Nat → Int → List Int → List (S138) → Int → Int → Option (List Int)
 | 0, _, _, _, _, _ => none
 | k + 1, x1, x5, x9, x10, x11 => if x11 < x10 then (if 0 ≤ x11 then (if x11 < (x9.length : Int) then (if ((rd_T138 x9 x11).f0) = x1 then (if ((rd_T138 x9 x11).f1) = 2 then (if x5.length < 17592186044416 then (impl_HousesOf.l0 k x1 (x5 ++ [(rd_T138 x9 x11).f2]) x9 x10 (wrap64 (x11 + 1))) else (none)) else (impl_HousesOf.l0 k x1 x5 x9 x10 (wrap64 (x11 + 1)))) else (impl_HousesOf.l0 k x1 x5 x9 x10 (wrap64 (x11 + 1)))) else (none)) else (none)) else (some x5)
def impl_HousesOf.f (k : Nat) (l0 : List (S138)) (a1 : Int) : Option (List Int) := impl_HousesOf.l0 k a1 (([] : List Int)) l0 (l0.length : Int) 0
set_option maxHeartbeats 8000000 in
set_option maxRecDepth 100000 in
theorem impl_HousesOf.calls (k : Nat) (A0 : Option Addr) (c0 : Nat) (l0 : List (S138)) (a1 : Int) (r : List Int) (w : World) (hr0 : Kd.C k138 w A0 l0.length l0) (hc0 : l0.length ≤ c0) (h : impl_HousesOf.f k l0 a1 = some r) :
  Calls Try.prog 38 #[.slice A0 l0.length c0, .int .i64 a1] w fun e w' => ∃ v0_ : Value, e = .returned (v0_) ∧ Kd.R (Kd.int .i64) 3 w' w.heap.size (fun _ => True) v0_ r ∧ Below w.heap.size w w' := by
 have hu138 := Try.underlying138
 have HR0 := zK hr0
 have HC0 := zK hc0
 clear hr0 hc0
 have HB := zK (Below.refl w.heap.size w)
 have H : (impl_HousesOf.l0 k a1 (([] : List Int)) l0 (l0.length : Int) 0) = some r := h
 clear h
 obtain ⟨y448, hy448⟩ : ∃ y_ : List Int, y_ = (([] : List Int)) := ⟨_, rfl⟩
 replace H : (impl_HousesOf.l0 k a1 y448 l0 (l0.length : Int) 0) = some r := by first | (rw [hy448]; with_reducible exact H) | (have H2_ := (Option.bind_some _ _).symm.trans H; rw [hy448]; with_reducible exact H2_) | (have H2_ := (Option.bind_some _ _).symm.trans H; with_reducible exact H2_) | with_reducible exact H | (rw [hy448]; exact H) | exact H
 have Ny448 := zK hy448
 clear hy448
 have H' := zK H
 clear H
 go_enter Try.func38, Try.ntmps38
 go_wp2_with (first | ((with_reducible refine gate_dst (N := 8) rfl ?_); refine Kd.R_lit (Kd.int .i64) _ 3 ?hg (N := 8) ?hd (xs := ([] : List Int)) (inner := []) (ok := fun _ => True) (okp := fun _ => True) ?hr ?hp (fun _ hk => hk) trivial (Below.refl _ _) (Nat.le_refl _) (by simp) ?_; (case hd => rfl); (case hg => rfl); (case hr => first | (go_simp; done) | (go_simp; rfl)); (case hp => exact (Reps.none _ _)); intro v449 w3 ho4 hb hg_ hnew_; clear hg_ hnew_; (first | rw [← Ny448.out] at ho4 | (simp only [Int.reduceToNat] at ho4; rw [← Ny448.out] at ho4)); have n0_ := zK (Kd.R_lower ho4 (bZ (by repeat (first | (with_reducible first | exact HB.out | apply bA | apply bN | apply b1) | exact HB.out)))); have n1_ := zK (bT (by repeat (first | (with_reducible first | exact HB.out | apply bA | apply bN | apply b1) | exact HB.out)) hb); clear HB; have HO450 := n0_; have HB := n1_; clear n0_ n1_; clear hb ho4))
 go_loopg [5, 11] k (fun kq v5 v11 w' => ∃ (x5_1 : List Int) (x11_1 : Int), v11 = .int .i64 x11_1 ∧ Aside0 (impl_HousesOf.l0 kq a1 x5_1 l0 (l0.length : Int) x11_1 = some r) ∧ Aside0 (kq ≤ k) ∧ Aside0 (Kd.R (Kd.int .i64) 3 w' w.heap.size (fun _ => True) v5 x5_1) ∧ Aside0 (Below w.heap.size w w'))
 case atStart => exact ⟨(y448), (0), (by first | rfl | (simp; done) | (simp [*]; done)), H', ⟨Nat.le_refl _⟩, ⟨by (with_reducible repeat (first | apply Kd.RA | apply Kd.RN | apply Kd.RD)); exact HO450.out⟩, ⟨by repeat (first | (with_reducible first | exact HB.out | apply bA | apply bN | apply b1) | exact HB.out)⟩⟩
 case round =>
  clear H'
  try clear p2
  try clear c3
  obtain ⟨x5_1, x11_1, rfl, HA, HK1, HO_5, HB⟩ := hrel
  cases gk with
  | zero => exact absurd HA.out (by simp [impl_HousesOf.l0])
  | succ k1 =>
   have H := HA.out
   clear HA
   simp only [impl_HousesOf.l0] at H
   by_cases c5 : x11_1 < (l0.length : Int)
   rotate_left
   ·rw [if_neg c5] at H
    have c5b0 : decide (x11_1 < (l0.length : Int)) = false := decide_eq_false c5
    clear c5
    obtain rfl := Option.some.inj H
    go_wp2
    go_ret
    exact ⟨_, by first | rfl | (simp [errW_none, errW_some] <;> rfl) | (simp [*, errW_none, errW_some] <;> rfl), by (with_reducible repeat (first | apply Kd.RA | apply Kd.RN | apply Kd.RD)); exact HO_5.out, by repeat (first | (with_reducible first | exact HB.out | apply bA | apply bN | apply b1) | exact HB.out)⟩

   rw [if_pos c5] at H
   have c5b0 : decide (x11_1 < (l0.length : Int)) = true := decide_eq_true c5
   clear c5
   by_cases c6 : 0 ≤ x11_1
   rotate_left
   ·rw [if_neg c6] at H
    exact absurd H (by simp)
   rw [if_pos c6] at H
   have c6b0 : decide (0 ≤ x11_1) = true := decide_eq_true c6
   clear c6
   by_cases c7 : x11_1 < (l0.length : Int)
   rotate_left
   ·rw [if_neg c7] at H
    exact absurd H (by simp)
   rw [if_pos c7] at H
   have c7b0 : decide (x11_1 < (l0.length : Int)) = true := decide_eq_true c7
   clear c7
   by_cases c8 : ((rd_T138 l0 x11_1).f0) = a1
   rotate_left
   ·rw [if_neg c8] at H
    have c8b0 : (((rd_T138 l0 x11_1).f0) == a1) = false := beq_eq_false_iff_ne.mpr c8
    have c8b1 : (((rd_T138 l0 x11_1).f0) != a1) = true := bne_iff_ne.mpr c8
    have H' := zK H
    clear H
    have p451 : 0 ≤ (x11_1 : Int) := oD (by first | (with_reducible assumption) | assumption)
    have q451 : x11_1 < (l0.length : Int) := oD (by first | (with_reducible assumption) | assumption)
    obtain ⟨ad451, e451, hx451_0, hx451_1, hx451_2, hx451_3, hx451_4⟩ := at_T138 HR0.out x11_1 p451 q451
    cases e451
    replace hx451_0 := (HB.out.cell (bL w hx451_0)).trans hx451_0
    replace hx451_1 := (HB.out.cell (bL w hx451_1)).trans hx451_1
    replace hx451_2 := (HB.out.cell (bL w hx451_2)).trans hx451_2
    replace hx451_3 := (HB.out.cell (bL w hx451_3)).trans hx451_3
    replace hx451_4 := (HB.out.cell (bL w hx451_4)).trans hx451_4
    replace p451 := eq_true p451
    replace q451 := eq_true q451
    go_wp2_with (first | ((with_reducible refine gate_dst (N := 7) rfl ?_); refine box_event ?hg (N := 7) ?hd (cs := #[.int .i64 0, .int .i64 0, .int .i64 0, .int .i64 0, .int .i64 0]) (t := 138) ?hr ?_; (case hd => rfl); (case hg => rfl); (case hr => first | (go_simp; done) | (go_simp; rfl)); intro gb452 hg w16 hbox hb; have n0_ := zK (Kd.R_below (by (with_reducible repeat (first | apply Kd.RA | apply Kd.RN | apply Kd.RD)); exact HO_5.out) hb); have n1_ := zK (bT (by repeat (first | (with_reducible first | exact HB.out | apply bA | apply bN | apply b1) | exact HB.out)) hb); have n2_ := zK (hbox); have n3_ := zK ((by rw [hg]; exact (bZ (by repeat (first | (with_reducible first | exact HB.out | apply bA | apply bN | apply b1) | exact HB.out))) : w.heap.size ≤ gb452)); have n4_ := zK ((by rw [hg]; exact (bZ (by repeat (first | (with_reducible first | exact HB.out | apply bA | apply bN | apply b1) | exact HB.out))) : w.heap.size ≤ gb452)); clear HO_5; clear HB; have HO_5 := n0_; have HB := n1_; have BK452 := n2_; have GW452 := n3_; have GE452 := n4_; clear n0_ n1_ n2_ n3_ n4_; clear hb hbox hg; have hcz17_0 : w16.cell? ⟨gb452, 0, none⟩ = some (.int .i64 0) := (bc BK452.out 0).trans rfl; have hcz17_1 : w16.cell? ⟨gb452, 1, none⟩ = some (.int .i64 0) := (bc BK452.out 1).trans rfl; have hcz17_2 : w16.cell? ⟨gb452, 2, none⟩ = some (.int .i64 0) := (bc BK452.out 2).trans rfl; have hcz17_3 : w16.cell? ⟨gb452, 3, none⟩ = some (.int .i64 0) := (bc BK452.out 3).trans rfl; have hcz17_4 : w16.cell? ⟨gb452, 4, none⟩ = some (.int .i64 0) := (bc BK452.out 4).trans rfl; have hfz17_0 := bf BK452.out 0; have hfz17_1 := bf BK452.out 1; have hfz17_2 := bf BK452.out 2; have hfz17_3 := bf BK452.out 3; have hfz17_4 := bf BK452.out 4))
    go_roundg k1
    case measure => have := HK1.out; omega
    case rel => exact ⟨(x5_1), (wrap64 (x11_1 + 1)), (by first | rfl | (simp; done) | (simp [*]; done)), H', ⟨by have := HK1.out; omega⟩, ⟨by (with_reducible repeat (first | apply Kd.RA | apply Kd.RN | apply Kd.RD)); exact Kd.R_mono (Kd.R_far (p := ⟨gb452, 4, none⟩) (Kd.R_far (p := ⟨gb452, 3, none⟩) (Kd.R_far (p := ⟨gb452, 2, none⟩) (Kd.R_far (p := ⟨gb452, 1, none⟩) (Kd.R_far (p := ⟨gb452, 0, none⟩) (Kd.R_types HO_5.out BK452.out (by decide)) (fun _ hk => hk.2) (.int .i64 ((rd_T138 l0 x11_1).f0))) (fun _ hk => hk.2) (.int .i64 ((rd_T138 l0 x11_1).f1))) (fun _ hk => hk.2) (.int .i64 ((rd_T138 l0 x11_1).f2))) (fun _ hk => hk.2) (.int .i64 ((rd_T138 l0 x11_1).f3))) (fun _ hk => hk.2) (.int .i64 ((rd_T138 l0 x11_1).f4))) (fun _ hk => trivial)⟩, ⟨by repeat (first | (with_reducible first | exact HB.out | apply bA | apply bN | apply b1 | refine bS ?_ GE452.out) | exact HB.out)⟩⟩
   rw [if_pos c8] at H
   have c8b0 : (((rd_T138 l0 x11_1).f0) == a1) = true := beq_iff_eq.mpr c8
   have c8b1 : (((rd_T138 l0 x11_1).f0) != a1) = false := bne_eq_false_iff_eq.mpr c8
   clear c8
   by_cases c9 : ((rd_T138 l0 x11_1).f1) = 2
   rotate_left
   ·rw [if_neg c9] at H
    have c9b0 : (((rd_T138 l0 x11_1).f1) == 2) = false := beq_eq_false_iff_ne.mpr c9
    have c9b1 : (((rd_T138 l0 x11_1).f1) != 2) = true := bne_iff_ne.mpr c9
    have H' := zK H
    clear H
    have p451 : 0 ≤ (x11_1 : Int) := oD (by first | (with_reducible assumption) | assumption)
    have q451 : x11_1 < (l0.length : Int) := oD (by first | (with_reducible assumption) | assumption)
    obtain ⟨ad451, e451, hx451_0, hx451_1, hx451_2, hx451_3, hx451_4⟩ := at_T138 HR0.out x11_1 p451 q451
    cases e451
    replace hx451_0 := (HB.out.cell (bL w hx451_0)).trans hx451_0
    replace hx451_1 := (HB.out.cell (bL w hx451_1)).trans hx451_1
    replace hx451_2 := (HB.out.cell (bL w hx451_2)).trans hx451_2
    replace hx451_3 := (HB.out.cell (bL w hx451_3)).trans hx451_3
    replace hx451_4 := (HB.out.cell (bL w hx451_4)).trans hx451_4
    replace p451 := eq_true p451
    replace q451 := eq_true q451
    go_wp2_with (first | ((with_reducible refine gate_dst (N := 7) rfl ?_); refine box_event ?hg (N := 7) ?hd (cs := #[.int .i64 0, .int .i64 0, .int .i64 0, .int .i64 0, .int .i64 0]) (t := 138) ?hr ?_; (case hd => rfl); (case hg => rfl); (case hr => first | (go_simp; done) | (go_simp; rfl)); intro gb452 hg w14 hbox hb; have n0_ := zK (Kd.R_below (by (with_reducible repeat (first | apply Kd.RA | apply Kd.RN | apply Kd.RD)); exact HO_5.out) hb); have n1_ := zK (bT (by repeat (first | (with_reducible first | exact HB.out | apply bA | apply bN | apply b1) | exact HB.out)) hb); have n2_ := zK (hbox); have n3_ := zK ((by rw [hg]; exact (bZ (by repeat (first | (with_reducible first | exact HB.out | apply bA | apply bN | apply b1) | exact HB.out))) : w.heap.size ≤ gb452)); have n4_ := zK ((by rw [hg]; exact (bZ (by repeat (first | (with_reducible first | exact HB.out | apply bA | apply bN | apply b1) | exact HB.out))) : w.heap.size ≤ gb452)); clear HO_5; clear HB; have HO_5 := n0_; have HB := n1_; have BK452 := n2_; have GW452 := n3_; have GE452 := n4_; clear n0_ n1_ n2_ n3_ n4_; clear hb hbox hg; have hcz15_0 : w14.cell? ⟨gb452, 0, none⟩ = some (.int .i64 0) := (bc BK452.out 0).trans rfl; have hcz15_1 : w14.cell? ⟨gb452, 1, none⟩ = some (.int .i64 0) := (bc BK452.out 1).trans rfl; have hcz15_2 : w14.cell? ⟨gb452, 2, none⟩ = some (.int .i64 0) := (bc BK452.out 2).trans rfl; have hcz15_3 : w14.cell? ⟨gb452, 3, none⟩ = some (.int .i64 0) := (bc BK452.out 3).trans rfl; have hcz15_4 : w14.cell? ⟨gb452, 4, none⟩ = some (.int .i64 0) := (bc BK452.out 4).trans rfl; have hfz15_0 := bf BK452.out 0; have hfz15_1 := bf BK452.out 1; have hfz15_2 := bf BK452.out 2; have hfz15_3 := bf BK452.out 3; have hfz15_4 := bf BK452.out 4))
    go_roundg k1
    case measure => have := HK1.out; omega
    case rel => exact ⟨(x5_1), (wrap64 (x11_1 + 1)), (by first | rfl | (simp; done) | (simp [*]; done)), H', ⟨by have := HK1.out; omega⟩, ⟨by (with_reducible repeat (first | apply Kd.RA | apply Kd.RN | apply Kd.RD)); exact Kd.R_mono (Kd.R_far (p := ⟨gb452, 4, none⟩) (Kd.R_far (p := ⟨gb452, 3, none⟩) (Kd.R_far (p := ⟨gb452, 2, none⟩) (Kd.R_far (p := ⟨gb452, 1, none⟩) (Kd.R_far (p := ⟨gb452, 0, none⟩) (Kd.R_types HO_5.out BK452.out (by decide)) (fun _ hk => hk.2) (.int .i64 ((rd_T138 l0 x11_1).f0))) (fun _ hk => hk.2) (.int .i64 ((rd_T138 l0 x11_1).f1))) (fun _ hk => hk.2) (.int .i64 ((rd_T138 l0 x11_1).f2))) (fun _ hk => hk.2) (.int .i64 ((rd_T138 l0 x11_1).f3))) (fun _ hk => hk.2) (.int .i64 ((rd_T138 l0 x11_1).f4))) (fun _ hk => trivial)⟩, ⟨by repeat (first | (with_reducible first | exact HB.out | apply bA | apply bN | apply b1 | refine bS ?_ GE452.out) | exact HB.out)⟩⟩
   rw [if_pos c9] at H
   have c9b0 : (((rd_T138 l0 x11_1).f1) == 2) = true := beq_iff_eq.mpr c9
   have c9b1 : (((rd_T138 l0 x11_1).f1) != 2) = false := bne_eq_false_iff_eq.mpr c9
   clear c9
   by_cases c10 : x5_1.length < 17592186044416
   rotate_left
   ·rw [if_neg c10] at H
    exact absurd H (by simp)
   rw [if_pos c10] at H
   have LMc10 := zK c10
   clear c10
   obtain ⟨y453, hy453⟩ : ∃ y_ : List Int, y_ = (x5_1 ++ [(rd_T138 l0 x11_1).f2]) := ⟨_, rfl⟩
   replace H : (impl_HousesOf.l0 k1 a1 y453 l0 (l0.length : Int) (wrap64 (x11_1 + 1))) = some r := by first | (rw [hy453]; with_reducible exact H) | (have H2_ := (Option.bind_some _ _).symm.trans H; rw [hy453]; with_reducible exact H2_) | (have H2_ := (Option.bind_some _ _).symm.trans H; with_reducible exact H2_) | with_reducible exact H | (rw [hy453]; exact H) | exact H
   have Ny453 := zK hy453
   clear hy453
   have H' := zK H
   clear H
   have p451 : 0 ≤ (x11_1 : Int) := oD (by first | (with_reducible assumption) | assumption)
   have q451 : x11_1 < (l0.length : Int) := oD (by first | (with_reducible assumption) | assumption)
   obtain ⟨ad451, e451, hx451_0, hx451_1, hx451_2, hx451_3, hx451_4⟩ := at_T138 HR0.out x11_1 p451 q451
   cases e451
   replace hx451_0 := (HB.out.cell (bL w hx451_0)).trans hx451_0
   replace hx451_1 := (HB.out.cell (bL w hx451_1)).trans hx451_1
   replace hx451_2 := (HB.out.cell (bL w hx451_2)).trans hx451_2
   replace hx451_3 := (HB.out.cell (bL w hx451_3)).trans hx451_3
   replace hx451_4 := (HB.out.cell (bL w hx451_4)).trans hx451_4
   replace p451 := eq_true p451
   replace q451 := eq_true q451
   go_wp2_with (first | ((with_reducible refine gate_dst (N := 7) rfl ?_); refine box_event ?hg (N := 7) ?hd (cs := #[.int .i64 0, .int .i64 0, .int .i64 0, .int .i64 0, .int .i64 0]) (t := 138) ?hr ?_; (case hd => rfl); (case hg => rfl); (case hr => first | (go_simp; done) | (go_simp; rfl)); intro gb452 hg w11 hbox hb; have n0_ := zK (Kd.R_below (by (with_reducible repeat (first | apply Kd.RA | apply Kd.RN | apply Kd.RD)); exact HO_5.out) hb); have n1_ := zK (bT (by repeat (first | (with_reducible first | exact HB.out | apply bA | apply bN | apply b1) | exact HB.out)) hb); have n2_ := zK (hbox); have n3_ := zK ((by rw [hg]; exact (bZ (by repeat (first | (with_reducible first | exact HB.out | apply bA | apply bN | apply b1) | exact HB.out))) : w.heap.size ≤ gb452)); have n4_ := zK ((by rw [hg]; exact (bZ (by repeat (first | (with_reducible first | exact HB.out | apply bA | apply bN | apply b1) | exact HB.out))) : w.heap.size ≤ gb452)); clear HO_5; clear HB; have HO_5 := n0_; have HB := n1_; have BK452 := n2_; have GW452 := n3_; have GE452 := n4_; clear n0_ n1_ n2_ n3_ n4_; clear hb hbox hg; have hcz12_0 : w11.cell? ⟨gb452, 0, none⟩ = some (.int .i64 0) := (bc BK452.out 0).trans rfl; have hcz12_1 : w11.cell? ⟨gb452, 1, none⟩ = some (.int .i64 0) := (bc BK452.out 1).trans rfl; have hcz12_2 : w11.cell? ⟨gb452, 2, none⟩ = some (.int .i64 0) := (bc BK452.out 2).trans rfl; have hcz12_3 : w11.cell? ⟨gb452, 3, none⟩ = some (.int .i64 0) := (bc BK452.out 3).trans rfl; have hcz12_4 : w11.cell? ⟨gb452, 4, none⟩ = some (.int .i64 0) := (bc BK452.out 4).trans rfl; have hfz12_0 := bf BK452.out 0; have hfz12_1 := bf BK452.out 1; have hfz12_2 := bf BK452.out 2; have hfz12_3 := bf BK452.out 3; have hfz12_4 := bf BK452.out 4) | ((with_reducible refine gate_builtin (b := .append) (xs := #[.tmp 24, .tmp 27]) rfl ?_); at_builtin; refine Kd.R_append (Kd.int .i64) (w0 := w) w.heap.size rfl (.tmp 24) (.tmp 27) 24 3 (.int .i64 0) 8 rfl Try.underlying24 info3 rfl (by decide) (by omega) u5 x5_1 ((rd_T138 l0 x11_1).f2) [.int .i64 ((rd_T138 l0 x11_1).f2)] (fun _ => True) (fun _ => False) rfl (by first | (go_simp; done) | (go_simp; rfl)) ?aP (fun _ hk => hk.elim) ?aF ?aO ?aB ?aS ?aL ?_; (case aP => exact rfl); (case aB => exact (by repeat (first | (with_reducible first | exact HB.out | apply bA | apply bN | apply b1 | refine bS ?_ GE452.out) | exact HB.out))); (case aF => exact (fun _ _ => trivial)); (case aO => exact (by (with_reducible repeat (first | apply Kd.RA | apply Kd.RN | apply Kd.RD)); exact Kd.R_mono (Kd.R_far (p := ⟨gb452, 4, none⟩) (Kd.R_far (p := ⟨gb452, 3, none⟩) (Kd.R_far (p := ⟨gb452, 2, none⟩) (Kd.R_far (p := ⟨gb452, 1, none⟩) (Kd.R_far (p := ⟨gb452, 0, none⟩) (Kd.R_types HO_5.out BK452.out (by decide)) (fun _ hk => hk.2) (.int .i64 ((rd_T138 l0 x11_1).f0))) (fun _ hk => hk.2) (.int .i64 ((rd_T138 l0 x11_1).f1))) (fun _ hk => hk.2) (.int .i64 ((rd_T138 l0 x11_1).f2))) (fun _ hk => hk.2) (.int .i64 ((rd_T138 l0 x11_1).f3))) (fun _ hk => hk.2) (.int .i64 ((rd_T138 l0 x11_1).f4))) (fun _ hk => trivial))); (case aS => exact (bZ (by repeat (first | (with_reducible first | exact HB.out | apply bA | apply bN | apply b1 | refine bS ?_ GE452.out) | exact HB.out)))); (case aL => have := LMc10.out; omega); intro v454 w13 ho hb hg hat; rw [← Ny453.out] at ho; have n0_ := zK (blk_grown (g := gb452) (o := .cells #[.int .i64 ((rd_T138 l0 x11_1).f0), .int .i64 ((rd_T138 l0 x11_1).f1), .int .i64 ((rd_T138 l0 x11_1).f2), .int .i64 ((rd_T138 l0 x11_1).f3), .int .i64 ((rd_T138 l0 x11_1).f4)] 138 (0, 0)) (by (with_reducible repeat (first | refine kN ?_ _ | refine kD ?_ | refine kA ?_ _)); refine blk_put (cs := #[.int .i64 ((rd_T138 l0 x11_1).f0), .int .i64 ((rd_T138 l0 x11_1).f1), .int .i64 ((rd_T138 l0 x11_1).f2), .int .i64 ((rd_T138 l0 x11_1).f3), .int .i64 0]) ?_ 4 _ rfl; (with_reducible repeat (first | refine kN ?_ _ | refine kD ?_ | refine kA ?_ _)); refine blk_put (cs := #[.int .i64 ((rd_T138 l0 x11_1).f0), .int .i64 ((rd_T138 l0 x11_1).f1), .int .i64 ((rd_T138 l0 x11_1).f2), .int .i64 0, .int .i64 0]) ?_ 3 _ rfl; (with_reducible repeat (first | refine kN ?_ _ | refine kD ?_ | refine kA ?_ _)); refine blk_put (cs := #[.int .i64 ((rd_T138 l0 x11_1).f0), .int .i64 ((rd_T138 l0 x11_1).f1), .int .i64 0, .int .i64 0, .int .i64 0]) ?_ 2 _ rfl; (with_reducible repeat (first | refine kN ?_ _ | refine kD ?_ | refine kA ?_ _)); refine blk_put (cs := #[.int .i64 ((rd_T138 l0 x11_1).f0), .int .i64 0, .int .i64 0, .int .i64 0, .int .i64 0]) ?_ 1 _ rfl; (with_reducible repeat (first | refine kN ?_ _ | refine kD ?_ | refine kA ?_ _)); refine blk_put (cs := #[.int .i64 0, .int .i64 0, .int .i64 0, .int .i64 0, .int .i64 0]) ?_ 0 _ rfl; (with_reducible repeat (first | refine kN ?_ _ | refine kD ?_ | refine kA ?_ _)); exact BK452.out) hg (Kd.R_ne HO_5.out BK452.out (by decide))); have n1_ := zK (hb); have n2_ := zK (ho); clear BK452; clear HB; clear HO_5; have BK452 := n0_; have HB := n1_; have HO455 := n2_; clear n0_ n1_ n2_; clear ho hb hg hat))
   go_roundg k1
   case measure => have := HK1.out; omega
   case rel => exact ⟨(y453), (wrap64 (x11_1 + 1)), (by first | rfl | (simp; done) | (simp [*]; done)), H', ⟨by have := HK1.out; omega⟩, ⟨by (with_reducible repeat (first | apply Kd.RA | apply Kd.RN | apply Kd.RD)); exact HO455.out⟩, ⟨by repeat (first | (with_reducible first | exact HB.out | apply bA | apply bN | apply b1 | refine bS ?_ GE452.out) | exact HB.out)⟩⟩
end Go.Proofs.Ytejhjenlodclpaa.PFnParcels
