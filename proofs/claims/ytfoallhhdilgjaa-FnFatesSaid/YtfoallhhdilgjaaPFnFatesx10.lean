/- Walks of functions that FnFates reaches: written by a tool of the kit for this claim, then shortened by a program of ours. -/
import Derived.Test.YtfoallhhdilgjaaPFnFatesx0
import Derived.Test.YtfoallhhdilgjaaPFnFatesx1
import Derived.Test.YtfoallhhdilgjaaPFnFatesx2
import Derived.Test.YtfoallhhdilgjaaPFnFatesx7
import Derived.Test.YtfoallhhdilgjaaPFnFatesx9
/- narrow -/
namespace Go.Proofs.Ytfoallhhdilgjaa.PFnFates
open Go.RowKit Go.Proofs.YtfoallhhdilgjaaW.PrintWords Go.Proofs.YtfoallhhdilgjaaW.PrintLast Go.Proofs.YtfoallhhdilgjaaW.PrintMore
attribute [local go_sem] max2_int min2_int max_two min_two max_three min_three max_four min_four   -- for this text's walks alone
set_option linter.unusedVariables false
set_option linter.unusedSimpArgs false

/-! ### impl_MustKeep: function 11 -/
def impl_MustKeep.f (k : Nat) (a0_0 : Int) (a0_1 : Int) (a0_2 : Int) (a0_3 : Int) (a0_4 : Int) (a0_5 : Int) (a0_6 : Int) (a0_7 : Int) (l1 : List (S38)) (a2 : Int) : Option (Bool) := (impl_FateOf.f k a0_0 a0_1 a0_2 a0_3 a0_4 a0_5 a0_6 a0_7 l1 a2).bind fun t521 => (if t521 = 0 then (some true) else (some (t521 == 1)))
set_option maxHeartbeats 8000000 in
set_option maxRecDepth 100000 in
theorem impl_MustKeep.calls (k : Nat) (a0_0 : Int) (a0_1 : Int) (a0_2 : Int) (a0_3 : Int) (a0_4 : Int) (a0_5 : Int) (a0_6 : Int) (a0_7 : Int) (A1 : Option Addr) (c1 : Nat) (l1 : List (S38)) (a2 : Int) (r : Bool) (w : World) (hr1 : Kd.C k38 w A1 l1.length l1) (hc1 : l1.length ≤ c1) (h : impl_MustKeep.f k a0_0 a0_1 a0_2 a0_3 a0_4 a0_5 a0_6 a0_7 l1 a2 = some r) :
  Calls Try.prog 11 #[.agg #[.int .i64 a0_0, .int .i64 a0_1, .int .i64 a0_2, .int .i64 a0_3, .int .i64 a0_4, .int .i64 a0_5, .int .i64 a0_6, .int .i64 a0_7], .slice A1 l1.length c1, .int .i64 a2] w fun e w' => e = .returned (.bool r) ∧ Below w.heap.size w w' := by
 have hu29 := Try.underlying29
 have HR1 := zK hr1
 have HC1 := zK hc1
 clear hr1 hc1
 have HB := zK (Below.refl w.heap.size w)
 have H : ((impl_FateOf.f k a0_0 a0_1 a0_2 a0_3 a0_4 a0_5 a0_6 a0_7 l1 a2).bind fun t521 => (if t521 = 0 then (some true) else (some (t521 == 1)))) = some r := h
 clear h
 replace H := Option.bind_eq_some_iff.mp H
 obtain ⟨t521, A40, H⟩ := H
 replace H : (if t521 = 0 then (some true) else (some (t521 == 1))) = some r := H
 have A4 := zK A40
 clear A40
 by_cases c5 : t521 = 0
 ·rw [if_pos c5] at H
  have c5b0 : (t521 == 0) = true := beq_iff_eq.mpr c5
  have c5b1 : (t521 != 0) = false := bne_eq_false_iff_eq.mpr c5
  clear c5
  obtain rfl := Option.some.inj H
  go_enter Try.func11, Try.ntmps11
  go_wp2_with (first | ((with_reducible refine gate_dst (N := 3) rfl ?_); refine box_event ?hg (N := 3) ?hd (cs := #[.int .i64 a0_0, .int .i64 a0_1, .int .i64 a0_2, .int .i64 a0_3, .int .i64 a0_4, .int .i64 a0_5, .int .i64 a0_6, .int .i64 a0_7]) (t := 29) ?hr ?_; (case hd => rfl); (case hg => rfl); (case hr => first | (go_simp; done) | (go_simp; rfl)); intro gb520 hg w6 hbox hb; have n0_ := zK (bT (qB HB.out) hb); have n1_ := zK (hbox); have n2_ := zK ((by rw [hg]; exact (bZ (qB HB.out)) : w.heap.size ≤ gb520)); have n3_ := zK ((by rw [hg]; exact (bZ (qB HB.out)) : w.heap.size ≤ gb520)); clear HB; have HB := n0_; have BK520 := n1_; have GW520 := n2_; have GE520 := n3_; clear n0_ n1_ n2_ n3_; clear hb hbox hg; have hcz7_0 : w6.cell? ⟨gb520, 0, none⟩ = some (.int .i64 a0_0) := (bc BK520.out 0).trans rfl; have hcz7_1 : w6.cell? ⟨gb520, 1, none⟩ = some (.int .i64 a0_1) := (bc BK520.out 1).trans rfl; have hcz7_2 : w6.cell? ⟨gb520, 2, none⟩ = some (.int .i64 a0_2) := (bc BK520.out 2).trans rfl; have hcz7_3 : w6.cell? ⟨gb520, 3, none⟩ = some (.int .i64 a0_3) := (bc BK520.out 3).trans rfl; have hcz7_4 : w6.cell? ⟨gb520, 4, none⟩ = some (.int .i64 a0_4) := (bc BK520.out 4).trans rfl; have hcz7_5 : w6.cell? ⟨gb520, 5, none⟩ = some (.int .i64 a0_5) := (bc BK520.out 5).trans rfl; have hcz7_6 : w6.cell? ⟨gb520, 6, none⟩ = some (.int .i64 a0_6) := (bc BK520.out 6).trans rfl; have hcz7_7 : w6.cell? ⟨gb520, 7, none⟩ = some (.int .i64 a0_7) := (bc BK520.out 7).trans rfl; have hfz7_0 := bf BK520.out 0; have hfz7_1 := bf BK520.out 1; have hfz7_2 := bf BK520.out 2; have hfz7_3 := bf BK520.out 3; have hfz7_4 := bf BK520.out 4; have hfz7_5 := bf BK520.out 5; have hfz7_6 := bf BK520.out 6; have hfz7_7 := bf BK520.out 7) | ((with_reducible refine gate_callee (f := 9) rfl ?_); refine goesL_ (some 11) rfl rfl Try.func9 (by kernel_rfl) rfl #[.agg #[.int .i64 a0_0, .int .i64 a0_1, .int .i64 a0_2, .int .i64 a0_3, .int .i64 a0_4, .int .i64 a0_5, .int .i64 a0_6, .int .i64 a0_7], .slice A1 l1.length c1, .int .i64 a2] rfl m0 ?_; (with_reducible refine (impl_FateOf.calls k a0_0 a0_1 a0_2 a0_3 a0_4 a0_5 a0_6 a0_7 _ _ l1 a2 t521 _ ?side1 ?side2 A4.out).mono ?_); (case side1 => exact Kd.qC (Kd.C_below HR1.out HB.out)); (case side2 => exact HC1.out); rintro e w8 ⟨rfl, hb⟩; refine ⟨_, rfl, ?_⟩; have n0_ := zK (bB (g := gb520) (o := .cells #[.int .i64 a0_0, .int .i64 a0_1, .int .i64 a0_2, .int .i64 a0_3, .int .i64 a0_4, .int .i64 a0_5, .int .i64 a0_6, .int .i64 a0_7] 29 (0, 0)) (qK BK520.out) hb); have n1_ := zK (bT (by repeat (first | (with_reducible first | exact HB.out | apply bA | apply bN | apply below_drew1 | refine bS ?_ GE520.out) | exact HB.out)) hb); clear BK520; clear HB; have BK520 := n0_; have HB := n1_; clear n0_ n1_; (try clear hb); (try clear hb2); (try clear hk); (try clear hi)))
  go_ret
  exact ⟨by first | rfl | (simp [errW_none, errW_some] <;> rfl) | (simp [*, errW_none, errW_some] <;> rfl), by repeat (first | (with_reducible first | exact HB.out | apply bA | apply bN | apply below_drew1 | refine bS ?_ GE520.out) | exact HB.out)⟩
 rw [if_neg c5] at H
 have c5b0 : (t521 == 0) = false := beq_eq_false_iff_ne.mpr c5
 have c5b1 : (t521 != 0) = true := bne_iff_ne.mpr c5
 obtain rfl := Option.some.inj H
 go_enter Try.func11, Try.ntmps11
 go_wp2_with (first | ((with_reducible refine gate_dst (N := 3) rfl ?_); refine box_event ?hg (N := 3) ?hd (cs := #[.int .i64 a0_0, .int .i64 a0_1, .int .i64 a0_2, .int .i64 a0_3, .int .i64 a0_4, .int .i64 a0_5, .int .i64 a0_6, .int .i64 a0_7]) (t := 29) ?hr ?_; (case hd => rfl); (case hg => rfl); (case hr => first | (go_simp; done) | (go_simp; rfl)); intro gb520 hg w9 hbox hb; have n0_ := zK (bT (qB HB.out) hb); have n1_ := zK (hbox); have n2_ := zK ((by rw [hg]; exact (bZ (qB HB.out)) : w.heap.size ≤ gb520)); have n3_ := zK ((by rw [hg]; exact (bZ (qB HB.out)) : w.heap.size ≤ gb520)); clear HB; have HB := n0_; have BK520 := n1_; have GW520 := n2_; have GE520 := n3_; clear n0_ n1_ n2_ n3_; clear hb hbox hg; have hcz10_0 : w9.cell? ⟨gb520, 0, none⟩ = some (.int .i64 a0_0) := (bc BK520.out 0).trans rfl; have hcz10_1 : w9.cell? ⟨gb520, 1, none⟩ = some (.int .i64 a0_1) := (bc BK520.out 1).trans rfl; have hcz10_2 : w9.cell? ⟨gb520, 2, none⟩ = some (.int .i64 a0_2) := (bc BK520.out 2).trans rfl; have hcz10_3 : w9.cell? ⟨gb520, 3, none⟩ = some (.int .i64 a0_3) := (bc BK520.out 3).trans rfl; have hcz10_4 : w9.cell? ⟨gb520, 4, none⟩ = some (.int .i64 a0_4) := (bc BK520.out 4).trans rfl; have hcz10_5 : w9.cell? ⟨gb520, 5, none⟩ = some (.int .i64 a0_5) := (bc BK520.out 5).trans rfl; have hcz10_6 : w9.cell? ⟨gb520, 6, none⟩ = some (.int .i64 a0_6) := (bc BK520.out 6).trans rfl; have hcz10_7 : w9.cell? ⟨gb520, 7, none⟩ = some (.int .i64 a0_7) := (bc BK520.out 7).trans rfl; have hfz10_0 := bf BK520.out 0; have hfz10_1 := bf BK520.out 1; have hfz10_2 := bf BK520.out 2; have hfz10_3 := bf BK520.out 3; have hfz10_4 := bf BK520.out 4; have hfz10_5 := bf BK520.out 5; have hfz10_6 := bf BK520.out 6; have hfz10_7 := bf BK520.out 7) | ((with_reducible refine gate_callee (f := 9) rfl ?_); refine goesL_ (some 11) rfl rfl Try.func9 (by kernel_rfl) rfl #[.agg #[.int .i64 a0_0, .int .i64 a0_1, .int .i64 a0_2, .int .i64 a0_3, .int .i64 a0_4, .int .i64 a0_5, .int .i64 a0_6, .int .i64 a0_7], .slice A1 l1.length c1, .int .i64 a2] rfl m0 ?_; (with_reducible refine (impl_FateOf.calls k a0_0 a0_1 a0_2 a0_3 a0_4 a0_5 a0_6 a0_7 _ _ l1 a2 t521 _ ?side1 ?side2 A4.out).mono ?_); (case side1 => exact Kd.qC (Kd.C_below HR1.out HB.out)); (case side2 => exact HC1.out); rintro e w11 ⟨rfl, hb⟩; refine ⟨_, rfl, ?_⟩; have n0_ := zK (bB (g := gb520) (o := .cells #[.int .i64 a0_0, .int .i64 a0_1, .int .i64 a0_2, .int .i64 a0_3, .int .i64 a0_4, .int .i64 a0_5, .int .i64 a0_6, .int .i64 a0_7] 29 (0, 0)) (qK BK520.out) hb); have n1_ := zK (bT (by repeat (first | (with_reducible first | exact HB.out | apply bA | apply bN | apply below_drew1 | refine bS ?_ GE520.out) | exact HB.out)) hb); clear BK520; clear HB; have BK520 := n0_; have HB := n1_; clear n0_ n1_; (try clear hb); (try clear hb2); (try clear hk); (try clear hi)))
 go_ret
 exact ⟨by first | rfl | (simp [errW_none, errW_some] <;> rfl) | (simp [*, errW_none, errW_some] <;> rfl), by repeat (first | (with_reducible first | exact HB.out | apply bA | apply bN | apply below_drew1 | refine bS ?_ GE520.out) | exact HB.out)⟩
/-! ### spec_DrawFatesOf: function 13 -/
def spec_DrawFatesOf.f (k : Nat) (l0 : List Int) : Option ((List (S29)) × (List (S38)) × Int) := (spec_l1New.f k l0).bind fun bt522 => ((spec_l6Any.f k bt522.1 bt522.2.1 bt522.2.2).bind fun bt526 => ((spec_l13Any.f k bt522.1 bt526.2.1 bt526.2.2).bind fun bt531 => ((spec_l17Now.f bt522.1 bt531.2.1 bt531.2.2).bind fun bt536 => (some (bt526.1, bt531.1, bt536.1)))))
set_option maxHeartbeats 8000000 in
set_option maxRecDepth 100000 in
theorem spec_DrawFatesOf.calls (k : Nat) (A0 : Option Addr) (c0 : Nat) (l0 : List Int) (r1 : List (S29)) (r2 : List (S38)) (r3 : Int) (w : World) (hr0 : Kd.C (Kd.int .u8) w A0 l0.length l0) (hc0 : l0.length ≤ c0) (h : spec_DrawFatesOf.f k l0 = some (r1, r2, r3)) :
  Calls Try.prog 13 #[.slice A0 l0.length c0] w fun e w' => ∃ v0_ v1_ : Value, e = .returned (.tuple #[v0_, v1_, .int .i64 r3]) ∧ Kd.R k29 29 w' w.heap.size (fun _ => True) v0_ r1 ∧ Kd.R k38 38 w' w.heap.size (fun _ => True) v1_ r2 ∧ Below w.heap.size w w' := by
 have HR0 := zK hr0
 have HC0 := zK hc0
 clear hr0 hc0
 have HB := zK (Below.refl w.heap.size w)
 have H : ((spec_l1New.f k l0).bind fun bt522 => ((spec_l6Any.f k bt522.1 bt522.2.1 bt522.2.2).bind fun bt526 => ((spec_l13Any.f k bt522.1 bt526.2.1 bt526.2.2).bind fun bt531 => ((spec_l17Now.f bt522.1 bt531.2.1 bt531.2.2).bind fun bt536 => (some (bt526.1, bt531.1, bt536.1)))))) = some (r1, r2, r3) := h
 clear h
 replace H := Option.bind_eq_some_iff.mp H
 obtain ⟨⟨t522, t523, t524⟩, A20, H⟩ := H
 replace H : ((spec_l6Any.f k t522 t523 t524).bind fun bt526 => ((spec_l13Any.f k t522 bt526.2.1 bt526.2.2).bind fun bt531 => ((spec_l17Now.f t522 bt531.2.1 bt531.2.2).bind fun bt536 => (some (bt526.1, bt531.1, bt536.1))))) = some (r1, r2, r3) := H
 have A2 := zK A20
 clear A20
 replace H := Option.bind_eq_some_iff.mp H
 obtain ⟨⟨t526, t529, t530⟩, A30, H⟩ := H
 replace H : ((spec_l13Any.f k t522 t529 t530).bind fun bt531 => ((spec_l17Now.f t522 bt531.2.1 bt531.2.2).bind fun bt536 => (some (t526, bt531.1, bt536.1)))) = some (r1, r2, r3) := H
 have A3 := zK A30
 clear A30
 replace H := Option.bind_eq_some_iff.mp H
 obtain ⟨⟨t531, t534, t535⟩, A40, H⟩ := H
 replace H : ((spec_l17Now.f t522 t534 t535).bind fun bt536 => (some (t526, t531, bt536.1))) = some (r1, r2, r3) := H
 have A4 := zK A40
 clear A40
 replace H := Option.bind_eq_some_iff.mp H
 obtain ⟨⟨t536, t537, t538⟩, A50, H⟩ := H
 replace H : (some (t526, t531, t536)) = some (r1, r2, r3) := H
 have A5 := zK A50
 clear A50
 simp only [Option.some.injEq, Prod.mk.injEq] at H
 obtain ⟨rfl, rfl, rfl⟩ := H
 go_enter Try.func13, Try.ntmps13
 go_wp2_with (first | ((with_reducible refine gate_callee (f := 17) rfl ?_); refine goesL_ (some 9) rfl rfl Try.func17 (by kernel_rfl) rfl #[.slice A0 l0.length c0] rfl m0 ?_; (with_reducible refine (spec_l1New.calls k _ _ l0 t522 t523 t524 w _ ?side1 ?side2 ?side3 A2.out).mono ?_); (case side1 => repeat (first | (with_reducible first | exact HB.out | apply bA | apply bN | apply below_drew1) | exact HB.out)); (case side2 => exact HR0.out); (case side3 => exact HC0.out); rintro e w6 ⟨g525, rfl, hi, hb, hb2⟩; refine ⟨_, rfl, ?_⟩; have n0_ := zK (hb); have n1_ := zK (hi); clear HB; have HB := n0_; have HI525 := n1_; clear n0_ n1_; (try clear hb); (try clear hb2); (try clear hk); (try clear hi)) | ((with_reducible refine gate_callee (f := 27) rfl ?_); refine goesL_ (some 11) rfl rfl Try.func27 (by kernel_rfl) rfl #[.pointer (some ⟨g525, 0, none⟩)] rfl m0 ?_; (with_reducible refine (spec_l6Any.calls k g525 t522 t523 t524 t526 t529 t530 w _ ?side1 ?side2 A3.out).mono ?_); (case side1 => repeat (first | (with_reducible first | exact HI525.out | apply IsS61.alloc | apply IsS61.drewN | apply IsS61.drew | apply IsS61.set_1 | apply IsS61.set_2) | exact HI525.out)); (case side2 => repeat (first | (with_reducible first | exact HB.out | apply bA | apply bN | apply below_drew1 | refine bS ?_ (IsS61.ge HI525.out)) | exact HB.out)); rintro e w7 ⟨v527, rfl, ho0, hi, hb, hk⟩; refine ⟨_, rfl, ?_⟩; have n0_ := zK (Kd.R_lower ho0 (bZ (by repeat (first | (with_reducible first | exact HB.out | apply bA | apply bN | apply below_drew1 | refine bS ?_ (IsS61.ge HI525.out)) | exact HB.out)))); have n1_ := zK (hb); have n2_ := zK (hi); clear HB; clear HI525; have HO528 := n0_; have HB := n1_; have HI525 := n2_; clear n0_ n1_ n2_; (try clear hb); (try clear hb2); (try clear hk); (try clear hi); (try clear ho0)) | ((with_reducible refine gate_callee (f := 19) rfl ?_); refine goesL_ (some 13) rfl rfl Try.func19 (by kernel_rfl) rfl #[.pointer (some ⟨g525, 0, none⟩)] rfl m0 ?_; (with_reducible refine (spec_l13Any.calls k g525 t522 t529 t530 t531 t534 t535 w _ ?side1 ?side2 A4.out).mono ?_); (case side1 => repeat (first | (with_reducible first | exact HI525.out | apply IsS61.alloc | apply IsS61.drewN | apply IsS61.drew | apply IsS61.set_1 | apply IsS61.set_2) | exact HI525.out)); (case side2 => repeat (first | (with_reducible first | exact HB.out | apply bA | apply bN | apply below_drew1 | refine bS ?_ (IsS61.ge HI525.out)) | exact HB.out)); rintro e w8 ⟨v532, rfl, ho0, hi, hb, hk⟩; refine ⟨_, rfl, ?_⟩; have n0_ := zK (Kd.R_mono (Kd.R_keep (IsS61.apart (show IsS61 w _ g525 t522 t529 t530 from by repeat (first | (with_reducible first | exact HI525.out | apply IsS61.alloc | apply IsS61.drewN | apply IsS61.drew | apply IsS61.set_1 | apply IsS61.set_2) | exact HI525.out)) (Kd.qR HO528.out) (by decide)) hk (fun _ h => h.2)) (fun _ h => h.1)); have n1_ := zK (Kd.R_lower ho0 (bZ (by repeat (first | (with_reducible first | exact HB.out | apply bA | apply bN | apply below_drew1 | refine bS ?_ (IsS61.ge HI525.out)) | exact HB.out)))); have n2_ := zK (hb); have n3_ := zK (hi); clear HO528; clear HB; clear HI525; have HO528 := n0_; have HO533 := n1_; have HB := n2_; have HI525 := n3_; clear n0_ n1_ n2_ n3_; (try clear hb); (try clear hb2); (try clear hk); (try clear hi); (try clear ho0)) | ((with_reducible refine gate_callee (f := 22) rfl ?_); refine goesL_ (some 17) rfl rfl Try.func22 (by kernel_rfl) rfl #[.pointer (some ⟨g525, 0, none⟩)] rfl m0 ?_; (with_reducible refine (spec_l17Now.calls g525 t522 t534 t535 t536 t537 t538 w _ ?side1 ?side2 A5.out).mono ?_); (case side1 => repeat (first | (with_reducible first | exact HI525.out | apply IsS61.alloc | apply IsS61.drewN | apply IsS61.drew | apply IsS61.set_1 | apply IsS61.set_2) | exact HI525.out)); (case side2 => repeat (first | (with_reducible first | exact HB.out | apply bA | apply bN | apply below_drew1 | refine bS ?_ (IsS61.ge HI525.out)) | exact HB.out)); rintro e w9 ⟨rfl, hi, hb, hk⟩; refine ⟨_, rfl, ?_⟩; have n0_ := zK (Kd.R_mono (Kd.R_keep (IsS61.apart (show IsS61 w _ g525 t522 t534 t535 from by repeat (first | (with_reducible first | exact HI525.out | apply IsS61.alloc | apply IsS61.drewN | apply IsS61.drew | apply IsS61.set_1 | apply IsS61.set_2) | exact HI525.out)) (Kd.qR HO528.out) (by decide)) hk (fun _ h => h.2)) (fun _ h => h.1)); have n1_ := zK (Kd.R_mono (Kd.R_keep (IsS61.apart (show IsS61 w _ g525 t522 t534 t535 from by repeat (first | (with_reducible first | exact HI525.out | apply IsS61.alloc | apply IsS61.drewN | apply IsS61.drew | apply IsS61.set_1 | apply IsS61.set_2) | exact HI525.out)) (Kd.qR HO533.out) (by decide)) hk (fun _ h => h.2)) (fun _ h => h.1)); have n2_ := zK (hb); have n3_ := zK (hi); clear HO528; clear HO533; clear HB; clear HI525; have HO528 := n0_; have HO533 := n1_; have HB := n2_; have HI525 := n3_; clear n0_ n1_ n2_ n3_; (try clear hb); (try clear hb2); (try clear hk); (try clear hi)))
 go_ret3
 exact ⟨_, _, by first | rfl | (simp [errW_none, errW_some] <;> rfl) | (simp [*, errW_none, errW_some] <;> rfl), by exact Kd.qR HO528.out, by exact Kd.qR HO533.out, by repeat (first | (with_reducible first | exact HB.out | apply bA | apply bN | apply below_drew1 | refine bS ?_ (IsS61.ge HI525.out)) | exact HB.out)⟩
/-! ### impl_FatesOf: function 14 -/
def impl_FatesOf.l0 : Nat → List (S38) → Int → List Int → List (S29) → Int → Int → Option (List Int)
 | 0, _, _, _, _, _, _ => none
 | k + 1, x1, x2, x7, x11, x12, x13 => if x13 < x12 then (if 0 ≤ x13 then (if x13 < (x11.length : Int) then ((impl_FateOf.f k ((rd_T29 x11 x13).f0.f0) ((rd_T29 x11 x13).f0.f1) ((rd_T29 x11 x13).f0.f2) ((rd_T29 x11 x13).f0.f3) ((rd_T29 x11 x13).f0.f4) ((rd_T29 x11 x13).f1) ((rd_T29 x11 x13).f2) ((rd_T29 x11 x13).f3) x1 x2).bind fun t544 => (if x7.length < 17592186044416 then (impl_FatesOf.l0 k x1 x2 (x7 ++ [t544]) x11 x12 (wrap64 (x13 + 1))) else (none))) else (none)) else (none)) else (some x7)
def impl_FatesOf.f (k : Nat) (l0 : List (S29)) (l1 : List (S38)) (a2 : Int) : Option (List Int) := impl_FatesOf.l0 k l1 a2 (([] : List Int)) l0 (l0.length : Int) 0
set_option maxHeartbeats 8000000 in
set_option maxRecDepth 100000 in
theorem impl_FatesOf.calls (k : Nat) (A0 : Option Addr) (c0 : Nat) (l0 : List (S29)) (A1 : Option Addr) (c1 : Nat) (l1 : List (S38)) (a2 : Int) (r : List Int) (w : World) (hr0 : Kd.C k29 w A0 l0.length l0) (hc0 : l0.length ≤ c0) (hr1 : Kd.C k38 w A1 l1.length l1) (hc1 : l1.length ≤ c1) (h : impl_FatesOf.f k l0 l1 a2 = some r) :
  Calls Try.prog 14 #[.slice A0 l0.length c0, .slice A1 l1.length c1, .int .i64 a2] w fun e w' => ∃ v0_ : Value, e = .returned (v0_) ∧ Kd.R (Kd.int .i64) 3 w' w.heap.size (fun _ => True) v0_ r ∧ Below w.heap.size w w' := by
 have hu29 := Try.underlying29
 have HR0 := zK hr0
 have HC0 := zK hc0
 clear hr0 hc0
 have HR1 := zK hr1
 have HC1 := zK hc1
 clear hr1 hc1
 have HB := zK (Below.refl w.heap.size w)
 have H : (impl_FatesOf.l0 k l1 a2 (([] : List Int)) l0 (l0.length : Int) 0) = some r := h
 clear h
 obtain ⟨y539, hy539⟩ : ∃ y_ : List Int, y_ = (([] : List Int)) := ⟨_, rfl⟩
 replace H : (impl_FatesOf.l0 k l1 a2 y539 l0 (l0.length : Int) 0) = some r := by first | (rw [hy539]; with_reducible exact H) | (have H2_ := (Option.bind_some _ _).symm.trans H; rw [hy539]; with_reducible exact H2_) | (have H2_ := (Option.bind_some _ _).symm.trans H; with_reducible exact H2_) | with_reducible exact H | (rw [hy539]; exact H) | exact H
 have Ny539 := zK hy539
 clear hy539
 have H' := zK H
 clear H
 go_enter Try.func14, Try.ntmps14
 go_wp2_with (first | ((with_reducible refine gate_dst (N := 10) rfl ?_); refine Kd.R_lit (Kd.int .i64) _ 3 ?hg (N := 10) ?hd (xs := ([] : List Int)) (inner := []) (ok := fun _ => True) (okp := fun _ => True) ?hr ?hp (fun _ hk => hk) trivial (Below.refl _ _) (Nat.le_refl _) (by simp) ?_; (case hd => rfl); (case hg => rfl); (case hr => first | (go_simp; done) | (go_simp; rfl)); (case hp => exact (Reps.none _ _)); intro v540 w4 ho5 hb hg_ hnew_; clear hg_ hnew_; (first | rw [← Ny539.out] at ho5 | (simp only [Int.reduceToNat] at ho5; rw [← Ny539.out] at ho5)); have n0_ := zK (Kd.R_lower ho5 (bZ (qB HB.out))); have n1_ := zK (bT (qB HB.out) hb); clear HB; have HO541 := n0_; have HB := n1_; clear n0_ n1_; clear hb ho5))
 go_loopg [7, 13] k (fun kq v7 v13 w' => ∃ (x7_1 : List Int) (x13_1 : Int), v13 = .int .i64 x13_1 ∧ Aside0 (impl_FatesOf.l0 kq l1 a2 x7_1 l0 (l0.length : Int) x13_1 = some r) ∧ Aside0 (kq ≤ k) ∧ Aside0 (Kd.R (Kd.int .i64) 3 w' w.heap.size (fun _ => True) v7 x7_1) ∧ Aside0 (Below w.heap.size w w'))
 case atStart => exact ⟨(y539), (0), m9, H', ⟨Nat.le_refl _⟩, ⟨by exact Kd.qR HO541.out⟩, ⟨by exact qB HB.out⟩⟩
 case round =>
  clear H'
  try clear c1
  try clear p2
  obtain ⟨x7_1, x13_1, rfl, HA, HK1, HO_7, HB⟩ := hrel
  cases gk with
  | zero => exact absurd HA.out (by simp [impl_FatesOf.l0])
  | succ k1 =>
   have H := HA.out
   clear HA
   simp only [impl_FatesOf.l0] at H
   by_cases c6 : x13_1 < (l0.length : Int)
   rotate_left
   ·rw [if_neg c6] at H
    have c6b0 : decide (x13_1 < (l0.length : Int)) = false := decide_eq_false c6
    clear c6
    obtain rfl := Option.some.inj H
    go_wp2
    go_ret
    exact ⟨_, by first | rfl | (simp [errW_none, errW_some] <;> rfl) | (simp [*, errW_none, errW_some] <;> rfl), by exact Kd.qR HO_7.out, by exact qB HB.out⟩
   rw [if_pos c6] at H
   have c6b0 : decide (x13_1 < (l0.length : Int)) = true := decide_eq_true c6
   clear c6
   by_cases c7 : 0 ≤ x13_1
   rotate_left
   ·rw [if_neg c7] at H
    exact absurd H (by simp)
   rw [if_pos c7] at H
   have c7b0 : decide (0 ≤ x13_1) = true := decide_eq_true c7
   clear c7
   by_cases c8 : x13_1 < (l0.length : Int)
   rotate_left
   ·rw [if_neg c8] at H
    exact absurd H (by simp)
   rw [if_pos c8] at H
   have c8b0 : decide (x13_1 < (l0.length : Int)) = true := decide_eq_true c8
   clear c8
   replace H := Option.bind_eq_some_iff.mp H
   obtain ⟨t544, A90, H⟩ := H
   replace H : (if x7_1.length < 17592186044416 then (impl_FatesOf.l0 k1 l1 a2 (x7_1 ++ [t544]) l0 (l0.length : Int) (wrap64 (x13_1 + 1))) else (none)) = some r := H
   have A9 := zK A90
   clear A90
   by_cases c10 : x7_1.length < 17592186044416
   rotate_left
   ·rw [if_neg c10] at H
    exact absurd H (by simp)
   rw [if_pos c10] at H
   have LMc10 := zK c10
   clear c10
   obtain ⟨y545, hy545⟩ : ∃ y_ : List Int, y_ = (x7_1 ++ [t544]) := ⟨_, rfl⟩
   replace H : (impl_FatesOf.l0 k1 l1 a2 y545 l0 (l0.length : Int) (wrap64 (x13_1 + 1))) = some r := by first | (rw [hy545]; with_reducible exact H) | (have H2_ := (Option.bind_some _ _).symm.trans H; rw [hy545]; with_reducible exact H2_) | (have H2_ := (Option.bind_some _ _).symm.trans H; with_reducible exact H2_) | with_reducible exact H | (rw [hy545]; exact H) | exact H
   have Ny545 := zK hy545
   clear hy545
   have H' := zK H
   clear H
   have p542 : 0 ≤ (x13_1 : Int) := oD m2
   have q542 : x13_1 < (l0.length : Int) := oD m2
   obtain ⟨ad542, e542, hx542_0, hx542_1, hx542_2, hx542_3, hx542_4, hx542_5, hx542_6, hx542_7⟩ := at_T29 HR0.out x13_1 p542 q542
   cases e542
   replace hx542_0 := (HB.out.cell (bL w hx542_0)).trans hx542_0
   replace hx542_1 := (HB.out.cell (bL w hx542_1)).trans hx542_1
   replace hx542_2 := (HB.out.cell (bL w hx542_2)).trans hx542_2
   replace hx542_3 := (HB.out.cell (bL w hx542_3)).trans hx542_3
   replace hx542_4 := (HB.out.cell (bL w hx542_4)).trans hx542_4
   replace hx542_5 := (HB.out.cell (bL w hx542_5)).trans hx542_5
   replace hx542_6 := (HB.out.cell (bL w hx542_6)).trans hx542_6
   replace hx542_7 := (HB.out.cell (bL w hx542_7)).trans hx542_7
   replace p542 := eq_true p542
   replace q542 := eq_true q542
   go_wp2_with (first | ((with_reducible refine gate_dst (N := 9) rfl ?_); refine box_event ?hg (N := 9) ?hd (cs := #[.int .i64 0, .int .i64 0, .int .i64 0, .int .i64 0, .int .i64 0, .int .i64 0, .int .i64 0, .int .i64 0]) (t := 29) ?hr ?_; (case hd => rfl); (case hg => rfl); (case hr => first | (go_simp; done) | (go_simp; rfl)); intro gb543 hg w11 hbox hb; have n0_ := zK (Kd.R_below (Kd.qR HO_7.out) hb); have n1_ := zK (bT (qB HB.out) hb); have n2_ := zK (hbox); have n3_ := zK ((by rw [hg]; exact (bZ (qB HB.out)) : w.heap.size ≤ gb543)); have n4_ := zK ((by rw [hg]; exact (bZ (qB HB.out)) : w.heap.size ≤ gb543)); clear HO_7; clear HB; have HO_7 := n0_; have HB := n1_; have BK543 := n2_; have GW543 := n3_; have GE543 := n4_; clear n0_ n1_ n2_ n3_ n4_; clear hb hbox hg; have hcz12_0 : w11.cell? ⟨gb543, 0, none⟩ = some (.int .i64 0) := (bc BK543.out 0).trans rfl; have hcz12_1 : w11.cell? ⟨gb543, 1, none⟩ = some (.int .i64 0) := (bc BK543.out 1).trans rfl; have hcz12_2 : w11.cell? ⟨gb543, 2, none⟩ = some (.int .i64 0) := (bc BK543.out 2).trans rfl; have hcz12_3 : w11.cell? ⟨gb543, 3, none⟩ = some (.int .i64 0) := (bc BK543.out 3).trans rfl; have hcz12_4 : w11.cell? ⟨gb543, 4, none⟩ = some (.int .i64 0) := (bc BK543.out 4).trans rfl; have hcz12_5 : w11.cell? ⟨gb543, 5, none⟩ = some (.int .i64 0) := (bc BK543.out 5).trans rfl; have hcz12_6 : w11.cell? ⟨gb543, 6, none⟩ = some (.int .i64 0) := (bc BK543.out 6).trans rfl; have hcz12_7 : w11.cell? ⟨gb543, 7, none⟩ = some (.int .i64 0) := (bc BK543.out 7).trans rfl; have hfz12_0 := bf BK543.out 0; have hfz12_1 := bf BK543.out 1; have hfz12_2 := bf BK543.out 2; have hfz12_3 := bf BK543.out 3; have hfz12_4 := bf BK543.out 4; have hfz12_5 := bf BK543.out 5; have hfz12_6 := bf BK543.out 6; have hfz12_7 := bf BK543.out 7) | ((with_reducible refine gate_callee (f := 9) rfl ?_); refine goesL_ (some 21) rfl rfl Try.func9 (by kernel_rfl) rfl #[.agg #[.int .i64 ((rd_T29 l0 x13_1).f0.f0), .int .i64 ((rd_T29 l0 x13_1).f0.f1), .int .i64 ((rd_T29 l0 x13_1).f0.f2), .int .i64 ((rd_T29 l0 x13_1).f0.f3), .int .i64 ((rd_T29 l0 x13_1).f0.f4), .int .i64 ((rd_T29 l0 x13_1).f1), .int .i64 ((rd_T29 l0 x13_1).f2), .int .i64 ((rd_T29 l0 x13_1).f3)], .slice A1 l1.length c1, .int .i64 a2] rfl m0 ?_; (with_reducible refine (impl_FateOf.calls k1 ((rd_T29 l0 x13_1).f0.f0) ((rd_T29 l0 x13_1).f0.f1) ((rd_T29 l0 x13_1).f0.f2) ((rd_T29 l0 x13_1).f0.f3) ((rd_T29 l0 x13_1).f0.f4) ((rd_T29 l0 x13_1).f1) ((rd_T29 l0 x13_1).f2) ((rd_T29 l0 x13_1).f3) _ _ l1 a2 t544 _ ?side1 ?side2 A9.out).mono ?_); (case side1 => exact Kd.C_below HR1.out (by repeat (first | (with_reducible first | exact HB.out | apply bA | apply bN | apply below_drew1 | refine bS ?_ GE543.out) | exact HB.out))); (case side2 => exact HC1.out); rintro e w13 ⟨rfl, hb⟩; refine ⟨_, rfl, ?_⟩; have n0_ := zK (Kd.R_below (by (with_reducible repeat (first | apply Kd.RA | apply Kd.RN | apply Kd.RD)); exact (Kd.R_mono (Kd.R_far (p := ⟨gb543, 7, none⟩) (Kd.R_far (p := ⟨gb543, 6, none⟩) (Kd.R_far (p := ⟨gb543, 5, none⟩) (Kd.R_far (p := ⟨gb543, 4, none⟩) (Kd.R_far (p := ⟨gb543, 3, none⟩) (Kd.R_far (p := ⟨gb543, 2, none⟩) (Kd.R_far (p := ⟨gb543, 1, none⟩) (Kd.R_far (p := ⟨gb543, 0, none⟩) (Kd.R_types HO_7.out BK543.out (by decide)) (fun _ hk => hk.2) (.int .i64 ((rd_T29 l0 x13_1).f0.f0))) (fun _ hk => hk.2) (.int .i64 ((rd_T29 l0 x13_1).f0.f1))) (fun _ hk => hk.2) (.int .i64 ((rd_T29 l0 x13_1).f0.f2))) (fun _ hk => hk.2) (.int .i64 ((rd_T29 l0 x13_1).f0.f3))) (fun _ hk => hk.2) (.int .i64 ((rd_T29 l0 x13_1).f0.f4))) (fun _ hk => hk.2) (.int .i64 ((rd_T29 l0 x13_1).f1))) (fun _ hk => hk.2) (.int .i64 ((rd_T29 l0 x13_1).f2))) (fun _ hk => hk.2) (.int .i64 ((rd_T29 l0 x13_1).f3))) (fun _ h_ => h_.1))) hb); have n1_ := zK (bB (g := gb543) (o := .cells #[.int .i64 ((rd_T29 l0 x13_1).f0.f0), .int .i64 ((rd_T29 l0 x13_1).f0.f1), .int .i64 ((rd_T29 l0 x13_1).f0.f2), .int .i64 ((rd_T29 l0 x13_1).f0.f3), .int .i64 ((rd_T29 l0 x13_1).f0.f4), .int .i64 ((rd_T29 l0 x13_1).f1), .int .i64 ((rd_T29 l0 x13_1).f2), .int .i64 ((rd_T29 l0 x13_1).f3)] 29 (0, 0)) (by (with_reducible repeat (first | refine kN ?_ _ | refine kD ?_ | refine kA ?_ _)); refine blk_put (cs := #[.int .i64 ((rd_T29 l0 x13_1).f0.f0), .int .i64 ((rd_T29 l0 x13_1).f0.f1), .int .i64 ((rd_T29 l0 x13_1).f0.f2), .int .i64 ((rd_T29 l0 x13_1).f0.f3), .int .i64 ((rd_T29 l0 x13_1).f0.f4), .int .i64 ((rd_T29 l0 x13_1).f1), .int .i64 ((rd_T29 l0 x13_1).f2), .int .i64 0]) ?_ 7 _ rfl; (with_reducible repeat (first | refine kN ?_ _ | refine kD ?_ | refine kA ?_ _)); refine blk_put (cs := #[.int .i64 ((rd_T29 l0 x13_1).f0.f0), .int .i64 ((rd_T29 l0 x13_1).f0.f1), .int .i64 ((rd_T29 l0 x13_1).f0.f2), .int .i64 ((rd_T29 l0 x13_1).f0.f3), .int .i64 ((rd_T29 l0 x13_1).f0.f4), .int .i64 ((rd_T29 l0 x13_1).f1), .int .i64 0, .int .i64 0]) ?_ 6 _ rfl; (with_reducible repeat (first | refine kN ?_ _ | refine kD ?_ | refine kA ?_ _)); refine blk_put (cs := #[.int .i64 ((rd_T29 l0 x13_1).f0.f0), .int .i64 ((rd_T29 l0 x13_1).f0.f1), .int .i64 ((rd_T29 l0 x13_1).f0.f2), .int .i64 ((rd_T29 l0 x13_1).f0.f3), .int .i64 ((rd_T29 l0 x13_1).f0.f4), .int .i64 0, .int .i64 0, .int .i64 0]) ?_ 5 _ rfl; (with_reducible repeat (first | refine kN ?_ _ | refine kD ?_ | refine kA ?_ _)); refine blk_put (cs := #[.int .i64 ((rd_T29 l0 x13_1).f0.f0), .int .i64 ((rd_T29 l0 x13_1).f0.f1), .int .i64 ((rd_T29 l0 x13_1).f0.f2), .int .i64 ((rd_T29 l0 x13_1).f0.f3), .int .i64 0, .int .i64 0, .int .i64 0, .int .i64 0]) ?_ 4 _ rfl; (with_reducible repeat (first | refine kN ?_ _ | refine kD ?_ | refine kA ?_ _)); refine blk_put (cs := #[.int .i64 ((rd_T29 l0 x13_1).f0.f0), .int .i64 ((rd_T29 l0 x13_1).f0.f1), .int .i64 ((rd_T29 l0 x13_1).f0.f2), .int .i64 0, .int .i64 0, .int .i64 0, .int .i64 0, .int .i64 0]) ?_ 3 _ rfl; (with_reducible repeat (first | refine kN ?_ _ | refine kD ?_ | refine kA ?_ _)); refine blk_put (cs := #[.int .i64 ((rd_T29 l0 x13_1).f0.f0), .int .i64 ((rd_T29 l0 x13_1).f0.f1), .int .i64 0, .int .i64 0, .int .i64 0, .int .i64 0, .int .i64 0, .int .i64 0]) ?_ 2 _ rfl; (with_reducible repeat (first | refine kN ?_ _ | refine kD ?_ | refine kA ?_ _)); refine blk_put (cs := #[.int .i64 ((rd_T29 l0 x13_1).f0.f0), .int .i64 0, .int .i64 0, .int .i64 0, .int .i64 0, .int .i64 0, .int .i64 0, .int .i64 0]) ?_ 1 _ rfl; (with_reducible repeat (first | refine kN ?_ _ | refine kD ?_ | refine kA ?_ _)); refine blk_put (cs := #[.int .i64 0, .int .i64 0, .int .i64 0, .int .i64 0, .int .i64 0, .int .i64 0, .int .i64 0, .int .i64 0]) ?_ 0 _ rfl; exact qK BK543.out) hb); have n2_ := zK (bT (by repeat (first | (with_reducible first | exact HB.out | apply bA | apply bN | apply below_drew1 | refine bS ?_ GE543.out) | exact HB.out)) hb); clear HO_7; clear BK543; clear HB; have HO_7 := n0_; have BK543 := n1_; have HB := n2_; clear n0_ n1_ n2_; (try clear hb); (try clear hb2); (try clear hk); (try clear hi)) | ((with_reducible refine gate_builtin (b := .append) (xs := #[.tmp 17, .tmp 22]) rfl ?_); at_builtin; refine Kd.R_append (Kd.int .i64) (w0 := w) w.heap.size rfl (.tmp 17) (.tmp 22) 42 3 (.int .i64 0) 8 rfl Try.underlying42 info3 rfl (by decide) (by omega) u7 x7_1 t544 [.int .i64 t544] (fun _ => True) (fun _ => False) rfl rfl ?aP (fun _ hk => hk.elim) ?aF ?aO ?aB ?aS ?aL ?_; (case aP => exact rfl); (case aB => exact (by repeat (first | (with_reducible first | exact HB.out | apply bA | apply bN | apply below_drew1 | refine bS ?_ GE543.out) | exact HB.out))); (case aF => exact (fun _ _ => trivial)); (case aO => exact (Kd.qR HO_7.out)); (case aS => exact (bZ (by repeat (first | (with_reducible first | exact HB.out | apply bA | apply bN | apply below_drew1 | refine bS ?_ GE543.out) | exact HB.out)))); (case aL => have := LMc10.out; omega); intro v546 w14 ho hb hg hat; rw [← Ny545.out] at ho; have n0_ := zK (blk_grown (g := gb543) (o := .cells #[.int .i64 ((rd_T29 l0 x13_1).f0.f0), .int .i64 ((rd_T29 l0 x13_1).f0.f1), .int .i64 ((rd_T29 l0 x13_1).f0.f2), .int .i64 ((rd_T29 l0 x13_1).f0.f3), .int .i64 ((rd_T29 l0 x13_1).f0.f4), .int .i64 ((rd_T29 l0 x13_1).f1), .int .i64 ((rd_T29 l0 x13_1).f2), .int .i64 ((rd_T29 l0 x13_1).f3)] 29 (0, 0)) (qK BK543.out) hg (Kd.R_ne HO_7.out BK543.out (by decide))); have n1_ := zK (hb); have n2_ := zK (ho); clear BK543; clear HB; clear HO_7; have BK543 := n0_; have HB := n1_; have HO547 := n2_; clear n0_ n1_ n2_; clear ho hb hg hat))
   go_roundg k1
   case measure => have := HK1.out; omega
   case rel => exact ⟨(y545), (wrap64 (x13_1 + 1)), m9, H', ⟨by have := HK1.out; omega⟩, ⟨by exact Kd.qR HO547.out⟩, ⟨by repeat (first | (with_reducible first | exact HB.out | apply bA | apply bN | apply below_drew1 | refine bS ?_ GE543.out) | exact HB.out)⟩⟩
/-! ### impl_CountFate: function 15 -/
def impl_CountFate.l0 : Nat → Int → Int → List Int → Int → Int → Option (Int)
 | 0, _, _, _, _, _ => none
 | k + 1, x1, x5, x8, x9, x10 => if x10 < x9 then (if 0 ≤ x10 then (if x10 < (x8.length : Int) then (if (rd x8 x10) = x1 then (impl_CountFate.l0 k x1 (wrap64 (x5 + 1)) x8 x9 (wrap64 (x10 + 1))) else (impl_CountFate.l0 k x1 x5 x8 x9 (wrap64 (x10 + 1)))) else (none)) else (none)) else (some x5)
def impl_CountFate.f (k : Nat) (l0 : List Int) (a1 : Int) : Option (Int) := impl_CountFate.l0 k a1 0 l0 (l0.length : Int) 0
set_option maxHeartbeats 8000000 in
set_option maxRecDepth 100000 in
theorem impl_CountFate.calls (k : Nat) (A0 : Option Addr) (c0 : Nat) (l0 : List Int) (a1 : Int) (r : Int) (w : World) (hr0 : Kd.C (Kd.int .i64) w A0 l0.length l0) (hc0 : l0.length ≤ c0) (h : impl_CountFate.f k l0 a1 = some r) :
  Calls Try.prog 15 #[.slice A0 l0.length c0, .int .i64 a1] w fun e w' => e = .returned (.int .i64 r) ∧ Drawn0 w w' := by
 have HR0 := zK hr0
 have HC0 := zK hc0
 clear hr0 hc0
 have H : (impl_CountFate.l0 k a1 0 l0 (l0.length : Int) 0) = some r := h
 clear h
 have H' := zK H
 clear H
 go_enter Try.func15, Try.ntmps15
 go_wp2
 go_loopg [5, 10] k (fun kq v5 v10 w' => ∃ (x5_1 : Int) (x10_1 : Int), v5 = .int .i64 x5_1 ∧ v10 = .int .i64 x10_1 ∧ Aside0 (impl_CountFate.l0 kq a1 x5_1 l0 (l0.length : Int) x10_1 = some r) ∧ Aside0 (kq ≤ k) ∧ Drawn0 w w')
 case atStart => exact ⟨(0), (0), m9, m9, H', ⟨Nat.le_refl _⟩, by repeat (first | exact Drawn0.refl _ | apply Drawn0.step)⟩
 case round =>
  clear H'
  try clear c1
  try clear p2
  obtain ⟨x5_1, x10_1, rfl, rfl, HA, HK1, ⟨m1, rfl⟩⟩ := hrel
  cases gk with
  | zero => exact absurd HA.out (by simp [impl_CountFate.l0])
  | succ k1 =>
   have H := HA.out
   clear HA
   simp only [impl_CountFate.l0] at H
   by_cases c3 : x10_1 < (l0.length : Int)
   rotate_left
   ·rw [if_neg c3] at H
    have c3b0 : decide (x10_1 < (l0.length : Int)) = false := decide_eq_false c3
    clear c3
    obtain rfl := Option.some.inj H
    go_wp2
    go_ret
    exact ⟨by first | rfl | (simp; done) | (simp [*]; done), by repeat (first | exact Drawn0.refl _ | apply Drawn0.step)⟩

   rw [if_pos c3] at H
   have c3b0 : decide (x10_1 < (l0.length : Int)) = true := decide_eq_true c3
   clear c3
   by_cases c4 : 0 ≤ x10_1
   rotate_left
   ·rw [if_neg c4] at H
    exact absurd H (by simp)
   rw [if_pos c4] at H
   have c4b0 : decide (0 ≤ x10_1) = true := decide_eq_true c4
   clear c4
   by_cases c5 : x10_1 < (l0.length : Int)
   rotate_left
   ·rw [if_neg c5] at H
    exact absurd H (by simp)
   rw [if_pos c5] at H
   have c5b0 : decide (x10_1 < (l0.length : Int)) = true := decide_eq_true c5
   clear c5
   by_cases c6 : (rd l0 x10_1) = a1
   rotate_left
   ·rw [if_neg c6] at H
    have c6b0 : ((rd l0 x10_1) == a1) = false := beq_eq_false_iff_ne.mpr c6
    have c6b1 : ((rd l0 x10_1) != a1) = true := bne_iff_ne.mpr c6
    have H' := zK H
    clear H
    have p548 : 0 ≤ (x10_1 : Int) := oD m2
    have q548 : x10_1 < (l0.length : Int) := oD m2
    obtain ⟨ad548, e548, hx548_0⟩ := Kd.at_int HR0.out x10_1 p548 q548
    cases e548
    replace p548 := eq_true p548
    replace q548 := eq_true q548
    go_wp2
    go_roundg k1
    case measure => have := HK1.out; omega
    case rel => exact ⟨(x5_1), (wrap64 (x10_1 + 1)), m9, m9, H', ⟨by have := HK1.out; omega⟩, by repeat (first | exact Drawn0.refl _ | apply Drawn0.step)⟩
   rw [if_pos c6] at H
   have c6b0 : ((rd l0 x10_1) == a1) = true := beq_iff_eq.mpr c6
   have c6b1 : ((rd l0 x10_1) != a1) = false := bne_eq_false_iff_eq.mpr c6
   clear c6
   have H' := zK H
   clear H
   have p548 : 0 ≤ (x10_1 : Int) := oD m2
   have q548 : x10_1 < (l0.length : Int) := oD m2
   obtain ⟨ad548, e548, hx548_0⟩ := Kd.at_int HR0.out x10_1 p548 q548
   cases e548
   replace p548 := eq_true p548
   replace q548 := eq_true q548
   go_wp2
   go_roundg k1
   case measure => have := HK1.out; omega
   case rel => exact ⟨(wrap64 (x5_1 + 1)), (wrap64 (x10_1 + 1)), m9, m9, H', ⟨by have := HK1.out; omega⟩, by repeat (first | exact Drawn0.refl _ | apply Drawn0.step)⟩
end Go.Proofs.Ytfoallhhdilgjaa.PFnFates
