/- Walks of functions that FnParcels reaches: written by a tool of the kit for this claim, then shortened by a program of ours. -/
import Derived.Test.YtejhjenlodclpaaPFnParcelsx0
import Derived.Test.YtejhjenlodclpaaPFnParcelsx1
import Derived.Test.YtejhjenlodclpaaPFnParcelsx4
import Derived.Test.YtejhjenlodclpaaPFnParcelsx7
import Derived.Test.YtejhjenlodclpaaPFnParcelsx10
import Derived.Test.YtejhjenlodclpaaPFnParcelsx12
/- narrow -/
namespace Go.Proofs.Ytejhjenlodclpaa.PFnParcels
open Go.RowKit Go.Proofs.YtejhjenlodclpaaW.PrintWords Go.Proofs.YtejhjenlodclpaaW.PrintLast Go.Proofs.YtejhjenlodclpaaW.PrintMore
attribute [local go_sem] max2_int min2_int max_two min_two max_three min_three max_four min_four   -- for this text's walks alone
set_option linter.unusedVariables false
set_option linter.unusedSimpArgs false

/-! ### spec_DrawSendAll: function 39 -/
def spec_DrawSendAll.l0 : Nat → List (S138) → List (S53) → Int → List Int → Int → Int → Option ((List (S138)) × (List (S53)))
 | 0, _, _, _, _, _, _ => none
 | k + 1, x5, x6, x7, x460000, x460001, x460002 => if x7 > 0 then ((spec_l22One.f k x460000 x460001 x460002 x5).bind fun bt471 => (if x6.length < 2932031007402 then (spec_DrawSendAll.l0 k x5 (x6 ++ [(⟨bt471.1, bt471.2.1, bt471.2.2.1, bt471.2.2.2.1⟩ : S53)]) (wrap64 (x7 - 1)) x460000 bt471.2.2.2.2.1 bt471.2.2.2.2.2) else (none))) else (some (x5, x6))
def spec_DrawSendAll.f (k : Nat) (l0 : List Int) : Option ((List (S138)) × (List (S53))) := (spec_l1New.f k l0).bind fun bt456 => ((spec_l16Any.f k bt456.1 bt456.2.1 bt456.2.2).bind fun bt460 => ((spec_l1Below.f bt456.1 bt460.2.1 bt460.2.2 4).bind fun bt468 => (spec_DrawSendAll.l0 k bt460.1 (([] : List (S53))) bt468.1 bt456.1 bt468.2.1 bt468.2.2)))
set_option maxHeartbeats 8000000 in
set_option maxRecDepth 100000 in
theorem spec_DrawSendAll.calls (k : Nat) (A0 : Option Addr) (c0 : Nat) (l0 : List Int) (r1 : List (S138)) (r2 : List (S53)) (w : World) (hr0 : Kd.C (Kd.int .u8) w A0 l0.length l0) (hc0 : l0.length ≤ c0) (h : spec_DrawSendAll.f k l0 = some (r1, r2)) :
  Calls Try.prog 39 #[.slice A0 l0.length c0] w fun e w' => ∃ v0_ v1_ : Value, e = .returned (.tuple #[v0_, v1_]) ∧ Kd.R k138 138 w' w.heap.size (fun _ => True) v0_ r1 ∧ Kd.S k53 53 w' w.heap.size (fun _ => True) v1_ r2 ∧ Below w.heap.size w w' := by
 have HR0 := zK hr0
 have HC0 := zK hc0
 clear hr0 hc0
 have HB := zK (Below.refl w.heap.size w)
 have H : ((spec_l1New.f k l0).bind fun bt456 => ((spec_l16Any.f k bt456.1 bt456.2.1 bt456.2.2).bind fun bt460 => ((spec_l1Below.f bt456.1 bt460.2.1 bt460.2.2 4).bind fun bt468 => (spec_DrawSendAll.l0 k bt460.1 (([] : List (S53))) bt468.1 bt456.1 bt468.2.1 bt468.2.2)))) = some (r1, r2) := h
 clear h
 replace H := Option.bind_eq_some_iff.mp H
 obtain ⟨⟨t456, t457, t458⟩, A20, H⟩ := H
 replace H : ((spec_l16Any.f k t456 t457 t458).bind fun bt460 => ((spec_l1Below.f t456 bt460.2.1 bt460.2.2 4).bind fun bt468 => (spec_DrawSendAll.l0 k bt460.1 (([] : List (S53))) bt468.1 t456 bt468.2.1 bt468.2.2))) = some (r1, r2) := H
 have A2 := zK A20
 clear A20
 replace H := Option.bind_eq_some_iff.mp H
 obtain ⟨⟨t460, t463, t464⟩, A30, H⟩ := H
 replace H : ((spec_l1Below.f t456 t463 t464 4).bind fun bt468 => (spec_DrawSendAll.l0 k t460 (([] : List (S53))) bt468.1 t456 bt468.2.1 bt468.2.2)) = some (r1, r2) := H
 have A3 := zK A30
 clear A30
 obtain ⟨y465, hy465⟩ : ∃ y_ : List (S53), y_ = (([] : List (S53))) := ⟨_, rfl⟩
 replace H : ((spec_l1Below.f t456 t463 t464 4).bind fun bt468 => (spec_DrawSendAll.l0 k t460 y465 bt468.1 t456 bt468.2.1 bt468.2.2)) = some (r1, r2) := by first | (rw [hy465]; with_reducible exact H) | (have H2_ := (Option.bind_some _ _).symm.trans H; rw [hy465]; with_reducible exact H2_) | (have H2_ := (Option.bind_some _ _).symm.trans H; with_reducible exact H2_) | with_reducible exact H | (rw [hy465]; exact H) | exact H
 have Ny465 := zK hy465
 clear hy465
 replace H := Option.bind_eq_some_iff.mp H
 obtain ⟨⟨t468, t469, t470⟩, A40, H⟩ := H
 replace H : (spec_DrawSendAll.l0 k t460 y465 t468 t456 t469 t470) = some (r1, r2) := H
 have A4 := zK A40
 clear A40
 have H' := zK H
 clear H
 go_enter Try.func39, Try.ntmps39
 go_wp2_with (first | ((with_reducible refine gate_callee (f := 97) rfl ?_); refine goesL_ (some 9) rfl rfl Try.func97 (by kernel_rfl) rfl #[.slice A0 l0.length c0] rfl (by (try simp only [List.map_toArray, List.map_cons, List.map_nil]); first | done | rfl | (simp only [List.length_drop, List.length_take]; rfl)) ?_; (with_reducible refine (spec_l1New.calls k _ _ l0 t456 t457 t458 w _ ?side1 ?side2 ?side3 A2.out).mono ?_); (case side1 => repeat (first | (with_reducible first | exact HB.out | apply bA | apply bN | apply b1) | exact HB.out)); (case side2 => exact HR0.out); (case side3 => exact HC0.out); rintro e w5 ⟨g459, rfl, hi, hb, hb2⟩; refine ⟨_, rfl, ?_⟩; have n0_ := zK (hb); have n1_ := zK (hi); clear HB; have HB := n0_; have HI459 := n1_; clear n0_ n1_; (try clear hb); (try clear hb2); (try clear hk); (try clear hi)) | ((with_reducible refine gate_callee (f := 98) rfl ?_); refine goesL_ (some 11) rfl rfl Try.func98 (by kernel_rfl) rfl #[.pointer (some ⟨g459, 0, none⟩)] rfl (by (try simp only [List.map_toArray, List.map_cons, List.map_nil]); first | done | rfl | (simp only [List.length_drop, List.length_take]; rfl)) ?_; (with_reducible refine (spec_l16Any.calls k g459 t456 t457 t458 t460 t463 t464 w _ ?side1 ?side2 A3.out).mono ?_); (case side1 => repeat (first | (with_reducible first | exact HI459.out | apply IsS173.alloc | apply IsS173.drewN | apply IsS173.drew | apply IsS173.set_1 | apply IsS173.set_2) | exact HI459.out)); (case side2 => repeat (first | (with_reducible first | exact HB.out | apply bA | apply bN | apply b1 | refine bS ?_ (IsS173.ge HI459.out)) | exact HB.out)); rintro e w6 ⟨v461, rfl, ho0, hi, hb, hk⟩; refine ⟨_, rfl, ?_⟩; have n0_ := zK (Kd.R_lower ho0 (bZ (by repeat (first | (with_reducible first | exact HB.out | apply bA | apply bN | apply b1 | refine bS ?_ (IsS173.ge HI459.out)) | exact HB.out)))); have n1_ := zK (hb); have n2_ := zK (hi); clear HB; clear HI459; have HO462 := n0_; have HB := n1_; have HI459 := n2_; clear n0_ n1_ n2_; (try clear hb); (try clear hb2); (try clear hk); (try clear hi); (try clear ho0)) | ((with_reducible refine gate_dst (N := 12) rfl ?_); refine Kd.S_lit k53 _ 53 ?hg (N := 12) ?hd (xs := ([] : List (S53))) (inner := []) (ok := fun _ => True) (okp := fun _ => True) ?hr ?hp (fun _ hk => hk) trivial (Below.refl _ _) (Nat.le_refl _) (by simp) ?_; (case hd => rfl); (case hg => rfl); (case hr => first | (go_simp; done) | (go_simp; rfl)); (case hp => exact (Reps.none _ _)); intro v466 w7 ho8 hb hg_ hnew_; clear hg_ hnew_; (first | rw [← Ny465.out] at ho8 | (simp only [Int.reduceToNat] at ho8; rw [← Ny465.out] at ho8)); have n0_ := zK (Kd.R_below (by (with_reducible repeat (first | apply Kd.RA | apply Kd.RN | apply Kd.RD)); exact HO462.out) hb); have n1_ := zK (Kd.S_lower ho8 (bZ (by repeat (first | (with_reducible first | exact HB.out | apply bA | apply bN | apply b1 | refine bS ?_ (IsS173.ge HI459.out)) | exact HB.out)))); have n2_ := zK (IsS173.below (by repeat (first | (with_reducible first | exact HI459.out | apply IsS173.alloc | apply IsS173.drewN | apply IsS173.drew | apply IsS173.set_1 | apply IsS173.set_2) | exact HI459.out)) hb); have n3_ := zK (bT (by repeat (first | (with_reducible first | exact HB.out | apply bA | apply bN | apply b1 | refine bS ?_ (IsS173.ge HI459.out)) | exact HB.out)) hb); clear HO462; clear HI459; clear HB; have HO462 := n0_; have HO467 := n1_; have HI459 := n2_; have HB := n3_; clear n0_ n1_ n2_ n3_; clear hb ho8) | ((with_reducible refine gate_callee (f := 108) rfl ?_); refine goesL_ (some 14) rfl rfl Try.func108 (by kernel_rfl) rfl #[.pointer (some ⟨g459, 0, none⟩), .int .i64 4] rfl (by (try simp only [List.map_toArray, List.map_cons, List.map_nil]); first | done | rfl | (simp only [List.length_drop, List.length_take]; rfl)) ?_; (with_reducible refine (spec_l1Below.calls g459 t456 t463 t464 4 t468 t469 t470 w _ ?side1 ?side2 A4.out).mono ?_); (case side1 => repeat (first | (with_reducible first | exact HI459.out | apply IsS173.alloc | apply IsS173.drewN | apply IsS173.drew | apply IsS173.set_1 | apply IsS173.set_2) | exact HI459.out)); (case side2 => repeat (first | (with_reducible first | exact HB.out | apply bA | apply bN | apply b1 | refine bS ?_ (IsS173.ge HI459.out)) | exact HB.out)); rintro e w9 ⟨rfl, hi, hb, hk⟩; refine ⟨_, rfl, ?_⟩; have n0_ := zK (Kd.R_mono (Kd.R_keep (IsS173.apart (show IsS173 w _ g459 t456 t463 t464 from by repeat (first | (with_reducible first | exact HI459.out | apply IsS173.alloc | apply IsS173.drewN | apply IsS173.drew | apply IsS173.set_1 | apply IsS173.set_2) | exact HI459.out)) (by (with_reducible repeat (first | apply Kd.RA | apply Kd.RN | apply Kd.RD)); exact HO462.out) (by decide)) hk (fun _ h => h.2)) (fun _ h => h.1)); have n1_ := zK (Kd.S_mono (Kd.S_keep (IsS173.apartS (show IsS173 w _ g459 t456 t463 t464 from by repeat (first | (with_reducible first | exact HI459.out | apply IsS173.alloc | apply IsS173.drewN | apply IsS173.drew | apply IsS173.set_1 | apply IsS173.set_2) | exact HI459.out)) (by (with_reducible repeat (first | apply Kd.S_alloc | apply Kd.S_drewN | apply Kd.S_drew)); exact HO467.out) (by decide)) hk (fun _ h => h.2)) (fun _ h => h.1)); have n2_ := zK (hb); have n3_ := zK (hi); clear HO462; clear HO467; clear HB; clear HI459; have HO462 := n0_; have HO467 := n1_; have HB := n2_; have HI459 := n3_; clear n0_ n1_ n2_ n3_; (try clear hb); (try clear hb2); (try clear hk); (try clear hi)))
 go_loopg [6, 7] k (fun kq v6 v7 w' => ∃ (x6_1 : List (S53)) (x7_1 : Int) (x460001_1 : Int) (x460002_1 : Int), v7 = .int .i64 x7_1 ∧ Aside0 (spec_DrawSendAll.l0 kq t460 x6_1 x7_1 t456 x460001_1 x460002_1 = some (r1, r2)) ∧ Aside0 (kq ≤ k) ∧ Aside0 (Kd.R k138 138 w' w.heap.size (fun _ => True) v461 t460) ∧ Aside0 (Kd.S k53 53 w' w.heap.size (fun _ => True) v6 x6_1) ∧ Aside0 (IsS173 w w' g459 t456 x460001_1 x460002_1) ∧ Aside0 (Below w.heap.size w w'))
 case atStart => exact ⟨(y465), (t468), (t469), (t470), (by first | rfl | (simp; done) | (simp [*]; done)), H', ⟨Nat.le_refl _⟩, ⟨by (with_reducible repeat (first | apply Kd.RA | apply Kd.RN | apply Kd.RD)); exact HO462.out⟩, ⟨by (with_reducible repeat (first | apply Kd.S_alloc | apply Kd.S_drewN | apply Kd.S_drew)); exact HO467.out⟩, ⟨by repeat (first | (with_reducible first | exact HI459.out | apply IsS173.alloc | apply IsS173.drewN | apply IsS173.drew | apply IsS173.set_1 | apply IsS173.set_2) | exact HI459.out)⟩, ⟨by repeat (first | (with_reducible first | exact HB.out | apply bA | apply bN | apply b1 | refine bS ?_ (IsS173.ge HI459.out)) | exact HB.out)⟩⟩
 case round =>
  clear H'
  try clear c1
  try clear p2
  try clear c3
  try clear c9
  obtain ⟨x6_1, x7_1, x460001_1, x460002_1, rfl, HA, HK1, HO_5, HO_6, HI459, HB⟩ := hrel
  cases gk with
  | zero => exact absurd HA.out (by simp [spec_DrawSendAll.l0])
  | succ k1 =>
   have H := HA.out
   clear HA
   simp only [spec_DrawSendAll.l0] at H
   by_cases c10 : x7_1 > 0
   rotate_left
   ·rw [if_neg c10] at H
    have c10b0 : decide (0 < x7_1) = false := decide_eq_false c10
    clear c10
    simp only [Option.some.injEq, Prod.mk.injEq] at H
    obtain ⟨rfl, rfl⟩ := H
    go_wp2
    go_ret2
    exact ⟨_, _, by first | rfl | (simp [errW_none, errW_some] <;> rfl) | (simp [*, errW_none, errW_some] <;> rfl), by (with_reducible repeat (first | apply Kd.RA | apply Kd.RN | apply Kd.RD)); exact HO_5.out, by (with_reducible repeat (first | apply Kd.S_alloc | apply Kd.S_drewN | apply Kd.S_drew)); exact HO_6.out, by repeat (first | (with_reducible first | exact HB.out | apply bA | apply bN | apply b1 | refine bS ?_ (IsS173.ge HI459.out)) | exact HB.out)⟩
   rw [if_pos c10] at H
   have c10b0 : decide (0 < x7_1) = true := decide_eq_true c10
   clear c10
   replace H := Option.bind_eq_some_iff.mp H
   obtain ⟨⟨t471, t472, t473, t476, t477, t478⟩, A110, H⟩ := H
   replace H : (if x6_1.length < 2932031007402 then (spec_DrawSendAll.l0 k1 t460 (x6_1 ++ [(⟨t471, t472, t473, t476⟩ : S53)]) (wrap64 (x7_1 - 1)) t456 t477 t478) else (none)) = some (r1, r2) := H
   have A11 := zK A110
   clear A110
   by_cases c12 : x6_1.length < 2932031007402
   rotate_left
   ·rw [if_neg c12] at H
    exact absurd H (by simp)
   rw [if_pos c12] at H
   have LMc12 := zK c12
   clear c12
   obtain ⟨y479, hy479⟩ : ∃ y_ : List (S53), y_ = (x6_1 ++ [(⟨t471, t472, t473, t476⟩ : S53)]) := ⟨_, rfl⟩
   replace H : (spec_DrawSendAll.l0 k1 t460 y479 (wrap64 (x7_1 - 1)) t456 t477 t478) = some (r1, r2) := by first | (rw [hy479]; with_reducible exact H) | (have H2_ := (Option.bind_some _ _).symm.trans H; rw [hy479]; with_reducible exact H2_) | (have H2_ := (Option.bind_some _ _).symm.trans H; with_reducible exact H2_) | with_reducible exact H | (rw [hy479]; exact H) | exact H
   have Ny479 := zK hy479
   clear hy479
   have H' := zK H
   clear H
   obtain ⟨Ao13, co13, eo13⟩ := Kd.R_slice HO_5.out
   subst eo13
   go_wp2_with (first | ((with_reducible refine gate_callee (f := 99) rfl ?_); refine goesL_ (some 22) rfl rfl Try.func99 (by kernel_rfl) rfl #[.pointer (some ⟨g459, 0, none⟩), .slice Ao13 t460.length co13] rfl (by (try simp only [List.map_toArray, List.map_cons, List.map_nil]); first | done | rfl | (simp only [List.length_drop, List.length_take]; rfl)) ?_; (with_reducible refine (spec_l22One.calls k1 g459 t456 x460001_1 x460002_1 _ _ t460 t471 t472 t473 t476 t477 t478 w _ ?side1 ?side2 ?side3 ?side4 A11.out).mono ?_); (case side1 => repeat (first | (with_reducible first | exact HI459.out | apply IsS173.alloc | apply IsS173.drewN | apply IsS173.drew | apply IsS173.set_1 | apply IsS173.set_2) | exact HI459.out)); (case side2 => repeat (first | (with_reducible first | exact HB.out | apply bA | apply bN | apply b1 | refine bS ?_ (IsS173.ge HI459.out)) | exact HB.out)); (case side3 => exact Kd.C_foot_own (IsS173.apart (show IsS173 w _ g459 t456 x460001_1 x460002_1 from by repeat (first | (with_reducible first | exact HI459.out | apply IsS173.alloc | apply IsS173.drewN | apply IsS173.drew | apply IsS173.set_1 | apply IsS173.set_2) | exact HI459.out)) (by (with_reducible repeat (first | apply Kd.RA | apply Kd.RN | apply Kd.RD)); exact HO_5.out) (by decide)) (fun _ h_ => h_.2)); (case side4 => exact (Kd.R_reads' HO_5.out).2.1); rintro e w14 ⟨v474, rfl, ho0, hi, hb, hk⟩; refine ⟨_, rfl, ?_⟩; have n0_ := zK (Kd.R_mono (Kd.R_keep (IsS173.apart (show IsS173 w _ g459 t456 x460001_1 x460002_1 from by repeat (first | (with_reducible first | exact HI459.out | apply IsS173.alloc | apply IsS173.drewN | apply IsS173.drew | apply IsS173.set_1 | apply IsS173.set_2) | exact HI459.out)) (by (with_reducible repeat (first | apply Kd.RA | apply Kd.RN | apply Kd.RD)); exact HO_5.out) (by decide)) hk (fun _ h => h.2)) (fun _ h => h.1)); have n1_ := zK (Kd.S_mono (Kd.S_told (Kd.S_oldK (IsS173.apartS (show IsS173 w _ g459 t456 x460001_1 x460002_1 from by repeat (first | (with_reducible first | exact HI459.out | apply IsS173.alloc | apply IsS173.drewN | apply IsS173.drew | apply IsS173.set_1 | apply IsS173.set_2) | exact HI459.out)) (by (with_reducible repeat (first | apply Kd.S_alloc | apply Kd.S_drewN | apply Kd.S_drew)); exact HO_6.out) (by decide)) hk) (Kd.R_base ho0)) (fun _ h_ => h_.1)); have n2_ := zK (Kd.R_lower ho0 (bZ (by repeat (first | (with_reducible first | exact HB.out | apply bA | apply bN | apply b1 | refine bS ?_ (IsS173.ge HI459.out)) | exact HB.out)))); have n3_ := zK (hb); have n4_ := zK (hi); clear HO_5; clear HO_6; clear HB; clear HI459; have HO_5 := n0_; have HO_6 := n1_; have HO475 := n2_; have HB := n3_; have HI459 := n4_; clear n0_ n1_ n2_ n3_ n4_; (try clear hb); (try clear hb2); (try clear hk); (try clear hi); (try clear ho0); obtain ⟨Ao16, co16, eo16⟩ := Kd.R_slice HO475.out; subst eo16) | ((with_reducible refine gate_builtin (b := .append) (xs := #[.tmp 19, .tmp 23]) rfl ?_); at_builtin; refine Kd.S_append k53 (w0 := w) w.heap.size rfl (.tmp 19) (.tmp 23) 62 53 (.agg #[(.int .i64 0), (.int .i64 0), (.slice none 0 0), (.int .i64 0)]) 48 rfl Try.underlying62 info53 rfl (by decide) (by omega) u6 x6_1 (⟨t471, t472, t473, t476⟩ : S53) [.int .i64 t471, .int .i64 t472, .slice Ao16 t473.length co16, .int .i64 t476] (fun _ => True) (fun k_ => some k_ = (.slice Ao16 t473.length co16 : Value).ownBlock) rfl rfl ?aP (fun k_ hk_ => ((Kd.R_mono (ok' := fun k_ => ((fun _ => True)) k_ ∧ some k_ ≠ (u6 : Value).ownBlock) (Kd.R_apart' (HO475.out) (Kd.S_typed HO_6.out) (by decide)) (fun k_ hk => ⟨trivial, hk.2⟩))).1 k_ hk_.symm) ?aF ?aO ?aB ?aS ?aL ?_; (case aP => exact k53_mkM _ _ _ (⟨t471, t472, t473, t476⟩ : S53) (Kd.R_mono (Kd.R_tight rfl (Kd.R_mono (ok' := fun k_ => ((fun _ => True)) k_ ∧ some k_ ≠ (u6 : Value).ownBlock) (Kd.R_apart' (HO475.out) (Kd.S_typed HO_6.out) (by decide)) (fun k_ hk => ⟨trivial, hk.2⟩))) (fun _ h_ => h_))); (case aB => exact (by repeat (first | (with_reducible first | exact HB.out | apply bA | apply bN | apply b1 | refine bS ?_ (IsS173.ge HI459.out)) | exact HB.out))); (case aF => exact (fun _ _ => trivial)); (case aO => exact (by (with_reducible repeat (first | apply Kd.S_alloc | apply Kd.S_drewN | apply Kd.S_drew)); exact Kd.S_mono HO_6.out (fun k_ hk => ⟨trivial, fun e_ => hk.2 e_⟩))); (case aS => exact (bZ (by repeat (first | (with_reducible first | exact HB.out | apply bA | apply bN | apply b1 | refine bS ?_ (IsS173.ge HI459.out)) | exact HB.out)))); (case aL => have := LMc12.out; omega); intro v480 w15 ho hb hg hat; rw [← Ny479.out] at ho; have n0_ := zK (Kd.R_over' (by (with_reducible repeat (first | apply Kd.RA | apply Kd.RN | apply Kd.RD)); exact HO_5.out) (Kd.S_typed (by (with_reducible repeat (first | apply Kd.S_alloc | apply Kd.S_drewN | apply Kd.S_drew)); exact HO_6.out)) (by decide) hg); have n1_ := zK (IsS173.grown (by repeat (first | (with_reducible first | exact HI459.out | apply IsS173.alloc | apply IsS173.drewN | apply IsS173.drew | apply IsS173.set_1 | apply IsS173.set_2) | exact HI459.out)) hg (IsS173.own_neS HI459.out HO_6.out (by decide))); have n2_ := zK (hb); have n3_ := zK (ho); clear HO_5; clear HI459; clear HB; clear HO_6; clear HO475; have HO_5 := n0_; have HI459 := n1_; have HB := n2_; have HO481 := n3_; clear n0_ n1_ n2_ n3_; clear ho hb hg hat))
   go_roundg k1
   case measure => have := HK1.out; omega
   case rel => exact ⟨(y479), (wrap64 (x7_1 - 1)), (t477), (t478), (by first | rfl | (simp; done) | (simp [*]; done)), H', ⟨by have := HK1.out; omega⟩, ⟨by (with_reducible repeat (first | apply Kd.RA | apply Kd.RN | apply Kd.RD)); exact HO_5.out⟩, ⟨by (with_reducible repeat (first | apply Kd.S_alloc | apply Kd.S_drewN | apply Kd.S_drew)); exact HO481.out⟩, ⟨by repeat (first | (with_reducible first | exact HI459.out | apply IsS173.alloc | apply IsS173.drewN | apply IsS173.drew | apply IsS173.set_1 | apply IsS173.set_2) | exact HI459.out)⟩, ⟨by repeat (first | (with_reducible first | exact HB.out | apply bA | apply bN | apply b1 | refine bS ?_ (IsS173.ge HI459.out)) | exact HB.out)⟩⟩
/-! ### impl_SendAll: function 40 -/
def impl_SendAll.l0 : Nat → List (S138) → Int → List (S53) → Int → Int → Option ((List (S138)) × Int)
 | 0, _, _, _, _, _ => none
 | k + 1, x6, x7, x13, x14, x15 => if x15 < x14 then (if 0 ≤ x15 then (if x15 < (x13.length : Int) then ((impl_SendParcel.f k x6 ((rd_T53 x13 x15).f0) ((rd_T53 x13 x15).f1) ((rd_T53 x13 x15).f2) ((rd_T53 x13 x15).f3)).bind fun bt487 => (if bt487.2 = true then (impl_SendAll.l0 k bt487.1 (wrap64 (x7 + 1)) x13 x14 (wrap64 (x15 + 1))) else (impl_SendAll.l0 k bt487.1 x7 x13 x14 (wrap64 (x15 + 1))))) else (none)) else (none)) else (some (x6, x7))
def impl_SendAll.f (k : Nat) (l0 : List (S138)) (l1 : List (S53)) : Option ((List (S138)) × Int) := (impl_Hand.f l0).bind fun t482 => (impl_SendAll.l0 k t482 0 l1 (l1.length : Int) 0)
set_option maxHeartbeats 8000000 in
set_option maxRecDepth 100000 in
theorem impl_SendAll.calls (k : Nat) (A0 : Option Addr) (c0 : Nat) (l0 : List (S138)) (A1 : Option Addr) (c1 : Nat) (l1 : List (S53)) (r1 : List (S138)) (r2 : Int) (w : World) (hr0 : Kd.C k138 w A0 l0.length l0) (hc0 : l0.length ≤ c0) (hr1 : Kd.C k53 w A1 l1.length l1) (hc1 : l1.length ≤ c1) (h : impl_SendAll.f k l0 l1 = some (r1, r2)) :
  Calls Try.prog 40 #[.slice A0 l0.length c0, .slice A1 l1.length c1] w fun e w' => ∃ v0_ : Value, e = .returned (.tuple #[v0_, .int .i64 r2]) ∧ Kd.R k138 138 w' w.heap.size (fun _ => True) v0_ r1 ∧ Below w.heap.size w w' := by
 have hu53 := Try.underlying53
 have HR0 := zK hr0
 have HC0 := zK hc0
 clear hr0 hc0
 have HR1 := zK hr1
 have HC1 := zK hc1
 clear hr1 hc1
 have HB := zK (Below.refl w.heap.size w)
 have H : ((impl_Hand.f l0).bind fun t482 => (impl_SendAll.l0 k t482 0 l1 (l1.length : Int) 0)) = some (r1, r2) := h
 clear h
 replace H := Option.bind_eq_some_iff.mp H
 obtain ⟨t482, A30, H⟩ := H
 replace H : (impl_SendAll.l0 k t482 0 l1 (l1.length : Int) 0) = some (r1, r2) := H
 have A3 := zK A30
 clear A30
 have H' := zK H
 clear H
 go_enter Try.func40, Try.ntmps40
 go_wp2_with (first | ((with_reducible refine gate_callee (f := 101) rfl ?_); refine goesL_ (some 12) rfl rfl Try.func101 (by kernel_rfl) rfl #[.slice A0 l0.length c0] rfl (by (try simp only [List.map_toArray, List.map_cons, List.map_nil]); first | done | rfl | (simp only [List.length_drop, List.length_take]; rfl)) ?_; (with_reducible refine (impl_Hand.calls _ _ l0 t482 _ ?side1 ?side2 A3.out).mono ?_); (case side1 => repeat (first | exact HR0.out | (with_reducible refine Kd.CA ?_ _) | (with_reducible refine Kd.CN ?_ _) | (with_reducible refine Kd.CD ?_))); (case side2 => exact HC0.out); rintro e w4 ⟨v483, rfl, ho0, hb⟩; refine ⟨_, rfl, ?_⟩; have n0_ := zK (Kd.R_lower ho0 (bZ (by repeat (first | (with_reducible first | exact HB.out | apply bA | apply bN | apply b1) | exact HB.out)))); have n1_ := zK (bT (by repeat (first | (with_reducible first | exact HB.out | apply bA | apply bN | apply b1) | exact HB.out)) hb); clear HB; have HO484 := n0_; have HB := n1_; clear n0_ n1_; (try clear hb); (try clear hb2); (try clear hk); (try clear hi); (try clear ho0)))
 go_loopg [6, 7, 15] k (fun kq v6 v7 v15 w' => ∃ (x6_1 : List (S138)) (x7_1 : Int) (x15_1 : Int), v7 = .int .i64 x7_1 ∧ v15 = .int .i64 x15_1 ∧ Aside0 (impl_SendAll.l0 kq x6_1 x7_1 l1 (l1.length : Int) x15_1 = some (r1, r2)) ∧ Aside0 (kq ≤ k) ∧ Aside0 (Kd.R k138 138 w' w.heap.size (fun _ => True) v6 x6_1) ∧ Aside0 (Below w.heap.size w w'))
 case atStart => exact ⟨(t482), (0), (0), (by first | rfl | (simp; done) | (simp [*]; done)), (by first | rfl | (simp; done) | (simp [*]; done)), H', ⟨Nat.le_refl _⟩, ⟨by (with_reducible repeat (first | apply Kd.RA | apply Kd.RN | apply Kd.RD)); exact HO484.out⟩, ⟨by repeat (first | (with_reducible first | exact HB.out | apply bA | apply bN | apply b1) | exact HB.out)⟩⟩
 case round =>
  clear H'
  try clear c1
  try clear p2
  try clear c4
  obtain ⟨x6_1, x7_1, x15_1, rfl, rfl, HA, HK1, HO_6, HB⟩ := hrel
  cases gk with
  | zero => exact absurd HA.out (by simp [impl_SendAll.l0])
  | succ k1 =>
   have H := HA.out
   clear HA
   simp only [impl_SendAll.l0] at H
   by_cases c5 : x15_1 < (l1.length : Int)
   rotate_left
   ·rw [if_neg c5] at H
    have c5b0 : decide (x15_1 < (l1.length : Int)) = false := decide_eq_false c5
    clear c5
    simp only [Option.some.injEq, Prod.mk.injEq] at H
    obtain ⟨rfl, rfl⟩ := H
    go_wp2
    go_ret2
    exact ⟨_, by first | rfl | (simp [errW_none, errW_some] <;> rfl) | (simp [*, errW_none, errW_some] <;> rfl), by (with_reducible repeat (first | apply Kd.RA | apply Kd.RN | apply Kd.RD)); exact HO_6.out, by repeat (first | (with_reducible first | exact HB.out | apply bA | apply bN | apply b1) | exact HB.out)⟩

   rw [if_pos c5] at H
   have c5b0 : decide (x15_1 < (l1.length : Int)) = true := decide_eq_true c5
   clear c5
   by_cases c6 : 0 ≤ x15_1
   rotate_left
   ·rw [if_neg c6] at H
    exact absurd H (by simp)
   rw [if_pos c6] at H
   have c6b0 : decide (0 ≤ x15_1) = true := decide_eq_true c6
   clear c6
   by_cases c7 : x15_1 < (l1.length : Int)
   rotate_left
   ·rw [if_neg c7] at H
    exact absurd H (by simp)
   rw [if_pos c7] at H
   have c7b0 : decide (x15_1 < (l1.length : Int)) = true := decide_eq_true c7
   clear c7
   replace H := Option.bind_eq_some_iff.mp H
   obtain ⟨⟨t487, t490⟩, A80, H⟩ := H
   replace H : (if t490 = true then (impl_SendAll.l0 k1 t487 (wrap64 (x7_1 + 1)) l1 (l1.length : Int) (wrap64 (x15_1 + 1))) else (impl_SendAll.l0 k1 t487 x7_1 l1 (l1.length : Int) (wrap64 (x15_1 + 1)))) = some (r1, r2) := H
   have A8 := zK A80
   clear A80
   by_cases c9 : t490 = true
   ·subst c9
    have H1 : (impl_SendAll.l0 k1 t487 (wrap64 (x7_1 + 1)) l1 (l1.length : Int) (wrap64 (x15_1 + 1))) = some (r1, r2) := by rw [if_pos rfl] at H; exact H
    clear H
    have H := H1
    clear H1
    have H' := zK H
    clear H
    have p485 : 0 ≤ (x15_1 : Int) := oD (by first | (with_reducible assumption) | assumption)
    have q485 : x15_1 < (l1.length : Int) := oD (by first | (with_reducible assumption) | assumption)
    obtain ⟨ad485, A485_2, c485_2, e485, hx485_0, hx485_1, hx485_2, hx485_3, hl485_2, hi485_2⟩ := at_T53 HR1.out x15_1 p485 q485
    cases e485
    replace hx485_0 := (HB.out.cell (bL w hx485_0)).trans hx485_0
    replace hx485_1 := (HB.out.cell (bL w hx485_1)).trans hx485_1
    replace hx485_2 := (HB.out.cell (bL w hx485_2)).trans hx485_2
    replace hx485_3 := (HB.out.cell (bL w hx485_3)).trans hx485_3
    have HR485_2 := zK hi485_2
    have HC485_2 := zK hl485_2
    clear hi485_2 hl485_2
    replace p485 := eq_true p485
    replace q485 := eq_true q485
    go_wp2_with (first | ((with_reducible refine gate_dst (N := 9) rfl ?_); refine box_event ?hg (N := 9) ?hd (cs := #[.int .i64 0, .int .i64 0, .slice none 0 0, .int .i64 0]) (t := 53) ?hr ?_; (case hd => rfl); (case hg => rfl); (case hr => first | (go_simp; done) | (go_simp; rfl)); intro gb486 hg w10 hbox hb; have n0_ := zK (Kd.R_below (by (with_reducible repeat (first | apply Kd.RA | apply Kd.RN | apply Kd.RD)); exact HO_6.out) hb); have n1_ := zK (bT (by repeat (first | (with_reducible first | exact HB.out | apply bA | apply bN | apply b1) | exact HB.out)) hb); have n2_ := zK (hbox); have n3_ := zK ((by rw [hg]; exact (bZ (by repeat (first | (with_reducible first | exact HB.out | apply bA | apply bN | apply b1) | exact HB.out))) : w.heap.size ≤ gb486)); have n4_ := zK ((by rw [hg]; exact (bZ (by repeat (first | (with_reducible first | exact HB.out | apply bA | apply bN | apply b1) | exact HB.out))) : w.heap.size ≤ gb486)); clear HO_6; clear HB; have HO_6 := n0_; have HB := n1_; have BK486 := n2_; have GW486 := n3_; have GE486 := n4_; clear n0_ n1_ n2_ n3_ n4_; clear hb hbox hg; have hcz11_0 : w10.cell? ⟨gb486, 0, none⟩ = some (.int .i64 0) := (bc BK486.out 0).trans rfl; have hcz11_1 : w10.cell? ⟨gb486, 1, none⟩ = some (.int .i64 0) := (bc BK486.out 1).trans rfl; have hcz11_2 : w10.cell? ⟨gb486, 2, none⟩ = some (.slice none 0 0) := (bc BK486.out 2).trans rfl; have hcz11_3 : w10.cell? ⟨gb486, 3, none⟩ = some (.int .i64 0) := (bc BK486.out 3).trans rfl; have hfz11_0 := bf BK486.out 0; have hfz11_1 := bf BK486.out 1; have hfz11_2 := bf BK486.out 2; have hfz11_3 := bf BK486.out 3; obtain ⟨Ao12, co12, eo12⟩ := Kd.R_slice HO_6.out; subst eo12) | ((with_reducible refine gate_callee (f := 32) rfl ?_); refine goesL_ (some 22) rfl rfl Try.func32 (by kernel_rfl) rfl #[.slice Ao12 x6_1.length co12, .agg #[.int .i64 ((rd_T53 l1 x15_1).f0), .int .i64 ((rd_T53 l1 x15_1).f1), .slice A485_2 ((rd_T53 l1 x15_1).f2).length c485_2, .int .i64 ((rd_T53 l1 x15_1).f3)]] rfl (by (try simp only [List.map_toArray, List.map_cons, List.map_nil]); first | done | rfl | (simp only [List.length_drop, List.length_take]; rfl)) ?_; (with_reducible refine (impl_SendParcel.calls k1 _ _ x6_1 ((rd_T53 l1 x15_1).f0) ((rd_T53 l1 x15_1).f1) _ _ ((rd_T53 l1 x15_1).f2) ((rd_T53 l1 x15_1).f3) t487 true _ ?side1 ?side2 ?side3 ?side4 A8.out).mono ?_); (case side1 => refine (Kd.R_reads' (e := 138) (base := w.heap.size) (ok := fun k_ => True) (n := x6_1.length) (c := co12) ?_).2.2; exact (by (with_reducible repeat (first | apply Kd.RA | apply Kd.RN | apply Kd.RD)); exact (Kd.R_mono (Kd.R_far (p := ⟨gb486, 3, none⟩) (Kd.R_far (p := ⟨gb486, 2, none⟩) (Kd.R_far (p := ⟨gb486, 1, none⟩) (Kd.R_far (p := ⟨gb486, 0, none⟩) (Kd.R_types HO_6.out BK486.out (by decide)) (fun _ hk => hk.2) (.int .i64 ((rd_T53 l1 x15_1).f0))) (fun _ hk => hk.2) (.int .i64 ((rd_T53 l1 x15_1).f1))) (fun _ hk => hk.2) (.slice A485_2 ((rd_T53 l1 x15_1).f2).length c485_2)) (fun _ hk => hk.2) (.int .i64 ((rd_T53 l1 x15_1).f3))) (fun _ h_ => h_.1)))); (case side2 => exact (Kd.R_reads' HO_6.out).2.1); (case side3 => exact Kd.C_below HR485_2.out (by repeat (first | (with_reducible first | exact HB.out | apply bA | apply bN | apply b1 | refine bS ?_ GE486.out) | exact HB.out))); (case side4 => exact HC485_2.out); rintro e w13 ⟨v488, rfl, ho0, hb⟩; refine ⟨_, rfl, ?_⟩; have n0_ := zK (Kd.R_elder' (by (with_reducible repeat (first | apply Kd.RA | apply Kd.RN | apply Kd.RD)); exact (Kd.R_mono (Kd.R_far (p := ⟨gb486, 3, none⟩) (Kd.R_far (p := ⟨gb486, 2, none⟩) (Kd.R_far (p := ⟨gb486, 1, none⟩) (Kd.R_far (p := ⟨gb486, 0, none⟩) (Kd.R_types HO_6.out BK486.out (by decide)) (fun _ hk => hk.2) (.int .i64 ((rd_T53 l1 x15_1).f0))) (fun _ hk => hk.2) (.int .i64 ((rd_T53 l1 x15_1).f1))) (fun _ hk => hk.2) (.slice A485_2 ((rd_T53 l1 x15_1).f2).length c485_2)) (fun _ hk => hk.2) (.int .i64 ((rd_T53 l1 x15_1).f3))) (fun _ h_ => h_.1))) (Kd.R_base ho0) hb); have n1_ := zK (Kd.R_lower (Kd.R_new' ho0 (Kd.R_lt (by (with_reducible repeat (first | apply Kd.RA | apply Kd.RN | apply Kd.RD)); exact (Kd.R_mono (Kd.R_far (p := ⟨gb486, 3, none⟩) (Kd.R_far (p := ⟨gb486, 2, none⟩) (Kd.R_far (p := ⟨gb486, 1, none⟩) (Kd.R_far (p := ⟨gb486, 0, none⟩) (Kd.R_types HO_6.out BK486.out (by decide)) (fun _ hk => hk.2) (.int .i64 ((rd_T53 l1 x15_1).f0))) (fun _ hk => hk.2) (.int .i64 ((rd_T53 l1 x15_1).f1))) (fun _ hk => hk.2) (.slice A485_2 ((rd_T53 l1 x15_1).f2).length c485_2)) (fun _ hk => hk.2) (.int .i64 ((rd_T53 l1 x15_1).f3))) (fun _ h_ => h_.1))))) (bZ (by repeat (first | (with_reducible first | exact HB.out | apply bA | apply bN | apply b1 | refine bS ?_ GE486.out) | exact HB.out)))); have n2_ := zK (bB (g := gb486) (o := .cells #[.int .i64 ((rd_T53 l1 x15_1).f0), .int .i64 ((rd_T53 l1 x15_1).f1), .slice A485_2 ((rd_T53 l1 x15_1).f2).length c485_2, .int .i64 ((rd_T53 l1 x15_1).f3)] 53 (0, 0)) (by (with_reducible repeat (first | refine kN ?_ _ | refine kD ?_ | refine kA ?_ _)); refine blk_put (cs := #[.int .i64 ((rd_T53 l1 x15_1).f0), .int .i64 ((rd_T53 l1 x15_1).f1), .slice A485_2 ((rd_T53 l1 x15_1).f2).length c485_2, .int .i64 0]) ?_ 3 _ rfl; (with_reducible repeat (first | refine kN ?_ _ | refine kD ?_ | refine kA ?_ _)); refine blk_put (cs := #[.int .i64 ((rd_T53 l1 x15_1).f0), .int .i64 ((rd_T53 l1 x15_1).f1), .slice none 0 0, .int .i64 0]) ?_ 2 _ rfl; (with_reducible repeat (first | refine kN ?_ _ | refine kD ?_ | refine kA ?_ _)); refine blk_put (cs := #[.int .i64 ((rd_T53 l1 x15_1).f0), .int .i64 0, .slice none 0 0, .int .i64 0]) ?_ 1 _ rfl; (with_reducible repeat (first | refine kN ?_ _ | refine kD ?_ | refine kA ?_ _)); refine blk_put (cs := #[.int .i64 0, .int .i64 0, .slice none 0 0, .int .i64 0]) ?_ 0 _ rfl; (with_reducible repeat (first | refine kN ?_ _ | refine kD ?_ | refine kA ?_ _)); exact BK486.out) hb); have n3_ := zK (bT (by repeat (first | (with_reducible first | exact HB.out | apply bA | apply bN | apply b1 | refine bS ?_ GE486.out) | exact HB.out)) hb); clear HO_6; clear BK486; clear HB; have HO_6 := n0_; have HO489 := n1_; have BK486 := n2_; have HB := n3_; clear n0_ n1_ n2_ n3_; (try clear hb); (try clear hb2); (try clear hk); (try clear hi); (try clear ho0)))
    go_roundg k1
    case measure => have := HK1.out; omega
    case rel => exact ⟨(t487), (wrap64 (x7_1 + 1)), (wrap64 (x15_1 + 1)), (by first | rfl | (simp; done) | (simp [*]; done)), (by first | rfl | (simp; done) | (simp [*]; done)), H', ⟨by have := HK1.out; omega⟩, ⟨by (with_reducible repeat (first | apply Kd.RA | apply Kd.RN | apply Kd.RD)); exact Kd.R_mono HO489.out (fun _ hk => trivial)⟩, ⟨by repeat (first | (with_reducible first | exact HB.out | apply bA | apply bN | apply b1 | refine bS ?_ GE486.out) | exact HB.out)⟩⟩
   replace c9 := Bool.eq_false_iff.mpr c9
   subst c9
   have H1 : (impl_SendAll.l0 k1 t487 x7_1 l1 (l1.length : Int) (wrap64 (x15_1 + 1))) = some (r1, r2) := by rw [if_neg (show ¬ (false = true) by decide)] at H; exact H
   clear H
   have H := H1
   clear H1
   have H' := zK H
   clear H
   have p485 : 0 ≤ (x15_1 : Int) := oD (by first | (with_reducible assumption) | assumption)
   have q485 : x15_1 < (l1.length : Int) := oD (by first | (with_reducible assumption) | assumption)
   obtain ⟨ad485, A485_2, c485_2, e485, hx485_0, hx485_1, hx485_2, hx485_3, hl485_2, hi485_2⟩ := at_T53 HR1.out x15_1 p485 q485
   cases e485
   replace hx485_0 := (HB.out.cell (bL w hx485_0)).trans hx485_0
   replace hx485_1 := (HB.out.cell (bL w hx485_1)).trans hx485_1
   replace hx485_2 := (HB.out.cell (bL w hx485_2)).trans hx485_2
   replace hx485_3 := (HB.out.cell (bL w hx485_3)).trans hx485_3
   have HR485_2 := zK hi485_2
   have HC485_2 := zK hl485_2
   clear hi485_2 hl485_2
   replace p485 := eq_true p485
   replace q485 := eq_true q485
   go_wp2_with (first | ((with_reducible refine gate_dst (N := 9) rfl ?_); refine box_event ?hg (N := 9) ?hd (cs := #[.int .i64 0, .int .i64 0, .slice none 0 0, .int .i64 0]) (t := 53) ?hr ?_; (case hd => rfl); (case hg => rfl); (case hr => first | (go_simp; done) | (go_simp; rfl)); intro gb486 hg w14 hbox hb; have n0_ := zK (Kd.R_below (by (with_reducible repeat (first | apply Kd.RA | apply Kd.RN | apply Kd.RD)); exact HO_6.out) hb); have n1_ := zK (bT (by repeat (first | (with_reducible first | exact HB.out | apply bA | apply bN | apply b1) | exact HB.out)) hb); have n2_ := zK (hbox); have n3_ := zK ((by rw [hg]; exact (bZ (by repeat (first | (with_reducible first | exact HB.out | apply bA | apply bN | apply b1) | exact HB.out))) : w.heap.size ≤ gb486)); have n4_ := zK ((by rw [hg]; exact (bZ (by repeat (first | (with_reducible first | exact HB.out | apply bA | apply bN | apply b1) | exact HB.out))) : w.heap.size ≤ gb486)); clear HO_6; clear HB; have HO_6 := n0_; have HB := n1_; have BK486 := n2_; have GW486 := n3_; have GE486 := n4_; clear n0_ n1_ n2_ n3_ n4_; clear hb hbox hg; have hcz15_0 : w14.cell? ⟨gb486, 0, none⟩ = some (.int .i64 0) := (bc BK486.out 0).trans rfl; have hcz15_1 : w14.cell? ⟨gb486, 1, none⟩ = some (.int .i64 0) := (bc BK486.out 1).trans rfl; have hcz15_2 : w14.cell? ⟨gb486, 2, none⟩ = some (.slice none 0 0) := (bc BK486.out 2).trans rfl; have hcz15_3 : w14.cell? ⟨gb486, 3, none⟩ = some (.int .i64 0) := (bc BK486.out 3).trans rfl; have hfz15_0 := bf BK486.out 0; have hfz15_1 := bf BK486.out 1; have hfz15_2 := bf BK486.out 2; have hfz15_3 := bf BK486.out 3; obtain ⟨Ao16, co16, eo16⟩ := Kd.R_slice HO_6.out; subst eo16) | ((with_reducible refine gate_callee (f := 32) rfl ?_); refine goesL_ (some 22) rfl rfl Try.func32 (by kernel_rfl) rfl #[.slice Ao16 x6_1.length co16, .agg #[.int .i64 ((rd_T53 l1 x15_1).f0), .int .i64 ((rd_T53 l1 x15_1).f1), .slice A485_2 ((rd_T53 l1 x15_1).f2).length c485_2, .int .i64 ((rd_T53 l1 x15_1).f3)]] rfl (by (try simp only [List.map_toArray, List.map_cons, List.map_nil]); first | done | rfl | (simp only [List.length_drop, List.length_take]; rfl)) ?_; (with_reducible refine (impl_SendParcel.calls k1 _ _ x6_1 ((rd_T53 l1 x15_1).f0) ((rd_T53 l1 x15_1).f1) _ _ ((rd_T53 l1 x15_1).f2) ((rd_T53 l1 x15_1).f3) t487 false _ ?side1 ?side2 ?side3 ?side4 A8.out).mono ?_); (case side1 => refine (Kd.R_reads' (e := 138) (base := w.heap.size) (ok := fun k_ => True) (n := x6_1.length) (c := co16) ?_).2.2; exact (by (with_reducible repeat (first | apply Kd.RA | apply Kd.RN | apply Kd.RD)); exact (Kd.R_mono (Kd.R_far (p := ⟨gb486, 3, none⟩) (Kd.R_far (p := ⟨gb486, 2, none⟩) (Kd.R_far (p := ⟨gb486, 1, none⟩) (Kd.R_far (p := ⟨gb486, 0, none⟩) (Kd.R_types HO_6.out BK486.out (by decide)) (fun _ hk => hk.2) (.int .i64 ((rd_T53 l1 x15_1).f0))) (fun _ hk => hk.2) (.int .i64 ((rd_T53 l1 x15_1).f1))) (fun _ hk => hk.2) (.slice A485_2 ((rd_T53 l1 x15_1).f2).length c485_2)) (fun _ hk => hk.2) (.int .i64 ((rd_T53 l1 x15_1).f3))) (fun _ h_ => h_.1)))); (case side2 => exact (Kd.R_reads' HO_6.out).2.1); (case side3 => exact Kd.C_below HR485_2.out (by repeat (first | (with_reducible first | exact HB.out | apply bA | apply bN | apply b1 | refine bS ?_ GE486.out) | exact HB.out))); (case side4 => exact HC485_2.out); rintro e w17 ⟨v488, rfl, ho0, hb⟩; refine ⟨_, rfl, ?_⟩; have n0_ := zK (Kd.R_elder' (by (with_reducible repeat (first | apply Kd.RA | apply Kd.RN | apply Kd.RD)); exact (Kd.R_mono (Kd.R_far (p := ⟨gb486, 3, none⟩) (Kd.R_far (p := ⟨gb486, 2, none⟩) (Kd.R_far (p := ⟨gb486, 1, none⟩) (Kd.R_far (p := ⟨gb486, 0, none⟩) (Kd.R_types HO_6.out BK486.out (by decide)) (fun _ hk => hk.2) (.int .i64 ((rd_T53 l1 x15_1).f0))) (fun _ hk => hk.2) (.int .i64 ((rd_T53 l1 x15_1).f1))) (fun _ hk => hk.2) (.slice A485_2 ((rd_T53 l1 x15_1).f2).length c485_2)) (fun _ hk => hk.2) (.int .i64 ((rd_T53 l1 x15_1).f3))) (fun _ h_ => h_.1))) (Kd.R_base ho0) hb); have n1_ := zK (Kd.R_lower (Kd.R_new' ho0 (Kd.R_lt (by (with_reducible repeat (first | apply Kd.RA | apply Kd.RN | apply Kd.RD)); exact (Kd.R_mono (Kd.R_far (p := ⟨gb486, 3, none⟩) (Kd.R_far (p := ⟨gb486, 2, none⟩) (Kd.R_far (p := ⟨gb486, 1, none⟩) (Kd.R_far (p := ⟨gb486, 0, none⟩) (Kd.R_types HO_6.out BK486.out (by decide)) (fun _ hk => hk.2) (.int .i64 ((rd_T53 l1 x15_1).f0))) (fun _ hk => hk.2) (.int .i64 ((rd_T53 l1 x15_1).f1))) (fun _ hk => hk.2) (.slice A485_2 ((rd_T53 l1 x15_1).f2).length c485_2)) (fun _ hk => hk.2) (.int .i64 ((rd_T53 l1 x15_1).f3))) (fun _ h_ => h_.1))))) (bZ (by repeat (first | (with_reducible first | exact HB.out | apply bA | apply bN | apply b1 | refine bS ?_ GE486.out) | exact HB.out)))); have n2_ := zK (bB (g := gb486) (o := .cells #[.int .i64 ((rd_T53 l1 x15_1).f0), .int .i64 ((rd_T53 l1 x15_1).f1), .slice A485_2 ((rd_T53 l1 x15_1).f2).length c485_2, .int .i64 ((rd_T53 l1 x15_1).f3)] 53 (0, 0)) (by (with_reducible repeat (first | refine kN ?_ _ | refine kD ?_ | refine kA ?_ _)); refine blk_put (cs := #[.int .i64 ((rd_T53 l1 x15_1).f0), .int .i64 ((rd_T53 l1 x15_1).f1), .slice A485_2 ((rd_T53 l1 x15_1).f2).length c485_2, .int .i64 0]) ?_ 3 _ rfl; (with_reducible repeat (first | refine kN ?_ _ | refine kD ?_ | refine kA ?_ _)); refine blk_put (cs := #[.int .i64 ((rd_T53 l1 x15_1).f0), .int .i64 ((rd_T53 l1 x15_1).f1), .slice none 0 0, .int .i64 0]) ?_ 2 _ rfl; (with_reducible repeat (first | refine kN ?_ _ | refine kD ?_ | refine kA ?_ _)); refine blk_put (cs := #[.int .i64 ((rd_T53 l1 x15_1).f0), .int .i64 0, .slice none 0 0, .int .i64 0]) ?_ 1 _ rfl; (with_reducible repeat (first | refine kN ?_ _ | refine kD ?_ | refine kA ?_ _)); refine blk_put (cs := #[.int .i64 0, .int .i64 0, .slice none 0 0, .int .i64 0]) ?_ 0 _ rfl; (with_reducible repeat (first | refine kN ?_ _ | refine kD ?_ | refine kA ?_ _)); exact BK486.out) hb); have n3_ := zK (bT (by repeat (first | (with_reducible first | exact HB.out | apply bA | apply bN | apply b1 | refine bS ?_ GE486.out) | exact HB.out)) hb); clear HO_6; clear BK486; clear HB; have HO_6 := n0_; have HO489 := n1_; have BK486 := n2_; have HB := n3_; clear n0_ n1_ n2_ n3_; (try clear hb); (try clear hb2); (try clear hk); (try clear hi); (try clear ho0)))
   go_roundg k1
   case measure => have := HK1.out; omega
   case rel => exact ⟨(t487), (x7_1), (wrap64 (x15_1 + 1)), (by first | rfl | (simp; done) | (simp [*]; done)), (by first | rfl | (simp; done) | (simp [*]; done)), H', ⟨by have := HK1.out; omega⟩, ⟨by (with_reducible repeat (first | apply Kd.RA | apply Kd.RN | apply Kd.RD)); exact Kd.R_mono HO489.out (fun _ hk => trivial)⟩, ⟨by repeat (first | (with_reducible first | exact HB.out | apply bA | apply bN | apply b1 | refine bS ?_ GE486.out) | exact HB.out)⟩⟩
end Go.Proofs.Ytejhjenlodclpaa.PFnParcels
