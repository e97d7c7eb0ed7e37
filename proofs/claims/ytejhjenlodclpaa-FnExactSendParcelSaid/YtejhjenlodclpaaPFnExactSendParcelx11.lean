/- Walks of functions that FnExactSendParcel reaches: written by a tool of the kit for this claim, then shortened by a program of ours. -/
import Derived.Test.YtejhjenlodclpaaPFnExactSendParcelx0
import Derived.Test.YtejhjenlodclpaaPFnExactSendParcelx5
import Derived.Test.YtejhjenlodclpaaPFnExactSendParcelx9
import Derived.Test.YtejhjenlodclpaaPFnExactSendParcelx10
namespace Go.Proofs.Ytejhjenlodclpaa.PFnExactSendParcel
open Go.RowKit Go.Proofs.YtejhjenlodclpaaW.PrintWords Go.Proofs.YtejhjenlodclpaaW.PrintLast Go.Proofs.YtejhjenlodclpaaW.PrintMore
attribute [local go_sem] max2_int min2_int max_two min_two max_three min_three max_four min_four   -- for this text's walks alone
set_option linter.unusedVariables false
set_option linter.unusedSimpArgs false

abbrev b11A0 : Array Bool := #[bo, bo, bo, bo, bo, bo, bo, bo, bo, bo, bo, bo, bo, bo, bo, bo, bo]
abbrev b11A1 : Array Bool := #[bi, bo, bo, bo, bo, bo, bo, bo, bo, bo, bo, bo, bo, bo, bo, bo, bo]
abbrev b11A2 : Array Bool := #[bi, bi, bo, bo, bo, bo, bo, bo, bo, bo, bo, bo, bo, bo, bo, bo, bo]
abbrev b11A3 : Array Bool := #[bi, bi, bo, bi, bo, bo, bo, bo, bo, bo, bo, bo, bo, bo, bo, bo, bo]
abbrev b11A4 : Array Bool := #[bi, bi, bo, bi, bo, bo, bi, bo, bo, bo, bo, bo, bo, bo, bo, bo, bo]
abbrev b11A5 : Array Bool := #[bi, bi, bo, bi, bo, bo, bi, bo, bi, bo, bo, bo, bo, bo, bo, bo, bo]
abbrev b11A6 : Array Bool := #[bi, bi, bi, bi, bo, bo, bi, bo, bi, bo, bo, bo, bo, bo, bo, bo, bo]
abbrev b11A7 : Array Bool := #[bi, bi, bi, bi, bi, bo, bi, bo, bi, bo, bo, bo, bo, bo, bo, bo, bo]
abbrev b11A8 : Array Bool := #[bi, bi, bi, bi, bi, bi, bi, bo, bi, bo, bo, bo, bo, bo, bo, bo, bo]
abbrev b11A9 : Array Bool := #[bi, bi, bi, bi, bi, bi, bi, bi, bi, bo, bo, bo, bo, bo, bo, bo, bo]
abbrev b11A10 : Array Bool := #[bi, bi, bi, bi, bi, bi, bi, bi, bi, bi, bo, bo, bo, bo, bo, bo, bo]
abbrev b11A11 : Array Bool := #[bi, bi, bi, bi, bi, bi, bi, bi, bi, bi, bi, bo, bo, bo, bo, bo, bo]
abbrev b11A12 : Array Bool := #[bi, bi, bi, bi, bi, bi, bi, bi, bi, bi, bi, bi, bo, bo, bo, bo, bo]
abbrev b11A13 : Array Bool := #[bi, bi, bi, bi, bi, bi, bi, bi, bi, bi, bi, bi, bi, bo, bo, bo, bo]
abbrev b11A14 : Array Bool := #[bi, bi, bi, bi, bi, bi, bi, bi, bi, bi, bi, bi, bi, bi, bo, bo, bo]
abbrev b11A15 : Array Bool := #[bi, bi, bi, bi, bi, bi, bi, bi, bi, bi, bi, bi, bi, bi, bi, bo, bo]
abbrev b11A16 : Array Bool := #[bi, bi, bi, bi, bi, bi, bi, bi, bi, bi, bi, bi, bi, bi, bi, bi, bo]
abbrev b11A17 : Array Bool := #[bi, bi, bi, bi, bi, bi, bi, bi, bi, bi, bi, bi, bi, bi, bi, bi, bi]
/-! ### spec_SendParcel: function 49 -/
def spec_SendParcel.l0 : Nat → List (S138) → List (S138) → List Int → Int → Int → Int → List Int → Int → Option ((List (S138)) × Bool)
  | 0, _, _, _, _, _, _, _, _ => none
  | k + 1, x0, x6, x7, x8, x303000, x303001, x303002, x303003 => if x8 < (x303002.length : Int) then (if 0 ≤ x8 then ((spec_AddHand.f k x6 (rd x303002 x8) 2 x303001 x303003 0).bind fun bt314 => (if bt314.2 = true then ((spec_l8Has.f k x7 (rd x303002 x8)).bind fun t319 => (if t319 = true then (spec_SendParcel.l0 k x0 bt314.1 x7 (wrap64 (x8 + 1)) x303000 x303001 x303002 x303003) else ((some (([] : List (S138)) : List (S138))).bind fun y320 => (if y320.length + x0.length < 3518437208883 then (some ((y320 ++ x0), false)) else (none))))) else ((some (([] : List (S138)) : List (S138))).bind fun y326 => (if y326.length + x0.length < 3518437208883 then (some ((y326 ++ x0), false)) else (none))))) else (none)) else (some (x6, true))
def spec_SendParcel.f (k : Nat) (l0 : List (S138)) (a1_0 : Int) (a1_1 : Int) (l1_2 : List Int) (a1_3 : Int) : Option ((List (S138)) × Bool) := (some (([] : List (S138)) : List (S138))).bind fun y303 => (if y303.length + l0.length < 3518437208883 then ((some (y303 ++ l0 : List (S138))).bind fun y306 => ((spec_IsParcel.f k a1_0 a1_1 l1_2 a1_3).bind fun t309 => (if t309 = true then ((spec_InHouse.f k l0 a1_0).bind fun t310 => (spec_SendParcel.l0 k l0 y306 t310 0 a1_0 a1_1 l1_2 a1_3)) else (some (y306, false))))) else (none))
def spec_SendParcel.T8 : Bool × List (List Nat × List Nat) := (true, [([], []), ([], []), ([1], [1]), ([], []), ([2, 3], [2, 3]), ([4], [4]), ([], []), ([6], [6]), ([], []), ([8], [8]), ([5, 7, 9], [5, 7, 9]), ([0, 10], [0, 10]), ([11], [11]), ([12], [12]), ([12], [12]), ([13, 11, 0, 1, 2, 3, 4, 5, 6, 7, 8, 9, 10, 11, 12, 13], [13]), ([14, 15, 0, 1, 2, 3, 4, 5, 6, 7, 8, 9, 10, 11, 12, 13, 14, 15], [14])])
def spec_SendParcel.B8 : List Nat := [0, 0, 2, 0, 14, 30, 0, 64, 0, 256, 1022, 2047, 4095, 8191, 8191, 16383, 65535]
theorem spec_SendParcel.tab8 : rtab .any (opsOf Try.f49 8) = spec_SendParcel.T8 := by kernel_rfl
theorem spec_SendParcel.bits8 : waitsOk spec_SendParcel.T8.2 spec_SendParcel.B8 = true := by kernel_rfl
set_option maxHeartbeats 8000000 in
set_option maxRecDepth 100000 in
theorem spec_SendParcel.calls (k : Nat) (A0 : Option Addr) (c0 : Nat) (l0 : List (S138)) (a1_0 : Int) (a1_1 : Int) (A1_2 : Option Addr) (c1_2 : Nat) (l1_2 : List Int) (a1_3 : Int) (r1 : List (S138)) (r2 : Bool) (w : World) (hr0 : Kd.C k138 w A0 l0.length l0) (hc0 : l0.length ≤ c0) (hr1_2 : Kd.C (Kd.int .i64) w A1_2 l1_2.length l1_2) (hc1_2 : l1_2.length ≤ c1_2) (h : spec_SendParcel.f k l0 a1_0 a1_1 l1_2 a1_3 = some (r1, r2)) :
    Calls Try.prog 49 #[.slice A0 l0.length c0, .agg #[.int .i64 a1_0, .int .i64 a1_1, .slice A1_2 l1_2.length c1_2, .int .i64 a1_3]] w fun e w' => ∃ v0_ : Value, e = .returned (.tuple #[v0_, .bool r2]) ∧ Kd.R k138 138 w' w.heap.size (fun _ => True) v0_ r1 ∧ Below w.heap.size w w' := by
  have hu53 := Try.underlying53
  have hu138 := Try.underlying138
  have HR0 := zK hr0
  have HC0 := zK hc0
  clear hr0 hc0
  have HR1_2 := zK hr1_2
  have HC1_2 := zK hc1_2
  clear hr1_2 hc1_2
  have HB := zK (Below.refl w.heap.size w)
  have H : ((some (([] : List (S138)) : List (S138))).bind fun y303 => (if y303.length + l0.length < 3518437208883 then ((some (y303 ++ l0 : List (S138))).bind fun y306 => ((spec_IsParcel.f k a1_0 a1_1 l1_2 a1_3).bind fun t309 => (if t309 = true then ((spec_InHouse.f k l0 a1_0).bind fun t310 => (spec_SendParcel.l0 k l0 y306 t310 0 a1_0 a1_1 l1_2 a1_3)) else (some (y306, false))))) else (none))) = some (r1, r2) := h
  clear h
  obtain ⟨y303, hy303⟩ : ∃ y_ : List (S138), y_ = (([] : List (S138))) := ⟨_, rfl⟩
  replace H : (if y303.length + l0.length < 3518437208883 then ((some (y303 ++ l0 : List (S138))).bind fun y306 => ((spec_IsParcel.f k a1_0 a1_1 l1_2 a1_3).bind fun t309 => (if t309 = true then ((spec_InHouse.f k l0 a1_0).bind fun t310 => (spec_SendParcel.l0 k l0 y306 t310 0 a1_0 a1_1 l1_2 a1_3)) else (some (y306, false))))) else (none)) = some (r1, r2) := by first | (rw [hy303]; with_reducible exact H) | (have H2_ := (Option.bind_some _ _).symm.trans H; rw [hy303]; with_reducible exact H2_) | (have H2_ := (Option.bind_some _ _).symm.trans H; with_reducible exact H2_) | with_reducible exact H | (rw [hy303]; exact H) | exact H
  have Ny303 := zK hy303
  clear hy303
  by_cases c3 : y303.length + l0.length < 3518437208883
  rotate_left
  · rw [if_neg c3] at H
    exact absurd H (by simp)
  rw [if_pos c3] at H
  have LMc3 := zK c3
  clear c3
  obtain ⟨y306, hy306⟩ : ∃ y_ : List (S138), y_ = (y303 ++ l0) := ⟨_, rfl⟩
  replace H : ((spec_IsParcel.f k a1_0 a1_1 l1_2 a1_3).bind fun t309 => (if t309 = true then ((spec_InHouse.f k l0 a1_0).bind fun t310 => (spec_SendParcel.l0 k l0 y306 t310 0 a1_0 a1_1 l1_2 a1_3)) else (some (y306, false)))) = some (r1, r2) := by first | (rw [hy306]; with_reducible exact H) | (have H2_ := (Option.bind_some _ _).symm.trans H; rw [hy306]; with_reducible exact H2_) | (have H2_ := (Option.bind_some _ _).symm.trans H; with_reducible exact H2_) | with_reducible exact H | (rw [hy306]; exact H) | exact H
  have Ny306 := zK hy306
  clear hy306
  replace H := Option.bind_eq_some_iff.mp H
  obtain ⟨t309, A40, H⟩ := H
  replace H : (if t309 = true then ((spec_InHouse.f k l0 a1_0).bind fun t310 => (spec_SendParcel.l0 k l0 y306 t310 0 a1_0 a1_1 l1_2 a1_3)) else (some (y306, false))) = some (r1, r2) := H
  have A4 := zK A40
  clear A40
  by_cases c5 : t309 = true
  rotate_left
  · replace c5 := Bool.eq_false_iff.mpr c5
    subst c5
    have H1 : (some (y306, false)) = some (r1, r2) := by rw [if_neg (show ¬ (false = true) by decide)] at H; exact H
    clear H
    have H := H1
    clear H1
    simp only [Option.some.injEq, Prod.mk.injEq] at H
    obtain ⟨rfl, rfl⟩ := H
    go_enter Try.func49, Try.ntmps49
    go_wp2_with (first | ((with_reducible refine gate_dst (N := 3) rfl ?_); refine box_event ?hg (N := 3) ?hd (cs := #[.int .i64 a1_0, .int .i64 a1_1, .slice A1_2 l1_2.length c1_2, .int .i64 a1_3]) (t := 53) ?hr ?_; (case hd => rfl); (case hg => rfl); (case hr => first | (go_simp; done) | (go_simp; rfl)); intro gb302 hg w46 hbox hb; have n0_ := zK (bT (by repeat (first | (with_reducible first | exact HB.out | apply bA | apply bN | apply b1) | exact HB.out)) hb); have n1_ := zK (hbox); have n2_ := zK ((by rw [hg]; exact (bZ (by repeat (first | (with_reducible first | exact HB.out | apply bA | apply bN | apply b1) | exact HB.out))) : w.heap.size ≤ gb302)); have n3_ := zK ((by rw [hg]; exact (bZ (by repeat (first | (with_reducible first | exact HB.out | apply bA | apply bN | apply b1) | exact HB.out))) : w.heap.size ≤ gb302)); clear HB; have HB := n0_; have BK302 := n1_; have GW302 := n2_; have GE302 := n3_; clear n0_ n1_ n2_ n3_; clear hb hbox hg) | ((with_reducible refine gate_dst (N := 11) rfl ?_); refine Kd.R_lit k138 _ 138 ?hg (N := 11) ?hd (xs := ([] : List (S138))) (inner := []) (ok := fun _ => True) (okp := fun _ => True) ?hr ?hp (fun _ hk => hk) trivial (Below.refl _ _) (Nat.le_refl _) (by simp) ?_; (case hd => rfl); (case hg => rfl); (case hr => first | (go_simp; done) | (go_simp; rfl)); (case hp => exact (Reps.none _ _)); intro v304 w47 ho48 hb hg_ hnew_; clear hg_ hnew_; (first | rw [← Ny303.out] at ho48 | (simp only [Int.reduceToNat] at ho48; rw [← Ny303.out] at ho48)); have n0_ := zK (Kd.R_lower ho48 (bZ (by repeat (first | (with_reducible first | exact HB.out | apply bA | apply bN | apply b1 | refine bS ?_ GE302.out) | exact HB.out)))); have n1_ := zK (bB (g := gb302) (o := .cells #[.int .i64 a1_0, .int .i64 a1_1, .slice A1_2 l1_2.length c1_2, .int .i64 a1_3] 53 (0, 0)) (by (with_reducible repeat (first | refine kN ?_ _ | refine kD ?_ | refine kA ?_ _)); exact BK302.out) hb); have n2_ := zK (bT (by repeat (first | (with_reducible first | exact HB.out | apply bA | apply bN | apply b1 | refine bS ?_ GE302.out) | exact HB.out)) hb); clear BK302; clear HB; have HO305 := n0_; have BK302 := n1_; have HB := n2_; clear n0_ n1_ n2_; clear hb ho48) | ((with_reducible refine gate_builtin (b := .append) (xs := #[.tmp 11, .tmp 12]) rfl ?_); at_builtin; refine Kd.R_append_rows k138 (w0 := w) w.heap.size rfl (.tmp 11) (.tmp 12) 51 138 (.agg #[(.int .i64 0), (.int .i64 0), (.int .i64 0), (.int .i64 0), (.int .i64 0)]) 40 rfl Try.underlying51 info138 rfl (by decide) (by omega) v304 y303 l0 _ _ _ (fun _ => True) (fun _ => False) rfl rfl ?aO ?aR (fun _ _ h => h) (fun _ h => h.elim) ?aF ?aB ?aS ?aL ?_; (case aR => repeat (first | exact (Kd.C_below HR0.out HB.out) | (with_reducible refine Kd.CA ?_ _) | (with_reducible refine Kd.CN ?_ _) | (with_reducible refine Kd.CD ?_))); (case aB => exact (by repeat (first | (with_reducible first | exact HB.out | apply bA | apply bN | apply b1 | refine bS ?_ GE302.out) | exact HB.out))); (case aF => exact (fun _ _ => trivial)); (case aO => exact (by (with_reducible repeat (first | apply Kd.RA | apply Kd.RN | apply Kd.RD)); exact HO305.out)); (case aS => exact (bZ (by repeat (first | (with_reducible first | exact HB.out | apply bA | apply bN | apply b1 | refine bS ?_ GE302.out) | exact HB.out)))); (case aL => have := LMc3.out; omega); intro v307 w49 ho hb hg hat; rw [← Ny306.out] at ho; have n0_ := zK (blk_grown (g := gb302) (o := .cells #[.int .i64 a1_0, .int .i64 a1_1, .slice A1_2 l1_2.length c1_2, .int .i64 a1_3] 53 (0, 0)) (by (with_reducible repeat (first | refine kN ?_ _ | refine kD ?_ | refine kA ?_ _)); exact BK302.out) hg (Kd.R_ne HO305.out BK302.out (by decide))); have n1_ := zK (hb); have n2_ := zK (ho); clear BK302; clear HB; clear HO305; have BK302 := n0_; have HB := n1_; have HO308 := n2_; clear n0_ n1_ n2_; clear ho hb hg hat; have hcz50_0 : w49.cell? ⟨gb302, 0, none⟩ = some (.int .i64 a1_0) := (bc BK302.out 0).trans rfl; have hcz50_1 : w49.cell? ⟨gb302, 1, none⟩ = some (.int .i64 a1_1) := (bc BK302.out 1).trans rfl; have hcz50_2 : w49.cell? ⟨gb302, 2, none⟩ = some (.slice A1_2 l1_2.length c1_2) := (bc BK302.out 2).trans rfl; have hcz50_3 : w49.cell? ⟨gb302, 3, none⟩ = some (.int .i64 a1_3) := (bc BK302.out 3).trans rfl; have hfz50_0 := bf BK302.out 0; have hfz50_1 := bf BK302.out 1; have hfz50_2 := bf BK302.out 2; have hfz50_3 := bf BK302.out 3) | ((with_reducible refine gate_callee (f := 109) rfl ?_); refine goesL_ (some 15) rfl rfl Try.func109 (by kernel_rfl) rfl #[.agg #[.int .i64 a1_0, .int .i64 a1_1, .slice A1_2 l1_2.length c1_2, .int .i64 a1_3]] rfl (by (try simp only [List.map_toArray, List.map_cons, List.map_nil]); first | done | rfl | (simp only [List.length_drop, List.length_take]; rfl)) ?_; (with_reducible refine (spec_IsParcel.calls k a1_0 a1_1 _ _ l1_2 a1_3 false _ ?side1 ?side2 A4.out).mono ?_); (case side1 => repeat (first | exact (Kd.C_below HR1_2.out HB.out) | (with_reducible refine Kd.CA ?_ _) | (with_reducible refine Kd.CN ?_ _) | (with_reducible refine Kd.CD ?_))); (case side2 => exact HC1_2.out); rintro e w51 ⟨rfl, hb⟩; refine ⟨_, rfl, ?_⟩; have n0_ := zK (Kd.R_below (by (with_reducible repeat (first | apply Kd.RA | apply Kd.RN | apply Kd.RD)); exact HO308.out) hb); have n1_ := zK (bB (g := gb302) (o := .cells #[.int .i64 a1_0, .int .i64 a1_1, .slice A1_2 l1_2.length c1_2, .int .i64 a1_3] 53 (0, 0)) (by (with_reducible repeat (first | refine kN ?_ _ | refine kD ?_ | refine kA ?_ _)); exact BK302.out) hb); have n2_ := zK (bT (by repeat (first | (with_reducible first | exact HB.out | apply bA | apply bN | apply b1 | refine bS ?_ GE302.out) | exact HB.out)) hb); clear HO308; clear BK302; clear HB; have HO308 := n0_; have BK302 := n1_; have HB := n2_; clear n0_ n1_ n2_; (try clear hb); (try clear hb2); (try clear hk); (try clear hi)))
    go_ret2
    exact ⟨_, by first | rfl | (simp [errW_none, errW_some] <;> rfl) | (simp [*, errW_none, errW_some] <;> rfl), by (with_reducible repeat (first | apply Kd.RA | apply Kd.RN | apply Kd.RD)); exact HO308.out, by repeat (first | (with_reducible first | exact HB.out | apply bA | apply bN | apply b1 | refine bS ?_ GE302.out) | exact HB.out)⟩
  subst c5
  have H1 : ((spec_InHouse.f k l0 a1_0).bind fun t310 => (spec_SendParcel.l0 k l0 y306 t310 0 a1_0 a1_1 l1_2 a1_3)) = some (r1, r2) := by rw [if_pos rfl] at H; exact H
  clear H
  have H := H1
  clear H1
  replace H := Option.bind_eq_some_iff.mp H
  obtain ⟨t310, A60, H⟩ := H
  replace H : (spec_SendParcel.l0 k l0 y306 t310 0 a1_0 a1_1 l1_2 a1_3) = some (r1, r2) := H
  have A6 := zK A60
  clear A60
  have H' := zK H
  clear H
  go_enter Try.func49, Try.ntmps49
  go_wp2_with (first | ((with_reducible refine gate_dst (N := 3) rfl ?_); refine box_event ?hg (N := 3) ?hd (cs := #[.int .i64 a1_0, .int .i64 a1_1, .slice A1_2 l1_2.length c1_2, .int .i64 a1_3]) (t := 53) ?hr ?_; (case hd => rfl); (case hg => rfl); (case hr => first | (go_simp; done) | (go_simp; rfl)); intro gb302 hg w7 hbox hb; have n0_ := zK (bT (by repeat (first | (with_reducible first | exact HB.out | apply bA | apply bN | apply b1) | exact HB.out)) hb); have n1_ := zK (hbox); have n2_ := zK ((by rw [hg]; exact (bZ (by repeat (first | (with_reducible first | exact HB.out | apply bA | apply bN | apply b1) | exact HB.out))) : w.heap.size ≤ gb302)); have n3_ := zK ((by rw [hg]; exact (bZ (by repeat (first | (with_reducible first | exact HB.out | apply bA | apply bN | apply b1) | exact HB.out))) : w.heap.size ≤ gb302)); clear HB; have HB := n0_; have BK302 := n1_; have GW302 := n2_; have GE302 := n3_; clear n0_ n1_ n2_ n3_; clear hb hbox hg) | ((with_reducible refine gate_dst (N := 11) rfl ?_); refine Kd.R_lit k138 _ 138 ?hg (N := 11) ?hd (xs := ([] : List (S138))) (inner := []) (ok := fun _ => True) (okp := fun _ => True) ?hr ?hp (fun _ hk => hk) trivial (Below.refl _ _) (Nat.le_refl _) (by simp) ?_; (case hd => rfl); (case hg => rfl); (case hr => first | (go_simp; done) | (go_simp; rfl)); (case hp => exact (Reps.none _ _)); intro v304 w8 ho9 hb hg_ hnew_; clear hg_ hnew_; (first | rw [← Ny303.out] at ho9 | (simp only [Int.reduceToNat] at ho9; rw [← Ny303.out] at ho9)); have n0_ := zK (Kd.R_lower ho9 (bZ (by repeat (first | (with_reducible first | exact HB.out | apply bA | apply bN | apply b1 | refine bS ?_ GE302.out) | exact HB.out)))); have n1_ := zK (bB (g := gb302) (o := .cells #[.int .i64 a1_0, .int .i64 a1_1, .slice A1_2 l1_2.length c1_2, .int .i64 a1_3] 53 (0, 0)) (by (with_reducible repeat (first | refine kN ?_ _ | refine kD ?_ | refine kA ?_ _)); exact BK302.out) hb); have n2_ := zK (bT (by repeat (first | (with_reducible first | exact HB.out | apply bA | apply bN | apply b1 | refine bS ?_ GE302.out) | exact HB.out)) hb); clear BK302; clear HB; have HO305 := n0_; have BK302 := n1_; have HB := n2_; clear n0_ n1_ n2_; clear hb ho9) | ((with_reducible refine gate_builtin (b := .append) (xs := #[.tmp 11, .tmp 12]) rfl ?_); at_builtin; refine Kd.R_append_rows k138 (w0 := w) w.heap.size rfl (.tmp 11) (.tmp 12) 51 138 (.agg #[(.int .i64 0), (.int .i64 0), (.int .i64 0), (.int .i64 0), (.int .i64 0)]) 40 rfl Try.underlying51 info138 rfl (by decide) (by omega) v304 y303 l0 _ _ _ (fun _ => True) (fun _ => False) rfl rfl ?aO ?aR (fun _ _ h => h) (fun _ h => h.elim) ?aF ?aB ?aS ?aL ?_; (case aR => repeat (first | exact (Kd.C_below HR0.out HB.out) | (with_reducible refine Kd.CA ?_ _) | (with_reducible refine Kd.CN ?_ _) | (with_reducible refine Kd.CD ?_))); (case aB => exact (by repeat (first | (with_reducible first | exact HB.out | apply bA | apply bN | apply b1 | refine bS ?_ GE302.out) | exact HB.out))); (case aF => exact (fun _ _ => trivial)); (case aO => exact (by (with_reducible repeat (first | apply Kd.RA | apply Kd.RN | apply Kd.RD)); exact HO305.out)); (case aS => exact (bZ (by repeat (first | (with_reducible first | exact HB.out | apply bA | apply bN | apply b1 | refine bS ?_ GE302.out) | exact HB.out)))); (case aL => have := LMc3.out; omega); intro v307 w10 ho hb hg hat; rw [← Ny306.out] at ho; have n0_ := zK (blk_grown (g := gb302) (o := .cells #[.int .i64 a1_0, .int .i64 a1_1, .slice A1_2 l1_2.length c1_2, .int .i64 a1_3] 53 (0, 0)) (by (with_reducible repeat (first | refine kN ?_ _ | refine kD ?_ | refine kA ?_ _)); exact BK302.out) hg (Kd.R_ne HO305.out BK302.out (by decide))); have n1_ := zK (hb); have n2_ := zK (ho); clear BK302; clear HB; clear HO305; have BK302 := n0_; have HB := n1_; have HO308 := n2_; clear n0_ n1_ n2_; clear ho hb hg hat; have hcz11_0 : w10.cell? ⟨gb302, 0, none⟩ = some (.int .i64 a1_0) := (bc BK302.out 0).trans rfl; have hcz11_1 : w10.cell? ⟨gb302, 1, none⟩ = some (.int .i64 a1_1) := (bc BK302.out 1).trans rfl; have hcz11_2 : w10.cell? ⟨gb302, 2, none⟩ = some (.slice A1_2 l1_2.length c1_2) := (bc BK302.out 2).trans rfl; have hcz11_3 : w10.cell? ⟨gb302, 3, none⟩ = some (.int .i64 a1_3) := (bc BK302.out 3).trans rfl; have hfz11_0 := bf BK302.out 0; have hfz11_1 := bf BK302.out 1; have hfz11_2 := bf BK302.out 2; have hfz11_3 := bf BK302.out 3) | ((with_reducible refine gate_callee (f := 109) rfl ?_); refine goesL_ (some 15) rfl rfl Try.func109 (by kernel_rfl) rfl #[.agg #[.int .i64 a1_0, .int .i64 a1_1, .slice A1_2 l1_2.length c1_2, .int .i64 a1_3]] rfl (by (try simp only [List.map_toArray, List.map_cons, List.map_nil]); first | done | rfl | (simp only [List.length_drop, List.length_take]; rfl)) ?_; (with_reducible refine (spec_IsParcel.calls k a1_0 a1_1 _ _ l1_2 a1_3 true _ ?side1 ?side2 A4.out).mono ?_); (case side1 => repeat (first | exact (Kd.C_below HR1_2.out HB.out) | (with_reducible refine Kd.CA ?_ _) | (with_reducible refine Kd.CN ?_ _) | (with_reducible refine Kd.CD ?_))); (case side2 => exact HC1_2.out); rintro e w12 ⟨rfl, hb⟩; refine ⟨_, rfl, ?_⟩; have n0_ := zK (Kd.R_below (by (with_reducible repeat (first | apply Kd.RA | apply Kd.RN | apply Kd.RD)); exact HO308.out) hb); have n1_ := zK (bB (g := gb302) (o := .cells #[.int .i64 a1_0, .int .i64 a1_1, .slice A1_2 l1_2.length c1_2, .int .i64 a1_3] 53 (0, 0)) (by (with_reducible repeat (first | refine kN ?_ _ | refine kD ?_ | refine kA ?_ _)); exact BK302.out) hb); have n2_ := zK (bT (by repeat (first | (with_reducible first | exact HB.out | apply bA | apply bN | apply b1 | refine bS ?_ GE302.out) | exact HB.out)) hb); clear HO308; clear BK302; clear HB; have HO308 := n0_; have BK302 := n1_; have HB := n2_; clear n0_ n1_ n2_; (try clear hb); (try clear hb2); (try clear hk); (try clear hi); have hcz13_0 : w12.cell? ⟨gb302, 0, none⟩ = some (.int .i64 a1_0) := (bc BK302.out 0).trans rfl; have hcz13_1 : w12.cell? ⟨gb302, 1, none⟩ = some (.int .i64 a1_1) := (bc BK302.out 1).trans rfl; have hcz13_2 : w12.cell? ⟨gb302, 2, none⟩ = some (.slice A1_2 l1_2.length c1_2) := (bc BK302.out 2).trans rfl; have hcz13_3 : w12.cell? ⟨gb302, 3, none⟩ = some (.int .i64 a1_3) := (bc BK302.out 3).trans rfl; have hfz13_0 := bf BK302.out 0; have hfz13_1 := bf BK302.out 1; have hfz13_2 := bf BK302.out 2; have hfz13_3 := bf BK302.out 3) | ((with_reducible refine gate_callee (f := 110) rfl ?_); refine goesL_ (some 21) rfl rfl Try.func110 (by kernel_rfl) rfl #[.slice A0 l0.length c0, .int .i64 a1_0] rfl (by (try simp only [List.map_toArray, List.map_cons, List.map_nil]); first | done | rfl | (simp only [List.length_drop, List.length_take]; rfl)) ?_; (with_reducible refine (spec_InHouse.calls k _ _ l0 a1_0 t310 _ ?side1 ?side2 A6.out).mono ?_); (case side1 => repeat (first | exact (Kd.C_below HR0.out HB.out) | (with_reducible refine Kd.CA ?_ _) | (with_reducible refine Kd.CN ?_ _) | (with_reducible refine Kd.CD ?_))); (case side2 => exact HC0.out); rintro e w14 ⟨v311, rfl, ho0, hb⟩; refine ⟨_, rfl, ?_⟩; have n0_ := zK (Kd.R_below (by (with_reducible repeat (first | apply Kd.RA | apply Kd.RN | apply Kd.RD)); exact HO308.out) hb); have n1_ := zK (Kd.R_lower ho0 (bZ (by repeat (first | (with_reducible first | exact HB.out | apply bA | apply bN | apply b1 | refine bS ?_ GE302.out) | exact HB.out)))); have n2_ := zK (bB (g := gb302) (o := .cells #[.int .i64 a1_0, .int .i64 a1_1, .slice A1_2 l1_2.length c1_2, .int .i64 a1_3] 53 (0, 0)) (by (with_reducible repeat (first | refine kN ?_ _ | refine kD ?_ | refine kA ?_ _)); exact BK302.out) hb); have n3_ := zK (bT (by repeat (first | (with_reducible first | exact HB.out | apply bA | apply bN | apply b1 | refine bS ?_ GE302.out) | exact HB.out)) hb); clear HO308; clear BK302; clear HB; have HO308 := n0_; have HO312 := n1_; have BK302 := n2_; have HB := n3_; clear n0_ n1_ n2_ n3_; (try clear hb); (try clear hb2); (try clear hk); (try clear hi); (try clear ho0)))
  go_loopg [6, 8] k (fun kq v6 v8 w' => ∃ (x6_1 : List (S138)) (x8_1 : Int), v8 = .int .i64 x8_1 ∧ Aside0 (spec_SendParcel.l0 kq l0 x6_1 t310 x8_1 a1_0 a1_1 l1_2 a1_3 = some (r1, r2)) ∧ Aside0 (kq ≤ k) ∧ Aside0 (Kd.R k138 138 w' w.heap.size (fun _ => True) v6 x6_1) ∧ Aside0 (Kd.R (Kd.int .i64) 3 w' w.heap.size (fun _ => True) v311 t310) ∧ Aside0 (w'.heap[gb302]? = some (.cells #[.int .i64 a1_0, .int .i64 a1_1, (.slice A1_2 l1_2.length c1_2), .int .i64 a1_3] 53 (0, 0))) ∧ Aside0 (Below w.heap.size w w'))
  case atStart => exact ⟨(y306), (0), (by first | rfl | (simp; done) | (simp [*]; done)), H', ⟨Nat.le_refl _⟩, ⟨by (with_reducible repeat (first | apply Kd.RA | apply Kd.RN | apply Kd.RD)); exact HO308.out⟩, ⟨by (with_reducible repeat (first | apply Kd.RA | apply Kd.RN | apply Kd.RD)); exact HO312.out⟩, ⟨by (with_reducible repeat (first | refine kN ?_ _ | refine kD ?_ | refine kA ?_ _)); exact BK302.out⟩, ⟨by repeat (first | (with_reducible first | exact HB.out | apply bA | apply bN | apply b1 | refine bS ?_ GE302.out) | exact HB.out)⟩⟩
  case round =>
    clear H'
    try clear c1
    try clear p2
    try clear c3
    try clear c4
    try clear c5
    try clear c10
    try clear c11
    try clear hcz11_0
    try clear hcz11_1
    try clear hcz11_2
    try clear hcz11_3
    try clear hcz13_0
    try clear hcz13_1
    try clear hcz13_2
    try clear hcz13_3
    try clear hfz11_0
    try clear hfz11_1
    try clear hfz11_2
    try clear hfz11_3
    try clear hfz13_0
    try clear hfz13_1
    try clear hfz13_2
    try clear hfz13_3
    obtain ⟨x6_1, x8_1, rfl, HA, HK1, HO_6, HO_7, BK302, HB⟩ := hrel
    cases gk with
    | zero => exact absurd HA.out (by simp [spec_SendParcel.l0])
    | succ k1 =>
      have H := HA.out
      clear HA
      simp only [spec_SendParcel.l0] at H
      by_cases c15 : x8_1 < (l1_2.length : Int)
      rotate_left
      · rw [if_neg c15] at H
        have c15b0 : decide (x8_1 < (l1_2.length : Int)) = false := decide_eq_false c15
        clear c15
        simp only [Option.some.injEq, Prod.mk.injEq] at H
        obtain ⟨rfl, rfl⟩ := H
        have hcz45_0 : wr.cell? ⟨gb302, 0, none⟩ = some (.int .i64 a1_0) := (bc BK302.out 0).trans rfl
        have hcz45_1 : wr.cell? ⟨gb302, 1, none⟩ = some (.int .i64 a1_1) := (bc BK302.out 1).trans rfl
        have hcz45_2 : wr.cell? ⟨gb302, 2, none⟩ = some (.slice A1_2 l1_2.length c1_2) := (bc BK302.out 2).trans rfl
        have hcz45_3 : wr.cell? ⟨gb302, 3, none⟩ = some (.int .i64 a1_3) := (bc BK302.out 3).trans rfl
        have hfz45_0 := bf BK302.out 0
        have hfz45_1 := bf BK302.out 1
        have hfz45_2 := bf BK302.out 2
        have hfz45_3 := bf BK302.out 3
        go_wp2
        go_ret2
        exact ⟨_, by first | rfl | (simp [errW_none, errW_some] <;> rfl) | (simp [*, errW_none, errW_some] <;> rfl), by (with_reducible repeat (first | apply Kd.RA | apply Kd.RN | apply Kd.RD)); exact HO_6.out, by repeat (first | (with_reducible first | exact HB.out | apply bA | apply bN | apply b1 | refine bS ?_ GE302.out) | exact HB.out)⟩
      rw [if_pos c15] at H
      have c15b0 : decide (x8_1 < (l1_2.length : Int)) = true := decide_eq_true c15
      clear c15
      by_cases c16 : 0 ≤ x8_1
      rotate_left
      · rw [if_neg c16] at H
        exact absurd H (by simp)
      rw [if_pos c16] at H
      have c16b0 : decide (0 ≤ x8_1) = true := decide_eq_true c16
      clear c16
      replace H := Option.bind_eq_some_iff.mp H
      obtain ⟨⟨t314, t317⟩, A170, H⟩ := H
      replace H : (if t317 = true then ((spec_l8Has.f k1 t310 (rd l1_2 x8_1)).bind fun t319 => (if t319 = true then (spec_SendParcel.l0 k1 l0 t314 t310 (wrap64 (x8_1 + 1)) a1_0 a1_1 l1_2 a1_3) else ((some (([] : List (S138)) : List (S138))).bind fun y320 => (if y320.length + l0.length < 3518437208883 then (some ((y320 ++ l0), false)) else (none))))) else ((some (([] : List (S138)) : List (S138))).bind fun y326 => (if y326.length + l0.length < 3518437208883 then (some ((y326 ++ l0), false)) else (none)))) = some (r1, r2) := H
      have A17 := zK A170
      clear A170
      by_cases c18 : t317 = true
      rotate_left
      · replace c18 := Bool.eq_false_iff.mpr c18
        subst c18
        have H1 : ((some (([] : List (S138)) : List (S138))).bind fun y326 => (if y326.length + l0.length < 3518437208883 then (some ((y326 ++ l0), false)) else (none))) = some (r1, r2) := by rw [if_neg (show ¬ (false = true) by decide)] at H; exact H
        clear H
        have H := H1
        clear H1
        obtain ⟨y326, hy326⟩ : ∃ y_ : List (S138), y_ = (([] : List (S138))) := ⟨_, rfl⟩
        replace H : (if y326.length + l0.length < 3518437208883 then (some ((y326 ++ l0), false)) else (none)) = some (r1, r2) := by first | (rw [hy326]; with_reducible exact H) | (have H2_ := (Option.bind_some _ _).symm.trans H; rw [hy326]; with_reducible exact H2_) | (have H2_ := (Option.bind_some _ _).symm.trans H; with_reducible exact H2_) | with_reducible exact H | (rw [hy326]; exact H) | exact H
        have Ny326 := zK hy326
        clear hy326
        by_cases c37 : y326.length + l0.length < 3518437208883
        rotate_left
        · rw [if_neg c37] at H
          exact absurd H (by simp)
        rw [if_pos c37] at H
        have LMc37 := zK c37
        clear c37
        obtain ⟨y329, hy329⟩ : ∃ y_ : List (S138), y_ = (y326 ++ l0) := ⟨_, rfl⟩
        replace H : (some (y329, false)) = some (r1, r2) := by first | (rw [hy329]; with_reducible exact H) | (have H2_ := (Option.bind_some _ _).symm.trans H; rw [hy329]; with_reducible exact H2_) | (have H2_ := (Option.bind_some _ _).symm.trans H; with_reducible exact H2_) | with_reducible exact H | (rw [hy329]; exact H) | exact H
        have Ny329 := zK hy329
        clear hy329
        simp only [Option.some.injEq, Prod.mk.injEq] at H
        obtain ⟨rfl, rfl⟩ := H
        have hcz38_0 : wr.cell? ⟨gb302, 0, none⟩ = some (.int .i64 a1_0) := (bc BK302.out 0).trans rfl
        have hcz38_1 : wr.cell? ⟨gb302, 1, none⟩ = some (.int .i64 a1_1) := (bc BK302.out 1).trans rfl
        have hcz38_2 : wr.cell? ⟨gb302, 2, none⟩ = some (.slice A1_2 l1_2.length c1_2) := (bc BK302.out 2).trans rfl
        have hcz38_3 : wr.cell? ⟨gb302, 3, none⟩ = some (.int .i64 a1_3) := (bc BK302.out 3).trans rfl
        have hfz38_0 := bf BK302.out 0
        have hfz38_1 := bf BK302.out 1
        have hfz38_2 := bf BK302.out 2
        have hfz38_3 := bf BK302.out 3
        try go_wp2
        have n0_ := zK (Kd.RD HO_6.out)
        have n1_ := zK (Kd.RD HO_7.out)
        have n2_ := zK (kD BK302.out)
        have n3_ := zK (b1 HB.out)
        clear HO_6
        clear HO_7
        clear BK302
        clear HB
        have HO_6 := n0_
        have HO_7 := n1_
        have BK302 := n2_
        have HB := n3_
        clear n0_ n1_ n2_ n3_
        have p313 : 0 ≤ (x8_1 : Int) := oD (by first | (with_reducible assumption) | assumption)
        have q313 : x8_1 < (l1_2.length : Int) := oD (by first | (with_reducible assumption) | assumption)
        obtain ⟨ad313, e313, hx313_0⟩ := Kd.at_int HR1_2.out x8_1 p313 q313
        have hw313_0 := hx313_0
        cases e313
        replace hx313_0 := (HB.out.cell (bL w hx313_0)).trans hx313_0
        replace p313 := eq_true p313
        replace q313 := eq_true q313
        obtain ⟨Ao40, co40, eo40⟩ := Kd.R_slice HO_6.out
        (first | subst eo40 | (injection eo40 with f1_ f2_ f3_; have f4_ := f1_.symm; have f5_ := f3_.symm; clear f1_ f2_ f3_; subst f4_; subst f5_))
        refine start_ (n := 17) (S := fun w' => w'.cell? ⟨gb302, 0, none⟩ = some (.int .i64 a1_0) ∧ w'.cell? ⟨gb302, 1, none⟩ = some (.int .i64 a1_1) ∧ w'.cell? ⟨gb302, 2, none⟩ = some (.slice (some ad313) l1_2.length c1_2) ∧ w'.cell? ⟨gb302, 3, none⟩ = some (.int .i64 a1_3) ∧ w'.cell? (ad313.add (x8_1).toNat) = some (.int .i64 (rd l1_2 x8_1))) (ds := []) b11A0 (by kernel_rfl) rfl rfl ⟨(bc BK302.out 0).trans rfl, (bc BK302.out 1).trans rfl, (bc BK302.out 2).trans rfl, (bc BK302.out 3).trans rfl, ((HB.out.cell (bL w hw313_0)).trans hw313_0)⟩ (fun hHeld => ?_); refine with_tabW spec_SendParcel.tab8 spec_SendParcel.bits8 (fun HT_ HW_ => ?_)
        generalize wr.drew = w39 at HO_6 HO_7 BK302 HB hx313_0 hHeld ⊢
        refine pI 0 (some 30) b11A1 HT_ ?_
        refine pI 1 (some 31) b11A2 HT_ ?_
        refine pI 3 (some 33) b11A3 HT_ ?_
        refine pI 6 (some 36) b11A4 HT_ ?_
        refine pI 8 (some 38) b11A5 HT_ ?_
        refine tI 2 (some 32) b11A6 HT_ HW_ hHeld rfl rfl (Or.inl ⟨by rfl, by rintro w' ⟨s0, s1, s2, s3, s4⟩; go_simp; with_reducible rfl⟩) ?_
        refine pI 4 (some 34) b11A7 HT_ ?_
        refine tI 5 (some 35) b11A8 HT_ HW_ hHeld rfl rfl (Or.inl ⟨by rfl, by rintro w' ⟨s0, s1, s2, s3, s4⟩; go_simp; with_reducible rfl⟩) ?_
        refine tI 7 (some 37) b11A9 HT_ HW_ hHeld rfl rfl (Or.inl ⟨by rfl, by rintro w' ⟨s0, s1, s2, s3, s4⟩; go_simp; with_reducible rfl⟩) ?_
        refine tI 9 (some 39) b11A10 HT_ HW_ hHeld rfl rfl (Or.inl ⟨by rfl, by rintro w' ⟨s0, s1, s2, s3, s4⟩; go_simp; with_reducible rfl⟩) ?_
        refine pI 10 (some 40) b11A11 HT_ ?_
        refine one_ (i := 11) (N := some 41) b11A12 rfl rfl (one_of HT_.out (by kernel_rfl)) (by decide) (fun K hK => ?_)
        refine goes_ Try.func111 (by kernel_rfl) rfl #[.slice Ao40 x6_1.length co40, .agg #[.int .i64 (rd l1_2 x8_1), .int .i64 2, .int .i64 a1_1, .int .i64 a1_3, .int .i64 0]] (by rfl) rfl rfl (by (try simp only [List.map_toArray, List.map_cons, List.map_nil]); first | done | rfl | (simp only [List.length_drop, List.length_take]; rfl)) ?_
        with_reducible refine (spec_AddHand.calls k1 _ _ x6_1 (rd l1_2 x8_1) 2 a1_1 a1_3 0 t314 false _ ?side1 ?side2 A17.out).mono ?_
        (case side1 => repeat (first | exact (Kd.R_reads' HO_6.out).2.2 | (with_reducible refine Kd.CA ?_ _) | (with_reducible refine Kd.CN ?_ _) | (with_reducible refine Kd.CD ?_)))
        (case side2 => exact (Kd.R_reads' HO_6.out).2.1)
        rintro e w41 ⟨v315, rfl, ho0, hb⟩
        refine ⟨_, rfl, ?_⟩
        have n0_ := zK (Kd.R_elder' (by (with_reducible repeat (first | apply Kd.RA | apply Kd.RN | apply Kd.RD)); exact HO_6.out) (Kd.R_base ho0) hb)
        have n1_ := zK (Kd.R_below (by (with_reducible repeat (first | apply Kd.RA | apply Kd.RN | apply Kd.RD)); exact HO_7.out) hb)
        have n2_ := zK (Kd.R_lower (Kd.R_new' ho0 (Kd.R_lt (by (with_reducible repeat (first | apply Kd.RA | apply Kd.RN | apply Kd.RD)); exact HO_6.out))) (bZ (by repeat (first | (with_reducible first | exact HB.out | apply bA | apply bN | apply b1 | refine bS ?_ GE302.out) | exact HB.out))))
        have n3_ := zK (bB (g := gb302) (o := .cells #[.int .i64 a1_0, .int .i64 a1_1, .slice (some ad313) l1_2.length c1_2, .int .i64 a1_3] 53 (0, 0)) (by (with_reducible repeat (first | refine kN ?_ _ | refine kD ?_ | refine kA ?_ _)); exact BK302.out) hb)
        have n4_ := zK (bT (by repeat (first | (with_reducible first | exact HB.out | apply bA | apply bN | apply b1 | refine bS ?_ GE302.out) | exact HB.out)) hb)
        clear HO_6
        clear HO_7
        clear BK302
        clear HB
        have HO_6 := n0_
        have HO_7 := n1_
        have HO316 := n2_
        have BK302 := n3_
        have HB := n4_
        clear n0_ n1_ n2_ n3_ n4_
        (try clear hb)
        (try clear hb2)
        (try clear hk)
        (try clear hi)
        (try clear ho0)
        refine hK.out _ _ ⟨(bc BK302.out 0).trans rfl, (bc BK302.out 1).trans rfl, (bc BK302.out 2).trans rfl, (bc BK302.out 3).trans rfl, ((HB.out.cell (bL w hw313_0)).trans hw313_0)⟩ (fun hHeld => ?_)
        clear hK K
        refine norm_ (a' := ?_) ?_ ?_
        rotate_left
        · show Act.put _ (some 41) _ = _
          simp only [Act.put, sA, sZ, sS, i64_w, i32_w]
          rfl
        refine pI 12 (some 29) b11A13 HT_ ?_
        refine pI 13 (some 42) b11A14 HT_ ?_
        refine pI 14 (some 43) b11A15 HT_ ?_
        refine pI 15 (some 9) b11A16 HT_ ?_
        refine pI 16 (some 10) b11A17 HT_ ?_
        refine done_ (done_of HT_.out (by kernel_rfl)) ?_
        try go_wp2_with (first | ((with_reducible refine gate_dst (N := 56) rfl ?_); refine Kd.R_lit k138 _ 138 ?hg (N := 56) ?hd (xs := ([] : List (S138))) (inner := []) (ok := fun _ => True) (okp := fun _ => True) ?hr ?hp (fun _ hk => hk) trivial (Below.refl _ _) (Nat.le_refl _) (by simp) ?_; (case hd => rfl); (case hg => rfl); (case hr => first | (go_simp; done) | (go_simp; rfl)); (case hp => exact (Reps.none _ _)); intro v327 w42 ho43 hb hg_ hnew_; clear hg_ hnew_; (first | rw [← Ny326.out] at ho43 | (simp only [Int.reduceToNat] at ho43; rw [← Ny326.out] at ho43)); have n0_ := zK (Kd.R_elder' (by (with_reducible repeat (first | apply Kd.RA | apply Kd.RN | apply Kd.RD)); exact HO_6.out) (Kd.R_base ho43) hb); have n1_ := zK (Kd.R_below (by (with_reducible repeat (first | apply Kd.RA | apply Kd.RN | apply Kd.RD)); exact HO_7.out) hb); have n2_ := zK (Kd.R_elder' (by (with_reducible repeat (first | apply Kd.RA | apply Kd.RN | apply Kd.RD)); exact HO316.out) (Kd.R_base ho43) hb); have n3_ := zK (Kd.R_lower (Kd.R_new' (Kd.R_new' ho43 (Kd.R_lt (by (with_reducible repeat (first | apply Kd.RA | apply Kd.RN | apply Kd.RD)); exact HO_6.out))) (Kd.R_lt (by (with_reducible repeat (first | apply Kd.RA | apply Kd.RN | apply Kd.RD)); exact HO316.out))) (bZ (by repeat (first | (with_reducible first | exact HB.out | apply bA | apply bN | apply b1 | refine bS ?_ GE302.out) | exact HB.out)))); have n4_ := zK (bB (g := gb302) (o := .cells #[.int .i64 a1_0, .int .i64 a1_1, .slice (some ad313) l1_2.length c1_2, .int .i64 a1_3] 53 (0, 0)) (by (with_reducible repeat (first | refine kN ?_ _ | refine kD ?_ | refine kA ?_ _)); exact BK302.out) hb); have n5_ := zK (bT (by repeat (first | (with_reducible first | exact HB.out | apply bA | apply bN | apply b1 | refine bS ?_ GE302.out) | exact HB.out)) hb); clear HO_6; clear HO_7; clear HO316; clear BK302; clear HB; have HO_6 := n0_; have HO_7 := n1_; have HO316 := n2_; have HO328 := n3_; have BK302 := n4_; have HB := n5_; clear n0_ n1_ n2_ n3_ n4_ n5_; clear hb ho43) | ((with_reducible refine gate_builtin (b := .append) (xs := #[.tmp 56, .tmp 57]) rfl ?_); at_builtin; refine Kd.R_append_rows k138 (w0 := w) w.heap.size rfl (.tmp 56) (.tmp 57) 51 138 (.agg #[(.int .i64 0), (.int .i64 0), (.int .i64 0), (.int .i64 0), (.int .i64 0)]) 40 rfl Try.underlying51 info138 rfl (by decide) (by omega) v327 y326 l0 _ _ _ (fun k_ => some k_ ≠ (.slice Ao40 x6_1.length co40 : Value).ownBlock ∧ some k_ ≠ (v315 : Value).ownBlock) (fun _ => False) rfl rfl ?aO ?aR (fun _ _ h => h) (fun _ h => h.elim) ?aF ?aB ?aS ?aL ?_; (case aR => repeat (first | exact (Kd.C_below HR0.out HB.out) | (with_reducible refine Kd.CA ?_ _) | (with_reducible refine Kd.CN ?_ _) | (with_reducible refine Kd.CD ?_))); (case aB => exact (by repeat (first | (with_reducible first | exact HB.out | apply bA | apply bN | apply b1 | refine bS ?_ GE302.out) | exact HB.out))); (case aF => exact (fun k_ hk => ⟨Kd.fresh' (Kd.R_lt (by (with_reducible repeat (first | apply Kd.RA | apply Kd.RN | apply Kd.RD)); exact HO_6.out)) k_ hk, Kd.fresh' (Kd.R_lt (by (with_reducible repeat (first | apply Kd.RA | apply Kd.RN | apply Kd.RD)); exact HO316.out)) k_ hk⟩)); (case aO => exact (by (with_reducible repeat (first | apply Kd.RA | apply Kd.RN | apply Kd.RD)); exact Kd.R_mono HO328.out (fun _ hk => ⟨hk.1.2, hk.2⟩))); (case aS => exact (bZ (by repeat (first | (with_reducible first | exact HB.out | apply bA | apply bN | apply b1 | refine bS ?_ GE302.out) | exact HB.out)))); (case aL => have := LMc37.out; omega); intro v330 w44 ho hb hg hat; rw [← Ny329.out] at ho; have n0_ := zK (Kd.R_after (ok := (fun k_ => some k_ ≠ (v315 : Value).ownBlock)) (by (with_reducible repeat (first | apply Kd.RA | apply Kd.RN | apply Kd.RD)); exact Kd.R_mono HO_6.out (fun _ hk => ⟨hk.1.2, hk.2⟩)) hg hat); have n1_ := zK (Kd.R_over' (by (with_reducible repeat (first | apply Kd.RA | apply Kd.RN | apply Kd.RD)); exact HO_7.out) (Kd.R_typed (by (with_reducible repeat (first | apply Kd.RA | apply Kd.RN | apply Kd.RD)); exact HO328.out)) (by decide) hg); have n2_ := zK (blk_grown (g := gb302) (o := .cells #[.int .i64 a1_0, .int .i64 a1_1, .slice (some ad313) l1_2.length c1_2, .int .i64 a1_3] 53 (0, 0)) (by (with_reducible repeat (first | refine kN ?_ _ | refine kD ?_ | refine kA ?_ _)); exact BK302.out) hg (Kd.R_ne HO328.out BK302.out (by decide))); have n3_ := zK (Kd.R_after (ok := (fun k_ => some k_ ≠ (.slice Ao40 x6_1.length co40 : Value).ownBlock)) (by (with_reducible repeat (first | apply Kd.RA | apply Kd.RN | apply Kd.RD)); exact Kd.R_mono HO316.out (fun _ hk => ⟨hk.1.2, hk.2⟩)) hg hat); have n4_ := zK (hb); have n5_ := zK (ho); clear HO_6; clear HO_7; clear BK302; clear HO316; clear HB; clear HO328; have HO_6 := n0_; have HO_7 := n1_; have BK302 := n2_; have HO316 := n3_; have HB := n4_; have HO331 := n5_; clear n0_ n1_ n2_ n3_ n4_ n5_; clear ho hb hg hat))
        go_ret2
        exact ⟨_, by first | rfl | (simp [errW_none, errW_some] <;> rfl) | (simp [*, errW_none, errW_some] <;> rfl), by (with_reducible repeat (first | apply Kd.RA | apply Kd.RN | apply Kd.RD)); exact Kd.R_mono HO331.out (fun _ hk => trivial), by repeat (first | (with_reducible first | exact HB.out | apply bA | apply bN | apply b1 | refine bS ?_ GE302.out) | exact HB.out)⟩
      subst c18
      have H1 : ((spec_l8Has.f k1 t310 (rd l1_2 x8_1)).bind fun t319 => (if t319 = true then (spec_SendParcel.l0 k1 l0 t314 t310 (wrap64 (x8_1 + 1)) a1_0 a1_1 l1_2 a1_3) else ((some (([] : List (S138)) : List (S138))).bind fun y320 => (if y320.length + l0.length < 3518437208883 then (some ((y320 ++ l0), false)) else (none))))) = some (r1, r2) := by rw [if_pos rfl] at H; exact H
      clear H
      have H := H1
      clear H1
      replace H := Option.bind_eq_some_iff.mp H
      obtain ⟨t319, A190, H⟩ := H
      replace H : (if t319 = true then (spec_SendParcel.l0 k1 l0 t314 t310 (wrap64 (x8_1 + 1)) a1_0 a1_1 l1_2 a1_3) else ((some (([] : List (S138)) : List (S138))).bind fun y320 => (if y320.length + l0.length < 3518437208883 then (some ((y320 ++ l0), false)) else (none)))) = some (r1, r2) := H
      have A19 := zK A190
      clear A190
      by_cases c20 : t319 = true
      · subst c20
        have H1 : (spec_SendParcel.l0 k1 l0 t314 t310 (wrap64 (x8_1 + 1)) a1_0 a1_1 l1_2 a1_3) = some (r1, r2) := by rw [if_pos rfl] at H; exact H
        clear H
        have H := H1
        clear H1
        have H' := zK H
        clear H
        have hcz21_0 : wr.cell? ⟨gb302, 0, none⟩ = some (.int .i64 a1_0) := (bc BK302.out 0).trans rfl
        have hcz21_1 : wr.cell? ⟨gb302, 1, none⟩ = some (.int .i64 a1_1) := (bc BK302.out 1).trans rfl
        have hcz21_2 : wr.cell? ⟨gb302, 2, none⟩ = some (.slice A1_2 l1_2.length c1_2) := (bc BK302.out 2).trans rfl
        have hcz21_3 : wr.cell? ⟨gb302, 3, none⟩ = some (.int .i64 a1_3) := (bc BK302.out 3).trans rfl
        have hfz21_0 := bf BK302.out 0
        have hfz21_1 := bf BK302.out 1
        have hfz21_2 := bf BK302.out 2
        have hfz21_3 := bf BK302.out 3
        try go_wp2
        have n0_ := zK (Kd.RD HO_6.out)
        have n1_ := zK (Kd.RD HO_7.out)
        have n2_ := zK (kD BK302.out)
        have n3_ := zK (b1 HB.out)
        clear HO_6
        clear HO_7
        clear BK302
        clear HB
        have HO_6 := n0_
        have HO_7 := n1_
        have BK302 := n2_
        have HB := n3_
        clear n0_ n1_ n2_ n3_
        have p313 : 0 ≤ (x8_1 : Int) := oD (by first | (with_reducible assumption) | assumption)
        have q313 : x8_1 < (l1_2.length : Int) := oD (by first | (with_reducible assumption) | assumption)
        obtain ⟨ad313, e313, hx313_0⟩ := Kd.at_int HR1_2.out x8_1 p313 q313
        have hw313_0 := hx313_0
        cases e313
        replace hx313_0 := (HB.out.cell (bL w hx313_0)).trans hx313_0
        replace p313 := eq_true p313
        replace q313 := eq_true q313
        obtain ⟨Ao23, co23, eo23⟩ := Kd.R_slice HO_6.out
        (first | subst eo23 | (injection eo23 with f1_ f2_ f3_; have f4_ := f1_.symm; have f5_ := f3_.symm; clear f1_ f2_ f3_; subst f4_; subst f5_))
        refine start_ (n := 17) (S := fun w' => w'.cell? ⟨gb302, 0, none⟩ = some (.int .i64 a1_0) ∧ w'.cell? ⟨gb302, 1, none⟩ = some (.int .i64 a1_1) ∧ w'.cell? ⟨gb302, 2, none⟩ = some (.slice (some ad313) l1_2.length c1_2) ∧ w'.cell? ⟨gb302, 3, none⟩ = some (.int .i64 a1_3) ∧ w'.cell? (ad313.add (x8_1).toNat) = some (.int .i64 (rd l1_2 x8_1))) (ds := []) b11A0 (by kernel_rfl) rfl rfl ⟨(bc BK302.out 0).trans rfl, (bc BK302.out 1).trans rfl, (bc BK302.out 2).trans rfl, (bc BK302.out 3).trans rfl, ((HB.out.cell (bL w hw313_0)).trans hw313_0)⟩ (fun hHeld => ?_); refine with_tabW spec_SendParcel.tab8 spec_SendParcel.bits8 (fun HT_ HW_ => ?_)
        generalize wr.drew = w22 at HO_6 HO_7 BK302 HB hx313_0 hHeld ⊢
        refine pI 0 (some 30) b11A1 HT_ ?_
        refine pI 1 (some 31) b11A2 HT_ ?_
        refine pI 3 (some 33) b11A3 HT_ ?_
        refine pI 6 (some 36) b11A4 HT_ ?_
        refine pI 8 (some 38) b11A5 HT_ ?_
        refine tI 2 (some 32) b11A6 HT_ HW_ hHeld rfl rfl (Or.inl ⟨by rfl, by rintro w' ⟨s0, s1, s2, s3, s4⟩; go_simp; with_reducible rfl⟩) ?_
        refine pI 4 (some 34) b11A7 HT_ ?_
        refine tI 5 (some 35) b11A8 HT_ HW_ hHeld rfl rfl (Or.inl ⟨by rfl, by rintro w' ⟨s0, s1, s2, s3, s4⟩; go_simp; with_reducible rfl⟩) ?_
        refine tI 7 (some 37) b11A9 HT_ HW_ hHeld rfl rfl (Or.inl ⟨by rfl, by rintro w' ⟨s0, s1, s2, s3, s4⟩; go_simp; with_reducible rfl⟩) ?_
        refine tI 9 (some 39) b11A10 HT_ HW_ hHeld rfl rfl (Or.inl ⟨by rfl, by rintro w' ⟨s0, s1, s2, s3, s4⟩; go_simp; with_reducible rfl⟩) ?_
        refine pI 10 (some 40) b11A11 HT_ ?_
        refine one_ (i := 11) (N := some 41) b11A12 rfl rfl (one_of HT_.out (by kernel_rfl)) (by decide) (fun K hK => ?_)
        refine goes_ Try.func111 (by kernel_rfl) rfl #[.slice Ao23 x6_1.length co23, .agg #[.int .i64 (rd l1_2 x8_1), .int .i64 2, .int .i64 a1_1, .int .i64 a1_3, .int .i64 0]] (by rfl) rfl rfl (by (try simp only [List.map_toArray, List.map_cons, List.map_nil]); first | done | rfl | (simp only [List.length_drop, List.length_take]; rfl)) ?_
        with_reducible refine (spec_AddHand.calls k1 _ _ x6_1 (rd l1_2 x8_1) 2 a1_1 a1_3 0 t314 true _ ?side1 ?side2 A17.out).mono ?_
        (case side1 => repeat (first | exact (Kd.R_reads' HO_6.out).2.2 | (with_reducible refine Kd.CA ?_ _) | (with_reducible refine Kd.CN ?_ _) | (with_reducible refine Kd.CD ?_)))
        (case side2 => exact (Kd.R_reads' HO_6.out).2.1)
        rintro e w24 ⟨v315, rfl, ho0, hb⟩
        refine ⟨_, rfl, ?_⟩
        have n0_ := zK (Kd.R_elder' (by (with_reducible repeat (first | apply Kd.RA | apply Kd.RN | apply Kd.RD)); exact HO_6.out) (Kd.R_base ho0) hb)
        have n1_ := zK (Kd.R_below (by (with_reducible repeat (first | apply Kd.RA | apply Kd.RN | apply Kd.RD)); exact HO_7.out) hb)
        have n2_ := zK (Kd.R_lower (Kd.R_new' ho0 (Kd.R_lt (by (with_reducible repeat (first | apply Kd.RA | apply Kd.RN | apply Kd.RD)); exact HO_6.out))) (bZ (by repeat (first | (with_reducible first | exact HB.out | apply bA | apply bN | apply b1 | refine bS ?_ GE302.out) | exact HB.out))))
        have n3_ := zK (bB (g := gb302) (o := .cells #[.int .i64 a1_0, .int .i64 a1_1, .slice (some ad313) l1_2.length c1_2, .int .i64 a1_3] 53 (0, 0)) (by (with_reducible repeat (first | refine kN ?_ _ | refine kD ?_ | refine kA ?_ _)); exact BK302.out) hb)
        have n4_ := zK (bT (by repeat (first | (with_reducible first | exact HB.out | apply bA | apply bN | apply b1 | refine bS ?_ GE302.out) | exact HB.out)) hb)
        clear HO_6
        clear HO_7
        clear BK302
        clear HB
        have HO_6 := n0_
        have HO_7 := n1_
        have HO316 := n2_
        have BK302 := n3_
        have HB := n4_
        clear n0_ n1_ n2_ n3_ n4_
        (try clear hb)
        (try clear hb2)
        (try clear hk)
        (try clear hi)
        (try clear ho0)
        refine hK.out _ _ ⟨(bc BK302.out 0).trans rfl, (bc BK302.out 1).trans rfl, (bc BK302.out 2).trans rfl, (bc BK302.out 3).trans rfl, ((HB.out.cell (bL w hw313_0)).trans hw313_0)⟩ (fun hHeld => ?_)
        clear hK K
        refine norm_ (a' := ?_) ?_ ?_
        rotate_left
        · show Act.put _ (some 41) _ = _
          simp only [Act.put, sA, sZ, sS, i64_w, i32_w]
          rfl
        refine pI 12 (some 29) b11A13 HT_ ?_
        refine pI 13 (some 42) b11A14 HT_ ?_
        refine pI 14 (some 43) b11A15 HT_ ?_
        refine pI 15 (some 9) b11A16 HT_ ?_
        refine pI 16 (some 10) b11A17 HT_ ?_
        refine done_ (done_of HT_.out (by kernel_rfl)) ?_
        have hcz25_0 : w24.cell? ⟨gb302, 0, none⟩ = some (.int .i64 a1_0) := (bc BK302.out 0).trans rfl
        have hcz25_1 : w24.cell? ⟨gb302, 1, none⟩ = some (.int .i64 a1_1) := (bc BK302.out 1).trans rfl
        have hcz25_2 : w24.cell? ⟨gb302, 2, none⟩ = some (.slice (some ad313) l1_2.length c1_2) := (bc BK302.out 2).trans rfl
        have hcz25_3 : w24.cell? ⟨gb302, 3, none⟩ = some (.int .i64 a1_3) := (bc BK302.out 3).trans rfl
        have hfz25_0 := bf BK302.out 0
        have hfz25_1 := bf BK302.out 1
        have hfz25_2 := bf BK302.out 2
        have hfz25_3 := bf BK302.out 3
        have p318 : 0 ≤ (x8_1 : Int) := oD (by first | (with_reducible assumption) | assumption)
        have q318 : x8_1 < (l1_2.length : Int) := oD (by first | (with_reducible assumption) | assumption)
        obtain ⟨ad318, e318, hx318_0⟩ := Kd.at_int HR1_2.out x8_1 p318 q318
        obtain rfl : ad313 = ad318 := (by injection e318)
        replace hx318_0 := (HB.out.cell (bL w hx318_0)).trans hx318_0
        replace p318 := eq_true p318
        replace q318 := eq_true q318
        obtain ⟨Ao26, co26, eo26⟩ := Kd.R_slice HO_7.out
        subst eo26
        try go_wp2_with (first | (go_at_call 90; (with_reducible refine (spec_l8Has.calls k1 _ _ t310 (rd l1_2 x8_1) true _ ?side1 ?side2 A19.out).mono ?_); (case side1 => repeat (first | exact (Kd.R_reads' HO_7.out).2.2 | (with_reducible refine Kd.CA ?_ _) | (with_reducible refine Kd.CN ?_ _) | (with_reducible refine Kd.CD ?_))); (case side2 => exact (Kd.R_reads' HO_7.out).2.1); rintro e w' ⟨rfl, ⟨nd, rfl⟩⟩))
        go_roundg k1
        case measure => have := HK1.out; omega
        case rel => exact ⟨(t314), (wrap64 (x8_1 + 1)), (by first | rfl | (simp; done) | (simp [*]; done)), H', ⟨by have := HK1.out; omega⟩, ⟨by (with_reducible repeat (first | apply Kd.RA | apply Kd.RN | apply Kd.RD)); exact Kd.R_mono HO316.out (fun _ hk => trivial)⟩, ⟨by (with_reducible repeat (first | apply Kd.RA | apply Kd.RN | apply Kd.RD)); exact HO_7.out⟩, ⟨by (with_reducible repeat (first | refine kN ?_ _ | refine kD ?_ | refine kA ?_ _)); exact BK302.out⟩, ⟨by repeat (first | (with_reducible first | exact HB.out | apply bA | apply bN | apply b1 | refine bS ?_ GE302.out) | exact HB.out)⟩⟩
      replace c20 := Bool.eq_false_iff.mpr c20
      subst c20
      have H1 : ((some (([] : List (S138)) : List (S138))).bind fun y320 => (if y320.length + l0.length < 3518437208883 then (some ((y320 ++ l0), false)) else (none))) = some (r1, r2) := by rw [if_neg (show ¬ (false = true) by decide)] at H; exact H
      clear H
      have H := H1
      clear H1
      obtain ⟨y320, hy320⟩ : ∃ y_ : List (S138), y_ = (([] : List (S138))) := ⟨_, rfl⟩
      replace H : (if y320.length + l0.length < 3518437208883 then (some ((y320 ++ l0), false)) else (none)) = some (r1, r2) := by first | (rw [hy320]; with_reducible exact H) | (have H2_ := (Option.bind_some _ _).symm.trans H; rw [hy320]; with_reducible exact H2_) | (have H2_ := (Option.bind_some _ _).symm.trans H; with_reducible exact H2_) | with_reducible exact H | (rw [hy320]; exact H) | exact H
      have Ny320 := zK hy320
      clear hy320
      by_cases c27 : y320.length + l0.length < 3518437208883
      rotate_left
      · rw [if_neg c27] at H
        exact absurd H (by simp)
      rw [if_pos c27] at H
      have LMc27 := zK c27
      clear c27
      obtain ⟨y323, hy323⟩ : ∃ y_ : List (S138), y_ = (y320 ++ l0) := ⟨_, rfl⟩
      replace H : (some (y323, false)) = some (r1, r2) := by first | (rw [hy323]; with_reducible exact H) | (have H2_ := (Option.bind_some _ _).symm.trans H; rw [hy323]; with_reducible exact H2_) | (have H2_ := (Option.bind_some _ _).symm.trans H; with_reducible exact H2_) | with_reducible exact H | (rw [hy323]; exact H) | exact H
      have Ny323 := zK hy323
      clear hy323
      simp only [Option.some.injEq, Prod.mk.injEq] at H
      obtain ⟨rfl, rfl⟩ := H
      have hcz28_0 : wr.cell? ⟨gb302, 0, none⟩ = some (.int .i64 a1_0) := (bc BK302.out 0).trans rfl
      have hcz28_1 : wr.cell? ⟨gb302, 1, none⟩ = some (.int .i64 a1_1) := (bc BK302.out 1).trans rfl
      have hcz28_2 : wr.cell? ⟨gb302, 2, none⟩ = some (.slice A1_2 l1_2.length c1_2) := (bc BK302.out 2).trans rfl
      have hcz28_3 : wr.cell? ⟨gb302, 3, none⟩ = some (.int .i64 a1_3) := (bc BK302.out 3).trans rfl
      have hfz28_0 := bf BK302.out 0
      have hfz28_1 := bf BK302.out 1
      have hfz28_2 := bf BK302.out 2
      have hfz28_3 := bf BK302.out 3
      try go_wp2
      have n0_ := zK (Kd.RD HO_6.out)
      have n1_ := zK (Kd.RD HO_7.out)
      have n2_ := zK (kD BK302.out)
      have n3_ := zK (b1 HB.out)
      clear HO_6
      clear HO_7
      clear BK302
      clear HB
      have HO_6 := n0_
      have HO_7 := n1_
      have BK302 := n2_
      have HB := n3_
      clear n0_ n1_ n2_ n3_
      have p313 : 0 ≤ (x8_1 : Int) := oD (by first | (with_reducible assumption) | assumption)
      have q313 : x8_1 < (l1_2.length : Int) := oD (by first | (with_reducible assumption) | assumption)
      obtain ⟨ad313, e313, hx313_0⟩ := Kd.at_int HR1_2.out x8_1 p313 q313
      have hw313_0 := hx313_0
      cases e313
      replace hx313_0 := (HB.out.cell (bL w hx313_0)).trans hx313_0
      replace p313 := eq_true p313
      replace q313 := eq_true q313
      obtain ⟨Ao30, co30, eo30⟩ := Kd.R_slice HO_6.out
      (first | subst eo30 | (injection eo30 with f1_ f2_ f3_; have f4_ := f1_.symm; have f5_ := f3_.symm; clear f1_ f2_ f3_; subst f4_; subst f5_))
      refine start_ (n := 17) (S := fun w' => w'.cell? ⟨gb302, 0, none⟩ = some (.int .i64 a1_0) ∧ w'.cell? ⟨gb302, 1, none⟩ = some (.int .i64 a1_1) ∧ w'.cell? ⟨gb302, 2, none⟩ = some (.slice (some ad313) l1_2.length c1_2) ∧ w'.cell? ⟨gb302, 3, none⟩ = some (.int .i64 a1_3) ∧ w'.cell? (ad313.add (x8_1).toNat) = some (.int .i64 (rd l1_2 x8_1))) (ds := []) b11A0 (by kernel_rfl) rfl rfl ⟨(bc BK302.out 0).trans rfl, (bc BK302.out 1).trans rfl, (bc BK302.out 2).trans rfl, (bc BK302.out 3).trans rfl, ((HB.out.cell (bL w hw313_0)).trans hw313_0)⟩ (fun hHeld => ?_); refine with_tabW spec_SendParcel.tab8 spec_SendParcel.bits8 (fun HT_ HW_ => ?_)
      generalize wr.drew = w29 at HO_6 HO_7 BK302 HB hx313_0 hHeld ⊢
      refine pI 0 (some 30) b11A1 HT_ ?_
      refine pI 1 (some 31) b11A2 HT_ ?_
      refine pI 3 (some 33) b11A3 HT_ ?_
      refine pI 6 (some 36) b11A4 HT_ ?_
      refine pI 8 (some 38) b11A5 HT_ ?_
      refine tI 2 (some 32) b11A6 HT_ HW_ hHeld rfl rfl (Or.inl ⟨by rfl, by rintro w' ⟨s0, s1, s2, s3, s4⟩; go_simp; with_reducible rfl⟩) ?_
      refine pI 4 (some 34) b11A7 HT_ ?_
      refine tI 5 (some 35) b11A8 HT_ HW_ hHeld rfl rfl (Or.inl ⟨by rfl, by rintro w' ⟨s0, s1, s2, s3, s4⟩; go_simp; with_reducible rfl⟩) ?_
      refine tI 7 (some 37) b11A9 HT_ HW_ hHeld rfl rfl (Or.inl ⟨by rfl, by rintro w' ⟨s0, s1, s2, s3, s4⟩; go_simp; with_reducible rfl⟩) ?_
      refine tI 9 (some 39) b11A10 HT_ HW_ hHeld rfl rfl (Or.inl ⟨by rfl, by rintro w' ⟨s0, s1, s2, s3, s4⟩; go_simp; with_reducible rfl⟩) ?_
      refine pI 10 (some 40) b11A11 HT_ ?_
      refine one_ (i := 11) (N := some 41) b11A12 rfl rfl (one_of HT_.out (by kernel_rfl)) (by decide) (fun K hK => ?_)
      refine goes_ Try.func111 (by kernel_rfl) rfl #[.slice Ao30 x6_1.length co30, .agg #[.int .i64 (rd l1_2 x8_1), .int .i64 2, .int .i64 a1_1, .int .i64 a1_3, .int .i64 0]] (by rfl) rfl rfl (by (try simp only [List.map_toArray, List.map_cons, List.map_nil]); first | done | rfl | (simp only [List.length_drop, List.length_take]; rfl)) ?_
      with_reducible refine (spec_AddHand.calls k1 _ _ x6_1 (rd l1_2 x8_1) 2 a1_1 a1_3 0 t314 true _ ?side1 ?side2 A17.out).mono ?_
      (case side1 => repeat (first | exact (Kd.R_reads' HO_6.out).2.2 | (with_reducible refine Kd.CA ?_ _) | (with_reducible refine Kd.CN ?_ _) | (with_reducible refine Kd.CD ?_)))
      (case side2 => exact (Kd.R_reads' HO_6.out).2.1)
      rintro e w31 ⟨v315, rfl, ho0, hb⟩
      refine ⟨_, rfl, ?_⟩
      have n0_ := zK (Kd.R_elder' (by (with_reducible repeat (first | apply Kd.RA | apply Kd.RN | apply Kd.RD)); exact HO_6.out) (Kd.R_base ho0) hb)
      have n1_ := zK (Kd.R_below (by (with_reducible repeat (first | apply Kd.RA | apply Kd.RN | apply Kd.RD)); exact HO_7.out) hb)
      have n2_ := zK (Kd.R_lower (Kd.R_new' ho0 (Kd.R_lt (by (with_reducible repeat (first | apply Kd.RA | apply Kd.RN | apply Kd.RD)); exact HO_6.out))) (bZ (by repeat (first | (with_reducible first | exact HB.out | apply bA | apply bN | apply b1 | refine bS ?_ GE302.out) | exact HB.out))))
      have n3_ := zK (bB (g := gb302) (o := .cells #[.int .i64 a1_0, .int .i64 a1_1, .slice (some ad313) l1_2.length c1_2, .int .i64 a1_3] 53 (0, 0)) (by (with_reducible repeat (first | refine kN ?_ _ | refine kD ?_ | refine kA ?_ _)); exact BK302.out) hb)
      have n4_ := zK (bT (by repeat (first | (with_reducible first | exact HB.out | apply bA | apply bN | apply b1 | refine bS ?_ GE302.out) | exact HB.out)) hb)
      clear HO_6
      clear HO_7
      clear BK302
      clear HB
      have HO_6 := n0_
      have HO_7 := n1_
      have HO316 := n2_
      have BK302 := n3_
      have HB := n4_
      clear n0_ n1_ n2_ n3_ n4_
      (try clear hb)
      (try clear hb2)
      (try clear hk)
      (try clear hi)
      (try clear ho0)
      refine hK.out _ _ ⟨(bc BK302.out 0).trans rfl, (bc BK302.out 1).trans rfl, (bc BK302.out 2).trans rfl, (bc BK302.out 3).trans rfl, ((HB.out.cell (bL w hw313_0)).trans hw313_0)⟩ (fun hHeld => ?_)
      clear hK K
      refine norm_ (a' := ?_) ?_ ?_
      rotate_left
      · show Act.put _ (some 41) _ = _
        simp only [Act.put, sA, sZ, sS, i64_w, i32_w]
        rfl
      refine pI 12 (some 29) b11A13 HT_ ?_
      refine pI 13 (some 42) b11A14 HT_ ?_
      refine pI 14 (some 43) b11A15 HT_ ?_
      refine pI 15 (some 9) b11A16 HT_ ?_
      refine pI 16 (some 10) b11A17 HT_ ?_
      refine done_ (done_of HT_.out (by kernel_rfl)) ?_
      have hcz32_0 : w31.cell? ⟨gb302, 0, none⟩ = some (.int .i64 a1_0) := (bc BK302.out 0).trans rfl
      have hcz32_1 : w31.cell? ⟨gb302, 1, none⟩ = some (.int .i64 a1_1) := (bc BK302.out 1).trans rfl
      have hcz32_2 : w31.cell? ⟨gb302, 2, none⟩ = some (.slice (some ad313) l1_2.length c1_2) := (bc BK302.out 2).trans rfl
      have hcz32_3 : w31.cell? ⟨gb302, 3, none⟩ = some (.int .i64 a1_3) := (bc BK302.out 3).trans rfl
      have hfz32_0 := bf BK302.out 0
      have hfz32_1 := bf BK302.out 1
      have hfz32_2 := bf BK302.out 2
      have hfz32_3 := bf BK302.out 3
      have p318 : 0 ≤ (x8_1 : Int) := oD (by first | (with_reducible assumption) | assumption)
      have q318 : x8_1 < (l1_2.length : Int) := oD (by first | (with_reducible assumption) | assumption)
      obtain ⟨ad318, e318, hx318_0⟩ := Kd.at_int HR1_2.out x8_1 p318 q318
      obtain rfl : ad313 = ad318 := (by injection e318)
      replace hx318_0 := (HB.out.cell (bL w hx318_0)).trans hx318_0
      replace p318 := eq_true p318
      replace q318 := eq_true q318
      obtain ⟨Ao33, co33, eo33⟩ := Kd.R_slice HO_7.out
      subst eo33
      try go_wp2_with (first | (go_at_call 90; (with_reducible refine (spec_l8Has.calls k1 _ _ t310 (rd l1_2 x8_1) false _ ?side1 ?side2 A19.out).mono ?_); (case side1 => repeat (first | exact (Kd.R_reads' HO_7.out).2.2 | (with_reducible refine Kd.CA ?_ _) | (with_reducible refine Kd.CN ?_ _) | (with_reducible refine Kd.CD ?_))); (case side2 => exact (Kd.R_reads' HO_7.out).2.1); rintro e w' ⟨rfl, ⟨nd, rfl⟩⟩) | ((with_reducible refine gate_dst (N := 56) rfl ?_); refine Kd.R_lit k138 _ 138 ?hg (N := 56) ?hd (xs := ([] : List (S138))) (inner := []) (ok := fun _ => True) (okp := fun _ => True) ?hr ?hp (fun _ hk => hk) trivial (Below.refl _ _) (Nat.le_refl _) (by simp) ?_; (case hd => rfl); (case hg => rfl); (case hr => first | (go_simp; done) | (go_simp; rfl)); (case hp => exact (Reps.none _ _)); intro v321 w34 ho35 hb hg_ hnew_; clear hg_ hnew_; (first | rw [← Ny320.out] at ho35 | (simp only [Int.reduceToNat] at ho35; rw [← Ny320.out] at ho35)); have n0_ := zK (Kd.R_elder' (by (with_reducible repeat (first | apply Kd.RA | apply Kd.RN | apply Kd.RD)); exact HO_6.out) (Kd.R_base ho35) hb); have n1_ := zK (Kd.R_below (by (with_reducible repeat (first | apply Kd.RA | apply Kd.RN | apply Kd.RD)); exact HO_7.out) hb); have n2_ := zK (Kd.R_elder' (by (with_reducible repeat (first | apply Kd.RA | apply Kd.RN | apply Kd.RD)); exact HO316.out) (Kd.R_base ho35) hb); have n3_ := zK (Kd.R_lower (Kd.R_new' (Kd.R_new' ho35 (Kd.R_lt (by (with_reducible repeat (first | apply Kd.RA | apply Kd.RN | apply Kd.RD)); exact HO_6.out))) (Kd.R_lt (by (with_reducible repeat (first | apply Kd.RA | apply Kd.RN | apply Kd.RD)); exact HO316.out))) (bZ (by repeat (first | (with_reducible first | exact HB.out | apply bA | apply bN | apply b1 | refine bS ?_ GE302.out) | exact HB.out)))); have n4_ := zK (bB (g := gb302) (o := .cells #[.int .i64 a1_0, .int .i64 a1_1, .slice (some ad313) l1_2.length c1_2, .int .i64 a1_3] 53 (0, 0)) (by (with_reducible repeat (first | refine kN ?_ _ | refine kD ?_ | refine kA ?_ _)); exact BK302.out) hb); have n5_ := zK (bT (by repeat (first | (with_reducible first | exact HB.out | apply bA | apply bN | apply b1 | refine bS ?_ GE302.out) | exact HB.out)) hb); clear HO_6; clear HO_7; clear HO316; clear BK302; clear HB; have HO_6 := n0_; have HO_7 := n1_; have HO316 := n2_; have HO322 := n3_; have BK302 := n4_; have HB := n5_; clear n0_ n1_ n2_ n3_ n4_ n5_; clear hb ho35) | ((with_reducible refine gate_builtin (b := .append) (xs := #[.tmp 56, .tmp 57]) rfl ?_); at_builtin; refine Kd.R_append_rows k138 (w0 := w) w.heap.size rfl (.tmp 56) (.tmp 57) 51 138 (.agg #[(.int .i64 0), (.int .i64 0), (.int .i64 0), (.int .i64 0), (.int .i64 0)]) 40 rfl Try.underlying51 info138 rfl (by decide) (by omega) v321 y320 l0 _ _ _ (fun k_ => some k_ ≠ (.slice Ao30 x6_1.length co30 : Value).ownBlock ∧ some k_ ≠ (v315 : Value).ownBlock) (fun _ => False) rfl rfl ?aO ?aR (fun _ _ h => h) (fun _ h => h.elim) ?aF ?aB ?aS ?aL ?_; (case aR => repeat (first | exact (Kd.C_below HR0.out HB.out) | (with_reducible refine Kd.CA ?_ _) | (with_reducible refine Kd.CN ?_ _) | (with_reducible refine Kd.CD ?_))); (case aB => exact (by repeat (first | (with_reducible first | exact HB.out | apply bA | apply bN | apply b1 | refine bS ?_ GE302.out) | exact HB.out))); (case aF => exact (fun k_ hk => ⟨Kd.fresh' (Kd.R_lt (by (with_reducible repeat (first | apply Kd.RA | apply Kd.RN | apply Kd.RD)); exact HO_6.out)) k_ hk, Kd.fresh' (Kd.R_lt (by (with_reducible repeat (first | apply Kd.RA | apply Kd.RN | apply Kd.RD)); exact HO316.out)) k_ hk⟩)); (case aO => exact (by (with_reducible repeat (first | apply Kd.RA | apply Kd.RN | apply Kd.RD)); exact Kd.R_mono HO322.out (fun _ hk => ⟨hk.1.2, hk.2⟩))); (case aS => exact (bZ (by repeat (first | (with_reducible first | exact HB.out | apply bA | apply bN | apply b1 | refine bS ?_ GE302.out) | exact HB.out)))); (case aL => have := LMc27.out; omega); intro v324 w36 ho hb hg hat; rw [← Ny323.out] at ho; have n0_ := zK (Kd.R_after (ok := (fun k_ => some k_ ≠ (v315 : Value).ownBlock)) (by (with_reducible repeat (first | apply Kd.RA | apply Kd.RN | apply Kd.RD)); exact Kd.R_mono HO_6.out (fun _ hk => ⟨hk.1.2, hk.2⟩)) hg hat); have n1_ := zK (Kd.R_over' (by (with_reducible repeat (first | apply Kd.RA | apply Kd.RN | apply Kd.RD)); exact HO_7.out) (Kd.R_typed (by (with_reducible repeat (first | apply Kd.RA | apply Kd.RN | apply Kd.RD)); exact HO322.out)) (by decide) hg); have n2_ := zK (blk_grown (g := gb302) (o := .cells #[.int .i64 a1_0, .int .i64 a1_1, .slice (some ad313) l1_2.length c1_2, .int .i64 a1_3] 53 (0, 0)) (by (with_reducible repeat (first | refine kN ?_ _ | refine kD ?_ | refine kA ?_ _)); exact BK302.out) hg (Kd.R_ne HO322.out BK302.out (by decide))); have n3_ := zK (Kd.R_after (ok := (fun k_ => some k_ ≠ (.slice Ao30 x6_1.length co30 : Value).ownBlock)) (by (with_reducible repeat (first | apply Kd.RA | apply Kd.RN | apply Kd.RD)); exact Kd.R_mono HO316.out (fun _ hk => ⟨hk.1.2, hk.2⟩)) hg hat); have n4_ := zK (hb); have n5_ := zK (ho); clear HO_6; clear HO_7; clear BK302; clear HO316; clear HB; clear HO322; have HO_6 := n0_; have HO_7 := n1_; have BK302 := n2_; have HO316 := n3_; have HB := n4_; have HO325 := n5_; clear n0_ n1_ n2_ n3_ n4_ n5_; clear ho hb hg hat))
      go_ret2
      exact ⟨_, by first | rfl | (simp [errW_none, errW_some] <;> rfl) | (simp [*, errW_none, errW_some] <;> rfl), by (with_reducible repeat (first | apply Kd.RA | apply Kd.RN | apply Kd.RD)); exact Kd.R_mono HO325.out (fun _ hk => trivial), by repeat (first | (with_reducible first | exact HB.out | apply bA | apply bN | apply b1 | refine bS ?_ GE302.out) | exact HB.out)⟩
/-! ### laws_toHand: function 112 -/
def laws_toHand.f (a0_0 : Int) (a0_1 : Int) (a0_2 : Int) (a0_3 : Int) (a0_4 : Int) : Option (Int × Int × Int × Int × Int) := some (a0_0, a0_1, a0_2, a0_3, a0_4)
set_option maxHeartbeats 8000000 in
set_option maxRecDepth 100000 in
theorem laws_toHand.calls (a0_0 : Int) (a0_1 : Int) (a0_2 : Int) (a0_3 : Int) (a0_4 : Int) (r1 : Int) (r2 : Int) (r3 : Int) (r4 : Int) (r5 : Int) (w : World) (h : laws_toHand.f a0_0 a0_1 a0_2 a0_3 a0_4 = some (r1, r2, r3, r4, r5)) :
    Calls Try.prog 112 #[.agg #[.int .i64 a0_0, .int .i64 a0_1, .int .i64 a0_2, .int .i64 a0_3, .int .i64 a0_4]] w fun e w' => e = .returned (.agg #[.int .i64 r1, .int .i64 r2, .int .i64 r3, .int .i64 r4, .int .i64 r5]) ∧ Below w.heap.size w w' := by
  have hu145 := Try.underlying145
  have hu138 := Try.underlying138
  have HB := zK (Below.refl w.heap.size w)
  have H : (some (a0_0, a0_1, a0_2, a0_3, a0_4)) = some (r1, r2, r3, r4, r5) := h
  clear h
  simp only [Option.some.injEq, Prod.mk.injEq] at H
  obtain ⟨rfl, rfl, rfl, rfl, rfl⟩ := H
  go_enter Try.func112, Try.ntmps112
  go_wp2_with (first | ((with_reducible refine gate_dst (N := 1) rfl ?_); refine box_event ?hg (N := 1) ?hd (cs := #[.int .i64 a0_0, .int .i64 a0_1, .int .i64 a0_2, .int .i64 a0_3, .int .i64 a0_4]) (t := 145) ?hr ?_; (case hd => rfl); (case hg => rfl); (case hr => first | (go_simp; done) | (go_simp; rfl)); intro gb332 hg w2 hbox hb; have n0_ := zK (bT (by repeat (first | (with_reducible first | exact HB.out | apply bA | apply bN | apply b1) | exact HB.out)) hb); have n1_ := zK (hbox); have n2_ := zK ((by rw [hg]; exact (bZ (by repeat (first | (with_reducible first | exact HB.out | apply bA | apply bN | apply b1) | exact HB.out))) : w.heap.size ≤ gb332)); have n3_ := zK ((by rw [hg]; exact (bZ (by repeat (first | (with_reducible first | exact HB.out | apply bA | apply bN | apply b1) | exact HB.out))) : w.heap.size ≤ gb332)); clear HB; have HB := n0_; have BK332 := n1_; have GW332 := n2_; have GE332 := n3_; clear n0_ n1_ n2_ n3_; clear hb hbox hg) | ((with_reducible refine gate_dst (N := 2) rfl ?_); refine box_event ?hg (N := 2) ?hd (cs := #[.int .i64 0, .int .i64 0, .int .i64 0, .int .i64 0, .int .i64 0]) (t := 138) ?hr ?_; (case hd => rfl); (case hg => rfl); (case hr => first | (go_simp; done) | (go_simp; rfl)); intro gb333 hg w3 hbox hb; have n0_ := zK (bB (g := gb332) (o := .cells #[.int .i64 a0_0, .int .i64 a0_1, .int .i64 a0_2, .int .i64 a0_3, .int .i64 a0_4] 145 (0, 0)) (by (with_reducible repeat (first | refine kN ?_ _ | refine kD ?_ | refine kA ?_ _)); exact BK332.out) hb); have n1_ := zK (bT (by repeat (first | (with_reducible first | exact HB.out | apply bA | apply bN | apply b1 | refine bS ?_ GE332.out) | exact HB.out)) hb); have n2_ := zK (hbox); have n3_ := zK ((by rw [hg]; exact (bZ (by repeat (first | (with_reducible first | exact HB.out | apply bA | apply bN | apply b1 | refine bS ?_ GE332.out) | exact HB.out))) : w.heap.size ≤ gb333)); have n4_ := zK ((by rw [hg]; exact (bZ (by repeat (first | (with_reducible first | exact HB.out | apply bA | apply bN | apply b1 | refine bS ?_ GE332.out) | exact HB.out))) : w.heap.size ≤ gb333)); have n5_ := zK ((by rw [hg]; exact Nat.ne_of_lt (blk_lt (g := gb332) (o := .cells #[.int .i64 a0_0, .int .i64 a0_1, .int .i64 a0_2, .int .i64 a0_3, .int .i64 a0_4] 145 (0, 0)) (by (with_reducible repeat (first | refine kN ?_ _ | refine kD ?_ | refine kA ?_ _)); exact BK332.out)) : gb332 ≠ gb333)); have n6_ := zK ((by rw [hg]; exact Nat.ne_of_gt (blk_lt (g := gb332) (o := .cells #[.int .i64 a0_0, .int .i64 a0_1, .int .i64 a0_2, .int .i64 a0_3, .int .i64 a0_4] 145 (0, 0)) (by (with_reducible repeat (first | refine kN ?_ _ | refine kD ?_ | refine kA ?_ _)); exact BK332.out)) : gb333 ≠ gb332)); clear BK332; clear HB; have BK332 := n0_; have HB := n1_; have BK333 := n2_; have GW333 := n3_; have GE333 := n4_; have NB332_333 := n5_; have NB333_332 := n6_; clear n0_ n1_ n2_ n3_ n4_ n5_ n6_; clear hb hbox hg) | ((with_reducible refine gate_dst (N := 3) rfl ?_); refine box_event ?hg (N := 3) ?hd (cs := #[.int .i64 0, .int .i64 0, .int .i64 0, .int .i64 0, .int .i64 0]) (t := 138) ?hr ?_; (case hd => rfl); (case hg => rfl); (case hr => first | (go_simp; done) | (go_simp; rfl)); intro gb334 hg w4 hbox hb; have n0_ := zK (bB (g := gb332) (o := .cells #[.int .i64 a0_0, .int .i64 a0_1, .int .i64 a0_2, .int .i64 a0_3, .int .i64 a0_4] 145 (0, 0)) (by (with_reducible repeat (first | refine kN ?_ _ | refine kD ?_ | refine kA ?_ _)); exact BK332.out) hb); have n1_ := zK (bB (g := gb333) (o := .cells #[.int .i64 0, .int .i64 0, .int .i64 0, .int .i64 0, .int .i64 0] 138 (0, 0)) (by (with_reducible repeat (first | refine kN ?_ _ | refine kD ?_ | refine kA ?_ _)); exact BK333.out) hb); have n2_ := zK (bT (by repeat (first | (with_reducible first | exact HB.out | apply bA | apply bN | apply b1 | refine bS ?_ GE332.out | refine bS ?_ GE333.out) | exact HB.out)) hb); have n3_ := zK (hbox); have n4_ := zK ((by rw [hg]; exact (bZ (by repeat (first | (with_reducible first | exact HB.out | apply bA | apply bN | apply b1 | refine bS ?_ GE332.out | refine bS ?_ GE333.out) | exact HB.out))) : w.heap.size ≤ gb334)); have n5_ := zK ((by rw [hg]; exact (bZ (by repeat (first | (with_reducible first | exact HB.out | apply bA | apply bN | apply b1 | refine bS ?_ GE332.out | refine bS ?_ GE333.out) | exact HB.out))) : w.heap.size ≤ gb334)); have n6_ := zK ((by rw [hg]; exact Nat.ne_of_lt (blk_lt (g := gb332) (o := .cells #[.int .i64 a0_0, .int .i64 a0_1, .int .i64 a0_2, .int .i64 a0_3, .int .i64 a0_4] 145 (0, 0)) (by (with_reducible repeat (first | refine kN ?_ _ | refine kD ?_ | refine kA ?_ _)); exact BK332.out)) : gb332 ≠ gb334)); have n7_ := zK ((by rw [hg]; exact Nat.ne_of_gt (blk_lt (g := gb332) (o := .cells #[.int .i64 a0_0, .int .i64 a0_1, .int .i64 a0_2, .int .i64 a0_3, .int .i64 a0_4] 145 (0, 0)) (by (with_reducible repeat (first | refine kN ?_ _ | refine kD ?_ | refine kA ?_ _)); exact BK332.out)) : gb334 ≠ gb332)); have n8_ := zK ((by rw [hg]; exact Nat.ne_of_lt (blk_lt (g := gb333) (o := .cells #[.int .i64 0, .int .i64 0, .int .i64 0, .int .i64 0, .int .i64 0] 138 (0, 0)) (by (with_reducible repeat (first | refine kN ?_ _ | refine kD ?_ | refine kA ?_ _)); exact BK333.out)) : gb333 ≠ gb334)); have n9_ := zK ((by rw [hg]; exact Nat.ne_of_gt (blk_lt (g := gb333) (o := .cells #[.int .i64 0, .int .i64 0, .int .i64 0, .int .i64 0, .int .i64 0] 138 (0, 0)) (by (with_reducible repeat (first | refine kN ?_ _ | refine kD ?_ | refine kA ?_ _)); exact BK333.out)) : gb334 ≠ gb333)); clear BK332; clear BK333; clear HB; have BK332 := n0_; have BK333 := n1_; have HB := n2_; have BK334 := n3_; have GW334 := n4_; have GE334 := n5_; have NB332_334 := n6_; have NB334_332 := n7_; have NB333_334 := n8_; have NB334_333 := n9_; clear n0_ n1_ n2_ n3_ n4_ n5_ n6_ n7_ n8_ n9_; clear hb hbox hg; have hnb5 := NB332_333.out; have hnc5 := NB333_332.out; have hnb6 := NB332_334.out; have hnc6 := NB334_332.out; have hcz7_0 : w4.cell? ⟨gb332, 0, none⟩ = some (.int .i64 a0_0) := (bc BK332.out 0).trans rfl; have hcz7_1 : w4.cell? ⟨gb332, 1, none⟩ = some (.int .i64 a0_1) := (bc BK332.out 1).trans rfl; have hcz7_2 : w4.cell? ⟨gb332, 2, none⟩ = some (.int .i64 a0_2) := (bc BK332.out 2).trans rfl; have hcz7_3 : w4.cell? ⟨gb332, 3, none⟩ = some (.int .i64 a0_3) := (bc BK332.out 3).trans rfl; have hcz7_4 : w4.cell? ⟨gb332, 4, none⟩ = some (.int .i64 a0_4) := (bc BK332.out 4).trans rfl; have hfz7_0 := bf BK332.out 0; have hfz7_1 := bf BK332.out 1; have hfz7_2 := bf BK332.out 2; have hfz7_3 := bf BK332.out 3; have hfz7_4 := bf BK332.out 4; have hnb8 := NB334_333.out; have hnc8 := NB333_334.out; have hcz9_0 : w4.cell? ⟨gb334, 0, none⟩ = some (.int .i64 0) := (bc BK334.out 0).trans rfl; have hcz9_1 : w4.cell? ⟨gb334, 1, none⟩ = some (.int .i64 0) := (bc BK334.out 1).trans rfl; have hcz9_2 : w4.cell? ⟨gb334, 2, none⟩ = some (.int .i64 0) := (bc BK334.out 2).trans rfl; have hcz9_3 : w4.cell? ⟨gb334, 3, none⟩ = some (.int .i64 0) := (bc BK334.out 3).trans rfl; have hcz9_4 : w4.cell? ⟨gb334, 4, none⟩ = some (.int .i64 0) := (bc BK334.out 4).trans rfl; have hfz9_0 := bf BK334.out 0; have hfz9_1 := bf BK334.out 1; have hfz9_2 := bf BK334.out 2; have hfz9_3 := bf BK334.out 3; have hfz9_4 := bf BK334.out 4; have hcz10_0 : w4.cell? ⟨gb333, 0, none⟩ = some (.int .i64 0) := (bc BK333.out 0).trans rfl; have hcz10_1 : w4.cell? ⟨gb333, 1, none⟩ = some (.int .i64 0) := (bc BK333.out 1).trans rfl; have hcz10_2 : w4.cell? ⟨gb333, 2, none⟩ = some (.int .i64 0) := (bc BK333.out 2).trans rfl; have hcz10_3 : w4.cell? ⟨gb333, 3, none⟩ = some (.int .i64 0) := (bc BK333.out 3).trans rfl; have hcz10_4 : w4.cell? ⟨gb333, 4, none⟩ = some (.int .i64 0) := (bc BK333.out 4).trans rfl; have hfz10_0 := bf BK333.out 0; have hfz10_1 := bf BK333.out 1; have hfz10_2 := bf BK333.out 2; have hfz10_3 := bf BK333.out 3; have hfz10_4 := bf BK333.out 4))
  refine bodyPost_ret (results_cell_row rfl _ _ gb333 138 #[.int .i64 a0_0, .int .i64 a0_1, .int .i64 a0_2, .int .i64 a0_3, .int .i64 a0_4] (0, 0) _ rfl (by (with_reducible repeat (first | refine kN ?_ _ | refine kD ?_ | refine kA ?_ _)); refine blk_put (cs := #[.int .i64 a0_0, .int .i64 a0_1, .int .i64 a0_2, .int .i64 a0_3, .int .i64 0]) ?_ 4 _ rfl; (with_reducible repeat (first | refine kN ?_ _ | refine kD ?_ | refine kA ?_ _)); refine blk_put (cs := #[.int .i64 a0_0, .int .i64 a0_1, .int .i64 a0_2, .int .i64 0, .int .i64 0]) ?_ 3 _ rfl; (with_reducible repeat (first | refine kN ?_ _ | refine kD ?_ | refine kA ?_ _)); refine blk_put (cs := #[.int .i64 a0_0, .int .i64 a0_1, .int .i64 0, .int .i64 0, .int .i64 0]) ?_ 2 _ rfl; (with_reducible repeat (first | refine kN ?_ _ | refine kD ?_ | refine kA ?_ _)); refine blk_put (cs := #[.int .i64 a0_0, .int .i64 0, .int .i64 0, .int .i64 0, .int .i64 0]) ?_ 1 _ rfl; (with_reducible repeat (first | refine kN ?_ _ | refine kD ?_ | refine kA ?_ _)); refine blk_put (cs := #[.int .i64 0, .int .i64 0, .int .i64 0, .int .i64 0, .int .i64 0]) ?_ 0 _ rfl; (with_reducible repeat (first | refine kN ?_ _ | refine kD ?_ | refine kA ?_ _)); refine blk_far ?_ NB333_334.out _; (with_reducible repeat (first | refine kN ?_ _ | refine kD ?_ | refine kA ?_ _)); refine blk_far ?_ NB333_334.out _; (with_reducible repeat (first | refine kN ?_ _ | refine kD ?_ | refine kA ?_ _)); refine blk_far ?_ NB333_334.out _; (with_reducible repeat (first | refine kN ?_ _ | refine kD ?_ | refine kA ?_ _)); refine blk_far ?_ NB333_334.out _; (with_reducible repeat (first | refine kN ?_ _ | refine kD ?_ | refine kA ?_ _)); refine blk_far ?_ NB333_334.out _; (with_reducible repeat (first | refine kN ?_ _ | refine kD ?_ | refine kA ?_ _)); exact BK333.out) Try.underlying138 rfl (by kernel_rfl)) rfl ?_
  exact ⟨by first | rfl | (simp [errW_none, errW_some] <;> rfl) | (simp [*, errW_none, errW_some] <;> rfl), by repeat (first | (with_reducible first | exact HB.out | apply bA | apply bN | apply b1 | refine bS ?_ GE332.out | refine bS ?_ GE333.out | refine bS ?_ GE334.out) | exact HB.out)⟩

end Go.Proofs.Ytejhjenlodclpaa.PFnExactSendParcel
