/- Walks of functions that FnExactSendAll reaches: written by a tool of the kit for this claim, then shortened by a program of ours. -/
import Derived.Test.YtejhjenlodclpaaPFnExactSendAllx0
import Derived.Test.YtejhjenlodclpaaPFnExactSendAllx7
import Derived.Test.YtejhjenlodclpaaPFnExactSendAllx11
import Derived.Test.YtejhjenlodclpaaPFnExactSendAllx12
/- narrow -/
namespace Go.Proofs.Ytejhjenlodclpaa.PFnExactSendAll
open Go.RowKit Go.Proofs.YtejhjenlodclpaaW.PrintWords Go.Proofs.YtejhjenlodclpaaW.PrintLast Go.Proofs.YtejhjenlodclpaaW.PrintMore
attribute [local go_sem] max2_int min2_int max_two min_two max_three min_three max_four min_four   -- for this text's walks alone
set_option linter.unusedVariables false
set_option linter.unusedSimpArgs false

abbrev b13A0 : Array Bool := #[bo, bo, bo, bo, bo, bo, bo, bo, bo, bo, bo, bo, bo, bo, bo, bo, bo]
abbrev b13A1 : Array Bool := #[bi, bo, bo, bo, bo, bo, bo, bo, bo, bo, bo, bo, bo, bo, bo, bo, bo]
abbrev b13A2 : Array Bool := #[bi, bi, bo, bo, bo, bo, bo, bo, bo, bo, bo, bo, bo, bo, bo, bo, bo]
abbrev b13A3 : Array Bool := #[bi, bi, bo, bi, bo, bo, bo, bo, bo, bo, bo, bo, bo, bo, bo, bo, bo]
abbrev b13A4 : Array Bool := #[bi, bi, bo, bi, bo, bo, bi, bo, bo, bo, bo, bo, bo, bo, bo, bo, bo]
abbrev b13A5 : Array Bool := #[bi, bi, bo, bi, bo, bo, bi, bo, bi, bo, bo, bo, bo, bo, bo, bo, bo]
abbrev b13A6 : Array Bool := #[bi, bi, bi, bi, bo, bo, bi, bo, bi, bo, bo, bo, bo, bo, bo, bo, bo]
abbrev b13A7 : Array Bool := #[bi, bi, bi, bi, bi, bo, bi, bo, bi, bo, bo, bo, bo, bo, bo, bo, bo]
abbrev b13A8 : Array Bool := #[bi, bi, bi, bi, bi, bi, bi, bo, bi, bo, bo, bo, bo, bo, bo, bo, bo]
abbrev b13A9 : Array Bool := #[bi, bi, bi, bi, bi, bi, bi, bi, bi, bo, bo, bo, bo, bo, bo, bo, bo]
abbrev b13A10 : Array Bool := #[bi, bi, bi, bi, bi, bi, bi, bi, bi, bi, bo, bo, bo, bo, bo, bo, bo]
abbrev b13A11 : Array Bool := #[bi, bi, bi, bi, bi, bi, bi, bi, bi, bi, bi, bo, bo, bo, bo, bo, bo]
abbrev b13A12 : Array Bool := #[bi, bi, bi, bi, bi, bi, bi, bi, bi, bi, bi, bi, bo, bo, bo, bo, bo]
abbrev b13A13 : Array Bool := #[bi, bi, bi, bi, bi, bi, bi, bi, bi, bi, bi, bi, bi, bo, bo, bo, bo]
abbrev b13A14 : Array Bool := #[bi, bi, bi, bi, bi, bi, bi, bi, bi, bi, bi, bi, bi, bi, bo, bo, bo]
abbrev b13A15 : Array Bool := #[bi, bi, bi, bi, bi, bi, bi, bi, bi, bi, bi, bi, bi, bi, bi, bo, bo]
abbrev b13A16 : Array Bool := #[bi, bi, bi, bi, bi, bi, bi, bi, bi, bi, bi, bi, bi, bi, bi, bi, bo]
abbrev b13A17 : Array Bool := #[bi, bi, bi, bi, bi, bi, bi, bi, bi, bi, bi, bi, bi, bi, bi, bi, bi]
/-! ### spec_SendParcel: function 49 -/
def spec_SendParcel.l0 : Nat → List (S138) → List (S138) → List Int → Int → Int → Int → List Int → Int → Option ((List (S138)) × Bool)
 | 0, _, _, _, _, _, _, _, _ => none
 | k + 1, x0, x6, x7, x8, x342000, x342001, x342002, x342003 => if x8 < (x342002.length : Int) then (if 0 ≤ x8 then ((spec_AddHand.f k x6 (rd x342002 x8) 2 x342001 x342003 0).bind fun bt353 => (if bt353.2 = true then ((spec_l8Has.f k x7 (rd x342002 x8)).bind fun t358 => (if t358 = true then (spec_SendParcel.l0 k x0 bt353.1 x7 (wrap64 (x8 + 1)) x342000 x342001 x342002 x342003) else ((some (([] : List (S138)) : List (S138))).bind fun y359 => (if y359.length + x0.length < 3518437208883 then (some ((y359 ++ x0), false)) else (none))))) else ((some (([] : List (S138)) : List (S138))).bind fun y365 => (if y365.length + x0.length < 3518437208883 then (some ((y365 ++ x0), false)) else (none))))) else (none)) else (some (x6, true))
def spec_SendParcel.f (k : Nat) (l0 : List (S138)) (a1_0 : Int) (a1_1 : Int) (l1_2 : List Int) (a1_3 : Int) : Option ((List (S138)) × Bool) := (some (([] : List (S138)) : List (S138))).bind fun y342 => (if y342.length + l0.length < 3518437208883 then ((some (y342 ++ l0 : List (S138))).bind fun y345 => ((spec_IsParcel.f k a1_0 a1_1 l1_2 a1_3).bind fun t348 => (if t348 = true then ((spec_InHouse.f k l0 a1_0).bind fun t349 => (spec_SendParcel.l0 k l0 y345 t349 0 a1_0 a1_1 l1_2 a1_3)) else (some (y345, false))))) else (none))
def spec_SendParcel.T8 : Bool × List (List Nat × List Nat) := (true, [([], []), ([], []), ([1], [1]), ([], []), ([2, 3], [2, 3]), ([4], [4]), ([], []), ([6], [6]), ([], []), ([8], [8]), ([5, 7, 9], [5, 7, 9]), ([0, 10], [0, 10]), ([11], [11]), ([12], [12]), ([12], [12]), ([13, 11, 0, 1, 2, 3, 4, 5, 6, 7, 8, 9, 10, 11, 12, 13], [13]), ([14, 15, 0, 1, 2, 3, 4, 5, 6, 7, 8, 9, 10, 11, 12, 13, 14, 15], [14])])
def spec_SendParcel.B8 : List Nat := [0, 0, 2, 0, 14, 30, 0, 64, 0, 256, 1022, 2047, 4095, 8191, 8191, 16383, 65535]
theorem spec_SendParcel.tab8 : rtab .any (opsOf Try.f49 8) = spec_SendParcel.T8 := by kernel_rfl
theorem spec_SendParcel.bits8 : waitsOk spec_SendParcel.T8.2 spec_SendParcel.B8 = true := by kernel_rfl
set_option maxHeartbeats 8000000 in
set_option maxRecDepth 100000 in
theorem spec_SendParcel.calls (k : Nat) (A0 : Option Addr) (c0 : Nat) (l0 : List (S138)) (a1_0 : Int) (a1_1 : Int) (A1_2 : Option Addr) (c1_2 : Nat) (l1_2 : List Int) (a1_3 : Int) (r1 : List (S138)) (r2 : Bool) (w : World) (hr0 : Kd.C k138 w A0 l0.length l0) (hc0 : l0.length ≤ c0) (hr1_2 : Kd.C (Kd.int .i64) w A1_2 l1_2.length l1_2) (hc1_2 : l1_2.length ≤ c1_2) (h : spec_SendParcel.f k l0 a1_0 a1_1 l1_2 a1_3 = some (r1, r2)) :
  Calls Try.prog 49 #[.slice A0 l0.length c0, .agg #[.int .i64 a1_0, .int .i64 a1_1, .slice A1_2 l1_2.length c1_2, .int .i64 a1_3]] w fun e w' => ∃ v0_ : Value, e = .returned (.tuple #[v0_, .bool r2]) ∧ Kd.R k138 138 w' w.heap.size (fun _ => True) v0_ r1 ∧ Below w.heap.size w w' := by
 have hu53 := Try.underlying53
 have hu138 := Try.underlying138
 have HR0 := zK hr0
 have HC0 := zK hc0
 clear hr0 hc0
 have HR1_2 := zK hr1_2
 have HC1_2 := zK hc1_2
 clear hr1_2 hc1_2
 have HB := zK (Below.refl w.heap.size w)
 have H : ((some (([] : List (S138)) : List (S138))).bind fun y342 => (if y342.length + l0.length < 3518437208883 then ((some (y342 ++ l0 : List (S138))).bind fun y345 => ((spec_IsParcel.f k a1_0 a1_1 l1_2 a1_3).bind fun t348 => (if t348 = true then ((spec_InHouse.f k l0 a1_0).bind fun t349 => (spec_SendParcel.l0 k l0 y345 t349 0 a1_0 a1_1 l1_2 a1_3)) else (some (y345, false))))) else (none))) = some (r1, r2) := h
 clear h
 obtain ⟨y342, hy342⟩ : ∃ y_ : List (S138), y_ = (([] : List (S138))) := ⟨_, rfl⟩
 replace H : (if y342.length + l0.length < 3518437208883 then ((some (y342 ++ l0 : List (S138))).bind fun y345 => ((spec_IsParcel.f k a1_0 a1_1 l1_2 a1_3).bind fun t348 => (if t348 = true then ((spec_InHouse.f k l0 a1_0).bind fun t349 => (spec_SendParcel.l0 k l0 y345 t349 0 a1_0 a1_1 l1_2 a1_3)) else (some (y345, false))))) else (none)) = some (r1, r2) := by first | (rw [hy342]; with_reducible exact H) | (have H2_ := (Option.bind_some _ _).symm.trans H; rw [hy342]; with_reducible exact H2_) | (have H2_ := (Option.bind_some _ _).symm.trans H; with_reducible exact H2_) | with_reducible exact H | (rw [hy342]; exact H) | exact H
 have Ny342 := zK hy342
 clear hy342
 by_cases c3 : y342.length + l0.length < 3518437208883
 rotate_left
 ·rw [if_neg c3] at H
  exact absurd H (by simp)

 rw [if_pos c3] at H
 have LMc3 := zK c3
 clear c3
 obtain ⟨y345, hy345⟩ : ∃ y_ : List (S138), y_ = (y342 ++ l0) := ⟨_, rfl⟩
 replace H : ((spec_IsParcel.f k a1_0 a1_1 l1_2 a1_3).bind fun t348 => (if t348 = true then ((spec_InHouse.f k l0 a1_0).bind fun t349 => (spec_SendParcel.l0 k l0 y345 t349 0 a1_0 a1_1 l1_2 a1_3)) else (some (y345, false)))) = some (r1, r2) := by first | (rw [hy345]; with_reducible exact H) | (have H2_ := (Option.bind_some _ _).symm.trans H; rw [hy345]; with_reducible exact H2_) | (have H2_ := (Option.bind_some _ _).symm.trans H; with_reducible exact H2_) | with_reducible exact H | (rw [hy345]; exact H) | exact H
 have Ny345 := zK hy345
 clear hy345
 replace H := Option.bind_eq_some_iff.mp H
 obtain ⟨t348, A40, H⟩ := H
 replace H : (if t348 = true then ((spec_InHouse.f k l0 a1_0).bind fun t349 => (spec_SendParcel.l0 k l0 y345 t349 0 a1_0 a1_1 l1_2 a1_3)) else (some (y345, false))) = some (r1, r2) := H
 have A4 := zK A40
 clear A40
 by_cases c5 : t348 = true
 rotate_left
 ·replace c5 := Bool.eq_false_iff.mpr c5
  subst c5
  have H1 : (some (y345, false)) = some (r1, r2) := by rw [if_neg (show ¬ (false = true) by decide)] at H; exact H
  clear H
  have H := H1
  clear H1
  simp only [Option.some.injEq, Prod.mk.injEq] at H
  obtain ⟨rfl, rfl⟩ := H
  go_enter Try.func49, Try.ntmps49
  go_wp2_with (first | ((with_reducible refine gate_dst (N := 3) rfl ?_); refine box_event ?hg (N := 3) ?hd (cs := #[.int .i64 a1_0, .int .i64 a1_1, .slice A1_2 l1_2.length c1_2, .int .i64 a1_3]) (t := 53) ?hr ?_; (case hd => rfl); (case hg => rfl); (case hr => first | (go_simp; done) | (go_simp; rfl)); intro gb341 hg w46 hbox hb; have n0_ := zK (bT (qB HB.out) hb); have n1_ := zK (hbox); have n2_ := zK ((by rw [hg]; exact (bZ (qB HB.out)) : w.heap.size ≤ gb341)); have n3_ := zK ((by rw [hg]; exact (bZ (qB HB.out)) : w.heap.size ≤ gb341)); clear HB; have HB := n0_; have BK341 := n1_; have GW341 := n2_; have GE341 := n3_; clear n0_ n1_ n2_ n3_; clear hb hbox hg) | ((with_reducible refine gate_dst (N := 11) rfl ?_); refine Kd.R_lit k138 _ 138 ?hg (N := 11) ?hd (xs := ([] : List (S138))) (inner := []) (ok := fun _ => True) (okp := fun _ => True) ?hr ?hp (fun _ hk => hk) trivial (Below.refl _ _) (Nat.le_refl _) (by simp) ?_; (case hd => rfl); (case hg => rfl); (case hr => first | (go_simp; done) | (go_simp; rfl)); (case hp => exact (Reps.none _ _)); intro v343 w47 ho48 hb hg_ hnew_; clear hg_ hnew_; (first | rw [← Ny342.out] at ho48 | (simp only [Int.reduceToNat] at ho48; rw [← Ny342.out] at ho48)); have n0_ := zK (Kd.R_lower ho48 (bZ M5)); have n1_ := zK (bB (g := gb341) (o := .cells #[.int .i64 a1_0, .int .i64 a1_1, .slice A1_2 l1_2.length c1_2, .int .i64 a1_3] 53 (0, 0)) (qK BK341.out) hb); have n2_ := zK (bT M5 hb); clear BK341 HB; have HO344 := n0_; have BK341 := n1_; have HB := n2_; clear n0_ n1_ n2_; clear hb ho48) | ((with_reducible refine gate_builtin (b := .append) (xs := #[.tmp 11, .tmp 12]) rfl ?_); at_builtin; refine Kd.R_append_rows k138 (w0 := w) w.heap.size rfl (.tmp 11) (.tmp 12) 51 138 (.agg #[(.int .i64 0), (.int .i64 0), (.int .i64 0), (.int .i64 0), (.int .i64 0)]) 40 rfl Try.underlying51 info138 rfl (by decide) (by omega) v343 y342 l0 _ _ _ (fun _ => True) (fun _ => False) rfl rfl ?aO ?aR (fun _ _ h => h) (fun _ h => h.elim) ?aF ?aB ?aS ?aL ?_; (case aR => exact Kd.qC (Kd.C_below HR0.out HB.out)); (case aB => exact M5); (case aF => exact (fun _ _ => trivial)); (case aO => exact (Kd.qR HO344.out)); (case aS => exact (bZ M5)); (case aL => have := LMc3.out; omega); intro v346 w49 ho hb hg hat; rw [← Ny345.out] at ho; have n0_ := zK (blk_grown (g := gb341) (o := .cells #[.int .i64 a1_0, .int .i64 a1_1, .slice A1_2 l1_2.length c1_2, .int .i64 a1_3] 53 (0, 0)) (qK BK341.out) hg (Kd.R_ne HO344.out BK341.out (by decide))); have n1_ := zK (hb); have n2_ := zK (ho); clear BK341 HB HO344; have BK341 := n0_; have HB := n1_; have HO347 := n2_; clear n0_ n1_ n2_; clear ho hb hg hat; have hcz50_0 : w49.cell? ⟨gb341, 0, none⟩ = some (.int .i64 a1_0) := (bc BK341.out 0).trans rfl; have hcz50_1 : w49.cell? ⟨gb341, 1, none⟩ = some (.int .i64 a1_1) := (bc BK341.out 1).trans rfl; have hcz50_2 : w49.cell? ⟨gb341, 2, none⟩ = some (.slice A1_2 l1_2.length c1_2) := (bc BK341.out 2).trans rfl; have hcz50_3 : w49.cell? ⟨gb341, 3, none⟩ = some (.int .i64 a1_3) := (bc BK341.out 3).trans rfl; have hfz50_0 := bf BK341.out 0; have hfz50_1 := bf BK341.out 1; have hfz50_2 := bf BK341.out 2; have hfz50_3 := bf BK341.out 3) | ((with_reducible refine gate_callee (f := 109) rfl ?_); refine goesL_ (some 15) rfl rfl Try.func109 (by kernel_rfl) rfl #[.agg #[.int .i64 a1_0, .int .i64 a1_1, .slice A1_2 l1_2.length c1_2, .int .i64 a1_3]] rfl M0 ?_; (with_reducible refine (spec_IsParcel.calls k a1_0 a1_1 _ _ l1_2 a1_3 false _ ?side1 ?side2 A4.out).mono ?_); (case side1 => exact Kd.qC (Kd.C_below HR1_2.out HB.out)); (case side2 => exact HC1_2.out); rintro e w51 ⟨rfl, hb⟩; refine ⟨_, rfl, ?_⟩; have n0_ := zK (Kd.R_below (Kd.qR HO347.out) hb); have n1_ := zK (bB (g := gb341) (o := .cells #[.int .i64 a1_0, .int .i64 a1_1, .slice A1_2 l1_2.length c1_2, .int .i64 a1_3] 53 (0, 0)) (qK BK341.out) hb); have n2_ := zK (bT M5 hb); clear HO347 BK341 HB; have HO347 := n0_; have BK341 := n1_; have HB := n2_; clear n0_ n1_ n2_; (try clear hb); (try clear hb2); (try clear hk); (try clear hi)))
  go_ret2
  exact ⟨_, by first | rfl | (simp [errW_none, errW_some] <;> rfl) | (simp [*, errW_none, errW_some] <;> rfl), by exact Kd.qR HO347.out, by repeat (first | (with_reducible first | exact HB.out | apply bA | apply bN | apply b1 | refine bS ?_ GE341.out) | exact HB.out)⟩
 subst c5
 have H1 : ((spec_InHouse.f k l0 a1_0).bind fun t349 => (spec_SendParcel.l0 k l0 y345 t349 0 a1_0 a1_1 l1_2 a1_3)) = some (r1, r2) := by rw [if_pos rfl] at H; exact H
 clear H
 have H := H1
 clear H1
 replace H := Option.bind_eq_some_iff.mp H
 obtain ⟨t349, A60, H⟩ := H
 replace H : (spec_SendParcel.l0 k l0 y345 t349 0 a1_0 a1_1 l1_2 a1_3) = some (r1, r2) := H
 have A6 := zK A60
 clear A60
 have H' := zK H
 clear H
 go_enter Try.func49, Try.ntmps49
 go_wp2_with (first | ((with_reducible refine gate_dst (N := 3) rfl ?_); refine box_event ?hg (N := 3) ?hd (cs := #[.int .i64 a1_0, .int .i64 a1_1, .slice A1_2 l1_2.length c1_2, .int .i64 a1_3]) (t := 53) ?hr ?_; (case hd => rfl); (case hg => rfl); (case hr => first | (go_simp; done) | (go_simp; rfl)); intro gb341 hg w7 hbox hb; have n0_ := zK (bT (qB HB.out) hb); have n1_ := zK (hbox); have n2_ := zK ((by rw [hg]; exact (bZ (qB HB.out)) : w.heap.size ≤ gb341)); have n3_ := zK ((by rw [hg]; exact (bZ (qB HB.out)) : w.heap.size ≤ gb341)); clear HB; have HB := n0_; have BK341 := n1_; have GW341 := n2_; have GE341 := n3_; clear n0_ n1_ n2_ n3_; clear hb hbox hg) | ((with_reducible refine gate_dst (N := 11) rfl ?_); refine Kd.R_lit k138 _ 138 ?hg (N := 11) ?hd (xs := ([] : List (S138))) (inner := []) (ok := fun _ => True) (okp := fun _ => True) ?hr ?hp (fun _ hk => hk) trivial (Below.refl _ _) (Nat.le_refl _) (by simp) ?_; (case hd => rfl); (case hg => rfl); (case hr => first | (go_simp; done) | (go_simp; rfl)); (case hp => exact (Reps.none _ _)); intro v343 w8 ho9 hb hg_ hnew_; clear hg_ hnew_; (first | rw [← Ny342.out] at ho9 | (simp only [Int.reduceToNat] at ho9; rw [← Ny342.out] at ho9)); have n0_ := zK (Kd.R_lower ho9 (bZ M5)); have n1_ := zK (bB (g := gb341) (o := .cells #[.int .i64 a1_0, .int .i64 a1_1, .slice A1_2 l1_2.length c1_2, .int .i64 a1_3] 53 (0, 0)) (qK BK341.out) hb); have n2_ := zK (bT M5 hb); clear BK341 HB; have HO344 := n0_; have BK341 := n1_; have HB := n2_; clear n0_ n1_ n2_; clear hb ho9) | ((with_reducible refine gate_builtin (b := .append) (xs := #[.tmp 11, .tmp 12]) rfl ?_); at_builtin; refine Kd.R_append_rows k138 (w0 := w) w.heap.size rfl (.tmp 11) (.tmp 12) 51 138 (.agg #[(.int .i64 0), (.int .i64 0), (.int .i64 0), (.int .i64 0), (.int .i64 0)]) 40 rfl Try.underlying51 info138 rfl (by decide) (by omega) v343 y342 l0 _ _ _ (fun _ => True) (fun _ => False) rfl rfl ?aO ?aR (fun _ _ h => h) (fun _ h => h.elim) ?aF ?aB ?aS ?aL ?_; (case aR => exact Kd.qC (Kd.C_below HR0.out HB.out)); (case aB => exact M5); (case aF => exact (fun _ _ => trivial)); (case aO => exact (Kd.qR HO344.out)); (case aS => exact (bZ M5)); (case aL => have := LMc3.out; omega); intro v346 w10 ho hb hg hat; rw [← Ny345.out] at ho; have n0_ := zK (blk_grown (g := gb341) (o := .cells #[.int .i64 a1_0, .int .i64 a1_1, .slice A1_2 l1_2.length c1_2, .int .i64 a1_3] 53 (0, 0)) (qK BK341.out) hg (Kd.R_ne HO344.out BK341.out (by decide))); have n1_ := zK (hb); have n2_ := zK (ho); clear BK341 HB HO344; have BK341 := n0_; have HB := n1_; have HO347 := n2_; clear n0_ n1_ n2_; clear ho hb hg hat; have hcz11_0 : w10.cell? ⟨gb341, 0, none⟩ = some (.int .i64 a1_0) := (bc BK341.out 0).trans rfl; have hcz11_1 : w10.cell? ⟨gb341, 1, none⟩ = some (.int .i64 a1_1) := (bc BK341.out 1).trans rfl; have hcz11_2 : w10.cell? ⟨gb341, 2, none⟩ = some (.slice A1_2 l1_2.length c1_2) := (bc BK341.out 2).trans rfl; have hcz11_3 : w10.cell? ⟨gb341, 3, none⟩ = some (.int .i64 a1_3) := (bc BK341.out 3).trans rfl; have hfz11_0 := bf BK341.out 0; have hfz11_1 := bf BK341.out 1; have hfz11_2 := bf BK341.out 2; have hfz11_3 := bf BK341.out 3) | ((with_reducible refine gate_callee (f := 109) rfl ?_); refine goesL_ (some 15) rfl rfl Try.func109 (by kernel_rfl) rfl #[.agg #[.int .i64 a1_0, .int .i64 a1_1, .slice A1_2 l1_2.length c1_2, .int .i64 a1_3]] rfl M0 ?_; (with_reducible refine (spec_IsParcel.calls k a1_0 a1_1 _ _ l1_2 a1_3 true _ ?side1 ?side2 A4.out).mono ?_); (case side1 => exact Kd.qC (Kd.C_below HR1_2.out HB.out)); (case side2 => exact HC1_2.out); rintro e w12 ⟨rfl, hb⟩; refine ⟨_, rfl, ?_⟩; have n0_ := zK (Kd.R_below (Kd.qR HO347.out) hb); have n1_ := zK (bB (g := gb341) (o := .cells #[.int .i64 a1_0, .int .i64 a1_1, .slice A1_2 l1_2.length c1_2, .int .i64 a1_3] 53 (0, 0)) (qK BK341.out) hb); have n2_ := zK (bT M5 hb); clear HO347 BK341 HB; have HO347 := n0_; have BK341 := n1_; have HB := n2_; clear n0_ n1_ n2_; (try clear hb); (try clear hb2); (try clear hk); (try clear hi); have hcz13_0 : w12.cell? ⟨gb341, 0, none⟩ = some (.int .i64 a1_0) := (bc BK341.out 0).trans rfl; have hcz13_1 : w12.cell? ⟨gb341, 1, none⟩ = some (.int .i64 a1_1) := (bc BK341.out 1).trans rfl; have hcz13_2 : w12.cell? ⟨gb341, 2, none⟩ = some (.slice A1_2 l1_2.length c1_2) := (bc BK341.out 2).trans rfl; have hcz13_3 : w12.cell? ⟨gb341, 3, none⟩ = some (.int .i64 a1_3) := (bc BK341.out 3).trans rfl; have hfz13_0 := bf BK341.out 0; have hfz13_1 := bf BK341.out 1; have hfz13_2 := bf BK341.out 2; have hfz13_3 := bf BK341.out 3) | ((with_reducible refine gate_callee (f := 110) rfl ?_); refine goesL_ (some 21) rfl rfl Try.func110 (by kernel_rfl) rfl #[.slice A0 l0.length c0, .int .i64 a1_0] rfl M0 ?_; (with_reducible refine (spec_InHouse.calls k _ _ l0 a1_0 t349 _ ?side1 ?side2 A6.out).mono ?_); (case side1 => exact Kd.qC (Kd.C_below HR0.out HB.out)); (case side2 => exact HC0.out); rintro e w14 ⟨v350, rfl, ho0, hb⟩; refine ⟨_, rfl, ?_⟩; have n0_ := zK (Kd.R_below (Kd.qR HO347.out) hb); have n1_ := zK (Kd.R_lower ho0 (bZ M5)); have n2_ := zK (bB (g := gb341) (o := .cells #[.int .i64 a1_0, .int .i64 a1_1, .slice A1_2 l1_2.length c1_2, .int .i64 a1_3] 53 (0, 0)) (qK BK341.out) hb); have n3_ := zK (bT M5 hb); clear HO347 BK341 HB; have HO347 := n0_; have HO351 := n1_; have BK341 := n2_; have HB := n3_; clear n0_ n1_ n2_ n3_; (try clear hb); (try clear hb2); (try clear hk); (try clear hi); (try clear ho0)))
 go_loopg [6, 8] k (fun kq v6 v8 w' => ∃ (x6_1 : List (S138)) (x8_1 : Int), v8 = .int .i64 x8_1 ∧ Aside0 (spec_SendParcel.l0 kq l0 x6_1 t349 x8_1 a1_0 a1_1 l1_2 a1_3 = some (r1, r2)) ∧ Aside0 (kq ≤ k) ∧ Aside0 (Kd.R k138 138 w' w.heap.size (fun _ => True) v6 x6_1) ∧ Aside0 (Kd.R (Kd.int .i64) 3 w' w.heap.size (fun _ => True) v350 t349) ∧ Aside0 (w'.heap[gb341]? = some (.cells #[.int .i64 a1_0, .int .i64 a1_1, (.slice A1_2 l1_2.length c1_2), .int .i64 a1_3] 53 (0, 0))) ∧ Aside0 (Below w.heap.size w w'))
 case atStart => exact ⟨(y345), (0), M3, H', ⟨Nat.le_refl _⟩, ⟨by exact Kd.qR HO347.out⟩, ⟨by exact Kd.qR HO351.out⟩, ⟨by exact qK BK341.out⟩, ⟨by repeat (first | (with_reducible first | exact HB.out | apply bA | apply bN | apply b1 | refine bS ?_ GE341.out) | exact HB.out)⟩⟩
 case round =>
  clear H'
  try clear c1
  try clear p2
  try clear c3
  try clear c4
  try clear c5
  try clear c10
  try clear c11
  try clear hcz11_0
  try clear hcz11_1
  try clear hcz11_2
  try clear hcz11_3
  try clear hcz13_0
  try clear hcz13_1
  try clear hcz13_2
  try clear hcz13_3
  try clear hfz11_0
  try clear hfz11_1
  try clear hfz11_2
  try clear hfz11_3
  try clear hfz13_0
  try clear hfz13_1
  try clear hfz13_2
  try clear hfz13_3
  obtain ⟨x6_1, x8_1, rfl, HA, HK1, HO_6, HO_7, BK341, HB⟩ := hrel
  cases gk with
  | zero => exact absurd HA.out (by simp [spec_SendParcel.l0])
  | succ k1 =>
   have H := HA.out
   clear HA
   simp only [spec_SendParcel.l0] at H
   by_cases c15 : x8_1 < (l1_2.length : Int)
   rotate_left
   ·rw [if_neg c15] at H
    have c15b0 : decide (x8_1 < (l1_2.length : Int)) = false := decide_eq_false c15
    clear c15
    simp only [Option.some.injEq, Prod.mk.injEq] at H
    obtain ⟨rfl, rfl⟩ := H
    have hcz45_0 : wr.cell? ⟨gb341, 0, none⟩ = some (.int .i64 a1_0) := (bc BK341.out 0).trans rfl
    have hcz45_1 : wr.cell? ⟨gb341, 1, none⟩ = some (.int .i64 a1_1) := (bc BK341.out 1).trans rfl
    have hcz45_2 : wr.cell? ⟨gb341, 2, none⟩ = some (.slice A1_2 l1_2.length c1_2) := (bc BK341.out 2).trans rfl
    have hcz45_3 : wr.cell? ⟨gb341, 3, none⟩ = some (.int .i64 a1_3) := (bc BK341.out 3).trans rfl
    have hfz45_0 := bf BK341.out 0
    have hfz45_1 := bf BK341.out 1
    have hfz45_2 := bf BK341.out 2
    have hfz45_3 := bf BK341.out 3
    go_wp2
    go_ret2
    exact ⟨_, by first | rfl | (simp [errW_none, errW_some] <;> rfl) | (simp [*, errW_none, errW_some] <;> rfl), by exact Kd.qR HO_6.out, by repeat (first | (with_reducible first | exact HB.out | apply bA | apply bN | apply b1 | refine bS ?_ GE341.out) | exact HB.out)⟩
   rw [if_pos c15] at H
   have c15b0 : decide (x8_1 < (l1_2.length : Int)) = true := decide_eq_true c15
   clear c15
   by_cases c16 : 0 ≤ x8_1
   rotate_left
   ·rw [if_neg c16] at H
    exact absurd H (by simp)
   rw [if_pos c16] at H
   have c16b0 : decide (0 ≤ x8_1) = true := decide_eq_true c16
   clear c16
   replace H := Option.bind_eq_some_iff.mp H
   obtain ⟨⟨t353, t356⟩, A170, H⟩ := H
   replace H : (if t356 = true then ((spec_l8Has.f k1 t349 (rd l1_2 x8_1)).bind fun t358 => (if t358 = true then (spec_SendParcel.l0 k1 l0 t353 t349 (wrap64 (x8_1 + 1)) a1_0 a1_1 l1_2 a1_3) else ((some (([] : List (S138)) : List (S138))).bind fun y359 => (if y359.length + l0.length < 3518437208883 then (some ((y359 ++ l0), false)) else (none))))) else ((some (([] : List (S138)) : List (S138))).bind fun y365 => (if y365.length + l0.length < 3518437208883 then (some ((y365 ++ l0), false)) else (none)))) = some (r1, r2) := H
   have A17 := zK A170
   clear A170
   by_cases c18 : t356 = true
   rotate_left
   ·replace c18 := Bool.eq_false_iff.mpr c18
    subst c18
    have H1 : ((some (([] : List (S138)) : List (S138))).bind fun y365 => (if y365.length + l0.length < 3518437208883 then (some ((y365 ++ l0), false)) else (none))) = some (r1, r2) := by rw [if_neg (show ¬ (false = true) by decide)] at H; exact H
    clear H
    have H := H1
    clear H1
    obtain ⟨y365, hy365⟩ : ∃ y_ : List (S138), y_ = (([] : List (S138))) := ⟨_, rfl⟩
    replace H : (if y365.length + l0.length < 3518437208883 then (some ((y365 ++ l0), false)) else (none)) = some (r1, r2) := by first | (rw [hy365]; with_reducible exact H) | (have H2_ := (Option.bind_some _ _).symm.trans H; rw [hy365]; with_reducible exact H2_) | (have H2_ := (Option.bind_some _ _).symm.trans H; with_reducible exact H2_) | with_reducible exact H | (rw [hy365]; exact H) | exact H
    have Ny365 := zK hy365
    clear hy365
    by_cases c37 : y365.length + l0.length < 3518437208883
    rotate_left
    ·rw [if_neg c37] at H
     exact absurd H (by simp)
    rw [if_pos c37] at H
    have LMc37 := zK c37
    clear c37
    obtain ⟨y368, hy368⟩ : ∃ y_ : List (S138), y_ = (y365 ++ l0) := ⟨_, rfl⟩
    replace H : (some (y368, false)) = some (r1, r2) := by first | (rw [hy368]; with_reducible exact H) | (have H2_ := (Option.bind_some _ _).symm.trans H; rw [hy368]; with_reducible exact H2_) | (have H2_ := (Option.bind_some _ _).symm.trans H; with_reducible exact H2_) | with_reducible exact H | (rw [hy368]; exact H) | exact H
    have Ny368 := zK hy368
    clear hy368
    simp only [Option.some.injEq, Prod.mk.injEq] at H
    obtain ⟨rfl, rfl⟩ := H
    have hcz38_0 : wr.cell? ⟨gb341, 0, none⟩ = some (.int .i64 a1_0) := (bc BK341.out 0).trans rfl
    have hcz38_1 : wr.cell? ⟨gb341, 1, none⟩ = some (.int .i64 a1_1) := (bc BK341.out 1).trans rfl
    have hcz38_2 : wr.cell? ⟨gb341, 2, none⟩ = some (.slice A1_2 l1_2.length c1_2) := (bc BK341.out 2).trans rfl
    have hcz38_3 : wr.cell? ⟨gb341, 3, none⟩ = some (.int .i64 a1_3) := (bc BK341.out 3).trans rfl
    have hfz38_0 := bf BK341.out 0
    have hfz38_1 := bf BK341.out 1
    have hfz38_2 := bf BK341.out 2
    have hfz38_3 := bf BK341.out 3
    try go_wp2
    have n0_ := zK (Kd.RD HO_6.out)
    have n1_ := zK (Kd.RD HO_7.out)
    have n2_ := zK (kD BK341.out)
    have n3_ := zK (b1 HB.out)
    clear HO_6
    clear HO_7
    clear BK341
    clear HB
    have HO_6 := n0_
    have HO_7 := n1_
    have BK341 := n2_
    have HB := n3_
    clear n0_ n1_ n2_ n3_
    have p352 : 0 ≤ (x8_1 : Int) := oD M1
    have q352 : x8_1 < (l1_2.length : Int) := oD M1
    obtain ⟨ad352, e352, hx352_0⟩ := Kd.at_int HR1_2.out x8_1 p352 q352
    have hw352_0 := hx352_0
    cases e352
    replace hx352_0 := (HB.out.cell (bL w hx352_0)).trans hx352_0
    replace p352 := eq_true p352
    replace q352 := eq_true q352
    obtain ⟨Ao40, co40, eo40⟩ := Kd.R_slice HO_6.out
    (first | subst eo40 | (injection eo40 with f1_ f2_ f3_; have f4_ := f1_.symm; have f5_ := f3_.symm; clear f1_ f2_ f3_; subst f4_; subst f5_))
    refine start_ (n := 17) (S := fun w' => w'.cell? ⟨gb341, 0, none⟩ = some (.int .i64 a1_0) ∧ w'.cell? ⟨gb341, 1, none⟩ = some (.int .i64 a1_1) ∧ w'.cell? ⟨gb341, 2, none⟩ = some (.slice (some ad352) l1_2.length c1_2) ∧ w'.cell? ⟨gb341, 3, none⟩ = some (.int .i64 a1_3) ∧ w'.cell? (ad352.add (x8_1).toNat) = some (.int .i64 (rd l1_2 x8_1))) (ds := []) b13A0 (by kernel_rfl) rfl rfl ⟨(bc BK341.out 0).trans rfl, (bc BK341.out 1).trans rfl, (bc BK341.out 2).trans rfl, (bc BK341.out 3).trans rfl, ((HB.out.cell (bL w hw352_0)).trans hw352_0)⟩ (fun hHeld => ?_); refine with_tabW spec_SendParcel.tab8 spec_SendParcel.bits8 (fun HT_ HW_ => ?_)
    generalize wr.drew = w39 at HO_6 HO_7 BK341 HB hx352_0 hHeld ⊢
    refine pI 0 (some 30) b13A1 HT_ ?_
    refine pI 1 (some 31) b13A2 HT_ ?_
    refine pI 3 (some 33) b13A3 HT_ ?_
    refine pI 6 (some 36) b13A4 HT_ ?_
    refine pI 8 (some 38) b13A5 HT_ ?_
    refine tI 2 (some 32) b13A6 HT_ HW_ hHeld rfl rfl (Or.inl ⟨by rfl, by rintro w' ⟨s0, s1, s2, s3, s4⟩; go_simp; with_reducible rfl⟩) ?_
    refine pI 4 (some 34) b13A7 HT_ ?_
    refine tI 5 (some 35) b13A8 HT_ HW_ hHeld rfl rfl (Or.inl ⟨by rfl, by rintro w' ⟨s0, s1, s2, s3, s4⟩; go_simp; with_reducible rfl⟩) ?_
    refine tI 7 (some 37) b13A9 HT_ HW_ hHeld rfl rfl (Or.inl ⟨by rfl, by rintro w' ⟨s0, s1, s2, s3, s4⟩; go_simp; with_reducible rfl⟩) ?_
    refine tI 9 (some 39) b13A10 HT_ HW_ hHeld rfl rfl (Or.inl ⟨by rfl, by rintro w' ⟨s0, s1, s2, s3, s4⟩; go_simp; with_reducible rfl⟩) ?_
    refine pI 10 (some 40) b13A11 HT_ ?_
    refine one_ (i := 11) (N := some 41) b13A12 rfl rfl (one_of HT_.out (by kernel_rfl)) (by decide) (fun K hK => ?_)
    refine goes_ Try.func111 (by kernel_rfl) rfl #[.slice Ao40 x6_1.length co40, .agg #[.int .i64 (rd l1_2 x8_1), .int .i64 2, .int .i64 a1_1, .int .i64 a1_3, .int .i64 0]] (by rfl) rfl rfl M0 ?_
    with_reducible refine (spec_AddHand.calls k1 _ _ x6_1 (rd l1_2 x8_1) 2 a1_1 a1_3 0 t353 false _ ?side1 ?side2 A17.out).mono ?_
    (case side1 => exact Kd.qC (Kd.R_reads' HO_6.out).2.2)
    (case side2 => exact (Kd.R_reads' HO_6.out).2.1)
    rintro e w41 ⟨v354, rfl, ho0, hb⟩
    refine ⟨_, rfl, ?_⟩
    have n0_ := zK (Kd.R_elder' (Kd.qR HO_6.out) (Kd.R_base ho0) hb)
    have n1_ := zK (Kd.R_below (Kd.qR HO_7.out) hb)
    have n2_ := zK (Kd.R_lower (Kd.R_new' ho0 (Kd.R_lt (Kd.qR HO_6.out))) (bZ M5))
    have n3_ := zK (bB (g := gb341) (o := .cells #[.int .i64 a1_0, .int .i64 a1_1, .slice (some ad352) l1_2.length c1_2, .int .i64 a1_3] 53 (0, 0)) (qK BK341.out) hb)
    have n4_ := zK (bT M5 hb)
    clear HO_6
    clear HO_7
    clear BK341
    clear HB
    have HO_6 := n0_
    have HO_7 := n1_
    have HO355 := n2_
    have BK341 := n3_
    have HB := n4_
    clear n0_ n1_ n2_ n3_ n4_
    (try clear hb)
    (try clear hb2)
    (try clear hk)
    (try clear hi)
    (try clear ho0)
    refine hK.out _ _ ⟨(bc BK341.out 0).trans rfl, (bc BK341.out 1).trans rfl, (bc BK341.out 2).trans rfl, (bc BK341.out 3).trans rfl, ((HB.out.cell (bL w hw352_0)).trans hw352_0)⟩ (fun hHeld => ?_)
    clear hK K
    refine norm_ (a' := ?_) ?_ ?_
    rotate_left
    ·show Act.put _ (some 41) _ = _
     simp only [Act.put, sA, sZ, sS, i64_w, i32_w]
     rfl
    refine pI 12 (some 29) b13A13 HT_ ?_
    refine pI 13 (some 42) b13A14 HT_ ?_
    refine pI 14 (some 43) b13A15 HT_ ?_
    refine pI 15 (some 9) b13A16 HT_ ?_
    refine pI 16 (some 10) b13A17 HT_ ?_
    refine done_ (done_of HT_.out (by kernel_rfl)) ?_
    try go_wp2_with (first | ((with_reducible refine gate_dst (N := 56) rfl ?_); refine Kd.R_lit k138 _ 138 ?hg (N := 56) ?hd (xs := ([] : List (S138))) (inner := []) (ok := fun _ => True) (okp := fun _ => True) ?hr ?hp (fun _ hk => hk) trivial (Below.refl _ _) (Nat.le_refl _) (by simp) ?_; (case hd => rfl); (case hg => rfl); (case hr => first | (go_simp; done) | (go_simp; rfl)); (case hp => exact (Reps.none _ _)); intro v366 w42 ho43 hb hg_ hnew_; clear hg_ hnew_; (first | rw [← Ny365.out] at ho43 | (simp only [Int.reduceToNat] at ho43; rw [← Ny365.out] at ho43)); have n0_ := zK (Kd.R_elder' (Kd.qR HO_6.out) (Kd.R_base ho43) hb); have n1_ := zK (Kd.R_below (Kd.qR HO_7.out) hb); have n2_ := zK (Kd.R_elder' (Kd.qR HO355.out) (Kd.R_base ho43) hb); have n3_ := zK (Kd.R_lower (Kd.R_new' (Kd.R_new' ho43 (Kd.R_lt (Kd.qR HO_6.out))) (Kd.R_lt (Kd.qR HO355.out))) (bZ M5)); have n4_ := zK (bB (g := gb341) (o := .cells #[.int .i64 a1_0, .int .i64 a1_1, .slice (some ad352) l1_2.length c1_2, .int .i64 a1_3] 53 (0, 0)) (qK BK341.out) hb); have n5_ := zK (bT M5 hb); clear HO_6 HO_7 HO355 BK341 HB; have HO_6 := n0_; have HO_7 := n1_; have HO355 := n2_; have HO367 := n3_; have BK341 := n4_; have HB := n5_; clear n0_ n1_ n2_ n3_ n4_ n5_; clear hb ho43) | ((with_reducible refine gate_builtin (b := .append) (xs := #[.tmp 56, .tmp 57]) rfl ?_); at_builtin; refine Kd.R_append_rows k138 (w0 := w) w.heap.size rfl (.tmp 56) (.tmp 57) 51 138 (.agg #[(.int .i64 0), (.int .i64 0), (.int .i64 0), (.int .i64 0), (.int .i64 0)]) 40 rfl Try.underlying51 info138 rfl (by decide) (by omega) v366 y365 l0 _ _ _ (fun k_ => some k_ ≠ (.slice Ao40 x6_1.length co40 : Value).ownBlock ∧ some k_ ≠ (v354 : Value).ownBlock) (fun _ => False) rfl rfl ?aO ?aR (fun _ _ h => h) (fun _ h => h.elim) ?aF ?aB ?aS ?aL ?_; (case aR => exact Kd.qC (Kd.C_below HR0.out HB.out)); (case aB => exact M5); (case aF => exact (fun k_ hk => ⟨Kd.fresh' (Kd.R_lt (Kd.qR HO_6.out)) k_ hk, Kd.fresh' (Kd.R_lt (Kd.qR HO355.out)) k_ hk⟩)); (case aO => exact (by (with_reducible repeat (first | apply Kd.RA | apply Kd.RN | apply Kd.RD)); exact Kd.R_mono HO367.out (fun _ hk => ⟨hk.1.2, hk.2⟩))); (case aS => exact (bZ M5)); (case aL => have := LMc37.out; omega); intro v369 w44 ho hb hg hat; rw [← Ny368.out] at ho; have n0_ := zK (Kd.R_after (ok := (fun k_ => some k_ ≠ (v354 : Value).ownBlock)) (by (with_reducible repeat (first | apply Kd.RA | apply Kd.RN | apply Kd.RD)); exact Kd.R_mono HO_6.out (fun _ hk => ⟨hk.1.2, hk.2⟩)) hg hat); have n1_ := zK (Kd.R_over' (Kd.qR HO_7.out) (Kd.R_typed (Kd.qR HO367.out)) (by decide) hg); have n2_ := zK (blk_grown (g := gb341) (o := .cells #[.int .i64 a1_0, .int .i64 a1_1, .slice (some ad352) l1_2.length c1_2, .int .i64 a1_3] 53 (0, 0)) (qK BK341.out) hg (Kd.R_ne HO367.out BK341.out (by decide))); have n3_ := zK (Kd.R_after (ok := (fun k_ => some k_ ≠ (.slice Ao40 x6_1.length co40 : Value).ownBlock)) (by (with_reducible repeat (first | apply Kd.RA | apply Kd.RN | apply Kd.RD)); exact Kd.R_mono HO355.out (fun _ hk => ⟨hk.1.2, hk.2⟩)) hg hat); have n4_ := zK (hb); have n5_ := zK (ho); clear HO_6 HO_7 BK341 HO355 HB HO367; have HO_6 := n0_; have HO_7 := n1_; have BK341 := n2_; have HO355 := n3_; have HB := n4_; have HO370 := n5_; clear n0_ n1_ n2_ n3_ n4_ n5_; clear ho hb hg hat))
    go_ret2
    exact ⟨_, by first | rfl | (simp [errW_none, errW_some] <;> rfl) | (simp [*, errW_none, errW_some] <;> rfl), by (with_reducible repeat (first | apply Kd.RA | apply Kd.RN | apply Kd.RD)); exact Kd.R_mono HO370.out (fun _ hk => trivial), by repeat (first | (with_reducible first | exact HB.out | apply bA | apply bN | apply b1 | refine bS ?_ GE341.out) | exact HB.out)⟩
   subst c18
   have H1 : ((spec_l8Has.f k1 t349 (rd l1_2 x8_1)).bind fun t358 => (if t358 = true then (spec_SendParcel.l0 k1 l0 t353 t349 (wrap64 (x8_1 + 1)) a1_0 a1_1 l1_2 a1_3) else ((some (([] : List (S138)) : List (S138))).bind fun y359 => (if y359.length + l0.length < 3518437208883 then (some ((y359 ++ l0), false)) else (none))))) = some (r1, r2) := by rw [if_pos rfl] at H; exact H
   clear H
   have H := H1
   clear H1
   replace H := Option.bind_eq_some_iff.mp H
   obtain ⟨t358, A190, H⟩ := H
   replace H : (if t358 = true then (spec_SendParcel.l0 k1 l0 t353 t349 (wrap64 (x8_1 + 1)) a1_0 a1_1 l1_2 a1_3) else ((some (([] : List (S138)) : List (S138))).bind fun y359 => (if y359.length + l0.length < 3518437208883 then (some ((y359 ++ l0), false)) else (none)))) = some (r1, r2) := H
   have A19 := zK A190
   clear A190
   by_cases c20 : t358 = true
   ·subst c20
    have H1 : (spec_SendParcel.l0 k1 l0 t353 t349 (wrap64 (x8_1 + 1)) a1_0 a1_1 l1_2 a1_3) = some (r1, r2) := by rw [if_pos rfl] at H; exact H
    clear H
    have H := H1
    clear H1
    have H' := zK H
    clear H
    have hcz21_0 : wr.cell? ⟨gb341, 0, none⟩ = some (.int .i64 a1_0) := (bc BK341.out 0).trans rfl
    have hcz21_1 : wr.cell? ⟨gb341, 1, none⟩ = some (.int .i64 a1_1) := (bc BK341.out 1).trans rfl
    have hcz21_2 : wr.cell? ⟨gb341, 2, none⟩ = some (.slice A1_2 l1_2.length c1_2) := (bc BK341.out 2).trans rfl
    have hcz21_3 : wr.cell? ⟨gb341, 3, none⟩ = some (.int .i64 a1_3) := (bc BK341.out 3).trans rfl
    have hfz21_0 := bf BK341.out 0
    have hfz21_1 := bf BK341.out 1
    have hfz21_2 := bf BK341.out 2
    have hfz21_3 := bf BK341.out 3
    try go_wp2
    have n0_ := zK (Kd.RD HO_6.out)
    have n1_ := zK (Kd.RD HO_7.out)
    have n2_ := zK (kD BK341.out)
    have n3_ := zK (b1 HB.out)
    clear HO_6
    clear HO_7
    clear BK341
    clear HB
    have HO_6 := n0_
    have HO_7 := n1_
    have BK341 := n2_
    have HB := n3_
    clear n0_ n1_ n2_ n3_
    have p352 : 0 ≤ (x8_1 : Int) := oD M1
    have q352 : x8_1 < (l1_2.length : Int) := oD M1
    obtain ⟨ad352, e352, hx352_0⟩ := Kd.at_int HR1_2.out x8_1 p352 q352
    have hw352_0 := hx352_0
    cases e352
    replace hx352_0 := (HB.out.cell (bL w hx352_0)).trans hx352_0
    replace p352 := eq_true p352
    replace q352 := eq_true q352
    obtain ⟨Ao23, co23, eo23⟩ := Kd.R_slice HO_6.out
    (first | subst eo23 | (injection eo23 with f1_ f2_ f3_; have f4_ := f1_.symm; have f5_ := f3_.symm; clear f1_ f2_ f3_; subst f4_; subst f5_))
    refine start_ (n := 17) (S := fun w' => w'.cell? ⟨gb341, 0, none⟩ = some (.int .i64 a1_0) ∧ w'.cell? ⟨gb341, 1, none⟩ = some (.int .i64 a1_1) ∧ w'.cell? ⟨gb341, 2, none⟩ = some (.slice (some ad352) l1_2.length c1_2) ∧ w'.cell? ⟨gb341, 3, none⟩ = some (.int .i64 a1_3) ∧ w'.cell? (ad352.add (x8_1).toNat) = some (.int .i64 (rd l1_2 x8_1))) (ds := []) b13A0 (by kernel_rfl) rfl rfl ⟨(bc BK341.out 0).trans rfl, (bc BK341.out 1).trans rfl, (bc BK341.out 2).trans rfl, (bc BK341.out 3).trans rfl, ((HB.out.cell (bL w hw352_0)).trans hw352_0)⟩ (fun hHeld => ?_); refine with_tabW spec_SendParcel.tab8 spec_SendParcel.bits8 (fun HT_ HW_ => ?_)
    generalize wr.drew = w22 at HO_6 HO_7 BK341 HB hx352_0 hHeld ⊢
    refine pI 0 (some 30) b13A1 HT_ ?_
    refine pI 1 (some 31) b13A2 HT_ ?_
    refine pI 3 (some 33) b13A3 HT_ ?_
    refine pI 6 (some 36) b13A4 HT_ ?_
    refine pI 8 (some 38) b13A5 HT_ ?_
    refine tI 2 (some 32) b13A6 HT_ HW_ hHeld rfl rfl (Or.inl ⟨by rfl, by rintro w' ⟨s0, s1, s2, s3, s4⟩; go_simp; with_reducible rfl⟩) ?_
    refine pI 4 (some 34) b13A7 HT_ ?_
    refine tI 5 (some 35) b13A8 HT_ HW_ hHeld rfl rfl (Or.inl ⟨by rfl, by rintro w' ⟨s0, s1, s2, s3, s4⟩; go_simp; with_reducible rfl⟩) ?_
    refine tI 7 (some 37) b13A9 HT_ HW_ hHeld rfl rfl (Or.inl ⟨by rfl, by rintro w' ⟨s0, s1, s2, s3, s4⟩; go_simp; with_reducible rfl⟩) ?_
    refine tI 9 (some 39) b13A10 HT_ HW_ hHeld rfl rfl (Or.inl ⟨by rfl, by rintro w' ⟨s0, s1, s2, s3, s4⟩; go_simp; with_reducible rfl⟩) ?_
    refine pI 10 (some 40) b13A11 HT_ ?_
    refine one_ (i := 11) (N := some 41) b13A12 rfl rfl (one_of HT_.out (by kernel_rfl)) (by decide) (fun K hK => ?_)
    refine goes_ Try.func111 (by kernel_rfl) rfl #[.slice Ao23 x6_1.length co23, .agg #[.int .i64 (rd l1_2 x8_1), .int .i64 2, .int .i64 a1_1, .int .i64 a1_3, .int .i64 0]] (by rfl) rfl rfl M0 ?_
    with_reducible refine (spec_AddHand.calls k1 _ _ x6_1 (rd l1_2 x8_1) 2 a1_1 a1_3 0 t353 true _ ?side1 ?side2 A17.out).mono ?_
    (case side1 => exact Kd.qC (Kd.R_reads' HO_6.out).2.2)
    (case side2 => exact (Kd.R_reads' HO_6.out).2.1)
    rintro e w24 ⟨v354, rfl, ho0, hb⟩
    refine ⟨_, rfl, ?_⟩
    have n0_ := zK (Kd.R_elder' (Kd.qR HO_6.out) (Kd.R_base ho0) hb)
    have n1_ := zK (Kd.R_below (Kd.qR HO_7.out) hb)
    have n2_ := zK (Kd.R_lower (Kd.R_new' ho0 (Kd.R_lt (Kd.qR HO_6.out))) (bZ M5))
    have n3_ := zK (bB (g := gb341) (o := .cells #[.int .i64 a1_0, .int .i64 a1_1, .slice (some ad352) l1_2.length c1_2, .int .i64 a1_3] 53 (0, 0)) (qK BK341.out) hb)
    have n4_ := zK (bT M5 hb)
    clear HO_6
    clear HO_7
    clear BK341
    clear HB
    have HO_6 := n0_
    have HO_7 := n1_
    have HO355 := n2_
    have BK341 := n3_
    have HB := n4_
    clear n0_ n1_ n2_ n3_ n4_
    (try clear hb)
    (try clear hb2)
    (try clear hk)
    (try clear hi)
    (try clear ho0)
    refine hK.out _ _ ⟨(bc BK341.out 0).trans rfl, (bc BK341.out 1).trans rfl, (bc BK341.out 2).trans rfl, (bc BK341.out 3).trans rfl, ((HB.out.cell (bL w hw352_0)).trans hw352_0)⟩ (fun hHeld => ?_)
    clear hK K
    refine norm_ (a' := ?_) ?_ ?_
    rotate_left
    ·show Act.put _ (some 41) _ = _
     simp only [Act.put, sA, sZ, sS, i64_w, i32_w]
     rfl
    refine pI 12 (some 29) b13A13 HT_ ?_
    refine pI 13 (some 42) b13A14 HT_ ?_
    refine pI 14 (some 43) b13A15 HT_ ?_
    refine pI 15 (some 9) b13A16 HT_ ?_
    refine pI 16 (some 10) b13A17 HT_ ?_
    refine done_ (done_of HT_.out (by kernel_rfl)) ?_
    have hcz25_0 : w24.cell? ⟨gb341, 0, none⟩ = some (.int .i64 a1_0) := (bc BK341.out 0).trans rfl
    have hcz25_1 : w24.cell? ⟨gb341, 1, none⟩ = some (.int .i64 a1_1) := (bc BK341.out 1).trans rfl
    have hcz25_2 : w24.cell? ⟨gb341, 2, none⟩ = some (.slice (some ad352) l1_2.length c1_2) := (bc BK341.out 2).trans rfl
    have hcz25_3 : w24.cell? ⟨gb341, 3, none⟩ = some (.int .i64 a1_3) := (bc BK341.out 3).trans rfl
    have hfz25_0 := bf BK341.out 0
    have hfz25_1 := bf BK341.out 1
    have hfz25_2 := bf BK341.out 2
    have hfz25_3 := bf BK341.out 3
    have p357 : 0 ≤ (x8_1 : Int) := oD M1
    have q357 : x8_1 < (l1_2.length : Int) := oD M1
    obtain ⟨ad357, e357, hx357_0⟩ := Kd.at_int HR1_2.out x8_1 p357 q357
    obtain rfl : ad352 = ad357 := (by injection e357)
    replace hx357_0 := (HB.out.cell (bL w hx357_0)).trans hx357_0
    replace p357 := eq_true p357
    replace q357 := eq_true q357
    obtain ⟨Ao26, co26, eo26⟩ := Kd.R_slice HO_7.out
    subst eo26
    try go_wp2_with (first | (go_at_call 90; (with_reducible refine (spec_l8Has.calls k1 _ _ t349 (rd l1_2 x8_1) true _ ?side1 ?side2 A19.out).mono ?_); (case side1 => exact Kd.qC (Kd.R_reads' HO_7.out).2.2); (case side2 => exact (Kd.R_reads' HO_7.out).2.1); rintro e w' ⟨rfl, ⟨nd, rfl⟩⟩))
    go_roundg k1
    case measure => have := HK1.out; omega
    case rel => exact ⟨(t353), (wrap64 (x8_1 + 1)), M3, H', ⟨by have := HK1.out; omega⟩, ⟨by (with_reducible repeat (first | apply Kd.RA | apply Kd.RN | apply Kd.RD)); exact Kd.R_mono HO355.out (fun _ hk => trivial)⟩, ⟨by exact Kd.qR HO_7.out⟩, ⟨by exact qK BK341.out⟩, ⟨by repeat (first | (with_reducible first | exact HB.out | apply bA | apply bN | apply b1 | refine bS ?_ GE341.out) | exact HB.out)⟩⟩
   replace c20 := Bool.eq_false_iff.mpr c20
   subst c20
   have H1 : ((some (([] : List (S138)) : List (S138))).bind fun y359 => (if y359.length + l0.length < 3518437208883 then (some ((y359 ++ l0), false)) else (none))) = some (r1, r2) := by rw [if_neg (show ¬ (false = true) by decide)] at H; exact H
   clear H
   have H := H1
   clear H1
   obtain ⟨y359, hy359⟩ : ∃ y_ : List (S138), y_ = (([] : List (S138))) := ⟨_, rfl⟩
   replace H : (if y359.length + l0.length < 3518437208883 then (some ((y359 ++ l0), false)) else (none)) = some (r1, r2) := by first | (rw [hy359]; with_reducible exact H) | (have H2_ := (Option.bind_some _ _).symm.trans H; rw [hy359]; with_reducible exact H2_) | (have H2_ := (Option.bind_some _ _).symm.trans H; with_reducible exact H2_) | with_reducible exact H | (rw [hy359]; exact H) | exact H
   have Ny359 := zK hy359
   clear hy359
   by_cases c27 : y359.length + l0.length < 3518437208883
   rotate_left
   ·rw [if_neg c27] at H
    exact absurd H (by simp)
   rw [if_pos c27] at H
   have LMc27 := zK c27
   clear c27
   obtain ⟨y362, hy362⟩ : ∃ y_ : List (S138), y_ = (y359 ++ l0) := ⟨_, rfl⟩
   replace H : (some (y362, false)) = some (r1, r2) := by first | (rw [hy362]; with_reducible exact H) | (have H2_ := (Option.bind_some _ _).symm.trans H; rw [hy362]; with_reducible exact H2_) | (have H2_ := (Option.bind_some _ _).symm.trans H; with_reducible exact H2_) | with_reducible exact H | (rw [hy362]; exact H) | exact H
   have Ny362 := zK hy362
   clear hy362
   simp only [Option.some.injEq, Prod.mk.injEq] at H
   obtain ⟨rfl, rfl⟩ := H
   have hcz28_0 : wr.cell? ⟨gb341, 0, none⟩ = some (.int .i64 a1_0) := (bc BK341.out 0).trans rfl
   have hcz28_1 : wr.cell? ⟨gb341, 1, none⟩ = some (.int .i64 a1_1) := (bc BK341.out 1).trans rfl
   have hcz28_2 : wr.cell? ⟨gb341, 2, none⟩ = some (.slice A1_2 l1_2.length c1_2) := (bc BK341.out 2).trans rfl
   have hcz28_3 : wr.cell? ⟨gb341, 3, none⟩ = some (.int .i64 a1_3) := (bc BK341.out 3).trans rfl
   have hfz28_0 := bf BK341.out 0
   have hfz28_1 := bf BK341.out 1
   have hfz28_2 := bf BK341.out 2
   have hfz28_3 := bf BK341.out 3
   try go_wp2
   have n0_ := zK (Kd.RD HO_6.out)
   have n1_ := zK (Kd.RD HO_7.out)
   have n2_ := zK (kD BK341.out)
   have n3_ := zK (b1 HB.out)
   clear HO_6
   clear HO_7
   clear BK341
   clear HB
   have HO_6 := n0_
   have HO_7 := n1_
   have BK341 := n2_
   have HB := n3_
   clear n0_ n1_ n2_ n3_
   have p352 : 0 ≤ (x8_1 : Int) := oD M1
   have q352 : x8_1 < (l1_2.length : Int) := oD M1
   obtain ⟨ad352, e352, hx352_0⟩ := Kd.at_int HR1_2.out x8_1 p352 q352
   have hw352_0 := hx352_0
   cases e352
   replace hx352_0 := (HB.out.cell (bL w hx352_0)).trans hx352_0
   replace p352 := eq_true p352
   replace q352 := eq_true q352
   obtain ⟨Ao30, co30, eo30⟩ := Kd.R_slice HO_6.out
   (first | subst eo30 | (injection eo30 with f1_ f2_ f3_; have f4_ := f1_.symm; have f5_ := f3_.symm; clear f1_ f2_ f3_; subst f4_; subst f5_))
   refine start_ (n := 17) (S := fun w' => w'.cell? ⟨gb341, 0, none⟩ = some (.int .i64 a1_0) ∧ w'.cell? ⟨gb341, 1, none⟩ = some (.int .i64 a1_1) ∧ w'.cell? ⟨gb341, 2, none⟩ = some (.slice (some ad352) l1_2.length c1_2) ∧ w'.cell? ⟨gb341, 3, none⟩ = some (.int .i64 a1_3) ∧ w'.cell? (ad352.add (x8_1).toNat) = some (.int .i64 (rd l1_2 x8_1))) (ds := []) b13A0 (by kernel_rfl) rfl rfl ⟨(bc BK341.out 0).trans rfl, (bc BK341.out 1).trans rfl, (bc BK341.out 2).trans rfl, (bc BK341.out 3).trans rfl, ((HB.out.cell (bL w hw352_0)).trans hw352_0)⟩ (fun hHeld => ?_); refine with_tabW spec_SendParcel.tab8 spec_SendParcel.bits8 (fun HT_ HW_ => ?_)
   generalize wr.drew = w29 at HO_6 HO_7 BK341 HB hx352_0 hHeld ⊢
   refine pI 0 (some 30) b13A1 HT_ ?_
   refine pI 1 (some 31) b13A2 HT_ ?_
   refine pI 3 (some 33) b13A3 HT_ ?_
   refine pI 6 (some 36) b13A4 HT_ ?_
   refine pI 8 (some 38) b13A5 HT_ ?_
   refine tI 2 (some 32) b13A6 HT_ HW_ hHeld rfl rfl (Or.inl ⟨by rfl, by rintro w' ⟨s0, s1, s2, s3, s4⟩; go_simp; with_reducible rfl⟩) ?_
   refine pI 4 (some 34) b13A7 HT_ ?_
   refine tI 5 (some 35) b13A8 HT_ HW_ hHeld rfl rfl (Or.inl ⟨by rfl, by rintro w' ⟨s0, s1, s2, s3, s4⟩; go_simp; with_reducible rfl⟩) ?_
   refine tI 7 (some 37) b13A9 HT_ HW_ hHeld rfl rfl (Or.inl ⟨by rfl, by rintro w' ⟨s0, s1, s2, s3, s4⟩; go_simp; with_reducible rfl⟩) ?_
   refine tI 9 (some 39) b13A10 HT_ HW_ hHeld rfl rfl (Or.inl ⟨by rfl, by rintro w' ⟨s0, s1, s2, s3, s4⟩; go_simp; with_reducible rfl⟩) ?_
   refine pI 10 (some 40) b13A11 HT_ ?_
   refine one_ (i := 11) (N := some 41) b13A12 rfl rfl (one_of HT_.out (by kernel_rfl)) (by decide) (fun K hK => ?_)
   refine goes_ Try.func111 (by kernel_rfl) rfl #[.slice Ao30 x6_1.length co30, .agg #[.int .i64 (rd l1_2 x8_1), .int .i64 2, .int .i64 a1_1, .int .i64 a1_3, .int .i64 0]] (by rfl) rfl rfl M0 ?_
   with_reducible refine (spec_AddHand.calls k1 _ _ x6_1 (rd l1_2 x8_1) 2 a1_1 a1_3 0 t353 true _ ?side1 ?side2 A17.out).mono ?_
   (case side1 => exact Kd.qC (Kd.R_reads' HO_6.out).2.2)
   (case side2 => exact (Kd.R_reads' HO_6.out).2.1)
   rintro e w31 ⟨v354, rfl, ho0, hb⟩
   refine ⟨_, rfl, ?_⟩
   have n0_ := zK (Kd.R_elder' (Kd.qR HO_6.out) (Kd.R_base ho0) hb)
   have n1_ := zK (Kd.R_below (Kd.qR HO_7.out) hb)
   have n2_ := zK (Kd.R_lower (Kd.R_new' ho0 (Kd.R_lt (Kd.qR HO_6.out))) (bZ M5))
   have n3_ := zK (bB (g := gb341) (o := .cells #[.int .i64 a1_0, .int .i64 a1_1, .slice (some ad352) l1_2.length c1_2, .int .i64 a1_3] 53 (0, 0)) (qK BK341.out) hb)
   have n4_ := zK (bT M5 hb)
   clear HO_6
   clear HO_7
   clear BK341
   clear HB
   have HO_6 := n0_
   have HO_7 := n1_
   have HO355 := n2_
   have BK341 := n3_
   have HB := n4_
   clear n0_ n1_ n2_ n3_ n4_
   (try clear hb)
   (try clear hb2)
   (try clear hk)
   (try clear hi)
   (try clear ho0)
   refine hK.out _ _ ⟨(bc BK341.out 0).trans rfl, (bc BK341.out 1).trans rfl, (bc BK341.out 2).trans rfl, (bc BK341.out 3).trans rfl, ((HB.out.cell (bL w hw352_0)).trans hw352_0)⟩ (fun hHeld => ?_)
   clear hK K
   refine norm_ (a' := ?_) ?_ ?_
   rotate_left
   ·show Act.put _ (some 41) _ = _
    simp only [Act.put, sA, sZ, sS, i64_w, i32_w]
    rfl
   refine pI 12 (some 29) b13A13 HT_ ?_
   refine pI 13 (some 42) b13A14 HT_ ?_
   refine pI 14 (some 43) b13A15 HT_ ?_
   refine pI 15 (some 9) b13A16 HT_ ?_
   refine pI 16 (some 10) b13A17 HT_ ?_
   refine done_ (done_of HT_.out (by kernel_rfl)) ?_
   have hcz32_0 : w31.cell? ⟨gb341, 0, none⟩ = some (.int .i64 a1_0) := (bc BK341.out 0).trans rfl
   have hcz32_1 : w31.cell? ⟨gb341, 1, none⟩ = some (.int .i64 a1_1) := (bc BK341.out 1).trans rfl
   have hcz32_2 : w31.cell? ⟨gb341, 2, none⟩ = some (.slice (some ad352) l1_2.length c1_2) := (bc BK341.out 2).trans rfl
   have hcz32_3 : w31.cell? ⟨gb341, 3, none⟩ = some (.int .i64 a1_3) := (bc BK341.out 3).trans rfl
   have hfz32_0 := bf BK341.out 0
   have hfz32_1 := bf BK341.out 1
   have hfz32_2 := bf BK341.out 2
   have hfz32_3 := bf BK341.out 3
   have p357 : 0 ≤ (x8_1 : Int) := oD M1
   have q357 : x8_1 < (l1_2.length : Int) := oD M1
   obtain ⟨ad357, e357, hx357_0⟩ := Kd.at_int HR1_2.out x8_1 p357 q357
   obtain rfl : ad352 = ad357 := (by injection e357)
   replace hx357_0 := (HB.out.cell (bL w hx357_0)).trans hx357_0
   replace p357 := eq_true p357
   replace q357 := eq_true q357
   obtain ⟨Ao33, co33, eo33⟩ := Kd.R_slice HO_7.out
   subst eo33
   try go_wp2_with (first | (go_at_call 90; (with_reducible refine (spec_l8Has.calls k1 _ _ t349 (rd l1_2 x8_1) false _ ?side1 ?side2 A19.out).mono ?_); (case side1 => exact Kd.qC (Kd.R_reads' HO_7.out).2.2); (case side2 => exact (Kd.R_reads' HO_7.out).2.1); rintro e w' ⟨rfl, ⟨nd, rfl⟩⟩) | ((with_reducible refine gate_dst (N := 56) rfl ?_); refine Kd.R_lit k138 _ 138 ?hg (N := 56) ?hd (xs := ([] : List (S138))) (inner := []) (ok := fun _ => True) (okp := fun _ => True) ?hr ?hp (fun _ hk => hk) trivial (Below.refl _ _) (Nat.le_refl _) (by simp) ?_; (case hd => rfl); (case hg => rfl); (case hr => first | (go_simp; done) | (go_simp; rfl)); (case hp => exact (Reps.none _ _)); intro v360 w34 ho35 hb hg_ hnew_; clear hg_ hnew_; (first | rw [← Ny359.out] at ho35 | (simp only [Int.reduceToNat] at ho35; rw [← Ny359.out] at ho35)); have n0_ := zK (Kd.R_elder' (Kd.qR HO_6.out) (Kd.R_base ho35) hb); have n1_ := zK (Kd.R_below (Kd.qR HO_7.out) hb); have n2_ := zK (Kd.R_elder' (Kd.qR HO355.out) (Kd.R_base ho35) hb); have n3_ := zK (Kd.R_lower (Kd.R_new' (Kd.R_new' ho35 (Kd.R_lt (Kd.qR HO_6.out))) (Kd.R_lt (Kd.qR HO355.out))) (bZ M5)); have n4_ := zK (bB (g := gb341) (o := .cells #[.int .i64 a1_0, .int .i64 a1_1, .slice (some ad352) l1_2.length c1_2, .int .i64 a1_3] 53 (0, 0)) (qK BK341.out) hb); have n5_ := zK (bT M5 hb); clear HO_6 HO_7 HO355 BK341 HB; have HO_6 := n0_; have HO_7 := n1_; have HO355 := n2_; have HO361 := n3_; have BK341 := n4_; have HB := n5_; clear n0_ n1_ n2_ n3_ n4_ n5_; clear hb ho35) | ((with_reducible refine gate_builtin (b := .append) (xs := #[.tmp 56, .tmp 57]) rfl ?_); at_builtin; refine Kd.R_append_rows k138 (w0 := w) w.heap.size rfl (.tmp 56) (.tmp 57) 51 138 (.agg #[(.int .i64 0), (.int .i64 0), (.int .i64 0), (.int .i64 0), (.int .i64 0)]) 40 rfl Try.underlying51 info138 rfl (by decide) (by omega) v360 y359 l0 _ _ _ (fun k_ => some k_ ≠ (.slice Ao30 x6_1.length co30 : Value).ownBlock ∧ some k_ ≠ (v354 : Value).ownBlock) (fun _ => False) rfl rfl ?aO ?aR (fun _ _ h => h) (fun _ h => h.elim) ?aF ?aB ?aS ?aL ?_; (case aR => exact Kd.qC (Kd.C_below HR0.out HB.out)); (case aB => exact M5); (case aF => exact (fun k_ hk => ⟨Kd.fresh' (Kd.R_lt (Kd.qR HO_6.out)) k_ hk, Kd.fresh' (Kd.R_lt (Kd.qR HO355.out)) k_ hk⟩)); (case aO => exact (by (with_reducible repeat (first | apply Kd.RA | apply Kd.RN | apply Kd.RD)); exact Kd.R_mono HO361.out (fun _ hk => ⟨hk.1.2, hk.2⟩))); (case aS => exact (bZ M5)); (case aL => have := LMc27.out; omega); intro v363 w36 ho hb hg hat; rw [← Ny362.out] at ho; have n0_ := zK (Kd.R_after (ok := (fun k_ => some k_ ≠ (v354 : Value).ownBlock)) (by (with_reducible repeat (first | apply Kd.RA | apply Kd.RN | apply Kd.RD)); exact Kd.R_mono HO_6.out (fun _ hk => ⟨hk.1.2, hk.2⟩)) hg hat); have n1_ := zK (Kd.R_over' (Kd.qR HO_7.out) (Kd.R_typed (Kd.qR HO361.out)) (by decide) hg); have n2_ := zK (blk_grown (g := gb341) (o := .cells #[.int .i64 a1_0, .int .i64 a1_1, .slice (some ad352) l1_2.length c1_2, .int .i64 a1_3] 53 (0, 0)) (qK BK341.out) hg (Kd.R_ne HO361.out BK341.out (by decide))); have n3_ := zK (Kd.R_after (ok := (fun k_ => some k_ ≠ (.slice Ao30 x6_1.length co30 : Value).ownBlock)) (by (with_reducible repeat (first | apply Kd.RA | apply Kd.RN | apply Kd.RD)); exact Kd.R_mono HO355.out (fun _ hk => ⟨hk.1.2, hk.2⟩)) hg hat); have n4_ := zK (hb); have n5_ := zK (ho); clear HO_6 HO_7 BK341 HO355 HB HO361; have HO_6 := n0_; have HO_7 := n1_; have BK341 := n2_; have HO355 := n3_; have HB := n4_; have HO364 := n5_; clear n0_ n1_ n2_ n3_ n4_ n5_; clear ho hb hg hat))
   go_ret2
   exact ⟨_, by first | rfl | (simp [errW_none, errW_some] <;> rfl) | (simp [*, errW_none, errW_some] <;> rfl), by (with_reducible repeat (first | apply Kd.RA | apply Kd.RN | apply Kd.RD)); exact Kd.R_mono HO364.out (fun _ hk => trivial), by repeat (first | (with_reducible first | exact HB.out | apply bA | apply bN | apply b1 | refine bS ?_ GE341.out) | exact HB.out)⟩
end Go.Proofs.Ytejhjenlodclpaa.PFnExactSendAll
