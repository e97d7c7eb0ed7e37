/- Walks of functions that FnFates reaches: written by a tool of the kit for this claim, then shortened by a program of ours. -/
import Derived.Test.YtfoallhhdilgjaaPFnFatesx0
import Derived.Test.YtfoallhhdilgjaaPFnFatesx3
import Derived.Test.YtfoallhhdilgjaaPFnFatesx5
/- narrow -/
namespace Go.Proofs.Ytfoallhhdilgjaa.PFnFates
open Go.RowKit Go.Proofs.YtfoallhhdilgjaaW.PrintWords Go.Proofs.YtfoallhhdilgjaaW.PrintLast Go.Proofs.YtfoallhhdilgjaaW.PrintMore
attribute [local go_sem] max2_int min2_int max_two min_two max_three min_three max_four min_four   -- for this text's walks alone
set_option linter.unusedVariables false
set_option linter.unusedSimpArgs false

/-! ### spec_SetState: function 38 -/
def spec_SetState.j0 : Nat → List (S38) → Int → List (S38) → Int → Bool → Option ((List (S38)) × Bool)
 | 0, _, _, _, _, _ => none
 | k + 1, x0, x2, x8, x9, x24 => if x24 = true then (some (x8, false)) else (if 0 ≤ x9 then (if x9 < (x0.length : Int) then (if ((rd_T38 x0 x9).f4) = 0 then (if x2 = 1 then (if x9 < (x8.length : Int) then ((some (x8.set (x9 : Int).toNat (⟨(rd_T38 x8 x9).f0, (rd_T38 x8 x9).f1, (rd_T38 x8 x9).f2, (rd_T38 x8 x9).f3, x2⟩ : S38) : List (S38))).bind fun y324 => ((spec_AreClaims.f k y324).bind fun t325 => (if t325 = true then (some (y324, true)) else ((some (([] : List (S38)) : List (S38))).bind fun y326 => (if y326.length + x0.length < 3518437208883 then (some ((y326 ++ x0), false)) else (none)))))) else (none)) else (if x2 = 2 then (if x9 < (x8.length : Int) then ((some (x8.set (x9 : Int).toNat (⟨(rd_T38 x8 x9).f0, (rd_T38 x8 x9).f1, (rd_T38 x8 x9).f2, (rd_T38 x8 x9).f3, x2⟩ : S38) : List (S38))).bind fun y332 => ((spec_AreClaims.f k y332).bind fun t333 => (if t333 = true then (some (y332, true)) else ((some (([] : List (S38)) : List (S38))).bind fun y334 => (if y334.length + x0.length < 3518437208883 then (some ((y334 ++ x0), false)) else (none)))))) else (none)) else (if ((rd_T38 x0 x9).f4) = 1 then (if x9 < (x8.length : Int) then ((some (x8.set (x9 : Int).toNat (⟨(rd_T38 x8 x9).f0, (rd_T38 x8 x9).f1, (rd_T38 x8 x9).f2, (rd_T38 x8 x9).f3, x2⟩ : S38) : List (S38))).bind fun y340 => (if x2 = 3 then ((spec_AreClaims.f k y340).bind fun t341 => (if t341 = true then (some (y340, true)) else ((some (([] : List (S38)) : List (S38))).bind fun y342 => (if y342.length + x0.length < 3518437208883 then (some ((y342 ++ x0), false)) else (none))))) else ((some (([] : List (S38)) : List (S38))).bind fun y348 => (if y348.length + x0.length < 3518437208883 then (some ((y348 ++ x0), false)) else (none))))) else (none)) else (if x9 < (x8.length : Int) then ((some (([] : List (S38)) : List (S38))).bind fun y355 => (if y355.length + x0.length < 3518437208883 then (some ((y355 ++ x0), false)) else (none))) else (none))))) else (if ((rd_T38 x0 x9).f4) = 1 then (if x9 < (x8.length : Int) then ((some (x8.set (x9 : Int).toNat (⟨(rd_T38 x8 x9).f0, (rd_T38 x8 x9).f1, (rd_T38 x8 x9).f2, (rd_T38 x8 x9).f3, x2⟩ : S38) : List (S38))).bind fun y361 => (if x2 = 3 then ((spec_AreClaims.f k y361).bind fun t362 => (if t362 = true then (some (y361, true)) else ((some (([] : List (S38)) : List (S38))).bind fun y363 => (if y363.length + x0.length < 3518437208883 then (some ((y363 ++ x0), false)) else (none))))) else ((some (([] : List (S38)) : List (S38))).bind fun y369 => (if y369.length + x0.length < 3518437208883 then (some ((y369 ++ x0), false)) else (none))))) else (none)) else (if x9 < (x8.length : Int) then ((some (([] : List (S38)) : List (S38))).bind fun y376 => (if y376.length + x0.length < 3518437208883 then (some ((y376 ++ x0), false)) else (none))) else (none)))) else (none)) else (none))
def spec_SetState.f (k : Nat) (l0 : List (S38)) (a1 : Int) (a2 : Int) : Option ((List (S38)) × Bool) := (some (([] : List (S38)) : List (S38))).bind fun y315 => (if y315.length + l0.length < 3518437208883 then ((some (y315 ++ l0 : List (S38))).bind fun y318 => ((spec_FindClaim.f k l0 a1).bind fun t321 => (if t321 < 0 then (spec_SetState.j0 k l0 a2 y318 t321 true) else ((spec_AreClaims.f k l0).bind fun t322 => (spec_SetState.j0 k l0 a2 y318 t321 (!t322)))))) else (none))
set_option maxHeartbeats 8000000 in
set_option maxRecDepth 100000 in
theorem spec_SetState.calls (k : Nat) (A0 : Option Addr) (c0 : Nat) (l0 : List (S38)) (a1 : Int) (a2 : Int) (r1 : List (S38)) (r2 : Bool) (w : World) (hr0 : Kd.C k38 w A0 l0.length l0) (hc0 : l0.length ≤ c0) (h : spec_SetState.f k l0 a1 a2 = some (r1, r2)) :
  Calls Try.prog 38 #[.slice A0 l0.length c0, .int .i64 a1, .int .i64 a2] w fun e w' => ∃ v0_ : Value, e = .returned (.tuple #[v0_, .bool r2]) ∧ Kd.R k38 38 w' w.heap.size (fun _ => True) v0_ r1 ∧ Below w.heap.size w w' := by
 have HR0 := zK hr0
 have HC0 := zK hc0
 clear hr0 hc0
 have HB := zK (Below.refl w.heap.size w)
 have H : ((some (([] : List (S38)) : List (S38))).bind fun y315 => (if y315.length + l0.length < 3518437208883 then ((some (y315 ++ l0 : List (S38))).bind fun y318 => ((spec_FindClaim.f k l0 a1).bind fun t321 => (if t321 < 0 then (spec_SetState.j0 k l0 a2 y318 t321 true) else ((spec_AreClaims.f k l0).bind fun t322 => (spec_SetState.j0 k l0 a2 y318 t321 (!t322)))))) else (none))) = some (r1, r2) := h
 clear h
 obtain ⟨y315, hy315⟩ : ∃ y_ : List (S38), y_ = (([] : List (S38))) := ⟨_, rfl⟩
 replace H : (if y315.length + l0.length < 3518437208883 then ((some (y315 ++ l0 : List (S38))).bind fun y318 => ((spec_FindClaim.f k l0 a1).bind fun t321 => (if t321 < 0 then (spec_SetState.j0 k l0 a2 y318 t321 true) else ((spec_AreClaims.f k l0).bind fun t322 => (spec_SetState.j0 k l0 a2 y318 t321 (!t322)))))) else (none)) = some (r1, r2) := by first | (rw [hy315]; with_reducible exact H) | (have H2_ := (Option.bind_some _ _).symm.trans H; rw [hy315]; with_reducible exact H2_) | (have H2_ := (Option.bind_some _ _).symm.trans H; with_reducible exact H2_) | with_reducible exact H | (rw [hy315]; exact H) | exact H
 have Ny315 := zK hy315
 clear hy315
 by_cases c4 : y315.length + l0.length < 3518437208883
 rotate_left
 ·rw [if_neg c4] at H
  exact absurd H (by simp)

 rw [if_pos c4] at H
 have LMc4 := zK c4
 clear c4
 obtain ⟨y318, hy318⟩ : ∃ y_ : List (S38), y_ = (y315 ++ l0) := ⟨_, rfl⟩
 replace H : ((spec_FindClaim.f k l0 a1).bind fun t321 => (if t321 < 0 then (spec_SetState.j0 k l0 a2 y318 t321 true) else ((spec_AreClaims.f k l0).bind fun t322 => (spec_SetState.j0 k l0 a2 y318 t321 (!t322))))) = some (r1, r2) := by first | (rw [hy318]; with_reducible exact H) | (have H2_ := (Option.bind_some _ _).symm.trans H; rw [hy318]; with_reducible exact H2_) | (have H2_ := (Option.bind_some _ _).symm.trans H; with_reducible exact H2_) | with_reducible exact H | (rw [hy318]; exact H) | exact H
 have Ny318 := zK hy318
 clear hy318
 replace H := Option.bind_eq_some_iff.mp H
 obtain ⟨t321, A50, H⟩ := H
 replace H : (if t321 < 0 then (spec_SetState.j0 k l0 a2 y318 t321 true) else ((spec_AreClaims.f k l0).bind fun t322 => (spec_SetState.j0 k l0 a2 y318 t321 (!t322)))) = some (r1, r2) := H
 have A5 := zK A50
 clear A50
 have HC6 := zK H
 clear H
 go_enter Try.func38, Try.ntmps38
 go_upto_region 3 with (first | ((with_reducible refine gate_dst (N := 12) rfl ?_); refine Kd.R_lit k38 _ 38 ?hg (N := 12) ?hd (xs := ([] : List (S38))) (inner := []) (ok := fun _ => True) (okp := fun _ => True) ?hr ?hp (fun _ hk => hk) trivial (Below.refl _ _) (Nat.le_refl _) (by simp) ?_; (case hd => rfl); (case hg => rfl); (case hr => first | (go_simp; done) | (go_simp; rfl)); (case hp => exact (Reps.none _ _)); intro v316 w7 ho8 hb hg_ hnew_; clear hg_ hnew_; (first | rw [← Ny315.out] at ho8 | (simp only [Int.reduceToNat] at ho8; rw [← Ny315.out] at ho8)); have n0_ := zK (Kd.R_lower ho8 (bZ (qB HB.out))); have n1_ := zK (bT (qB HB.out) hb); clear HB; have HO317 := n0_; have HB := n1_; clear n0_ n1_; clear hb ho8) | ((with_reducible refine gate_builtin (b := .append) (xs := #[.tmp 12, .tmp 13]) rfl ?_); at_builtin; refine Kd.R_append_rows k38 (w0 := w) w.heap.size rfl (.tmp 12) (.tmp 13) 30 38 (.agg #[(.int .i64 0), (.int .i64 0), (.int .i64 0), (.int .i64 0), (.int .i64 0)]) 40 rfl Try.underlying30 info38 rfl (by decide) (by omega) v316 y315 l0 _ _ _ (fun _ => True) (fun _ => False) rfl rfl ?aO ?aR (fun _ _ h => h) (fun _ h => h.elim) ?aF ?aB ?aS ?aL ?_; (case aR => exact Kd.qC (Kd.C_below HR0.out HB.out)); (case aB => exact (qB HB.out)); (case aF => exact (fun _ _ => trivial)); (case aO => exact (Kd.qR HO317.out)); (case aS => exact (bZ (qB HB.out))); (case aL => have := LMc4.out; omega); intro v319 w9 ho hb hg hat; rw [← Ny318.out] at ho; have n0_ := zK (hb); have n1_ := zK (ho); clear HB; clear HO317; have HB := n0_; have HO320 := n1_; clear n0_ n1_; clear ho hb hg hat) | ((with_reducible refine gate_callee (f := 43) rfl ?_); refine goesL_ (some 17) rfl rfl Try.func43 (by kernel_rfl) rfl #[.slice A0 l0.length c0, .int .i64 a1] rfl m0 ?_; (with_reducible refine (spec_FindClaim.calls k _ _ l0 a1 t321 _ ?side1 ?side2 A5.out).mono ?_); (case side1 => exact Kd.qC (Kd.C_below HR0.out HB.out)); (case side2 => exact HC0.out); rintro e w' ⟨rfl, ⟨nd, rfl⟩⟩; refine ⟨_, rfl, ?_⟩))
 (try simp only [Act.put, sA, sZ, sS])
 go_cut [24] (fun v24 wc => ∃ (kq : Nat) (x24_5 : Bool), v24 = .bool x24_5 ∧ Aside0 (spec_SetState.j0 kq l0 a2 y318 t321 x24_5 = some (r1, r2)) ∧ Aside0 (kq ≤ k) ∧ Aside0 (Kd.R k38 38 wc w.heap.size (fun _ => True) v319 y318) ∧ Aside0 (Below w.heap.size w wc))
 case first =>
  have H := HC6.out
  clear HC6
  by_cases c10 : t321 < 0
  ·rw [if_pos c10] at H
   have c10b0 : decide (t321 < 0) = true := decide_eq_true c10
   clear c10
   (first | rw [c10b0] | rw [c10b1] | (simp only [i64_w, i32_w]; rw [c10b0]) | skip)
   have H' := zK H
   clear H
   go_wp2
   go_meet
   case rel => exact ⟨_, (true), m9, H', ⟨by first | omega | exact Nat.le_refl _⟩, ⟨by exact Kd.qR HO320.out⟩, ⟨by exact qB HB.out⟩⟩
  rw [if_neg c10] at H
  have c10b0 : decide (t321 < 0) = false := decide_eq_false c10
  clear c10
  (first | rw [c10b0] | rw [c10b1] | (simp only [i64_w, i32_w]; rw [c10b0]) | skip)
  replace H := Option.bind_eq_some_iff.mp H
  obtain ⟨t322, A110, H⟩ := H
  replace H : (spec_SetState.j0 k l0 a2 y318 t321 (!t322)) = some (r1, r2) := H
  have A11 := zK A110
  clear A110
  have H' := zK H
  clear H
  go_wp2_with (first | (go_at_call 42; (with_reducible refine (spec_AreClaims.calls k _ _ l0 t322 _ ?side1 ?side2 A11.out).mono ?_); (case side1 => exact Kd.qC (Kd.C_below HR0.out HB.out)); (case side2 => exact HC0.out); rintro e w12 ⟨rfl, hb⟩; have n0_ := zK (Kd.R_below (Kd.qR HO320.out) hb); have n1_ := zK (bT (qB HB.out) hb); clear HO320; clear HB; have HO320 := n0_; have HB := n1_; clear n0_ n1_; (try clear hb); (try clear hb2); (try clear hk); (try clear hi)))
  go_meet
  case rel => exact ⟨_, (!t322), m9, H', ⟨by first | omega | exact Nat.le_refl _⟩, ⟨by exact Kd.qR HO320.out⟩, ⟨by exact qB HB.out⟩⟩
 case rest =>
  clear HC6
  try clear c1
  try clear p2
  try clear c3
  try clear c4
  try clear c10
  try clear c10b0
  obtain ⟨kq, x24_5, rfl, HA, HJ5, HO_8, HB⟩ := hcut
  cases kq with
  | zero => exact absurd HA.out (by simp [spec_SetState.j0])
  | succ kj5 =>
   have H := HA.out
   clear HA
   simp only [spec_SetState.j0] at H
   by_cases c13 : x24_5 = true
   ·subst c13
    have H1 : (some (y318, false)) = some (r1, r2) := by rw [if_pos rfl] at H; exact H
    clear H
    have H := H1
    clear H1
    simp only [Option.some.injEq, Prod.mk.injEq] at H
    obtain ⟨rfl, rfl⟩ := H
    go_wp2
    go_ret2
    exact ⟨_, by first | rfl | (simp [errW_none, errW_some] <;> rfl) | (simp [*, errW_none, errW_some] <;> rfl), by exact Kd.qR HO_8.out, by exact qB HB.out⟩
   replace c13 := Bool.eq_false_iff.mpr c13
   subst c13
   have H1 : (if 0 ≤ t321 then (if t321 < (l0.length : Int) then (if ((rd_T38 l0 t321).f4) = 0 then (if a2 = 1 then (if t321 < (y318.length : Int) then ((some (y318.set (t321 : Int).toNat (⟨(rd_T38 y318 t321).f0, (rd_T38 y318 t321).f1, (rd_T38 y318 t321).f2, (rd_T38 y318 t321).f3, a2⟩ : S38) : List (S38))).bind fun y324 => ((spec_AreClaims.f kj5 y324).bind fun t325 => (if t325 = true then (some (y324, true)) else ((some (([] : List (S38)) : List (S38))).bind fun y326 => (if y326.length + l0.length < 3518437208883 then (some ((y326 ++ l0), false)) else (none)))))) else (none)) else (if a2 = 2 then (if t321 < (y318.length : Int) then ((some (y318.set (t321 : Int).toNat (⟨(rd_T38 y318 t321).f0, (rd_T38 y318 t321).f1, (rd_T38 y318 t321).f2, (rd_T38 y318 t321).f3, a2⟩ : S38) : List (S38))).bind fun y332 => ((spec_AreClaims.f kj5 y332).bind fun t333 => (if t333 = true then (some (y332, true)) else ((some (([] : List (S38)) : List (S38))).bind fun y334 => (if y334.length + l0.length < 3518437208883 then (some ((y334 ++ l0), false)) else (none)))))) else (none)) else (if ((rd_T38 l0 t321).f4) = 1 then (if t321 < (y318.length : Int) then ((some (y318.set (t321 : Int).toNat (⟨(rd_T38 y318 t321).f0, (rd_T38 y318 t321).f1, (rd_T38 y318 t321).f2, (rd_T38 y318 t321).f3, a2⟩ : S38) : List (S38))).bind fun y340 => (if a2 = 3 then ((spec_AreClaims.f kj5 y340).bind fun t341 => (if t341 = true then (some (y340, true)) else ((some (([] : List (S38)) : List (S38))).bind fun y342 => (if y342.length + l0.length < 3518437208883 then (some ((y342 ++ l0), false)) else (none))))) else ((some (([] : List (S38)) : List (S38))).bind fun y348 => (if y348.length + l0.length < 3518437208883 then (some ((y348 ++ l0), false)) else (none))))) else (none)) else (if t321 < (y318.length : Int) then ((some (([] : List (S38)) : List (S38))).bind fun y355 => (if y355.length + l0.length < 3518437208883 then (some ((y355 ++ l0), false)) else (none))) else (none))))) else (if ((rd_T38 l0 t321).f4) = 1 then (if t321 < (y318.length : Int) then ((some (y318.set (t321 : Int).toNat (⟨(rd_T38 y318 t321).f0, (rd_T38 y318 t321).f1, (rd_T38 y318 t321).f2, (rd_T38 y318 t321).f3, a2⟩ : S38) : List (S38))).bind fun y361 => (if a2 = 3 then ((spec_AreClaims.f kj5 y361).bind fun t362 => (if t362 = true then (some (y361, true)) else ((some (([] : List (S38)) : List (S38))).bind fun y363 => (if y363.length + l0.length < 3518437208883 then (some ((y363 ++ l0), false)) else (none))))) else ((some (([] : List (S38)) : List (S38))).bind fun y369 => (if y369.length + l0.length < 3518437208883 then (some ((y369 ++ l0), false)) else (none))))) else (none)) else (if t321 < (y318.length : Int) then ((some (([] : List (S38)) : List (S38))).bind fun y376 => (if y376.length + l0.length < 3518437208883 then (some ((y376 ++ l0), false)) else (none))) else (none)))) else (none)) else (none)) = some (r1, r2) := by rw [if_neg (show ¬ (false = true) by decide)] at H; exact H
   clear H
   have H := H1
   clear H1
   by_cases c14 : 0 ≤ t321
   rotate_left
   ·rw [if_neg c14] at H
    exact absurd H (by simp)
   rw [if_pos c14] at H
   have c14b0 : decide (0 ≤ t321) = true := decide_eq_true c14
   clear c14
   by_cases c15 : t321 < (l0.length : Int)
   rotate_left
   ·rw [if_neg c15] at H
    exact absurd H (by simp)
   rw [if_pos c15] at H
   have c15b0 : decide (t321 < (l0.length : Int)) = true := decide_eq_true c15
   clear c15
   by_cases c16 : ((rd_T38 l0 t321).f4) = 0
   rotate_left
   ·rw [if_neg c16] at H
    have c16b0 : (((rd_T38 l0 t321).f4) == 0) = false := beq_eq_false_iff_ne.mpr c16
    have c16b1 : (((rd_T38 l0 t321).f4) != 0) = true := bne_iff_ne.mpr c16
    by_cases c77 : ((rd_T38 l0 t321).f4) = 1
    rotate_left
    ·rw [if_neg c77] at H
     have c77b0 : (((rd_T38 l0 t321).f4) == 1) = false := beq_eq_false_iff_ne.mpr c77
     have c77b1 : (((rd_T38 l0 t321).f4) != 1) = true := bne_iff_ne.mpr c77
     by_cases c99 : t321 < (y318.length : Int)
     rotate_left
     ·rw [if_neg c99] at H
      exact absurd H (by simp)
     rw [if_pos c99] at H
     have c99b0 : decide (t321 < (y318.length : Int)) = true := decide_eq_true c99
     clear c99
     obtain ⟨y375, hy375⟩ : ∃ y_ : List (S38), y_ = (y318.set (t321 : Int).toNat (⟨(rd_T38 y318 t321).f0, (rd_T38 y318 t321).f1, (rd_T38 y318 t321).f2, (rd_T38 y318 t321).f3, a2⟩ : S38)) := ⟨_, rfl⟩
     replace H : ((some (([] : List (S38)) : List (S38))).bind fun y376 => (if y376.length + l0.length < 3518437208883 then (some ((y376 ++ l0), false)) else (none))) = some (r1, r2) := by first | (rw [hy375]; with_reducible exact H) | (have H2_ := (Option.bind_some _ _).symm.trans H; rw [hy375]; with_reducible exact H2_) | (have H2_ := (Option.bind_some _ _).symm.trans H; with_reducible exact H2_) | with_reducible exact H | (rw [hy375]; exact H) | exact H
     have Ny375 := zK hy375
     clear hy375
     obtain ⟨y376, hy376⟩ : ∃ y_ : List (S38), y_ = (([] : List (S38))) := ⟨_, rfl⟩
     replace H : (if y376.length + l0.length < 3518437208883 then (some ((y376 ++ l0), false)) else (none)) = some (r1, r2) := by first | (rw [hy376]; with_reducible exact H) | (have H2_ := (Option.bind_some _ _).symm.trans H; rw [hy376]; with_reducible exact H2_) | (have H2_ := (Option.bind_some _ _).symm.trans H; with_reducible exact H2_) | with_reducible exact H | (rw [hy376]; exact H) | exact H
     have Ny376 := zK hy376
     clear hy376
     by_cases c101 : y376.length + l0.length < 3518437208883
     rotate_left
     ·rw [if_neg c101] at H
      exact absurd H (by simp)
     rw [if_pos c101] at H
     have LMc101 := zK c101
     clear c101
     obtain ⟨y379, hy379⟩ : ∃ y_ : List (S38), y_ = (y376 ++ l0) := ⟨_, rfl⟩
     replace H : (some (y379, false)) = some (r1, r2) := by first | (rw [hy379]; with_reducible exact H) | (have H2_ := (Option.bind_some _ _).symm.trans H; rw [hy379]; with_reducible exact H2_) | (have H2_ := (Option.bind_some _ _).symm.trans H; with_reducible exact H2_) | with_reducible exact H | (rw [hy379]; exact H) | exact H
     have Ny379 := zK hy379
     clear hy379
     simp only [Option.some.injEq, Prod.mk.injEq] at H
     obtain ⟨rfl, rfl⟩ := H
     have p323 : 0 ≤ (t321 : Int) := oD m2
     have q323 : t321 < (l0.length : Int) := oD m2
     obtain ⟨ad323, e323, hx323_0, hx323_1, hx323_2, hx323_3, hx323_4⟩ := at_T38 HR0.out t321 p323 q323
     cases e323
     replace hx323_0 := (HB.out.cell (bL w hx323_0)).trans hx323_0
     replace hx323_1 := (HB.out.cell (bL w hx323_1)).trans hx323_1
     replace hx323_2 := (HB.out.cell (bL w hx323_2)).trans hx323_2
     replace hx323_3 := (HB.out.cell (bL w hx323_3)).trans hx323_3
     replace hx323_4 := (HB.out.cell (bL w hx323_4)).trans hx323_4
     replace p323 := eq_true p323
     replace q323 := eq_true q323
     have p100 : 0 ≤ (t321 : Int) := oD m2
     have q100 : (t321 : Int) < ((y318.length : Int) : Int) := oD m2
     obtain ⟨go100, co100, eo100, gb100, gl100, cl100, HG100⟩ := Kd.R_form HO_8.out (by omega)
     (first | cases eo100 | (injection eo100 with ea_ en_ ec_; (first | subst ea_ | (injection ea_ with ea_; subst ea_)); subst ec_; clear en_))
     have GB100 := zK gb100
     have GG100 := zK HG100
     clear gb100 gl100 HG100
     obtain ⟨ce100, hcl100, hM100, hcc100, hfr100⟩ := Kd.R_elem HO_8.out z38 (t321 : Int) p100 q100
     obtain rfl := k38_openM hM100
     have hx100_0 : wc.cell? ⟨go100, (t321 : Int).toNat * 5, none⟩ = some (.int .i64 ((rd_T38 y318 t321).f0)) := hcc100 0 _ rfl
     have hx100_1 : wc.cell? ⟨go100, (t321 : Int).toNat * 5 + 1, none⟩ = some (.int .i64 ((rd_T38 y318 t321).f1)) := hcc100 1 _ rfl
     have hx100_2 : wc.cell? ⟨go100, (t321 : Int).toNat * 5 + 2, none⟩ = some (.int .i64 ((rd_T38 y318 t321).f2)) := hcc100 2 _ rfl
     have hx100_3 : wc.cell? ⟨go100, (t321 : Int).toNat * 5 + 3, none⟩ = some (.int .i64 ((rd_T38 y318 t321).f3)) := hcc100 3 _ rfl
     have hx100_4 : wc.cell? ⟨go100, (t321 : Int).toNat * 5 + 4, none⟩ = some (.int .i64 ((rd_T38 y318 t321).f4)) := hcc100 4 _ rfl
     have hf100_0 : wc.frozen? ⟨go100, (t321 : Int).toNat * 5, none⟩ = false := hfr100 0
     have hf100_1 : wc.frozen? ⟨go100, (t321 : Int).toNat * 5 + 1, none⟩ = false := hfr100 1
     have hf100_2 : wc.frozen? ⟨go100, (t321 : Int).toNat * 5 + 2, none⟩ = false := hfr100 2
     have hf100_3 : wc.frozen? ⟨go100, (t321 : Int).toNat * 5 + 3, none⟩ = false := hfr100 3
     have hf100_4 : wc.frozen? ⟨go100, (t321 : Int).toNat * 5 + 4, none⟩ = false := hfr100 4
     clear hcl100 hcc100 hfr100 hM100
     replace p100 := eq_true p100
     replace q100 := eq_true q100
     have HX102 := zK (show Kd.R k38 38 wc w.heap.size (fun _ => True) (.slice (some ⟨go100, 0, none⟩) y318.length co100) y318 from (Kd.qR HO_8.out))
     obtain ⟨ce102, hcl102, hM102, hcc102, hfr102⟩ := Kd.R_elem HX102.out z38 (t321 : Int) (oD m2) (by have h_ : (t321 : Int) < ((y318.length : Int) : Int) := oD m2; first | exact h_ | (have e_ := (Kd.R_reads' HO_8.out).1; omega) | simpa using h_)
     obtain rfl := k38_openM hM102
     have HP102 := Kd.R_seg HX102.out (t321 : Int) (oD m2) (by have h_ : (t321 : Int) < ((y318.length : Int) : Int) := oD m2; first | exact h_ | (have e_ := (Kd.R_reads' HO_8.out).1; omega) | simpa using h_) (seg := [.int .i64 a2]) (j := 4) hcl102 hcc102 (show 5 ≤ 5 from by decide) (x' := (⟨(rd_T38 y318 t321).f0, (rd_T38 y318 t321).f1, (rd_T38 y318 t321).f2, (rd_T38 y318 t321).f3, a2⟩ : S38)) (k38_mkM _ _ _ (⟨(rd_T38 y318 t321).f0, (rd_T38 y318 t321).f1, (rd_T38 y318 t321).f2, (rd_T38 y318 t321).f3, a2⟩ : S38) ) (fun _ hk => hk)
     have hx102_4 := hcc102 4 _ rfl
     (try simp only [show (k38).sz = 5 from rfl, Nat.mul_one, Nat.add_zero] at hx102_4)
     have hf102_4 := hfr102 4
     (try simp only [show (k38).sz = 5 from rfl, Nat.mul_one, Nat.add_zero] at hf102_4)
     clear hcl102 hcc102 hfr102 hM102
     go_wp2_with (first | ((with_reducible refine gate_store (t := 3) (p := 53) rfl ?_); refine store_event (t := 3) (p := 53) (v := ?vo_w103) (w1 := (wc.setCell ⟨go100, (t321 : Int).toNat * 5 + 4, none⟩ (.int .i64 a2))) ?hg ?ho ?hn ?hr ?_; (case ho => rfl); (case hg => rfl); (case hn => rfl); (case hr => first | (go_simp; done) | (go_simp; rfl)); intro w103 hw; have hg : wc.grownBy w103 (some go100) := (by rw [hw]; exact HP102.2); have hp_ : Kd.R k38 38 w103 w.heap.size (fun _ => True) (.slice (some ⟨go100, 0, none⟩) y318.length co100) y375 := (by rw [hw, Ny375.out]; exact HP102.1); clear HP102; have n0_ := zK (hp_); have n1_ := zK ((by rw [hw]; exact bS (HB.out) GB100.out : Below w.heap.size w w103)); clear HO_8; clear HB; have HO_8 := n0_; have HB := n1_; clear n0_ n1_; clear hg hw hp_) | ((with_reducible refine gate_dst (N := 61) rfl ?_); refine Kd.R_lit k38 _ 38 ?hg (N := 61) ?hd (xs := ([] : List (S38))) (inner := []) (ok := fun _ => True) (okp := fun _ => True) ?hr ?hp (fun _ hk => hk) trivial (Below.refl _ _) (Nat.le_refl _) (by simp) ?_; (case hd => rfl); (case hg => rfl); (case hr => first | (go_simp; done) | (go_simp; rfl)); (case hp => exact (Reps.none _ _)); intro v377 w104 ho105 hb hg_ hnew_; clear hg_ hnew_; (first | rw [← Ny376.out] at ho105 | (simp only [Int.reduceToNat] at ho105; rw [← Ny376.out] at ho105)); have n0_ := zK (Kd.R_elder' (Kd.qR HO_8.out) (Kd.R_base ho105) hb); have n1_ := zK (Kd.R_lower (Kd.R_new' ho105 (Kd.R_lt (Kd.qR HO_8.out))) (bZ (qB HB.out))); have n2_ := zK (bT (qB HB.out) hb); clear HO_8; clear HB; have HO_8 := n0_; have HO378 := n1_; have HB := n2_; clear n0_ n1_ n2_; clear hb ho105) | ((with_reducible refine gate_builtin (b := .append) (xs := #[.tmp 61, .tmp 62]) rfl ?_); at_builtin; refine Kd.R_append_rows k38 (w0 := w) w.heap.size rfl (.tmp 61) (.tmp 62) 30 38 (.agg #[(.int .i64 0), (.int .i64 0), (.int .i64 0), (.int .i64 0), (.int .i64 0)]) 40 rfl Try.underlying30 info38 rfl (by decide) (by omega) v377 y376 l0 _ _ _ (fun k_ => some k_ ≠ (.slice (some ⟨go100, 0, none⟩) y318.length co100 : Value).ownBlock) (fun _ => False) rfl rfl ?aO ?aR (fun _ _ h => h) (fun _ h => h.elim) ?aF ?aB ?aS ?aL ?_; (case aR => exact Kd.qC (Kd.C_below HR0.out HB.out)); (case aB => exact (qB HB.out)); (case aF => exact (fun k_ hk => Kd.fresh' (Kd.R_lt (Kd.qR HO_8.out)) k_ hk)); (case aO => exact (by (with_reducible repeat (first | apply Kd.RA | apply Kd.RN | apply Kd.RD)); exact Kd.R_mono HO378.out (fun _ hk => hk.2))); (case aS => exact (bZ (qB HB.out))); (case aL => have := LMc101.out; omega); intro v380 w106 ho hb hg hat; rw [← Ny379.out] at ho; have n0_ := zK (Kd.R_after (ok := (fun _ => True)) (Kd.qR HO_8.out) hg hat); have n1_ := zK (hb); have n2_ := zK (ho); clear HO_8; clear HB; clear HO378; have HO_8 := n0_; have HB := n1_; have HO381 := n2_; clear n0_ n1_ n2_; clear ho hb hg hat))
     go_ret2
     exact ⟨_, by first | rfl | (simp [errW_none, errW_some] <;> rfl) | (simp [*, errW_none, errW_some] <;> rfl), by (with_reducible repeat (first | apply Kd.RA | apply Kd.RN | apply Kd.RD)); exact Kd.R_mono HO381.out (fun _ hk => trivial), by exact qB HB.out⟩
    rw [if_pos c77] at H
    have c77b0 : (((rd_T38 l0 t321).f4) == 1) = true := beq_iff_eq.mpr c77
    have c77b1 : (((rd_T38 l0 t321).f4) != 1) = false := bne_eq_false_iff_eq.mpr c77
    clear c77
    by_cases c78 : t321 < (y318.length : Int)
    rotate_left
    ·rw [if_neg c78] at H
     exact absurd H (by simp)
    rw [if_pos c78] at H
    have c78b0 : decide (t321 < (y318.length : Int)) = true := decide_eq_true c78
    clear c78
    obtain ⟨y361, hy361⟩ : ∃ y_ : List (S38), y_ = (y318.set (t321 : Int).toNat (⟨(rd_T38 y318 t321).f0, (rd_T38 y318 t321).f1, (rd_T38 y318 t321).f2, (rd_T38 y318 t321).f3, a2⟩ : S38)) := ⟨_, rfl⟩
    replace H : (if a2 = 3 then ((spec_AreClaims.f kj5 y361).bind fun t362 => (if t362 = true then (some (y361, true)) else ((some (([] : List (S38)) : List (S38))).bind fun y363 => (if y363.length + l0.length < 3518437208883 then (some ((y363 ++ l0), false)) else (none))))) else ((some (([] : List (S38)) : List (S38))).bind fun y369 => (if y369.length + l0.length < 3518437208883 then (some ((y369 ++ l0), false)) else (none)))) = some (r1, r2) := by first | (rw [hy361]; with_reducible exact H) | (have H2_ := (Option.bind_some _ _).symm.trans H; rw [hy361]; with_reducible exact H2_) | (have H2_ := (Option.bind_some _ _).symm.trans H; with_reducible exact H2_) | with_reducible exact H | (rw [hy361]; exact H) | exact H
    have Ny361 := zK hy361
    clear hy361
    by_cases c80 : a2 = 3
    rotate_left
    ·rw [if_neg c80] at H
     have c80b0 : (a2 == 3) = false := beq_eq_false_iff_ne.mpr c80
     have c80b1 : (a2 != 3) = true := bne_iff_ne.mpr c80
     obtain ⟨y369, hy369⟩ : ∃ y_ : List (S38), y_ = (([] : List (S38))) := ⟨_, rfl⟩
     replace H : (if y369.length + l0.length < 3518437208883 then (some ((y369 ++ l0), false)) else (none)) = some (r1, r2) := by first | (rw [hy369]; with_reducible exact H) | (have H2_ := (Option.bind_some _ _).symm.trans H; rw [hy369]; with_reducible exact H2_) | (have H2_ := (Option.bind_some _ _).symm.trans H; with_reducible exact H2_) | with_reducible exact H | (rw [hy369]; exact H) | exact H
     have Ny369 := zK hy369
     clear hy369
     by_cases c93 : y369.length + l0.length < 3518437208883
     rotate_left
     ·rw [if_neg c93] at H
      exact absurd H (by simp)
     rw [if_pos c93] at H
     have LMc93 := zK c93
     clear c93
     obtain ⟨y372, hy372⟩ : ∃ y_ : List (S38), y_ = (y369 ++ l0) := ⟨_, rfl⟩
     replace H : (some (y372, false)) = some (r1, r2) := by first | (rw [hy372]; with_reducible exact H) | (have H2_ := (Option.bind_some _ _).symm.trans H; rw [hy372]; with_reducible exact H2_) | (have H2_ := (Option.bind_some _ _).symm.trans H; with_reducible exact H2_) | with_reducible exact H | (rw [hy372]; exact H) | exact H
     have Ny372 := zK hy372
     clear hy372
     simp only [Option.some.injEq, Prod.mk.injEq] at H
     obtain ⟨rfl, rfl⟩ := H
     have p323 : 0 ≤ (t321 : Int) := oD m2
     have q323 : t321 < (l0.length : Int) := oD m2
     obtain ⟨ad323, e323, hx323_0, hx323_1, hx323_2, hx323_3, hx323_4⟩ := at_T38 HR0.out t321 p323 q323
     cases e323
     replace hx323_0 := (HB.out.cell (bL w hx323_0)).trans hx323_0
     replace hx323_1 := (HB.out.cell (bL w hx323_1)).trans hx323_1
     replace hx323_2 := (HB.out.cell (bL w hx323_2)).trans hx323_2
     replace hx323_3 := (HB.out.cell (bL w hx323_3)).trans hx323_3
     replace hx323_4 := (HB.out.cell (bL w hx323_4)).trans hx323_4
     replace p323 := eq_true p323
     replace q323 := eq_true q323
     have p79 : 0 ≤ (t321 : Int) := oD m2
     have q79 : (t321 : Int) < ((y318.length : Int) : Int) := oD m2
     obtain ⟨go79, co79, eo79, gb79, gl79, cl79, HG79⟩ := Kd.R_form HO_8.out (by omega)
     (first | cases eo79 | (injection eo79 with ea_ en_ ec_; (first | subst ea_ | (injection ea_ with ea_; subst ea_)); subst ec_; clear en_))
     have GB79 := zK gb79
     have GG79 := zK HG79
     clear gb79 gl79 HG79
     obtain ⟨ce79, hcl79, hM79, hcc79, hfr79⟩ := Kd.R_elem HO_8.out z38 (t321 : Int) p79 q79
     obtain rfl := k38_openM hM79
     have hx79_0 : wc.cell? ⟨go79, (t321 : Int).toNat * 5, none⟩ = some (.int .i64 ((rd_T38 y318 t321).f0)) := hcc79 0 _ rfl
     have hx79_1 : wc.cell? ⟨go79, (t321 : Int).toNat * 5 + 1, none⟩ = some (.int .i64 ((rd_T38 y318 t321).f1)) := hcc79 1 _ rfl
     have hx79_2 : wc.cell? ⟨go79, (t321 : Int).toNat * 5 + 2, none⟩ = some (.int .i64 ((rd_T38 y318 t321).f2)) := hcc79 2 _ rfl
     have hx79_3 : wc.cell? ⟨go79, (t321 : Int).toNat * 5 + 3, none⟩ = some (.int .i64 ((rd_T38 y318 t321).f3)) := hcc79 3 _ rfl
     have hx79_4 : wc.cell? ⟨go79, (t321 : Int).toNat * 5 + 4, none⟩ = some (.int .i64 ((rd_T38 y318 t321).f4)) := hcc79 4 _ rfl
     have hf79_0 : wc.frozen? ⟨go79, (t321 : Int).toNat * 5, none⟩ = false := hfr79 0
     have hf79_1 : wc.frozen? ⟨go79, (t321 : Int).toNat * 5 + 1, none⟩ = false := hfr79 1
     have hf79_2 : wc.frozen? ⟨go79, (t321 : Int).toNat * 5 + 2, none⟩ = false := hfr79 2
     have hf79_3 : wc.frozen? ⟨go79, (t321 : Int).toNat * 5 + 3, none⟩ = false := hfr79 3
     have hf79_4 : wc.frozen? ⟨go79, (t321 : Int).toNat * 5 + 4, none⟩ = false := hfr79 4
     clear hcl79 hcc79 hfr79 hM79
     replace p79 := eq_true p79
     replace q79 := eq_true q79
     have HX94 := zK (show Kd.R k38 38 wc w.heap.size (fun _ => True) (.slice (some ⟨go79, 0, none⟩) y318.length co79) y318 from (Kd.qR HO_8.out))
     obtain ⟨ce94, hcl94, hM94, hcc94, hfr94⟩ := Kd.R_elem HX94.out z38 (t321 : Int) (oD m2) (by have h_ : (t321 : Int) < ((y318.length : Int) : Int) := oD m2; first | exact h_ | (have e_ := (Kd.R_reads' HO_8.out).1; omega) | simpa using h_)
     obtain rfl := k38_openM hM94
     have HP94 := Kd.R_seg HX94.out (t321 : Int) (oD m2) (by have h_ : (t321 : Int) < ((y318.length : Int) : Int) := oD m2; first | exact h_ | (have e_ := (Kd.R_reads' HO_8.out).1; omega) | simpa using h_) (seg := [.int .i64 a2]) (j := 4) hcl94 hcc94 (show 5 ≤ 5 from by decide) (x' := (⟨(rd_T38 y318 t321).f0, (rd_T38 y318 t321).f1, (rd_T38 y318 t321).f2, (rd_T38 y318 t321).f3, a2⟩ : S38)) (k38_mkM _ _ _ (⟨(rd_T38 y318 t321).f0, (rd_T38 y318 t321).f1, (rd_T38 y318 t321).f2, (rd_T38 y318 t321).f3, a2⟩ : S38) ) (fun _ hk => hk)
     have hx94_4 := hcc94 4 _ rfl
     (try simp only [show (k38).sz = 5 from rfl, Nat.mul_one, Nat.add_zero] at hx94_4)
     have hf94_4 := hfr94 4
     (try simp only [show (k38).sz = 5 from rfl, Nat.mul_one, Nat.add_zero] at hf94_4)
     clear hcl94 hcc94 hfr94 hM94
     go_wp2_with (first | ((with_reducible refine gate_store (t := 3) (p := 53) rfl ?_); refine store_event (t := 3) (p := 53) (v := ?vo_w95) (w1 := (wc.setCell ⟨go79, (t321 : Int).toNat * 5 + 4, none⟩ (.int .i64 a2))) ?hg ?ho ?hn ?hr ?_; (case ho => rfl); (case hg => rfl); (case hn => rfl); (case hr => first | (go_simp; done) | (go_simp; rfl)); intro w95 hw; have hg : wc.grownBy w95 (some go79) := (by rw [hw]; exact HP94.2); have hp_ : Kd.R k38 38 w95 w.heap.size (fun _ => True) (.slice (some ⟨go79, 0, none⟩) y318.length co79) y361 := (by rw [hw, Ny361.out]; exact HP94.1); clear HP94; have n0_ := zK (hp_); have n1_ := zK ((by rw [hw]; exact bS (HB.out) GB79.out : Below w.heap.size w w95)); clear HO_8; clear HB; have HO_8 := n0_; have HB := n1_; clear n0_ n1_; clear hg hw hp_) | ((with_reducible refine gate_dst (N := 61) rfl ?_); refine Kd.R_lit k38 _ 38 ?hg (N := 61) ?hd (xs := ([] : List (S38))) (inner := []) (ok := fun _ => True) (okp := fun _ => True) ?hr ?hp (fun _ hk => hk) trivial (Below.refl _ _) (Nat.le_refl _) (by simp) ?_; (case hd => rfl); (case hg => rfl); (case hr => first | (go_simp; done) | (go_simp; rfl)); (case hp => exact (Reps.none _ _)); intro v370 w96 ho97 hb hg_ hnew_; clear hg_ hnew_; (first | rw [← Ny369.out] at ho97 | (simp only [Int.reduceToNat] at ho97; rw [← Ny369.out] at ho97)); have n0_ := zK (Kd.R_elder' (Kd.qR HO_8.out) (Kd.R_base ho97) hb); have n1_ := zK (Kd.R_lower (Kd.R_new' ho97 (Kd.R_lt (Kd.qR HO_8.out))) (bZ (qB HB.out))); have n2_ := zK (bT (qB HB.out) hb); clear HO_8; clear HB; have HO_8 := n0_; have HO371 := n1_; have HB := n2_; clear n0_ n1_ n2_; clear hb ho97) | ((with_reducible refine gate_builtin (b := .append) (xs := #[.tmp 61, .tmp 62]) rfl ?_); at_builtin; refine Kd.R_append_rows k38 (w0 := w) w.heap.size rfl (.tmp 61) (.tmp 62) 30 38 (.agg #[(.int .i64 0), (.int .i64 0), (.int .i64 0), (.int .i64 0), (.int .i64 0)]) 40 rfl Try.underlying30 info38 rfl (by decide) (by omega) v370 y369 l0 _ _ _ (fun k_ => some k_ ≠ (.slice (some ⟨go79, 0, none⟩) y318.length co79 : Value).ownBlock) (fun _ => False) rfl rfl ?aO ?aR (fun _ _ h => h) (fun _ h => h.elim) ?aF ?aB ?aS ?aL ?_; (case aR => exact Kd.qC (Kd.C_below HR0.out HB.out)); (case aB => exact (qB HB.out)); (case aF => exact (fun k_ hk => Kd.fresh' (Kd.R_lt (Kd.qR HO_8.out)) k_ hk)); (case aO => exact (by (with_reducible repeat (first | apply Kd.RA | apply Kd.RN | apply Kd.RD)); exact Kd.R_mono HO371.out (fun _ hk => hk.2))); (case aS => exact (bZ (qB HB.out))); (case aL => have := LMc93.out; omega); intro v373 w98 ho hb hg hat; rw [← Ny372.out] at ho; have n0_ := zK (Kd.R_after (ok := (fun _ => True)) (Kd.qR HO_8.out) hg hat); have n1_ := zK (hb); have n2_ := zK (ho); clear HO_8; clear HB; clear HO371; have HO_8 := n0_; have HB := n1_; have HO374 := n2_; clear n0_ n1_ n2_; clear ho hb hg hat))
     go_ret2
     exact ⟨_, by first | rfl | (simp [errW_none, errW_some] <;> rfl) | (simp [*, errW_none, errW_some] <;> rfl), by (with_reducible repeat (first | apply Kd.RA | apply Kd.RN | apply Kd.RD)); exact Kd.R_mono HO374.out (fun _ hk => trivial), by exact qB HB.out⟩
    rw [if_pos c80] at H
    have c80b0 : (a2 == 3) = true := beq_iff_eq.mpr c80
    have c80b1 : (a2 != 3) = false := bne_eq_false_iff_eq.mpr c80
    clear c80
    replace H := Option.bind_eq_some_iff.mp H
    obtain ⟨t362, A810, H⟩ := H
    replace H : (if t362 = true then (some (y361, true)) else ((some (([] : List (S38)) : List (S38))).bind fun y363 => (if y363.length + l0.length < 3518437208883 then (some ((y363 ++ l0), false)) else (none)))) = some (r1, r2) := H
    have A81 := zK A810
    clear A810
    by_cases c82 : t362 = true
    ·subst c82
     have H1 : (some (y361, true)) = some (r1, r2) := by rw [if_pos rfl] at H; exact H
     clear H
     have H := H1
     clear H1
     simp only [Option.some.injEq, Prod.mk.injEq] at H
     obtain ⟨rfl, rfl⟩ := H
     have p323 : 0 ≤ (t321 : Int) := oD m2
     have q323 : t321 < (l0.length : Int) := oD m2
     obtain ⟨ad323, e323, hx323_0, hx323_1, hx323_2, hx323_3, hx323_4⟩ := at_T38 HR0.out t321 p323 q323
     cases e323
     replace hx323_0 := (HB.out.cell (bL w hx323_0)).trans hx323_0
     replace hx323_1 := (HB.out.cell (bL w hx323_1)).trans hx323_1
     replace hx323_2 := (HB.out.cell (bL w hx323_2)).trans hx323_2
     replace hx323_3 := (HB.out.cell (bL w hx323_3)).trans hx323_3
     replace hx323_4 := (HB.out.cell (bL w hx323_4)).trans hx323_4
     replace p323 := eq_true p323
     replace q323 := eq_true q323
     have p79 : 0 ≤ (t321 : Int) := oD m2
     have q79 : (t321 : Int) < ((y318.length : Int) : Int) := oD m2
     obtain ⟨go79, co79, eo79, gb79, gl79, cl79, HG79⟩ := Kd.R_form HO_8.out (by omega)
     (first | cases eo79 | (injection eo79 with ea_ en_ ec_; (first | subst ea_ | (injection ea_ with ea_; subst ea_)); subst ec_; clear en_))
     have GB79 := zK gb79
     have GG79 := zK HG79
     clear gb79 gl79 HG79
     obtain ⟨ce79, hcl79, hM79, hcc79, hfr79⟩ := Kd.R_elem HO_8.out z38 (t321 : Int) p79 q79
     obtain rfl := k38_openM hM79
     have hx79_0 : wc.cell? ⟨go79, (t321 : Int).toNat * 5, none⟩ = some (.int .i64 ((rd_T38 y318 t321).f0)) := hcc79 0 _ rfl
     have hx79_1 : wc.cell? ⟨go79, (t321 : Int).toNat * 5 + 1, none⟩ = some (.int .i64 ((rd_T38 y318 t321).f1)) := hcc79 1 _ rfl
     have hx79_2 : wc.cell? ⟨go79, (t321 : Int).toNat * 5 + 2, none⟩ = some (.int .i64 ((rd_T38 y318 t321).f2)) := hcc79 2 _ rfl
     have hx79_3 : wc.cell? ⟨go79, (t321 : Int).toNat * 5 + 3, none⟩ = some (.int .i64 ((rd_T38 y318 t321).f3)) := hcc79 3 _ rfl
     have hx79_4 : wc.cell? ⟨go79, (t321 : Int).toNat * 5 + 4, none⟩ = some (.int .i64 ((rd_T38 y318 t321).f4)) := hcc79 4 _ rfl
     have hf79_0 : wc.frozen? ⟨go79, (t321 : Int).toNat * 5, none⟩ = false := hfr79 0
     have hf79_1 : wc.frozen? ⟨go79, (t321 : Int).toNat * 5 + 1, none⟩ = false := hfr79 1
     have hf79_2 : wc.frozen? ⟨go79, (t321 : Int).toNat * 5 + 2, none⟩ = false := hfr79 2
     have hf79_3 : wc.frozen? ⟨go79, (t321 : Int).toNat * 5 + 3, none⟩ = false := hfr79 3
     have hf79_4 : wc.frozen? ⟨go79, (t321 : Int).toNat * 5 + 4, none⟩ = false := hfr79 4
     clear hcl79 hcc79 hfr79 hM79
     replace p79 := eq_true p79
     replace q79 := eq_true q79
     have HX83 := zK (show Kd.R k38 38 wc w.heap.size (fun _ => True) (.slice (some ⟨go79, 0, none⟩) y318.length co79) y318 from (Kd.qR HO_8.out))
     obtain ⟨ce83, hcl83, hM83, hcc83, hfr83⟩ := Kd.R_elem HX83.out z38 (t321 : Int) (oD m2) (by have h_ : (t321 : Int) < ((y318.length : Int) : Int) := oD m2; first | exact h_ | (have e_ := (Kd.R_reads' HO_8.out).1; omega) | simpa using h_)
     obtain rfl := k38_openM hM83
     have HP83 := Kd.R_seg HX83.out (t321 : Int) (oD m2) (by have h_ : (t321 : Int) < ((y318.length : Int) : Int) := oD m2; first | exact h_ | (have e_ := (Kd.R_reads' HO_8.out).1; omega) | simpa using h_) (seg := [.int .i64 a2]) (j := 4) hcl83 hcc83 (show 5 ≤ 5 from by decide) (x' := (⟨(rd_T38 y318 t321).f0, (rd_T38 y318 t321).f1, (rd_T38 y318 t321).f2, (rd_T38 y318 t321).f3, a2⟩ : S38)) (k38_mkM _ _ _ (⟨(rd_T38 y318 t321).f0, (rd_T38 y318 t321).f1, (rd_T38 y318 t321).f2, (rd_T38 y318 t321).f3, a2⟩ : S38) ) (fun _ hk => hk)
     have hx83_4 := hcc83 4 _ rfl
     (try simp only [show (k38).sz = 5 from rfl, Nat.mul_one, Nat.add_zero] at hx83_4)
     have hf83_4 := hfr83 4
     (try simp only [show (k38).sz = 5 from rfl, Nat.mul_one, Nat.add_zero] at hf83_4)
     clear hcl83 hcc83 hfr83 hM83
     go_wp2_with (first | ((with_reducible refine gate_store (t := 3) (p := 53) rfl ?_); refine store_event (t := 3) (p := 53) (v := ?vo_w84) (w1 := (wc.setCell ⟨go79, (t321 : Int).toNat * 5 + 4, none⟩ (.int .i64 a2))) ?hg ?ho ?hn ?hr ?_; (case ho => rfl); (case hg => rfl); (case hn => rfl); (case hr => first | (go_simp; done) | (go_simp; rfl)); intro w84 hw; have hg : wc.grownBy w84 (some go79) := (by rw [hw]; exact HP83.2); have hp_ : Kd.R k38 38 w84 w.heap.size (fun _ => True) (.slice (some ⟨go79, 0, none⟩) y318.length co79) y361 := (by rw [hw, Ny361.out]; exact HP83.1); clear HP83; have n0_ := zK (hp_); have n1_ := zK ((by rw [hw]; exact bS (HB.out) GB79.out : Below w.heap.size w w84)); clear HO_8; clear HB; have HO_8 := n0_; have HB := n1_; clear n0_ n1_; clear hg hw hp_) | (go_at_call 42; refine calls_of_args (args' := #[.slice (some ⟨go79, 0, none⟩) y361.length co79]) (by first | (rw [show y361.length = y318.length from (Kd.R_reads' HO_8.out).1.symm] <;> rfl) | rfl) ?_; (with_reducible refine (spec_AreClaims.calls kj5 _ _ y361 true _ ?side1 ?side2 A81.out).mono ?_); (case side1 => repeat (first | exact (Kd.R_reads' HO_8.out).2.2 | (with_reducible refine Kd.CA ?_ _) | (with_reducible refine Kd.CN ?_ _) | (with_reducible refine Kd.CD ?_))); (case side2 => rw [show y361.length = y318.length from (Kd.R_reads' HO_8.out).1.symm]; exact (Kd.R_reads' HO_8.out).2.1); rintro e w85 ⟨rfl, hb⟩; have n0_ := zK (Kd.R_below (Kd.qR HO_8.out) hb); have n1_ := zK (bT (qB HB.out) hb); clear HO_8; clear HB; have HO_8 := n0_; have HB := n1_; clear n0_ n1_; (try clear hb); (try clear hb2); (try clear hk); (try clear hi)))
     go_ret2
     exact ⟨_, by first | rfl | (simp [errW_none, errW_some] <;> rfl) | (simp [*, errW_none, errW_some] <;> rfl), by exact Kd.qR HO_8.out, by exact qB HB.out⟩
    replace c82 := Bool.eq_false_iff.mpr c82
    subst c82
    have H1 : ((some (([] : List (S38)) : List (S38))).bind fun y363 => (if y363.length + l0.length < 3518437208883 then (some ((y363 ++ l0), false)) else (none))) = some (r1, r2) := by rw [if_neg (show ¬ (false = true) by decide)] at H; exact H
    clear H
    have H := H1
    clear H1
    obtain ⟨y363, hy363⟩ : ∃ y_ : List (S38), y_ = (([] : List (S38))) := ⟨_, rfl⟩
    replace H : (if y363.length + l0.length < 3518437208883 then (some ((y363 ++ l0), false)) else (none)) = some (r1, r2) := by first | (rw [hy363]; with_reducible exact H) | (have H2_ := (Option.bind_some _ _).symm.trans H; rw [hy363]; with_reducible exact H2_) | (have H2_ := (Option.bind_some _ _).symm.trans H; with_reducible exact H2_) | with_reducible exact H | (rw [hy363]; exact H) | exact H
    have Ny363 := zK hy363
    clear hy363
    by_cases c86 : y363.length + l0.length < 3518437208883
    rotate_left
    ·rw [if_neg c86] at H
     exact absurd H (by simp)
    rw [if_pos c86] at H
    have LMc86 := zK c86
    clear c86
    obtain ⟨y366, hy366⟩ : ∃ y_ : List (S38), y_ = (y363 ++ l0) := ⟨_, rfl⟩
    replace H : (some (y366, false)) = some (r1, r2) := by first | (rw [hy366]; with_reducible exact H) | (have H2_ := (Option.bind_some _ _).symm.trans H; rw [hy366]; with_reducible exact H2_) | (have H2_ := (Option.bind_some _ _).symm.trans H; with_reducible exact H2_) | with_reducible exact H | (rw [hy366]; exact H) | exact H
    have Ny366 := zK hy366
    clear hy366
    simp only [Option.some.injEq, Prod.mk.injEq] at H
    obtain ⟨rfl, rfl⟩ := H
    have p323 : 0 ≤ (t321 : Int) := oD m2
    have q323 : t321 < (l0.length : Int) := oD m2
    obtain ⟨ad323, e323, hx323_0, hx323_1, hx323_2, hx323_3, hx323_4⟩ := at_T38 HR0.out t321 p323 q323
    cases e323
    replace hx323_0 := (HB.out.cell (bL w hx323_0)).trans hx323_0
    replace hx323_1 := (HB.out.cell (bL w hx323_1)).trans hx323_1
    replace hx323_2 := (HB.out.cell (bL w hx323_2)).trans hx323_2
    replace hx323_3 := (HB.out.cell (bL w hx323_3)).trans hx323_3
    replace hx323_4 := (HB.out.cell (bL w hx323_4)).trans hx323_4
    replace p323 := eq_true p323
    replace q323 := eq_true q323
    have p79 : 0 ≤ (t321 : Int) := oD m2
    have q79 : (t321 : Int) < ((y318.length : Int) : Int) := oD m2
    obtain ⟨go79, co79, eo79, gb79, gl79, cl79, HG79⟩ := Kd.R_form HO_8.out (by omega)
    (first | cases eo79 | (injection eo79 with ea_ en_ ec_; (first | subst ea_ | (injection ea_ with ea_; subst ea_)); subst ec_; clear en_))
    have GB79 := zK gb79
    have GG79 := zK HG79
    clear gb79 gl79 HG79
    obtain ⟨ce79, hcl79, hM79, hcc79, hfr79⟩ := Kd.R_elem HO_8.out z38 (t321 : Int) p79 q79
    obtain rfl := k38_openM hM79
    have hx79_0 : wc.cell? ⟨go79, (t321 : Int).toNat * 5, none⟩ = some (.int .i64 ((rd_T38 y318 t321).f0)) := hcc79 0 _ rfl
    have hx79_1 : wc.cell? ⟨go79, (t321 : Int).toNat * 5 + 1, none⟩ = some (.int .i64 ((rd_T38 y318 t321).f1)) := hcc79 1 _ rfl
    have hx79_2 : wc.cell? ⟨go79, (t321 : Int).toNat * 5 + 2, none⟩ = some (.int .i64 ((rd_T38 y318 t321).f2)) := hcc79 2 _ rfl
    have hx79_3 : wc.cell? ⟨go79, (t321 : Int).toNat * 5 + 3, none⟩ = some (.int .i64 ((rd_T38 y318 t321).f3)) := hcc79 3 _ rfl
    have hx79_4 : wc.cell? ⟨go79, (t321 : Int).toNat * 5 + 4, none⟩ = some (.int .i64 ((rd_T38 y318 t321).f4)) := hcc79 4 _ rfl
    have hf79_0 : wc.frozen? ⟨go79, (t321 : Int).toNat * 5, none⟩ = false := hfr79 0
    have hf79_1 : wc.frozen? ⟨go79, (t321 : Int).toNat * 5 + 1, none⟩ = false := hfr79 1
    have hf79_2 : wc.frozen? ⟨go79, (t321 : Int).toNat * 5 + 2, none⟩ = false := hfr79 2
    have hf79_3 : wc.frozen? ⟨go79, (t321 : Int).toNat * 5 + 3, none⟩ = false := hfr79 3
    have hf79_4 : wc.frozen? ⟨go79, (t321 : Int).toNat * 5 + 4, none⟩ = false := hfr79 4
    clear hcl79 hcc79 hfr79 hM79
    replace p79 := eq_true p79
    replace q79 := eq_true q79
    have HX87 := zK (show Kd.R k38 38 wc w.heap.size (fun _ => True) (.slice (some ⟨go79, 0, none⟩) y318.length co79) y318 from (Kd.qR HO_8.out))
    obtain ⟨ce87, hcl87, hM87, hcc87, hfr87⟩ := Kd.R_elem HX87.out z38 (t321 : Int) (oD m2) (by have h_ : (t321 : Int) < ((y318.length : Int) : Int) := oD m2; first | exact h_ | (have e_ := (Kd.R_reads' HO_8.out).1; omega) | simpa using h_)
    obtain rfl := k38_openM hM87
    have HP87 := Kd.R_seg HX87.out (t321 : Int) (oD m2) (by have h_ : (t321 : Int) < ((y318.length : Int) : Int) := oD m2; first | exact h_ | (have e_ := (Kd.R_reads' HO_8.out).1; omega) | simpa using h_) (seg := [.int .i64 a2]) (j := 4) hcl87 hcc87 (show 5 ≤ 5 from by decide) (x' := (⟨(rd_T38 y318 t321).f0, (rd_T38 y318 t321).f1, (rd_T38 y318 t321).f2, (rd_T38 y318 t321).f3, a2⟩ : S38)) (k38_mkM _ _ _ (⟨(rd_T38 y318 t321).f0, (rd_T38 y318 t321).f1, (rd_T38 y318 t321).f2, (rd_T38 y318 t321).f3, a2⟩ : S38) ) (fun _ hk => hk)
    have hx87_4 := hcc87 4 _ rfl
    (try simp only [show (k38).sz = 5 from rfl, Nat.mul_one, Nat.add_zero] at hx87_4)
    have hf87_4 := hfr87 4
    (try simp only [show (k38).sz = 5 from rfl, Nat.mul_one, Nat.add_zero] at hf87_4)
    clear hcl87 hcc87 hfr87 hM87
    go_wp2_with (first | ((with_reducible refine gate_store (t := 3) (p := 53) rfl ?_); refine store_event (t := 3) (p := 53) (v := ?vo_w88) (w1 := (wc.setCell ⟨go79, (t321 : Int).toNat * 5 + 4, none⟩ (.int .i64 a2))) ?hg ?ho ?hn ?hr ?_; (case ho => rfl); (case hg => rfl); (case hn => rfl); (case hr => first | (go_simp; done) | (go_simp; rfl)); intro w88 hw; have hg : wc.grownBy w88 (some go79) := (by rw [hw]; exact HP87.2); have hp_ : Kd.R k38 38 w88 w.heap.size (fun _ => True) (.slice (some ⟨go79, 0, none⟩) y318.length co79) y361 := (by rw [hw, Ny361.out]; exact HP87.1); clear HP87; have n0_ := zK (hp_); have n1_ := zK ((by rw [hw]; exact bS (HB.out) GB79.out : Below w.heap.size w w88)); clear HO_8; clear HB; have HO_8 := n0_; have HB := n1_; clear n0_ n1_; clear hg hw hp_) | (go_at_call 42; refine calls_of_args (args' := #[.slice (some ⟨go79, 0, none⟩) y361.length co79]) (by first | (rw [show y361.length = y318.length from (Kd.R_reads' HO_8.out).1.symm] <;> rfl) | rfl) ?_; (with_reducible refine (spec_AreClaims.calls kj5 _ _ y361 false _ ?side1 ?side2 A81.out).mono ?_); (case side1 => repeat (first | exact (Kd.R_reads' HO_8.out).2.2 | (with_reducible refine Kd.CA ?_ _) | (with_reducible refine Kd.CN ?_ _) | (with_reducible refine Kd.CD ?_))); (case side2 => rw [show y361.length = y318.length from (Kd.R_reads' HO_8.out).1.symm]; exact (Kd.R_reads' HO_8.out).2.1); rintro e w89 ⟨rfl, hb⟩; have n0_ := zK (Kd.R_below (Kd.qR HO_8.out) hb); have n1_ := zK (bT (qB HB.out) hb); clear HO_8; clear HB; have HO_8 := n0_; have HB := n1_; clear n0_ n1_; (try clear hb); (try clear hb2); (try clear hk); (try clear hi)) | ((with_reducible refine gate_dst (N := 61) rfl ?_); refine Kd.R_lit k38 _ 38 ?hg (N := 61) ?hd (xs := ([] : List (S38))) (inner := []) (ok := fun _ => True) (okp := fun _ => True) ?hr ?hp (fun _ hk => hk) trivial (Below.refl _ _) (Nat.le_refl _) (by simp) ?_; (case hd => rfl); (case hg => rfl); (case hr => first | (go_simp; done) | (go_simp; rfl)); (case hp => exact (Reps.none _ _)); intro v364 w90 ho91 hb hg_ hnew_; clear hg_ hnew_; (first | rw [← Ny363.out] at ho91 | (simp only [Int.reduceToNat] at ho91; rw [← Ny363.out] at ho91)); have n0_ := zK (Kd.R_elder' (Kd.qR HO_8.out) (Kd.R_base ho91) hb); have n1_ := zK (Kd.R_lower (Kd.R_new' ho91 (Kd.R_lt (Kd.qR HO_8.out))) (bZ (qB HB.out))); have n2_ := zK (bT (qB HB.out) hb); clear HO_8; clear HB; have HO_8 := n0_; have HO365 := n1_; have HB := n2_; clear n0_ n1_ n2_; clear hb ho91) | ((with_reducible refine gate_builtin (b := .append) (xs := #[.tmp 61, .tmp 62]) rfl ?_); at_builtin; refine Kd.R_append_rows k38 (w0 := w) w.heap.size rfl (.tmp 61) (.tmp 62) 30 38 (.agg #[(.int .i64 0), (.int .i64 0), (.int .i64 0), (.int .i64 0), (.int .i64 0)]) 40 rfl Try.underlying30 info38 rfl (by decide) (by omega) v364 y363 l0 _ _ _ (fun k_ => some k_ ≠ (.slice (some ⟨go79, 0, none⟩) y318.length co79 : Value).ownBlock) (fun _ => False) rfl rfl ?aO ?aR (fun _ _ h => h) (fun _ h => h.elim) ?aF ?aB ?aS ?aL ?_; (case aR => exact Kd.qC (Kd.C_below HR0.out HB.out)); (case aB => exact (qB HB.out)); (case aF => exact (fun k_ hk => Kd.fresh' (Kd.R_lt (Kd.qR HO_8.out)) k_ hk)); (case aO => exact (by (with_reducible repeat (first | apply Kd.RA | apply Kd.RN | apply Kd.RD)); exact Kd.R_mono HO365.out (fun _ hk => hk.2))); (case aS => exact (bZ (qB HB.out))); (case aL => have := LMc86.out; omega); intro v367 w92 ho hb hg hat; rw [← Ny366.out] at ho; have n0_ := zK (Kd.R_after (ok := (fun _ => True)) (Kd.qR HO_8.out) hg hat); have n1_ := zK (hb); have n2_ := zK (ho); clear HO_8; clear HB; clear HO365; have HO_8 := n0_; have HB := n1_; have HO368 := n2_; clear n0_ n1_ n2_; clear ho hb hg hat))
    go_ret2
    exact ⟨_, by first | rfl | (simp [errW_none, errW_some] <;> rfl) | (simp [*, errW_none, errW_some] <;> rfl), by (with_reducible repeat (first | apply Kd.RA | apply Kd.RN | apply Kd.RD)); exact Kd.R_mono HO368.out (fun _ hk => trivial), by exact qB HB.out⟩
   rw [if_pos c16] at H
   have c16b0 : (((rd_T38 l0 t321).f4) == 0) = true := beq_iff_eq.mpr c16
   have c16b1 : (((rd_T38 l0 t321).f4) != 0) = false := bne_eq_false_iff_eq.mpr c16
   clear c16
   by_cases c17 : a2 = 1
   ·rw [if_pos c17] at H
    have c17b0 : (a2 == 1) = true := beq_iff_eq.mpr c17
    have c17b1 : (a2 != 1) = false := bne_eq_false_iff_eq.mpr c17
    clear c17
    by_cases c18 : t321 < (y318.length : Int)
    rotate_left
    ·rw [if_neg c18] at H
     exact absurd H (by simp)
    rw [if_pos c18] at H
    have c18b0 : decide (t321 < (y318.length : Int)) = true := decide_eq_true c18
    clear c18
    obtain ⟨y324, hy324⟩ : ∃ y_ : List (S38), y_ = (y318.set (t321 : Int).toNat (⟨(rd_T38 y318 t321).f0, (rd_T38 y318 t321).f1, (rd_T38 y318 t321).f2, (rd_T38 y318 t321).f3, a2⟩ : S38)) := ⟨_, rfl⟩
    replace H : ((spec_AreClaims.f kj5 y324).bind fun t325 => (if t325 = true then (some (y324, true)) else ((some (([] : List (S38)) : List (S38))).bind fun y326 => (if y326.length + l0.length < 3518437208883 then (some ((y326 ++ l0), false)) else (none))))) = some (r1, r2) := by first | (rw [hy324]; with_reducible exact H) | (have H2_ := (Option.bind_some _ _).symm.trans H; rw [hy324]; with_reducible exact H2_) | (have H2_ := (Option.bind_some _ _).symm.trans H; with_reducible exact H2_) | with_reducible exact H | (rw [hy324]; exact H) | exact H
    have Ny324 := zK hy324
    clear hy324
    replace H := Option.bind_eq_some_iff.mp H
    obtain ⟨t325, A200, H⟩ := H
    replace H : (if t325 = true then (some (y324, true)) else ((some (([] : List (S38)) : List (S38))).bind fun y326 => (if y326.length + l0.length < 3518437208883 then (some ((y326 ++ l0), false)) else (none)))) = some (r1, r2) := H
    have A20 := zK A200
    clear A200
    by_cases c21 : t325 = true
    ·subst c21
     have H1 : (some (y324, true)) = some (r1, r2) := by rw [if_pos rfl] at H; exact H
     clear H
     have H := H1
     clear H1
     simp only [Option.some.injEq, Prod.mk.injEq] at H
     obtain ⟨rfl, rfl⟩ := H
     have p323 : 0 ≤ (t321 : Int) := oD m2
     have q323 : t321 < (l0.length : Int) := oD m2
     obtain ⟨ad323, e323, hx323_0, hx323_1, hx323_2, hx323_3, hx323_4⟩ := at_T38 HR0.out t321 p323 q323
     cases e323
     replace hx323_0 := (HB.out.cell (bL w hx323_0)).trans hx323_0
     replace hx323_1 := (HB.out.cell (bL w hx323_1)).trans hx323_1
     replace hx323_2 := (HB.out.cell (bL w hx323_2)).trans hx323_2
     replace hx323_3 := (HB.out.cell (bL w hx323_3)).trans hx323_3
     replace hx323_4 := (HB.out.cell (bL w hx323_4)).trans hx323_4
     replace p323 := eq_true p323
     replace q323 := eq_true q323
     have p19 : 0 ≤ (t321 : Int) := oD m2
     have q19 : (t321 : Int) < ((y318.length : Int) : Int) := oD m2
     obtain ⟨go19, co19, eo19, gb19, gl19, cl19, HG19⟩ := Kd.R_form HO_8.out (by omega)
     (first | cases eo19 | (injection eo19 with ea_ en_ ec_; (first | subst ea_ | (injection ea_ with ea_; subst ea_)); subst ec_; clear en_))
     have GB19 := zK gb19
     have GG19 := zK HG19
     clear gb19 gl19 HG19
     obtain ⟨ce19, hcl19, hM19, hcc19, hfr19⟩ := Kd.R_elem HO_8.out z38 (t321 : Int) p19 q19
     obtain rfl := k38_openM hM19
     have hx19_0 : wc.cell? ⟨go19, (t321 : Int).toNat * 5, none⟩ = some (.int .i64 ((rd_T38 y318 t321).f0)) := hcc19 0 _ rfl
     have hx19_1 : wc.cell? ⟨go19, (t321 : Int).toNat * 5 + 1, none⟩ = some (.int .i64 ((rd_T38 y318 t321).f1)) := hcc19 1 _ rfl
     have hx19_2 : wc.cell? ⟨go19, (t321 : Int).toNat * 5 + 2, none⟩ = some (.int .i64 ((rd_T38 y318 t321).f2)) := hcc19 2 _ rfl
     have hx19_3 : wc.cell? ⟨go19, (t321 : Int).toNat * 5 + 3, none⟩ = some (.int .i64 ((rd_T38 y318 t321).f3)) := hcc19 3 _ rfl
     have hx19_4 : wc.cell? ⟨go19, (t321 : Int).toNat * 5 + 4, none⟩ = some (.int .i64 ((rd_T38 y318 t321).f4)) := hcc19 4 _ rfl
     have hf19_0 : wc.frozen? ⟨go19, (t321 : Int).toNat * 5, none⟩ = false := hfr19 0
     have hf19_1 : wc.frozen? ⟨go19, (t321 : Int).toNat * 5 + 1, none⟩ = false := hfr19 1
     have hf19_2 : wc.frozen? ⟨go19, (t321 : Int).toNat * 5 + 2, none⟩ = false := hfr19 2
     have hf19_3 : wc.frozen? ⟨go19, (t321 : Int).toNat * 5 + 3, none⟩ = false := hfr19 3
     have hf19_4 : wc.frozen? ⟨go19, (t321 : Int).toNat * 5 + 4, none⟩ = false := hfr19 4
     clear hcl19 hcc19 hfr19 hM19
     replace p19 := eq_true p19
     replace q19 := eq_true q19
     have HX22 := zK (show Kd.R k38 38 wc w.heap.size (fun _ => True) (.slice (some ⟨go19, 0, none⟩) y318.length co19) y318 from (Kd.qR HO_8.out))
     obtain ⟨ce22, hcl22, hM22, hcc22, hfr22⟩ := Kd.R_elem HX22.out z38 (t321 : Int) (oD m2) (by have h_ : (t321 : Int) < ((y318.length : Int) : Int) := oD m2; first | exact h_ | (have e_ := (Kd.R_reads' HO_8.out).1; omega) | simpa using h_)
     obtain rfl := k38_openM hM22
     have HP22 := Kd.R_seg HX22.out (t321 : Int) (oD m2) (by have h_ : (t321 : Int) < ((y318.length : Int) : Int) := oD m2; first | exact h_ | (have e_ := (Kd.R_reads' HO_8.out).1; omega) | simpa using h_) (seg := [.int .i64 a2]) (j := 4) hcl22 hcc22 (show 5 ≤ 5 from by decide) (x' := (⟨(rd_T38 y318 t321).f0, (rd_T38 y318 t321).f1, (rd_T38 y318 t321).f2, (rd_T38 y318 t321).f3, a2⟩ : S38)) (k38_mkM _ _ _ (⟨(rd_T38 y318 t321).f0, (rd_T38 y318 t321).f1, (rd_T38 y318 t321).f2, (rd_T38 y318 t321).f3, a2⟩ : S38) ) (fun _ hk => hk)
     have hx22_4 := hcc22 4 _ rfl
     (try simp only [show (k38).sz = 5 from rfl, Nat.mul_one, Nat.add_zero] at hx22_4)
     have hf22_4 := hfr22 4
     (try simp only [show (k38).sz = 5 from rfl, Nat.mul_one, Nat.add_zero] at hf22_4)
     clear hcl22 hcc22 hfr22 hM22
     go_wp2_with (first | ((with_reducible refine gate_store (t := 3) (p := 53) rfl ?_); refine store_event (t := 3) (p := 53) (v := ?vo_w23) (w1 := (wc.setCell ⟨go19, (t321 : Int).toNat * 5 + 4, none⟩ (.int .i64 a2))) ?hg ?ho ?hn ?hr ?_; (case ho => rfl); (case hg => rfl); (case hn => rfl); (case hr => first | (go_simp; done) | (go_simp; rfl)); intro w23 hw; have hg : wc.grownBy w23 (some go19) := (by rw [hw]; exact HP22.2); have hp_ : Kd.R k38 38 w23 w.heap.size (fun _ => True) (.slice (some ⟨go19, 0, none⟩) y318.length co19) y324 := (by rw [hw, Ny324.out]; exact HP22.1); clear HP22; have n0_ := zK (hp_); have n1_ := zK ((by rw [hw]; exact bS (HB.out) GB19.out : Below w.heap.size w w23)); clear HO_8; clear HB; have HO_8 := n0_; have HB := n1_; clear n0_ n1_; clear hg hw hp_) | (go_at_call 42; refine calls_of_args (args' := #[.slice (some ⟨go19, 0, none⟩) y324.length co19]) (by first | (rw [show y324.length = y318.length from (Kd.R_reads' HO_8.out).1.symm] <;> rfl) | rfl) ?_; (with_reducible refine (spec_AreClaims.calls kj5 _ _ y324 true _ ?side1 ?side2 A20.out).mono ?_); (case side1 => repeat (first | exact (Kd.R_reads' HO_8.out).2.2 | (with_reducible refine Kd.CA ?_ _) | (with_reducible refine Kd.CN ?_ _) | (with_reducible refine Kd.CD ?_))); (case side2 => rw [show y324.length = y318.length from (Kd.R_reads' HO_8.out).1.symm]; exact (Kd.R_reads' HO_8.out).2.1); rintro e w24 ⟨rfl, hb⟩; have n0_ := zK (Kd.R_below (Kd.qR HO_8.out) hb); have n1_ := zK (bT (qB HB.out) hb); clear HO_8; clear HB; have HO_8 := n0_; have HB := n1_; clear n0_ n1_; (try clear hb); (try clear hb2); (try clear hk); (try clear hi)))
     go_ret2
     exact ⟨_, by first | rfl | (simp [errW_none, errW_some] <;> rfl) | (simp [*, errW_none, errW_some] <;> rfl), by exact Kd.qR HO_8.out, by exact qB HB.out⟩
    replace c21 := Bool.eq_false_iff.mpr c21
    subst c21
    have H1 : ((some (([] : List (S38)) : List (S38))).bind fun y326 => (if y326.length + l0.length < 3518437208883 then (some ((y326 ++ l0), false)) else (none))) = some (r1, r2) := by rw [if_neg (show ¬ (false = true) by decide)] at H; exact H
    clear H
    have H := H1
    clear H1
    obtain ⟨y326, hy326⟩ : ∃ y_ : List (S38), y_ = (([] : List (S38))) := ⟨_, rfl⟩
    replace H : (if y326.length + l0.length < 3518437208883 then (some ((y326 ++ l0), false)) else (none)) = some (r1, r2) := by first | (rw [hy326]; with_reducible exact H) | (have H2_ := (Option.bind_some _ _).symm.trans H; rw [hy326]; with_reducible exact H2_) | (have H2_ := (Option.bind_some _ _).symm.trans H; with_reducible exact H2_) | with_reducible exact H | (rw [hy326]; exact H) | exact H
    have Ny326 := zK hy326
    clear hy326
    by_cases c25 : y326.length + l0.length < 3518437208883
    rotate_left
    ·rw [if_neg c25] at H
     exact absurd H (by simp)
    rw [if_pos c25] at H
    have LMc25 := zK c25
    clear c25
    obtain ⟨y329, hy329⟩ : ∃ y_ : List (S38), y_ = (y326 ++ l0) := ⟨_, rfl⟩
    replace H : (some (y329, false)) = some (r1, r2) := by first | (rw [hy329]; with_reducible exact H) | (have H2_ := (Option.bind_some _ _).symm.trans H; rw [hy329]; with_reducible exact H2_) | (have H2_ := (Option.bind_some _ _).symm.trans H; with_reducible exact H2_) | with_reducible exact H | (rw [hy329]; exact H) | exact H
    have Ny329 := zK hy329
    clear hy329
    simp only [Option.some.injEq, Prod.mk.injEq] at H
    obtain ⟨rfl, rfl⟩ := H
    have p323 : 0 ≤ (t321 : Int) := oD m2
    have q323 : t321 < (l0.length : Int) := oD m2
    obtain ⟨ad323, e323, hx323_0, hx323_1, hx323_2, hx323_3, hx323_4⟩ := at_T38 HR0.out t321 p323 q323
    cases e323
    replace hx323_0 := (HB.out.cell (bL w hx323_0)).trans hx323_0
    replace hx323_1 := (HB.out.cell (bL w hx323_1)).trans hx323_1
    replace hx323_2 := (HB.out.cell (bL w hx323_2)).trans hx323_2
    replace hx323_3 := (HB.out.cell (bL w hx323_3)).trans hx323_3
    replace hx323_4 := (HB.out.cell (bL w hx323_4)).trans hx323_4
    replace p323 := eq_true p323
    replace q323 := eq_true q323
    have p19 : 0 ≤ (t321 : Int) := oD m2
    have q19 : (t321 : Int) < ((y318.length : Int) : Int) := oD m2
    obtain ⟨go19, co19, eo19, gb19, gl19, cl19, HG19⟩ := Kd.R_form HO_8.out (by omega)
    (first | cases eo19 | (injection eo19 with ea_ en_ ec_; (first | subst ea_ | (injection ea_ with ea_; subst ea_)); subst ec_; clear en_))
    have GB19 := zK gb19
    have GG19 := zK HG19
    clear gb19 gl19 HG19
    obtain ⟨ce19, hcl19, hM19, hcc19, hfr19⟩ := Kd.R_elem HO_8.out z38 (t321 : Int) p19 q19
    obtain rfl := k38_openM hM19
    have hx19_0 : wc.cell? ⟨go19, (t321 : Int).toNat * 5, none⟩ = some (.int .i64 ((rd_T38 y318 t321).f0)) := hcc19 0 _ rfl
    have hx19_1 : wc.cell? ⟨go19, (t321 : Int).toNat * 5 + 1, none⟩ = some (.int .i64 ((rd_T38 y318 t321).f1)) := hcc19 1 _ rfl
    have hx19_2 : wc.cell? ⟨go19, (t321 : Int).toNat * 5 + 2, none⟩ = some (.int .i64 ((rd_T38 y318 t321).f2)) := hcc19 2 _ rfl
    have hx19_3 : wc.cell? ⟨go19, (t321 : Int).toNat * 5 + 3, none⟩ = some (.int .i64 ((rd_T38 y318 t321).f3)) := hcc19 3 _ rfl
    have hx19_4 : wc.cell? ⟨go19, (t321 : Int).toNat * 5 + 4, none⟩ = some (.int .i64 ((rd_T38 y318 t321).f4)) := hcc19 4 _ rfl
    have hf19_0 : wc.frozen? ⟨go19, (t321 : Int).toNat * 5, none⟩ = false := hfr19 0
    have hf19_1 : wc.frozen? ⟨go19, (t321 : Int).toNat * 5 + 1, none⟩ = false := hfr19 1
    have hf19_2 : wc.frozen? ⟨go19, (t321 : Int).toNat * 5 + 2, none⟩ = false := hfr19 2
    have hf19_3 : wc.frozen? ⟨go19, (t321 : Int).toNat * 5 + 3, none⟩ = false := hfr19 3
    have hf19_4 : wc.frozen? ⟨go19, (t321 : Int).toNat * 5 + 4, none⟩ = false := hfr19 4
    clear hcl19 hcc19 hfr19 hM19
    replace p19 := eq_true p19
    replace q19 := eq_true q19
    have HX26 := zK (show Kd.R k38 38 wc w.heap.size (fun _ => True) (.slice (some ⟨go19, 0, none⟩) y318.length co19) y318 from (Kd.qR HO_8.out))
    obtain ⟨ce26, hcl26, hM26, hcc26, hfr26⟩ := Kd.R_elem HX26.out z38 (t321 : Int) (oD m2) (by have h_ : (t321 : Int) < ((y318.length : Int) : Int) := oD m2; first | exact h_ | (have e_ := (Kd.R_reads' HO_8.out).1; omega) | simpa using h_)
    obtain rfl := k38_openM hM26
    have HP26 := Kd.R_seg HX26.out (t321 : Int) (oD m2) (by have h_ : (t321 : Int) < ((y318.length : Int) : Int) := oD m2; first | exact h_ | (have e_ := (Kd.R_reads' HO_8.out).1; omega) | simpa using h_) (seg := [.int .i64 a2]) (j := 4) hcl26 hcc26 (show 5 ≤ 5 from by decide) (x' := (⟨(rd_T38 y318 t321).f0, (rd_T38 y318 t321).f1, (rd_T38 y318 t321).f2, (rd_T38 y318 t321).f3, a2⟩ : S38)) (k38_mkM _ _ _ (⟨(rd_T38 y318 t321).f0, (rd_T38 y318 t321).f1, (rd_T38 y318 t321).f2, (rd_T38 y318 t321).f3, a2⟩ : S38) ) (fun _ hk => hk)
    have hx26_4 := hcc26 4 _ rfl
    (try simp only [show (k38).sz = 5 from rfl, Nat.mul_one, Nat.add_zero] at hx26_4)
    have hf26_4 := hfr26 4
    (try simp only [show (k38).sz = 5 from rfl, Nat.mul_one, Nat.add_zero] at hf26_4)
    clear hcl26 hcc26 hfr26 hM26
    go_wp2_with (first | ((with_reducible refine gate_store (t := 3) (p := 53) rfl ?_); refine store_event (t := 3) (p := 53) (v := ?vo_w27) (w1 := (wc.setCell ⟨go19, (t321 : Int).toNat * 5 + 4, none⟩ (.int .i64 a2))) ?hg ?ho ?hn ?hr ?_; (case ho => rfl); (case hg => rfl); (case hn => rfl); (case hr => first | (go_simp; done) | (go_simp; rfl)); intro w27 hw; have hg : wc.grownBy w27 (some go19) := (by rw [hw]; exact HP26.2); have hp_ : Kd.R k38 38 w27 w.heap.size (fun _ => True) (.slice (some ⟨go19, 0, none⟩) y318.length co19) y324 := (by rw [hw, Ny324.out]; exact HP26.1); clear HP26; have n0_ := zK (hp_); have n1_ := zK ((by rw [hw]; exact bS (HB.out) GB19.out : Below w.heap.size w w27)); clear HO_8; clear HB; have HO_8 := n0_; have HB := n1_; clear n0_ n1_; clear hg hw hp_) | (go_at_call 42; refine calls_of_args (args' := #[.slice (some ⟨go19, 0, none⟩) y324.length co19]) (by first | (rw [show y324.length = y318.length from (Kd.R_reads' HO_8.out).1.symm] <;> rfl) | rfl) ?_; (with_reducible refine (spec_AreClaims.calls kj5 _ _ y324 false _ ?side1 ?side2 A20.out).mono ?_); (case side1 => repeat (first | exact (Kd.R_reads' HO_8.out).2.2 | (with_reducible refine Kd.CA ?_ _) | (with_reducible refine Kd.CN ?_ _) | (with_reducible refine Kd.CD ?_))); (case side2 => rw [show y324.length = y318.length from (Kd.R_reads' HO_8.out).1.symm]; exact (Kd.R_reads' HO_8.out).2.1); rintro e w28 ⟨rfl, hb⟩; have n0_ := zK (Kd.R_below (Kd.qR HO_8.out) hb); have n1_ := zK (bT (qB HB.out) hb); clear HO_8; clear HB; have HO_8 := n0_; have HB := n1_; clear n0_ n1_; (try clear hb); (try clear hb2); (try clear hk); (try clear hi)) | ((with_reducible refine gate_dst (N := 61) rfl ?_); refine Kd.R_lit k38 _ 38 ?hg (N := 61) ?hd (xs := ([] : List (S38))) (inner := []) (ok := fun _ => True) (okp := fun _ => True) ?hr ?hp (fun _ hk => hk) trivial (Below.refl _ _) (Nat.le_refl _) (by simp) ?_; (case hd => rfl); (case hg => rfl); (case hr => first | (go_simp; done) | (go_simp; rfl)); (case hp => exact (Reps.none _ _)); intro v327 w29 ho30 hb hg_ hnew_; clear hg_ hnew_; (first | rw [← Ny326.out] at ho30 | (simp only [Int.reduceToNat] at ho30; rw [← Ny326.out] at ho30)); have n0_ := zK (Kd.R_elder' (Kd.qR HO_8.out) (Kd.R_base ho30) hb); have n1_ := zK (Kd.R_lower (Kd.R_new' ho30 (Kd.R_lt (Kd.qR HO_8.out))) (bZ (qB HB.out))); have n2_ := zK (bT (qB HB.out) hb); clear HO_8; clear HB; have HO_8 := n0_; have HO328 := n1_; have HB := n2_; clear n0_ n1_ n2_; clear hb ho30) | ((with_reducible refine gate_builtin (b := .append) (xs := #[.tmp 61, .tmp 62]) rfl ?_); at_builtin; refine Kd.R_append_rows k38 (w0 := w) w.heap.size rfl (.tmp 61) (.tmp 62) 30 38 (.agg #[(.int .i64 0), (.int .i64 0), (.int .i64 0), (.int .i64 0), (.int .i64 0)]) 40 rfl Try.underlying30 info38 rfl (by decide) (by omega) v327 y326 l0 _ _ _ (fun k_ => some k_ ≠ (.slice (some ⟨go19, 0, none⟩) y318.length co19 : Value).ownBlock) (fun _ => False) rfl rfl ?aO ?aR (fun _ _ h => h) (fun _ h => h.elim) ?aF ?aB ?aS ?aL ?_; (case aR => exact Kd.qC (Kd.C_below HR0.out HB.out)); (case aB => exact (qB HB.out)); (case aF => exact (fun k_ hk => Kd.fresh' (Kd.R_lt (Kd.qR HO_8.out)) k_ hk)); (case aO => exact (by (with_reducible repeat (first | apply Kd.RA | apply Kd.RN | apply Kd.RD)); exact Kd.R_mono HO328.out (fun _ hk => hk.2))); (case aS => exact (bZ (qB HB.out))); (case aL => have := LMc25.out; omega); intro v330 w31 ho hb hg hat; rw [← Ny329.out] at ho; have n0_ := zK (Kd.R_after (ok := (fun _ => True)) (Kd.qR HO_8.out) hg hat); have n1_ := zK (hb); have n2_ := zK (ho); clear HO_8; clear HB; clear HO328; have HO_8 := n0_; have HB := n1_; have HO331 := n2_; clear n0_ n1_ n2_; clear ho hb hg hat))
    go_ret2
    exact ⟨_, by first | rfl | (simp [errW_none, errW_some] <;> rfl) | (simp [*, errW_none, errW_some] <;> rfl), by (with_reducible repeat (first | apply Kd.RA | apply Kd.RN | apply Kd.RD)); exact Kd.R_mono HO331.out (fun _ hk => trivial), by exact qB HB.out⟩
   rw [if_neg c17] at H
   have c17b0 : (a2 == 1) = false := beq_eq_false_iff_ne.mpr c17
   have c17b1 : (a2 != 1) = true := bne_iff_ne.mpr c17
   by_cases c32 : a2 = 2
   ·rw [if_pos c32] at H
    have c32b0 : (a2 == 2) = true := beq_iff_eq.mpr c32
    have c32b1 : (a2 != 2) = false := bne_eq_false_iff_eq.mpr c32
    clear c32
    by_cases c33 : t321 < (y318.length : Int)
    rotate_left
    ·rw [if_neg c33] at H
     exact absurd H (by simp)
    rw [if_pos c33] at H
    have c33b0 : decide (t321 < (y318.length : Int)) = true := decide_eq_true c33
    clear c33
    obtain ⟨y332, hy332⟩ : ∃ y_ : List (S38), y_ = (y318.set (t321 : Int).toNat (⟨(rd_T38 y318 t321).f0, (rd_T38 y318 t321).f1, (rd_T38 y318 t321).f2, (rd_T38 y318 t321).f3, a2⟩ : S38)) := ⟨_, rfl⟩
    replace H : ((spec_AreClaims.f kj5 y332).bind fun t333 => (if t333 = true then (some (y332, true)) else ((some (([] : List (S38)) : List (S38))).bind fun y334 => (if y334.length + l0.length < 3518437208883 then (some ((y334 ++ l0), false)) else (none))))) = some (r1, r2) := by first | (rw [hy332]; with_reducible exact H) | (have H2_ := (Option.bind_some _ _).symm.trans H; rw [hy332]; with_reducible exact H2_) | (have H2_ := (Option.bind_some _ _).symm.trans H; with_reducible exact H2_) | with_reducible exact H | (rw [hy332]; exact H) | exact H
    have Ny332 := zK hy332
    clear hy332
    replace H := Option.bind_eq_some_iff.mp H
    obtain ⟨t333, A350, H⟩ := H
    replace H : (if t333 = true then (some (y332, true)) else ((some (([] : List (S38)) : List (S38))).bind fun y334 => (if y334.length + l0.length < 3518437208883 then (some ((y334 ++ l0), false)) else (none)))) = some (r1, r2) := H
    have A35 := zK A350
    clear A350
    by_cases c36 : t333 = true
    ·subst c36
     have H1 : (some (y332, true)) = some (r1, r2) := by rw [if_pos rfl] at H; exact H
     clear H
     have H := H1
     clear H1
     simp only [Option.some.injEq, Prod.mk.injEq] at H
     obtain ⟨rfl, rfl⟩ := H
     have p323 : 0 ≤ (t321 : Int) := oD m2
     have q323 : t321 < (l0.length : Int) := oD m2
     obtain ⟨ad323, e323, hx323_0, hx323_1, hx323_2, hx323_3, hx323_4⟩ := at_T38 HR0.out t321 p323 q323
     cases e323
     replace hx323_0 := (HB.out.cell (bL w hx323_0)).trans hx323_0
     replace hx323_1 := (HB.out.cell (bL w hx323_1)).trans hx323_1
     replace hx323_2 := (HB.out.cell (bL w hx323_2)).trans hx323_2
     replace hx323_3 := (HB.out.cell (bL w hx323_3)).trans hx323_3
     replace hx323_4 := (HB.out.cell (bL w hx323_4)).trans hx323_4
     replace p323 := eq_true p323
     replace q323 := eq_true q323
     have p34 : 0 ≤ (t321 : Int) := oD m2
     have q34 : (t321 : Int) < ((y318.length : Int) : Int) := oD m2
     obtain ⟨go34, co34, eo34, gb34, gl34, cl34, HG34⟩ := Kd.R_form HO_8.out (by omega)
     (first | cases eo34 | (injection eo34 with ea_ en_ ec_; (first | subst ea_ | (injection ea_ with ea_; subst ea_)); subst ec_; clear en_))
     have GB34 := zK gb34
     have GG34 := zK HG34
     clear gb34 gl34 HG34
     obtain ⟨ce34, hcl34, hM34, hcc34, hfr34⟩ := Kd.R_elem HO_8.out z38 (t321 : Int) p34 q34
     obtain rfl := k38_openM hM34
     have hx34_0 : wc.cell? ⟨go34, (t321 : Int).toNat * 5, none⟩ = some (.int .i64 ((rd_T38 y318 t321).f0)) := hcc34 0 _ rfl
     have hx34_1 : wc.cell? ⟨go34, (t321 : Int).toNat * 5 + 1, none⟩ = some (.int .i64 ((rd_T38 y318 t321).f1)) := hcc34 1 _ rfl
     have hx34_2 : wc.cell? ⟨go34, (t321 : Int).toNat * 5 + 2, none⟩ = some (.int .i64 ((rd_T38 y318 t321).f2)) := hcc34 2 _ rfl
     have hx34_3 : wc.cell? ⟨go34, (t321 : Int).toNat * 5 + 3, none⟩ = some (.int .i64 ((rd_T38 y318 t321).f3)) := hcc34 3 _ rfl
     have hx34_4 : wc.cell? ⟨go34, (t321 : Int).toNat * 5 + 4, none⟩ = some (.int .i64 ((rd_T38 y318 t321).f4)) := hcc34 4 _ rfl
     have hf34_0 : wc.frozen? ⟨go34, (t321 : Int).toNat * 5, none⟩ = false := hfr34 0
     have hf34_1 : wc.frozen? ⟨go34, (t321 : Int).toNat * 5 + 1, none⟩ = false := hfr34 1
     have hf34_2 : wc.frozen? ⟨go34, (t321 : Int).toNat * 5 + 2, none⟩ = false := hfr34 2
     have hf34_3 : wc.frozen? ⟨go34, (t321 : Int).toNat * 5 + 3, none⟩ = false := hfr34 3
     have hf34_4 : wc.frozen? ⟨go34, (t321 : Int).toNat * 5 + 4, none⟩ = false := hfr34 4
     clear hcl34 hcc34 hfr34 hM34
     replace p34 := eq_true p34
     replace q34 := eq_true q34
     have HX37 := zK (show Kd.R k38 38 wc w.heap.size (fun _ => True) (.slice (some ⟨go34, 0, none⟩) y318.length co34) y318 from (Kd.qR HO_8.out))
     obtain ⟨ce37, hcl37, hM37, hcc37, hfr37⟩ := Kd.R_elem HX37.out z38 (t321 : Int) (oD m2) (by have h_ : (t321 : Int) < ((y318.length : Int) : Int) := oD m2; first | exact h_ | (have e_ := (Kd.R_reads' HO_8.out).1; omega) | simpa using h_)
     obtain rfl := k38_openM hM37
     have HP37 := Kd.R_seg HX37.out (t321 : Int) (oD m2) (by have h_ : (t321 : Int) < ((y318.length : Int) : Int) := oD m2; first | exact h_ | (have e_ := (Kd.R_reads' HO_8.out).1; omega) | simpa using h_) (seg := [.int .i64 a2]) (j := 4) hcl37 hcc37 (show 5 ≤ 5 from by decide) (x' := (⟨(rd_T38 y318 t321).f0, (rd_T38 y318 t321).f1, (rd_T38 y318 t321).f2, (rd_T38 y318 t321).f3, a2⟩ : S38)) (k38_mkM _ _ _ (⟨(rd_T38 y318 t321).f0, (rd_T38 y318 t321).f1, (rd_T38 y318 t321).f2, (rd_T38 y318 t321).f3, a2⟩ : S38) ) (fun _ hk => hk)
     have hx37_4 := hcc37 4 _ rfl
     (try simp only [show (k38).sz = 5 from rfl, Nat.mul_one, Nat.add_zero] at hx37_4)
     have hf37_4 := hfr37 4
     (try simp only [show (k38).sz = 5 from rfl, Nat.mul_one, Nat.add_zero] at hf37_4)
     clear hcl37 hcc37 hfr37 hM37
     go_wp2_with (first | ((with_reducible refine gate_store (t := 3) (p := 53) rfl ?_); refine store_event (t := 3) (p := 53) (v := ?vo_w38) (w1 := (wc.setCell ⟨go34, (t321 : Int).toNat * 5 + 4, none⟩ (.int .i64 a2))) ?hg ?ho ?hn ?hr ?_; (case ho => rfl); (case hg => rfl); (case hn => rfl); (case hr => first | (go_simp; done) | (go_simp; rfl)); intro w38 hw; have hg : wc.grownBy w38 (some go34) := (by rw [hw]; exact HP37.2); have hp_ : Kd.R k38 38 w38 w.heap.size (fun _ => True) (.slice (some ⟨go34, 0, none⟩) y318.length co34) y332 := (by rw [hw, Ny332.out]; exact HP37.1); clear HP37; have n0_ := zK (hp_); have n1_ := zK ((by rw [hw]; exact bS (HB.out) GB34.out : Below w.heap.size w w38)); clear HO_8; clear HB; have HO_8 := n0_; have HB := n1_; clear n0_ n1_; clear hg hw hp_) | (go_at_call 42; refine calls_of_args (args' := #[.slice (some ⟨go34, 0, none⟩) y332.length co34]) (by first | (rw [show y332.length = y318.length from (Kd.R_reads' HO_8.out).1.symm] <;> rfl) | rfl) ?_; (with_reducible refine (spec_AreClaims.calls kj5 _ _ y332 true _ ?side1 ?side2 A35.out).mono ?_); (case side1 => repeat (first | exact (Kd.R_reads' HO_8.out).2.2 | (with_reducible refine Kd.CA ?_ _) | (with_reducible refine Kd.CN ?_ _) | (with_reducible refine Kd.CD ?_))); (case side2 => rw [show y332.length = y318.length from (Kd.R_reads' HO_8.out).1.symm]; exact (Kd.R_reads' HO_8.out).2.1); rintro e w39 ⟨rfl, hb⟩; have n0_ := zK (Kd.R_below (Kd.qR HO_8.out) hb); have n1_ := zK (bT (qB HB.out) hb); clear HO_8; clear HB; have HO_8 := n0_; have HB := n1_; clear n0_ n1_; (try clear hb); (try clear hb2); (try clear hk); (try clear hi)))
     go_ret2
     exact ⟨_, by first | rfl | (simp [errW_none, errW_some] <;> rfl) | (simp [*, errW_none, errW_some] <;> rfl), by exact Kd.qR HO_8.out, by exact qB HB.out⟩
    replace c36 := Bool.eq_false_iff.mpr c36
    subst c36
    have H1 : ((some (([] : List (S38)) : List (S38))).bind fun y334 => (if y334.length + l0.length < 3518437208883 then (some ((y334 ++ l0), false)) else (none))) = some (r1, r2) := by rw [if_neg (show ¬ (false = true) by decide)] at H; exact H
    clear H
    have H := H1
    clear H1
    obtain ⟨y334, hy334⟩ : ∃ y_ : List (S38), y_ = (([] : List (S38))) := ⟨_, rfl⟩
    replace H : (if y334.length + l0.length < 3518437208883 then (some ((y334 ++ l0), false)) else (none)) = some (r1, r2) := by first | (rw [hy334]; with_reducible exact H) | (have H2_ := (Option.bind_some _ _).symm.trans H; rw [hy334]; with_reducible exact H2_) | (have H2_ := (Option.bind_some _ _).symm.trans H; with_reducible exact H2_) | with_reducible exact H | (rw [hy334]; exact H) | exact H
    have Ny334 := zK hy334
    clear hy334
    by_cases c40 : y334.length + l0.length < 3518437208883
    rotate_left
    ·rw [if_neg c40] at H
     exact absurd H (by simp)
    rw [if_pos c40] at H
    have LMc40 := zK c40
    clear c40
    obtain ⟨y337, hy337⟩ : ∃ y_ : List (S38), y_ = (y334 ++ l0) := ⟨_, rfl⟩
    replace H : (some (y337, false)) = some (r1, r2) := by first | (rw [hy337]; with_reducible exact H) | (have H2_ := (Option.bind_some _ _).symm.trans H; rw [hy337]; with_reducible exact H2_) | (have H2_ := (Option.bind_some _ _).symm.trans H; with_reducible exact H2_) | with_reducible exact H | (rw [hy337]; exact H) | exact H
    have Ny337 := zK hy337
    clear hy337
    simp only [Option.some.injEq, Prod.mk.injEq] at H
    obtain ⟨rfl, rfl⟩ := H
    have p323 : 0 ≤ (t321 : Int) := oD m2
    have q323 : t321 < (l0.length : Int) := oD m2
    obtain ⟨ad323, e323, hx323_0, hx323_1, hx323_2, hx323_3, hx323_4⟩ := at_T38 HR0.out t321 p323 q323
    cases e323
    replace hx323_0 := (HB.out.cell (bL w hx323_0)).trans hx323_0
    replace hx323_1 := (HB.out.cell (bL w hx323_1)).trans hx323_1
    replace hx323_2 := (HB.out.cell (bL w hx323_2)).trans hx323_2
    replace hx323_3 := (HB.out.cell (bL w hx323_3)).trans hx323_3
    replace hx323_4 := (HB.out.cell (bL w hx323_4)).trans hx323_4
    replace p323 := eq_true p323
    replace q323 := eq_true q323
    have p34 : 0 ≤ (t321 : Int) := oD m2
    have q34 : (t321 : Int) < ((y318.length : Int) : Int) := oD m2
    obtain ⟨go34, co34, eo34, gb34, gl34, cl34, HG34⟩ := Kd.R_form HO_8.out (by omega)
    (first | cases eo34 | (injection eo34 with ea_ en_ ec_; (first | subst ea_ | (injection ea_ with ea_; subst ea_)); subst ec_; clear en_))
    have GB34 := zK gb34
    have GG34 := zK HG34
    clear gb34 gl34 HG34
    obtain ⟨ce34, hcl34, hM34, hcc34, hfr34⟩ := Kd.R_elem HO_8.out z38 (t321 : Int) p34 q34
    obtain rfl := k38_openM hM34
    have hx34_0 : wc.cell? ⟨go34, (t321 : Int).toNat * 5, none⟩ = some (.int .i64 ((rd_T38 y318 t321).f0)) := hcc34 0 _ rfl
    have hx34_1 : wc.cell? ⟨go34, (t321 : Int).toNat * 5 + 1, none⟩ = some (.int .i64 ((rd_T38 y318 t321).f1)) := hcc34 1 _ rfl
    have hx34_2 : wc.cell? ⟨go34, (t321 : Int).toNat * 5 + 2, none⟩ = some (.int .i64 ((rd_T38 y318 t321).f2)) := hcc34 2 _ rfl
    have hx34_3 : wc.cell? ⟨go34, (t321 : Int).toNat * 5 + 3, none⟩ = some (.int .i64 ((rd_T38 y318 t321).f3)) := hcc34 3 _ rfl
    have hx34_4 : wc.cell? ⟨go34, (t321 : Int).toNat * 5 + 4, none⟩ = some (.int .i64 ((rd_T38 y318 t321).f4)) := hcc34 4 _ rfl
    have hf34_0 : wc.frozen? ⟨go34, (t321 : Int).toNat * 5, none⟩ = false := hfr34 0
    have hf34_1 : wc.frozen? ⟨go34, (t321 : Int).toNat * 5 + 1, none⟩ = false := hfr34 1
    have hf34_2 : wc.frozen? ⟨go34, (t321 : Int).toNat * 5 + 2, none⟩ = false := hfr34 2
    have hf34_3 : wc.frozen? ⟨go34, (t321 : Int).toNat * 5 + 3, none⟩ = false := hfr34 3
    have hf34_4 : wc.frozen? ⟨go34, (t321 : Int).toNat * 5 + 4, none⟩ = false := hfr34 4
    clear hcl34 hcc34 hfr34 hM34
    replace p34 := eq_true p34
    replace q34 := eq_true q34
    have HX41 := zK (show Kd.R k38 38 wc w.heap.size (fun _ => True) (.slice (some ⟨go34, 0, none⟩) y318.length co34) y318 from (Kd.qR HO_8.out))
    obtain ⟨ce41, hcl41, hM41, hcc41, hfr41⟩ := Kd.R_elem HX41.out z38 (t321 : Int) (oD m2) (by have h_ : (t321 : Int) < ((y318.length : Int) : Int) := oD m2; first | exact h_ | (have e_ := (Kd.R_reads' HO_8.out).1; omega) | simpa using h_)
    obtain rfl := k38_openM hM41
    have HP41 := Kd.R_seg HX41.out (t321 : Int) (oD m2) (by have h_ : (t321 : Int) < ((y318.length : Int) : Int) := oD m2; first | exact h_ | (have e_ := (Kd.R_reads' HO_8.out).1; omega) | simpa using h_) (seg := [.int .i64 a2]) (j := 4) hcl41 hcc41 (show 5 ≤ 5 from by decide) (x' := (⟨(rd_T38 y318 t321).f0, (rd_T38 y318 t321).f1, (rd_T38 y318 t321).f2, (rd_T38 y318 t321).f3, a2⟩ : S38)) (k38_mkM _ _ _ (⟨(rd_T38 y318 t321).f0, (rd_T38 y318 t321).f1, (rd_T38 y318 t321).f2, (rd_T38 y318 t321).f3, a2⟩ : S38) ) (fun _ hk => hk)
    have hx41_4 := hcc41 4 _ rfl
    (try simp only [show (k38).sz = 5 from rfl, Nat.mul_one, Nat.add_zero] at hx41_4)
    have hf41_4 := hfr41 4
    (try simp only [show (k38).sz = 5 from rfl, Nat.mul_one, Nat.add_zero] at hf41_4)
    clear hcl41 hcc41 hfr41 hM41
    go_wp2_with (first | ((with_reducible refine gate_store (t := 3) (p := 53) rfl ?_); refine store_event (t := 3) (p := 53) (v := ?vo_w42) (w1 := (wc.setCell ⟨go34, (t321 : Int).toNat * 5 + 4, none⟩ (.int .i64 a2))) ?hg ?ho ?hn ?hr ?_; (case ho => rfl); (case hg => rfl); (case hn => rfl); (case hr => first | (go_simp; done) | (go_simp; rfl)); intro w42 hw; have hg : wc.grownBy w42 (some go34) := (by rw [hw]; exact HP41.2); have hp_ : Kd.R k38 38 w42 w.heap.size (fun _ => True) (.slice (some ⟨go34, 0, none⟩) y318.length co34) y332 := (by rw [hw, Ny332.out]; exact HP41.1); clear HP41; have n0_ := zK (hp_); have n1_ := zK ((by rw [hw]; exact bS (HB.out) GB34.out : Below w.heap.size w w42)); clear HO_8; clear HB; have HO_8 := n0_; have HB := n1_; clear n0_ n1_; clear hg hw hp_) | (go_at_call 42; refine calls_of_args (args' := #[.slice (some ⟨go34, 0, none⟩) y332.length co34]) (by first | (rw [show y332.length = y318.length from (Kd.R_reads' HO_8.out).1.symm] <;> rfl) | rfl) ?_; (with_reducible refine (spec_AreClaims.calls kj5 _ _ y332 false _ ?side1 ?side2 A35.out).mono ?_); (case side1 => repeat (first | exact (Kd.R_reads' HO_8.out).2.2 | (with_reducible refine Kd.CA ?_ _) | (with_reducible refine Kd.CN ?_ _) | (with_reducible refine Kd.CD ?_))); (case side2 => rw [show y332.length = y318.length from (Kd.R_reads' HO_8.out).1.symm]; exact (Kd.R_reads' HO_8.out).2.1); rintro e w43 ⟨rfl, hb⟩; have n0_ := zK (Kd.R_below (Kd.qR HO_8.out) hb); have n1_ := zK (bT (qB HB.out) hb); clear HO_8; clear HB; have HO_8 := n0_; have HB := n1_; clear n0_ n1_; (try clear hb); (try clear hb2); (try clear hk); (try clear hi)) | ((with_reducible refine gate_dst (N := 61) rfl ?_); refine Kd.R_lit k38 _ 38 ?hg (N := 61) ?hd (xs := ([] : List (S38))) (inner := []) (ok := fun _ => True) (okp := fun _ => True) ?hr ?hp (fun _ hk => hk) trivial (Below.refl _ _) (Nat.le_refl _) (by simp) ?_; (case hd => rfl); (case hg => rfl); (case hr => first | (go_simp; done) | (go_simp; rfl)); (case hp => exact (Reps.none _ _)); intro v335 w44 ho45 hb hg_ hnew_; clear hg_ hnew_; (first | rw [← Ny334.out] at ho45 | (simp only [Int.reduceToNat] at ho45; rw [← Ny334.out] at ho45)); have n0_ := zK (Kd.R_elder' (Kd.qR HO_8.out) (Kd.R_base ho45) hb); have n1_ := zK (Kd.R_lower (Kd.R_new' ho45 (Kd.R_lt (Kd.qR HO_8.out))) (bZ (qB HB.out))); have n2_ := zK (bT (qB HB.out) hb); clear HO_8; clear HB; have HO_8 := n0_; have HO336 := n1_; have HB := n2_; clear n0_ n1_ n2_; clear hb ho45) | ((with_reducible refine gate_builtin (b := .append) (xs := #[.tmp 61, .tmp 62]) rfl ?_); at_builtin; refine Kd.R_append_rows k38 (w0 := w) w.heap.size rfl (.tmp 61) (.tmp 62) 30 38 (.agg #[(.int .i64 0), (.int .i64 0), (.int .i64 0), (.int .i64 0), (.int .i64 0)]) 40 rfl Try.underlying30 info38 rfl (by decide) (by omega) v335 y334 l0 _ _ _ (fun k_ => some k_ ≠ (.slice (some ⟨go34, 0, none⟩) y318.length co34 : Value).ownBlock) (fun _ => False) rfl rfl ?aO ?aR (fun _ _ h => h) (fun _ h => h.elim) ?aF ?aB ?aS ?aL ?_; (case aR => exact Kd.qC (Kd.C_below HR0.out HB.out)); (case aB => exact (qB HB.out)); (case aF => exact (fun k_ hk => Kd.fresh' (Kd.R_lt (Kd.qR HO_8.out)) k_ hk)); (case aO => exact (by (with_reducible repeat (first | apply Kd.RA | apply Kd.RN | apply Kd.RD)); exact Kd.R_mono HO336.out (fun _ hk => hk.2))); (case aS => exact (bZ (qB HB.out))); (case aL => have := LMc40.out; omega); intro v338 w46 ho hb hg hat; rw [← Ny337.out] at ho; have n0_ := zK (Kd.R_after (ok := (fun _ => True)) (Kd.qR HO_8.out) hg hat); have n1_ := zK (hb); have n2_ := zK (ho); clear HO_8; clear HB; clear HO336; have HO_8 := n0_; have HB := n1_; have HO339 := n2_; clear n0_ n1_ n2_; clear ho hb hg hat))
    go_ret2
    exact ⟨_, by first | rfl | (simp [errW_none, errW_some] <;> rfl) | (simp [*, errW_none, errW_some] <;> rfl), by (with_reducible repeat (first | apply Kd.RA | apply Kd.RN | apply Kd.RD)); exact Kd.R_mono HO339.out (fun _ hk => trivial), by exact qB HB.out⟩
   rw [if_neg c32] at H
   have c32b0 : (a2 == 2) = false := beq_eq_false_iff_ne.mpr c32
   have c32b1 : (a2 != 2) = true := bne_iff_ne.mpr c32
   by_cases c47 : ((rd_T38 l0 t321).f4) = 1
   rotate_left
   ·rw [if_neg c47] at H
    have c47b0 : (((rd_T38 l0 t321).f4) == 1) = false := beq_eq_false_iff_ne.mpr c47
    have c47b1 : (((rd_T38 l0 t321).f4) != 1) = true := bne_iff_ne.mpr c47
    by_cases c69 : t321 < (y318.length : Int)
    rotate_left
    ·rw [if_neg c69] at H
     exact absurd H (by simp)
    rw [if_pos c69] at H
    have c69b0 : decide (t321 < (y318.length : Int)) = true := decide_eq_true c69
    clear c69
    obtain ⟨y354, hy354⟩ : ∃ y_ : List (S38), y_ = (y318.set (t321 : Int).toNat (⟨(rd_T38 y318 t321).f0, (rd_T38 y318 t321).f1, (rd_T38 y318 t321).f2, (rd_T38 y318 t321).f3, a2⟩ : S38)) := ⟨_, rfl⟩
    replace H : ((some (([] : List (S38)) : List (S38))).bind fun y355 => (if y355.length + l0.length < 3518437208883 then (some ((y355 ++ l0), false)) else (none))) = some (r1, r2) := by first | (rw [hy354]; with_reducible exact H) | (have H2_ := (Option.bind_some _ _).symm.trans H; rw [hy354]; with_reducible exact H2_) | (have H2_ := (Option.bind_some _ _).symm.trans H; with_reducible exact H2_) | with_reducible exact H | (rw [hy354]; exact H) | exact H
    have Ny354 := zK hy354
    clear hy354
    obtain ⟨y355, hy355⟩ : ∃ y_ : List (S38), y_ = (([] : List (S38))) := ⟨_, rfl⟩
    replace H : (if y355.length + l0.length < 3518437208883 then (some ((y355 ++ l0), false)) else (none)) = some (r1, r2) := by first | (rw [hy355]; with_reducible exact H) | (have H2_ := (Option.bind_some _ _).symm.trans H; rw [hy355]; with_reducible exact H2_) | (have H2_ := (Option.bind_some _ _).symm.trans H; with_reducible exact H2_) | with_reducible exact H | (rw [hy355]; exact H) | exact H
    have Ny355 := zK hy355
    clear hy355
    by_cases c71 : y355.length + l0.length < 3518437208883
    rotate_left
    ·rw [if_neg c71] at H
     exact absurd H (by simp)
    rw [if_pos c71] at H
    have LMc71 := zK c71
    clear c71
    obtain ⟨y358, hy358⟩ : ∃ y_ : List (S38), y_ = (y355 ++ l0) := ⟨_, rfl⟩
    replace H : (some (y358, false)) = some (r1, r2) := by first | (rw [hy358]; with_reducible exact H) | (have H2_ := (Option.bind_some _ _).symm.trans H; rw [hy358]; with_reducible exact H2_) | (have H2_ := (Option.bind_some _ _).symm.trans H; with_reducible exact H2_) | with_reducible exact H | (rw [hy358]; exact H) | exact H
    have Ny358 := zK hy358
    clear hy358
    simp only [Option.some.injEq, Prod.mk.injEq] at H
    obtain ⟨rfl, rfl⟩ := H
    have p323 : 0 ≤ (t321 : Int) := oD m2
    have q323 : t321 < (l0.length : Int) := oD m2
    obtain ⟨ad323, e323, hx323_0, hx323_1, hx323_2, hx323_3, hx323_4⟩ := at_T38 HR0.out t321 p323 q323
    cases e323
    replace hx323_0 := (HB.out.cell (bL w hx323_0)).trans hx323_0
    replace hx323_1 := (HB.out.cell (bL w hx323_1)).trans hx323_1
    replace hx323_2 := (HB.out.cell (bL w hx323_2)).trans hx323_2
    replace hx323_3 := (HB.out.cell (bL w hx323_3)).trans hx323_3
    replace hx323_4 := (HB.out.cell (bL w hx323_4)).trans hx323_4
    replace p323 := eq_true p323
    replace q323 := eq_true q323
    have p70 : 0 ≤ (t321 : Int) := oD m2
    have q70 : (t321 : Int) < ((y318.length : Int) : Int) := oD m2
    obtain ⟨go70, co70, eo70, gb70, gl70, cl70, HG70⟩ := Kd.R_form HO_8.out (by omega)
    (first | cases eo70 | (injection eo70 with ea_ en_ ec_; (first | subst ea_ | (injection ea_ with ea_; subst ea_)); subst ec_; clear en_))
    have GB70 := zK gb70
    have GG70 := zK HG70
    clear gb70 gl70 HG70
    obtain ⟨ce70, hcl70, hM70, hcc70, hfr70⟩ := Kd.R_elem HO_8.out z38 (t321 : Int) p70 q70
    obtain rfl := k38_openM hM70
    have hx70_0 : wc.cell? ⟨go70, (t321 : Int).toNat * 5, none⟩ = some (.int .i64 ((rd_T38 y318 t321).f0)) := hcc70 0 _ rfl
    have hx70_1 : wc.cell? ⟨go70, (t321 : Int).toNat * 5 + 1, none⟩ = some (.int .i64 ((rd_T38 y318 t321).f1)) := hcc70 1 _ rfl
    have hx70_2 : wc.cell? ⟨go70, (t321 : Int).toNat * 5 + 2, none⟩ = some (.int .i64 ((rd_T38 y318 t321).f2)) := hcc70 2 _ rfl
    have hx70_3 : wc.cell? ⟨go70, (t321 : Int).toNat * 5 + 3, none⟩ = some (.int .i64 ((rd_T38 y318 t321).f3)) := hcc70 3 _ rfl
    have hx70_4 : wc.cell? ⟨go70, (t321 : Int).toNat * 5 + 4, none⟩ = some (.int .i64 ((rd_T38 y318 t321).f4)) := hcc70 4 _ rfl
    have hf70_0 : wc.frozen? ⟨go70, (t321 : Int).toNat * 5, none⟩ = false := hfr70 0
    have hf70_1 : wc.frozen? ⟨go70, (t321 : Int).toNat * 5 + 1, none⟩ = false := hfr70 1
    have hf70_2 : wc.frozen? ⟨go70, (t321 : Int).toNat * 5 + 2, none⟩ = false := hfr70 2
    have hf70_3 : wc.frozen? ⟨go70, (t321 : Int).toNat * 5 + 3, none⟩ = false := hfr70 3
    have hf70_4 : wc.frozen? ⟨go70, (t321 : Int).toNat * 5 + 4, none⟩ = false := hfr70 4
    clear hcl70 hcc70 hfr70 hM70
    replace p70 := eq_true p70
    replace q70 := eq_true q70
    have HX72 := zK (show Kd.R k38 38 wc w.heap.size (fun _ => True) (.slice (some ⟨go70, 0, none⟩) y318.length co70) y318 from (Kd.qR HO_8.out))
    obtain ⟨ce72, hcl72, hM72, hcc72, hfr72⟩ := Kd.R_elem HX72.out z38 (t321 : Int) (oD m2) (by have h_ : (t321 : Int) < ((y318.length : Int) : Int) := oD m2; first | exact h_ | (have e_ := (Kd.R_reads' HO_8.out).1; omega) | simpa using h_)
    obtain rfl := k38_openM hM72
    have HP72 := Kd.R_seg HX72.out (t321 : Int) (oD m2) (by have h_ : (t321 : Int) < ((y318.length : Int) : Int) := oD m2; first | exact h_ | (have e_ := (Kd.R_reads' HO_8.out).1; omega) | simpa using h_) (seg := [.int .i64 a2]) (j := 4) hcl72 hcc72 (show 5 ≤ 5 from by decide) (x' := (⟨(rd_T38 y318 t321).f0, (rd_T38 y318 t321).f1, (rd_T38 y318 t321).f2, (rd_T38 y318 t321).f3, a2⟩ : S38)) (k38_mkM _ _ _ (⟨(rd_T38 y318 t321).f0, (rd_T38 y318 t321).f1, (rd_T38 y318 t321).f2, (rd_T38 y318 t321).f3, a2⟩ : S38) ) (fun _ hk => hk)
    have hx72_4 := hcc72 4 _ rfl
    (try simp only [show (k38).sz = 5 from rfl, Nat.mul_one, Nat.add_zero] at hx72_4)
    have hf72_4 := hfr72 4
    (try simp only [show (k38).sz = 5 from rfl, Nat.mul_one, Nat.add_zero] at hf72_4)
    clear hcl72 hcc72 hfr72 hM72
    go_wp2_with (first | ((with_reducible refine gate_store (t := 3) (p := 53) rfl ?_); refine store_event (t := 3) (p := 53) (v := ?vo_w73) (w1 := (wc.setCell ⟨go70, (t321 : Int).toNat * 5 + 4, none⟩ (.int .i64 a2))) ?hg ?ho ?hn ?hr ?_; (case ho => rfl); (case hg => rfl); (case hn => rfl); (case hr => first | (go_simp; done) | (go_simp; rfl)); intro w73 hw; have hg : wc.grownBy w73 (some go70) := (by rw [hw]; exact HP72.2); have hp_ : Kd.R k38 38 w73 w.heap.size (fun _ => True) (.slice (some ⟨go70, 0, none⟩) y318.length co70) y354 := (by rw [hw, Ny354.out]; exact HP72.1); clear HP72; have n0_ := zK (hp_); have n1_ := zK ((by rw [hw]; exact bS (HB.out) GB70.out : Below w.heap.size w w73)); clear HO_8; clear HB; have HO_8 := n0_; have HB := n1_; clear n0_ n1_; clear hg hw hp_) | ((with_reducible refine gate_dst (N := 61) rfl ?_); refine Kd.R_lit k38 _ 38 ?hg (N := 61) ?hd (xs := ([] : List (S38))) (inner := []) (ok := fun _ => True) (okp := fun _ => True) ?hr ?hp (fun _ hk => hk) trivial (Below.refl _ _) (Nat.le_refl _) (by simp) ?_; (case hd => rfl); (case hg => rfl); (case hr => first | (go_simp; done) | (go_simp; rfl)); (case hp => exact (Reps.none _ _)); intro v356 w74 ho75 hb hg_ hnew_; clear hg_ hnew_; (first | rw [← Ny355.out] at ho75 | (simp only [Int.reduceToNat] at ho75; rw [← Ny355.out] at ho75)); have n0_ := zK (Kd.R_elder' (Kd.qR HO_8.out) (Kd.R_base ho75) hb); have n1_ := zK (Kd.R_lower (Kd.R_new' ho75 (Kd.R_lt (Kd.qR HO_8.out))) (bZ (qB HB.out))); have n2_ := zK (bT (qB HB.out) hb); clear HO_8; clear HB; have HO_8 := n0_; have HO357 := n1_; have HB := n2_; clear n0_ n1_ n2_; clear hb ho75) | ((with_reducible refine gate_builtin (b := .append) (xs := #[.tmp 61, .tmp 62]) rfl ?_); at_builtin; refine Kd.R_append_rows k38 (w0 := w) w.heap.size rfl (.tmp 61) (.tmp 62) 30 38 (.agg #[(.int .i64 0), (.int .i64 0), (.int .i64 0), (.int .i64 0), (.int .i64 0)]) 40 rfl Try.underlying30 info38 rfl (by decide) (by omega) v356 y355 l0 _ _ _ (fun k_ => some k_ ≠ (.slice (some ⟨go70, 0, none⟩) y318.length co70 : Value).ownBlock) (fun _ => False) rfl rfl ?aO ?aR (fun _ _ h => h) (fun _ h => h.elim) ?aF ?aB ?aS ?aL ?_; (case aR => exact Kd.qC (Kd.C_below HR0.out HB.out)); (case aB => exact (qB HB.out)); (case aF => exact (fun k_ hk => Kd.fresh' (Kd.R_lt (Kd.qR HO_8.out)) k_ hk)); (case aO => exact (by (with_reducible repeat (first | apply Kd.RA | apply Kd.RN | apply Kd.RD)); exact Kd.R_mono HO357.out (fun _ hk => hk.2))); (case aS => exact (bZ (qB HB.out))); (case aL => have := LMc71.out; omega); intro v359 w76 ho hb hg hat; rw [← Ny358.out] at ho; have n0_ := zK (Kd.R_after (ok := (fun _ => True)) (Kd.qR HO_8.out) hg hat); have n1_ := zK (hb); have n2_ := zK (ho); clear HO_8; clear HB; clear HO357; have HO_8 := n0_; have HB := n1_; have HO360 := n2_; clear n0_ n1_ n2_; clear ho hb hg hat))
    go_ret2
    exact ⟨_, by first | rfl | (simp [errW_none, errW_some] <;> rfl) | (simp [*, errW_none, errW_some] <;> rfl), by (with_reducible repeat (first | apply Kd.RA | apply Kd.RN | apply Kd.RD)); exact Kd.R_mono HO360.out (fun _ hk => trivial), by exact qB HB.out⟩
   rw [if_pos c47] at H
   have c47b0 : (((rd_T38 l0 t321).f4) == 1) = true := beq_iff_eq.mpr c47
   have c47b1 : (((rd_T38 l0 t321).f4) != 1) = false := bne_eq_false_iff_eq.mpr c47
   clear c47
   by_cases c48 : t321 < (y318.length : Int)
   rotate_left
   ·rw [if_neg c48] at H
    exact absurd H (by simp)
   rw [if_pos c48] at H
   have c48b0 : decide (t321 < (y318.length : Int)) = true := decide_eq_true c48
   clear c48
   obtain ⟨y340, hy340⟩ : ∃ y_ : List (S38), y_ = (y318.set (t321 : Int).toNat (⟨(rd_T38 y318 t321).f0, (rd_T38 y318 t321).f1, (rd_T38 y318 t321).f2, (rd_T38 y318 t321).f3, a2⟩ : S38)) := ⟨_, rfl⟩
   replace H : (if a2 = 3 then ((spec_AreClaims.f kj5 y340).bind fun t341 => (if t341 = true then (some (y340, true)) else ((some (([] : List (S38)) : List (S38))).bind fun y342 => (if y342.length + l0.length < 3518437208883 then (some ((y342 ++ l0), false)) else (none))))) else ((some (([] : List (S38)) : List (S38))).bind fun y348 => (if y348.length + l0.length < 3518437208883 then (some ((y348 ++ l0), false)) else (none)))) = some (r1, r2) := by first | (rw [hy340]; with_reducible exact H) | (have H2_ := (Option.bind_some _ _).symm.trans H; rw [hy340]; with_reducible exact H2_) | (have H2_ := (Option.bind_some _ _).symm.trans H; with_reducible exact H2_) | with_reducible exact H | (rw [hy340]; exact H) | exact H
   have Ny340 := zK hy340
   clear hy340
   by_cases c50 : a2 = 3
   rotate_left
   ·rw [if_neg c50] at H
    have c50b0 : (a2 == 3) = false := beq_eq_false_iff_ne.mpr c50
    have c50b1 : (a2 != 3) = true := bne_iff_ne.mpr c50
    obtain ⟨y348, hy348⟩ : ∃ y_ : List (S38), y_ = (([] : List (S38))) := ⟨_, rfl⟩
    replace H : (if y348.length + l0.length < 3518437208883 then (some ((y348 ++ l0), false)) else (none)) = some (r1, r2) := by first | (rw [hy348]; with_reducible exact H) | (have H2_ := (Option.bind_some _ _).symm.trans H; rw [hy348]; with_reducible exact H2_) | (have H2_ := (Option.bind_some _ _).symm.trans H; with_reducible exact H2_) | with_reducible exact H | (rw [hy348]; exact H) | exact H
    have Ny348 := zK hy348
    clear hy348
    by_cases c63 : y348.length + l0.length < 3518437208883
    rotate_left
    ·rw [if_neg c63] at H
     exact absurd H (by simp)
    rw [if_pos c63] at H
    have LMc63 := zK c63
    clear c63
    obtain ⟨y351, hy351⟩ : ∃ y_ : List (S38), y_ = (y348 ++ l0) := ⟨_, rfl⟩
    replace H : (some (y351, false)) = some (r1, r2) := by first | (rw [hy351]; with_reducible exact H) | (have H2_ := (Option.bind_some _ _).symm.trans H; rw [hy351]; with_reducible exact H2_) | (have H2_ := (Option.bind_some _ _).symm.trans H; with_reducible exact H2_) | with_reducible exact H | (rw [hy351]; exact H) | exact H
    have Ny351 := zK hy351
    clear hy351
    simp only [Option.some.injEq, Prod.mk.injEq] at H
    obtain ⟨rfl, rfl⟩ := H
    have p323 : 0 ≤ (t321 : Int) := oD m2
    have q323 : t321 < (l0.length : Int) := oD m2
    obtain ⟨ad323, e323, hx323_0, hx323_1, hx323_2, hx323_3, hx323_4⟩ := at_T38 HR0.out t321 p323 q323
    cases e323
    replace hx323_0 := (HB.out.cell (bL w hx323_0)).trans hx323_0
    replace hx323_1 := (HB.out.cell (bL w hx323_1)).trans hx323_1
    replace hx323_2 := (HB.out.cell (bL w hx323_2)).trans hx323_2
    replace hx323_3 := (HB.out.cell (bL w hx323_3)).trans hx323_3
    replace hx323_4 := (HB.out.cell (bL w hx323_4)).trans hx323_4
    replace p323 := eq_true p323
    replace q323 := eq_true q323
    have p49 : 0 ≤ (t321 : Int) := oD m2
    have q49 : (t321 : Int) < ((y318.length : Int) : Int) := oD m2
    obtain ⟨go49, co49, eo49, gb49, gl49, cl49, HG49⟩ := Kd.R_form HO_8.out (by omega)
    (first | cases eo49 | (injection eo49 with ea_ en_ ec_; (first | subst ea_ | (injection ea_ with ea_; subst ea_)); subst ec_; clear en_))
    have GB49 := zK gb49
    have GG49 := zK HG49
    clear gb49 gl49 HG49
    obtain ⟨ce49, hcl49, hM49, hcc49, hfr49⟩ := Kd.R_elem HO_8.out z38 (t321 : Int) p49 q49
    obtain rfl := k38_openM hM49
    have hx49_0 : wc.cell? ⟨go49, (t321 : Int).toNat * 5, none⟩ = some (.int .i64 ((rd_T38 y318 t321).f0)) := hcc49 0 _ rfl
    have hx49_1 : wc.cell? ⟨go49, (t321 : Int).toNat * 5 + 1, none⟩ = some (.int .i64 ((rd_T38 y318 t321).f1)) := hcc49 1 _ rfl
    have hx49_2 : wc.cell? ⟨go49, (t321 : Int).toNat * 5 + 2, none⟩ = some (.int .i64 ((rd_T38 y318 t321).f2)) := hcc49 2 _ rfl
    have hx49_3 : wc.cell? ⟨go49, (t321 : Int).toNat * 5 + 3, none⟩ = some (.int .i64 ((rd_T38 y318 t321).f3)) := hcc49 3 _ rfl
    have hx49_4 : wc.cell? ⟨go49, (t321 : Int).toNat * 5 + 4, none⟩ = some (.int .i64 ((rd_T38 y318 t321).f4)) := hcc49 4 _ rfl
    have hf49_0 : wc.frozen? ⟨go49, (t321 : Int).toNat * 5, none⟩ = false := hfr49 0
    have hf49_1 : wc.frozen? ⟨go49, (t321 : Int).toNat * 5 + 1, none⟩ = false := hfr49 1
    have hf49_2 : wc.frozen? ⟨go49, (t321 : Int).toNat * 5 + 2, none⟩ = false := hfr49 2
    have hf49_3 : wc.frozen? ⟨go49, (t321 : Int).toNat * 5 + 3, none⟩ = false := hfr49 3
    have hf49_4 : wc.frozen? ⟨go49, (t321 : Int).toNat * 5 + 4, none⟩ = false := hfr49 4
    clear hcl49 hcc49 hfr49 hM49
    replace p49 := eq_true p49
    replace q49 := eq_true q49
    have HX64 := zK (show Kd.R k38 38 wc w.heap.size (fun _ => True) (.slice (some ⟨go49, 0, none⟩) y318.length co49) y318 from (Kd.qR HO_8.out))
    obtain ⟨ce64, hcl64, hM64, hcc64, hfr64⟩ := Kd.R_elem HX64.out z38 (t321 : Int) (oD m2) (by have h_ : (t321 : Int) < ((y318.length : Int) : Int) := oD m2; first | exact h_ | (have e_ := (Kd.R_reads' HO_8.out).1; omega) | simpa using h_)
    obtain rfl := k38_openM hM64
    have HP64 := Kd.R_seg HX64.out (t321 : Int) (oD m2) (by have h_ : (t321 : Int) < ((y318.length : Int) : Int) := oD m2; first | exact h_ | (have e_ := (Kd.R_reads' HO_8.out).1; omega) | simpa using h_) (seg := [.int .i64 a2]) (j := 4) hcl64 hcc64 (show 5 ≤ 5 from by decide) (x' := (⟨(rd_T38 y318 t321).f0, (rd_T38 y318 t321).f1, (rd_T38 y318 t321).f2, (rd_T38 y318 t321).f3, a2⟩ : S38)) (k38_mkM _ _ _ (⟨(rd_T38 y318 t321).f0, (rd_T38 y318 t321).f1, (rd_T38 y318 t321).f2, (rd_T38 y318 t321).f3, a2⟩ : S38) ) (fun _ hk => hk)
    have hx64_4 := hcc64 4 _ rfl
    (try simp only [show (k38).sz = 5 from rfl, Nat.mul_one, Nat.add_zero] at hx64_4)
    have hf64_4 := hfr64 4
    (try simp only [show (k38).sz = 5 from rfl, Nat.mul_one, Nat.add_zero] at hf64_4)
    clear hcl64 hcc64 hfr64 hM64
    go_wp2_with (first | ((with_reducible refine gate_store (t := 3) (p := 53) rfl ?_); refine store_event (t := 3) (p := 53) (v := ?vo_w65) (w1 := (wc.setCell ⟨go49, (t321 : Int).toNat * 5 + 4, none⟩ (.int .i64 a2))) ?hg ?ho ?hn ?hr ?_; (case ho => rfl); (case hg => rfl); (case hn => rfl); (case hr => first | (go_simp; done) | (go_simp; rfl)); intro w65 hw; have hg : wc.grownBy w65 (some go49) := (by rw [hw]; exact HP64.2); have hp_ : Kd.R k38 38 w65 w.heap.size (fun _ => True) (.slice (some ⟨go49, 0, none⟩) y318.length co49) y340 := (by rw [hw, Ny340.out]; exact HP64.1); clear HP64; have n0_ := zK (hp_); have n1_ := zK ((by rw [hw]; exact bS (HB.out) GB49.out : Below w.heap.size w w65)); clear HO_8; clear HB; have HO_8 := n0_; have HB := n1_; clear n0_ n1_; clear hg hw hp_) | ((with_reducible refine gate_dst (N := 61) rfl ?_); refine Kd.R_lit k38 _ 38 ?hg (N := 61) ?hd (xs := ([] : List (S38))) (inner := []) (ok := fun _ => True) (okp := fun _ => True) ?hr ?hp (fun _ hk => hk) trivial (Below.refl _ _) (Nat.le_refl _) (by simp) ?_; (case hd => rfl); (case hg => rfl); (case hr => first | (go_simp; done) | (go_simp; rfl)); (case hp => exact (Reps.none _ _)); intro v349 w66 ho67 hb hg_ hnew_; clear hg_ hnew_; (first | rw [← Ny348.out] at ho67 | (simp only [Int.reduceToNat] at ho67; rw [← Ny348.out] at ho67)); have n0_ := zK (Kd.R_elder' (Kd.qR HO_8.out) (Kd.R_base ho67) hb); have n1_ := zK (Kd.R_lower (Kd.R_new' ho67 (Kd.R_lt (Kd.qR HO_8.out))) (bZ (qB HB.out))); have n2_ := zK (bT (qB HB.out) hb); clear HO_8; clear HB; have HO_8 := n0_; have HO350 := n1_; have HB := n2_; clear n0_ n1_ n2_; clear hb ho67) | ((with_reducible refine gate_builtin (b := .append) (xs := #[.tmp 61, .tmp 62]) rfl ?_); at_builtin; refine Kd.R_append_rows k38 (w0 := w) w.heap.size rfl (.tmp 61) (.tmp 62) 30 38 (.agg #[(.int .i64 0), (.int .i64 0), (.int .i64 0), (.int .i64 0), (.int .i64 0)]) 40 rfl Try.underlying30 info38 rfl (by decide) (by omega) v349 y348 l0 _ _ _ (fun k_ => some k_ ≠ (.slice (some ⟨go49, 0, none⟩) y318.length co49 : Value).ownBlock) (fun _ => False) rfl rfl ?aO ?aR (fun _ _ h => h) (fun _ h => h.elim) ?aF ?aB ?aS ?aL ?_; (case aR => exact Kd.qC (Kd.C_below HR0.out HB.out)); (case aB => exact (qB HB.out)); (case aF => exact (fun k_ hk => Kd.fresh' (Kd.R_lt (Kd.qR HO_8.out)) k_ hk)); (case aO => exact (by (with_reducible repeat (first | apply Kd.RA | apply Kd.RN | apply Kd.RD)); exact Kd.R_mono HO350.out (fun _ hk => hk.2))); (case aS => exact (bZ (qB HB.out))); (case aL => have := LMc63.out; omega); intro v352 w68 ho hb hg hat; rw [← Ny351.out] at ho; have n0_ := zK (Kd.R_after (ok := (fun _ => True)) (Kd.qR HO_8.out) hg hat); have n1_ := zK (hb); have n2_ := zK (ho); clear HO_8; clear HB; clear HO350; have HO_8 := n0_; have HB := n1_; have HO353 := n2_; clear n0_ n1_ n2_; clear ho hb hg hat))
    go_ret2
    exact ⟨_, by first | rfl | (simp [errW_none, errW_some] <;> rfl) | (simp [*, errW_none, errW_some] <;> rfl), by (with_reducible repeat (first | apply Kd.RA | apply Kd.RN | apply Kd.RD)); exact Kd.R_mono HO353.out (fun _ hk => trivial), by exact qB HB.out⟩
   rw [if_pos c50] at H
   have c50b0 : (a2 == 3) = true := beq_iff_eq.mpr c50
   have c50b1 : (a2 != 3) = false := bne_eq_false_iff_eq.mpr c50
   clear c50
   replace H := Option.bind_eq_some_iff.mp H
   obtain ⟨t341, A510, H⟩ := H
   replace H : (if t341 = true then (some (y340, true)) else ((some (([] : List (S38)) : List (S38))).bind fun y342 => (if y342.length + l0.length < 3518437208883 then (some ((y342 ++ l0), false)) else (none)))) = some (r1, r2) := H
   have A51 := zK A510
   clear A510
   by_cases c52 : t341 = true
   ·subst c52
    have H1 : (some (y340, true)) = some (r1, r2) := by rw [if_pos rfl] at H; exact H
    clear H
    have H := H1
    clear H1
    simp only [Option.some.injEq, Prod.mk.injEq] at H
    obtain ⟨rfl, rfl⟩ := H
    have p323 : 0 ≤ (t321 : Int) := oD m2
    have q323 : t321 < (l0.length : Int) := oD m2
    obtain ⟨ad323, e323, hx323_0, hx323_1, hx323_2, hx323_3, hx323_4⟩ := at_T38 HR0.out t321 p323 q323
    cases e323
    replace hx323_0 := (HB.out.cell (bL w hx323_0)).trans hx323_0
    replace hx323_1 := (HB.out.cell (bL w hx323_1)).trans hx323_1
    replace hx323_2 := (HB.out.cell (bL w hx323_2)).trans hx323_2
    replace hx323_3 := (HB.out.cell (bL w hx323_3)).trans hx323_3
    replace hx323_4 := (HB.out.cell (bL w hx323_4)).trans hx323_4
    replace p323 := eq_true p323
    replace q323 := eq_true q323
    have p49 : 0 ≤ (t321 : Int) := oD m2
    have q49 : (t321 : Int) < ((y318.length : Int) : Int) := oD m2
    obtain ⟨go49, co49, eo49, gb49, gl49, cl49, HG49⟩ := Kd.R_form HO_8.out (by omega)
    (first | cases eo49 | (injection eo49 with ea_ en_ ec_; (first | subst ea_ | (injection ea_ with ea_; subst ea_)); subst ec_; clear en_))
    have GB49 := zK gb49
    have GG49 := zK HG49
    clear gb49 gl49 HG49
    obtain ⟨ce49, hcl49, hM49, hcc49, hfr49⟩ := Kd.R_elem HO_8.out z38 (t321 : Int) p49 q49
    obtain rfl := k38_openM hM49
    have hx49_0 : wc.cell? ⟨go49, (t321 : Int).toNat * 5, none⟩ = some (.int .i64 ((rd_T38 y318 t321).f0)) := hcc49 0 _ rfl
    have hx49_1 : wc.cell? ⟨go49, (t321 : Int).toNat * 5 + 1, none⟩ = some (.int .i64 ((rd_T38 y318 t321).f1)) := hcc49 1 _ rfl
    have hx49_2 : wc.cell? ⟨go49, (t321 : Int).toNat * 5 + 2, none⟩ = some (.int .i64 ((rd_T38 y318 t321).f2)) := hcc49 2 _ rfl
    have hx49_3 : wc.cell? ⟨go49, (t321 : Int).toNat * 5 + 3, none⟩ = some (.int .i64 ((rd_T38 y318 t321).f3)) := hcc49 3 _ rfl
    have hx49_4 : wc.cell? ⟨go49, (t321 : Int).toNat * 5 + 4, none⟩ = some (.int .i64 ((rd_T38 y318 t321).f4)) := hcc49 4 _ rfl
    have hf49_0 : wc.frozen? ⟨go49, (t321 : Int).toNat * 5, none⟩ = false := hfr49 0
    have hf49_1 : wc.frozen? ⟨go49, (t321 : Int).toNat * 5 + 1, none⟩ = false := hfr49 1
    have hf49_2 : wc.frozen? ⟨go49, (t321 : Int).toNat * 5 + 2, none⟩ = false := hfr49 2
    have hf49_3 : wc.frozen? ⟨go49, (t321 : Int).toNat * 5 + 3, none⟩ = false := hfr49 3
    have hf49_4 : wc.frozen? ⟨go49, (t321 : Int).toNat * 5 + 4, none⟩ = false := hfr49 4
    clear hcl49 hcc49 hfr49 hM49
    replace p49 := eq_true p49
    replace q49 := eq_true q49
    have HX53 := zK (show Kd.R k38 38 wc w.heap.size (fun _ => True) (.slice (some ⟨go49, 0, none⟩) y318.length co49) y318 from (Kd.qR HO_8.out))
    obtain ⟨ce53, hcl53, hM53, hcc53, hfr53⟩ := Kd.R_elem HX53.out z38 (t321 : Int) (oD m2) (by have h_ : (t321 : Int) < ((y318.length : Int) : Int) := oD m2; first | exact h_ | (have e_ := (Kd.R_reads' HO_8.out).1; omega) | simpa using h_)
    obtain rfl := k38_openM hM53
    have HP53 := Kd.R_seg HX53.out (t321 : Int) (oD m2) (by have h_ : (t321 : Int) < ((y318.length : Int) : Int) := oD m2; first | exact h_ | (have e_ := (Kd.R_reads' HO_8.out).1; omega) | simpa using h_) (seg := [.int .i64 a2]) (j := 4) hcl53 hcc53 (show 5 ≤ 5 from by decide) (x' := (⟨(rd_T38 y318 t321).f0, (rd_T38 y318 t321).f1, (rd_T38 y318 t321).f2, (rd_T38 y318 t321).f3, a2⟩ : S38)) (k38_mkM _ _ _ (⟨(rd_T38 y318 t321).f0, (rd_T38 y318 t321).f1, (rd_T38 y318 t321).f2, (rd_T38 y318 t321).f3, a2⟩ : S38) ) (fun _ hk => hk)
    have hx53_4 := hcc53 4 _ rfl
    (try simp only [show (k38).sz = 5 from rfl, Nat.mul_one, Nat.add_zero] at hx53_4)
    have hf53_4 := hfr53 4
    (try simp only [show (k38).sz = 5 from rfl, Nat.mul_one, Nat.add_zero] at hf53_4)
    clear hcl53 hcc53 hfr53 hM53
    go_wp2_with (first | ((with_reducible refine gate_store (t := 3) (p := 53) rfl ?_); refine store_event (t := 3) (p := 53) (v := ?vo_w54) (w1 := (wc.setCell ⟨go49, (t321 : Int).toNat * 5 + 4, none⟩ (.int .i64 a2))) ?hg ?ho ?hn ?hr ?_; (case ho => rfl); (case hg => rfl); (case hn => rfl); (case hr => first | (go_simp; done) | (go_simp; rfl)); intro w54 hw; have hg : wc.grownBy w54 (some go49) := (by rw [hw]; exact HP53.2); have hp_ : Kd.R k38 38 w54 w.heap.size (fun _ => True) (.slice (some ⟨go49, 0, none⟩) y318.length co49) y340 := (by rw [hw, Ny340.out]; exact HP53.1); clear HP53; have n0_ := zK (hp_); have n1_ := zK ((by rw [hw]; exact bS (HB.out) GB49.out : Below w.heap.size w w54)); clear HO_8; clear HB; have HO_8 := n0_; have HB := n1_; clear n0_ n1_; clear hg hw hp_) | (go_at_call 42; refine calls_of_args (args' := #[.slice (some ⟨go49, 0, none⟩) y340.length co49]) (by first | (rw [show y340.length = y318.length from (Kd.R_reads' HO_8.out).1.symm] <;> rfl) | rfl) ?_; (with_reducible refine (spec_AreClaims.calls kj5 _ _ y340 true _ ?side1 ?side2 A51.out).mono ?_); (case side1 => repeat (first | exact (Kd.R_reads' HO_8.out).2.2 | (with_reducible refine Kd.CA ?_ _) | (with_reducible refine Kd.CN ?_ _) | (with_reducible refine Kd.CD ?_))); (case side2 => rw [show y340.length = y318.length from (Kd.R_reads' HO_8.out).1.symm]; exact (Kd.R_reads' HO_8.out).2.1); rintro e w55 ⟨rfl, hb⟩; have n0_ := zK (Kd.R_below (Kd.qR HO_8.out) hb); have n1_ := zK (bT (qB HB.out) hb); clear HO_8; clear HB; have HO_8 := n0_; have HB := n1_; clear n0_ n1_; (try clear hb); (try clear hb2); (try clear hk); (try clear hi)))
    go_ret2
    exact ⟨_, by first | rfl | (simp [errW_none, errW_some] <;> rfl) | (simp [*, errW_none, errW_some] <;> rfl), by exact Kd.qR HO_8.out, by exact qB HB.out⟩
   replace c52 := Bool.eq_false_iff.mpr c52
   subst c52
   have H1 : ((some (([] : List (S38)) : List (S38))).bind fun y342 => (if y342.length + l0.length < 3518437208883 then (some ((y342 ++ l0), false)) else (none))) = some (r1, r2) := by rw [if_neg (show ¬ (false = true) by decide)] at H; exact H
   clear H
   have H := H1
   clear H1
   obtain ⟨y342, hy342⟩ : ∃ y_ : List (S38), y_ = (([] : List (S38))) := ⟨_, rfl⟩
   replace H : (if y342.length + l0.length < 3518437208883 then (some ((y342 ++ l0), false)) else (none)) = some (r1, r2) := by first | (rw [hy342]; with_reducible exact H) | (have H2_ := (Option.bind_some _ _).symm.trans H; rw [hy342]; with_reducible exact H2_) | (have H2_ := (Option.bind_some _ _).symm.trans H; with_reducible exact H2_) | with_reducible exact H | (rw [hy342]; exact H) | exact H
   have Ny342 := zK hy342
   clear hy342
   by_cases c56 : y342.length + l0.length < 3518437208883
   rotate_left
   ·rw [if_neg c56] at H
    exact absurd H (by simp)
   rw [if_pos c56] at H
   have LMc56 := zK c56
   clear c56
   obtain ⟨y345, hy345⟩ : ∃ y_ : List (S38), y_ = (y342 ++ l0) := ⟨_, rfl⟩
   replace H : (some (y345, false)) = some (r1, r2) := by first | (rw [hy345]; with_reducible exact H) | (have H2_ := (Option.bind_some _ _).symm.trans H; rw [hy345]; with_reducible exact H2_) | (have H2_ := (Option.bind_some _ _).symm.trans H; with_reducible exact H2_) | with_reducible exact H | (rw [hy345]; exact H) | exact H
   have Ny345 := zK hy345
   clear hy345
   simp only [Option.some.injEq, Prod.mk.injEq] at H
   obtain ⟨rfl, rfl⟩ := H
   have p323 : 0 ≤ (t321 : Int) := oD m2
   have q323 : t321 < (l0.length : Int) := oD m2
   obtain ⟨ad323, e323, hx323_0, hx323_1, hx323_2, hx323_3, hx323_4⟩ := at_T38 HR0.out t321 p323 q323
   cases e323
   replace hx323_0 := (HB.out.cell (bL w hx323_0)).trans hx323_0
   replace hx323_1 := (HB.out.cell (bL w hx323_1)).trans hx323_1
   replace hx323_2 := (HB.out.cell (bL w hx323_2)).trans hx323_2
   replace hx323_3 := (HB.out.cell (bL w hx323_3)).trans hx323_3
   replace hx323_4 := (HB.out.cell (bL w hx323_4)).trans hx323_4
   replace p323 := eq_true p323
   replace q323 := eq_true q323
   have p49 : 0 ≤ (t321 : Int) := oD m2
   have q49 : (t321 : Int) < ((y318.length : Int) : Int) := oD m2
   obtain ⟨go49, co49, eo49, gb49, gl49, cl49, HG49⟩ := Kd.R_form HO_8.out (by omega)
   (first | cases eo49 | (injection eo49 with ea_ en_ ec_; (first | subst ea_ | (injection ea_ with ea_; subst ea_)); subst ec_; clear en_))
   have GB49 := zK gb49
   have GG49 := zK HG49
   clear gb49 gl49 HG49
   obtain ⟨ce49, hcl49, hM49, hcc49, hfr49⟩ := Kd.R_elem HO_8.out z38 (t321 : Int) p49 q49
   obtain rfl := k38_openM hM49
   have hx49_0 : wc.cell? ⟨go49, (t321 : Int).toNat * 5, none⟩ = some (.int .i64 ((rd_T38 y318 t321).f0)) := hcc49 0 _ rfl
   have hx49_1 : wc.cell? ⟨go49, (t321 : Int).toNat * 5 + 1, none⟩ = some (.int .i64 ((rd_T38 y318 t321).f1)) := hcc49 1 _ rfl
   have hx49_2 : wc.cell? ⟨go49, (t321 : Int).toNat * 5 + 2, none⟩ = some (.int .i64 ((rd_T38 y318 t321).f2)) := hcc49 2 _ rfl
   have hx49_3 : wc.cell? ⟨go49, (t321 : Int).toNat * 5 + 3, none⟩ = some (.int .i64 ((rd_T38 y318 t321).f3)) := hcc49 3 _ rfl
   have hx49_4 : wc.cell? ⟨go49, (t321 : Int).toNat * 5 + 4, none⟩ = some (.int .i64 ((rd_T38 y318 t321).f4)) := hcc49 4 _ rfl
   have hf49_0 : wc.frozen? ⟨go49, (t321 : Int).toNat * 5, none⟩ = false := hfr49 0
   have hf49_1 : wc.frozen? ⟨go49, (t321 : Int).toNat * 5 + 1, none⟩ = false := hfr49 1
   have hf49_2 : wc.frozen? ⟨go49, (t321 : Int).toNat * 5 + 2, none⟩ = false := hfr49 2
   have hf49_3 : wc.frozen? ⟨go49, (t321 : Int).toNat * 5 + 3, none⟩ = false := hfr49 3
   have hf49_4 : wc.frozen? ⟨go49, (t321 : Int).toNat * 5 + 4, none⟩ = false := hfr49 4
   clear hcl49 hcc49 hfr49 hM49
   replace p49 := eq_true p49
   replace q49 := eq_true q49
   have HX57 := zK (show Kd.R k38 38 wc w.heap.size (fun _ => True) (.slice (some ⟨go49, 0, none⟩) y318.length co49) y318 from (Kd.qR HO_8.out))
   obtain ⟨ce57, hcl57, hM57, hcc57, hfr57⟩ := Kd.R_elem HX57.out z38 (t321 : Int) (oD m2) (by have h_ : (t321 : Int) < ((y318.length : Int) : Int) := oD m2; first | exact h_ | (have e_ := (Kd.R_reads' HO_8.out).1; omega) | simpa using h_)
   obtain rfl := k38_openM hM57
   have HP57 := Kd.R_seg HX57.out (t321 : Int) (oD m2) (by have h_ : (t321 : Int) < ((y318.length : Int) : Int) := oD m2; first | exact h_ | (have e_ := (Kd.R_reads' HO_8.out).1; omega) | simpa using h_) (seg := [.int .i64 a2]) (j := 4) hcl57 hcc57 (show 5 ≤ 5 from by decide) (x' := (⟨(rd_T38 y318 t321).f0, (rd_T38 y318 t321).f1, (rd_T38 y318 t321).f2, (rd_T38 y318 t321).f3, a2⟩ : S38)) (k38_mkM _ _ _ (⟨(rd_T38 y318 t321).f0, (rd_T38 y318 t321).f1, (rd_T38 y318 t321).f2, (rd_T38 y318 t321).f3, a2⟩ : S38) ) (fun _ hk => hk)
   have hx57_4 := hcc57 4 _ rfl
   (try simp only [show (k38).sz = 5 from rfl, Nat.mul_one, Nat.add_zero] at hx57_4)
   have hf57_4 := hfr57 4
   (try simp only [show (k38).sz = 5 from rfl, Nat.mul_one, Nat.add_zero] at hf57_4)
   clear hcl57 hcc57 hfr57 hM57
   go_wp2_with (first | ((with_reducible refine gate_store (t := 3) (p := 53) rfl ?_); refine store_event (t := 3) (p := 53) (v := ?vo_w58) (w1 := (wc.setCell ⟨go49, (t321 : Int).toNat * 5 + 4, none⟩ (.int .i64 a2))) ?hg ?ho ?hn ?hr ?_; (case ho => rfl); (case hg => rfl); (case hn => rfl); (case hr => first | (go_simp; done) | (go_simp; rfl)); intro w58 hw; have hg : wc.grownBy w58 (some go49) := (by rw [hw]; exact HP57.2); have hp_ : Kd.R k38 38 w58 w.heap.size (fun _ => True) (.slice (some ⟨go49, 0, none⟩) y318.length co49) y340 := (by rw [hw, Ny340.out]; exact HP57.1); clear HP57; have n0_ := zK (hp_); have n1_ := zK ((by rw [hw]; exact bS (HB.out) GB49.out : Below w.heap.size w w58)); clear HO_8; clear HB; have HO_8 := n0_; have HB := n1_; clear n0_ n1_; clear hg hw hp_) | (go_at_call 42; refine calls_of_args (args' := #[.slice (some ⟨go49, 0, none⟩) y340.length co49]) (by first | (rw [show y340.length = y318.length from (Kd.R_reads' HO_8.out).1.symm] <;> rfl) | rfl) ?_; (with_reducible refine (spec_AreClaims.calls kj5 _ _ y340 false _ ?side1 ?side2 A51.out).mono ?_); (case side1 => repeat (first | exact (Kd.R_reads' HO_8.out).2.2 | (with_reducible refine Kd.CA ?_ _) | (with_reducible refine Kd.CN ?_ _) | (with_reducible refine Kd.CD ?_))); (case side2 => rw [show y340.length = y318.length from (Kd.R_reads' HO_8.out).1.symm]; exact (Kd.R_reads' HO_8.out).2.1); rintro e w59 ⟨rfl, hb⟩; have n0_ := zK (Kd.R_below (Kd.qR HO_8.out) hb); have n1_ := zK (bT (qB HB.out) hb); clear HO_8; clear HB; have HO_8 := n0_; have HB := n1_; clear n0_ n1_; (try clear hb); (try clear hb2); (try clear hk); (try clear hi)) | ((with_reducible refine gate_dst (N := 61) rfl ?_); refine Kd.R_lit k38 _ 38 ?hg (N := 61) ?hd (xs := ([] : List (S38))) (inner := []) (ok := fun _ => True) (okp := fun _ => True) ?hr ?hp (fun _ hk => hk) trivial (Below.refl _ _) (Nat.le_refl _) (by simp) ?_; (case hd => rfl); (case hg => rfl); (case hr => first | (go_simp; done) | (go_simp; rfl)); (case hp => exact (Reps.none _ _)); intro v343 w60 ho61 hb hg_ hnew_; clear hg_ hnew_; (first | rw [← Ny342.out] at ho61 | (simp only [Int.reduceToNat] at ho61; rw [← Ny342.out] at ho61)); have n0_ := zK (Kd.R_elder' (Kd.qR HO_8.out) (Kd.R_base ho61) hb); have n1_ := zK (Kd.R_lower (Kd.R_new' ho61 (Kd.R_lt (Kd.qR HO_8.out))) (bZ (qB HB.out))); have n2_ := zK (bT (qB HB.out) hb); clear HO_8; clear HB; have HO_8 := n0_; have HO344 := n1_; have HB := n2_; clear n0_ n1_ n2_; clear hb ho61) | ((with_reducible refine gate_builtin (b := .append) (xs := #[.tmp 61, .tmp 62]) rfl ?_); at_builtin; refine Kd.R_append_rows k38 (w0 := w) w.heap.size rfl (.tmp 61) (.tmp 62) 30 38 (.agg #[(.int .i64 0), (.int .i64 0), (.int .i64 0), (.int .i64 0), (.int .i64 0)]) 40 rfl Try.underlying30 info38 rfl (by decide) (by omega) v343 y342 l0 _ _ _ (fun k_ => some k_ ≠ (.slice (some ⟨go49, 0, none⟩) y318.length co49 : Value).ownBlock) (fun _ => False) rfl rfl ?aO ?aR (fun _ _ h => h) (fun _ h => h.elim) ?aF ?aB ?aS ?aL ?_; (case aR => exact Kd.qC (Kd.C_below HR0.out HB.out)); (case aB => exact (qB HB.out)); (case aF => exact (fun k_ hk => Kd.fresh' (Kd.R_lt (Kd.qR HO_8.out)) k_ hk)); (case aO => exact (by (with_reducible repeat (first | apply Kd.RA | apply Kd.RN | apply Kd.RD)); exact Kd.R_mono HO344.out (fun _ hk => hk.2))); (case aS => exact (bZ (qB HB.out))); (case aL => have := LMc56.out; omega); intro v346 w62 ho hb hg hat; rw [← Ny345.out] at ho; have n0_ := zK (Kd.R_after (ok := (fun _ => True)) (Kd.qR HO_8.out) hg hat); have n1_ := zK (hb); have n2_ := zK (ho); clear HO_8; clear HB; clear HO344; have HO_8 := n0_; have HB := n1_; have HO347 := n2_; clear n0_ n1_ n2_; clear ho hb hg hat))
   go_ret2
   exact ⟨_, by first | rfl | (simp [errW_none, errW_some] <;> rfl) | (simp [*, errW_none, errW_some] <;> rfl), by (with_reducible repeat (first | apply Kd.RA | apply Kd.RN | apply Kd.RD)); exact Kd.R_mono HO347.out (fun _ hk => trivial), by exact qB HB.out⟩
end Go.Proofs.Ytfoallhhdilgjaa.PFnFates
