/- Walks of functions that FnExactLettersFor reaches: written by a tool of the kit for this claim, then shortened by a program of ours. -/
import Derived.Test.YtpkdbkheggfkkaaPFnExactLettersForx0
import Derived.Test.YtpkdbkheggfkkaaPFnExactLettersForx11
import Derived.Test.YtpkdbkheggfkkaaPFnExactLettersForx13
import Derived.Test.YtpkdbkheggfkkaaPFnExactLettersForx15
import Derived.Test.YtpkdbkheggfkkaaPFnExactLettersForx19
/- narrow -/
namespace Go.Proofs.Ytpkdbkheggfkkaa.PFnExactLettersFor
open Go.RowKit Go.Proofs.YtpkdbkheggfkkaaW.PrintWords Go.Proofs.YtpkdbkheggfkkaaW.PrintLast Go.Proofs.YtpkdbkheggfkkaaW.PrintMore
attribute [local go_sem] max2_int min2_int max_two min_two max_three min_three max_four min_four   -- for this text's walks alone
set_option linter.unusedVariables false
set_option linter.unusedSimpArgs false

/-! ### spec_MayWrite: function 178 -/
def spec_MayWrite.f (k : Nat) (l0 : List (S81)) (a1 : Int) (a2 : Int) (a3 : Int) : Option (Bool) := (spec_AreLetters.f k l0).bind fun t312 => (if t312 = true then ((some (([] : List (S81)) : List (S81))).bind fun y313 => (if y313.length + l0.length < 5864062014805 then ((some (y313 ++ l0 : List (S81))).bind fun y316 => (if y316.length < 5864062014805 then ((spec_AreLetters.f k (y316 ++ [(⟨a1, a2, a3⟩ : S81)])).bind fun t322 => (some t322)) else (none))) else (none))) else (some false))
set_option maxHeartbeats 8000000 in
set_option maxRecDepth 100000 in
theorem spec_MayWrite.calls (k : Nat) (A0 : Option Addr) (c0 : Nat) (l0 : List (S81)) (a1 : Int) (a2 : Int) (a3 : Int) (r : Bool) (w : World) (hr0 : Kd.C k81 w A0 l0.length l0) (hc0 : l0.length ≤ c0) (h : spec_MayWrite.f k l0 a1 a2 a3 = some r) :
  Calls Try.prog 178 #[.slice A0 l0.length c0, .int .i64 a1, .int .i64 a2, .int .i64 a3] w fun e w' => e = .returned (.bool r) ∧ Below w.heap.size w w' := by
 have hu81 := Try.underlying81
 have HR0 := zK hr0
 have HC0 := zK hc0
 clear hr0 hc0
 have HB := zK (Below.refl w.heap.size w)
 have H : ((spec_AreLetters.f k l0).bind fun t312 => (if t312 = true then ((some (([] : List (S81)) : List (S81))).bind fun y313 => (if y313.length + l0.length < 5864062014805 then ((some (y313 ++ l0 : List (S81))).bind fun y316 => (if y316.length < 5864062014805 then ((spec_AreLetters.f k (y316 ++ [(⟨a1, a2, a3⟩ : S81)])).bind fun t322 => (some t322)) else (none))) else (none))) else (some false))) = some r := h
 clear h
 replace H := Option.bind_eq_some_iff.mp H
 obtain ⟨t312, A50, H⟩ := H
 try dsimp only at H
 have A5 := zK A50
 clear A50
 by_cases c6 : t312 = true
 rotate_left
 ·replace c6 := Bool.eq_false_iff.mpr c6
  subst c6
  have H1 : (some false) = some r := by rw [if_neg (show ¬ (false = true) by decide)] at H; exact H
  clear H
  have H := H1
  clear H1
  obtain rfl := Option.some.inj H
  go_enter Try.func178, Try.ntmps178
  go_wp2_with (first | ((with_reducible refine gate_callee (f := 129) rfl ?_); refine goesL_ (some 10) rfl rfl Try.func129 (by kernel_rfl) rfl #[.slice A0 l0.length c0] rfl M0 ?_; (with_reducible refine (spec_AreLetters.calls k _ _ l0 false _ ?side1 ?side2 A5.o).mono ?_); (case side1 => exact Kd.qC HR0.o); (case side2 => exact HC0.o); rintro e w17 ⟨rfl, hb⟩; refine ⟨_, rfl, ?_⟩; have _ := zK (bT (qB HB.o) hb); clear HB; rename_i HB; (try clear hb); (try clear hb2); (try clear hk); (try clear hi)))
  go_ret
  exact ⟨by first | rfl | (simp [errW_none, errW_some] <;> rfl) | (simp [*, errW_none, errW_some] <;> rfl), by exact qB HB.o⟩
 subst c6
 have H1 : ((some (([] : List (S81)) : List (S81))).bind fun y313 => (if y313.length + l0.length < 5864062014805 then ((some (y313 ++ l0 : List (S81))).bind fun y316 => (if y316.length < 5864062014805 then ((spec_AreLetters.f k (y316 ++ [(⟨a1, a2, a3⟩ : S81)])).bind fun t322 => (some t322)) else (none))) else (none))) = some r := by rw [if_pos rfl] at H; exact H
 clear H
 have H := H1
 clear H1
 obtain ⟨y313, hy313⟩ : ∃ y_ : List (S81), y_ = (([] : List (S81))) := ⟨_, rfl⟩
 replace H : (if y313.length + l0.length < 5864062014805 then ((some (y313 ++ l0 : List (S81))).bind fun y316 => (if y316.length < 5864062014805 then ((spec_AreLetters.f k (y316 ++ [(⟨a1, a2, a3⟩ : S81)])).bind fun t322 => (some t322)) else (none))) else (none)) = some r := by first | (rw [hy313]; with_reducible exact H) | (have H2_ := (Option.bind_some _ _).symm.trans H; rw [hy313]; with_reducible exact H2_) | (have H2_ := (Option.bind_some _ _).symm.trans H; with_reducible exact H2_) | with_reducible exact H | (rw [hy313]; exact H) | exact H
 have Ny313 := zK hy313
 clear hy313
 by_cases c7 : y313.length + l0.length < 5864062014805
 rotate_left
 ·rw [if_neg c7] at H
  exact absurd H (by simp)
 rw [if_pos c7] at H
 have LMc7 := zK c7
 clear c7
 obtain ⟨y316, hy316⟩ : ∃ y_ : List (S81), y_ = (y313 ++ l0) := ⟨_, rfl⟩
 replace H : (if y316.length < 5864062014805 then ((spec_AreLetters.f k (y316 ++ [(⟨a1, a2, a3⟩ : S81)])).bind fun t322 => (some t322)) else (none)) = some r := by first | (rw [hy316]; with_reducible exact H) | (have H2_ := (Option.bind_some _ _).symm.trans H; rw [hy316]; with_reducible exact H2_) | (have H2_ := (Option.bind_some _ _).symm.trans H; with_reducible exact H2_) | with_reducible exact H | (rw [hy316]; exact H) | exact H
 have Ny316 := zK hy316
 clear hy316
 by_cases c8 : y316.length < 5864062014805
 rotate_left
 ·rw [if_neg c8] at H
  exact absurd H (by simp)
 rw [if_pos c8] at H
 have LMc8 := zK c8
 clear c8
 obtain ⟨y319, hy319⟩ : ∃ y_ : List (S81), y_ = (y316 ++ [(⟨a1, a2, a3⟩ : S81)]) := ⟨_, rfl⟩
 replace H : ((spec_AreLetters.f k y319).bind fun t322 => (some t322)) = some r := by first | (rw [hy319]; with_reducible exact H) | (have H2_ := (Option.bind_some _ _).symm.trans H; rw [hy319]; with_reducible exact H2_) | (have H2_ := (Option.bind_some _ _).symm.trans H; with_reducible exact H2_) | with_reducible exact H | (rw [hy319]; exact H) | exact H
 have Ny319 := zK hy319
 clear hy319
 replace H := Option.bind_eq_some_iff.mp H
 obtain ⟨t322, A90, H⟩ := H
 replace H : (some t322) = some r := H
 have A9 := zK A90
 clear A90
 obtain rfl := Option.some.inj H
 go_enter Try.func178, Try.ntmps178
 go_wp2_with (first | ((with_reducible refine gate_callee (f := 129) rfl ?_); refine goesL_ (some 10) rfl rfl Try.func129 (by kernel_rfl) rfl #[.slice A0 l0.length c0] rfl M0 ?_; (with_reducible refine (spec_AreLetters.calls k _ _ l0 true _ ?side1 ?side2 A5.o).mono ?_); (case side1 => exact Kd.qC HR0.o); (case side2 => exact HC0.o); rintro e w10 ⟨rfl, hb⟩; refine ⟨_, rfl, ?_⟩; have _ := zK (bT (qB HB.o) hb); clear HB; rename_i HB; (try clear hb); (try clear hb2); (try clear hk); (try clear hi)) | ((with_reducible refine gate_dst (N := 12) rfl ?_); (try (refine gate_guard (by rfl) ?_; dsimp only)); refine Kd.R_lit k81 _ 81 ?hg (N := 12) ?hd (xs := ([] : List (S81))) (inner := []) (ok := fun _ => True) (okp := fun _ => True) ?hr ?hp (fun _ hk => hk) trivial (Below.refl _ _) (Nat.le_refl _) (by simp) ?_; (case hd => rfl); (case hg => rfl); (case hr => first | (go_simp; done) | (go_simp; rfl)); (case hp => exact (Reps.none _ _)); intro v314 w11 ho12 hb hg_ hnew_; clear hg_ hnew_; (first | rw [← Ny313.o] at ho12 | (simp only [Int.reduceToNat] at ho12; rw [← Ny313.o] at ho12)); have _ := zK (Kd.R_lower ho12 (bZ (qB HB.o))); have _ := zK (bT (qB HB.o) hb); clear HB; rename_i HO315 HB; clear hb ho12) | ((with_reducible refine gate_builtin (b := .append) (xs := #[.tmp 12, .tmp 13]) rfl ?_); (try (refine gate_guard (by rfl) ?_; dsimp only)); at_builtin; refine Kd.R_append_rows k81 (w0 := w) w.heap.size rfl (.tmp 12) (.tmp 13) 73 81 (.agg #[(.int .i64 0), (.int .i64 0), (.int .i64 0)]) 24 rfl Try.underlying73 info81 rfl (by decide) (by omega) v314 y313 l0 _ _ _ (fun _ => True) (fun _ => False) rfl rfl ?aO ?aR (fun _ _ h => h) (fun _ h => h.elim) ?aF ?aB ?aS ?aL ?_; (case aR => exact Kd.qC (Kd.C_below HR0.o HB.o)); (case aB => exact (qB HB.o)); (case aF => exact (fun _ _ => trivial)); (case aO => exact (Kd.qR HO315.o)); (case aS => exact (bZ (qB HB.o))); (case aL => have := LMc7.o; omega); intro v317 w13 ho hb hg hat; rw [← Ny316.o] at ho; have _ := zK (hb); have _ := zK (ho); clear HB HO315; rename_i HB HO318; clear ho hb hg hat) | ((with_reducible refine gate_builtin (b := .append) (xs := #[.tmp 14, .tmp 19]) rfl ?_); (try (refine gate_guard (by rfl) ?_; dsimp only)); at_builtin; refine Kd.R_append k81 (w0 := w) w.heap.size rfl (.tmp 14) (.tmp 19) 73 81 (.agg #[(.int .i64 0), (.int .i64 0), (.int .i64 0)]) 24 rfl Try.underlying73 info81 rfl (by decide) (by omega) v317 y316 (⟨a1, a2, a3⟩ : S81) [.int .i64 a1, .int .i64 a2, .int .i64 a3] (fun _ => True) (fun _ => False) rfl rfl ?aP (fun _ hk => hk.elim) ?aF ?aO ?aB ?aS ?aL ?_; (case aP => exact k81_mkM _ _ _ (⟨a1, a2, a3⟩ : S81)); (case aB => exact (qB HB.o)); (case aF => exact (fun _ _ => trivial)); (case aO => exact (Kd.qR HO318.o)); (case aS => exact (bZ (qB HB.o))); (case aL => have := LMc8.o; omega); intro v320 w14 ho hb hg hat; rw [← Ny319.o] at ho; have _ := zK (hb); have _ := zK (ho); clear HB HO318; rename_i HB HO321; clear ho hb hg hat; obtain ⟨Ao15, co15, eo15⟩ := Kd.R_slice HO321.o; subst eo15) | (go_at_call 129; (with_reducible refine (spec_AreLetters.calls k _ _ y319 t322 _ ?side1 ?side2 A9.o).mono ?_); (case side1 => exact Kd.qC (Kd.R_reads' HO321.o).2.2); (case side2 => exact (Kd.R_reads' HO321.o).2.1); rintro e w16 ⟨rfl, hb⟩; have _ := zK (Kd.R_below (Kd.qR HO321.o) hb); have _ := zK (bT (qB HB.o) hb); clear HO321 HB; rename_i HO321 HB; (try clear hb); (try clear hb2); (try clear hk); (try clear hi)))
 go_ret
 exact ⟨by first | rfl | (simp [errW_none, errW_some] <;> rfl) | (simp [*, errW_none, errW_some] <;> rfl), by exact qB HB.o⟩
/-! ### spec_WriteLetter: function 133 -/
def spec_WriteLetter.f (k : Nat) (l0 : List (S81)) (a1 : Int) (a2 : Int) (a3 : Int) : Option ((List (S81)) × Bool) := (some (([] : List (S81)) : List (S81))).bind fun y323 => (if y323.length + l0.length < 5864062014805 then ((some (y323 ++ l0 : List (S81))).bind fun y326 => ((spec_MayWrite.f k l0 a1 a2 a3).bind fun t329 => (if t329 = true then (if y326.length < 5864062014805 then (some ((y326 ++ [(⟨a1, a2, a3⟩ : S81)]), true)) else (none)) else (some (y326, false))))) else (none))
set_option maxHeartbeats 8000000 in
set_option maxRecDepth 100000 in
theorem spec_WriteLetter.calls (k : Nat) (A0 : Option Addr) (c0 : Nat) (l0 : List (S81)) (a1 : Int) (a2 : Int) (a3 : Int) (r1 : List (S81)) (r2 : Bool) (w : World) (hr0 : Kd.C k81 w A0 l0.length l0) (hc0 : l0.length ≤ c0) (h : spec_WriteLetter.f k l0 a1 a2 a3 = some (r1, r2)) :
  Calls Try.prog 133 #[.slice A0 l0.length c0, .int .i64 a1, .int .i64 a2, .int .i64 a3] w fun e w' => ∃ v0_ : Value, e = .returned (.tuple #[v0_, .bool r2]) ∧ Kd.R k81 81 w' w.heap.size (fun _ => True) v0_ r1 ∧ Below w.heap.size w w' := by
 have hu81 := Try.underlying81
 have HR0 := zK hr0
 have HC0 := zK hc0
 clear hr0 hc0
 have HB := zK (Below.refl w.heap.size w)
 have H : ((some (([] : List (S81)) : List (S81))).bind fun y323 => (if y323.length + l0.length < 5864062014805 then ((some (y323 ++ l0 : List (S81))).bind fun y326 => ((spec_MayWrite.f k l0 a1 a2 a3).bind fun t329 => (if t329 = true then (if y326.length < 5864062014805 then (some ((y326 ++ [(⟨a1, a2, a3⟩ : S81)]), true)) else (none)) else (some (y326, false))))) else (none))) = some (r1, r2) := h
 clear h
 obtain ⟨y323, hy323⟩ : ∃ y_ : List (S81), y_ = (([] : List (S81))) := ⟨_, rfl⟩
 replace H : (if y323.length + l0.length < 5864062014805 then ((some (y323 ++ l0 : List (S81))).bind fun y326 => ((spec_MayWrite.f k l0 a1 a2 a3).bind fun t329 => (if t329 = true then (if y326.length < 5864062014805 then (some ((y326 ++ [(⟨a1, a2, a3⟩ : S81)]), true)) else (none)) else (some (y326, false))))) else (none)) = some (r1, r2) := by first | (rw [hy323]; with_reducible exact H) | (have H2_ := (Option.bind_some _ _).symm.trans H; rw [hy323]; with_reducible exact H2_) | (have H2_ := (Option.bind_some _ _).symm.trans H; with_reducible exact H2_) | with_reducible exact H | (rw [hy323]; exact H) | exact H
 have Ny323 := zK hy323
 clear hy323
 by_cases c5 : y323.length + l0.length < 5864062014805
 rotate_left
 ·rw [if_neg c5] at H
  exact absurd H (by simp)
 rw [if_pos c5] at H
 have LMc5 := zK c5
 clear c5
 obtain ⟨y326, hy326⟩ : ∃ y_ : List (S81), y_ = (y323 ++ l0) := ⟨_, rfl⟩
 replace H : ((spec_MayWrite.f k l0 a1 a2 a3).bind fun t329 => (if t329 = true then (if y326.length < 5864062014805 then (some ((y326 ++ [(⟨a1, a2, a3⟩ : S81)]), true)) else (none)) else (some (y326, false)))) = some (r1, r2) := by first | (rw [hy326]; with_reducible exact H) | (have H2_ := (Option.bind_some _ _).symm.trans H; rw [hy326]; with_reducible exact H2_) | (have H2_ := (Option.bind_some _ _).symm.trans H; with_reducible exact H2_) | with_reducible exact H | (rw [hy326]; exact H) | exact H
 have Ny326 := zK hy326
 clear hy326
 replace H := Option.bind_eq_some_iff.mp H
 obtain ⟨t329, A60, H⟩ := H
 try dsimp only at H
 have A6 := zK A60
 clear A60
 by_cases c7 : t329 = true
 rotate_left
 ·replace c7 := Bool.eq_false_iff.mpr c7
  subst c7
  have H1 : (some (y326, false)) = some (r1, r2) := by rw [if_neg (show ¬ (false = true) by decide)] at H; exact H
  clear H
  have H := H1
  clear H1
  simp only [Option.some.injEq, Prod.mk.injEq] at H
  obtain ⟨rfl, rfl⟩ := H
  go_enter Try.func133, Try.ntmps133
  go_wp2_with (first | ((with_reducible refine gate_dst (N := 11) rfl ?_); refine Kd.R_lit k81 _ 81 ?hg (N := 11) ?hd (xs := ([] : List (S81))) (inner := []) (ok := fun _ => True) (okp := fun _ => True) ?hr ?hp (fun _ hk => hk) trivial (Below.refl _ _) (Nat.le_refl _) (by simp) ?_; (case hd => rfl); (case hg => rfl); (case hr => first | (go_simp; done) | (go_simp; rfl)); (case hp => exact (Reps.none _ _)); intro v324 w14 ho15 hb hg_ hnew_; clear hg_ hnew_; (first | rw [← Ny323.o] at ho15 | (simp only [Int.reduceToNat] at ho15; rw [← Ny323.o] at ho15)); have _ := zK (Kd.R_lower ho15 (bZ (qB HB.o))); have _ := zK (bT (qB HB.o) hb); clear HB; rename_i HO325 HB; clear hb ho15) | ((with_reducible refine gate_builtin (b := .append) (xs := #[.tmp 11, .tmp 12]) rfl ?_); at_builtin; refine Kd.R_append_rows k81 (w0 := w) w.heap.size rfl (.tmp 11) (.tmp 12) 73 81 (.agg #[(.int .i64 0), (.int .i64 0), (.int .i64 0)]) 24 rfl Try.underlying73 info81 rfl (by decide) (by omega) v324 y323 l0 _ _ _ (fun _ => True) (fun _ => False) rfl rfl ?aO ?aR (fun _ _ h => h) (fun _ h => h.elim) ?aF ?aB ?aS ?aL ?_; (case aR => exact Kd.qC (Kd.C_below HR0.o HB.o)); (case aB => exact (qB HB.o)); (case aF => exact (fun _ _ => trivial)); (case aO => exact (Kd.qR HO325.o)); (case aS => exact (bZ (qB HB.o))); (case aL => have := LMc5.o; omega); intro v327 w16 ho hb hg hat; rw [← Ny326.o] at ho; have _ := zK (hb); have _ := zK (ho); clear HB HO325; rename_i HB HO328; clear ho hb hg hat) | ((with_reducible refine gate_callee (f := 178) rfl ?_); refine goesL_ (some 18) rfl rfl Try.func178 (by kernel_rfl) rfl #[.slice A0 l0.length c0, .int .i64 a1, .int .i64 a2, .int .i64 a3] rfl M0 ?_; (with_reducible refine (spec_MayWrite.calls k _ _ l0 a1 a2 a3 false _ ?side1 ?side2 A6.o).mono ?_); (case side1 => exact Kd.qC (Kd.C_below HR0.o HB.o)); (case side2 => exact HC0.o); rintro e w17 ⟨rfl, hb⟩; refine ⟨_, rfl, ?_⟩; have _ := zK (Kd.R_below (Kd.qR HO328.o) hb); have _ := zK (bT (qB HB.o) hb); clear HO328 HB; rename_i HO328 HB; (try clear hb); (try clear hb2); (try clear hk); (try clear hi)))
  go_ret2
  exact ⟨_, by first | rfl | (simp [errW_none, errW_some] <;> rfl) | (simp [*, errW_none, errW_some] <;> rfl), by exact Kd.qR HO328.o, by exact qB HB.o⟩
 subst c7
 have H1 : (if y326.length < 5864062014805 then (some ((y326 ++ [(⟨a1, a2, a3⟩ : S81)]), true)) else (none)) = some (r1, r2) := by rw [if_pos rfl] at H; exact H
 clear H
 have H := H1
 clear H1
 by_cases c8 : y326.length < 5864062014805
 rotate_left
 ·rw [if_neg c8] at H
  exact absurd H (by simp)
 rw [if_pos c8] at H
 have LMc8 := zK c8
 clear c8
 obtain ⟨y330, hy330⟩ : ∃ y_ : List (S81), y_ = (y326 ++ [(⟨a1, a2, a3⟩ : S81)]) := ⟨_, rfl⟩
 replace H : (some (y330, true)) = some (r1, r2) := by first | (rw [hy330]; with_reducible exact H) | (have H2_ := (Option.bind_some _ _).symm.trans H; rw [hy330]; with_reducible exact H2_) | (have H2_ := (Option.bind_some _ _).symm.trans H; with_reducible exact H2_) | with_reducible exact H | (rw [hy330]; exact H) | exact H
 have Ny330 := zK hy330
 clear hy330
 simp only [Option.some.injEq, Prod.mk.injEq] at H
 obtain ⟨rfl, rfl⟩ := H
 go_enter Try.func133, Try.ntmps133
 go_wp2_with (first | ((with_reducible refine gate_dst (N := 11) rfl ?_); refine Kd.R_lit k81 _ 81 ?hg (N := 11) ?hd (xs := ([] : List (S81))) (inner := []) (ok := fun _ => True) (okp := fun _ => True) ?hr ?hp (fun _ hk => hk) trivial (Below.refl _ _) (Nat.le_refl _) (by simp) ?_; (case hd => rfl); (case hg => rfl); (case hr => first | (go_simp; done) | (go_simp; rfl)); (case hp => exact (Reps.none _ _)); intro v324 w9 ho10 hb hg_ hnew_; clear hg_ hnew_; (first | rw [← Ny323.o] at ho10 | (simp only [Int.reduceToNat] at ho10; rw [← Ny323.o] at ho10)); have _ := zK (Kd.R_lower ho10 (bZ (qB HB.o))); have _ := zK (bT (qB HB.o) hb); clear HB; rename_i HO325 HB; clear hb ho10) | ((with_reducible refine gate_builtin (b := .append) (xs := #[.tmp 11, .tmp 12]) rfl ?_); at_builtin; refine Kd.R_append_rows k81 (w0 := w) w.heap.size rfl (.tmp 11) (.tmp 12) 73 81 (.agg #[(.int .i64 0), (.int .i64 0), (.int .i64 0)]) 24 rfl Try.underlying73 info81 rfl (by decide) (by omega) v324 y323 l0 _ _ _ (fun _ => True) (fun _ => False) rfl rfl ?aO ?aR (fun _ _ h => h) (fun _ h => h.elim) ?aF ?aB ?aS ?aL ?_; (case aR => exact Kd.qC (Kd.C_below HR0.o HB.o)); (case aB => exact (qB HB.o)); (case aF => exact (fun _ _ => trivial)); (case aO => exact (Kd.qR HO325.o)); (case aS => exact (bZ (qB HB.o))); (case aL => have := LMc5.o; omega); intro v327 w11 ho hb hg hat; rw [← Ny326.o] at ho; have _ := zK (hb); have _ := zK (ho); clear HB HO325; rename_i HB HO328; clear ho hb hg hat) | ((with_reducible refine gate_callee (f := 178) rfl ?_); refine goesL_ (some 18) rfl rfl Try.func178 (by kernel_rfl) rfl #[.slice A0 l0.length c0, .int .i64 a1, .int .i64 a2, .int .i64 a3] rfl M0 ?_; (with_reducible refine (spec_MayWrite.calls k _ _ l0 a1 a2 a3 true _ ?side1 ?side2 A6.o).mono ?_); (case side1 => exact Kd.qC (Kd.C_below HR0.o HB.o)); (case side2 => exact HC0.o); rintro e w12 ⟨rfl, hb⟩; refine ⟨_, rfl, ?_⟩; have _ := zK (Kd.R_below (Kd.qR HO328.o) hb); have _ := zK (bT (qB HB.o) hb); clear HO328 HB; rename_i HO328 HB; (try clear hb); (try clear hb2); (try clear hk); (try clear hi)) | ((with_reducible refine gate_builtin (b := .append) (xs := #[.tmp 21, .tmp 26]) rfl ?_); at_builtin; refine Kd.R_append k81 (w0 := w) w.heap.size rfl (.tmp 21) (.tmp 26) 73 81 (.agg #[(.int .i64 0), (.int .i64 0), (.int .i64 0)]) 24 rfl Try.underlying73 info81 rfl (by decide) (by omega) v327 y326 (⟨a1, a2, a3⟩ : S81) [.int .i64 a1, .int .i64 a2, .int .i64 a3] (fun _ => True) (fun _ => False) rfl rfl ?aP (fun _ hk => hk.elim) ?aF ?aO ?aB ?aS ?aL ?_; (case aP => exact k81_mkM _ _ _ (⟨a1, a2, a3⟩ : S81)); (case aB => exact (qB HB.o)); (case aF => exact (fun _ _ => trivial)); (case aO => exact (Kd.qR HO328.o)); (case aS => exact (bZ (qB HB.o))); (case aL => have := LMc8.o; omega); intro v331 w13 ho hb hg hat; rw [← Ny330.o] at ho; have _ := zK (hb); have _ := zK (ho); clear HB HO328; rename_i HB HO332; clear ho hb hg hat))
 go_ret2
 exact ⟨_, by first | rfl | (simp [errW_none, errW_some] <;> rfl) | (simp [*, errW_none, errW_some] <;> rfl), by exact Kd.qR HO332.o, by exact qB HB.o⟩
/-! ### spec_LettersFor: function 73 -/
mutual
def spec_LettersFor.l0 : Nat → List (S81) → List (S87) → List (S126) → Int → List (S81) → List (S81) → Int → Option ((List (S81)))
 | 0, _, _, _, _, _, _, _ => none
 | k + 1, x0, x1, x2, x3, x9, x10, x11 => if x11 < (x1.length : Int) then ((spec_AreLetters.f k x0).bind fun t342 => (if t342 = true then ((spec_AreReports.f k x1).bind fun t343 => (if t343 = true then ((spec_AreFinds.f k x2).bind fun t344 => (spec_LettersFor.j1 k x0 x1 x2 x3 x9 x10 x11 t344)) else (spec_LettersFor.j1 k x0 x1 x2 x3 x9 x10 x11 false))) else (spec_LettersFor.j1 k x0 x1 x2 x3 x9 x10 x11 false))) else (spec_LettersFor.j1 k x0 x1 x2 x3 x9 x10 x11 false)
def spec_LettersFor.j1 : Nat → List (S81) → List (S87) → List (S126) → Int → List (S81) → List (S81) → Int → Bool → Option ((List (S81)))
 | 0, _, _, _, _, _, _, _, _ => none
 | k + 1, x0, x1, x2, x3, x9, x10, x11, x34 => if x34 = true then (if 0 ≤ x11 then (if x11 < (x1.length : Int) then ((spec_l23Next.f k x10 ((rd_T87 x1 x11).f0) ((rd_T87 x1 x11).f1) ((rd_T87 x1 x11).f2) ((rd_T87 x1 x11).f3) ((rd_T87 x1 x11).f4) ((rd_T87 x1 x11).f5) ((rd_T87 x1 x11).f6.f0) ((rd_T87 x1 x11).f6.f1) x2).bind fun t346 => ((spec_WriteLetter.f k x10 ((rd_T87 x1 x11).f0) t346 x3).bind fun bt348 => (if bt348.2 = true then (if x9.length < 5864062014805 then (spec_LettersFor.l0 k x0 x1 x2 x3 (x9 ++ [(⟨(rd_T87 x1 x11).f0, t346, x3⟩ : S81)]) bt348.1 (wrap64 (x11 + 1))) else (none)) else (spec_LettersFor.l0 k x0 x1 x2 x3 x9 bt348.1 (wrap64 (x11 + 1)))))) else (none)) else (none)) else (some x9)
end
def spec_LettersFor.f (k : Nat) (l0 : List (S81)) (l1 : List (S87)) (l2 : List (S126)) (a3 : Int) : Option ((List (S81))) := (some (([] : List (S81)) : List (S81))).bind fun y336 => (if y336.length + l0.length < 5864062014805 then (spec_LettersFor.l0 k l0 l1 l2 a3 (([] : List (S81))) (y336 ++ l0) 0) else (none))
set_option maxHeartbeats 8000000 in
set_option maxRecDepth 100000 in
theorem spec_LettersFor.calls (k : Nat) (A0 : Option Addr) (c0 : Nat) (l0 : List (S81)) (A1 : Option Addr) (c1 : Nat) (l1 : List (S87)) (A2 : Option Addr) (c2 : Nat) (l2 : List (S126)) (a3 : Int) (r : List (S81)) (w : World) (hr0 : Kd.C k81 w A0 l0.length l0) (hc0 : l0.length ≤ c0) (hr1 : Kd.C k87 w A1 l1.length l1) (hc1 : l1.length ≤ c1) (hr2 : Kd.C k126 w A2 l2.length l2) (hc2 : l2.length ≤ c2) (h : spec_LettersFor.f k l0 l1 l2 a3 = some r) :
  Calls Try.prog 73 #[.slice A0 l0.length c0, .slice A1 l1.length c1, .slice A2 l2.length c2, .int .i64 a3] w fun e w' => ∃ v0_ : Value, e = .returned (v0_) ∧ Kd.R k81 81 w' w.heap.size (fun _ => True) v0_ r ∧ Below w.heap.size w w' := by
 have hu87 := Try.underlying87
 have hu81 := Try.underlying81
 have HR0 := zK hr0
 have HC0 := zK hc0
 clear hr0 hc0
 have HR1 := zK hr1
 have HC1 := zK hc1
 clear hr1 hc1
 have HR2 := zK hr2
 have HC2 := zK hc2
 clear hr2 hc2
 have HB := zK (Below.refl w.heap.size w)
 have H : ((some (([] : List (S81)) : List (S81))).bind fun y336 => (if y336.length + l0.length < 5864062014805 then (spec_LettersFor.l0 k l0 l1 l2 a3 (([] : List (S81))) (y336 ++ l0) 0) else (none))) = some r := h
 clear h
 obtain ⟨y333, hy333⟩ : ∃ y_ : List (S81), y_ = (([] : List (S81))) := ⟨_, rfl⟩
 replace H : ((some (([] : List (S81)) : List (S81))).bind fun y336 => (if y336.length + l0.length < 5864062014805 then (spec_LettersFor.l0 k l0 l1 l2 a3 y333 (y336 ++ l0) 0) else (none))) = some r := by first | (rw [hy333]; with_reducible exact H) | (have H2_ := (Option.bind_some _ _).symm.trans H; rw [hy333]; with_reducible exact H2_) | (have H2_ := (Option.bind_some _ _).symm.trans H; with_reducible exact H2_) | with_reducible exact H | (rw [hy333]; exact H) | exact H
 have Ny333 := zK hy333
 clear hy333
 obtain ⟨y336, hy336⟩ : ∃ y_ : List (S81), y_ = (([] : List (S81))) := ⟨_, rfl⟩
 replace H : (if y336.length + l0.length < 5864062014805 then (spec_LettersFor.l0 k l0 l1 l2 a3 y333 (y336 ++ l0) 0) else (none)) = some r := by first | (rw [hy336]; with_reducible exact H) | (have H2_ := (Option.bind_some _ _).symm.trans H; rw [hy336]; with_reducible exact H2_) | (have H2_ := (Option.bind_some _ _).symm.trans H; with_reducible exact H2_) | with_reducible exact H | (rw [hy336]; exact H) | exact H
 have Ny336 := zK hy336
 clear hy336
 by_cases c5 : y336.length + l0.length < 5864062014805
 rotate_left
 ·rw [if_neg c5] at H
  exact absurd H (by simp)
 rw [if_pos c5] at H
 have LMc5 := zK c5
 clear c5
 obtain ⟨y339, hy339⟩ : ∃ y_ : List (S81), y_ = (y336 ++ l0) := ⟨_, rfl⟩
 replace H : (spec_LettersFor.l0 k l0 l1 l2 a3 y333 y339 0) = some r := by first | (rw [hy339]; with_reducible exact H) | (have H2_ := (Option.bind_some _ _).symm.trans H; rw [hy339]; with_reducible exact H2_) | (have H2_ := (Option.bind_some _ _).symm.trans H; with_reducible exact H2_) | with_reducible exact H | (rw [hy339]; exact H) | exact H
 have Ny339 := zK hy339
 clear hy339
 have H' := zK H
 clear H
 go_enter Try.func73, Try.ntmps73
 go_wp2_with (first | ((with_reducible refine gate_dst (N := 15) rfl ?_); refine Kd.R_lit k81 _ 81 ?hg (N := 15) ?hd (xs := ([] : List (S81))) (inner := []) (ok := fun _ => True) (okp := fun _ => True) ?hr ?hp (fun _ hk => hk) trivial (Below.refl _ _) (Nat.le_refl _) (by simp) ?_; (case hd => rfl); (case hg => rfl); (case hr => first | (go_simp; done) | (go_simp; rfl)); (case hp => exact (Reps.none _ _)); intro v334 w6 ho7 hb hg_ hnew_; clear hg_ hnew_; (first | rw [← Ny333.o] at ho7 | (simp only [Int.reduceToNat] at ho7; rw [← Ny333.o] at ho7)); have _ := zK (Kd.R_lower ho7 (bZ (qB HB.o))); have _ := zK (bT (qB HB.o) hb); clear HB; rename_i HO335 HB; clear hb ho7) | ((with_reducible refine gate_dst (N := 16) rfl ?_); refine Kd.R_lit k81 _ 81 ?hg (N := 16) ?hd (xs := ([] : List (S81))) (inner := []) (ok := fun _ => True) (okp := fun _ => True) ?hr ?hp (fun _ hk => hk) trivial (Below.refl _ _) (Nat.le_refl _) (by simp) ?_; (case hd => rfl); (case hg => rfl); (case hr => first | (go_simp; done) | (go_simp; rfl)); (case hp => exact (Reps.none _ _)); intro v337 w8 ho9 hb hg_ hnew_; clear hg_ hnew_; (first | rw [← Ny336.o] at ho9 | (simp only [Int.reduceToNat] at ho9; rw [← Ny336.o] at ho9)); have _ := zK (Kd.R_elder' (Kd.qR HO335.o) (Kd.R_base ho9) hb); have _ := zK (Kd.R_lower (Kd.R_new' ho9 (Kd.R_lt (Kd.qR HO335.o))) (bZ (qB HB.o))); have _ := zK (bT (qB HB.o) hb); clear HO335 HB; rename_i HO335 HO338 HB; clear hb ho9) | ((with_reducible refine gate_builtin (b := .append) (xs := #[.tmp 16, .tmp 17]) rfl ?_); at_builtin; refine Kd.R_append_rows k81 (w0 := w) w.heap.size rfl (.tmp 16) (.tmp 17) 73 81 (.agg #[(.int .i64 0), (.int .i64 0), (.int .i64 0)]) 24 rfl Try.underlying73 info81 rfl (by decide) (by omega) v337 y336 l0 _ _ _ (fun k_ => some k_ ≠ (v334 : Value).ownBlock) (fun _ => False) rfl rfl ?aO ?aR (fun _ _ h => h) (fun _ h => h.elim) ?aF ?aB ?aS ?aL ?_; (case aR => exact Kd.qC (Kd.C_below HR0.o HB.o)); (case aB => exact (qB HB.o)); (case aF => exact (fun k_ hk => Kd.fresh' (Kd.R_lt (Kd.qR HO335.o)) k_ hk)); (case aO => exact (by (with_reducible repeat (first | apply Kd.RA | apply Kd.RN | apply Kd.RD)); exact Kd.R_mono HO338.o (fun _ hk => hk.2))); (case aS => exact (bZ (qB HB.o))); (case aL => have := LMc5.o; omega); intro v340 w10 ho hb hg hat; rw [← Ny339.o] at ho; have _ := zK (Kd.R_after (ok := (fun _ => True)) (Kd.qR HO335.o) hg hat); have _ := zK (hb); have _ := zK (ho); clear HO335 HB HO338; rename_i HO335 HB HO341; clear ho hb hg hat))
 go_loopg [9, 10, 11] k (fun kq v9 v10 v11 w' => ∃ (x9_1 : List (S81)) (x10_1 : List (S81)) (x11_1 : Int), v11 = .int .i64 x11_1 ∧ Aside0 (spec_LettersFor.l0 kq l0 l1 l2 a3 x9_1 x10_1 x11_1 = some r) ∧ Aside0 (kq ≤ k) ∧ Aside0 (Kd.R k81 81 w' w.heap.size (fun k_ => some k_ ≠ (v10 : Value).ownBlock) v9 x9_1) ∧ Aside0 (Kd.R k81 81 w' w.heap.size (fun k_ => some k_ ≠ (v9 : Value).ownBlock) v10 x10_1) ∧ Aside0 (Below w.heap.size w w'))
 case atStart => exact ⟨(y333), (y339), (0), M3, H', ⟨Nat.le_refl _⟩, ⟨by (with_reducible repeat (first | apply Kd.RA | apply Kd.RN | apply Kd.RD)); exact Kd.R_mono HO335.o (fun _ hk => hk.2)⟩, ⟨by exact Kd.qR HO341.o⟩, ⟨by exact qB HB.o⟩⟩
 case round =>
  clear H'
  try clear c1
  try clear c2
  try clear p2
  try clear c5
  try clear c7
  obtain ⟨x9_1, x10_1, x11_1, rfl, HA, HK1, HO_9, HO_10, HB⟩ := hrel
  cases gk with
  | zero => exact absurd HA.o (by simp [spec_LettersFor.l0])
  | succ k1 =>
   have H := HA.o
   clear HA
   simp only [spec_LettersFor.l0] at H
   have HC11 := zK H
   clear H
   go_upto_region 4 with (fail)
   go_cut [34] (fun v34 wc => ∃ (kq : Nat) (x34_10 : Bool), v34 = .bool x34_10 ∧ Aside0 (spec_LettersFor.j1 kq l0 l1 l2 a3 x9_1 x10_1 x11_1 x34_10 = some r) ∧ Aside0 (kq ≤ k1) ∧ Aside0 (Kd.R k81 81 wc w.heap.size (fun k_ => some k_ ≠ (u10 : Value).ownBlock) u9 x9_1) ∧ Aside0 (Kd.R k81 81 wc w.heap.size (fun k_ => some k_ ≠ (u9 : Value).ownBlock) u10 x10_1) ∧ Aside0 (Below w.heap.size w wc))
   case first =>
    have H := HC11.o
    clear HC11
    by_cases c12 : x11_1 < (l1.length : Int)
    rotate_left
    ·rw [if_neg c12] at H
     have c12b0 : decide (x11_1 < (l1.length : Int)) = false := decide_eq_false c12
     clear c12
     (first | rw [c12b0] | rw [c12b1] | (simp only [i64_w, i32_w]; rw [c12b0]) | skip)
     have H' := zK H
     clear H
     go_wp2
     go_meet
     case rel => exact ⟨_, (false), M3, H', ⟨by have := HK1.o; first | omega | exact Nat.le_refl _⟩, ⟨by exact Kd.qR HO_9.o⟩, ⟨by exact Kd.qR HO_10.o⟩, ⟨by exact qB HB.o⟩⟩
    rw [if_pos c12] at H
    have c12b0 : decide (x11_1 < (l1.length : Int)) = true := decide_eq_true c12
    clear c12
    (first | rw [c12b0] | rw [c12b1] | (simp only [i64_w, i32_w]; rw [c12b0]) | skip)
    replace H := Option.bind_eq_some_iff.mp H
    obtain ⟨t342, A130, H⟩ := H
    try dsimp only at H
    have A13 := zK A130
    clear A130
    by_cases c14 : t342 = true
    rotate_left
    ·replace c14 := Bool.eq_false_iff.mpr c14
     subst c14
     have H1 : (spec_LettersFor.j1 k1 l0 l1 l2 a3 x9_1 x10_1 x11_1 false) = some r := by rw [if_neg (show ¬ (false = true) by decide)] at H; exact H
     clear H
     have H := H1
     clear H1
     have H' := zK H
     clear H
     go_wp2_with (first | (go_at_call 129; (with_reducible refine (spec_AreLetters.calls k1 _ _ l0 false _ ?side1 ?side2 A13.o).mono ?_); (case side1 => exact Kd.qC (Kd.C_below HR0.o HB.o)); (case side2 => exact HC0.o); rintro e w23 ⟨rfl, hb⟩; have _ := zK (Kd.R_below (Kd.qR HO_9.o) hb); have _ := zK (Kd.R_below (Kd.qR HO_10.o) hb); have _ := zK (bT (qB HB.o) hb); clear HO_9 HO_10 HB; rename_i HO_9 HO_10 HB; (try clear hb); (try clear hb2); (try clear hk); (try clear hi)))
     go_meet
     case rel => exact ⟨_, (false), M3, H', ⟨by have := HK1.o; first | omega | exact Nat.le_refl _⟩, ⟨by exact Kd.qR HO_9.o⟩, ⟨by exact Kd.qR HO_10.o⟩, ⟨by exact qB HB.o⟩⟩
    subst c14
    have H1 : ((spec_AreReports.f k1 l1).bind fun t343 => (if t343 = true then ((spec_AreFinds.f k1 l2).bind fun t344 => (spec_LettersFor.j1 k1 l0 l1 l2 a3 x9_1 x10_1 x11_1 t344)) else (spec_LettersFor.j1 k1 l0 l1 l2 a3 x9_1 x10_1 x11_1 false))) = some r := by rw [if_pos rfl] at H; exact H
    clear H
    have H := H1
    clear H1
    replace H := Option.bind_eq_some_iff.mp H
    obtain ⟨t343, A150, H⟩ := H
    try dsimp only at H
    have A15 := zK A150
    clear A150
    by_cases c16 : t343 = true
    rotate_left
    ·replace c16 := Bool.eq_false_iff.mpr c16
     subst c16
     have H1 : (spec_LettersFor.j1 k1 l0 l1 l2 a3 x9_1 x10_1 x11_1 false) = some r := by rw [if_neg (show ¬ (false = true) by decide)] at H; exact H
     clear H
     have H := H1
     clear H1
     have H' := zK H
     clear H
     go_wp2_with (first | (go_at_call 129; (with_reducible refine (spec_AreLetters.calls k1 _ _ l0 true _ ?side1 ?side2 A13.o).mono ?_); (case side1 => exact Kd.qC (Kd.C_below HR0.o HB.o)); (case side2 => exact HC0.o); rintro e w21 ⟨rfl, hb⟩; have _ := zK (Kd.R_below (Kd.qR HO_9.o) hb); have _ := zK (Kd.R_below (Kd.qR HO_10.o) hb); have _ := zK (bT (qB HB.o) hb); clear HO_9 HO_10 HB; rename_i HO_9 HO_10 HB; (try clear hb); (try clear hb2); (try clear hk); (try clear hi)) | (go_at_call 130; (with_reducible refine (spec_AreReports.calls k1 _ _ l1 false _ ?side1 ?side2 A15.o).mono ?_); (case side1 => exact Kd.qC (Kd.C_below HR1.o HB.o)); (case side2 => exact HC1.o); rintro e w22 ⟨rfl, hb⟩; have _ := zK (Kd.R_below (Kd.qR HO_9.o) hb); have _ := zK (Kd.R_below (Kd.qR HO_10.o) hb); have _ := zK (bT (qB HB.o) hb); clear HO_9 HO_10 HB; rename_i HO_9 HO_10 HB; (try clear hb); (try clear hb2); (try clear hk); (try clear hi)))
     go_meet
     case rel => exact ⟨_, (false), M3, H', ⟨by have := HK1.o; first | omega | exact Nat.le_refl _⟩, ⟨by exact Kd.qR HO_9.o⟩, ⟨by exact Kd.qR HO_10.o⟩, ⟨by exact qB HB.o⟩⟩
    subst c16
    have H1 : ((spec_AreFinds.f k1 l2).bind fun t344 => (spec_LettersFor.j1 k1 l0 l1 l2 a3 x9_1 x10_1 x11_1 t344)) = some r := by rw [if_pos rfl] at H; exact H
    clear H
    have H := H1
    clear H1
    replace H := Option.bind_eq_some_iff.mp H
    obtain ⟨t344, A170, H⟩ := H
    try dsimp only at H
    have A17 := zK A170
    clear A170
    have H' := zK H
    clear H
    go_wp2_with (first | (go_at_call 129; (with_reducible refine (spec_AreLetters.calls k1 _ _ l0 true _ ?side1 ?side2 A13.o).mono ?_); (case side1 => exact Kd.qC (Kd.C_below HR0.o HB.o)); (case side2 => exact HC0.o); rintro e w18 ⟨rfl, hb⟩; have _ := zK (Kd.R_below (Kd.qR HO_9.o) hb); have _ := zK (Kd.R_below (Kd.qR HO_10.o) hb); have _ := zK (bT (qB HB.o) hb); clear HO_9 HO_10 HB; rename_i HO_9 HO_10 HB; (try clear hb); (try clear hb2); (try clear hk); (try clear hi)) | (go_at_call 130; (with_reducible refine (spec_AreReports.calls k1 _ _ l1 true _ ?side1 ?side2 A15.o).mono ?_); (case side1 => exact Kd.qC (Kd.C_below HR1.o HB.o)); (case side2 => exact HC1.o); rintro e w19 ⟨rfl, hb⟩; have _ := zK (Kd.R_below (Kd.qR HO_9.o) hb); have _ := zK (Kd.R_below (Kd.qR HO_10.o) hb); have _ := zK (bT (qB HB.o) hb); clear HO_9 HO_10 HB; rename_i HO_9 HO_10 HB; (try clear hb); (try clear hb2); (try clear hk); (try clear hi)) | (go_at_call 131; (with_reducible refine (spec_AreFinds.calls k1 _ _ l2 t344 _ ?side1 ?side2 A17.o).mono ?_); (case side1 => exact Kd.qC (Kd.C_below HR2.o HB.o)); (case side2 => exact HC2.o); rintro e w20 ⟨rfl, hb⟩; have _ := zK (Kd.R_below (Kd.qR HO_9.o) hb); have _ := zK (Kd.R_below (Kd.qR HO_10.o) hb); have _ := zK (bT (qB HB.o) hb); clear HO_9 HO_10 HB; rename_i HO_9 HO_10 HB; (try clear hb); (try clear hb2); (try clear hk); (try clear hi)))
    go_meet
    case rel => exact ⟨_, (t344), M3, H', ⟨by have := HK1.o; first | omega | exact Nat.le_refl _⟩, ⟨by exact Kd.qR HO_9.o⟩, ⟨by exact Kd.qR HO_10.o⟩, ⟨by exact qB HB.o⟩⟩
   case rest =>
    clear HC11
    try clear c1
    try clear c2
    try clear p2
    try clear c5
    try clear c7
    try clear c12
    try clear c12b0
    try clear c14
    try clear c16
    try clear p2
    obtain ⟨kq, x34_10, rfl, HA, HJ10, HO_9, HO_10, HB⟩ := hcut
    cases kq with
    | zero => exact absurd HA.o (by simp [spec_LettersFor.j1])
    | succ kj10 =>
     have H := HA.o
     clear HA
     simp only [spec_LettersFor.j1] at H
     by_cases c24 : x34_10 = true
     rotate_left
     ·replace c24 := Bool.eq_false_iff.mpr c24
      subst c24
      have H1 : (some x9_1) = some r := by rw [if_neg (show ¬ (false = true) by decide)] at H; exact H
      clear H
      have H := H1
      clear H1
      obtain rfl := Option.some.inj H
      go_wp2
      go_ret
      exact ⟨_, by first | rfl | (simp [errW_none, errW_some] <;> rfl) | (simp [*, errW_none, errW_some] <;> rfl), by (with_reducible repeat (first | apply Kd.RA | apply Kd.RN | apply Kd.RD)); exact Kd.R_mono HO_9.o (fun _ hk => trivial), by exact qB HB.o⟩
     subst c24
     have H1 : (if 0 ≤ x11_1 then (if x11_1 < (l1.length : Int) then ((spec_l23Next.f kj10 x10_1 ((rd_T87 l1 x11_1).f0) ((rd_T87 l1 x11_1).f1) ((rd_T87 l1 x11_1).f2) ((rd_T87 l1 x11_1).f3) ((rd_T87 l1 x11_1).f4) ((rd_T87 l1 x11_1).f5) ((rd_T87 l1 x11_1).f6.f0) ((rd_T87 l1 x11_1).f6.f1) l2).bind fun t346 => ((spec_WriteLetter.f kj10 x10_1 ((rd_T87 l1 x11_1).f0) t346 a3).bind fun bt348 => (if bt348.2 = true then (if x9_1.length < 5864062014805 then (spec_LettersFor.l0 kj10 l0 l1 l2 a3 (x9_1 ++ [(⟨(rd_T87 l1 x11_1).f0, t346, a3⟩ : S81)]) bt348.1 (wrap64 (x11_1 + 1))) else (none)) else (spec_LettersFor.l0 kj10 l0 l1 l2 a3 x9_1 bt348.1 (wrap64 (x11_1 + 1)))))) else (none)) else (none)) = some r := by rw [if_pos rfl] at H; exact H
     clear H
     have H := H1
     clear H1
     by_cases c25 : 0 ≤ x11_1
     rotate_left
     ·rw [if_neg c25] at H
      exact absurd H (by simp)
     rw [if_pos c25] at H
     have c25b0 : decide (0 ≤ x11_1) = true := decide_eq_true c25
     clear c25
     by_cases c26 : x11_1 < (l1.length : Int)
     rotate_left
     ·rw [if_neg c26] at H
      exact absurd H (by simp)
     rw [if_pos c26] at H
     have c26b0 : decide (x11_1 < (l1.length : Int)) = true := decide_eq_true c26
     clear c26
     replace H := Option.bind_eq_some_iff.mp H
     obtain ⟨t346, A270, H⟩ := H
     try dsimp only at H
     have A27 := zK A270
     clear A270
     replace H := Option.bind_eq_some_iff.mp H
     obtain ⟨⟨t348, t349⟩, A280, H⟩ := H
     try dsimp only at H
     have A28 := zK A280
     clear A280
     by_cases c29 : t349 = true
     rotate_left
     ·replace c29 := Bool.eq_false_iff.mpr c29
      subst c29
      have H1 : (spec_LettersFor.l0 kj10 l0 l1 l2 a3 x9_1 t348 (wrap64 (x11_1 + 1))) = some r := by rw [if_neg (show ¬ (false = true) by decide)] at H; exact H
      clear H
      have H := H1
      clear H1
      have H' := zK H
      clear H
      have p345 : 0 ≤ (x11_1 : Int) := oD M1
      have q345 : x11_1 < (l1.length : Int) := oD M1
      obtain ⟨ad345, A345_2, c345_2, A345_5, c345_5, e345, hx345_0, hx345_1, hx345_2, hx345_3, hx345_4, hx345_5, hx345_6, hx345_7, hl345_2, hi345_2, hl345_5, hi345_5⟩ := at_T87 HR1.o x11_1 p345 q345
      cases e345
      replace hx345_0 := cB HB.o hx345_0
      replace hx345_1 := cB HB.o hx345_1
      replace hx345_2 := cB HB.o hx345_2
      replace hx345_3 := cB HB.o hx345_3
      replace hx345_4 := cB HB.o hx345_4
      replace hx345_5 := cB HB.o hx345_5
      replace hx345_6 := cB HB.o hx345_6
      replace hx345_7 := cB HB.o hx345_7
      have HR345_2 := zK hi345_2
      have HC345_2 := zK hl345_2
      clear hi345_2 hl345_2
      have HR345_5 := zK hi345_5
      have HC345_5 := zK hl345_5
      clear hi345_5 hl345_5
      replace p345 := eq_true p345
      replace q345 := eq_true q345
      obtain ⟨Ao35, co35, eo35⟩ := Kd.R_slice HO_10.o
      subst eo35
      go_wp2_with (first | ((with_reducible refine gate_callee (f := 132) rfl ?_); refine goesL_ (some 43) rfl rfl Try.func132 (by kernel_rfl) rfl #[.slice Ao35 x10_1.length co35, .agg #[.int .i64 ((rd_T87 l1 x11_1).f0), .int .i64 ((rd_T87 l1 x11_1).f1), .slice A345_2 ((rd_T87 l1 x11_1).f2).length c345_2, .int .i64 ((rd_T87 l1 x11_1).f3), .int .i64 ((rd_T87 l1 x11_1).f4), .slice A345_5 ((rd_T87 l1 x11_1).f5).length c345_5, .int .i64 ((rd_T87 l1 x11_1).f6.f0), .int .i64 ((rd_T87 l1 x11_1).f6.f1)], .slice A2 l2.length c2] rfl M0 ?_; (with_reducible refine (spec_l23Next.calls kj10 _ _ x10_1 ((rd_T87 l1 x11_1).f0) ((rd_T87 l1 x11_1).f1) _ _ ((rd_T87 l1 x11_1).f2) ((rd_T87 l1 x11_1).f3) ((rd_T87 l1 x11_1).f4) _ _ ((rd_T87 l1 x11_1).f5) ((rd_T87 l1 x11_1).f6.f0) ((rd_T87 l1 x11_1).f6.f1) _ _ l2 t346 _ ?side1 ?side2 ?side3 ?side4 ?side5 ?side6 ?side7 ?side8 A27.o).mono ?_); (case side1 => exact Kd.qC (Kd.R_reads' HO_10.o).2.2); (case side2 => exact (Kd.R_reads' HO_10.o).2.1); (case side3 => exact Kd.qC (Kd.C_below HR345_2.o HB.o)); (case side4 => exact HC345_2.o); (case side5 => exact Kd.qC (Kd.C_below HR345_5.o HB.o)); (case side6 => exact HC345_5.o); (case side7 => exact Kd.qC (Kd.C_below HR2.o HB.o)); (case side8 => exact HC2.o); rintro e w36 ⟨rfl, hb⟩; refine ⟨_, rfl, ?_⟩; have _ := zK (Kd.R_below (Kd.qR HO_9.o) hb); have _ := zK (Kd.R_below (Kd.qR HO_10.o) hb); have _ := zK (bT (qB HB.o) hb); clear HO_9 HO_10 HB; rename_i HO_9 HO_10 HB; (try clear hb); (try clear hb2); (try clear hk); (try clear hi); have p347 : 0 ≤ (x11_1 : Int) := oD M1; have q347 : x11_1 < (l1.length : Int) := oD M1; obtain ⟨ad347, A347_2, c347_2, A347_5, c347_5, e347, hx347_0, hx347_1, hx347_2, hx347_3, hx347_4, hx347_5, hx347_6, hx347_7, hl347_2, hi347_2, hl347_5, hi347_5⟩ := at_T87 HR1.o x11_1 p347 q347; obtain rfl : ad345 = ad347 := (by injection e347); replace hx347_0 := cB HB.o hx347_0; replace hx347_1 := cB HB.o hx347_1; replace hx347_2 := cB HB.o hx347_2; replace hx347_3 := cB HB.o hx347_3; replace hx347_4 := cB HB.o hx347_4; replace hx347_5 := cB HB.o hx347_5; replace hx347_6 := cB HB.o hx347_6; replace hx347_7 := cB HB.o hx347_7; have HR347_2 := zK hi347_2; have HC347_2 := zK hl347_2; clear hi347_2 hl347_2; have HR347_5 := zK hi347_5; have HC347_5 := zK hl347_5; clear hi347_5 hl347_5; replace p347 := eq_true p347; replace q347 := eq_true q347) | ((with_reducible refine gate_callee (f := 133) rfl ?_); refine goesL_ (some 53) rfl rfl Try.func133 (by kernel_rfl) rfl #[.slice Ao35 x10_1.length co35, .int .i64 ((rd_T87 l1 x11_1).f0), .int .i64 t346, .int .i64 a3] rfl M0 ?_; (with_reducible refine (spec_WriteLetter.calls kj10 _ _ x10_1 ((rd_T87 l1 x11_1).f0) t346 a3 t348 false _ ?side1 ?side2 A28.o).mono ?_); (case side1 => exact Kd.qC (Kd.R_reads' HO_10.o).2.2); (case side2 => exact (Kd.R_reads' HO_10.o).2.1); rintro e w37 ⟨v350, rfl, ho0, hb⟩; refine ⟨_, rfl, ?_⟩; have _ := zK (Kd.R_elder' (Kd.qR HO_9.o) (Kd.R_base ho0) hb); have _ := zK (Kd.R_elder' (Kd.qR HO_10.o) (Kd.R_base ho0) hb); have _ := zK (Kd.R_lower (Kd.R_new' (Kd.R_new' ho0 (Kd.R_lt (Kd.qR HO_9.o))) (Kd.R_lt (Kd.qR HO_10.o))) (bZ (qB HB.o))); have _ := zK (bT (qB HB.o) hb); clear HO_9 HO_10 HB; rename_i HO_9 HO_10 HO351 HB; (try clear hb); (try clear hb2); (try clear hk); (try clear hi); (try clear ho0)))
      go_roundg kj10
      case measure => have := HK1.o; have := HJ10.o; omega
      case rel => exact ⟨(x9_1), (t348), (wrap64 (x11_1 + 1)), M3, H', ⟨by have := HK1.o; have := HJ10.o; omega⟩, ⟨by (with_reducible repeat (first | apply Kd.RA | apply Kd.RN | apply Kd.RD)); exact Kd.R_mono HO_9.o (fun _ hk => hk.2)⟩, ⟨by (with_reducible repeat (first | apply Kd.RA | apply Kd.RN | apply Kd.RD)); exact Kd.R_mono HO351.o (fun _ hk => hk.1.2)⟩, ⟨by exact qB HB.o⟩⟩
     subst c29
     have H1 : (if x9_1.length < 5864062014805 then (spec_LettersFor.l0 kj10 l0 l1 l2 a3 (x9_1 ++ [(⟨(rd_T87 l1 x11_1).f0, t346, a3⟩ : S81)]) t348 (wrap64 (x11_1 + 1))) else (none)) = some r := by rw [if_pos rfl] at H; exact H
     clear H
     have H := H1
     clear H1
     by_cases c30 : x9_1.length < 5864062014805
     rotate_left
     ·rw [if_neg c30] at H
      exact absurd H (by simp)
     rw [if_pos c30] at H
     have LMc30 := zK c30
     clear c30
     obtain ⟨y353, hy353⟩ : ∃ y_ : List (S81), y_ = (x9_1 ++ [(⟨(rd_T87 l1 x11_1).f0, t346, a3⟩ : S81)]) := ⟨_, rfl⟩
     replace H : (spec_LettersFor.l0 kj10 l0 l1 l2 a3 y353 t348 (wrap64 (x11_1 + 1))) = some r := by first | (rw [hy353]; with_reducible exact H) | (have H2_ := (Option.bind_some _ _).symm.trans H; rw [hy353]; with_reducible exact H2_) | (have H2_ := (Option.bind_some _ _).symm.trans H; with_reducible exact H2_) | with_reducible exact H | (rw [hy353]; exact H) | exact H
     have Ny353 := zK hy353
     clear hy353
     have H' := zK H
     clear H
     have p345 : 0 ≤ (x11_1 : Int) := oD M1
     have q345 : x11_1 < (l1.length : Int) := oD M1
     obtain ⟨ad345, A345_2, c345_2, A345_5, c345_5, e345, hx345_0, hx345_1, hx345_2, hx345_3, hx345_4, hx345_5, hx345_6, hx345_7, hl345_2, hi345_2, hl345_5, hi345_5⟩ := at_T87 HR1.o x11_1 p345 q345
     cases e345
     replace hx345_0 := cB HB.o hx345_0
     replace hx345_1 := cB HB.o hx345_1
     replace hx345_2 := cB HB.o hx345_2
     replace hx345_3 := cB HB.o hx345_3
     replace hx345_4 := cB HB.o hx345_4
     replace hx345_5 := cB HB.o hx345_5
     replace hx345_6 := cB HB.o hx345_6
     replace hx345_7 := cB HB.o hx345_7
     have HR345_2 := zK hi345_2
     have HC345_2 := zK hl345_2
     clear hi345_2 hl345_2
     have HR345_5 := zK hi345_5
     have HC345_5 := zK hl345_5
     clear hi345_5 hl345_5
     replace p345 := eq_true p345
     replace q345 := eq_true q345
     obtain ⟨Ao31, co31, eo31⟩ := Kd.R_slice HO_10.o
     subst eo31
     go_wp2_with (first | ((with_reducible refine gate_callee (f := 132) rfl ?_); refine goesL_ (some 43) rfl rfl Try.func132 (by kernel_rfl) rfl #[.slice Ao31 x10_1.length co31, .agg #[.int .i64 ((rd_T87 l1 x11_1).f0), .int .i64 ((rd_T87 l1 x11_1).f1), .slice A345_2 ((rd_T87 l1 x11_1).f2).length c345_2, .int .i64 ((rd_T87 l1 x11_1).f3), .int .i64 ((rd_T87 l1 x11_1).f4), .slice A345_5 ((rd_T87 l1 x11_1).f5).length c345_5, .int .i64 ((rd_T87 l1 x11_1).f6.f0), .int .i64 ((rd_T87 l1 x11_1).f6.f1)], .slice A2 l2.length c2] rfl M0 ?_; (with_reducible refine (spec_l23Next.calls kj10 _ _ x10_1 ((rd_T87 l1 x11_1).f0) ((rd_T87 l1 x11_1).f1) _ _ ((rd_T87 l1 x11_1).f2) ((rd_T87 l1 x11_1).f3) ((rd_T87 l1 x11_1).f4) _ _ ((rd_T87 l1 x11_1).f5) ((rd_T87 l1 x11_1).f6.f0) ((rd_T87 l1 x11_1).f6.f1) _ _ l2 t346 _ ?side1 ?side2 ?side3 ?side4 ?side5 ?side6 ?side7 ?side8 A27.o).mono ?_); (case side1 => exact Kd.qC (Kd.R_reads' HO_10.o).2.2); (case side2 => exact (Kd.R_reads' HO_10.o).2.1); (case side3 => exact Kd.qC (Kd.C_below HR345_2.o HB.o)); (case side4 => exact HC345_2.o); (case side5 => exact Kd.qC (Kd.C_below HR345_5.o HB.o)); (case side6 => exact HC345_5.o); (case side7 => exact Kd.qC (Kd.C_below HR2.o HB.o)); (case side8 => exact HC2.o); rintro e w32 ⟨rfl, hb⟩; refine ⟨_, rfl, ?_⟩; have _ := zK (Kd.R_below (Kd.qR HO_9.o) hb); have _ := zK (Kd.R_below (Kd.qR HO_10.o) hb); have _ := zK (bT (qB HB.o) hb); clear HO_9 HO_10 HB; rename_i HO_9 HO_10 HB; (try clear hb); (try clear hb2); (try clear hk); (try clear hi); have p347 : 0 ≤ (x11_1 : Int) := oD M1; have q347 : x11_1 < (l1.length : Int) := oD M1; obtain ⟨ad347, A347_2, c347_2, A347_5, c347_5, e347, hx347_0, hx347_1, hx347_2, hx347_3, hx347_4, hx347_5, hx347_6, hx347_7, hl347_2, hi347_2, hl347_5, hi347_5⟩ := at_T87 HR1.o x11_1 p347 q347; obtain rfl : ad345 = ad347 := (by injection e347); replace hx347_0 := cB HB.o hx347_0; replace hx347_1 := cB HB.o hx347_1; replace hx347_2 := cB HB.o hx347_2; replace hx347_3 := cB HB.o hx347_3; replace hx347_4 := cB HB.o hx347_4; replace hx347_5 := cB HB.o hx347_5; replace hx347_6 := cB HB.o hx347_6; replace hx347_7 := cB HB.o hx347_7; have HR347_2 := zK hi347_2; have HC347_2 := zK hl347_2; clear hi347_2 hl347_2; have HR347_5 := zK hi347_5; have HC347_5 := zK hl347_5; clear hi347_5 hl347_5; replace p347 := eq_true p347; replace q347 := eq_true q347) | ((with_reducible refine gate_callee (f := 133) rfl ?_); refine goesL_ (some 53) rfl rfl Try.func133 (by kernel_rfl) rfl #[.slice Ao31 x10_1.length co31, .int .i64 ((rd_T87 l1 x11_1).f0), .int .i64 t346, .int .i64 a3] rfl M0 ?_; (with_reducible refine (spec_WriteLetter.calls kj10 _ _ x10_1 ((rd_T87 l1 x11_1).f0) t346 a3 t348 true _ ?side1 ?side2 A28.o).mono ?_); (case side1 => exact Kd.qC (Kd.R_reads' HO_10.o).2.2); (case side2 => exact (Kd.R_reads' HO_10.o).2.1); rintro e w33 ⟨v350, rfl, ho0, hb⟩; refine ⟨_, rfl, ?_⟩; have _ := zK (Kd.R_elder' (Kd.qR HO_9.o) (Kd.R_base ho0) hb); have _ := zK (Kd.R_elder' (Kd.qR HO_10.o) (Kd.R_base ho0) hb); have _ := zK (Kd.R_lower (Kd.R_new' (Kd.R_new' ho0 (Kd.R_lt (Kd.qR HO_9.o))) (Kd.R_lt (Kd.qR HO_10.o))) (bZ (qB HB.o))); have _ := zK (bT (qB HB.o) hb); clear HO_9 HO_10 HB; rename_i HO_9 HO_10 HO351 HB; (try clear hb); (try clear hb2); (try clear hk); (try clear hi); (try clear ho0); have p352 : 0 ≤ (x11_1 : Int) := oD M1; have q352 : x11_1 < (l1.length : Int) := oD M1; obtain ⟨ad352, A352_2, c352_2, A352_5, c352_5, e352, hx352_0, hx352_1, hx352_2, hx352_3, hx352_4, hx352_5, hx352_6, hx352_7, hl352_2, hi352_2, hl352_5, hi352_5⟩ := at_T87 HR1.o x11_1 p352 q352; obtain rfl : ad345 = ad352 := (by injection e352); replace hx352_0 := cB HB.o hx352_0; replace hx352_1 := cB HB.o hx352_1; replace hx352_2 := cB HB.o hx352_2; replace hx352_3 := cB HB.o hx352_3; replace hx352_4 := cB HB.o hx352_4; replace hx352_5 := cB HB.o hx352_5; replace hx352_6 := cB HB.o hx352_6; replace hx352_7 := cB HB.o hx352_7; have HR352_2 := zK hi352_2; have HC352_2 := zK hl352_2; clear hi352_2 hl352_2; have HR352_5 := zK hi352_5; have HC352_5 := zK hl352_5; clear hi352_5 hl352_5; replace p352 := eq_true p352; replace q352 := eq_true q352) | ((with_reducible refine gate_builtin (b := .append) (xs := #[.tmp 58, .tmp 67]) rfl ?_); at_builtin; refine Kd.R_append k81 (w0 := w) w.heap.size rfl (.tmp 58) (.tmp 67) 73 81 (.agg #[(.int .i64 0), (.int .i64 0), (.int .i64 0)]) 24 rfl Try.underlying73 info81 rfl (by decide) (by omega) u9 x9_1 (⟨(rd_T87 l1 x11_1).f0, t346, a3⟩ : S81) [.int .i64 ((rd_T87 l1 x11_1).f0), .int .i64 t346, .int .i64 a3] (fun k_ => some k_ ≠ (.slice Ao31 x10_1.length co31 : Value).ownBlock ∧ some k_ ≠ (v350 : Value).ownBlock) (fun _ => False) rfl rfl ?aP (fun _ hk => hk.elim) ?aF ?aO ?aB ?aS ?aL ?_; (case aP => exact k81_mkM _ _ _ (⟨(rd_T87 l1 x11_1).f0, t346, a3⟩ : S81)); (case aB => exact (qB HB.o)); (case aF => exact (fun k_ hk => ⟨Kd.fresh' (Kd.R_lt (Kd.qR HO_10.o)) k_ hk, Kd.fresh' (Kd.R_lt (Kd.qR HO351.o)) k_ hk⟩)); (case aO => exact (Kd.qR HO_9.o)); (case aS => exact (bZ (qB HB.o))); (case aL => have := LMc30.o; omega); intro v354 w34 ho hb hg hat; rw [← Ny353.o] at ho; have _ := zK (Kd.R_after (ok := (fun k_ => some k_ ≠ (v350 : Value).ownBlock)) (by (with_reducible repeat (first | apply Kd.RA | apply Kd.RN | apply Kd.RD)); exact Kd.R_mono HO_10.o (fun _ hk => ⟨hk.2, hk.1⟩)) hg hat); have _ := zK (Kd.R_after (ok := (fun k_ => some k_ ≠ (.slice Ao31 x10_1.length co31 : Value).ownBlock)) (by (with_reducible repeat (first | apply Kd.RA | apply Kd.RN | apply Kd.RD)); exact Kd.R_mono HO351.o (fun _ hk => ⟨hk.2, hk.1.2⟩)) hg hat); have _ := zK (hb); have _ := zK (ho); clear HO_10 HO351 HB HO_9; rename_i HO_10 HO351 HB HO355; clear ho hb hg hat))
     go_roundg kj10
     case measure => have := HK1.o; have := HJ10.o; omega
     case rel => exact ⟨(y353), (t348), (wrap64 (x11_1 + 1)), M3, H', ⟨by have := HK1.o; have := HJ10.o; omega⟩, ⟨by (with_reducible repeat (first | apply Kd.RA | apply Kd.RN | apply Kd.RD)); exact Kd.R_mono HO355.o (fun _ hk => hk.2)⟩, ⟨by (with_reducible repeat (first | apply Kd.RA | apply Kd.RN | apply Kd.RD)); exact Kd.R_mono HO351.o (fun _ hk => hk.2)⟩, ⟨by exact qB HB.o⟩⟩
/-! ### laws_toLetter: function 134 -/
def laws_toLetter.f (a0_0 : Int) (a0_1 : Int) (a0_2 : Int) : Option (Int × Int × Int) := some (a0_0, a0_1, a0_2)
set_option maxHeartbeats 8000000 in
set_option maxRecDepth 100000 in
theorem laws_toLetter.calls (a0_0 : Int) (a0_1 : Int) (a0_2 : Int) (r1 : Int) (r2 : Int) (r3 : Int) (w : World) (h : laws_toLetter.f a0_0 a0_1 a0_2 = some (r1, r2, r3)) :
  Calls Try.prog 134 #[.agg #[.int .i64 a0_0, .int .i64 a0_1, .int .i64 a0_2]] w fun e w' => e = .returned (.agg #[.int .i64 r1, .int .i64 r2, .int .i64 r3]) ∧ Below w.heap.size w w' := by
 have hu173 := Try.underlying173
 have hu81 := Try.underlying81
 have HB := zK (Below.refl w.heap.size w)
 have H : (some (a0_0, a0_1, a0_2)) = some (r1, r2, r3) := h
 clear h
 simp only [Option.some.injEq, Prod.mk.injEq] at H
 obtain ⟨rfl, rfl, rfl⟩ := H
 go_enter Try.func134, Try.ntmps134
 go_wp2_with (first | ((with_reducible refine gate_dst (N := 1) rfl ?_); refine box_event ?hg (N := 1) ?hd (cs := #[.int .i64 a0_0, .int .i64 a0_1, .int .i64 a0_2]) (t := 173) ?hr ?_; (case hd => rfl); (case hg => rfl); (case hr => first | (go_simp; done) | (go_simp; rfl)); intro gb356 hg w2 hbox hb; have _ := zK (bT (qB HB.o) hb); have _ := zK (hbox); have _ := zK ((by rw [hg]; exact (bZ (qB HB.o)) : w.heap.size ≤ gb356)); have _ := zK ((by rw [hg]; exact (bZ (qB HB.o)) : w.heap.size ≤ gb356)); clear HB; rename_i HB BK356 GW356 GE356; clear hb hbox hg) | ((with_reducible refine gate_dst (N := 2) rfl ?_); refine box_event ?hg (N := 2) ?hd (cs := #[.int .i64 0, .int .i64 0, .int .i64 0]) (t := 81) ?hr ?_; (case hd => rfl); (case hg => rfl); (case hr => first | (go_simp; done) | (go_simp; rfl)); intro gb357 hg w3 hbox hb; have _ := zK (bB (qK BK356.o) hb); have _ := zK (bT (qX HB.o) hb); have _ := zK (hbox); have _ := zK ((by rw [hg]; exact (bZ (qX HB.o)) : w.heap.size ≤ gb357)); have _ := zK ((by rw [hg]; exact (bZ (qX HB.o)) : w.heap.size ≤ gb357)); have _ := zK ((by rw [hg]; exact Nat.ne_of_lt (blk_lt (qK BK356.o)) : gb356 ≠ gb357)); have _ := zK ((by rw [hg]; exact Nat.ne_of_gt (blk_lt (qK BK356.o)) : gb357 ≠ gb356)); clear BK356 HB; rename_i BK356 HB BK357 GW357 GE357 NB356_357 NB357_356; clear hb hbox hg) | ((with_reducible refine gate_dst (N := 3) rfl ?_); refine box_event ?hg (N := 3) ?hd (cs := #[.int .i64 0, .int .i64 0, .int .i64 0]) (t := 81) ?hr ?_; (case hd => rfl); (case hg => rfl); (case hr => first | (go_simp; done) | (go_simp; rfl)); intro gb358 hg w4 hbox hb; have _ := zK (bB (qK BK356.o) hb); have _ := zK (bB (qK BK357.o) hb); have _ := zK (bT (qX HB.o) hb); have _ := zK (hbox); have _ := zK ((by rw [hg]; exact (bZ (qX HB.o)) : w.heap.size ≤ gb358)); have _ := zK ((by rw [hg]; exact (bZ (qX HB.o)) : w.heap.size ≤ gb358)); have _ := zK ((by rw [hg]; exact Nat.ne_of_lt (blk_lt (qK BK356.o)) : gb356 ≠ gb358)); have _ := zK ((by rw [hg]; exact Nat.ne_of_gt (blk_lt (qK BK356.o)) : gb358 ≠ gb356)); have _ := zK ((by rw [hg]; exact Nat.ne_of_lt (blk_lt (qK BK357.o)) : gb357 ≠ gb358)); have _ := zK ((by rw [hg]; exact Nat.ne_of_gt (blk_lt (qK BK357.o)) : gb358 ≠ gb357)); clear BK356 BK357 HB; rename_i BK356 BK357 HB BK358 GW358 GE358 NB356_358 NB358_356 NB357_358 NB358_357; clear hb hbox hg; have hnb5 := NB356_357.o; have hnc5 := NB357_356.o; have hnb6 := NB356_358.o; have hnc6 := NB358_356.o; obtain ⟨hcz7_0, hcz7_1, hcz7_2, hfz7_0, hfz7_1, hfz7_2⟩ := bx3 BK356.o; have hnb8 := NB358_357.o; have hnc8 := NB357_358.o; obtain ⟨hcz9_0, hcz9_1, hcz9_2, hfz9_0, hfz9_1, hfz9_2⟩ := bx3 BK358.o; obtain ⟨hcz10_0, hcz10_1, hcz10_2, hfz10_0, hfz10_1, hfz10_2⟩ := bx3 BK357.o))
 refine bodyPost_ret (results_cell_row rfl _ _ gb357 81 #[.int .i64 a0_0, .int .i64 a0_1, .int .i64 a0_2] (0, 0) _ rfl (by (with_reducible repeat (first | refine kN ?_ _ | refine kD ?_ | refine kA ?_ _)); refine blk_put (cs := #[.int .i64 a0_0, .int .i64 a0_1, .int .i64 0]) ?_ 2 _ rfl; (with_reducible repeat (first | refine kN ?_ _ | refine kD ?_ | refine kA ?_ _)); refine blk_put (cs := #[.int .i64 a0_0, .int .i64 0, .int .i64 0]) ?_ 1 _ rfl; (with_reducible repeat (first | refine kN ?_ _ | refine kD ?_ | refine kA ?_ _)); refine blk_put (cs := #[.int .i64 0, .int .i64 0, .int .i64 0]) ?_ 0 _ rfl; (with_reducible repeat (first | refine kN ?_ _ | refine kD ?_ | refine kA ?_ _)); refine blk_far ?_ NB357_358.o _; (with_reducible repeat (first | refine kN ?_ _ | refine kD ?_ | refine kA ?_ _)); refine blk_far ?_ NB357_358.o _; (with_reducible repeat (first | refine kN ?_ _ | refine kD ?_ | refine kA ?_ _)); refine blk_far ?_ NB357_358.o _; exact qK BK357.o) Try.underlying81 rfl (by kernel_rfl)) rfl ?_
 exact ⟨by first | rfl | (simp [errW_none, errW_some] <;> rfl) | (simp [*, errW_none, errW_some] <;> rfl), by exact qX HB.o⟩
/-! ### laws_toLetterS: function 74 -/
def laws_toLetterS.l0 : Nat → List (S173) → List (S81) → Int → Option ((List (S81)))
 | 0, _, _, _ => none
 | k + 1, x0, x3, x4 => if x4 < (x0.length : Int) then (if 0 ≤ x4 then ((laws_toLetter.f ((rd_T173 x0 x4).f0) ((rd_T173 x0 x4).f1) ((rd_T173 x0 x4).f2)).bind fun bt363 => (if x4 < (x3.length : Int) then (laws_toLetterS.l0 k x0 (x3.set (x4 : Int).toNat (⟨bt363.1, bt363.2.1, bt363.2.2⟩ : S81)) (wrap64 (x4 + 1))) else (none))) else (none)) else (some x3)
def laws_toLetterS.f (k : Nat) (l0 : List (S173)) : Option ((List (S81))) := if 0 ≤ (l0.length : Int) then (if ((l0.length : Int) : Int).toNat ≤ 11728124029610 then (laws_toLetterS.l0 k l0 (List.replicate ((l0.length : Int) : Int).toNat z81) 0) else (none)) else (none)
set_option maxHeartbeats 8000000 in
set_option maxRecDepth 100000 in
theorem laws_toLetterS.calls (k : Nat) (A0 : Option Addr) (c0 : Nat) (l0 : List (S173)) (r : List (S81)) (w : World) (hr0 : Kd.C k173 w A0 l0.length l0) (hc0 : l0.length ≤ c0) (h : laws_toLetterS.f k l0 = some r) :
  Calls Try.prog 74 #[.slice A0 l0.length c0] w fun e w' => ∃ v0_ : Value, e = .returned (v0_) ∧ Kd.R k81 81 w' w.heap.size (fun _ => True) v0_ r ∧ Below w.heap.size w w' := by
 have hu173 := Try.underlying173
 have hu81 := Try.underlying81
 have HR0 := zK hr0
 have HC0 := zK hc0
 clear hr0 hc0
 have HB := zK (Below.refl w.heap.size w)
 have H : (if 0 ≤ (l0.length : Int) then (if ((l0.length : Int) : Int).toNat ≤ 11728124029610 then (laws_toLetterS.l0 k l0 (List.replicate ((l0.length : Int) : Int).toNat z81) 0) else (none)) else (none)) = some r := h
 clear h
 by_cases c2 : 0 ≤ (l0.length : Int)
 rotate_left
 ·rw [if_neg c2] at H
  exact absurd H (by simp)
 rw [if_pos c2] at H
 have c2b0 := eq_true c2
 have c2b1 : decide (0 ≤ (l0.length : Int)) = true := decide_eq_true c2
 clear c2
 by_cases c3 : ((l0.length : Int) : Int).toNat ≤ 11728124029610
 rotate_left
 ·rw [if_neg c3] at H
  exact absurd H (by simp)
 rw [if_pos c3] at H
 have c3b0 := eq_true c3
 have c3b1 : decide (((l0.length : Int) : Int).toNat ≤ 11728124029610) = true := decide_eq_true c3
 clear c3
 obtain ⟨y359, hy359⟩ : ∃ y_ : List (S81), y_ = (List.replicate ((l0.length : Int) : Int).toNat z81) := ⟨_, rfl⟩
 replace H : (laws_toLetterS.l0 k l0 y359 0) = some r := by first | (rw [hy359]; with_reducible exact H) | (have H2_ := (Option.bind_some _ _).symm.trans H; rw [hy359]; with_reducible exact H2_) | (have H2_ := (Option.bind_some _ _).symm.trans H; with_reducible exact H2_) | with_reducible exact H | (rw [hy359]; exact H) | exact H
 have Ny359 := zK hy359
 clear hy359
 have H' := zK H
 clear H
 go_enter Try.func74, Try.ntmps74
 go_wp2_with (first | ((with_reducible refine gate_dst (N := 7) rfl ?_); refine Kd.R_make k81 _ 81 rfl (N := 7) rfl 73 _ _ rfl (l0.length : Int) rfl rfl Try.underlying73 (.agg #[(.int .i64 0), (.int .i64 0), (.int .i64 0)]) 24 info81 rfl (by decide) (by omega) z81 (ok := fun _ => True) (okp := fun _ => True) (k81_mkM _ _ _ z81 ) (fun _ hk => hk) trivial (oD M1) (Nat.le_trans (Nat.mul_le_mul_right _ (oD M1 : (l0.length : Int).toNat ≤ 11728124029610)) (by omega)) (Below.refl _ _) (Nat.le_refl _) ?_; intro v360 w4 ho5 hb hg_ hnew_; clear hg_ hnew_; (first | rw [← Ny359.o] at ho5 | (simp only [Int.reduceToNat] at ho5; rw [← Ny359.o] at ho5)); have _ := zK (Kd.R_lower ho5 (bZ (qB HB.o))); have _ := zK (bT (qB HB.o) hb); clear HB; rename_i HO361 HB; clear hb ho5))
 go_loopg [4] k (fun kq v4 w' => ∃ (x3_1 : List (S81)) (x4_1 : Int), v4 = .int .i64 x4_1 ∧ Aside0 (laws_toLetterS.l0 kq l0 x3_1 x4_1 = some r) ∧ Aside0 (kq ≤ k) ∧ Aside0 (Kd.R k81 81 w' w.heap.size (fun _ => True) v360 x3_1) ∧ Aside0 (Below w.heap.size w w'))
 case atStart => exact ⟨(y359), (0), M3, H', ⟨Nat.le_refl _⟩, ⟨by exact Kd.qR HO361.o⟩, ⟨by exact qB HB.o⟩⟩
 case round =>
  clear H'
  try clear c2
  try clear c2b0
  try clear c2b1
  try clear p2
  try clear c3
  try clear c3b0
  try clear c3b1
  obtain ⟨x3_1, x4_1, rfl, HA, HK1, HO_3, HB⟩ := hrel
  cases gk with
  | zero => exact absurd HA.o (by simp [laws_toLetterS.l0])
  | succ k1 =>
   have H := HA.o
   clear HA
   simp only [laws_toLetterS.l0] at H
   by_cases c6 : x4_1 < (l0.length : Int)
   rotate_left
   ·rw [if_neg c6] at H
    have c6b0 : decide (x4_1 < (l0.length : Int)) = false := decide_eq_false c6
    clear c6
    obtain rfl := Option.some.inj H
    go_wp2
    go_ret
    exact ⟨_, by first | rfl | (simp [errW_none, errW_some] <;> rfl) | (simp [*, errW_none, errW_some] <;> rfl), by exact Kd.qR HO_3.o, by exact qB HB.o⟩
   rw [if_pos c6] at H
   have c6b0 : decide (x4_1 < (l0.length : Int)) = true := decide_eq_true c6
   clear c6
   by_cases c7 : 0 ≤ x4_1
   rotate_left
   ·rw [if_neg c7] at H
    exact absurd H (by simp)
   rw [if_pos c7] at H
   have c7b0 : decide (0 ≤ x4_1) = true := decide_eq_true c7
   clear c7
   replace H := Option.bind_eq_some_iff.mp H
   obtain ⟨⟨t363, t364, t365⟩, A80, H⟩ := H
   try dsimp only at H
   have A8 := zK A80
   clear A80
   by_cases c9 : x4_1 < (x3_1.length : Int)
   rotate_left
   ·rw [if_neg c9] at H
    exact absurd H (by simp)
   rw [if_pos c9] at H
   have c9b0 : decide (x4_1 < (x3_1.length : Int)) = true := decide_eq_true c9
   clear c9
   obtain ⟨y366, hy366⟩ : ∃ y_ : List (S81), y_ = (x3_1.set (x4_1 : Int).toNat (⟨t363, t364, t365⟩ : S81)) := ⟨_, rfl⟩
   replace H : (laws_toLetterS.l0 k1 l0 y366 (wrap64 (x4_1 + 1))) = some r := by first | (rw [hy366]; with_reducible exact H) | (have H2_ := (Option.bind_some _ _).symm.trans H; rw [hy366]; with_reducible exact H2_) | (have H2_ := (Option.bind_some _ _).symm.trans H; with_reducible exact H2_) | with_reducible exact H | (rw [hy366]; exact H) | exact H
   have Ny366 := zK hy366
   clear hy366
   have H' := zK H
   clear H
   have p362 : 0 ≤ (x4_1 : Int) := oD M1
   have q362 : x4_1 < (l0.length : Int) := oD M1
   obtain ⟨ad362, e362, hx362_0, hx362_1, hx362_2⟩ := at_T173 HR0.o x4_1 p362 q362
   cases e362
   replace hx362_0 := cB HB.o hx362_0
   replace hx362_1 := cB HB.o hx362_1
   replace hx362_2 := cB HB.o hx362_2
   replace p362 := eq_true p362
   replace q362 := eq_true q362
   go_wp2_with (first | ((with_reducible refine gate_callee (f := 134) rfl ?_); refine goesL_ (some 20) rfl rfl Try.func134 (by kernel_rfl) rfl #[.agg #[.int .i64 ((rd_T173 l0 x4_1).f0), .int .i64 ((rd_T173 l0 x4_1).f1), .int .i64 ((rd_T173 l0 x4_1).f2)]] rfl M0 ?_; (with_reducible refine (laws_toLetter.calls ((rd_T173 l0 x4_1).f0) ((rd_T173 l0 x4_1).f1) ((rd_T173 l0 x4_1).f2) t363 t364 t365 _ A8.o).mono ?_); rintro e w11 ⟨rfl, hb⟩; refine ⟨_, rfl, ?_⟩; have _ := zK (Kd.R_below (Kd.qR HO_3.o) hb); have _ := zK (bT (qB HB.o) hb); clear HO_3 HB; rename_i HO_3 HB; (try clear hb); (try clear hb2); (try clear hk); (try clear hi); have p10 : 0 ≤ (x4_1 : Int) := oD M1; have q10 : (x4_1 : Int) < ((x3_1.length : Int) : Int) := oD M1; obtain ⟨go10, co10, eo10, gb10, gl10, cl10, HG10⟩ := Kd.R_form HO_3.o (by omega); (first | cases eo10 | (injection eo10 with ea_ en_ ec_; (first | subst ea_ | (injection ea_ with ea_; subst ea_)); subst ec_; clear en_)); have GB10 := zK gb10; have GG10 := zK HG10; clear gb10 gl10 HG10; obtain ⟨ce10, hcl10, hM10, hcc10, hfr10⟩ := Kd.R_elem HO_3.o z81 (x4_1 : Int) p10 q10; obtain rfl := k81_openM hM10; have hx10_0 : w11.cell? ⟨go10, (x4_1 : Int).toNat * 3, none⟩ = some (.int .i64 ((rd_T81 x3_1 x4_1).f0)) := hcc10 0 _ rfl; have hx10_1 : w11.cell? ⟨go10, (x4_1 : Int).toNat * 3 + 1, none⟩ = some (.int .i64 ((rd_T81 x3_1 x4_1).f1)) := hcc10 1 _ rfl; have hx10_2 : w11.cell? ⟨go10, (x4_1 : Int).toNat * 3 + 2, none⟩ = some (.int .i64 ((rd_T81 x3_1 x4_1).f2)) := hcc10 2 _ rfl; have hf10_0 : w11.frozen? ⟨go10, (x4_1 : Int).toNat * 3, none⟩ = false := hfr10 0; have hf10_1 : w11.frozen? ⟨go10, (x4_1 : Int).toNat * 3 + 1, none⟩ = false := hfr10 1; have hf10_2 : w11.frozen? ⟨go10, (x4_1 : Int).toNat * 3 + 2, none⟩ = false := hfr10 2; clear hcl10 hcc10 hfr10 hM10; replace p10 := eq_true p10; replace q10 := eq_true q10; have HX12 := zK (show Kd.R k81 81 w11 w.heap.size (fun _ => True) (.slice (some ⟨go10, 0, none⟩) x3_1.length co10) x3_1 from (Kd.qR HO_3.o)); obtain ⟨ce12, hcl12, hM12, hcc12, hfr12⟩ := Kd.R_elem HX12.o z81 (x4_1 : Int) (oD M1) (by have h_ : (x4_1 : Int) < ((x3_1.length : Int) : Int) := oD M1; first | exact h_ | (have e_ := (Kd.R_reads' HO_3.o).1; omega) | simpa using h_); obtain rfl := k81_openM hM12; have HP12 := Kd.R_seg HX12.o (x4_1 : Int) (oD M1) (by have h_ : (x4_1 : Int) < ((x3_1.length : Int) : Int) := oD M1; first | exact h_ | (have e_ := (Kd.R_reads' HO_3.o).1; omega) | simpa using h_) (seg := [.int .i64 t363, .int .i64 t364, .int .i64 t365]) (j := 0) hcl12 hcc12 (show 3 ≤ 3 from by decide) (x' := (⟨t363, t364, t365⟩ : S81)) (k81_mkM _ _ _ (⟨t363, t364, t365⟩ : S81) ) (fun _ hk => hk); have hx12_0 := hcc12 0 _ rfl; (try simp only [show (k81).sz = 3 from rfl, Nat.mul_one, Nat.add_zero] at hx12_0); have hf12_0 := hfr12 0; (try simp only [show (k81).sz = 3 from rfl, Nat.mul_one, Nat.add_zero] at hf12_0); have hx12_1 := hcc12 1 _ rfl; (try simp only [show (k81).sz = 3 from rfl, Nat.mul_one, Nat.add_zero] at hx12_1); have hf12_1 := hfr12 1; (try simp only [show (k81).sz = 3 from rfl, Nat.mul_one, Nat.add_zero] at hf12_1); have hx12_2 := hcc12 2 _ rfl; (try simp only [show (k81).sz = 3 from rfl, Nat.mul_one, Nat.add_zero] at hx12_2); have hf12_2 := hfr12 2; (try simp only [show (k81).sz = 3 from rfl, Nat.mul_one, Nat.add_zero] at hf12_2); clear hcl12 hcc12 hfr12 hM12) | ((with_reducible refine gate_store (t := 81) (p := 21) rfl ?_); refine store_event (t := 81) (p := 21) (v := ?vo_w13) (w1 := (((w11.setCell ⟨go10, (x4_1 : Int).toNat * 3, none⟩ (.int .i64 t363)).setCell ⟨go10, (x4_1 : Int).toNat * 3 + 1, none⟩ (.int .i64 t364)).setCell ⟨go10, (x4_1 : Int).toNat * 3 + 2, none⟩ (.int .i64 t365))) ?hg ?ho ?hn ?hr ?_; (case ho => rfl); (case hg => rfl); (case hn => rfl); (case hr => first | (go_simp; done) | (go_simp; rfl)); intro w13 hw; have hg : w11.grownBy w13 (some go10) := (by rw [hw]; exact HP12.2); have hp_ : Kd.R k81 81 w13 w.heap.size (fun _ => True) (.slice (some ⟨go10, 0, none⟩) x3_1.length co10) y366 := (by rw [hw, Ny366.o]; exact HP12.1); clear HP12; have _ := zK (hp_); have _ := zK ((by rw [hw]; exact bS (bS (bS (HB.o) GB10.o) GB10.o) GB10.o : Below w.heap.size w w13)); clear HO_3 HB; rename_i HO_3 HB; clear hg hw hp_))
   go_roundg k1
   case measure => have := HK1.o; omega
   case rel => exact ⟨(y366), (wrap64 (x4_1 + 1)), M3, H', ⟨by have := HK1.o; omega⟩, ⟨by exact Kd.qR HO_3.o⟩, ⟨by exact qB HB.o⟩⟩
/-! ### laws_toIntS: function 43 -/
def laws_toIntS.l0 : Nat → List Int → List Int → Int → Option (List Int)
 | 0, _, _, _ => none
 | k + 1, x0, x3, x4 => if x4 < (x0.length : Int) then (if 0 ≤ x4 then (if x4 < (x3.length : Int) then (laws_toIntS.l0 k x0 (x3.set (x4 : Int).toNat (rd x0 x4)) (wrap64 (x4 + 1))) else (none)) else (none)) else (some x3)
def laws_toIntS.f (k : Nat) (l0 : List Int) : Option (List Int) := if 0 ≤ (l0.length : Int) then (if ((l0.length : Int) : Int).toNat ≤ 35184372088832 then (laws_toIntS.l0 k l0 (List.replicate ((l0.length : Int) : Int).toNat 0) 0) else (none)) else (none)
set_option maxHeartbeats 8000000 in
set_option maxRecDepth 100000 in
theorem laws_toIntS.calls (k : Nat) (A0 : Option Addr) (c0 : Nat) (l0 : List Int) (r : List Int) (w : World) (hr0 : Kd.C (Kd.int .i64) w A0 l0.length l0) (hc0 : l0.length ≤ c0) (h : laws_toIntS.f k l0 = some r) :
  Calls Try.prog 43 #[.slice A0 l0.length c0] w fun e w' => ∃ v0_ : Value, e = .returned (v0_) ∧ Kd.R (Kd.int .i64) 3 w' w.heap.size (fun _ => True) v0_ r ∧ Below w.heap.size w w' := by
 have HR0 := zK hr0
 have HC0 := zK hc0
 clear hr0 hc0
 have HB := zK (Below.refl w.heap.size w)
 have H : (if 0 ≤ (l0.length : Int) then (if ((l0.length : Int) : Int).toNat ≤ 35184372088832 then (laws_toIntS.l0 k l0 (List.replicate ((l0.length : Int) : Int).toNat 0) 0) else (none)) else (none)) = some r := h
 clear h
 by_cases c2 : 0 ≤ (l0.length : Int)
 rotate_left
 ·rw [if_neg c2] at H
  exact absurd H (by simp)
 rw [if_pos c2] at H
 have c2b0 := eq_true c2
 have c2b1 : decide (0 ≤ (l0.length : Int)) = true := decide_eq_true c2
 clear c2
 by_cases c3 : ((l0.length : Int) : Int).toNat ≤ 35184372088832
 rotate_left
 ·rw [if_neg c3] at H
  exact absurd H (by simp)
 rw [if_pos c3] at H
 have c3b0 := eq_true c3
 have c3b1 : decide (((l0.length : Int) : Int).toNat ≤ 35184372088832) = true := decide_eq_true c3
 clear c3
 obtain ⟨y367, hy367⟩ : ∃ y_ : List Int, y_ = (List.replicate ((l0.length : Int) : Int).toNat 0) := ⟨_, rfl⟩
 replace H : (laws_toIntS.l0 k l0 y367 0) = some r := by first | (rw [hy367]; with_reducible exact H) | (have H2_ := (Option.bind_some _ _).symm.trans H; rw [hy367]; with_reducible exact H2_) | (have H2_ := (Option.bind_some _ _).symm.trans H; with_reducible exact H2_) | with_reducible exact H | (rw [hy367]; exact H) | exact H
 have Ny367 := zK hy367
 clear hy367
 have H' := zK H
 clear H
 go_enter Try.func43, Try.ntmps43
 go_wp2_with (first | ((with_reducible refine gate_dst (N := 7) rfl ?_); refine Kd.R_make (Kd.int .i64) _ 3 rfl (N := 7) rfl 30 _ _ rfl (l0.length : Int) rfl rfl Try.underlying30 (.int .i64 0) 8 info3 rfl (by decide) (by omega) 0 (ok := fun _ => True) (okp := fun _ => True) rfl (fun _ hk => hk) trivial (oD M1) (Nat.le_trans (Nat.mul_le_mul_right _ (oD M1 : (l0.length : Int).toNat ≤ 35184372088832)) (by omega)) (Below.refl _ _) (Nat.le_refl _) ?_; intro v368 w4 ho5 hb hg_ hnew_; clear hg_ hnew_; (first | rw [← Ny367.o] at ho5 | (simp only [Int.reduceToNat] at ho5; rw [← Ny367.o] at ho5)); have _ := zK (Kd.R_lower ho5 (bZ (qB HB.o))); have _ := zK (bT (qB HB.o) hb); clear HB; rename_i HO369 HB; clear hb ho5))
 go_loopg [4] k (fun kq v4 w' => ∃ (x3_1 : List Int) (x4_1 : Int), v4 = .int .i64 x4_1 ∧ Aside0 (laws_toIntS.l0 kq l0 x3_1 x4_1 = some r) ∧ Aside0 (kq ≤ k) ∧ Aside0 (Kd.R (Kd.int .i64) 3 w' w.heap.size (fun _ => True) v368 x3_1) ∧ Aside0 (Below w.heap.size w w'))
 case atStart => exact ⟨(y367), (0), M3, H', ⟨Nat.le_refl _⟩, ⟨by exact Kd.qR HO369.o⟩, ⟨by exact qB HB.o⟩⟩
 case round =>
  clear H'
  try clear c2
  try clear c2b0
  try clear c2b1
  try clear p2
  try clear c3
  try clear c3b0
  try clear c3b1
  try clear c4
  obtain ⟨x3_1, x4_1, rfl, HA, HK1, HO_3, HB⟩ := hrel
  cases gk with
  | zero => exact absurd HA.o (by simp [laws_toIntS.l0])
  | succ k1 =>
   have H := HA.o
   clear HA
   simp only [laws_toIntS.l0] at H
   by_cases c6 : x4_1 < (l0.length : Int)
   rotate_left
   ·rw [if_neg c6] at H
    have c6b0 : decide (x4_1 < (l0.length : Int)) = false := decide_eq_false c6
    clear c6
    obtain rfl := Option.some.inj H
    go_wp2
    go_ret
    exact ⟨_, by first | rfl | (simp [errW_none, errW_some] <;> rfl) | (simp [*, errW_none, errW_some] <;> rfl), by exact Kd.qR HO_3.o, by exact qB HB.o⟩
   rw [if_pos c6] at H
   have c6b0 : decide (x4_1 < (l0.length : Int)) = true := decide_eq_true c6
   clear c6
   by_cases c7 : 0 ≤ x4_1
   rotate_left
   ·rw [if_neg c7] at H
    exact absurd H (by simp)
   rw [if_pos c7] at H
   have c7b0 : decide (0 ≤ x4_1) = true := decide_eq_true c7
   clear c7
   by_cases c8 : x4_1 < (x3_1.length : Int)
   rotate_left
   ·rw [if_neg c8] at H
    exact absurd H (by simp)
   rw [if_pos c8] at H
   have c8b0 : decide (x4_1 < (x3_1.length : Int)) = true := decide_eq_true c8
   clear c8
   obtain ⟨y371, hy371⟩ : ∃ y_ : List Int, y_ = (x3_1.set (x4_1 : Int).toNat (rd l0 x4_1)) := ⟨_, rfl⟩
   replace H : (laws_toIntS.l0 k1 l0 y371 (wrap64 (x4_1 + 1))) = some r := by first | (rw [hy371]; with_reducible exact H) | (have H2_ := (Option.bind_some _ _).symm.trans H; rw [hy371]; with_reducible exact H2_) | (have H2_ := (Option.bind_some _ _).symm.trans H; with_reducible exact H2_) | with_reducible exact H | (rw [hy371]; exact H) | exact H
   have Ny371 := zK hy371
   clear hy371
   have H' := zK H
   clear H
   have p370 : 0 ≤ (x4_1 : Int) := oD M1
   have q370 : x4_1 < (l0.length : Int) := oD M1
   obtain ⟨ad370, e370, hx370_0⟩ := Kd.at_int HR0.o x4_1 p370 q370
   cases e370
   replace hx370_0 := cB HB.o hx370_0
   replace p370 := eq_true p370
   replace q370 := eq_true q370
   have p9 : 0 ≤ (x4_1 : Int) := oD M1
   have q9 : (x4_1 : Int) < ((x3_1.length : Int) : Int) := oD M1
   obtain ⟨go9, co9, eo9, gb9, gl9, cl9, HG9⟩ := Kd.R_form HO_3.o (by omega)
   (first | cases eo9 | (injection eo9 with ea_ en_ ec_; (first | subst ea_ | (injection ea_ with ea_; subst ea_)); subst ec_; clear en_))
   have GB9 := zK gb9
   have GG9 := zK HG9
   clear gb9 gl9 HG9
   obtain ⟨hx9_0, hf9_0⟩ := Kd.R_celln 0 HO_3.o (x4_1 : Int) p9 q9
   replace p9 := eq_true p9
   replace q9 := eq_true q9
   have HP10 := Kd.R_putg HO_3.o (x4_1 : Int) (rd l0 x4_1)
   go_wp2_with (first | ((with_reducible refine gate_store (t := 3) (p := 20) rfl ?_); refine store_event (t := 3) (p := 20) (v := ?vo_w11) (w1 := (wr.setCell ⟨go9, (x4_1 : Int).toNat, none⟩ (.int .i64 (rd l0 x4_1)))) ?hg ?ho ?hn ?hr ?_; (case ho => rfl); (case hg => rfl); (case hn => rfl); (case hr => first | (go_simp; done) | (go_simp; rfl)); intro w11 hw; have hg : wr.grownBy w11 (some go9) := (by rw [hw]; exact HP10.2); have hp_ : Kd.R (Kd.int .i64) 3 w11 w.heap.size (fun _ => True) (.slice (some ⟨go9, 0, none⟩) x3_1.length co9) y371 := (by rw [hw, Ny371.o]; exact HP10.1); clear HP10; have _ := zK (hp_); have _ := zK ((by rw [hw]; exact bS (HB.o) GB9.o : Below w.heap.size w w11)); clear HO_3 HB; rename_i HO_3 HB; clear hg hw hp_))
   go_roundg k1
   case measure => have := HK1.o; omega
   case rel => exact ⟨(y371), (wrap64 (x4_1 + 1)), M3, H', ⟨by have := HK1.o; omega⟩, ⟨by exact Kd.qR HO_3.o⟩, ⟨by exact qB HB.o⟩⟩
/-! ### laws_toSpan: function 179 -/
def laws_toSpan.f (a0_0 : Int) (a0_1 : Int) : Option (Int × Int) := some (a0_0, a0_1)
set_option maxHeartbeats 8000000 in
set_option maxRecDepth 100000 in
theorem laws_toSpan.calls (a0_0 : Int) (a0_1 : Int) (r1 : Int) (r2 : Int) (w : World) (h : laws_toSpan.f a0_0 a0_1 = some (r1, r2)) :
  Calls Try.prog 179 #[.agg #[.int .i64 a0_0, .int .i64 a0_1]] w fun e w' => e = .returned (.agg #[.int .i64 r1, .int .i64 r2]) ∧ Below w.heap.size w w' := by
 have hu169 := Try.underlying169
 have hu85 := Try.underlying85
 have HB := zK (Below.refl w.heap.size w)
 have H : (some (a0_0, a0_1)) = some (r1, r2) := h
 clear h
 simp only [Option.some.injEq, Prod.mk.injEq] at H
 obtain ⟨rfl, rfl⟩ := H
 go_enter Try.func179, Try.ntmps179
 go_wp2_with (first | ((with_reducible refine gate_dst (N := 1) rfl ?_); refine box_event ?hg (N := 1) ?hd (cs := #[.int .i64 a0_0, .int .i64 a0_1]) (t := 169) ?hr ?_; (case hd => rfl); (case hg => rfl); (case hr => first | (go_simp; done) | (go_simp; rfl)); intro gb372 hg w2 hbox hb; have _ := zK (bT (qB HB.o) hb); have _ := zK (hbox); have _ := zK ((by rw [hg]; exact (bZ (qB HB.o)) : w.heap.size ≤ gb372)); have _ := zK ((by rw [hg]; exact (bZ (qB HB.o)) : w.heap.size ≤ gb372)); clear HB; rename_i HB BK372 GW372 GE372; clear hb hbox hg) | ((with_reducible refine gate_dst (N := 2) rfl ?_); refine box_event ?hg (N := 2) ?hd (cs := #[.int .i64 0, .int .i64 0]) (t := 85) ?hr ?_; (case hd => rfl); (case hg => rfl); (case hr => first | (go_simp; done) | (go_simp; rfl)); intro gb373 hg w3 hbox hb; have _ := zK (bB (qK BK372.o) hb); have _ := zK (bT (qX HB.o) hb); have _ := zK (hbox); have _ := zK ((by rw [hg]; exact (bZ (qX HB.o)) : w.heap.size ≤ gb373)); have _ := zK ((by rw [hg]; exact (bZ (qX HB.o)) : w.heap.size ≤ gb373)); have _ := zK ((by rw [hg]; exact Nat.ne_of_lt (blk_lt (qK BK372.o)) : gb372 ≠ gb373)); have _ := zK ((by rw [hg]; exact Nat.ne_of_gt (blk_lt (qK BK372.o)) : gb373 ≠ gb372)); clear BK372 HB; rename_i BK372 HB BK373 GW373 GE373 NB372_373 NB373_372; clear hb hbox hg) | ((with_reducible refine gate_dst (N := 3) rfl ?_); refine box_event ?hg (N := 3) ?hd (cs := #[.int .i64 0, .int .i64 0]) (t := 85) ?hr ?_; (case hd => rfl); (case hg => rfl); (case hr => first | (go_simp; done) | (go_simp; rfl)); intro gb374 hg w4 hbox hb; have _ := zK (bB (qK BK372.o) hb); have _ := zK (bB (qK BK373.o) hb); have _ := zK (bT (qX HB.o) hb); have _ := zK (hbox); have _ := zK ((by rw [hg]; exact (bZ (qX HB.o)) : w.heap.size ≤ gb374)); have _ := zK ((by rw [hg]; exact (bZ (qX HB.o)) : w.heap.size ≤ gb374)); have _ := zK ((by rw [hg]; exact Nat.ne_of_lt (blk_lt (qK BK372.o)) : gb372 ≠ gb374)); have _ := zK ((by rw [hg]; exact Nat.ne_of_gt (blk_lt (qK BK372.o)) : gb374 ≠ gb372)); have _ := zK ((by rw [hg]; exact Nat.ne_of_lt (blk_lt (qK BK373.o)) : gb373 ≠ gb374)); have _ := zK ((by rw [hg]; exact Nat.ne_of_gt (blk_lt (qK BK373.o)) : gb374 ≠ gb373)); clear BK372 BK373 HB; rename_i BK372 BK373 HB BK374 GW374 GE374 NB372_374 NB374_372 NB373_374 NB374_373; clear hb hbox hg; have hnb5 := NB372_373.o; have hnc5 := NB373_372.o; have hnb6 := NB372_374.o; have hnc6 := NB374_372.o; obtain ⟨hcz7_0, hcz7_1, hfz7_0, hfz7_1⟩ := bx2 BK372.o; have hnb8 := NB374_373.o; have hnc8 := NB373_374.o; obtain ⟨hcz9_0, hcz9_1, hfz9_0, hfz9_1⟩ := bx2 BK374.o; obtain ⟨hcz10_0, hcz10_1, hfz10_0, hfz10_1⟩ := bx2 BK373.o))
 refine bodyPost_ret (results_cell_row rfl _ _ gb373 85 #[.int .i64 a0_0, .int .i64 a0_1] (0, 0) _ rfl (by (with_reducible repeat (first | refine kN ?_ _ | refine kD ?_ | refine kA ?_ _)); refine blk_put (cs := #[.int .i64 a0_0, .int .i64 0]) ?_ 1 _ rfl; (with_reducible repeat (first | refine kN ?_ _ | refine kD ?_ | refine kA ?_ _)); refine blk_put (cs := #[.int .i64 0, .int .i64 0]) ?_ 0 _ rfl; (with_reducible repeat (first | refine kN ?_ _ | refine kD ?_ | refine kA ?_ _)); refine blk_far ?_ NB373_374.o _; (with_reducible repeat (first | refine kN ?_ _ | refine kD ?_ | refine kA ?_ _)); refine blk_far ?_ NB373_374.o _; exact qK BK373.o) Try.underlying85 rfl (by kernel_rfl)) rfl ?_
 exact ⟨by first | rfl | (simp [errW_none, errW_some] <;> rfl) | (simp [*, errW_none, errW_some] <;> rfl), by exact qX HB.o⟩
/-! ### laws_toReport: function 135 -/
def laws_toReport.f (k : Nat) (a0_0 : Int) (a0_1 : Int) (l0_2 : List Int) (a0_3 : Int) (a0_4 : Int) (l0_5 : List Int) (a0_6 : Int) (a0_7 : Int) : Option (Int × Int × List Int × Int × Int × List Int × Int × Int) := (laws_toIntS.f k l0_2).bind fun t378 => ((laws_toIntS.f k l0_5).bind fun t381 => ((laws_toSpan.f a0_6 a0_7).bind fun bt384 => (some (a0_0, a0_1, t378, a0_3, a0_4, t381, bt384.1, bt384.2))))
set_option maxHeartbeats 8000000 in
set_option maxRecDepth 100000 in
theorem laws_toReport.calls (k : Nat) (a0_0 : Int) (a0_1 : Int) (A0_2 : Option Addr) (c0_2 : Nat) (l0_2 : List Int) (a0_3 : Int) (a0_4 : Int) (A0_5 : Option Addr) (c0_5 : Nat) (l0_5 : List Int) (a0_6 : Int) (a0_7 : Int) (r1 : Int) (r2 : Int) (r3 : List Int) (r4 : Int) (r5 : Int) (r6 : List Int) (r7 : Int) (r8 : Int) (w : World) (hr0_2 : Kd.C (Kd.int .i64) w A0_2 l0_2.length l0_2) (hc0_2 : l0_2.length ≤ c0_2) (hr0_5 : Kd.C (Kd.int .i64) w A0_5 l0_5.length l0_5) (hc0_5 : l0_5.length ≤ c0_5) (h : laws_toReport.f k a0_0 a0_1 l0_2 a0_3 a0_4 l0_5 a0_6 a0_7 = some (r1, r2, r3, r4, r5, r6, r7, r8)) :
  Calls Try.prog 135 #[.agg #[.int .i64 a0_0, .int .i64 a0_1, .slice A0_2 l0_2.length c0_2, .int .i64 a0_3, .int .i64 a0_4, .slice A0_5 l0_5.length c0_5, .int .i64 a0_6, .int .i64 a0_7]] w fun e w' => ∃ v2_ v5_ : Value, e = .returned (.agg #[.int .i64 r1, .int .i64 r2, v2_, .int .i64 r4, .int .i64 r5, v5_, .int .i64 r7, .int .i64 r8]) ∧ Kd.R (Kd.int .i64) 3 w' w.heap.size (fun k_ => some k_ ≠ (v5_ : Value).ownBlock) v2_ r3 ∧ Kd.R (Kd.int .i64) 3 w' w.heap.size (fun k_ => some k_ ≠ (v2_ : Value).ownBlock) v5_ r6 ∧ Below w.heap.size w w' := by
 have hu171 := Try.underlying171
 have hu87 := Try.underlying87
 have hu169 := Try.underlying169
 have hu85 := Try.underlying85
 have HR0_2 := zK hr0_2
 have HC0_2 := zK hc0_2
 clear hr0_2 hc0_2
 have HR0_5 := zK hr0_5
 have HC0_5 := zK hc0_5
 clear hr0_5 hc0_5
 have HB := zK (Below.refl w.heap.size w)
 have H : ((laws_toIntS.f k l0_2).bind fun t378 => ((laws_toIntS.f k l0_5).bind fun t381 => ((laws_toSpan.f a0_6 a0_7).bind fun bt384 => (some (a0_0, a0_1, t378, a0_3, a0_4, t381, bt384.1, bt384.2))))) = some (r1, r2, r3, r4, r5, r6, r7, r8) := h
 clear h
 replace H := Option.bind_eq_some_iff.mp H
 obtain ⟨t378, A20, H⟩ := H
 try dsimp only at H
 have A2 := zK A20
 clear A20
 replace H := Option.bind_eq_some_iff.mp H
 obtain ⟨t381, A30, H⟩ := H
 try dsimp only at H
 have A3 := zK A30
 clear A30
 replace H := Option.bind_eq_some_iff.mp H
 obtain ⟨⟨t384, t385⟩, A40, H⟩ := H
 try dsimp only at H
 have A4 := zK A40
 clear A40
 simp only [Option.some.injEq, Prod.mk.injEq] at H
 obtain ⟨rfl, rfl, rfl, rfl, rfl, rfl, rfl, rfl⟩ := H
 go_enter Try.func135, Try.ntmps135
 go_wp2_with (first | ((with_reducible refine gate_dst (N := 1) rfl ?_); refine box_event ?hg (N := 1) ?hd (cs := #[.int .i64 a0_0, .int .i64 a0_1, .slice A0_2 l0_2.length c0_2, .int .i64 a0_3, .int .i64 a0_4, .slice A0_5 l0_5.length c0_5, .int .i64 a0_6, .int .i64 a0_7]) (t := 171) ?hr ?_; (case hd => rfl); (case hg => rfl); (case hr => first | (go_simp; done) | (go_simp; rfl)); intro gb375 hg w5 hbox hb; have _ := zK (bT (qB HB.o) hb); have _ := zK (hbox); have _ := zK ((by rw [hg]; exact (bZ (qB HB.o)) : w.heap.size ≤ gb375)); have _ := zK ((by rw [hg]; exact (bZ (qB HB.o)) : w.heap.size ≤ gb375)); clear HB; rename_i HB BK375 GW375 GE375; clear hb hbox hg) | ((with_reducible refine gate_dst (N := 2) rfl ?_); refine box_event ?hg (N := 2) ?hd (cs := #[.int .i64 0, .int .i64 0, .slice none 0 0, .int .i64 0, .int .i64 0, .slice none 0 0, .int .i64 0, .int .i64 0]) (t := 87) ?hr ?_; (case hd => rfl); (case hg => rfl); (case hr => first | (go_simp; done) | (go_simp; rfl)); intro gb376 hg w6 hbox hb; have _ := zK (bB (qK BK375.o) hb); have _ := zK (bT (qX HB.o) hb); have _ := zK (hbox); have _ := zK ((by rw [hg]; exact (bZ (qX HB.o)) : w.heap.size ≤ gb376)); have _ := zK ((by rw [hg]; exact (bZ (qX HB.o)) : w.heap.size ≤ gb376)); have _ := zK ((by rw [hg]; exact Nat.ne_of_lt (blk_lt (qK BK375.o)) : gb375 ≠ gb376)); have _ := zK ((by rw [hg]; exact Nat.ne_of_gt (blk_lt (qK BK375.o)) : gb376 ≠ gb375)); clear BK375 HB; rename_i BK375 HB BK376 GW376 GE376 NB375_376 NB376_375; clear hb hbox hg) | ((with_reducible refine gate_dst (N := 3) rfl ?_); refine box_event ?hg (N := 3) ?hd (cs := #[.int .i64 0, .int .i64 0, .slice none 0 0, .int .i64 0, .int .i64 0, .slice none 0 0, .int .i64 0, .int .i64 0]) (t := 87) ?hr ?_; (case hd => rfl); (case hg => rfl); (case hr => first | (go_simp; done) | (go_simp; rfl)); intro gb377 hg w7 hbox hb; have _ := zK (bB (qK BK375.o) hb); have _ := zK (bB (qK BK376.o) hb); have _ := zK (bT (qX HB.o) hb); have _ := zK (hbox); have _ := zK ((by rw [hg]; exact (bZ (qX HB.o)) : w.heap.size ≤ gb377)); have _ := zK ((by rw [hg]; exact (bZ (qX HB.o)) : w.heap.size ≤ gb377)); have _ := zK ((by rw [hg]; exact Nat.ne_of_lt (blk_lt (qK BK375.o)) : gb375 ≠ gb377)); have _ := zK ((by rw [hg]; exact Nat.ne_of_gt (blk_lt (qK BK375.o)) : gb377 ≠ gb375)); have _ := zK ((by rw [hg]; exact Nat.ne_of_lt (blk_lt (qK BK376.o)) : gb376 ≠ gb377)); have _ := zK ((by rw [hg]; exact Nat.ne_of_gt (blk_lt (qK BK376.o)) : gb377 ≠ gb376)); clear BK375 BK376 HB; rename_i BK375 BK376 HB BK377 GW377 GE377 NB375_377 NB377_375 NB376_377 NB377_376; clear hb hbox hg; have hnb8 := NB375_376.o; have hnc8 := NB376_375.o; have hnb9 := NB375_377.o; have hnc9 := NB377_375.o; obtain ⟨hcz10_0, hcz10_1, hcz10_2, hcz10_3, hcz10_4, hcz10_5, hcz10_6, hcz10_7, hfz10_0, hfz10_1, hfz10_2, hfz10_3, hfz10_4, hfz10_5, hfz10_6, hfz10_7⟩ := bx8 BK375.o; have hnb11 := NB377_376.o; have hnc11 := NB376_377.o; obtain ⟨hcz12_0, hcz12_1, hcz12_2, hcz12_3, hcz12_4, hcz12_5, hcz12_6, hcz12_7, hfz12_0, hfz12_1, hfz12_2, hfz12_3, hfz12_4, hfz12_5, hfz12_6, hfz12_7⟩ := bx8 BK377.o) | ((with_reducible refine gate_callee (f := 43) rfl ?_); refine goesL_ (some 12) rfl rfl Try.func43 (by kernel_rfl) rfl #[.slice A0_2 l0_2.length c0_2] rfl M0 ?_; (with_reducible refine (laws_toIntS.calls k _ _ l0_2 t378 _ ?side1 ?side2 A2.o).mono ?_); (case side1 => exact Kd.C_below HR0_2.o M19); (case side2 => exact HC0_2.o); rintro e w13 ⟨v379, rfl, ho0, hb⟩; refine ⟨_, rfl, ?_⟩; have _ := zK (Kd.R_lower ho0 (bZ M19)); have _ := zK (bB (g := gb375) (o := .cells #[.int .i64 a0_0, .int .i64 a0_1, .slice A0_2 l0_2.length c0_2, .int .i64 a0_3, .int .i64 a0_4, .slice A0_5 l0_5.length c0_5, .int .i64 a0_6, .int .i64 a0_7] 171 (0, 0)) (by (with_reducible repeat (first | refine kN ?_ _ | refine kD ?_ | refine kA ?_ _)); refine blk_far ?_ NB375_377.o _; (with_reducible repeat (first | refine kN ?_ _ | refine kD ?_ | refine kA ?_ _)); refine blk_far ?_ NB375_377.o _; exact qK BK375.o) hb); have _ := zK (bB (g := gb376) (o := .cells #[.int .i64 0, .int .i64 0, .slice none 0 0, .int .i64 0, .int .i64 0, .slice none 0 0, .int .i64 0, .int .i64 0] 87 (0, 0)) (by (with_reducible repeat (first | refine kN ?_ _ | refine kD ?_ | refine kA ?_ _)); refine blk_far ?_ NB376_377.o _; (with_reducible repeat (first | refine kN ?_ _ | refine kD ?_ | refine kA ?_ _)); refine blk_far ?_ NB376_377.o _; exact qK BK376.o) hb); have _ := zK (bB (g := gb377) (o := .cells #[.int .i64 a0_0, .int .i64 a0_1, .slice none 0 0, .int .i64 0, .int .i64 0, .slice none 0 0, .int .i64 0, .int .i64 0] 87 (0, 0)) (by (with_reducible repeat (first | refine kN ?_ _ | refine kD ?_ | refine kA ?_ _)); refine blk_put (cs := #[.int .i64 a0_0, .int .i64 0, .slice none 0 0, .int .i64 0, .int .i64 0, .slice none 0 0, .int .i64 0, .int .i64 0]) ?_ 1 _ rfl; (with_reducible repeat (first | refine kN ?_ _ | refine kD ?_ | refine kA ?_ _)); refine blk_put (cs := #[.int .i64 0, .int .i64 0, .slice none 0 0, .int .i64 0, .int .i64 0, .slice none 0 0, .int .i64 0, .int .i64 0]) ?_ 0 _ rfl; exact qK BK377.o) hb); have _ := zK (bT M19 hb); clear BK375 BK376 BK377 HB; rename_i HO380 BK375 BK376 BK377 HB; (try clear hb); (try clear hb2); (try clear hk); (try clear hi); (try clear ho0); obtain ⟨Ao14, co14, eo14⟩ := Kd.R_slice HO380.o; subst eo14; obtain ⟨hcz15_0, hcz15_1, hcz15_2, hcz15_3, hcz15_4, hcz15_5, hcz15_6, hcz15_7, hfz15_0, hfz15_1, hfz15_2, hfz15_3, hfz15_4, hfz15_5, hfz15_6, hfz15_7⟩ := bx8 BK377.o; obtain ⟨hcz16_0, hcz16_1, hcz16_2, hcz16_3, hcz16_4, hcz16_5, hcz16_6, hcz16_7, hfz16_0, hfz16_1, hfz16_2, hfz16_3, hfz16_4, hfz16_5, hfz16_6, hfz16_7⟩ := bx8 BK375.o) | ((with_reducible refine gate_callee (f := 43) rfl ?_); refine goesL_ (some 22) rfl rfl Try.func43 (by kernel_rfl) rfl #[.slice A0_5 l0_5.length c0_5] rfl M0 ?_; (with_reducible refine (laws_toIntS.calls k _ _ l0_5 t381 _ ?side1 ?side2 A3.o).mono ?_); (case side1 => exact Kd.C_below HR0_5.o M19); (case side2 => exact HC0_5.o); rintro e w17 ⟨v382, rfl, ho0, hb⟩; refine ⟨_, rfl, ?_⟩; have _ := zK (Kd.R_elder' (by (with_reducible repeat (first | apply Kd.RA | apply Kd.RN | apply Kd.RD)); exact (Kd.R_mono (Kd.R_far (p := ⟨gb377, 4, none⟩) (Kd.R_far (p := ⟨gb377, 3, none⟩) (Kd.R_far (p := ⟨gb377, 2, none⟩) (Kd.R_types HO380.o BK377.o (by decide)) (fun _ hk => hk.2) (.slice Ao14 t378.length co14)) (fun _ hk => hk.2) (.int .i64 a0_3)) (fun _ hk => hk.2) (.int .i64 a0_4)) (fun _ h_ => h_.1))) (Kd.R_base ho0) hb); have _ := zK (Kd.R_lower (Kd.R_new' ho0 (Kd.R_lt (by (with_reducible repeat (first | apply Kd.RA | apply Kd.RN | apply Kd.RD)); exact (Kd.R_mono (Kd.R_far (p := ⟨gb377, 4, none⟩) (Kd.R_far (p := ⟨gb377, 3, none⟩) (Kd.R_far (p := ⟨gb377, 2, none⟩) (Kd.R_types HO380.o BK377.o (by decide)) (fun _ hk => hk.2) (.slice Ao14 t378.length co14)) (fun _ hk => hk.2) (.int .i64 a0_3)) (fun _ hk => hk.2) (.int .i64 a0_4)) (fun _ h_ => h_.1))))) (bZ M19)); have _ := zK (bB (g := gb375) (o := .cells #[.int .i64 a0_0, .int .i64 a0_1, .slice A0_2 l0_2.length c0_2, .int .i64 a0_3, .int .i64 a0_4, .slice A0_5 l0_5.length c0_5, .int .i64 a0_6, .int .i64 a0_7] 171 (0, 0)) (by (with_reducible repeat (first | refine kN ?_ _ | refine kD ?_ | refine kA ?_ _)); refine blk_far ?_ NB375_377.o _; (with_reducible repeat (first | refine kN ?_ _ | refine kD ?_ | refine kA ?_ _)); refine blk_far ?_ NB375_377.o _; (with_reducible repeat (first | refine kN ?_ _ | refine kD ?_ | refine kA ?_ _)); refine blk_far ?_ NB375_377.o _; exact qK BK375.o) hb); have _ := zK (bB (g := gb376) (o := .cells #[.int .i64 0, .int .i64 0, .slice none 0 0, .int .i64 0, .int .i64 0, .slice none 0 0, .int .i64 0, .int .i64 0] 87 (0, 0)) (by (with_reducible repeat (first | refine kN ?_ _ | refine kD ?_ | refine kA ?_ _)); refine blk_far ?_ NB376_377.o _; (with_reducible repeat (first | refine kN ?_ _ | refine kD ?_ | refine kA ?_ _)); refine blk_far ?_ NB376_377.o _; (with_reducible repeat (first | refine kN ?_ _ | refine kD ?_ | refine kA ?_ _)); refine blk_far ?_ NB376_377.o _; exact qK BK376.o) hb); have _ := zK (bB (g := gb377) (o := .cells #[.int .i64 a0_0, .int .i64 a0_1, .slice Ao14 t378.length co14, .int .i64 a0_3, .int .i64 a0_4, .slice none 0 0, .int .i64 0, .int .i64 0] 87 (0, 0)) (by (with_reducible repeat (first | refine kN ?_ _ | refine kD ?_ | refine kA ?_ _)); refine blk_put (cs := #[.int .i64 a0_0, .int .i64 a0_1, .slice Ao14 t378.length co14, .int .i64 a0_3, .int .i64 0, .slice none 0 0, .int .i64 0, .int .i64 0]) ?_ 4 _ rfl; (with_reducible repeat (first | refine kN ?_ _ | refine kD ?_ | refine kA ?_ _)); refine blk_put (cs := #[.int .i64 a0_0, .int .i64 a0_1, .slice Ao14 t378.length co14, .int .i64 0, .int .i64 0, .slice none 0 0, .int .i64 0, .int .i64 0]) ?_ 3 _ rfl; (with_reducible repeat (first | refine kN ?_ _ | refine kD ?_ | refine kA ?_ _)); refine blk_put (cs := #[.int .i64 a0_0, .int .i64 a0_1, .slice none 0 0, .int .i64 0, .int .i64 0, .slice none 0 0, .int .i64 0, .int .i64 0]) ?_ 2 _ rfl; exact qK BK377.o) hb); have _ := zK (bT M19 hb); clear HO380 BK375 BK376 BK377 HB; rename_i HO380 HO383 BK375 BK376 BK377 HB; (try clear hb); (try clear hb2); (try clear hk); (try clear hi); (try clear ho0); obtain ⟨Ao18, co18, eo18⟩ := Kd.R_slice HO383.o; subst eo18; obtain ⟨hcz19_0, hcz19_1, hcz19_2, hcz19_3, hcz19_4, hcz19_5, hcz19_6, hcz19_7, hfz19_0, hfz19_1, hfz19_2, hfz19_3, hfz19_4, hfz19_5, hfz19_6, hfz19_7⟩ := bx8 BK377.o; obtain ⟨hcz20_0, hcz20_1, hcz20_2, hcz20_3, hcz20_4, hcz20_5, hcz20_6, hcz20_7, hfz20_0, hfz20_1, hfz20_2, hfz20_3, hfz20_4, hfz20_5, hfz20_6, hfz20_7⟩ := bx8 BK375.o) | ((with_reducible refine gate_callee (f := 179) rfl ?_); refine goesL_ (some 26) rfl rfl Try.func179 (by kernel_rfl) rfl #[.agg #[.int .i64 a0_6, .int .i64 a0_7]] rfl M0 ?_; (with_reducible refine (laws_toSpan.calls a0_6 a0_7 t384 t385 _ A4.o).mono ?_); rintro e w21 ⟨rfl, hb⟩; refine ⟨_, rfl, ?_⟩; have _ := zK (Kd.R_below (by (with_reducible repeat (first | apply Kd.RA | apply Kd.RN | apply Kd.RD)); exact (Kd.R_mono (Kd.R_far (p := ⟨gb377, 5, none⟩) (Kd.R_types HO380.o BK377.o (by decide)) (fun _ hk => hk.2) (.slice Ao18 t381.length co18)) (fun _ h_ => h_.1))) hb); have _ := zK (Kd.R_below (by (with_reducible repeat (first | apply Kd.RA | apply Kd.RN | apply Kd.RD)); exact (Kd.R_mono (Kd.R_far (p := ⟨gb377, 5, none⟩) (Kd.R_types HO383.o BK377.o (by decide)) (fun _ hk => hk.2) (.slice Ao18 t381.length co18)) (fun _ h_ => h_.1))) hb); have _ := zK (bB (g := gb375) (o := .cells #[.int .i64 a0_0, .int .i64 a0_1, .slice A0_2 l0_2.length c0_2, .int .i64 a0_3, .int .i64 a0_4, .slice A0_5 l0_5.length c0_5, .int .i64 a0_6, .int .i64 a0_7] 171 (0, 0)) (by (with_reducible repeat (first | refine kN ?_ _ | refine kD ?_ | refine kA ?_ _)); refine blk_far ?_ NB375_377.o _; exact qK BK375.o) hb); have _ := zK (bB (g := gb376) (o := .cells #[.int .i64 0, .int .i64 0, .slice none 0 0, .int .i64 0, .int .i64 0, .slice none 0 0, .int .i64 0, .int .i64 0] 87 (0, 0)) (by (with_reducible repeat (first | refine kN ?_ _ | refine kD ?_ | refine kA ?_ _)); refine blk_far ?_ NB376_377.o _; exact qK BK376.o) hb); have _ := zK (bB (g := gb377) (o := .cells #[.int .i64 a0_0, .int .i64 a0_1, .slice Ao14 t378.length co14, .int .i64 a0_3, .int .i64 a0_4, .slice Ao18 t381.length co18, .int .i64 0, .int .i64 0] 87 (0, 0)) (by (with_reducible repeat (first | refine kN ?_ _ | refine kD ?_ | refine kA ?_ _)); refine blk_put (cs := #[.int .i64 a0_0, .int .i64 a0_1, .slice Ao14 t378.length co14, .int .i64 a0_3, .int .i64 a0_4, .slice none 0 0, .int .i64 0, .int .i64 0]) ?_ 5 _ rfl; exact qK BK377.o) hb); have _ := zK (bT M19 hb); clear HO380 HO383 BK375 BK376 BK377 HB; rename_i HO380 HO383 BK375 BK376 BK377 HB; (try clear hb); (try clear hb2); (try clear hk); (try clear hi); obtain ⟨hcz22_0, hcz22_1, hcz22_2, hcz22_3, hcz22_4, hcz22_5, hcz22_6, hcz22_7, hfz22_0, hfz22_1, hfz22_2, hfz22_3, hfz22_4, hfz22_5, hfz22_6, hfz22_7⟩ := bx8 BK377.o; obtain ⟨hcz23_0, hcz23_1, hcz23_2, hcz23_3, hcz23_4, hcz23_5, hcz23_6, hcz23_7, hfz23_0, hfz23_1, hfz23_2, hfz23_3, hfz23_4, hfz23_5, hfz23_6, hfz23_7⟩ := bx8 BK376.o))
 refine bodyPost_ret (results_cell_row rfl _ _ gb376 87 #[.int .i64 a0_0, .int .i64 a0_1, .slice Ao14 t378.length co14, .int .i64 a0_3, .int .i64 a0_4, .slice Ao18 t381.length co18, .int .i64 t384, .int .i64 t385] (0, 0) _ rfl (by (with_reducible repeat (first | refine kN ?_ _ | refine kD ?_ | refine kA ?_ _)); refine blk_put (cs := #[.int .i64 a0_0, .int .i64 a0_1, .slice Ao14 t378.length co14, .int .i64 a0_3, .int .i64 a0_4, .slice Ao18 t381.length co18, .int .i64 t384, .int .i64 0]) ?_ 7 _ rfl; (with_reducible repeat (first | refine kN ?_ _ | refine kD ?_ | refine kA ?_ _)); refine blk_put (cs := #[.int .i64 a0_0, .int .i64 a0_1, .slice Ao14 t378.length co14, .int .i64 a0_3, .int .i64 a0_4, .slice Ao18 t381.length co18, .int .i64 0, .int .i64 0]) ?_ 6 _ rfl; (with_reducible repeat (first | refine kN ?_ _ | refine kD ?_ | refine kA ?_ _)); refine blk_put (cs := #[.int .i64 a0_0, .int .i64 a0_1, .slice Ao14 t378.length co14, .int .i64 a0_3, .int .i64 a0_4, .slice none 0 0, .int .i64 0, .int .i64 0]) ?_ 5 _ rfl; (with_reducible repeat (first | refine kN ?_ _ | refine kD ?_ | refine kA ?_ _)); refine blk_put (cs := #[.int .i64 a0_0, .int .i64 a0_1, .slice Ao14 t378.length co14, .int .i64 a0_3, .int .i64 0, .slice none 0 0, .int .i64 0, .int .i64 0]) ?_ 4 _ rfl; (with_reducible repeat (first | refine kN ?_ _ | refine kD ?_ | refine kA ?_ _)); refine blk_put (cs := #[.int .i64 a0_0, .int .i64 a0_1, .slice Ao14 t378.length co14, .int .i64 0, .int .i64 0, .slice none 0 0, .int .i64 0, .int .i64 0]) ?_ 3 _ rfl; (with_reducible repeat (first | refine kN ?_ _ | refine kD ?_ | refine kA ?_ _)); refine blk_put (cs := #[.int .i64 a0_0, .int .i64 a0_1, .slice none 0 0, .int .i64 0, .int .i64 0, .slice none 0 0, .int .i64 0, .int .i64 0]) ?_ 2 _ rfl; (with_reducible repeat (first | refine kN ?_ _ | refine kD ?_ | refine kA ?_ _)); refine blk_put (cs := #[.int .i64 a0_0, .int .i64 0, .slice none 0 0, .int .i64 0, .int .i64 0, .slice none 0 0, .int .i64 0, .int .i64 0]) ?_ 1 _ rfl; (with_reducible repeat (first | refine kN ?_ _ | refine kD ?_ | refine kA ?_ _)); refine blk_put (cs := #[.int .i64 0, .int .i64 0, .slice none 0 0, .int .i64 0, .int .i64 0, .slice none 0 0, .int .i64 0, .int .i64 0]) ?_ 0 _ rfl; (with_reducible repeat (first | refine kN ?_ _ | refine kD ?_ | refine kA ?_ _)); refine blk_far ?_ NB376_377.o _; (with_reducible repeat (first | refine kN ?_ _ | refine kD ?_ | refine kA ?_ _)); refine blk_far ?_ NB376_377.o _; exact qK BK376.o) Try.underlying87 rfl (by kernel_rfl)) rfl ?_
 exact ⟨_, _, by first | rfl | (simp [errW_none, errW_some] <;> rfl) | (simp [*, errW_none, errW_some] <;> rfl), by (with_reducible repeat (first | apply Kd.RA | apply Kd.RN | apply Kd.RD)); exact Kd.R_mono (Kd.R_far (p := ⟨gb376, 7, none⟩) (Kd.R_far (p := ⟨gb376, 6, none⟩) (Kd.R_far (p := ⟨gb376, 5, none⟩) (Kd.R_far (p := ⟨gb376, 4, none⟩) (Kd.R_far (p := ⟨gb376, 3, none⟩) (Kd.R_far (p := ⟨gb376, 2, none⟩) (Kd.R_far (p := ⟨gb376, 1, none⟩) (Kd.R_far (p := ⟨gb376, 0, none⟩) (Kd.R_far (p := ⟨gb377, 7, none⟩) (Kd.R_far (p := ⟨gb377, 6, none⟩) (Kd.R_types (Kd.R_types HO380.o BK377.o (by decide)) BK376.o (by decide)) (fun _ hk => hk.1.2) (.int .i64 t384)) (fun _ hk => hk.1.2) (.int .i64 t385)) (fun _ hk => hk.2) (.int .i64 a0_0)) (fun _ hk => hk.2) (.int .i64 a0_1)) (fun _ hk => hk.2) (.slice Ao14 t378.length co14)) (fun _ hk => hk.2) (.int .i64 a0_3)) (fun _ hk => hk.2) (.int .i64 a0_4)) (fun _ hk => hk.2) (.slice Ao18 t381.length co18)) (fun _ hk => hk.2) (.int .i64 t384)) (fun _ hk => hk.2) (.int .i64 t385)) (fun _ hk => hk.1.1.2), by (with_reducible repeat (first | apply Kd.RA | apply Kd.RN | apply Kd.RD)); exact Kd.R_mono (Kd.R_far (p := ⟨gb376, 7, none⟩) (Kd.R_far (p := ⟨gb376, 6, none⟩) (Kd.R_far (p := ⟨gb376, 5, none⟩) (Kd.R_far (p := ⟨gb376, 4, none⟩) (Kd.R_far (p := ⟨gb376, 3, none⟩) (Kd.R_far (p := ⟨gb376, 2, none⟩) (Kd.R_far (p := ⟨gb376, 1, none⟩) (Kd.R_far (p := ⟨gb376, 0, none⟩) (Kd.R_far (p := ⟨gb377, 7, none⟩) (Kd.R_far (p := ⟨gb377, 6, none⟩) (Kd.R_types (Kd.R_types HO383.o BK377.o (by decide)) BK376.o (by decide)) (fun _ hk => hk.1.2) (.int .i64 t384)) (fun _ hk => hk.1.2) (.int .i64 t385)) (fun _ hk => hk.2) (.int .i64 a0_0)) (fun _ hk => hk.2) (.int .i64 a0_1)) (fun _ hk => hk.2) (.slice Ao14 t378.length co14)) (fun _ hk => hk.2) (.int .i64 a0_3)) (fun _ hk => hk.2) (.int .i64 a0_4)) (fun _ hk => hk.2) (.slice Ao18 t381.length co18)) (fun _ hk => hk.2) (.int .i64 t384)) (fun _ hk => hk.2) (.int .i64 t385)) (fun _ hk => hk.1.1.2), by exact qX HB.o⟩

end Go.Proofs.Ytpkdbkheggfkkaa.PFnExactLettersFor
