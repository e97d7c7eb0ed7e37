/- Walks of functions that FnLetters reaches, shortened. -/
import Derived.Test.YtpkdbkheggfkkaaPFnLettersx0
import Derived.Test.YtpkdbkheggfkkaaPFnLettersx1
import Derived.Test.YtpkdbkheggfkkaaPFnLettersx2
namespace Go.Proofs.Ytpkdbkheggfkkaa.PFnLetters
open Go.RowKit Go.Proofs.YtpkdbkheggfkkaaW.PrintWords Go.Proofs.YtpkdbkheggfkkaaW.PrintLast Go.Proofs.YtpkdbkheggfkkaaW.PrintMore
attribute [local go_sem] max2_int min2_int max_two min_two max_three min_three max_four min_four
set_option linter.unusedVariables false
set_option linter.unusedSimpArgs false

/-! ### spec_MayWrite: function 178 -/
def spec_MayWrite.f (k : Nat) (l0 : List (S81)) (a1 : Int) (a2 : Int) (a3 : Int) : Option (Bool) := (spec_AreLetters.f k l0).bind fun t130 => (if t130 = true then ((some (([] : List (S81)) : List (S81))).bind fun y131 => (if y131.length + l0.length < 5864062014805 then ((some (y131 ++ l0 : List (S81))).bind fun y134 => (if y134.length < 5864062014805 then ((spec_AreLetters.f k (y134 ++ [(⟨a1, a2, a3⟩ : S81)])).bind fun t140 => (some t140)) else (none))) else (none))) else (some false))
set_option maxHeartbeats 8000000 in
set_option maxRecDepth 100000 in
theorem spec_MayWrite.calls (k : Nat) (A0 : Option Addr) (c0 : Nat) (l0 : List (S81)) (a1 : Int) (a2 : Int) (a3 : Int) (r : Bool) (w : World) (hr0 : Kd.C k81 w A0 l0.length l0) (hc0 : l0.length ≤ c0) (h : spec_MayWrite.f k l0 a1 a2 a3 = some r) :
  Calls Try.prog 178 #[.slice A0 l0.length c0, .int .i64 a1, .int .i64 a2, .int .i64 a3] w fun e w' => e = .returned (.bool r) ∧ Below w.heap.size w w' := by
 have hu81 := Try.underlying81
 have HR0 := zK hr0
 have HC0 := zK hc0
 clear hr0 hc0
 have HB := zK (Below.refl w.heap.size w)
 have H : ((spec_AreLetters.f k l0).bind fun t130 => (if t130 = true then ((some (([] : List (S81)) : List (S81))).bind fun y131 => (if y131.length + l0.length < 5864062014805 then ((some (y131 ++ l0 : List (S81))).bind fun y134 => (if y134.length < 5864062014805 then ((spec_AreLetters.f k (y134 ++ [(⟨a1, a2, a3⟩ : S81)])).bind fun t140 => (some t140)) else (none))) else (none))) else (some false))) = some r := h
 clear h
 replace H := Option.bind_eq_some_iff.mp H
 obtain ⟨t130, A50, H⟩ := H
 try dsimp only at H
 have A5 := zK A50
 clear A50
 by_cases c6 : t130 = true
 rotate_left
 ·replace c6 := Bool.eq_false_iff.mpr c6
  subst c6
  have H1 : (some false) = some r := by rw [if_neg (show ¬ (false = true) by decide)] at H; exact H
  clear H
  have H := H1
  clear H1
  obtain rfl := Option.some.inj H
  go_enter Try.func178, Try.ntmps178
  go_wp2_with (first | ((with_reducible refine gate_callee (f := 129) rfl ?_); refine goesL_ (some 10) rfl rfl Try.func129 (by kernel_rfl) rfl #[.slice A0 l0.length c0] rfl M0 ?_; (with_reducible refine (spec_AreLetters.calls k _ _ l0 false _ ?side1 ?side2 A5.o).mono ?_); (case side1 => exact Kd.qC HR0.o); (case side2 => exact HC0.o); rintro e w17 ⟨rfl, hb⟩; refine ⟨_, rfl, ?_⟩; have _ := zK (bT (qB HB.o) hb); clear HB; rename_i HB; (try clear hb); (try clear hb2); (try clear hk); (try clear hi)))
  go_ret
  exact ⟨by first | rfl | (simp [errW_none, errW_some] <;> rfl) | (simp [*, errW_none, errW_some] <;> rfl), by exact qB HB.o⟩
 subst c6
 have H1 : ((some (([] : List (S81)) : List (S81))).bind fun y131 => (if y131.length + l0.length < 5864062014805 then ((some (y131 ++ l0 : List (S81))).bind fun y134 => (if y134.length < 5864062014805 then ((spec_AreLetters.f k (y134 ++ [(⟨a1, a2, a3⟩ : S81)])).bind fun t140 => (some t140)) else (none))) else (none))) = some r := by rw [if_pos rfl] at H; exact H
 clear H
 have H := H1
 clear H1
 obtain ⟨y131, hy131⟩ : ∃ y_ : List (S81), y_ = (([] : List (S81))) := ⟨_, rfl⟩
 replace H : (if y131.length + l0.length < 5864062014805 then ((some (y131 ++ l0 : List (S81))).bind fun y134 => (if y134.length < 5864062014805 then ((spec_AreLetters.f k (y134 ++ [(⟨a1, a2, a3⟩ : S81)])).bind fun t140 => (some t140)) else (none))) else (none)) = some r := by first | (rw [hy131]; with_reducible exact H) | (have H2_ := (Option.bind_some _ _).symm.trans H; rw [hy131]; with_reducible exact H2_) | (have H2_ := (Option.bind_some _ _).symm.trans H; with_reducible exact H2_) | with_reducible exact H | (rw [hy131]; exact H) | exact H
 have Ny131 := zK hy131
 clear hy131
 by_cases c7 : y131.length + l0.length < 5864062014805
 rotate_left
 ·rw [if_neg c7] at H
  exact absurd H (by simp)
 rw [if_pos c7] at H
 have LMc7 := zK c7
 clear c7
 obtain ⟨y134, hy134⟩ : ∃ y_ : List (S81), y_ = (y131 ++ l0) := ⟨_, rfl⟩
 replace H : (if y134.length < 5864062014805 then ((spec_AreLetters.f k (y134 ++ [(⟨a1, a2, a3⟩ : S81)])).bind fun t140 => (some t140)) else (none)) = some r := by first | (rw [hy134]; with_reducible exact H) | (have H2_ := (Option.bind_some _ _).symm.trans H; rw [hy134]; with_reducible exact H2_) | (have H2_ := (Option.bind_some _ _).symm.trans H; with_reducible exact H2_) | with_reducible exact H | (rw [hy134]; exact H) | exact H
 have Ny134 := zK hy134
 clear hy134
 by_cases c8 : y134.length < 5864062014805
 rotate_left
 ·rw [if_neg c8] at H
  exact absurd H (by simp)
 rw [if_pos c8] at H
 have LMc8 := zK c8
 clear c8
 obtain ⟨y137, hy137⟩ : ∃ y_ : List (S81), y_ = (y134 ++ [(⟨a1, a2, a3⟩ : S81)]) := ⟨_, rfl⟩
 replace H : ((spec_AreLetters.f k y137).bind fun t140 => (some t140)) = some r := by first | (rw [hy137]; with_reducible exact H) | (have H2_ := (Option.bind_some _ _).symm.trans H; rw [hy137]; with_reducible exact H2_) | (have H2_ := (Option.bind_some _ _).symm.trans H; with_reducible exact H2_) | with_reducible exact H | (rw [hy137]; exact H) | exact H
 have Ny137 := zK hy137
 clear hy137
 replace H := Option.bind_eq_some_iff.mp H
 obtain ⟨t140, A90, H⟩ := H
 replace H : (some t140) = some r := H
 have A9 := zK A90
 clear A90
 obtain rfl := Option.some.inj H
 go_enter Try.func178, Try.ntmps178
 go_wp2_with (first | ((with_reducible refine gate_callee (f := 129) rfl ?_); refine goesL_ (some 10) rfl rfl Try.func129 (by kernel_rfl) rfl #[.slice A0 l0.length c0] rfl M0 ?_; (with_reducible refine (spec_AreLetters.calls k _ _ l0 true _ ?side1 ?side2 A5.o).mono ?_); (case side1 => exact Kd.qC HR0.o); (case side2 => exact HC0.o); rintro e w10 ⟨rfl, hb⟩; refine ⟨_, rfl, ?_⟩; have _ := zK (bT (qB HB.o) hb); clear HB; rename_i HB; (try clear hb); (try clear hb2); (try clear hk); (try clear hi)) | ((with_reducible refine gate_dst (N := 12) rfl ?_); (try (refine gate_guard (by rfl) ?_; dsimp only)); refine Kd.R_lit k81 _ 81 ?hg (N := 12) ?hd (xs := ([] : List (S81))) (inner := []) (ok := fun _ => True) (okp := fun _ => True) ?hr ?hp (fun _ hk => hk) trivial (Below.refl _ _) (Nat.le_refl _) (by simp) ?_; (case hd => rfl); (case hg => rfl); (case hr => first | (go_simp; done) | (go_simp; rfl)); (case hp => exact (Reps.none _ _)); intro v132 w11 ho12 hb hg_ hnew_; clear hg_ hnew_; (first | rw [← Ny131.o] at ho12 | (simp only [Int.reduceToNat] at ho12; rw [← Ny131.o] at ho12)); have _ := zK (Kd.R_lower ho12 (bZ (qB HB.o))); have _ := zK (bT (qB HB.o) hb); clear HB; rename_i HO133 HB; clear hb ho12) | ((with_reducible refine gate_builtin (b := .append) (xs := #[.tmp 12, .tmp 13]) rfl ?_); (try (refine gate_guard (by rfl) ?_; dsimp only)); at_builtin; refine Kd.R_append_rows k81 (w0 := w) w.heap.size rfl (.tmp 12) (.tmp 13) 73 81 (.agg #[(.int .i64 0), (.int .i64 0), (.int .i64 0)]) 24 rfl Try.underlying73 info81 rfl (by decide) (by omega) v132 y131 l0 _ _ _ (fun _ => True) (fun _ => False) rfl rfl ?aO ?aR (fun _ _ h => h) (fun _ h => h.elim) ?aF ?aB ?aS ?aL ?_; (case aR => exact Kd.qC (Kd.C_below HR0.o HB.o)); (case aB => exact (qB HB.o)); (case aF => exact (fun _ _ => trivial)); (case aO => exact (Kd.qR HO133.o)); (case aS => exact (bZ (qB HB.o))); (case aL => have := LMc7.o; omega); intro v135 w13 ho hb hg hat; rw [← Ny134.o] at ho; have _ := zK (hb); have _ := zK (ho); clear HB HO133; rename_i HB HO136; clear ho hb hg hat) | ((with_reducible refine gate_builtin (b := .append) (xs := #[.tmp 14, .tmp 19]) rfl ?_); (try (refine gate_guard (by rfl) ?_; dsimp only)); at_builtin; refine Kd.R_append k81 (w0 := w) w.heap.size rfl (.tmp 14) (.tmp 19) 73 81 (.agg #[(.int .i64 0), (.int .i64 0), (.int .i64 0)]) 24 rfl Try.underlying73 info81 rfl (by decide) (by omega) v135 y134 (⟨a1, a2, a3⟩ : S81) [.int .i64 a1, .int .i64 a2, .int .i64 a3] (fun _ => True) (fun _ => False) rfl rfl ?aP (fun _ hk => hk.elim) ?aF ?aO ?aB ?aS ?aL ?_; (case aP => exact k81_mkM _ _ _ (⟨a1, a2, a3⟩ : S81)); (case aB => exact (qB HB.o)); (case aF => exact (fun _ _ => trivial)); (case aO => exact (Kd.qR HO136.o)); (case aS => exact (bZ (qB HB.o))); (case aL => have := LMc8.o; omega); intro v138 w14 ho hb hg hat; rw [← Ny137.o] at ho; have _ := zK (hb); have _ := zK (ho); clear HB HO136; rename_i HB HO139; clear ho hb hg hat; obtain ⟨Ao15, co15, eo15⟩ := Kd.R_slice HO139.o; subst eo15) | (go_at_call 129; (with_reducible refine (spec_AreLetters.calls k _ _ y137 t140 _ ?side1 ?side2 A9.o).mono ?_); (case side1 => exact Kd.qC (Kd.R_reads' HO139.o).2.2); (case side2 => exact (Kd.R_reads' HO139.o).2.1); rintro e w16 ⟨rfl, hb⟩; have _ := zK (Kd.R_below (Kd.qR HO139.o) hb); have _ := zK (bT (qB HB.o) hb); clear HO139 HB; rename_i HO139 HB; (try clear hb); (try clear hb2); (try clear hk); (try clear hi)))
 go_ret
 exact ⟨by first | rfl | (simp [errW_none, errW_some] <;> rfl) | (simp [*, errW_none, errW_some] <;> rfl), by exact qB HB.o⟩
/-! ### spec_WriteLetter: function 133 -/
def spec_WriteLetter.f (k : Nat) (l0 : List (S81)) (a1 : Int) (a2 : Int) (a3 : Int) : Option ((List (S81)) × Bool) := (some (([] : List (S81)) : List (S81))).bind fun y141 => (if y141.length + l0.length < 5864062014805 then ((some (y141 ++ l0 : List (S81))).bind fun y144 => ((spec_MayWrite.f k l0 a1 a2 a3).bind fun t147 => (if t147 = true then (if y144.length < 5864062014805 then (some ((y144 ++ [(⟨a1, a2, a3⟩ : S81)]), true)) else (none)) else (some (y144, false))))) else (none))
set_option maxHeartbeats 8000000 in
set_option maxRecDepth 100000 in
theorem spec_WriteLetter.calls (k : Nat) (A0 : Option Addr) (c0 : Nat) (l0 : List (S81)) (a1 : Int) (a2 : Int) (a3 : Int) (r1 : List (S81)) (r2 : Bool) (w : World) (hr0 : Kd.C k81 w A0 l0.length l0) (hc0 : l0.length ≤ c0) (h : spec_WriteLetter.f k l0 a1 a2 a3 = some (r1, r2)) :
  Calls Try.prog 133 #[.slice A0 l0.length c0, .int .i64 a1, .int .i64 a2, .int .i64 a3] w fun e w' => ∃ v0_ : Value, e = .returned (.tuple #[v0_, .bool r2]) ∧ Kd.R k81 81 w' w.heap.size (fun _ => True) v0_ r1 ∧ Below w.heap.size w w' := by
 have hu81 := Try.underlying81
 have HR0 := zK hr0
 have HC0 := zK hc0
 clear hr0 hc0
 have HB := zK (Below.refl w.heap.size w)
 have H : ((some (([] : List (S81)) : List (S81))).bind fun y141 => (if y141.length + l0.length < 5864062014805 then ((some (y141 ++ l0 : List (S81))).bind fun y144 => ((spec_MayWrite.f k l0 a1 a2 a3).bind fun t147 => (if t147 = true then (if y144.length < 5864062014805 then (some ((y144 ++ [(⟨a1, a2, a3⟩ : S81)]), true)) else (none)) else (some (y144, false))))) else (none))) = some (r1, r2) := h
 clear h
 obtain ⟨y141, hy141⟩ : ∃ y_ : List (S81), y_ = (([] : List (S81))) := ⟨_, rfl⟩
 replace H : (if y141.length + l0.length < 5864062014805 then ((some (y141 ++ l0 : List (S81))).bind fun y144 => ((spec_MayWrite.f k l0 a1 a2 a3).bind fun t147 => (if t147 = true then (if y144.length < 5864062014805 then (some ((y144 ++ [(⟨a1, a2, a3⟩ : S81)]), true)) else (none)) else (some (y144, false))))) else (none)) = some (r1, r2) := by first | (rw [hy141]; with_reducible exact H) | (have H2_ := (Option.bind_some _ _).symm.trans H; rw [hy141]; with_reducible exact H2_) | (have H2_ := (Option.bind_some _ _).symm.trans H; with_reducible exact H2_) | with_reducible exact H | (rw [hy141]; exact H) | exact H
 have Ny141 := zK hy141
 clear hy141
 by_cases c5 : y141.length + l0.length < 5864062014805
 rotate_left
 ·rw [if_neg c5] at H
  exact absurd H (by simp)
 rw [if_pos c5] at H
 have LMc5 := zK c5
 clear c5
 obtain ⟨y144, hy144⟩ : ∃ y_ : List (S81), y_ = (y141 ++ l0) := ⟨_, rfl⟩
 replace H : ((spec_MayWrite.f k l0 a1 a2 a3).bind fun t147 => (if t147 = true then (if y144.length < 5864062014805 then (some ((y144 ++ [(⟨a1, a2, a3⟩ : S81)]), true)) else (none)) else (some (y144, false)))) = some (r1, r2) := by first | (rw [hy144]; with_reducible exact H) | (have H2_ := (Option.bind_some _ _).symm.trans H; rw [hy144]; with_reducible exact H2_) | (have H2_ := (Option.bind_some _ _).symm.trans H; with_reducible exact H2_) | with_reducible exact H | (rw [hy144]; exact H) | exact H
 have Ny144 := zK hy144
 clear hy144
 replace H := Option.bind_eq_some_iff.mp H
 obtain ⟨t147, A60, H⟩ := H
 try dsimp only at H
 have A6 := zK A60
 clear A60
 by_cases c7 : t147 = true
 rotate_left
 ·replace c7 := Bool.eq_false_iff.mpr c7
  subst c7
  have H1 : (some (y144, false)) = some (r1, r2) := by rw [if_neg (show ¬ (false = true) by decide)] at H; exact H
  clear H
  have H := H1
  clear H1
  simp only [Option.some.injEq, Prod.mk.injEq] at H
  obtain ⟨rfl, rfl⟩ := H
  go_enter Try.func133, Try.ntmps133
  go_wp2_with (first | ((with_reducible refine gate_dst (N := 11) rfl ?_); refine Kd.R_lit k81 _ 81 ?hg (N := 11) ?hd (xs := ([] : List (S81))) (inner := []) (ok := fun _ => True) (okp := fun _ => True) ?hr ?hp (fun _ hk => hk) trivial (Below.refl _ _) (Nat.le_refl _) (by simp) ?_; (case hd => rfl); (case hg => rfl); (case hr => first | (go_simp; done) | (go_simp; rfl)); (case hp => exact (Reps.none _ _)); intro v142 w14 ho15 hb hg_ hnew_; clear hg_ hnew_; (first | rw [← Ny141.o] at ho15 | (simp only [Int.reduceToNat] at ho15; rw [← Ny141.o] at ho15)); have _ := zK (Kd.R_lower ho15 (bZ (qB HB.o))); have _ := zK (bT (qB HB.o) hb); clear HB; rename_i HO143 HB; clear hb ho15) | ((with_reducible refine gate_builtin (b := .append) (xs := #[.tmp 11, .tmp 12]) rfl ?_); at_builtin; refine Kd.R_append_rows k81 (w0 := w) w.heap.size rfl (.tmp 11) (.tmp 12) 73 81 (.agg #[(.int .i64 0), (.int .i64 0), (.int .i64 0)]) 24 rfl Try.underlying73 info81 rfl (by decide) (by omega) v142 y141 l0 _ _ _ (fun _ => True) (fun _ => False) rfl rfl ?aO ?aR (fun _ _ h => h) (fun _ h => h.elim) ?aF ?aB ?aS ?aL ?_; (case aR => exact Kd.qC (Kd.C_below HR0.o HB.o)); (case aB => exact (qB HB.o)); (case aF => exact (fun _ _ => trivial)); (case aO => exact (Kd.qR HO143.o)); (case aS => exact (bZ (qB HB.o))); (case aL => have := LMc5.o; omega); intro v145 w16 ho hb hg hat; rw [← Ny144.o] at ho; have _ := zK (hb); have _ := zK (ho); clear HB HO143; rename_i HB HO146; clear ho hb hg hat) | ((with_reducible refine gate_callee (f := 178) rfl ?_); refine goesL_ (some 18) rfl rfl Try.func178 (by kernel_rfl) rfl #[.slice A0 l0.length c0, .int .i64 a1, .int .i64 a2, .int .i64 a3] rfl M0 ?_; (with_reducible refine (spec_MayWrite.calls k _ _ l0 a1 a2 a3 false _ ?side1 ?side2 A6.o).mono ?_); (case side1 => exact Kd.qC (Kd.C_below HR0.o HB.o)); (case side2 => exact HC0.o); rintro e w17 ⟨rfl, hb⟩; refine ⟨_, rfl, ?_⟩; have _ := zK (Kd.R_below (Kd.qR HO146.o) hb); have _ := zK (bT (qB HB.o) hb); clear HO146 HB; rename_i HO146 HB; (try clear hb); (try clear hb2); (try clear hk); (try clear hi)))
  go_ret2
  exact ⟨_, by first | rfl | (simp [errW_none, errW_some] <;> rfl) | (simp [*, errW_none, errW_some] <;> rfl), by exact Kd.qR HO146.o, by exact qB HB.o⟩
 subst c7
 have H1 : (if y144.length < 5864062014805 then (some ((y144 ++ [(⟨a1, a2, a3⟩ : S81)]), true)) else (none)) = some (r1, r2) := by rw [if_pos rfl] at H; exact H
 clear H
 have H := H1
 clear H1
 by_cases c8 : y144.length < 5864062014805
 rotate_left
 ·rw [if_neg c8] at H
  exact absurd H (by simp)
 rw [if_pos c8] at H
 have LMc8 := zK c8
 clear c8
 obtain ⟨y148, hy148⟩ : ∃ y_ : List (S81), y_ = (y144 ++ [(⟨a1, a2, a3⟩ : S81)]) := ⟨_, rfl⟩
 replace H : (some (y148, true)) = some (r1, r2) := by first | (rw [hy148]; with_reducible exact H) | (have H2_ := (Option.bind_some _ _).symm.trans H; rw [hy148]; with_reducible exact H2_) | (have H2_ := (Option.bind_some _ _).symm.trans H; with_reducible exact H2_) | with_reducible exact H | (rw [hy148]; exact H) | exact H
 have Ny148 := zK hy148
 clear hy148
 simp only [Option.some.injEq, Prod.mk.injEq] at H
 obtain ⟨rfl, rfl⟩ := H
 go_enter Try.func133, Try.ntmps133
 go_wp2_with (first | ((with_reducible refine gate_dst (N := 11) rfl ?_); refine Kd.R_lit k81 _ 81 ?hg (N := 11) ?hd (xs := ([] : List (S81))) (inner := []) (ok := fun _ => True) (okp := fun _ => True) ?hr ?hp (fun _ hk => hk) trivial (Below.refl _ _) (Nat.le_refl _) (by simp) ?_; (case hd => rfl); (case hg => rfl); (case hr => first | (go_simp; done) | (go_simp; rfl)); (case hp => exact (Reps.none _ _)); intro v142 w9 ho10 hb hg_ hnew_; clear hg_ hnew_; (first | rw [← Ny141.o] at ho10 | (simp only [Int.reduceToNat] at ho10; rw [← Ny141.o] at ho10)); have _ := zK (Kd.R_lower ho10 (bZ (qB HB.o))); have _ := zK (bT (qB HB.o) hb); clear HB; rename_i HO143 HB; clear hb ho10) | ((with_reducible refine gate_builtin (b := .append) (xs := #[.tmp 11, .tmp 12]) rfl ?_); at_builtin; refine Kd.R_append_rows k81 (w0 := w) w.heap.size rfl (.tmp 11) (.tmp 12) 73 81 (.agg #[(.int .i64 0), (.int .i64 0), (.int .i64 0)]) 24 rfl Try.underlying73 info81 rfl (by decide) (by omega) v142 y141 l0 _ _ _ (fun _ => True) (fun _ => False) rfl rfl ?aO ?aR (fun _ _ h => h) (fun _ h => h.elim) ?aF ?aB ?aS ?aL ?_; (case aR => exact Kd.qC (Kd.C_below HR0.o HB.o)); (case aB => exact (qB HB.o)); (case aF => exact (fun _ _ => trivial)); (case aO => exact (Kd.qR HO143.o)); (case aS => exact (bZ (qB HB.o))); (case aL => have := LMc5.o; omega); intro v145 w11 ho hb hg hat; rw [← Ny144.o] at ho; have _ := zK (hb); have _ := zK (ho); clear HB HO143; rename_i HB HO146; clear ho hb hg hat) | ((with_reducible refine gate_callee (f := 178) rfl ?_); refine goesL_ (some 18) rfl rfl Try.func178 (by kernel_rfl) rfl #[.slice A0 l0.length c0, .int .i64 a1, .int .i64 a2, .int .i64 a3] rfl M0 ?_; (with_reducible refine (spec_MayWrite.calls k _ _ l0 a1 a2 a3 true _ ?side1 ?side2 A6.o).mono ?_); (case side1 => exact Kd.qC (Kd.C_below HR0.o HB.o)); (case side2 => exact HC0.o); rintro e w12 ⟨rfl, hb⟩; refine ⟨_, rfl, ?_⟩; have _ := zK (Kd.R_below (Kd.qR HO146.o) hb); have _ := zK (bT (qB HB.o) hb); clear HO146 HB; rename_i HO146 HB; (try clear hb); (try clear hb2); (try clear hk); (try clear hi)) | ((with_reducible refine gate_builtin (b := .append) (xs := #[.tmp 21, .tmp 26]) rfl ?_); at_builtin; refine Kd.R_append k81 (w0 := w) w.heap.size rfl (.tmp 21) (.tmp 26) 73 81 (.agg #[(.int .i64 0), (.int .i64 0), (.int .i64 0)]) 24 rfl Try.underlying73 info81 rfl (by decide) (by omega) v145 y144 (⟨a1, a2, a3⟩ : S81) [.int .i64 a1, .int .i64 a2, .int .i64 a3] (fun _ => True) (fun _ => False) rfl rfl ?aP (fun _ hk => hk.elim) ?aF ?aO ?aB ?aS ?aL ?_; (case aP => exact k81_mkM _ _ _ (⟨a1, a2, a3⟩ : S81)); (case aB => exact (qB HB.o)); (case aF => exact (fun _ _ => trivial)); (case aO => exact (Kd.qR HO146.o)); (case aS => exact (bZ (qB HB.o))); (case aL => have := LMc8.o; omega); intro v149 w13 ho hb hg hat; rw [← Ny148.o] at ho; have _ := zK (hb); have _ := zK (ho); clear HB HO146; rename_i HB HO150; clear ho hb hg hat))
 go_ret2
 exact ⟨_, by first | rfl | (simp [errW_none, errW_some] <;> rfl) | (simp [*, errW_none, errW_some] <;> rfl), by exact Kd.qR HO150.o, by exact qB HB.o⟩
/-! ### spec_l23Draw: function 160 -/
def spec_l23Draw.l0 : Nat → List (S81) → Int → Int → List Int → Int → Int → Option ((List (S81)) × Int × Int)
 | 0, _, _, _, _, _, _ => none
 | k + 1, x3, x4, x5, x1000, x1001, x1002 => if x5 > 0 then ((spec_l1Below.f x1000 x1001 x1002 3).bind fun bt157 => ((spec_l1Below.f x1000 bt157.2.1 bt157.2.2 5).bind fun bt160 => ((spec_WriteLetter.f k x3 (wrap64 (3 * (wrap64 (1 + bt157.1)))) (wrap64 (2 * (wrap64 (1 + bt160.1)))) x4).bind fun bt163 => ((spec_l1Int.f x1000 bt160.2.1 bt160.2.2 (([0, 50, 167, 168, 200] : List Int))).bind fun bt170 => (spec_l23Draw.l0 k bt163.1 (wrap64 (x4 + bt170.1)) (wrap64 (x5 - 1)) x1000 bt170.2.1 bt170.2.2))))) else (some (x3, x1001, x1002))
def spec_l23Draw.f (k : Nat) (s0_0 : List Int) (s0_1 : Int) (s0_2 : Int) : Option ((List (S81)) × Int × Int) := (spec_l1Below.f s0_0 s0_1 s0_2 8).bind fun bt154 => (spec_l23Draw.l0 k (([] : List (S81))) 0 bt154.1 s0_0 bt154.2.1 bt154.2.2)
set_option maxHeartbeats 8000000 in
set_option maxRecDepth 100000 in
theorem spec_l23Draw.calls (k : Nat) (g : Nat) (s0_0 : List Int) (s0_1 : Int) (s0_2 : Int) (r1 : List (S81)) (r2 : Int) (r3 : Int) (w0 w : World) (hI : IsS187 w0 w g s0_0 s0_1 s0_2) (hB : Below w0.heap.size w0 w) (h : spec_l23Draw.f k s0_0 s0_1 s0_2 = some (r1, r2, r3)) :
  Calls Try.prog 160 #[.pointer (some ⟨g, 0, none⟩)] w fun e w' => ∃ v0_ : Value, e = .returned (v0_) ∧ Kd.R k81 81 w' w.heap.size (fun _ => True) v0_ r1 ∧ IsS187 w0 w' g s0_0 r2 r3 ∧ Below w0.heap.size w0 w' ∧ KeepBut w w' g none := by
 have HI0 := zK hI
 have HK := zK (KeepBut.refl w g none)
 have HL := zK hB.size
 clear hI
 have HW0 := zK hB.size
 have HB := zK hB
 clear hB
 have H : ((spec_l1Below.f s0_0 s0_1 s0_2 8).bind fun bt154 => (spec_l23Draw.l0 k (([] : List (S81))) 0 bt154.1 s0_0 bt154.2.1 bt154.2.2)) = some (r1, r2, r3) := h
 clear h
 obtain ⟨y151, hy151⟩ : ∃ y_ : List (S81), y_ = (([] : List (S81))) := ⟨_, rfl⟩
 replace H : ((spec_l1Below.f s0_0 s0_1 s0_2 8).bind fun bt154 => (spec_l23Draw.l0 k y151 0 bt154.1 s0_0 bt154.2.1 bt154.2.2)) = some (r1, r2, r3) := by first | (rw [hy151]; with_reducible exact H) | (have H2_ := (Option.bind_some _ _).symm.trans H; rw [hy151]; with_reducible exact H2_) | (have H2_ := (Option.bind_some _ _).symm.trans H; with_reducible exact H2_) | with_reducible exact H | (rw [hy151]; exact H) | exact H
 have Ny151 := zK hy151
 clear hy151
 replace H := Option.bind_eq_some_iff.mp H
 obtain ⟨⟨t154, t155, t156⟩, A20, H⟩ := H
 try dsimp only at H
 have A2 := zK A20
 clear A20
 have H' := zK H
 clear H
 go_enter Try.func160, Try.ntmps160
 go_wp2_with (first | ((with_reducible refine gate_dst (N := 6) rfl ?_); refine Kd.R_lit k81 _ 81 ?hg (N := 6) ?hd (xs := ([] : List (S81))) (inner := []) (ok := fun _ => True) (okp := fun _ => True) ?hr ?hp (fun _ hk => hk) trivial (Below.refl _ _) (Nat.le_refl _) (by simp) ?_; (case hd => rfl); (case hg => rfl); (case hr => first | (go_simp; done) | (go_simp; rfl)); (case hp => exact (Reps.none _ _)); intro v152 w3 ho4 hb hg_ hnew_; clear hg_ hnew_; (first | rw [← Ny151.o] at ho4 | (simp only [Int.reduceToNat] at ho4; rw [← Ny151.o] at ho4)); have _ := zK (Kd.R_lower ho4 (keep_size (w := w) (g := g) (row := none) M1)); have _ := zK (IsS187.below M6 hb); have _ := zK (KeepBut.trans M1 (KeepBut.of_below hb g none) (.inl rfl)); have _ := zK (bT M11 hb); clear HI0 HK HB; rename_i HO153 HI0 HK HB; clear hb ho4) | ((with_reducible refine gate_callee (f := 98) rfl ?_); refine goesL_ (some 8) rfl rfl Try.func98 (by kernel_rfl) rfl #[.pointer (some ⟨g, 0, none⟩), .int .i64 8] rfl M0 ?_; (with_reducible refine (spec_l1Below.calls g s0_0 s0_1 s0_2 8 t154 t155 t156 w0 _ ?side1 ?side2 A2.o).mono ?_); (case side1 => repeat (first | (with_reducible first | exact HI0.o | apply IsS187.alloc | apply IsS187.drewN | apply IsS187.drew | apply IsS187.set_1 | apply IsS187.set_2) | exact HI0.o)); (case side2 => repeat (first | (with_reducible first | exact HB.o | apply bA | apply bN | apply below_drew1 | refine bS ?_ (IsS187.ge HI0.o)) | exact HB.o)); rintro e w5 ⟨rfl, hi, hb, hk⟩; refine ⟨_, rfl, ?_⟩; have _ := zK (Kd.R_mono (Kd.R_keep (IsS187.apart (show IsS187 w0 _ g s0_0 s0_1 s0_2 from Q0) (Kd.qR HO153.o) (by decide)) hk (fun _ h => h.2)) (fun _ h => h.1)); have _ := zK (KeepBut.trans M1 hk (.inl rfl)); have _ := zK (hb); have _ := zK (hi); clear HO153 HK HB HI0; rename_i HO153 HK HB HI0; (try clear hb); (try clear hb2); (try clear hk); (try clear hi)))
 go_loopg [3, 4, 5] k (fun kq v3 v4 v5 w' => ∃ (x3_1 : List (S81)) (x4_1 : Int) (x5_1 : Int) (x1001_1 : Int) (x1002_1 : Int), v4 = .int .i64 x4_1 ∧ v5 = .int .i64 x5_1 ∧ Aside0 (spec_l23Draw.l0 kq x3_1 x4_1 x5_1 s0_0 x1001_1 x1002_1 = some (r1, r2, r3)) ∧ Aside0 (kq ≤ k) ∧ Aside0 (Kd.R k81 81 w' w.heap.size (fun _ => True) v3 x3_1) ∧ Aside0 (IsS187 w0 w' g s0_0 x1001_1 x1002_1) ∧ Aside0 (KeepBut w w' g none) ∧ Aside0 (Below w0.heap.size w0 w'))
 case atStart => exact ⟨(y151), (0), (t154), (t155), (t156), M7, M7, H', ⟨Nat.le_refl _⟩, ⟨by exact Kd.qR HO153.o⟩, ⟨Q0⟩, ⟨Q3⟩, ⟨Q4⟩⟩
 case round =>
  clear H'
  try clear c1
  try clear p2
  obtain ⟨x3_1, x4_1, x5_1, x1001_1, x1002_1, rfl, rfl, HA, HK1, HO_3, HI0, HK, HB⟩ := hrel
  cases gk with
  | zero => exact absurd HA.o (by simp [spec_l23Draw.l0])
  | succ k1 =>
   have H := HA.o
   clear HA
   simp only [spec_l23Draw.l0] at H
   by_cases c6 : x5_1 > 0
   rotate_left
   ·rw [if_neg c6] at H
    have c6b0 : decide (0 < x5_1) = false := decide_eq_false c6
    clear c6
    simp only [Option.some.injEq, Prod.mk.injEq] at H
    obtain ⟨rfl, rfl, rfl⟩ := H
    go_wp2
    go_ret
    exact ⟨_, by first | rfl | (simp [errW_none, errW_some] <;> rfl) | (simp [*, errW_none, errW_some] <;> rfl), by exact Kd.qR HO_3.o, Q0, Q4, Q3⟩
   rw [if_pos c6] at H
   have c6b0 : decide (0 < x5_1) = true := decide_eq_true c6
   clear c6
   replace H := Option.bind_eq_some_iff.mp H
   obtain ⟨⟨t157, t158, t159⟩, A70, H⟩ := H
   try dsimp only at H
   have A7 := zK A70
   clear A70
   replace H := Option.bind_eq_some_iff.mp H
   obtain ⟨⟨t160, t161, t162⟩, A80, H⟩ := H
   try dsimp only at H
   have A8 := zK A80
   clear A80
   replace H := Option.bind_eq_some_iff.mp H
   obtain ⟨⟨t163, t164⟩, A90, H⟩ := H
   try dsimp only at H
   have A9 := zK A90
   clear A90
   obtain ⟨y167, hy167⟩ : ∃ y_ : List Int, y_ = (([0, 50, 167, 168, 200] : List Int)) := ⟨_, rfl⟩
   replace H : ((spec_l1Int.f s0_0 t161 t162 y167).bind fun bt170 => (spec_l23Draw.l0 k1 t163 (wrap64 (x4_1 + bt170.1)) (wrap64 (x5_1 - 1)) s0_0 bt170.2.1 bt170.2.2)) = some (r1, r2, r3) := by first | (rw [hy167]; with_reducible exact H) | (have H2_ := (Option.bind_some _ _).symm.trans H; rw [hy167]; with_reducible exact H2_) | (have H2_ := (Option.bind_some _ _).symm.trans H; with_reducible exact H2_) | with_reducible exact H | (rw [hy167]; exact H) | exact H
   have Ny167 := zK hy167
   clear hy167
   replace H := Option.bind_eq_some_iff.mp H
   obtain ⟨⟨t170, t171, t172⟩, A100, H⟩ := H
   try dsimp only at H
   have A10 := zK A100
   clear A100
   have H' := zK H
   clear H
   go_wp2_with (first | ((with_reducible refine gate_callee (f := 98) rfl ?_); refine goesL_ (some 16) rfl rfl Try.func98 (by kernel_rfl) rfl #[.pointer (some ⟨g, 0, none⟩), .int .i64 3] rfl M0 ?_; (with_reducible refine (spec_l1Below.calls g s0_0 x1001_1 x1002_1 3 t157 t158 t159 w0 _ ?side1 ?side2 A7.o).mono ?_); (case side1 => repeat (first | (with_reducible first | exact HI0.o | apply IsS187.alloc | apply IsS187.drewN | apply IsS187.drew | apply IsS187.set_1 | apply IsS187.set_2) | exact HI0.o)); (case side2 => repeat (first | (with_reducible first | exact HB.o | apply bA | apply bN | apply below_drew1 | refine bS ?_ (IsS187.ge HI0.o)) | exact HB.o)); rintro e w11 ⟨rfl, hi, hb, hk⟩; refine ⟨_, rfl, ?_⟩; have _ := zK (Kd.R_mono (Kd.R_keep (IsS187.apart (show IsS187 w0 _ g s0_0 x1001_1 x1002_1 from Q0) (Kd.qR HO_3.o) (by decide)) hk (fun _ h => h.2)) (fun _ h => h.1)); have _ := zK (KeepBut.trans M1 hk (.inl rfl)); have _ := zK (hb); have _ := zK (hi); clear HO_3 HK HB HI0; rename_i HO_3 HK HB HI0; (try clear hb); (try clear hb2); (try clear hk); (try clear hi)) | ((with_reducible refine gate_callee (f := 98) rfl ?_); refine goesL_ (some 20) rfl rfl Try.func98 (by kernel_rfl) rfl #[.pointer (some ⟨g, 0, none⟩), .int .i64 5] rfl M0 ?_; (with_reducible refine (spec_l1Below.calls g s0_0 t158 t159 5 t160 t161 t162 w0 _ ?side1 ?side2 A8.o).mono ?_); (case side1 => repeat (first | (with_reducible first | exact HI0.o | apply IsS187.alloc | apply IsS187.drewN | apply IsS187.drew | apply IsS187.set_1 | apply IsS187.set_2) | exact HI0.o)); (case side2 => repeat (first | (with_reducible first | exact HB.o | apply bA | apply bN | apply below_drew1 | refine bS ?_ (IsS187.ge HI0.o)) | exact HB.o)); rintro e w12 ⟨rfl, hi, hb, hk⟩; refine ⟨_, rfl, ?_⟩; have _ := zK (Kd.R_mono (Kd.R_keep (IsS187.apart (show IsS187 w0 _ g s0_0 t158 t159 from Q0) (Kd.qR HO_3.o) (by decide)) hk (fun _ h => h.2)) (fun _ h => h.1)); have _ := zK (KeepBut.trans M1 hk (.inl rfl)); have _ := zK (hb); have _ := zK (hi); clear HO_3 HK HB HI0; rename_i HO_3 HK HB HI0; (try clear hb); (try clear hb2); (try clear hk); (try clear hi); obtain ⟨Ao13, co13, eo13⟩ := Kd.R_slice HO_3.o; subst eo13) | ((with_reducible refine gate_callee (f := 133) rfl ?_); refine goesL_ (some 24) rfl rfl Try.func133 (by kernel_rfl) rfl #[.slice Ao13 x3_1.length co13, .int .i64 (wrap64 (3 * (wrap64 (1 + t157)))), .int .i64 (wrap64 (2 * (wrap64 (1 + t160)))), .int .i64 x4_1] rfl M0 ?_; (with_reducible refine (spec_WriteLetter.calls k1 _ _ x3_1 (wrap64 (3 * (wrap64 (1 + t157)))) (wrap64 (2 * (wrap64 (1 + t160)))) x4_1 t163 t164 _ ?side1 ?side2 A9.o).mono ?_); (case side1 => exact Kd.qC (Kd.R_reads' HO_3.o).2.2); (case side2 => exact (Kd.R_reads' HO_3.o).2.1); rintro e w14 ⟨v165, rfl, ho0, hb⟩; refine ⟨_, rfl, ?_⟩; have _ := zK (Kd.R_elder' (Kd.qR HO_3.o) (Kd.R_base ho0) hb); have _ := zK (Kd.R_lower (Kd.R_new' ho0 (Kd.R_lt (Kd.qR HO_3.o))) (keep_size (w := w) (g := g) (row := none) M1)); have _ := zK (IsS187.below M6 hb); have _ := zK (KeepBut.trans M1 (KeepBut.of_below hb g none) (.inl rfl)); have _ := zK (bT M11 hb); clear HO_3 HI0 HK HB; rename_i HO_3 HO166 HI0 HK HB; (try clear hb); (try clear hb2); (try clear hk); (try clear hi); (try clear ho0)) | ((with_reducible refine gate_dst (N := 29) rfl ?_); refine Kd.R_lit (Kd.int .i64) _ 3 ?hg (N := 29) ?hd (xs := ([0, 50, 167, 168, 200] : List Int)) (inner := [.int .i64 0, .int .i64 50, .int .i64 167, .int .i64 168, .int .i64 200]) (ok := fun _ => True) (okp := fun _ => True) ?hr ?hp (fun _ hk => hk) trivial (Below.refl _ _) (Nat.le_refl _) (by simp) ?_; (case hd => rfl); (case hg => rfl); (case hr => first | (go_simp; done) | (go_simp; rfl)); (case hp => exact (Reps.one (show Kd.M (Kd.int .i64) _ _ _ 0 [.int .i64 0] from rfl) (Reps.one (show Kd.M (Kd.int .i64) _ _ _ 50 [.int .i64 50] from rfl) (Reps.one (show Kd.M (Kd.int .i64) _ _ _ 167 [.int .i64 167] from rfl) (Reps.one (show Kd.M (Kd.int .i64) _ _ _ 168 [.int .i64 168] from rfl) (Reps.one (show Kd.M (Kd.int .i64) _ _ _ 200 [.int .i64 200] from rfl) (Reps.none _ _))))))); intro v168 w15 ho16 hb hg_ hnew_; clear hg_ hnew_; (first | rw [← Ny167.o] at ho16 | (simp only [Int.reduceToNat] at ho16; rw [← Ny167.o] at ho16)); have _ := zK (Kd.R_below (Kd.qR HO_3.o) hb); have _ := zK (Kd.R_below (Kd.qR HO166.o) hb); have _ := zK (Kd.R_lower ho16 (keep_size (w := w) (g := g) (row := none) M1)); have _ := zK (IsS187.below M6 hb); have _ := zK (KeepBut.trans M1 (KeepBut.of_below hb g none) (.inl rfl)); have _ := zK (bT M11 hb); clear HO_3 HO166 HI0 HK HB; rename_i HO_3 HO166 HO169 HI0 HK HB; clear hb ho16; obtain ⟨Ao17, co17, eo17⟩ := Kd.R_slice HO169.o; subst eo17) | ((with_reducible refine gate_callee (f := 99) rfl ?_); refine goesL_ (some 30) rfl rfl Try.func99 (by kernel_rfl) rfl #[.pointer (some ⟨g, 0, none⟩), .slice Ao17 y167.length co17] rfl M0 ?_; (with_reducible refine (spec_l1Int.calls g s0_0 t161 t162 _ _ y167 t170 t171 t172 w0 _ ?side1 ?side2 ?side3 ?side4 ?side5 A10.o).mono ?_); (case side1 => repeat (first | (with_reducible first | exact HI0.o | apply IsS187.alloc | apply IsS187.drewN | apply IsS187.drew | apply IsS187.set_1 | apply IsS187.set_2) | exact HI0.o)); (case side2 => repeat (first | (with_reducible first | exact HB.o | apply bA | apply bN | apply below_drew1 | refine bS ?_ (IsS187.ge HI0.o)) | exact HB.o)); (case side3 => exact Kd.qC (Kd.R_reads' HO169.o).2.2); (case side4 => exact (Kd.R_reads' HO169.o).2.1); (case side5 => exact far_slice (IsS187.own_ne HI0.o HO169.o (by decide))); rintro e w18 ⟨rfl, hi, hb, hk⟩; refine ⟨_, rfl, ?_⟩; have _ := zK (Kd.R_mono (Kd.R_keep (IsS187.apart (show IsS187 w0 _ g s0_0 t161 t162 from Q0) (Kd.qR HO_3.o) (by decide)) hk (fun _ h => h.2)) (fun _ h => h.1)); have _ := zK (Kd.R_mono (Kd.R_keep (IsS187.apart (show IsS187 w0 _ g s0_0 t161 t162 from Q0) (Kd.qR HO166.o) (by decide)) hk (fun _ h => h.2)) (fun _ h => h.1)); have _ := zK (Kd.R_mono (Kd.R_keep (IsS187.apart (show IsS187 w0 _ g s0_0 t161 t162 from Q0) (Kd.qR HO169.o) (by decide)) hk (fun _ h => h.2)) (fun _ h => h.1)); have _ := zK (KeepBut.trans M1 hk (.inl rfl)); have _ := zK (hb); have _ := zK (hi); clear HO_3 HO166 HO169 HK HB HI0; rename_i HO_3 HO166 HO169 HK HB HI0; (try clear hb); (try clear hb2); (try clear hk); (try clear hi)))
   go_roundg k1
   case measure => have := HK1.o; omega
   case rel => exact ⟨(t163), (wrap64 (x4_1 + t170)), (wrap64 (x5_1 - 1)), (t171), (t172), M7, M7, H', ⟨by have := HK1.o; omega⟩, ⟨by (with_reducible repeat (first | apply Kd.RA | apply Kd.RN | apply Kd.RD)); exact Kd.R_mono HO166.o (fun _ hk => trivial)⟩, ⟨Q0⟩, ⟨Q3⟩, ⟨Q4⟩⟩
/-! ### spec_l4Raw: function 161 -/
def spec_l4Raw.f (s0_0 : List Int) (s0_1 : Int) (s0_2 : Int) : Option (Int × Int × Int) := (spec_l1Int.f s0_0 s0_1 s0_2 (([(-1), 0, 8, 50, 51, 1000, 9223372036854775807, (-9223372036854775808)] : List Int))).bind fun bt176 => (some (bt176.1, bt176.2.1, bt176.2.2))
set_option maxHeartbeats 8000000 in
set_option maxRecDepth 100000 in
theorem spec_l4Raw.calls (g : Nat) (s0_0 : List Int) (s0_1 : Int) (s0_2 : Int) (r1 : Int) (r2 : Int) (r3 : Int) (w0 w : World) (hI : IsS187 w0 w g s0_0 s0_1 s0_2) (hB : Below w0.heap.size w0 w) (h : spec_l4Raw.f s0_0 s0_1 s0_2 = some (r1, r2, r3)) :
  Calls Try.prog 161 #[.pointer (some ⟨g, 0, none⟩)] w fun e w' => e = .returned (.int .i64 r1) ∧ IsS187 w0 w' g s0_0 r2 r3 ∧ Below w0.heap.size w0 w' ∧ KeepBut w w' g none := by
 have HI0 := zK hI
 have HK := zK (KeepBut.refl w g none)
 have HL := zK hB.size
 clear hI
 have HW0 := zK hB.size
 have HB := zK hB
 clear hB
 have H : ((spec_l1Int.f s0_0 s0_1 s0_2 (([(-1), 0, 8, 50, 51, 1000, 9223372036854775807, (-9223372036854775808)] : List Int))).bind fun bt176 => (some (bt176.1, bt176.2.1, bt176.2.2))) = some (r1, r2, r3) := h
 clear h
 obtain ⟨y173, hy173⟩ : ∃ y_ : List Int, y_ = (([(-1), 0, 8, 50, 51, 1000, 9223372036854775807, (-9223372036854775808)] : List Int)) := ⟨_, rfl⟩
 replace H : ((spec_l1Int.f s0_0 s0_1 s0_2 y173).bind fun bt176 => (some (bt176.1, bt176.2.1, bt176.2.2))) = some (r1, r2, r3) := by first | (rw [hy173]; with_reducible exact H) | (have H2_ := (Option.bind_some _ _).symm.trans H; rw [hy173]; with_reducible exact H2_) | (have H2_ := (Option.bind_some _ _).symm.trans H; with_reducible exact H2_) | with_reducible exact H | (rw [hy173]; exact H) | exact H
 have Ny173 := zK hy173
 clear hy173
 replace H := Option.bind_eq_some_iff.mp H
 obtain ⟨⟨t176, t177, t178⟩, A20, H⟩ := H
 try dsimp only at H
 have A2 := zK A20
 clear A20
 simp only [Option.some.injEq, Prod.mk.injEq] at H
 obtain ⟨rfl, rfl, rfl⟩ := H
 go_enter Try.func161, Try.ntmps161
 go_wp2_with (first | ((with_reducible refine gate_dst (N := 4) rfl ?_); refine Kd.R_lit (Kd.int .i64) _ 3 ?hg (N := 4) ?hd (xs := ([(-1), 0, 8, 50, 51, 1000, 9223372036854775807, (-9223372036854775808)] : List Int)) (inner := [.int .i64 (-1), .int .i64 0, .int .i64 8, .int .i64 50, .int .i64 51, .int .i64 1000, .int .i64 9223372036854775807, .int .i64 (-9223372036854775808)]) (ok := fun _ => True) (okp := fun _ => True) ?hr ?hp (fun _ hk => hk) trivial (Below.refl _ _) (Nat.le_refl _) (by simp) ?_; (case hd => rfl); (case hg => rfl); (case hr => first | (go_simp; done) | (go_simp; rfl)); (case hp => exact (Reps.one (show Kd.M (Kd.int .i64) _ _ _ (-1) [.int .i64 (-1)] from rfl) (Reps.one (show Kd.M (Kd.int .i64) _ _ _ 0 [.int .i64 0] from rfl) (Reps.one (show Kd.M (Kd.int .i64) _ _ _ 8 [.int .i64 8] from rfl) (Reps.one (show Kd.M (Kd.int .i64) _ _ _ 50 [.int .i64 50] from rfl) (Reps.one (show Kd.M (Kd.int .i64) _ _ _ 51 [.int .i64 51] from rfl) (Reps.one (show Kd.M (Kd.int .i64) _ _ _ 1000 [.int .i64 1000] from rfl) (Reps.one (show Kd.M (Kd.int .i64) _ _ _ 9223372036854775807 [.int .i64 9223372036854775807] from rfl) (Reps.one (show Kd.M (Kd.int .i64) _ _ _ (-9223372036854775808) [.int .i64 (-9223372036854775808)] from rfl) (Reps.none _ _)))))))))); intro v174 w3 ho4 hb hg_ hnew_; clear hg_ hnew_; (first | rw [← Ny173.o] at ho4 | (simp only [Int.reduceToNat] at ho4; rw [← Ny173.o] at ho4)); have _ := zK (Kd.R_lower ho4 (keep_size (w := w) (g := g) (row := none) M1)); have _ := zK (IsS187.below M6 hb); have _ := zK (KeepBut.trans M1 (KeepBut.of_below hb g none) (.inl rfl)); have _ := zK (bT M11 hb); clear HI0 HK HB; rename_i HO175 HI0 HK HB; clear hb ho4; obtain ⟨Ao5, co5, eo5⟩ := Kd.R_slice HO175.o; subst eo5) | ((with_reducible refine gate_callee (f := 99) rfl ?_); refine goesL_ (some 5) rfl rfl Try.func99 (by kernel_rfl) rfl #[.pointer (some ⟨g, 0, none⟩), .slice Ao5 y173.length co5] rfl M0 ?_; (with_reducible refine (spec_l1Int.calls g s0_0 s0_1 s0_2 _ _ y173 t176 t177 t178 w0 _ ?side1 ?side2 ?side3 ?side4 ?side5 A2.o).mono ?_); (case side1 => repeat (first | (with_reducible first | exact HI0.o | apply IsS187.alloc | apply IsS187.drewN | apply IsS187.drew | apply IsS187.set_1 | apply IsS187.set_2) | exact HI0.o)); (case side2 => repeat (first | (with_reducible first | exact HB.o | apply bA | apply bN | apply below_drew1 | refine bS ?_ (IsS187.ge HI0.o)) | exact HB.o)); (case side3 => exact Kd.qC (Kd.R_reads' HO175.o).2.2); (case side4 => exact (Kd.R_reads' HO175.o).2.1); (case side5 => exact far_slice (IsS187.own_ne HI0.o HO175.o (by decide))); rintro e w6 ⟨rfl, hi, hb, hk⟩; refine ⟨_, rfl, ?_⟩; have _ := zK (Kd.R_mono (Kd.R_keep (IsS187.apart (show IsS187 w0 _ g s0_0 s0_1 s0_2 from Q0) (Kd.qR HO175.o) (by decide)) hk (fun _ h => h.2)) (fun _ h => h.1)); have _ := zK (KeepBut.trans M1 hk (.inl rfl)); have _ := zK (hb); have _ := zK (hi); clear HO175 HK HB HI0; rename_i HO175 HK HB HI0; (try clear hb); (try clear hb2); (try clear hk); (try clear hi)))
 go_ret
 exact ⟨by first | rfl | (simp [errW_none, errW_some] <;> rfl) | (simp [*, errW_none, errW_some] <;> rfl), Q0, Q4, Q3⟩
/-! ### spec_l23Any: function 111 -/
def spec_l23Any.f (k : Nat) (s0_0 : List Int) (s0_1 : Int) (s0_2 : Int) : Option ((List (S81)) × Int × Int) := (spec_l23Draw.f k s0_0 s0_1 s0_2).bind fun bt179 => (if (bt179.1.length : Int) = 0 then (some (bt179.1, bt179.2.1, bt179.2.2)) else ((spec_l1Below.f s0_0 bt179.2.1 bt179.2.2 (bt179.1.length : Int)).bind fun bt184 => ((spec_l1Below.f s0_0 bt184.2.1 bt184.2.2 12).bind fun bt187 => (if bt187.1 = 0 then ((spec_l1Int.f s0_0 bt187.2.1 bt187.2.2 (([0, 3, 999, 1000] : List Int))).bind fun bt193 => (if 0 ≤ bt184.1 then (if bt184.1 < (bt179.1.length : Int) then (some ((bt179.1.set (bt184.1 : Int).toNat (⟨bt193.1, (rd_T81 bt179.1 bt184.1).f1, (rd_T81 bt179.1 bt184.1).f2⟩ : S81)), bt193.2.1, bt193.2.2)) else (none)) else (none))) else (if bt187.1 = 1 then ((spec_l4Raw.f s0_0 bt187.2.1 bt187.2.2).bind fun bt197 => (if 0 ≤ bt184.1 then (if bt184.1 < (bt179.1.length : Int) then (some ((bt179.1.set (bt184.1 : Int).toNat (⟨(rd_T81 bt179.1 bt184.1).f0, bt197.1, (rd_T81 bt179.1 bt184.1).f2⟩ : S81)), bt197.2.1, bt197.2.2)) else (none)) else (none))) else (if bt187.1 = 2 then ((spec_l4Raw.f s0_0 bt187.2.1 bt187.2.2).bind fun bt201 => (if 0 ≤ bt184.1 then (if bt184.1 < (bt179.1.length : Int) then (some ((bt179.1.set (bt184.1 : Int).toNat (⟨(rd_T81 bt179.1 bt184.1).f0, (rd_T81 bt179.1 bt184.1).f1, bt201.1⟩ : S81)), bt201.2.1, bt201.2.2)) else (none)) else (none))) else (some (bt179.1, bt187.2.1, bt187.2.2))))))))
set_option maxRecDepth 100000 in
theorem lf3_0 {p : Prop} (h : p := by
  go_enter Try.func111, Try.ntmps111
  go_wp2_with (first | ((with_reducible refine gate_callee (f := 160) rfl ?_); refine goesL_ (some 6) rfl rfl Try.func160 (by kernel_rfl) rfl #[.pointer (some ⟨g, 0, none⟩)] rfl M0 ?_; (with_reducible refine (spec_l23Draw.calls k g s0_0 s0_1 s0_2 t179 t182 t183 w0 _ ?side1 ?side2 A2.o).mono ?_); (case side1 => repeat (first | (with_reducible first | exact HI0.o | apply IsS187.alloc | apply IsS187.drewN | apply IsS187.drew | apply IsS187.set_1 | apply IsS187.set_2) | exact HI0.o)); (case side2 => repeat (first | (with_reducible first | exact HB.o | apply bA | apply bN | apply below_drew1 | refine bS ?_ (IsS187.ge HI0.o)) | exact HB.o)); rintro e wz0 ⟨v180, rfl, ho0, hi, hb, hk⟩; refine ⟨_, rfl, ?_⟩; have _ := zK (Kd.R_lower ho0 (keep_size (w := w) (g := g) (row := none) M1)); have _ := zK (KeepBut.trans M1 hk (.inl rfl)); have _ := zK (hb); have _ := zK (hi); clear HK HB HI0; rename_i HO181 HK HB HI0; (try clear hb); (try clear hb2); (try clear hk); (try clear hi); (try clear ho0); obtain ⟨Aoz0, coz0, eoz0⟩ := Kd.R_slice HO181.o; subst eoz0) | ((with_reducible refine gate_callee (f := 98) rfl ?_); refine goesL_ (some 14) rfl rfl Try.func98 (by kernel_rfl) rfl #[.pointer (some ⟨g, 0, none⟩), .int .i64 (t179.length : Int)] rfl M0 ?_; (with_reducible refine (spec_l1Below.calls g s0_0 t182 t183 (t179.length : Int) t184 t185 t186 w0 _ ?side1 ?side2 A6.o).mono ?_); (case side1 => repeat (first | (with_reducible first | exact HI0.o | apply IsS187.alloc | apply IsS187.drewN | apply IsS187.drew | apply IsS187.set_1 | apply IsS187.set_2) | exact HI0.o)); (case side2 => repeat (first | (with_reducible first | exact HB.o | apply bA | apply bN | apply below_drew1 | refine bS ?_ (IsS187.ge HI0.o)) | exact HB.o)); rintro e wz1 ⟨rfl, hi, hb, hk⟩; refine ⟨_, rfl, ?_⟩; have _ := zK (Kd.R_mono (Kd.R_keep (IsS187.apart (show IsS187 w0 _ g s0_0 t182 t183 from Q0) (Kd.qR HO181.o) (by decide)) hk (fun _ h => h.2)) (fun _ h => h.1)); have _ := zK (KeepBut.trans M1 hk (.inl rfl)); have _ := zK (hb); have _ := zK (hi); clear HO181 HK HB HI0; rename_i HO181 HK HB HI0; (try clear hb); (try clear hb2); (try clear hk); (try clear hi)) | ((with_reducible refine gate_callee (f := 98) rfl ?_); refine goesL_ (some 16) rfl rfl Try.func98 (by kernel_rfl) rfl #[.pointer (some ⟨g, 0, none⟩), .int .i64 12] rfl M0 ?_; (with_reducible refine (spec_l1Below.calls g s0_0 t185 t186 12 t187 t188 t189 w0 _ ?side1 ?side2 A7.o).mono ?_); (case side1 => repeat (first | (with_reducible first | exact HI0.o | apply IsS187.alloc | apply IsS187.drewN | apply IsS187.drew | apply IsS187.set_1 | apply IsS187.set_2) | exact HI0.o)); (case side2 => repeat (first | (with_reducible first | exact HB.o | apply bA | apply bN | apply below_drew1 | refine bS ?_ (IsS187.ge HI0.o)) | exact HB.o)); rintro e wz2 ⟨rfl, hi, hb, hk⟩; refine ⟨_, rfl, ?_⟩; have _ := zK (Kd.R_mono (Kd.R_keep (IsS187.apart (show IsS187 w0 _ g s0_0 t185 t186 from Q0) (Kd.qR HO181.o) (by decide)) hk (fun _ h => h.2)) (fun _ h => h.1)); have _ := zK (KeepBut.trans M1 hk (.inl rfl)); have _ := zK (hb); have _ := zK (hi); clear HO181 HK HB HI0; rename_i HO181 HK HB HI0; (try clear hb); (try clear hb2); (try clear hk); (try clear hi)) | ((with_reducible refine gate_dst (N := 22) rfl ?_); refine Kd.R_lit (Kd.int .i64) _ 3 ?hg (N := 22) ?hd (xs := ([0, 3, 999, 1000] : List Int)) (inner := [.int .i64 0, .int .i64 3, .int .i64 999, .int .i64 1000]) (ok := fun _ => True) (okp := fun _ => True) ?hr ?hp (fun _ hk => hk) trivial (Below.refl _ _) (Nat.le_refl _) (by simp) ?_; (case hd => rfl); (case hg => rfl); (case hr => first | (go_simp; done) | (go_simp; rfl)); (case hp => exact (Reps.one (show Kd.M (Kd.int .i64) _ _ _ 0 [.int .i64 0] from rfl) (Reps.one (show Kd.M (Kd.int .i64) _ _ _ 3 [.int .i64 3] from rfl) (Reps.one (show Kd.M (Kd.int .i64) _ _ _ 999 [.int .i64 999] from rfl) (Reps.one (show Kd.M (Kd.int .i64) _ _ _ 1000 [.int .i64 1000] from rfl) (Reps.none _ _)))))); intro v191 wz3 ho18 hb hg_ hnew_; clear hg_ hnew_; (first | rw [← Ny190.o] at ho18 | (simp only [Int.reduceToNat] at ho18; rw [← Ny190.o] at ho18)); have _ := zK (Kd.R_below (Kd.qR HO181.o) hb); have _ := zK (Kd.R_lower ho18 (keep_size (w := w) (g := g) (row := none) M1)); have _ := zK (IsS187.below M6 hb); have _ := zK (KeepBut.trans M1 (KeepBut.of_below hb g none) (.inl rfl)); have _ := zK (bT M11 hb); clear HO181 HI0 HK HB; rename_i HO181 HO192 HI0 HK HB; clear hb ho18; obtain ⟨Aoz1, coz1, eoz1⟩ := Kd.R_slice HO192.o; subst eoz1) | ((with_reducible refine gate_callee (f := 99) rfl ?_); refine goesL_ (some 23) rfl rfl Try.func99 (by kernel_rfl) rfl #[.pointer (some ⟨g, 0, none⟩), .slice Aoz1 y190.length coz1] rfl M0 ?_; (with_reducible refine (spec_l1Int.calls g s0_0 t188 t189 _ _ y190 t193 t194 t195 w0 _ ?side1 ?side2 ?side3 ?side4 ?side5 A9.o).mono ?_); (case side1 => repeat (first | (with_reducible first | exact HI0.o | apply IsS187.alloc | apply IsS187.drewN | apply IsS187.drew | apply IsS187.set_1 | apply IsS187.set_2) | exact HI0.o)); (case side2 => repeat (first | (with_reducible first | exact HB.o | apply bA | apply bN | apply below_drew1 | refine bS ?_ (IsS187.ge HI0.o)) | exact HB.o)); (case side3 => exact Kd.qC (Kd.R_reads' HO192.o).2.2); (case side4 => exact (Kd.R_reads' HO192.o).2.1); (case side5 => exact far_slice (IsS187.own_ne HI0.o HO192.o (by decide))); rintro e wz4 ⟨rfl, hi, hb, hk⟩; refine ⟨_, rfl, ?_⟩; have _ := zK (Kd.R_mono (Kd.R_keep (IsS187.apart (show IsS187 w0 _ g s0_0 t188 t189 from Q0) (Kd.qR HO181.o) (by decide)) hk (fun _ h => h.2)) (fun _ h => h.1)); have _ := zK (Kd.R_mono (Kd.R_keep (IsS187.apart (show IsS187 w0 _ g s0_0 t188 t189 from Q0) (Kd.qR HO192.o) (by decide)) hk (fun _ h => h.2)) (fun _ h => h.1)); have _ := zK (KeepBut.trans M1 hk (.inl rfl)); have _ := zK (hb); have _ := zK (hi); clear HO181 HO192 HK HB HI0; rename_i HO181 HO192 HK HB HI0; (try clear hb); (try clear hb2); (try clear hk); (try clear hi); have p12 : 0 ≤ (t184 : Int) := oD M3; have q12 : (t184 : Int) < ((t179.length : Int) : Int) := oD M3; obtain ⟨goz0, coz2, eoz2, gb12, glz0, clz0, HGz0⟩ := Kd.R_form HO181.o (by omega); (first | cases eoz2 | (injection eoz2 with ea_ en_ ec_; (first | subst ea_ | (injection ea_ with ea_; subst ea_)); subst ec_; clear en_)); have GBz0 := zK gb12; have GGz0 := zK HGz0; clear gb12 glz0 HGz0; obtain ⟨cez0, hclz0, hMz0, hccz0, hfrz0⟩ := Kd.R_elem HO181.o z81 (t184 : Int) p12 q12; obtain rfl := k81_openM hMz0; have hxz0_0 : wz4.cell? ⟨goz0, (t184 : Int).toNat * 3, none⟩ = some (.int .i64 ((rd_T81 t179 t184).f0)) := hccz0 0 _ rfl; have hxz0_1 : wz4.cell? ⟨goz0, (t184 : Int).toNat * 3 + 1, none⟩ = some (.int .i64 ((rd_T81 t179 t184).f1)) := hccz0 1 _ rfl; have hxz0_2 : wz4.cell? ⟨goz0, (t184 : Int).toNat * 3 + 2, none⟩ = some (.int .i64 ((rd_T81 t179 t184).f2)) := hccz0 2 _ rfl; have hfz0_0 : wz4.frozen? ⟨goz0, (t184 : Int).toNat * 3, none⟩ = false := hfrz0 0; have hfz0_1 : wz4.frozen? ⟨goz0, (t184 : Int).toNat * 3 + 1, none⟩ = false := hfrz0 1; have hfz0_2 : wz4.frozen? ⟨goz0, (t184 : Int).toNat * 3 + 2, none⟩ = false := hfrz0 2; clear hclz0 hccz0 hfrz0 hMz0; replace p12 := eq_true p12; replace q12 := eq_true q12; have HXz0 := zK (show Kd.R k81 81 wz4 w.heap.size (fun _ => True) (.slice (some ⟨goz0, 0, none⟩) t179.length coz0) t179 from (Kd.qR HO181.o)); obtain ⟨cez1, hclz1, hMz1, hccz1, hfrz1⟩ := Kd.R_elem HXz0.o z81 (t184 : Int) (oD M3) (by have h_ : (t184 : Int) < ((t179.length : Int) : Int) := oD M3; first | exact h_ | (have e_ := (Kd.R_reads' HO181.o).1; omega) | simpa using h_); obtain rfl := k81_openM hMz1; have HPz0 := Kd.R_seg HXz0.o (t184 : Int) (oD M3) (by have h_ : (t184 : Int) < ((t179.length : Int) : Int) := oD M3; first | exact h_ | (have e_ := (Kd.R_reads' HO181.o).1; omega) | simpa using h_) (seg := [.int .i64 t193]) (j := 0) hclz1 hccz1 (show 1 ≤ 3 from by decide) (x' := (⟨t193, (rd_T81 t179 t184).f1, (rd_T81 t179 t184).f2⟩ : S81)) (k81_mkM _ _ _ (⟨t193, (rd_T81 t179 t184).f1, (rd_T81 t179 t184).f2⟩ : S81) ) (fun _ hk => hk); have hxz1_0 := hccz1 0 _ rfl; (try simp only [show (k81).sz = 3 from rfl, Nat.mul_one, Nat.add_zero] at hxz1_0); have hfz1_0 := hfrz1 0; (try simp only [show (k81).sz = 3 from rfl, Nat.mul_one, Nat.add_zero] at hfz1_0); clear hclz1 hccz1 hfrz1 hMz1) | ((with_reducible refine gate_store (t := 3) (p := 25) rfl ?_); refine store_event (t := 3) (p := 25) (v := ?vo_p25) (w1 := (wz4.setCell ⟨goz0, (t184 : Int).toNat * 3, none⟩ (.int .i64 t193))) ?hg ?ho ?hn ?hr ?_; (case ho => rfl); (case hg => rfl); (case hn => rfl); (case hr => first | (go_simp; done) | (go_simp; rfl)); intro wz5 hw; have hg : wz4.grownBy wz5 (some goz0) := (by rw [hw]; exact HPz0.2); have hp_ : Kd.R k81 81 wz5 w.heap.size (fun _ => True) (.slice (some ⟨goz0, 0, none⟩) t179.length coz0) y196 := (by rw [hw, Ny196.o]; exact HPz0.1); clear HPz0; have _ := zK (IsS187.grown M6 hg (IsS187.own_ne HI0.o HO181.o (by decide))); have _ := zK (hp_); have _ := zK (Kd.R_over' (v := (.slice (some ⟨goz0, 0, none⟩) t179.length coz0)) (Kd.qR HO192.o) (Kd.R_typed HO181.o) (by decide) hg); have _ := zK ((by rw [hw]; exact bS (HB.o) (Nat.le_trans HL.o GBz0.o) : Below w0.heap.size w0 wz5)); have _ := zK (KeepBut.trans M1 (KeepBut.of_grown hg g) (Kd.R_base2 HO181.o)); clear HI0 HO181 HO192 HB HK; rename_i HI0 HO181 HO192 HB HK; clear hg hw hp_) | ((with_reducible refine gate_callee (f := 161) rfl ?_); refine goesL_ (some 31) rfl rfl Try.func161 (by kernel_rfl) rfl #[.pointer (some ⟨g, 0, none⟩)] rfl M0 ?_; (with_reducible refine (spec_l4Raw.calls g s0_0 t188 t189 t197 t198 t199 w0 _ ?side1 ?side2 A24.o).mono ?_); (case side1 => repeat (first | (with_reducible first | exact HI0.o | apply IsS187.alloc | apply IsS187.drewN | apply IsS187.drew | apply IsS187.set_1 | apply IsS187.set_2) | exact HI0.o)); (case side2 => repeat (first | (with_reducible first | exact HB.o | apply bA | apply bN | apply below_drew1 | refine bS ?_ (IsS187.ge HI0.o)) | exact HB.o)); rintro e wz3 ⟨rfl, hi, hb, hk⟩; refine ⟨_, rfl, ?_⟩; have _ := zK (Kd.R_mono (Kd.R_keep (IsS187.apart (show IsS187 w0 _ g s0_0 t188 t189 from Q0) (Kd.qR HO181.o) (by decide)) hk (fun _ h => h.2)) (fun _ h => h.1)); have _ := zK (KeepBut.trans M1 hk (.inl rfl)); have _ := zK (hb); have _ := zK (hi); clear HO181 HK HB HI0; rename_i HO181 HK HB HI0; (try clear hb); (try clear hb2); (try clear hk); (try clear hi); have p27 : 0 ≤ (t184 : Int) := oD M3; have q27 : (t184 : Int) < ((t179.length : Int) : Int) := oD M3; obtain ⟨goz0, coz1, eoz1, gb27, glz0, clz0, HGz0⟩ := Kd.R_form HO181.o (by omega); (first | cases eoz1 | (injection eoz1 with ea_ en_ ec_; (first | subst ea_ | (injection ea_ with ea_; subst ea_)); subst ec_; clear en_)); have GBz0 := zK gb27; have GGz0 := zK HGz0; clear gb27 glz0 HGz0; obtain ⟨cez0, hclz0, hMz0, hccz0, hfrz0⟩ := Kd.R_elem HO181.o z81 (t184 : Int) p27 q27; obtain rfl := k81_openM hMz0; have hxz0_0 : wz3.cell? ⟨goz0, (t184 : Int).toNat * 3, none⟩ = some (.int .i64 ((rd_T81 t179 t184).f0)) := hccz0 0 _ rfl; have hxz0_1 : wz3.cell? ⟨goz0, (t184 : Int).toNat * 3 + 1, none⟩ = some (.int .i64 ((rd_T81 t179 t184).f1)) := hccz0 1 _ rfl; have hxz0_2 : wz3.cell? ⟨goz0, (t184 : Int).toNat * 3 + 2, none⟩ = some (.int .i64 ((rd_T81 t179 t184).f2)) := hccz0 2 _ rfl; have hfz0_0 : wz3.frozen? ⟨goz0, (t184 : Int).toNat * 3, none⟩ = false := hfrz0 0; have hfz0_1 : wz3.frozen? ⟨goz0, (t184 : Int).toNat * 3 + 1, none⟩ = false := hfrz0 1; have hfz0_2 : wz3.frozen? ⟨goz0, (t184 : Int).toNat * 3 + 2, none⟩ = false := hfrz0 2; clear hclz0 hccz0 hfrz0 hMz0; replace p27 := eq_true p27; replace q27 := eq_true q27; have HXz0 := zK (show Kd.R k81 81 wz3 w.heap.size (fun _ => True) (.slice (some ⟨goz0, 0, none⟩) t179.length coz0) t179 from (Kd.qR HO181.o)); obtain ⟨cez1, hclz1, hMz1, hccz1, hfrz1⟩ := Kd.R_elem HXz0.o z81 (t184 : Int) (oD M3) (by have h_ : (t184 : Int) < ((t179.length : Int) : Int) := oD M3; first | exact h_ | (have e_ := (Kd.R_reads' HO181.o).1; omega) | simpa using h_); obtain rfl := k81_openM hMz1; have HPz0 := Kd.R_seg HXz0.o (t184 : Int) (oD M3) (by have h_ : (t184 : Int) < ((t179.length : Int) : Int) := oD M3; first | exact h_ | (have e_ := (Kd.R_reads' HO181.o).1; omega) | simpa using h_) (seg := [.int .i64 t197]) (j := 1) hclz1 hccz1 (show 2 ≤ 3 from by decide) (x' := (⟨(rd_T81 t179 t184).f0, t197, (rd_T81 t179 t184).f2⟩ : S81)) (k81_mkM _ _ _ (⟨(rd_T81 t179 t184).f0, t197, (rd_T81 t179 t184).f2⟩ : S81) ) (fun _ hk => hk); have hxz1_1 := hccz1 1 _ rfl; (try simp only [show (k81).sz = 3 from rfl, Nat.mul_one, Nat.add_zero] at hxz1_1); have hfz1_1 := hfrz1 1; (try simp only [show (k81).sz = 3 from rfl, Nat.mul_one, Nat.add_zero] at hfz1_1); clear hclz1 hccz1 hfrz1 hMz1) | ((with_reducible refine gate_store (t := 3) (p := 33) rfl ?_); refine store_event (t := 3) (p := 33) (v := ?vo_p33) (w1 := (wz3.setCell ⟨goz0, (t184 : Int).toNat * 3 + 1, none⟩ (.int .i64 t197))) ?hg ?ho ?hn ?hr ?_; (case ho => rfl); (case hg => rfl); (case hn => rfl); (case hr => first | (go_simp; done) | (go_simp; rfl)); intro wz4 hw; have hg : wz3.grownBy wz4 (some goz0) := (by rw [hw]; exact HPz0.2); have hp_ : Kd.R k81 81 wz4 w.heap.size (fun _ => True) (.slice (some ⟨goz0, 0, none⟩) t179.length coz0) y200 := (by rw [hw, Ny200.o]; exact HPz0.1); clear HPz0; have _ := zK (IsS187.grown M6 hg (IsS187.own_ne HI0.o HO181.o (by decide))); have _ := zK (hp_); have _ := zK ((by rw [hw]; exact bS (HB.o) (Nat.le_trans HL.o GBz0.o) : Below w0.heap.size w0 wz4)); have _ := zK (KeepBut.trans M1 (KeepBut.of_grown hg g) (Kd.R_base2 HO181.o)); clear HI0 HO181 HB HK; rename_i HI0 HO181 HB HK; clear hg hw hp_) | ((with_reducible refine gate_callee (f := 161) rfl ?_); refine goesL_ (some 39) rfl rfl Try.func161 (by kernel_rfl) rfl #[.pointer (some ⟨g, 0, none⟩)] rfl M0 ?_; (with_reducible refine (spec_l4Raw.calls g s0_0 t188 t189 t201 t202 t203 w0 _ ?side1 ?side2 A36.o).mono ?_); (case side1 => repeat (first | (with_reducible first | exact HI0.o | apply IsS187.alloc | apply IsS187.drewN | apply IsS187.drew | apply IsS187.set_1 | apply IsS187.set_2) | exact HI0.o)); (case side2 => repeat (first | (with_reducible first | exact HB.o | apply bA | apply bN | apply below_drew1 | refine bS ?_ (IsS187.ge HI0.o)) | exact HB.o)); rintro e wz3 ⟨rfl, hi, hb, hk⟩; refine ⟨_, rfl, ?_⟩; have _ := zK (Kd.R_mono (Kd.R_keep (IsS187.apart (show IsS187 w0 _ g s0_0 t188 t189 from Q0) (Kd.qR HO181.o) (by decide)) hk (fun _ h => h.2)) (fun _ h => h.1)); have _ := zK (KeepBut.trans M1 hk (.inl rfl)); have _ := zK (hb); have _ := zK (hi); clear HO181 HK HB HI0; rename_i HO181 HK HB HI0; (try clear hb); (try clear hb2); (try clear hk); (try clear hi); have p39 : 0 ≤ (t184 : Int) := oD M3; have q39 : (t184 : Int) < ((t179.length : Int) : Int) := oD M3; obtain ⟨goz0, coz1, eoz1, gb39, glz0, clz0, HGz0⟩ := Kd.R_form HO181.o (by omega); (first | cases eoz1 | (injection eoz1 with ea_ en_ ec_; (first | subst ea_ | (injection ea_ with ea_; subst ea_)); subst ec_; clear en_)); have GBz0 := zK gb39; have GGz0 := zK HGz0; clear gb39 glz0 HGz0; obtain ⟨cez0, hclz0, hMz0, hccz0, hfrz0⟩ := Kd.R_elem HO181.o z81 (t184 : Int) p39 q39; obtain rfl := k81_openM hMz0; have hxz0_0 : wz3.cell? ⟨goz0, (t184 : Int).toNat * 3, none⟩ = some (.int .i64 ((rd_T81 t179 t184).f0)) := hccz0 0 _ rfl; have hxz0_1 : wz3.cell? ⟨goz0, (t184 : Int).toNat * 3 + 1, none⟩ = some (.int .i64 ((rd_T81 t179 t184).f1)) := hccz0 1 _ rfl; have hxz0_2 : wz3.cell? ⟨goz0, (t184 : Int).toNat * 3 + 2, none⟩ = some (.int .i64 ((rd_T81 t179 t184).f2)) := hccz0 2 _ rfl; have hfz0_0 : wz3.frozen? ⟨goz0, (t184 : Int).toNat * 3, none⟩ = false := hfrz0 0; have hfz0_1 : wz3.frozen? ⟨goz0, (t184 : Int).toNat * 3 + 1, none⟩ = false := hfrz0 1; have hfz0_2 : wz3.frozen? ⟨goz0, (t184 : Int).toNat * 3 + 2, none⟩ = false := hfrz0 2; clear hclz0 hccz0 hfrz0 hMz0; replace p39 := eq_true p39; replace q39 := eq_true q39; have HXz0 := zK (show Kd.R k81 81 wz3 w.heap.size (fun _ => True) (.slice (some ⟨goz0, 0, none⟩) t179.length coz0) t179 from (Kd.qR HO181.o)); obtain ⟨cez1, hclz1, hMz1, hccz1, hfrz1⟩ := Kd.R_elem HXz0.o z81 (t184 : Int) (oD M3) (by have h_ : (t184 : Int) < ((t179.length : Int) : Int) := oD M3; first | exact h_ | (have e_ := (Kd.R_reads' HO181.o).1; omega) | simpa using h_); obtain rfl := k81_openM hMz1; have HPz0 := Kd.R_seg HXz0.o (t184 : Int) (oD M3) (by have h_ : (t184 : Int) < ((t179.length : Int) : Int) := oD M3; first | exact h_ | (have e_ := (Kd.R_reads' HO181.o).1; omega) | simpa using h_) (seg := [.int .i64 t201]) (j := 2) hclz1 hccz1 (show 3 ≤ 3 from by decide) (x' := (⟨(rd_T81 t179 t184).f0, (rd_T81 t179 t184).f1, t201⟩ : S81)) (k81_mkM _ _ _ (⟨(rd_T81 t179 t184).f0, (rd_T81 t179 t184).f1, t201⟩ : S81) ) (fun _ hk => hk); have hxz1_2 := hccz1 2 _ rfl; (try simp only [show (k81).sz = 3 from rfl, Nat.mul_one, Nat.add_zero] at hxz1_2); have hfz1_2 := hfrz1 2; (try simp only [show (k81).sz = 3 from rfl, Nat.mul_one, Nat.add_zero] at hfz1_2); clear hclz1 hccz1 hfrz1 hMz1) | ((with_reducible refine gate_store (t := 3) (p := 41) rfl ?_); refine store_event (t := 3) (p := 41) (v := ?vo_p41) (w1 := (wz3.setCell ⟨goz0, (t184 : Int).toNat * 3 + 2, none⟩ (.int .i64 t201))) ?hg ?ho ?hn ?hr ?_; (case ho => rfl); (case hg => rfl); (case hn => rfl); (case hr => first | (go_simp; done) | (go_simp; rfl)); intro wz4 hw; have hg : wz3.grownBy wz4 (some goz0) := (by rw [hw]; exact HPz0.2); have hp_ : Kd.R k81 81 wz4 w.heap.size (fun _ => True) (.slice (some ⟨goz0, 0, none⟩) t179.length coz0) y204 := (by rw [hw, Ny204.o]; exact HPz0.1); clear HPz0; have _ := zK (IsS187.grown M6 hg (IsS187.own_ne HI0.o HO181.o (by decide))); have _ := zK (hp_); have _ := zK ((by rw [hw]; exact bS (HB.o) (Nat.le_trans HL.o GBz0.o) : Below w0.heap.size w0 wz4)); have _ := zK (KeepBut.trans M1 (KeepBut.of_grown hg g) (Kd.R_base2 HO181.o)); clear HI0 HO181 HB HK; rename_i HI0 HO181 HB HK; clear hg hw hp_))
  go_ret
  exact ⟨_, by first | rfl | (simp [errW_none, errW_some] <;> rfl) | (simp [*, errW_none, errW_some] <;> rfl), by exact Kd.qR HO181.o, Q0, Q4, Q3⟩) : p := h
set_option maxHeartbeats 8000000 in
set_option maxRecDepth 100000 in
theorem spec_l23Any.calls (k : Nat) (g : Nat) (s0_0 : List Int) (s0_1 : Int) (s0_2 : Int) (r1 : List (S81)) (r2 : Int) (r3 : Int) (w0 w : World) (hI : IsS187 w0 w g s0_0 s0_1 s0_2) (hB : Below w0.heap.size w0 w) (h : spec_l23Any.f k s0_0 s0_1 s0_2 = some (r1, r2, r3)) :
  Calls Try.prog 111 #[.pointer (some ⟨g, 0, none⟩)] w fun e w' => ∃ v0_ : Value, e = .returned (v0_) ∧ Kd.R k81 81 w' w.heap.size (fun _ => True) v0_ r1 ∧ IsS187 w0 w' g s0_0 r2 r3 ∧ Below w0.heap.size w0 w' ∧ KeepBut w w' g none := by
 have HI0 := zK hI
 have HK := zK (KeepBut.refl w g none)
 have HL := zK hB.size
 clear hI
 have HW0 := zK hB.size
 have HB := zK hB
 clear hB
 have H : ((spec_l23Draw.f k s0_0 s0_1 s0_2).bind fun bt179 => (if (bt179.1.length : Int) = 0 then (some (bt179.1, bt179.2.1, bt179.2.2)) else ((spec_l1Below.f s0_0 bt179.2.1 bt179.2.2 (bt179.1.length : Int)).bind fun bt184 => ((spec_l1Below.f s0_0 bt184.2.1 bt184.2.2 12).bind fun bt187 => (if bt187.1 = 0 then ((spec_l1Int.f s0_0 bt187.2.1 bt187.2.2 (([0, 3, 999, 1000] : List Int))).bind fun bt193 => (if 0 ≤ bt184.1 then (if bt184.1 < (bt179.1.length : Int) then (some ((bt179.1.set (bt184.1 : Int).toNat (⟨bt193.1, (rd_T81 bt179.1 bt184.1).f1, (rd_T81 bt179.1 bt184.1).f2⟩ : S81)), bt193.2.1, bt193.2.2)) else (none)) else (none))) else (if bt187.1 = 1 then ((spec_l4Raw.f s0_0 bt187.2.1 bt187.2.2).bind fun bt197 => (if 0 ≤ bt184.1 then (if bt184.1 < (bt179.1.length : Int) then (some ((bt179.1.set (bt184.1 : Int).toNat (⟨(rd_T81 bt179.1 bt184.1).f0, bt197.1, (rd_T81 bt179.1 bt184.1).f2⟩ : S81)), bt197.2.1, bt197.2.2)) else (none)) else (none))) else (if bt187.1 = 2 then ((spec_l4Raw.f s0_0 bt187.2.1 bt187.2.2).bind fun bt201 => (if 0 ≤ bt184.1 then (if bt184.1 < (bt179.1.length : Int) then (some ((bt179.1.set (bt184.1 : Int).toNat (⟨(rd_T81 bt179.1 bt184.1).f0, (rd_T81 bt179.1 bt184.1).f1, bt201.1⟩ : S81)), bt201.2.1, bt201.2.2)) else (none)) else (none))) else (some (bt179.1, bt187.2.1, bt187.2.2))))))))) = some (r1, r2, r3) := h
 clear h
 replace H := Option.bind_eq_some_iff.mp H
 obtain ⟨⟨t179, t182, t183⟩, A20, H⟩ := H
 try dsimp only at H
 have A2 := zK A20
 clear A20
 by_cases c3 : (t179.length : Int) = 0
 ·rw [if_pos c3] at H
  have c3b0 : ((t179.length : Int) == 0) = true := beq_iff_eq.mpr c3
  have c3b1 : ((t179.length : Int) != 0) = false := bne_eq_false_iff_eq.mpr c3
  clear c3
  simp only [Option.some.injEq, Prod.mk.injEq] at H
  obtain ⟨rfl, rfl, rfl⟩ := H
  exact lf3_0
 rw [if_neg c3] at H
 have c3b0 : ((t179.length : Int) == 0) = false := beq_eq_false_iff_ne.mpr c3
 have c3b1 : ((t179.length : Int) != 0) = true := bne_iff_ne.mpr c3
 have c3b2 : ¬ (t179 = []) := fun h_ => c3 (by rw [h_]; rfl)
 replace H := Option.bind_eq_some_iff.mp H
 obtain ⟨⟨t184, t185, t186⟩, A60, H⟩ := H
 try dsimp only at H
 have A6 := zK A60
 clear A60
 replace H := Option.bind_eq_some_iff.mp H
 obtain ⟨⟨t187, t188, t189⟩, A70, H⟩ := H
 try dsimp only at H
 have A7 := zK A70
 clear A70
 by_cases c8 : t187 = 0
 ·rw [if_pos c8] at H
  have c8b0 : (t187 == 0) = true := beq_iff_eq.mpr c8
  have c8b1 : (t187 != 0) = false := bne_eq_false_iff_eq.mpr c8
  clear c8
  obtain ⟨y190, hy190⟩ : ∃ y_ : List Int, y_ = (([0, 3, 999, 1000] : List Int)) := ⟨_, rfl⟩
  replace H : ((spec_l1Int.f s0_0 t188 t189 y190).bind fun bt193 => (if 0 ≤ t184 then (if t184 < (t179.length : Int) then (some ((t179.set (t184 : Int).toNat (⟨bt193.1, (rd_T81 t179 t184).f1, (rd_T81 t179 t184).f2⟩ : S81)), bt193.2.1, bt193.2.2)) else (none)) else (none))) = some (r1, r2, r3) := by first | (rw [hy190]; with_reducible exact H) | (have H2_ := (Option.bind_some _ _).symm.trans H; rw [hy190]; with_reducible exact H2_) | (have H2_ := (Option.bind_some _ _).symm.trans H; with_reducible exact H2_) | with_reducible exact H | (rw [hy190]; exact H) | exact H
  have Ny190 := zK hy190
  clear hy190
  replace H := Option.bind_eq_some_iff.mp H
  obtain ⟨⟨t193, t194, t195⟩, A90, H⟩ := H
  try dsimp only at H
  have A9 := zK A90
  clear A90
  by_cases c10 : 0 ≤ t184
  rotate_left
  ·rw [if_neg c10] at H
   exact absurd H (by simp)
  rw [if_pos c10] at H
  have c10b0 : decide (0 ≤ t184) = true := decide_eq_true c10
  clear c10
  by_cases c11 : t184 < (t179.length : Int)
  rotate_left
  ·rw [if_neg c11] at H
   exact absurd H (by simp)
  rw [if_pos c11] at H
  have c11b0 : decide (t184 < (t179.length : Int)) = true := decide_eq_true c11
  clear c11
  obtain ⟨y196, hy196⟩ : ∃ y_ : List (S81), y_ = (t179.set (t184 : Int).toNat (⟨t193, (rd_T81 t179 t184).f1, (rd_T81 t179 t184).f2⟩ : S81)) := ⟨_, rfl⟩
  replace H : (some (y196, t194, t195)) = some (r1, r2, r3) := by first | (rw [hy196]; with_reducible exact H) | (have H2_ := (Option.bind_some _ _).symm.trans H; rw [hy196]; with_reducible exact H2_) | (have H2_ := (Option.bind_some _ _).symm.trans H; with_reducible exact H2_) | with_reducible exact H | (rw [hy196]; exact H) | exact H
  have Ny196 := zK hy196
  clear hy196
  simp only [Option.some.injEq, Prod.mk.injEq] at H
  obtain ⟨rfl, rfl, rfl⟩ := H
  exact lf3_0
 rw [if_neg c8] at H
 have c8b0 : (t187 == 0) = false := beq_eq_false_iff_ne.mpr c8
 have c8b1 : (t187 != 0) = true := bne_iff_ne.mpr c8
 by_cases c23 : t187 = 1
 ·rw [if_pos c23] at H
  have c23b0 : (t187 == 1) = true := beq_iff_eq.mpr c23
  have c23b1 : (t187 != 1) = false := bne_eq_false_iff_eq.mpr c23
  clear c23
  replace H := Option.bind_eq_some_iff.mp H
  obtain ⟨⟨t197, t198, t199⟩, A240, H⟩ := H
  try dsimp only at H
  have A24 := zK A240
  clear A240
  by_cases c25 : 0 ≤ t184
  rotate_left
  ·rw [if_neg c25] at H
   exact absurd H (by simp)
  rw [if_pos c25] at H
  have c25b0 : decide (0 ≤ t184) = true := decide_eq_true c25
  clear c25
  by_cases c26 : t184 < (t179.length : Int)
  rotate_left
  ·rw [if_neg c26] at H
   exact absurd H (by simp)
  rw [if_pos c26] at H
  have c26b0 : decide (t184 < (t179.length : Int)) = true := decide_eq_true c26
  clear c26
  obtain ⟨y200, hy200⟩ : ∃ y_ : List (S81), y_ = (t179.set (t184 : Int).toNat (⟨(rd_T81 t179 t184).f0, t197, (rd_T81 t179 t184).f2⟩ : S81)) := ⟨_, rfl⟩
  replace H : (some (y200, t198, t199)) = some (r1, r2, r3) := by first | (rw [hy200]; with_reducible exact H) | (have H2_ := (Option.bind_some _ _).symm.trans H; rw [hy200]; with_reducible exact H2_) | (have H2_ := (Option.bind_some _ _).symm.trans H; with_reducible exact H2_) | with_reducible exact H | (rw [hy200]; exact H) | exact H
  have Ny200 := zK hy200
  clear hy200
  simp only [Option.some.injEq, Prod.mk.injEq] at H
  obtain ⟨rfl, rfl, rfl⟩ := H
  exact lf3_0
 rw [if_neg c23] at H
 have c23b0 : (t187 == 1) = false := beq_eq_false_iff_ne.mpr c23
 have c23b1 : (t187 != 1) = true := bne_iff_ne.mpr c23
 by_cases c35 : t187 = 2
 rotate_left
 ·rw [if_neg c35] at H
  have c35b0 : (t187 == 2) = false := beq_eq_false_iff_ne.mpr c35
  have c35b1 : (t187 != 2) = true := bne_iff_ne.mpr c35
  simp only [Option.some.injEq, Prod.mk.injEq] at H
  obtain ⟨rfl, rfl, rfl⟩ := H
  exact lf3_0
 rw [if_pos c35] at H
 have c35b0 : (t187 == 2) = true := beq_iff_eq.mpr c35
 have c35b1 : (t187 != 2) = false := bne_eq_false_iff_eq.mpr c35
 clear c35
 replace H := Option.bind_eq_some_iff.mp H
 obtain ⟨⟨t201, t202, t203⟩, A360, H⟩ := H
 try dsimp only at H
 have A36 := zK A360
 clear A360
 by_cases c37 : 0 ≤ t184
 rotate_left
 ·rw [if_neg c37] at H
  exact absurd H (by simp)
 rw [if_pos c37] at H
 have c37b0 : decide (0 ≤ t184) = true := decide_eq_true c37
 clear c37
 by_cases c38 : t184 < (t179.length : Int)
 rotate_left
 ·rw [if_neg c38] at H
  exact absurd H (by simp)
 rw [if_pos c38] at H
 have c38b0 : decide (t184 < (t179.length : Int)) = true := decide_eq_true c38
 clear c38
 obtain ⟨y204, hy204⟩ : ∃ y_ : List (S81), y_ = (t179.set (t184 : Int).toNat (⟨(rd_T81 t179 t184).f0, (rd_T81 t179 t184).f1, t201⟩ : S81)) := ⟨_, rfl⟩
 replace H : (some (y204, t202, t203)) = some (r1, r2, r3) := by first | (rw [hy204]; with_reducible exact H) | (have H2_ := (Option.bind_some _ _).symm.trans H; rw [hy204]; with_reducible exact H2_) | (have H2_ := (Option.bind_some _ _).symm.trans H; with_reducible exact H2_) | with_reducible exact H | (rw [hy204]; exact H) | exact H
 have Ny204 := zK hy204
 clear hy204
 simp only [Option.some.injEq, Prod.mk.injEq] at H
 obtain ⟨rfl, rfl, rfl⟩ := H
 exact lf3_0
/-! ### spec_l4Draw: function 200 -/
def spec_l4Draw.f (s0_0 : List Int) (s0_1 : Int) (s0_2 : Int) (a1 : Int) : Option (Int × Int × Int × Int × Int × Int × Int) := (spec_l1Below.f s0_0 s0_1 s0_2 8).bind fun bt206 => ((spec_l1Below.f s0_0 bt206.2.1 bt206.2.2 8).bind fun bt209 => ((spec_l1Below.f s0_0 bt209.2.1 bt209.2.2 20).bind fun bt212 => ((spec_l1Below.f s0_0 bt212.2.1 bt212.2.2 500).bind fun bt215 => (some (a1, wrap64 (1 + bt206.1), bt209.1, wrap64 (1 + bt212.1), wrap64 (10 * bt215.1), bt215.2.1, bt215.2.2)))))
set_option maxHeartbeats 8000000 in
set_option maxRecDepth 100000 in
theorem spec_l4Draw.calls (g : Nat) (s0_0 : List Int) (s0_1 : Int) (s0_2 : Int) (a1 : Int) (r1 : Int) (r2 : Int) (r3 : Int) (r4 : Int) (r5 : Int) (r6 : Int) (r7 : Int) (w0 w : World) (hI : IsS187 w0 w g s0_0 s0_1 s0_2) (hB : Below w0.heap.size w0 w) (h : spec_l4Draw.f s0_0 s0_1 s0_2 a1 = some (r1, r2, r3, r4, r5, r6, r7)) :
  Calls Try.prog 200 #[.pointer (some ⟨g, 0, none⟩), .int .i64 a1] w fun e w' => e = .returned (.agg #[.int .i64 r1, .int .i64 r2, .int .i64 r3, .int .i64 r4, .int .i64 r5]) ∧ IsS187 w0 w' g s0_0 r6 r7 ∧ Below w0.heap.size w0 w' ∧ KeepBut w w' g none := by
 have hu124 := Try.underlying124
 have HI0 := zK hI
 have HK := zK (KeepBut.refl w g none)
 have HL := zK hB.size
 clear hI
 have HW0 := zK hB.size
 have HB := zK hB
 clear hB
 have H : ((spec_l1Below.f s0_0 s0_1 s0_2 8).bind fun bt206 => ((spec_l1Below.f s0_0 bt206.2.1 bt206.2.2 8).bind fun bt209 => ((spec_l1Below.f s0_0 bt209.2.1 bt209.2.2 20).bind fun bt212 => ((spec_l1Below.f s0_0 bt212.2.1 bt212.2.2 500).bind fun bt215 => (some (a1, wrap64 (1 + bt206.1), bt209.1, wrap64 (1 + bt212.1), wrap64 (10 * bt215.1), bt215.2.1, bt215.2.2)))))) = some (r1, r2, r3, r4, r5, r6, r7) := h
 clear h
 replace H := Option.bind_eq_some_iff.mp H
 obtain ⟨⟨t206, t207, t208⟩, A30, H⟩ := H
 try dsimp only at H
 have A3 := zK A30
 clear A30
 replace H := Option.bind_eq_some_iff.mp H
 obtain ⟨⟨t209, t210, t211⟩, A40, H⟩ := H
 try dsimp only at H
 have A4 := zK A40
 clear A40
 replace H := Option.bind_eq_some_iff.mp H
 obtain ⟨⟨t212, t213, t214⟩, A50, H⟩ := H
 try dsimp only at H
 have A5 := zK A50
 clear A50
 replace H := Option.bind_eq_some_iff.mp H
 obtain ⟨⟨t215, t216, t217⟩, A60, H⟩ := H
 try dsimp only at H
 have A6 := zK A60
 clear A60
 simp only [Option.some.injEq, Prod.mk.injEq] at H
 obtain ⟨rfl, rfl, rfl, rfl, rfl, rfl, rfl⟩ := H
 go_enter Try.func200, Try.ntmps200
 go_wp2_with (first | ((with_reducible refine gate_dst (N := 4) rfl ?_); refine box_event ?hg (N := 4) ?hd (cs := #[.int .i64 0, .int .i64 0, .int .i64 0, .int .i64 0, .int .i64 0]) (t := 124) ?hr ?_; (case hd => rfl); (case hg => rfl); (case hr => first | (go_simp; done) | (go_simp; rfl)); intro gb205 hg w7 hbox hb; have _ := zK (IsS187.below M6 hb); have _ := zK (KeepBut.trans M1 (KeepBut.of_below hb g none) (.inl rfl)); have _ := zK (bT M11 hb); have _ := zK (hbox); have _ := zK ((by rw [hg]; exact (keep_size (w := w) (g := g) (row := none) M1) : w.heap.size ≤ gb205)); have _ := zK ((Nat.le_trans HW0.o (by rw [hg]; exact (keep_size (w := w) (g := g) (row := none) M1) : w.heap.size ≤ gb205) : w0.heap.size ≤ gb205)); have _ := zK ((by rw [hg]; exact Nat.ne_of_lt (IsS187.lt (show IsS187 w0 _ g s0_0 s0_1 s0_2 from Q0)) : g ≠ gb205)); have _ := zK ((by rw [hg]; exact Nat.ne_of_gt (IsS187.lt (show IsS187 w0 _ g s0_0 s0_1 s0_2 from Q0)) : gb205 ≠ g)); clear HI0 HK HB; rename_i HI0 HK HB BK205 GW205 GE205 NB0_205 NB205_0; clear hb hbox hg) | ((with_reducible refine gate_callee (f := 98) rfl ?_); refine goesL_ (some 7) rfl rfl Try.func98 (by kernel_rfl) rfl #[.pointer (some ⟨g, 0, none⟩), .int .i64 8] rfl M0 ?_; (with_reducible refine (spec_l1Below.calls g s0_0 s0_1 s0_2 8 t206 t207 t208 w0 _ ?side1 ?side2 A3.o).mono ?_); (case side1 => repeat (first | (with_reducible first | exact HI0.o | apply IsS187.alloc | apply IsS187.drewN | apply IsS187.drew | apply IsS187.set_1 | apply IsS187.set_2 | refine IsS187.far ?_ NB0_205.o _) | exact HI0.o)); (case side2 => repeat (first | (with_reducible first | exact HB.o | apply bA | apply bN | apply below_drew1 | refine bS ?_ (IsS187.ge HI0.o) | refine bS ?_ GE205.o) | exact HB.o)); rintro e w8 ⟨rfl, hi, hb, hk⟩; refine ⟨_, rfl, ?_⟩; have _ := zK (KeepBut.blk hk (g' := gb205) (o := .cells #[.int .i64 0, .int .i64 0, .int .i64 0, .int .i64 0, .int .i64 0] 124 (0, 0)) (qK BK205.o) NB205_0.o (by simp)); have _ := zK (KeepBut.trans M42 hk (.inl rfl)); have _ := zK (hb); have _ := zK (hi); clear BK205 HK HB HI0; rename_i BK205 HK HB HI0; (try clear hb); (try clear hb2); (try clear hk); (try clear hi)) | ((with_reducible refine gate_callee (f := 98) rfl ?_); refine goesL_ (some 10) rfl rfl Try.func98 (by kernel_rfl) rfl #[.pointer (some ⟨g, 0, none⟩), .int .i64 8] rfl M0 ?_; (with_reducible refine (spec_l1Below.calls g s0_0 t207 t208 8 t209 t210 t211 w0 _ ?side1 ?side2 A4.o).mono ?_); (case side1 => repeat (first | (with_reducible first | exact HI0.o | apply IsS187.alloc | apply IsS187.drewN | apply IsS187.drew | apply IsS187.set_1 | apply IsS187.set_2 | refine IsS187.far ?_ NB0_205.o _) | exact HI0.o)); (case side2 => repeat (first | (with_reducible first | exact HB.o | apply bA | apply bN | apply below_drew1 | refine bS ?_ (IsS187.ge HI0.o) | refine bS ?_ GE205.o) | exact HB.o)); rintro e w9 ⟨rfl, hi, hb, hk⟩; refine ⟨_, rfl, ?_⟩; have _ := zK (KeepBut.blk hk (g' := gb205) (o := .cells #[.int .i64 0, .int .i64 0, .int .i64 0, .int .i64 0, .int .i64 0] 124 (0, 0)) (qK BK205.o) NB205_0.o (by simp)); have _ := zK (KeepBut.trans M42 hk (.inl rfl)); have _ := zK (hb); have _ := zK (hi); clear BK205 HK HB HI0; rename_i BK205 HK HB HI0; (try clear hb); (try clear hb2); (try clear hk); (try clear hi)) | ((with_reducible refine gate_callee (f := 98) rfl ?_); refine goesL_ (some 12) rfl rfl Try.func98 (by kernel_rfl) rfl #[.pointer (some ⟨g, 0, none⟩), .int .i64 20] rfl M0 ?_; (with_reducible refine (spec_l1Below.calls g s0_0 t210 t211 20 t212 t213 t214 w0 _ ?side1 ?side2 A5.o).mono ?_); (case side1 => repeat (first | (with_reducible first | exact HI0.o | apply IsS187.alloc | apply IsS187.drewN | apply IsS187.drew | apply IsS187.set_1 | apply IsS187.set_2 | refine IsS187.far ?_ NB0_205.o _) | exact HI0.o)); (case side2 => repeat (first | (with_reducible first | exact HB.o | apply bA | apply bN | apply below_drew1 | refine bS ?_ (IsS187.ge HI0.o) | refine bS ?_ GE205.o) | exact HB.o)); rintro e w10 ⟨rfl, hi, hb, hk⟩; refine ⟨_, rfl, ?_⟩; have _ := zK (KeepBut.blk hk (g' := gb205) (o := .cells #[.int .i64 0, .int .i64 0, .int .i64 0, .int .i64 0, .int .i64 0] 124 (0, 0)) (qK BK205.o) NB205_0.o (by simp)); have _ := zK (KeepBut.trans M42 hk (.inl rfl)); have _ := zK (hb); have _ := zK (hi); clear BK205 HK HB HI0; rename_i BK205 HK HB HI0; (try clear hb); (try clear hb2); (try clear hk); (try clear hi)) | ((with_reducible refine gate_callee (f := 98) rfl ?_); refine goesL_ (some 15) rfl rfl Try.func98 (by kernel_rfl) rfl #[.pointer (some ⟨g, 0, none⟩), .int .i64 500] rfl M0 ?_; (with_reducible refine (spec_l1Below.calls g s0_0 t213 t214 500 t215 t216 t217 w0 _ ?side1 ?side2 A6.o).mono ?_); (case side1 => repeat (first | (with_reducible first | exact HI0.o | apply IsS187.alloc | apply IsS187.drewN | apply IsS187.drew | apply IsS187.set_1 | apply IsS187.set_2 | refine IsS187.far ?_ NB0_205.o _) | exact HI0.o)); (case side2 => repeat (first | (with_reducible first | exact HB.o | apply bA | apply bN | apply below_drew1 | refine bS ?_ (IsS187.ge HI0.o) | refine bS ?_ GE205.o) | exact HB.o)); rintro e w11 ⟨rfl, hi, hb, hk⟩; refine ⟨_, rfl, ?_⟩; have _ := zK (KeepBut.blk hk (g' := gb205) (o := .cells #[.int .i64 0, .int .i64 0, .int .i64 0, .int .i64 0, .int .i64 0] 124 (0, 0)) (qK BK205.o) NB205_0.o (by simp)); have _ := zK (KeepBut.trans M42 hk (.inl rfl)); have _ := zK (hb); have _ := zK (hi); clear BK205 HK HB HI0; rename_i BK205 HK HB HI0; (try clear hb); (try clear hb2); (try clear hk); (try clear hi); have hnb12 := NB205_0.o; have hnc12 := NB0_205.o; obtain ⟨hcz13_0, hcz13_1, hcz13_2, hcz13_3, hcz13_4, hfz13_0, hfz13_1, hfz13_2, hfz13_3, hfz13_4⟩ := bx5 BK205.o))
 refine bodyPost_ret (results_cell_row rfl _ _ gb205 124 #[.int .i64 a1, .int .i64 (wrap64 (1 + t206)), .int .i64 t209, .int .i64 (wrap64 (1 + t212)), .int .i64 (wrap64 (10 * t215))] (0, 0) _ rfl (by (with_reducible repeat (first | refine kN ?_ _ | refine kD ?_ | refine kA ?_ _)); refine blk_put (cs := #[.int .i64 a1, .int .i64 (wrap64 (1 + t206)), .int .i64 t209, .int .i64 (wrap64 (1 + t212)), .int .i64 0]) ?_ 4 _ rfl; (with_reducible repeat (first | refine kN ?_ _ | refine kD ?_ | refine kA ?_ _)); refine blk_put (cs := #[.int .i64 a1, .int .i64 (wrap64 (1 + t206)), .int .i64 t209, .int .i64 0, .int .i64 0]) ?_ 3 _ rfl; (with_reducible repeat (first | refine kN ?_ _ | refine kD ?_ | refine kA ?_ _)); refine blk_put (cs := #[.int .i64 a1, .int .i64 (wrap64 (1 + t206)), .int .i64 0, .int .i64 0, .int .i64 0]) ?_ 2 _ rfl; (with_reducible repeat (first | refine kN ?_ _ | refine kD ?_ | refine kA ?_ _)); refine blk_put (cs := #[.int .i64 a1, .int .i64 0, .int .i64 0, .int .i64 0, .int .i64 0]) ?_ 1 _ rfl; (with_reducible repeat (first | refine kN ?_ _ | refine kD ?_ | refine kA ?_ _)); refine blk_put (cs := #[.int .i64 0, .int .i64 0, .int .i64 0, .int .i64 0, .int .i64 0]) ?_ 0 _ rfl; exact qK BK205.o) Try.underlying124 rfl (by kernel_rfl)) rfl ?_
 exact ⟨by first | rfl | (simp [errW_none, errW_some] <;> rfl) | (simp [*, errW_none, errW_some] <;> rfl), by repeat (first | (with_reducible first | exact HI0.o | apply IsS187.alloc | apply IsS187.drewN | apply IsS187.drew | apply IsS187.set_1 | apply IsS187.set_2 | refine IsS187.far ?_ NB0_205.o _) | exact HI0.o), by repeat (first | (with_reducible first | exact HB.o | apply bA | apply bN | apply below_drew1 | refine bS ?_ (IsS187.ge HI0.o) | refine bS ?_ GE205.o) | exact HB.o), by repeat (first | (with_reducible first | exact HK.o | apply KeepBut.set_ | apply keep_drewN | apply keep_drew | apply keep_alloc | refine keep_far ?_ GW205.o _) | exact HK.o)⟩
/-! ### spec_l6Draw: function 162 -/
def spec_l6Draw.f (s0_0 : List Int) (s0_1 : Int) (s0_2 : Int) (a1 : Int) : Option (Int × Int × Int × Int × Int × Int × Int × Int × Int × Int) := (spec_l4Draw.f s0_0 s0_1 s0_2 a1).bind fun bt219 => ((spec_l1Below.f s0_0 bt219.2.2.2.2.2.1 bt219.2.2.2.2.2.2 6).bind fun bt226 => ((spec_l1Below.f s0_0 bt226.2.1 bt226.2.2 80).bind fun bt229 => ((spec_l1Below.f s0_0 bt229.2.1 bt229.2.2 5).bind fun bt232 => (some (bt219.1, bt219.2.1, bt219.2.2.1, bt219.2.2.2.1, bt219.2.2.2.2.1, wrap64 (1 + bt226.1), bt229.1, bt232.1, bt232.2.1, bt232.2.2)))))
set_option maxHeartbeats 8000000 in
set_option maxRecDepth 100000 in
theorem spec_l6Draw.calls (g : Nat) (s0_0 : List Int) (s0_1 : Int) (s0_2 : Int) (a1 : Int) (r1 : Int) (r2 : Int) (r3 : Int) (r4 : Int) (r5 : Int) (r6 : Int) (r7 : Int) (r8 : Int) (r9 : Int) (r10 : Int) (w0 w : World) (hI : IsS187 w0 w g s0_0 s0_1 s0_2) (hB : Below w0.heap.size w0 w) (h : spec_l6Draw.f s0_0 s0_1 s0_2 a1 = some (r1, r2, r3, r4, r5, r6, r7, r8, r9, r10)) :
  Calls Try.prog 162 #[.pointer (some ⟨g, 0, none⟩), .int .i64 a1] w fun e w' => e = .returned (.agg #[.int .i64 r1, .int .i64 r2, .int .i64 r3, .int .i64 r4, .int .i64 r5, .int .i64 r6, .int .i64 r7, .int .i64 r8]) ∧ IsS187 w0 w' g s0_0 r9 r10 ∧ Below w0.heap.size w0 w' ∧ KeepBut w w' g none := by
 have hu126 := Try.underlying126
 have HI0 := zK hI
 have HK := zK (KeepBut.refl w g none)
 have HL := zK hB.size
 clear hI
 have HW0 := zK hB.size
 have HB := zK hB
 clear hB
 have H : ((spec_l4Draw.f s0_0 s0_1 s0_2 a1).bind fun bt219 => ((spec_l1Below.f s0_0 bt219.2.2.2.2.2.1 bt219.2.2.2.2.2.2 6).bind fun bt226 => ((spec_l1Below.f s0_0 bt226.2.1 bt226.2.2 80).bind fun bt229 => ((spec_l1Below.f s0_0 bt229.2.1 bt229.2.2 5).bind fun bt232 => (some (bt219.1, bt219.2.1, bt219.2.2.1, bt219.2.2.2.1, bt219.2.2.2.2.1, wrap64 (1 + bt226.1), bt229.1, bt232.1, bt232.2.1, bt232.2.2)))))) = some (r1, r2, r3, r4, r5, r6, r7, r8, r9, r10) := h
 clear h
 replace H := Option.bind_eq_some_iff.mp H
 obtain ⟨⟨t219, t220, t221, t222, t223, t224, t225⟩, A30, H⟩ := H
 try dsimp only at H
 have A3 := zK A30
 clear A30
 replace H := Option.bind_eq_some_iff.mp H
 obtain ⟨⟨t226, t227, t228⟩, A40, H⟩ := H
 try dsimp only at H
 have A4 := zK A40
 clear A40
 replace H := Option.bind_eq_some_iff.mp H
 obtain ⟨⟨t229, t230, t231⟩, A50, H⟩ := H
 try dsimp only at H
 have A5 := zK A50
 clear A50
 replace H := Option.bind_eq_some_iff.mp H
 obtain ⟨⟨t232, t233, t234⟩, A60, H⟩ := H
 try dsimp only at H
 have A6 := zK A60
 clear A60
 simp only [Option.some.injEq, Prod.mk.injEq] at H
 obtain ⟨rfl, rfl, rfl, rfl, rfl, rfl, rfl, rfl, rfl, rfl⟩ := H
 go_enter Try.func162, Try.ntmps162
 go_wp2_with (first | ((with_reducible refine gate_dst (N := 4) rfl ?_); refine box_event ?hg (N := 4) ?hd (cs := #[.int .i64 0, .int .i64 0, .int .i64 0, .int .i64 0, .int .i64 0, .int .i64 0, .int .i64 0, .int .i64 0]) (t := 126) ?hr ?_; (case hd => rfl); (case hg => rfl); (case hr => first | (go_simp; done) | (go_simp; rfl)); intro gb218 hg w7 hbox hb; have _ := zK (IsS187.below M6 hb); have _ := zK (KeepBut.trans M1 (KeepBut.of_below hb g none) (.inl rfl)); have _ := zK (bT M11 hb); have _ := zK (hbox); have _ := zK ((by rw [hg]; exact (keep_size (w := w) (g := g) (row := none) M1) : w.heap.size ≤ gb218)); have _ := zK ((Nat.le_trans HW0.o (by rw [hg]; exact (keep_size (w := w) (g := g) (row := none) M1) : w.heap.size ≤ gb218) : w0.heap.size ≤ gb218)); have _ := zK ((by rw [hg]; exact Nat.ne_of_lt (IsS187.lt (show IsS187 w0 _ g s0_0 s0_1 s0_2 from Q0)) : g ≠ gb218)); have _ := zK ((by rw [hg]; exact Nat.ne_of_gt (IsS187.lt (show IsS187 w0 _ g s0_0 s0_1 s0_2 from Q0)) : gb218 ≠ g)); clear HI0 HK HB; rename_i HI0 HK HB BK218 GW218 GE218 NB0_218 NB218_0; clear hb hbox hg) | ((with_reducible refine gate_callee (f := 200) rfl ?_); refine goesL_ (some 7) rfl rfl Try.func200 (by kernel_rfl) rfl #[.pointer (some ⟨g, 0, none⟩), .int .i64 a1] rfl M0 ?_; (with_reducible refine (spec_l4Draw.calls g s0_0 s0_1 s0_2 a1 t219 t220 t221 t222 t223 t224 t225 w0 _ ?side1 ?side2 A3.o).mono ?_); (case side1 => repeat (first | (with_reducible first | exact HI0.o | apply IsS187.alloc | apply IsS187.drewN | apply IsS187.drew | apply IsS187.set_1 | apply IsS187.set_2 | refine IsS187.far ?_ NB0_218.o _) | exact HI0.o)); (case side2 => repeat (first | (with_reducible first | exact HB.o | apply bA | apply bN | apply below_drew1 | refine bS ?_ (IsS187.ge HI0.o) | refine bS ?_ GE218.o) | exact HB.o)); rintro e w8 ⟨rfl, hi, hb, hk⟩; refine ⟨_, rfl, ?_⟩; have _ := zK (KeepBut.blk hk (g' := gb218) (o := .cells #[.int .i64 0, .int .i64 0, .int .i64 0, .int .i64 0, .int .i64 0, .int .i64 0, .int .i64 0, .int .i64 0] 126 (0, 0)) (qK BK218.o) NB218_0.o (by simp)); have _ := zK (KeepBut.trans M43 hk (.inl rfl)); have _ := zK (hb); have _ := zK (hi); clear BK218 HK HB HI0; rename_i BK218 HK HB HI0; (try clear hb); (try clear hb2); (try clear hk); (try clear hi)) | ((with_reducible refine gate_callee (f := 98) rfl ?_); refine goesL_ (some 9) rfl rfl Try.func98 (by kernel_rfl) rfl #[.pointer (some ⟨g, 0, none⟩), .int .i64 6] rfl M0 ?_; (with_reducible refine (spec_l1Below.calls g s0_0 t224 t225 6 t226 t227 t228 w0 _ ?side1 ?side2 A4.o).mono ?_); (case side1 => repeat (first | (with_reducible first | exact HI0.o | apply IsS187.alloc | apply IsS187.drewN | apply IsS187.drew | apply IsS187.set_1 | apply IsS187.set_2 | refine IsS187.far ?_ NB0_218.o _) | exact HI0.o)); (case side2 => repeat (first | (with_reducible first | exact HB.o | apply bA | apply bN | apply below_drew1 | refine bS ?_ (IsS187.ge HI0.o) | refine bS ?_ GE218.o) | exact HB.o)); rintro e w9 ⟨rfl, hi, hb, hk⟩; refine ⟨_, rfl, ?_⟩; have _ := zK (KeepBut.blk hk (g' := gb218) (o := .cells #[.int .i64 0, .int .i64 0, .int .i64 0, .int .i64 0, .int .i64 0, .int .i64 0, .int .i64 0, .int .i64 0] 126 (0, 0)) (qK BK218.o) NB218_0.o (by simp)); have _ := zK (KeepBut.trans M43 hk (.inl rfl)); have _ := zK (hb); have _ := zK (hi); clear BK218 HK HB HI0; rename_i BK218 HK HB HI0; (try clear hb); (try clear hb2); (try clear hk); (try clear hi)) | ((with_reducible refine gate_callee (f := 98) rfl ?_); refine goesL_ (some 12) rfl rfl Try.func98 (by kernel_rfl) rfl #[.pointer (some ⟨g, 0, none⟩), .int .i64 80] rfl M0 ?_; (with_reducible refine (spec_l1Below.calls g s0_0 t227 t228 80 t229 t230 t231 w0 _ ?side1 ?side2 A5.o).mono ?_); (case side1 => repeat (first | (with_reducible first | exact HI0.o | apply IsS187.alloc | apply IsS187.drewN | apply IsS187.drew | apply IsS187.set_1 | apply IsS187.set_2 | refine IsS187.far ?_ NB0_218.o _) | exact HI0.o)); (case side2 => repeat (first | (with_reducible first | exact HB.o | apply bA | apply bN | apply below_drew1 | refine bS ?_ (IsS187.ge HI0.o) | refine bS ?_ GE218.o) | exact HB.o)); rintro e w10 ⟨rfl, hi, hb, hk⟩; refine ⟨_, rfl, ?_⟩; have _ := zK (KeepBut.blk hk (g' := gb218) (o := .cells #[.int .i64 0, .int .i64 0, .int .i64 0, .int .i64 0, .int .i64 0, .int .i64 0, .int .i64 0, .int .i64 0] 126 (0, 0)) (qK BK218.o) NB218_0.o (by simp)); have _ := zK (KeepBut.trans M43 hk (.inl rfl)); have _ := zK (hb); have _ := zK (hi); clear BK218 HK HB HI0; rename_i BK218 HK HB HI0; (try clear hb); (try clear hb2); (try clear hk); (try clear hi)) | ((with_reducible refine gate_callee (f := 98) rfl ?_); refine goesL_ (some 14) rfl rfl Try.func98 (by kernel_rfl) rfl #[.pointer (some ⟨g, 0, none⟩), .int .i64 5] rfl M0 ?_; (with_reducible refine (spec_l1Below.calls g s0_0 t230 t231 5 t232 t233 t234 w0 _ ?side1 ?side2 A6.o).mono ?_); (case side1 => repeat (first | (with_reducible first | exact HI0.o | apply IsS187.alloc | apply IsS187.drewN | apply IsS187.drew | apply IsS187.set_1 | apply IsS187.set_2 | refine IsS187.far ?_ NB0_218.o _) | exact HI0.o)); (case side2 => repeat (first | (with_reducible first | exact HB.o | apply bA | apply bN | apply below_drew1 | refine bS ?_ (IsS187.ge HI0.o) | refine bS ?_ GE218.o) | exact HB.o)); rintro e w11 ⟨rfl, hi, hb, hk⟩; refine ⟨_, rfl, ?_⟩; have _ := zK (KeepBut.blk hk (g' := gb218) (o := .cells #[.int .i64 0, .int .i64 0, .int .i64 0, .int .i64 0, .int .i64 0, .int .i64 0, .int .i64 0, .int .i64 0] 126 (0, 0)) (qK BK218.o) NB218_0.o (by simp)); have _ := zK (KeepBut.trans M43 hk (.inl rfl)); have _ := zK (hb); have _ := zK (hi); clear BK218 HK HB HI0; rename_i BK218 HK HB HI0; (try clear hb); (try clear hb2); (try clear hk); (try clear hi); have hnb12 := NB218_0.o; have hnc12 := NB0_218.o; obtain ⟨hcz13_0, hcz13_1, hcz13_2, hcz13_3, hcz13_4, hcz13_5, hcz13_6, hcz13_7, hfz13_0, hfz13_1, hfz13_2, hfz13_3, hfz13_4, hfz13_5, hfz13_6, hfz13_7⟩ := bx8 BK218.o))
 refine bodyPost_ret (results_cell_row rfl _ _ gb218 126 #[.int .i64 t219, .int .i64 t220, .int .i64 t221, .int .i64 t222, .int .i64 t223, .int .i64 (wrap64 (1 + t226)), .int .i64 t229, .int .i64 t232] (0, 0) _ rfl (by (with_reducible repeat (first | refine kN ?_ _ | refine kD ?_ | refine kA ?_ _)); refine blk_put (cs := #[.int .i64 t219, .int .i64 t220, .int .i64 t221, .int .i64 t222, .int .i64 t223, .int .i64 (wrap64 (1 + t226)), .int .i64 t229, .int .i64 0]) ?_ 7 _ rfl; (with_reducible repeat (first | refine kN ?_ _ | refine kD ?_ | refine kA ?_ _)); refine blk_put (cs := #[.int .i64 t219, .int .i64 t220, .int .i64 t221, .int .i64 t222, .int .i64 t223, .int .i64 (wrap64 (1 + t226)), .int .i64 0, .int .i64 0]) ?_ 6 _ rfl; (with_reducible repeat (first | refine kN ?_ _ | refine kD ?_ | refine kA ?_ _)); refine blk_put (cs := #[.int .i64 t219, .int .i64 t220, .int .i64 t221, .int .i64 t222, .int .i64 t223, .int .i64 0, .int .i64 0, .int .i64 0]) ?_ 5 _ rfl; (with_reducible repeat (first | refine kN ?_ _ | refine kD ?_ | refine kA ?_ _)); refine blk_put (cs := #[.int .i64 t219, .int .i64 t220, .int .i64 t221, .int .i64 t222, .int .i64 0, .int .i64 0, .int .i64 0, .int .i64 0]) ?_ 4 _ rfl; (with_reducible repeat (first | refine kN ?_ _ | refine kD ?_ | refine kA ?_ _)); refine blk_put (cs := #[.int .i64 t219, .int .i64 t220, .int .i64 t221, .int .i64 0, .int .i64 0, .int .i64 0, .int .i64 0, .int .i64 0]) ?_ 3 _ rfl; (with_reducible repeat (first | refine kN ?_ _ | refine kD ?_ | refine kA ?_ _)); refine blk_put (cs := #[.int .i64 t219, .int .i64 t220, .int .i64 0, .int .i64 0, .int .i64 0, .int .i64 0, .int .i64 0, .int .i64 0]) ?_ 2 _ rfl; (with_reducible repeat (first | refine kN ?_ _ | refine kD ?_ | refine kA ?_ _)); refine blk_put (cs := #[.int .i64 t219, .int .i64 0, .int .i64 0, .int .i64 0, .int .i64 0, .int .i64 0, .int .i64 0, .int .i64 0]) ?_ 1 _ rfl; (with_reducible repeat (first | refine kN ?_ _ | refine kD ?_ | refine kA ?_ _)); refine blk_put (cs := #[.int .i64 0, .int .i64 0, .int .i64 0, .int .i64 0, .int .i64 0, .int .i64 0, .int .i64 0, .int .i64 0]) ?_ 0 _ rfl; exact qK BK218.o) Try.underlying126 rfl (by kernel_rfl)) rfl ?_
 exact ⟨by first | rfl | (simp [errW_none, errW_some] <;> rfl) | (simp [*, errW_none, errW_some] <;> rfl), by repeat (first | (with_reducible first | exact HI0.o | apply IsS187.alloc | apply IsS187.drewN | apply IsS187.drew | apply IsS187.set_1 | apply IsS187.set_2 | refine IsS187.far ?_ NB0_218.o _) | exact HI0.o), by repeat (first | (with_reducible first | exact HB.o | apply bA | apply bN | apply below_drew1 | refine bS ?_ (IsS187.ge HI0.o) | refine bS ?_ GE218.o) | exact HB.o), by repeat (first | (with_reducible first | exact HK.o | apply KeepBut.set_ | apply keep_drewN | apply keep_drew | apply keep_alloc | refine keep_far ?_ GW218.o _) | exact HK.o)⟩
/-! ### spec_l6List: function 112 -/
def spec_l6List.l0 : Nat → List (S126) → Int → List Int → Int → Int → Option ((List (S126)) × Int × Int)
 | 0, _, _, _, _, _ => none
 | k + 1, x3, x4, x1000, x1001, x1002 => (spec_l1Below.f x1000 x1001 x1002 8).bind fun bt238 => (if x4 ≤ bt238.1 then ((spec_l6Draw.f x1000 bt238.2.1 bt238.2.2 (wrap64 (2 * x4))).bind fun bt241 => (if x3.length < 2199023255552 then (spec_l6List.l0 k (x3 ++ [(⟨(⟨bt241.1, bt241.2.1, bt241.2.2.1, bt241.2.2.2.1, bt241.2.2.2.2.1⟩ : S124), bt241.2.2.2.2.2.1, bt241.2.2.2.2.2.2.1, bt241.2.2.2.2.2.2.2.1⟩ : S126)]) (wrap64 (x4 + 1)) x1000 bt241.2.2.2.2.2.2.2.2.1 bt241.2.2.2.2.2.2.2.2.2) else (none))) else (some (x3, bt238.2.1, bt238.2.2)))
def spec_l6List.f (k : Nat) (s0_0 : List Int) (s0_1 : Int) (s0_2 : Int) : Option ((List (S126)) × Int × Int) := spec_l6List.l0 k (([] : List (S126))) 1 s0_0 s0_1 s0_2
set_option maxHeartbeats 8000000 in
set_option maxRecDepth 100000 in
theorem spec_l6List.calls (k : Nat) (g : Nat) (s0_0 : List Int) (s0_1 : Int) (s0_2 : Int) (r1 : List (S126)) (r2 : Int) (r3 : Int) (w0 w : World) (hI : IsS187 w0 w g s0_0 s0_1 s0_2) (hB : Below w0.heap.size w0 w) (h : spec_l6List.f k s0_0 s0_1 s0_2 = some (r1, r2, r3)) :
  Calls Try.prog 112 #[.pointer (some ⟨g, 0, none⟩)] w fun e w' => ∃ v0_ : Value, e = .returned (v0_) ∧ Kd.R k126 126 w' w.heap.size (fun _ => True) v0_ r1 ∧ IsS187 w0 w' g s0_0 r2 r3 ∧ Below w0.heap.size w0 w' ∧ KeepBut w w' g none := by
 have HI0 := zK hI
 have HK := zK (KeepBut.refl w g none)
 have HL := zK hB.size
 clear hI
 have HW0 := zK hB.size
 have HB := zK hB
 clear hB
 have H : (spec_l6List.l0 k (([] : List (S126))) 1 s0_0 s0_1 s0_2) = some (r1, r2, r3) := h
 clear h
 obtain ⟨y235, hy235⟩ : ∃ y_ : List (S126), y_ = (([] : List (S126))) := ⟨_, rfl⟩
 replace H : (spec_l6List.l0 k y235 1 s0_0 s0_1 s0_2) = some (r1, r2, r3) := by first | (rw [hy235]; with_reducible exact H) | (have H2_ := (Option.bind_some _ _).symm.trans H; rw [hy235]; with_reducible exact H2_) | (have H2_ := (Option.bind_some _ _).symm.trans H; with_reducible exact H2_) | with_reducible exact H | (rw [hy235]; exact H) | exact H
 have Ny235 := zK hy235
 clear hy235
 have H' := zK H
 clear H
 go_enter Try.func112, Try.ntmps112
 go_wp2_with (first | ((with_reducible refine gate_dst (N := 5) rfl ?_); refine Kd.R_lit k126 _ 126 ?hg (N := 5) ?hd (xs := ([] : List (S126))) (inner := []) (ok := fun _ => True) (okp := fun _ => True) ?hr ?hp (fun _ hk => hk) trivial (Below.refl _ _) (Nat.le_refl _) (by simp) ?_; (case hd => rfl); (case hg => rfl); (case hr => first | (go_simp; done) | (go_simp; rfl)); (case hp => exact (Reps.none _ _)); intro v236 w2 ho3 hb hg_ hnew_; clear hg_ hnew_; (first | rw [← Ny235.o] at ho3 | (simp only [Int.reduceToNat] at ho3; rw [← Ny235.o] at ho3)); have _ := zK (Kd.R_lower ho3 (keep_size (w := w) (g := g) (row := none) M1)); have _ := zK (IsS187.below M6 hb); have _ := zK (KeepBut.trans M1 (KeepBut.of_below hb g none) (.inl rfl)); have _ := zK (bT M11 hb); clear HI0 HK HB; rename_i HO237 HI0 HK HB; clear hb ho3))
 go_loopg [3, 4] k (fun kq v3 v4 w' => ∃ (x3_1 : List (S126)) (x4_1 : Int) (x1001_1 : Int) (x1002_1 : Int), v4 = .int .i64 x4_1 ∧ Aside0 (spec_l6List.l0 kq x3_1 x4_1 s0_0 x1001_1 x1002_1 = some (r1, r2, r3)) ∧ Aside0 (kq ≤ k) ∧ Aside0 (Kd.R k126 126 w' w.heap.size (fun _ => True) v3 x3_1) ∧ Aside0 (IsS187 w0 w' g s0_0 x1001_1 x1002_1) ∧ Aside0 (KeepBut w w' g none) ∧ Aside0 (Below w0.heap.size w0 w'))
 case atStart => exact ⟨(y235), (1), (s0_1), (s0_2), M7, H', ⟨Nat.le_refl _⟩, ⟨by exact Kd.qR HO237.o⟩, ⟨Q0⟩, ⟨Q3⟩, ⟨Q4⟩⟩
 case round =>
  clear H'
  try clear c1
  try clear p2
  obtain ⟨x3_1, x4_1, x1001_1, x1002_1, rfl, HA, HK1, HO_3, HI0, HK, HB⟩ := hrel
  cases gk with
  | zero => exact absurd HA.o (by simp [spec_l6List.l0])
  | succ k1 =>
   have H := HA.o
   clear HA
   simp only [spec_l6List.l0] at H
   replace H := Option.bind_eq_some_iff.mp H
   obtain ⟨⟨t238, t239, t240⟩, A40, H⟩ := H
   try dsimp only at H
   have A4 := zK A40
   clear A40
   by_cases c5 : x4_1 ≤ t238
   rotate_left
   ·rw [if_neg c5] at H
    have c5b0 : decide (x4_1 ≤ t238) = false := decide_eq_false c5
    clear c5
    simp only [Option.some.injEq, Prod.mk.injEq] at H
    obtain ⟨rfl, rfl, rfl⟩ := H
    go_wp2_with (first | ((with_reducible refine gate_callee (f := 98) rfl ?_); refine goesL_ (some 8) rfl rfl Try.func98 (by kernel_rfl) rfl #[.pointer (some ⟨g, 0, none⟩), .int .i64 8] rfl M0 ?_; (with_reducible refine (spec_l1Below.calls g s0_0 x1001_1 x1002_1 8 t238 t239 t240 w0 _ ?side1 ?side2 A4.o).mono ?_); (case side1 => repeat (first | (with_reducible first | exact HI0.o | apply IsS187.alloc | apply IsS187.drewN | apply IsS187.drew | apply IsS187.set_1 | apply IsS187.set_2) | exact HI0.o)); (case side2 => repeat (first | (with_reducible first | exact HB.o | apply bA | apply bN | apply below_drew1 | refine bS ?_ (IsS187.ge HI0.o)) | exact HB.o)); rintro e w11 ⟨rfl, hi, hb, hk⟩; refine ⟨_, rfl, ?_⟩; have _ := zK (Kd.R_mono (Kd.R_keep (IsS187.apart (show IsS187 w0 _ g s0_0 x1001_1 x1002_1 from Q0) (Kd.qR HO_3.o) (by decide)) hk (fun _ h => h.2)) (fun _ h => h.1)); have _ := zK (KeepBut.trans M1 hk (.inl rfl)); have _ := zK (hb); have _ := zK (hi); clear HO_3 HK HB HI0; rename_i HO_3 HK HB HI0; (try clear hb); (try clear hb2); (try clear hk); (try clear hi)))
    go_ret
    exact ⟨_, by first | rfl | (simp [errW_none, errW_some] <;> rfl) | (simp [*, errW_none, errW_some] <;> rfl), by exact Kd.qR HO_3.o, Q0, Q4, Q3⟩
   rw [if_pos c5] at H
   have c5b0 : decide (x4_1 ≤ t238) = true := decide_eq_true c5
   clear c5
   replace H := Option.bind_eq_some_iff.mp H
   obtain ⟨⟨t241, t242, t243, t244, t245, t246, t247, t248, t249, t250⟩, A60, H⟩ := H
   try dsimp only at H
   have A6 := zK A60
   clear A60
   by_cases c7 : x3_1.length < 2199023255552
   rotate_left
   ·rw [if_neg c7] at H
    exact absurd H (by simp)
   rw [if_pos c7] at H
   have LMc7 := zK c7
   clear c7
   obtain ⟨y251, hy251⟩ : ∃ y_ : List (S126), y_ = (x3_1 ++ [(⟨(⟨t241, t242, t243, t244, t245⟩ : S124), t246, t247, t248⟩ : S126)]) := ⟨_, rfl⟩
   replace H : (spec_l6List.l0 k1 y251 (wrap64 (x4_1 + 1)) s0_0 t249 t250) = some (r1, r2, r3) := by first | (rw [hy251]; with_reducible exact H) | (have H2_ := (Option.bind_some _ _).symm.trans H; rw [hy251]; with_reducible exact H2_) | (have H2_ := (Option.bind_some _ _).symm.trans H; with_reducible exact H2_) | with_reducible exact H | (rw [hy251]; exact H) | exact H
   have Ny251 := zK hy251
   clear hy251
   have H' := zK H
   clear H
   go_wp2_with (first | ((with_reducible refine gate_callee (f := 98) rfl ?_); refine goesL_ (some 8) rfl rfl Try.func98 (by kernel_rfl) rfl #[.pointer (some ⟨g, 0, none⟩), .int .i64 8] rfl M0 ?_; (with_reducible refine (spec_l1Below.calls g s0_0 x1001_1 x1002_1 8 t238 t239 t240 w0 _ ?side1 ?side2 A4.o).mono ?_); (case side1 => repeat (first | (with_reducible first | exact HI0.o | apply IsS187.alloc | apply IsS187.drewN | apply IsS187.drew | apply IsS187.set_1 | apply IsS187.set_2) | exact HI0.o)); (case side2 => repeat (first | (with_reducible first | exact HB.o | apply bA | apply bN | apply below_drew1 | refine bS ?_ (IsS187.ge HI0.o)) | exact HB.o)); rintro e w8 ⟨rfl, hi, hb, hk⟩; refine ⟨_, rfl, ?_⟩; have _ := zK (Kd.R_mono (Kd.R_keep (IsS187.apart (show IsS187 w0 _ g s0_0 x1001_1 x1002_1 from Q0) (Kd.qR HO_3.o) (by decide)) hk (fun _ h => h.2)) (fun _ h => h.1)); have _ := zK (KeepBut.trans M1 hk (.inl rfl)); have _ := zK (hb); have _ := zK (hi); clear HO_3 HK HB HI0; rename_i HO_3 HK HB HI0; (try clear hb); (try clear hb2); (try clear hk); (try clear hi)) | ((with_reducible refine gate_callee (f := 162) rfl ?_); refine goesL_ (some 16) rfl rfl Try.func162 (by kernel_rfl) rfl #[.pointer (some ⟨g, 0, none⟩), .int .i64 (wrap64 (2 * x4_1))] rfl M0 ?_; (with_reducible refine (spec_l6Draw.calls g s0_0 t239 t240 (wrap64 (2 * x4_1)) t241 t242 t243 t244 t245 t246 t247 t248 t249 t250 w0 _ ?side1 ?side2 A6.o).mono ?_); (case side1 => repeat (first | (with_reducible first | exact HI0.o | apply IsS187.alloc | apply IsS187.drewN | apply IsS187.drew | apply IsS187.set_1 | apply IsS187.set_2) | exact HI0.o)); (case side2 => repeat (first | (with_reducible first | exact HB.o | apply bA | apply bN | apply below_drew1 | refine bS ?_ (IsS187.ge HI0.o)) | exact HB.o)); rintro e w9 ⟨rfl, hi, hb, hk⟩; refine ⟨_, rfl, ?_⟩; have _ := zK (Kd.R_mono (Kd.R_keep (IsS187.apart (show IsS187 w0 _ g s0_0 t239 t240 from Q0) (Kd.qR HO_3.o) (by decide)) hk (fun _ h => h.2)) (fun _ h => h.1)); have _ := zK (KeepBut.trans M1 hk (.inl rfl)); have _ := zK (hb); have _ := zK (hi); clear HO_3 HK HB HI0; rename_i HO_3 HK HB HI0; (try clear hb); (try clear hb2); (try clear hk); (try clear hi)) | ((with_reducible refine gate_builtin (b := .append) (xs := #[.tmp 12, .tmp 17]) rfl ?_); at_builtin; refine Kd.R_append k126 w.heap.size rfl (.tmp 12) (.tmp 17) 41 126 (.agg #[(.int .i64 0), (.int .i64 0), (.int .i64 0), (.int .i64 0), (.int .i64 0), (.int .i64 0), (.int .i64 0), (.int .i64 0)]) 64 rfl Try.underlying41 info126 rfl (by decide) (by omega) u3 x3_1 (⟨(⟨t241, t242, t243, t244, t245⟩ : S124), t246, t247, t248⟩ : S126) [.int .i64 t241, .int .i64 t242, .int .i64 t243, .int .i64 t244, .int .i64 t245, .int .i64 t246, .int .i64 t247, .int .i64 t248] (fun _ => True) (fun _ => False) rfl rfl ?aP (fun _ hk => hk.elim) ?aF ?aO (Below.refl _ _) ?aS ?aL ?_; (case aP => exact k126_mkM _ _ _ (⟨(⟨t241, t242, t243, t244, t245⟩ : S124), t246, t247, t248⟩ : S126)); (case aF => exact (fun _ _ => trivial)); (case aO => exact (Kd.qR HO_3.o)); (case aS => exact (keep_size (w := w) (g := g) (row := none) M1)); (case aL => have := LMc7.o; omega); intro v252 w10 ho hb hg hat; rw [← Ny251.o] at ho; have _ := zK (IsS187.grown M6 hg (IsS187.own_ne HI0.o HO_3.o (by decide))); have _ := zK (below_weaken M11 HL.o hb); have _ := zK (KeepBut.trans M1 (KeepBut.of_grown hg g) (Kd.R_base2 HO_3.o)); have _ := zK (ho); clear HI0 HB HK HO_3; rename_i HI0 HB HK HO253; clear ho hb hg hat))
   go_roundg k1
   case measure => have := HK1.o; omega
   case rel => exact ⟨(y251), (wrap64 (x4_1 + 1)), (t249), (t250), M7, H', ⟨by have := HK1.o; omega⟩, ⟨by exact Kd.qR HO253.o⟩, ⟨Q0⟩, ⟨Q3⟩, ⟨Q4⟩⟩
/-! ### spec_l1Once: function 114 -/
def spec_l1Once.f (s0_0 : List Int) (s0_1 : Int) (s0_2 : Int) (a1 : Int) : Option (Bool × Int × Int) := (spec_l1Below.f s0_0 s0_1 s0_2 a1).bind fun bt254 => (some ((bt254.1 == 0), bt254.2.1, bt254.2.2))
set_option maxHeartbeats 8000000 in
set_option maxRecDepth 100000 in
theorem spec_l1Once.calls (g : Nat) (s0_0 : List Int) (s0_1 : Int) (s0_2 : Int) (a1 : Int) (r1 : Bool) (r2 : Int) (r3 : Int) (w0 w : World) (hI : IsS187 w0 w g s0_0 s0_1 s0_2) (hB : Below w0.heap.size w0 w) (h : spec_l1Once.f s0_0 s0_1 s0_2 a1 = some (r1, r2, r3)) :
  Calls Try.prog 114 #[.pointer (some ⟨g, 0, none⟩), .int .i64 a1] w fun e w' => e = .returned (.bool r1) ∧ IsS187 w0 w' g s0_0 r2 r3 ∧ Below w0.heap.size w0 w' ∧ KeepBut w w' g none := by
 have HI0 := zK hI
 have HK := zK (KeepBut.refl w g none)
 have HL := zK hB.size
 clear hI
 have HW0 := zK hB.size
 have HB := zK hB
 clear hB
 have H : ((spec_l1Below.f s0_0 s0_1 s0_2 a1).bind fun bt254 => (some ((bt254.1 == 0), bt254.2.1, bt254.2.2))) = some (r1, r2, r3) := h
 clear h
 replace H := Option.bind_eq_some_iff.mp H
 obtain ⟨⟨t254, t255, t256⟩, A30, H⟩ := H
 try dsimp only at H
 have A3 := zK A30
 clear A30
 simp only [Option.some.injEq, Prod.mk.injEq] at H
 obtain ⟨rfl, rfl, rfl⟩ := H
 go_enter Try.func114, Try.ntmps114
 go_wp2_with (first | ((with_reducible refine gate_callee (f := 98) rfl ?_); refine goesL_ (some 7) rfl rfl Try.func98 (by kernel_rfl) rfl #[.pointer (some ⟨g, 0, none⟩), .int .i64 a1] rfl M0 ?_; (with_reducible refine (spec_l1Below.calls g s0_0 s0_1 s0_2 a1 t254 t255 t256 w0 _ ?side1 ?side2 A3.o).mono ?_); (case side1 => repeat (first | (with_reducible first | exact HI0.o | apply IsS187.alloc | apply IsS187.drewN | apply IsS187.drew | apply IsS187.set_1 | apply IsS187.set_2) | exact HI0.o)); (case side2 => repeat (first | (with_reducible first | exact HB.o | apply bA | apply bN | apply below_drew1 | refine bS ?_ (IsS187.ge HI0.o)) | exact HB.o)); rintro e w4 ⟨rfl, hi, hb, hk⟩; refine ⟨_, rfl, ?_⟩; have _ := zK (KeepBut.trans M1 hk (.inl rfl)); have _ := zK (hb); have _ := zK (hi); clear HK HB HI0; rename_i HK HB HI0; (try clear hb); (try clear hb2); (try clear hk); (try clear hi)))
 go_ret
 exact ⟨by first | rfl | (simp [errW_none, errW_some] <;> rfl) | (simp [*, errW_none, errW_some] <;> rfl), Q0, Q4, Q3⟩
/-! ### spec_l7Some: function 201 -/
def spec_l7Some.l0 : Nat → Int → Int → List Int → Int → List Int → Int → Int → Option (List Int × Int × Int)
 | 0, _, _, _, _, _, _, _ => none
 | k + 1, x2, x3, x9, x10, x1000, x1001, x1002 => if x10 ≤ x2 then ((spec_l1Once.f x1000 x1001 x1002 x3).bind fun bt260 => (if bt260.1 = true then (if x9.length < 17592186044416 then (spec_l7Some.l0 k x2 x3 (x9 ++ [x10]) (wrap64 (x10 + 1)) x1000 bt260.2.1 bt260.2.2) else (none)) else (spec_l7Some.l0 k x2 x3 x9 (wrap64 (x10 + 1)) x1000 bt260.2.1 bt260.2.2))) else (some (x9, x1001, x1002))
def spec_l7Some.f (k : Nat) (s0_0 : List Int) (s0_1 : Int) (s0_2 : Int) (a1 : Int) (a2 : Int) (a3 : Int) : Option (List Int × Int × Int) := spec_l7Some.l0 k a2 a3 (([] : List Int)) a1 s0_0 s0_1 s0_2
set_option maxHeartbeats 8000000 in
set_option maxRecDepth 100000 in
theorem spec_l7Some.calls (k : Nat) (g : Nat) (s0_0 : List Int) (s0_1 : Int) (s0_2 : Int) (a1 : Int) (a2 : Int) (a3 : Int) (r1 : List Int) (r2 : Int) (r3 : Int) (w0 w : World) (hI : IsS187 w0 w g s0_0 s0_1 s0_2) (hB : Below w0.heap.size w0 w) (h : spec_l7Some.f k s0_0 s0_1 s0_2 a1 a2 a3 = some (r1, r2, r3)) :
  Calls Try.prog 201 #[.pointer (some ⟨g, 0, none⟩), .int .i64 a1, .int .i64 a2, .int .i64 a3] w fun e w' => ∃ v0_ : Value, e = .returned (v0_) ∧ Kd.R (Kd.int .i64) 3 w' w.heap.size (fun _ => True) v0_ r1 ∧ IsS187 w0 w' g s0_0 r2 r3 ∧ Below w0.heap.size w0 w' ∧ KeepBut w w' g none := by
 have HI0 := zK hI
 have HK := zK (KeepBut.refl w g none)
 have HL := zK hB.size
 clear hI
 have HW0 := zK hB.size
 have HB := zK hB
 clear hB
 have H : (spec_l7Some.l0 k a2 a3 (([] : List Int)) a1 s0_0 s0_1 s0_2) = some (r1, r2, r3) := h
 clear h
 obtain ⟨y257, hy257⟩ : ∃ y_ : List Int, y_ = (([] : List Int)) := ⟨_, rfl⟩
 replace H : (spec_l7Some.l0 k a2 a3 y257 a1 s0_0 s0_1 s0_2) = some (r1, r2, r3) := by first | (rw [hy257]; with_reducible exact H) | (have H2_ := (Option.bind_some _ _).symm.trans H; rw [hy257]; with_reducible exact H2_) | (have H2_ := (Option.bind_some _ _).symm.trans H; with_reducible exact H2_) | with_reducible exact H | (rw [hy257]; exact H) | exact H
 have Ny257 := zK hy257
 clear hy257
 have H' := zK H
 clear H
 go_enter Try.func201, Try.ntmps201
 go_wp2_with (first | ((with_reducible refine gate_dst (N := 11) rfl ?_); refine Kd.R_lit (Kd.int .i64) _ 3 ?hg (N := 11) ?hd (xs := ([] : List Int)) (inner := []) (ok := fun _ => True) (okp := fun _ => True) ?hr ?hp (fun _ hk => hk) trivial (Below.refl _ _) (Nat.le_refl _) (by simp) ?_; (case hd => rfl); (case hg => rfl); (case hr => first | (go_simp; done) | (go_simp; rfl)); (case hp => exact (Reps.none _ _)); intro v258 w5 ho6 hb hg_ hnew_; clear hg_ hnew_; (first | rw [← Ny257.o] at ho6 | (simp only [Int.reduceToNat] at ho6; rw [← Ny257.o] at ho6)); have _ := zK (Kd.R_lower ho6 (keep_size (w := w) (g := g) (row := none) M1)); have _ := zK (IsS187.below M6 hb); have _ := zK (KeepBut.trans M1 (KeepBut.of_below hb g none) (.inl rfl)); have _ := zK (bT M11 hb); clear HI0 HK HB; rename_i HO259 HI0 HK HB; clear hb ho6))
 go_loopg [9, 10] k (fun kq v9 v10 w' => ∃ (x9_1 : List Int) (x10_1 : Int) (x1001_1 : Int) (x1002_1 : Int), v10 = .int .i64 x10_1 ∧ Aside0 (spec_l7Some.l0 kq a2 a3 x9_1 x10_1 s0_0 x1001_1 x1002_1 = some (r1, r2, r3)) ∧ Aside0 (kq ≤ k) ∧ Aside0 (Kd.R (Kd.int .i64) 3 w' w.heap.size (fun _ => True) v9 x9_1) ∧ Aside0 (IsS187 w0 w' g s0_0 x1001_1 x1002_1) ∧ Aside0 (KeepBut w w' g none) ∧ Aside0 (Below w0.heap.size w0 w'))
 case atStart => exact ⟨(y257), (a1), (s0_1), (s0_2), M7, H', ⟨Nat.le_refl _⟩, ⟨by exact Kd.qR HO259.o⟩, ⟨Q0⟩, ⟨Q3⟩, ⟨Q4⟩⟩
 case round =>
  clear H'
  try clear c2
  try clear p2
  obtain ⟨x9_1, x10_1, x1001_1, x1002_1, rfl, HA, HK1, HO_9, HI0, HK, HB⟩ := hrel
  cases gk with
  | zero => exact absurd HA.o (by simp [spec_l7Some.l0])
  | succ k1 =>
   have H := HA.o
   clear HA
   simp only [spec_l7Some.l0] at H
   by_cases c7 : x10_1 ≤ a2
   rotate_left
   ·rw [if_neg c7] at H
    have c7b0 : decide (x10_1 ≤ a2) = false := decide_eq_false c7
    clear c7
    simp only [Option.some.injEq, Prod.mk.injEq] at H
    obtain ⟨rfl, rfl, rfl⟩ := H
    go_wp2
    go_ret
    exact ⟨_, by first | rfl | (simp [errW_none, errW_some] <;> rfl) | (simp [*, errW_none, errW_some] <;> rfl), by exact Kd.qR HO_9.o, Q0, Q4, Q3⟩
   rw [if_pos c7] at H
   have c7b0 : decide (x10_1 ≤ a2) = true := decide_eq_true c7
   clear c7
   replace H := Option.bind_eq_some_iff.mp H
   obtain ⟨⟨t260, t261, t262⟩, A80, H⟩ := H
   try dsimp only at H
   have A8 := zK A80
   clear A80
   by_cases c9 : t260 = true
   rotate_left
   ·replace c9 := Bool.eq_false_iff.mpr c9
    subst c9
    have H1 : (spec_l7Some.l0 k1 a2 a3 x9_1 (wrap64 (x10_1 + 1)) s0_0 t261 t262) = some (r1, r2, r3) := by rw [if_neg (show ¬ (false = true) by decide)] at H; exact H
    clear H
    have H := H1
    clear H1
    have H' := zK H
    clear H
    go_wp2_with (first | ((with_reducible refine gate_callee (f := 114) rfl ?_); refine goesL_ (some 20) rfl rfl Try.func114 (by kernel_rfl) rfl #[.pointer (some ⟨g, 0, none⟩), .int .i64 a3] rfl M0 ?_; (with_reducible refine (spec_l1Once.calls g s0_0 x1001_1 x1002_1 a3 false t261 t262 w0 _ ?side1 ?side2 A8.o).mono ?_); (case side1 => repeat (first | (with_reducible first | exact HI0.o | apply IsS187.alloc | apply IsS187.drewN | apply IsS187.drew | apply IsS187.set_1 | apply IsS187.set_2) | exact HI0.o)); (case side2 => repeat (first | (with_reducible first | exact HB.o | apply bA | apply bN | apply below_drew1 | refine bS ?_ (IsS187.ge HI0.o)) | exact HB.o)); rintro e w13 ⟨rfl, hi, hb, hk⟩; refine ⟨_, rfl, ?_⟩; have _ := zK (Kd.R_mono (Kd.R_keep (IsS187.apart (show IsS187 w0 _ g s0_0 x1001_1 x1002_1 from Q0) (Kd.qR HO_9.o) (by decide)) hk (fun _ h => h.2)) (fun _ h => h.1)); have _ := zK (KeepBut.trans M1 hk (.inl rfl)); have _ := zK (hb); have _ := zK (hi); clear HO_9 HK HB HI0; rename_i HO_9 HK HB HI0; (try clear hb); (try clear hb2); (try clear hk); (try clear hi)))
    go_roundg k1
    case measure => have := HK1.o; omega
    case rel => exact ⟨(x9_1), (wrap64 (x10_1 + 1)), (t261), (t262), M7, H', ⟨by have := HK1.o; omega⟩, ⟨by exact Kd.qR HO_9.o⟩, ⟨Q0⟩, ⟨Q3⟩, ⟨Q4⟩⟩
   subst c9
   have H1 : (if x9_1.length < 17592186044416 then (spec_l7Some.l0 k1 a2 a3 (x9_1 ++ [x10_1]) (wrap64 (x10_1 + 1)) s0_0 t261 t262) else (none)) = some (r1, r2, r3) := by rw [if_pos rfl] at H; exact H
   clear H
   have H := H1
   clear H1
   by_cases c10 : x9_1.length < 17592186044416
   rotate_left
   ·rw [if_neg c10] at H
    exact absurd H (by simp)
   rw [if_pos c10] at H
   have LMc10 := zK c10
   clear c10
   obtain ⟨y263, hy263⟩ : ∃ y_ : List Int, y_ = (x9_1 ++ [x10_1]) := ⟨_, rfl⟩
   replace H : (spec_l7Some.l0 k1 a2 a3 y263 (wrap64 (x10_1 + 1)) s0_0 t261 t262) = some (r1, r2, r3) := by first | (rw [hy263]; with_reducible exact H) | (have H2_ := (Option.bind_some _ _).symm.trans H; rw [hy263]; with_reducible exact H2_) | (have H2_ := (Option.bind_some _ _).symm.trans H; with_reducible exact H2_) | with_reducible exact H | (rw [hy263]; exact H) | exact H
   have Ny263 := zK hy263
   clear hy263
   have H' := zK H
   clear H
   go_wp2_with (first | ((with_reducible refine gate_callee (f := 114) rfl ?_); refine goesL_ (some 20) rfl rfl Try.func114 (by kernel_rfl) rfl #[.pointer (some ⟨g, 0, none⟩), .int .i64 a3] rfl M0 ?_; (with_reducible refine (spec_l1Once.calls g s0_0 x1001_1 x1002_1 a3 true t261 t262 w0 _ ?side1 ?side2 A8.o).mono ?_); (case side1 => repeat (first | (with_reducible first | exact HI0.o | apply IsS187.alloc | apply IsS187.drewN | apply IsS187.drew | apply IsS187.set_1 | apply IsS187.set_2) | exact HI0.o)); (case side2 => repeat (first | (with_reducible first | exact HB.o | apply bA | apply bN | apply below_drew1 | refine bS ?_ (IsS187.ge HI0.o)) | exact HB.o)); rintro e w11 ⟨rfl, hi, hb, hk⟩; refine ⟨_, rfl, ?_⟩; have _ := zK (Kd.R_mono (Kd.R_keep (IsS187.apart (show IsS187 w0 _ g s0_0 x1001_1 x1002_1 from Q0) (Kd.qR HO_9.o) (by decide)) hk (fun _ h => h.2)) (fun _ h => h.1)); have _ := zK (KeepBut.trans M1 hk (.inl rfl)); have _ := zK (hb); have _ := zK (hi); clear HO_9 HK HB HI0; rename_i HO_9 HK HB HI0; (try clear hb); (try clear hb2); (try clear hk); (try clear hi)) | ((with_reducible refine gate_builtin (b := .append) (xs := #[.tmp 21, .tmp 23]) rfl ?_); at_builtin; refine Kd.R_append (Kd.int .i64) w.heap.size rfl (.tmp 21) (.tmp 23) 30 3 (.int .i64 0) 8 rfl Try.underlying30 info3 rfl (by decide) (by omega) u9 x9_1 x10_1 [.int .i64 x10_1] (fun _ => True) (fun _ => False) rfl rfl ?aP (fun _ hk => hk.elim) ?aF ?aO (Below.refl _ _) ?aS ?aL ?_; (case aP => exact rfl); (case aF => exact (fun _ _ => trivial)); (case aO => exact (Kd.qR HO_9.o)); (case aS => exact (keep_size (w := w) (g := g) (row := none) M1)); (case aL => have := LMc10.o; omega); intro v264 w12 ho hb hg hat; rw [← Ny263.o] at ho; have _ := zK (IsS187.grown M6 hg (IsS187.own_ne HI0.o HO_9.o (by decide))); have _ := zK (below_weaken M11 HL.o hb); have _ := zK (KeepBut.trans M1 (KeepBut.of_grown hg g) (Kd.R_base2 HO_9.o)); have _ := zK (ho); clear HI0 HB HK HO_9; rename_i HI0 HB HK HO265; clear ho hb hg hat))
   go_roundg k1
   case measure => have := HK1.o; omega
   case rel => exact ⟨(y263), (wrap64 (x10_1 + 1)), (t261), (t262), M7, H', ⟨by have := HK1.o; omega⟩, ⟨by exact Kd.qR HO265.o⟩, ⟨Q0⟩, ⟨Q3⟩, ⟨Q4⟩⟩
/-! ### spec_l5Draw: function 202 -/
def spec_l5Draw.f (s0_0 : List Int) (s0_1 : Int) (s0_2 : Int) : Option (Int × Int × Int × Int) := (spec_l1Below.f s0_0 s0_1 s0_2 60).bind fun bt267 => ((spec_l1Below.f s0_0 bt267.2.1 bt267.2.2 30).bind fun bt270 => (some (bt267.1, wrap64 (bt267.1 + bt270.1), bt270.2.1, bt270.2.2)))
set_option maxHeartbeats 8000000 in
set_option maxRecDepth 100000 in
theorem spec_l5Draw.calls (g : Nat) (s0_0 : List Int) (s0_1 : Int) (s0_2 : Int) (r1 : Int) (r2 : Int) (r3 : Int) (r4 : Int) (w0 w : World) (hI : IsS187 w0 w g s0_0 s0_1 s0_2) (hB : Below w0.heap.size w0 w) (h : spec_l5Draw.f s0_0 s0_1 s0_2 = some (r1, r2, r3, r4)) :
  Calls Try.prog 202 #[.pointer (some ⟨g, 0, none⟩)] w fun e w' => e = .returned (.agg #[.int .i64 r1, .int .i64 r2]) ∧ IsS187 w0 w' g s0_0 r3 r4 ∧ Below w0.heap.size w0 w' ∧ KeepBut w w' g none := by
 have hu85 := Try.underlying85
 have HI0 := zK hI
 have HK := zK (KeepBut.refl w g none)
 have HL := zK hB.size
 clear hI
 have HW0 := zK hB.size
 have HB := zK hB
 clear hB
 have H : ((spec_l1Below.f s0_0 s0_1 s0_2 60).bind fun bt267 => ((spec_l1Below.f s0_0 bt267.2.1 bt267.2.2 30).bind fun bt270 => (some (bt267.1, wrap64 (bt267.1 + bt270.1), bt270.2.1, bt270.2.2)))) = some (r1, r2, r3, r4) := h
 clear h
 replace H := Option.bind_eq_some_iff.mp H
 obtain ⟨⟨t267, t268, t269⟩, A20, H⟩ := H
 try dsimp only at H
 have A2 := zK A20
 clear A20
 replace H := Option.bind_eq_some_iff.mp H
 obtain ⟨⟨t270, t271, t272⟩, A30, H⟩ := H
 try dsimp only at H
 have A3 := zK A30
 clear A30
 simp only [Option.some.injEq, Prod.mk.injEq] at H
 obtain ⟨rfl, rfl, rfl, rfl⟩ := H
 go_enter Try.func202, Try.ntmps202
 go_wp2_with (first | ((with_reducible refine gate_dst (N := 2) rfl ?_); refine box_event ?hg (N := 2) ?hd (cs := #[.int .i64 0, .int .i64 0]) (t := 85) ?hr ?_; (case hd => rfl); (case hg => rfl); (case hr => first | (go_simp; done) | (go_simp; rfl)); intro gb266 hg w4 hbox hb; have _ := zK (IsS187.below M6 hb); have _ := zK (KeepBut.trans M1 (KeepBut.of_below hb g none) (.inl rfl)); have _ := zK (bT M11 hb); have _ := zK (hbox); have _ := zK ((by rw [hg]; exact (keep_size (w := w) (g := g) (row := none) M1) : w.heap.size ≤ gb266)); have _ := zK ((Nat.le_trans HW0.o (by rw [hg]; exact (keep_size (w := w) (g := g) (row := none) M1) : w.heap.size ≤ gb266) : w0.heap.size ≤ gb266)); have _ := zK ((by rw [hg]; exact Nat.ne_of_lt (IsS187.lt (show IsS187 w0 _ g s0_0 s0_1 s0_2 from Q0)) : g ≠ gb266)); have _ := zK ((by rw [hg]; exact Nat.ne_of_gt (IsS187.lt (show IsS187 w0 _ g s0_0 s0_1 s0_2 from Q0)) : gb266 ≠ g)); clear HI0 HK HB; rename_i HI0 HK HB BK266 GW266 GE266 NB0_266 NB266_0; clear hb hbox hg) | ((with_reducible refine gate_callee (f := 98) rfl ?_); refine goesL_ (some 5) rfl rfl Try.func98 (by kernel_rfl) rfl #[.pointer (some ⟨g, 0, none⟩), .int .i64 60] rfl M0 ?_; (with_reducible refine (spec_l1Below.calls g s0_0 s0_1 s0_2 60 t267 t268 t269 w0 _ ?side1 ?side2 A2.o).mono ?_); (case side1 => repeat (first | (with_reducible first | exact HI0.o | apply IsS187.alloc | apply IsS187.drewN | apply IsS187.drew | apply IsS187.set_1 | apply IsS187.set_2 | refine IsS187.far ?_ NB0_266.o _) | exact HI0.o)); (case side2 => repeat (first | (with_reducible first | exact HB.o | apply bA | apply bN | apply below_drew1 | refine bS ?_ (IsS187.ge HI0.o) | refine bS ?_ GE266.o) | exact HB.o)); rintro e w5 ⟨rfl, hi, hb, hk⟩; refine ⟨_, rfl, ?_⟩; have _ := zK (KeepBut.blk hk (g' := gb266) (o := .cells #[.int .i64 0, .int .i64 0] 85 (0, 0)) (qK BK266.o) NB266_0.o (by simp)); have _ := zK (KeepBut.trans (Q22) hk (.inl rfl)); have _ := zK (hb); have _ := zK (hi); clear BK266 HK HB HI0; rename_i BK266 HK HB HI0; (try clear hb); (try clear hb2); (try clear hk); (try clear hi)) | ((with_reducible refine gate_callee (f := 98) rfl ?_); refine goesL_ (some 9) rfl rfl Try.func98 (by kernel_rfl) rfl #[.pointer (some ⟨g, 0, none⟩), .int .i64 30] rfl M0 ?_; (with_reducible refine (spec_l1Below.calls g s0_0 t268 t269 30 t270 t271 t272 w0 _ ?side1 ?side2 A3.o).mono ?_); (case side1 => repeat (first | (with_reducible first | exact HI0.o | apply IsS187.alloc | apply IsS187.drewN | apply IsS187.drew | apply IsS187.set_1 | apply IsS187.set_2 | refine IsS187.far ?_ NB0_266.o _) | exact HI0.o)); (case side2 => repeat (first | (with_reducible first | exact HB.o | apply bA | apply bN | apply below_drew1 | refine bS ?_ (IsS187.ge HI0.o) | refine bS ?_ GE266.o) | exact HB.o)); rintro e w6 ⟨rfl, hi, hb, hk⟩; refine ⟨_, rfl, ?_⟩; have _ := zK (KeepBut.blk hk (g' := gb266) (o := .cells #[.int .i64 0, .int .i64 0] 85 (0, 0)) (qK BK266.o) NB266_0.o (by simp)); have _ := zK (KeepBut.trans (Q22) hk (.inl rfl)); have _ := zK (hb); have _ := zK (hi); clear BK266 HK HB HI0; rename_i BK266 HK HB HI0; (try clear hb); (try clear hb2); (try clear hk); (try clear hi); have hnb7 := NB266_0.o; have hnc7 := NB0_266.o; obtain ⟨hcz8_0, hcz8_1, hfz8_0, hfz8_1⟩ := bx2 BK266.o))
 refine bodyPost_ret (results_cell_row rfl _ _ gb266 85 #[.int .i64 t267, .int .i64 (wrap64 (t267 + t270))] (0, 0) _ rfl (by (with_reducible repeat (first | refine kN ?_ _ | refine kD ?_ | refine kA ?_ _)); refine blk_put (cs := #[.int .i64 t267, .int .i64 0]) ?_ 1 _ rfl; (with_reducible repeat (first | refine kN ?_ _ | refine kD ?_ | refine kA ?_ _)); refine blk_put (cs := #[.int .i64 0, .int .i64 0]) ?_ 0 _ rfl; exact qK BK266.o) Try.underlying85 rfl (by kernel_rfl)) rfl ?_
 exact ⟨by first | rfl | (simp [errW_none, errW_some] <;> rfl) | (simp [*, errW_none, errW_some] <;> rfl), by repeat (first | (with_reducible first | exact HI0.o | apply IsS187.alloc | apply IsS187.drewN | apply IsS187.drew | apply IsS187.set_1 | apply IsS187.set_2 | refine IsS187.far ?_ NB0_266.o _) | exact HI0.o), by repeat (first | (with_reducible first | exact HB.o | apply bA | apply bN | apply below_drew1 | refine bS ?_ (IsS187.ge HI0.o) | refine bS ?_ GE266.o) | exact HB.o), Q22⟩

end Go.Proofs.Ytpkdbkheggfkkaa.PFnLetters
