/- Walks of functions that FnExactSendAll reaches: written by a tool of the kit for this claim, then shortened by a program of ours. -/
import Derived.Test.YtejhjenlodclpaaPFnExactSendAllx0
import Derived.Test.YtejhjenlodclpaaPFnExactSendAllx5
import Derived.Test.YtejhjenlodclpaaPFnExactSendAllx6
import Derived.Test.YtejhjenlodclpaaPFnExactSendAllx7
import Derived.Test.YtejhjenlodclpaaPFnExactSendAllx14
import Derived.Test.YtejhjenlodclpaaPFnExactSendAllx15
/- narrow -/
namespace Go.Proofs.Ytejhjenlodclpaa.PFnExactSendAll
open Go.RowKit Go.Proofs.YtejhjenlodclpaaW.PrintWords Go.Proofs.YtejhjenlodclpaaW.PrintLast Go.Proofs.YtejhjenlodclpaaW.PrintMore
attribute [local go_sem] max2_int min2_int max_two min_two max_three min_three max_four min_four   -- for this text's walks alone
set_option linter.unusedVariables false
set_option linter.unusedSimpArgs false

/-! ### laws_FnExactSendAll: function 9 -/
mutual
def laws_FnExactSendAll.j0 : Nat → List (S145) → List (S74) → List (S138) → Int → List (S138) → List (S53) → List (S138) → Int → Bool → Option (Bool)
 | 0, _, _, _, _, _, _, _, _, _ => none
 | k + 1, x0, x1, x6, x7, x8, x9, x10, x11, x53 => if x53 = true then (some false) else ((laws_toHandS.f k x0).bind fun t436 => ((laws_eqHandS.f k x8 t436).bind fun t439 => (if t439 = true then ((laws_toParcelS.f k x1).bind fun t440 => ((laws_eqParcelS.f k x9 t440).bind fun t443 => (if t443 = true then ((laws_markHandS.f k x8 1).bind fun bt444 => ((laws_markParcelS.f k x9 bt444.1).bind fun t446 => (if t446 < 0 then (laws_FnExactSendAll.j1 k x0 x1 x6 x7 x10 true) else ((laws_eqHandS.f k x10 x6).bind fun t447 => (if t447 = true then (laws_FnExactSendAll.j1 k x0 x1 x6 x7 x10 (x11 != x7)) else (laws_FnExactSendAll.j1 k x0 x1 x6 x7 x10 true)))))) else (some false)))) else (some false))))
def laws_FnExactSendAll.j1 : Nat → List (S145) → List (S74) → List (S138) → Int → List (S138) → Bool → Option (Bool)
 | 0, _, _, _, _, _, _ => none
 | k + 1, x0, x1, x6, x7, x10, x82 => if x82 = true then (some false) else ((laws_markHandS.f k x10 1).bind fun bt448 => ((laws_heldHandS.f k bt448.2 1).bind fun t450 => (if t450 < 0 then (some false) else (if t450 = bt448.1 then ((laws_toHandS.f k x0).bind fun t451 => ((laws_toParcelS.f k x1).bind fun t454 => ((impl_SendAll.f k t451 t454).bind fun bt457 => ((laws_eqHandS.f k bt457.1 x6).bind fun t461 => (if t461 = true then (laws_FnExactSendAll.j2 k bt448.2 bt448.1 (bt457.2 != x7)) else (laws_FnExactSendAll.j2 k bt448.2 bt448.1 true)))))) else (some false)))))
def laws_FnExactSendAll.j2 : Nat → List (S138) → Int → Bool → Option (Bool)
 | 0, _, _, _ => none
 | k + 1, x10, x13, x110 => if x110 = true then (some false) else ((laws_heldHandS.f k x10 1).bind fun t462 => (if t462 < 0 then (some false) else (if t462 = x13 then (some true) else (some false))))
end
def laws_FnExactSendAll.f (k : Nat) (l0 : List (S145)) (l1 : List (S74)) : Option (Bool) := (laws_szHandS.f l0 1048576).bind fun t413 => (if t413 < 0 then (some true) else ((laws_szParcelS.f k l1 t413).bind fun t414 => (if t414 < 0 then (some true) else ((laws_toHandS.f k l0).bind fun t415 => ((laws_toParcelS.f k l1).bind fun t418 => ((spec_SendAll.f k t415 t418).bind fun bt421 => ((laws_toHandS.f k l0).bind fun t425 => ((laws_toParcelS.f k l1).bind fun t428 => ((impl_SendAll.f k t425 t428).bind fun bt431 => ((laws_eqHandS.f k bt431.1 bt421.1).bind fun t435 => (if t435 = true then (laws_FnExactSendAll.j0 k l0 l1 bt421.1 bt421.2 t425 t428 bt431.1 bt431.2 (bt431.2 != bt421.2)) else (laws_FnExactSendAll.j0 k l0 l1 bt421.1 bt421.2 t425 t428 bt431.1 bt431.2 true))))))))))))
set_option maxHeartbeats 8000000 in
set_option maxRecDepth 100000 in
theorem laws_FnExactSendAll.calls (k : Nat) (A0 : Option Addr) (c0 : Nat) (l0 : List (S145)) (A1 : Option Addr) (c1 : Nat) (l1 : List (S74)) (r : Bool) (w : World) (hr0 : Kd.C k145 w A0 l0.length l0) (hc0 : l0.length ≤ c0) (hr1 : Kd.C k74 w A1 l1.length l1) (hc1 : l1.length ≤ c1) (h : laws_FnExactSendAll.f k l0 l1 = some r) :
  Calls Try.prog 9 #[.slice A0 l0.length c0, .slice A1 l1.length c1] w fun e w' => e = .returned (.bool r) ∧ Below w.heap.size w w' := by
 have HR0 := zK hr0
 have HC0 := zK hc0
 clear hr0 hc0
 have HR1 := zK hr1
 have HC1 := zK hc1
 clear hr1 hc1
 have HB := zK (Below.refl w.heap.size w)
 have H : ((laws_szHandS.f l0 1048576).bind fun t413 => (if t413 < 0 then (some true) else ((laws_szParcelS.f k l1 t413).bind fun t414 => (if t414 < 0 then (some true) else ((laws_toHandS.f k l0).bind fun t415 => ((laws_toParcelS.f k l1).bind fun t418 => ((spec_SendAll.f k t415 t418).bind fun bt421 => ((laws_toHandS.f k l0).bind fun t425 => ((laws_toParcelS.f k l1).bind fun t428 => ((impl_SendAll.f k t425 t428).bind fun bt431 => ((laws_eqHandS.f k bt431.1 bt421.1).bind fun t435 => (if t435 = true then (laws_FnExactSendAll.j0 k l0 l1 bt421.1 bt421.2 t425 t428 bt431.1 bt431.2 (bt431.2 != bt421.2)) else (laws_FnExactSendAll.j0 k l0 l1 bt421.1 bt421.2 t425 t428 bt431.1 bt431.2 true))))))))))))) = some r := h
 clear h
 replace H := Option.bind_eq_some_iff.mp H
 obtain ⟨t413, A30, H⟩ := H
 replace H : (if t413 < 0 then (some true) else ((laws_szParcelS.f k l1 t413).bind fun t414 => (if t414 < 0 then (some true) else ((laws_toHandS.f k l0).bind fun t415 => ((laws_toParcelS.f k l1).bind fun t418 => ((spec_SendAll.f k t415 t418).bind fun bt421 => ((laws_toHandS.f k l0).bind fun t425 => ((laws_toParcelS.f k l1).bind fun t428 => ((impl_SendAll.f k t425 t428).bind fun bt431 => ((laws_eqHandS.f k bt431.1 bt421.1).bind fun t435 => (if t435 = true then (laws_FnExactSendAll.j0 k l0 l1 bt421.1 bt421.2 t425 t428 bt431.1 bt431.2 (bt431.2 != bt421.2)) else (laws_FnExactSendAll.j0 k l0 l1 bt421.1 bt421.2 t425 t428 bt431.1 bt431.2 true)))))))))))) = some r := H
 have A3 := zK A30
 clear A30
 by_cases c4 : t413 < 0
 ·rw [if_pos c4] at H
  have c4b0 : decide (t413 < 0) = true := decide_eq_true c4
  clear c4
  obtain rfl := Option.some.inj H
  go_enter Try.func9, Try.ntmps9
  go_wp2_with (first | ((with_reducible refine gate_callee (f := 47) rfl ?_); refine goesL_ (some 19) rfl rfl Try.func47 (by kernel_rfl) rfl #[.slice A0 l0.length c0, .int .i64 1048576] rfl M0 ?_; (with_reducible refine (laws_szHandS.calls _ _ l0 1048576 t413 _ ?side1 ?side2 A3.out).mono ?_); (case side1 => exact Kd.qC HR0.out); (case side2 => exact HC0.out); rintro e w' ⟨rfl, ⟨nd, rfl⟩⟩; refine ⟨_, rfl, ?_⟩))
  go_ret
  exact ⟨by first | rfl | (simp [errW_none, errW_some] <;> rfl) | (simp [*, errW_none, errW_some] <;> rfl), by exact qB HB.out⟩
 rw [if_neg c4] at H
 have c4b0 : decide (t413 < 0) = false := decide_eq_false c4
 clear c4
 replace H := Option.bind_eq_some_iff.mp H
 obtain ⟨t414, A50, H⟩ := H
 replace H : (if t414 < 0 then (some true) else ((laws_toHandS.f k l0).bind fun t415 => ((laws_toParcelS.f k l1).bind fun t418 => ((spec_SendAll.f k t415 t418).bind fun bt421 => ((laws_toHandS.f k l0).bind fun t425 => ((laws_toParcelS.f k l1).bind fun t428 => ((impl_SendAll.f k t425 t428).bind fun bt431 => ((laws_eqHandS.f k bt431.1 bt421.1).bind fun t435 => (if t435 = true then (laws_FnExactSendAll.j0 k l0 l1 bt421.1 bt421.2 t425 t428 bt431.1 bt431.2 (bt431.2 != bt421.2)) else (laws_FnExactSendAll.j0 k l0 l1 bt421.1 bt421.2 t425 t428 bt431.1 bt431.2 true)))))))))) = some r := H
 have A5 := zK A50
 clear A50
 by_cases c6 : t414 < 0
 ·rw [if_pos c6] at H
  have c6b0 : decide (t414 < 0) = true := decide_eq_true c6
  clear c6
  obtain rfl := Option.some.inj H
  go_enter Try.func9, Try.ntmps9
  go_wp2_with (first | ((with_reducible refine gate_callee (f := 47) rfl ?_); refine goesL_ (some 19) rfl rfl Try.func47 (by kernel_rfl) rfl #[.slice A0 l0.length c0, .int .i64 1048576] rfl M0 ?_; (with_reducible refine (laws_szHandS.calls _ _ l0 1048576 t413 _ ?side1 ?side2 A3.out).mono ?_); (case side1 => exact Kd.qC HR0.out); (case side2 => exact HC0.out); rintro e w' ⟨rfl, ⟨nd, rfl⟩⟩; refine ⟨_, rfl, ?_⟩) | ((with_reducible refine gate_callee (f := 57) rfl ?_); refine goesL_ (some 24) rfl rfl Try.func57 (by kernel_rfl) rfl #[.slice A1 l1.length c1, .int .i64 t413] rfl M0 ?_; (with_reducible refine (laws_szParcelS.calls k _ _ l1 t413 t414 _ ?side1 ?side2 A5.out).mono ?_); (case side1 => exact Kd.qC HR1.out); (case side2 => exact HC1.out); rintro e w7 ⟨rfl, hb⟩; refine ⟨_, rfl, ?_⟩; have n0_ := zK (bT (qB HB.out) hb); clear HB; have HB := n0_; clear n0_; (try clear hb); (try clear hb2); (try clear hk); (try clear hi)))
  go_ret
  exact ⟨by first | rfl | (simp [errW_none, errW_some] <;> rfl) | (simp [*, errW_none, errW_some] <;> rfl), by exact qB HB.out⟩
 rw [if_neg c6] at H
 have c6b0 : decide (t414 < 0) = false := decide_eq_false c6
 clear c6
 replace H := Option.bind_eq_some_iff.mp H
 obtain ⟨t415, A80, H⟩ := H
 replace H : ((laws_toParcelS.f k l1).bind fun t418 => ((spec_SendAll.f k t415 t418).bind fun bt421 => ((laws_toHandS.f k l0).bind fun t425 => ((laws_toParcelS.f k l1).bind fun t428 => ((impl_SendAll.f k t425 t428).bind fun bt431 => ((laws_eqHandS.f k bt431.1 bt421.1).bind fun t435 => (if t435 = true then (laws_FnExactSendAll.j0 k l0 l1 bt421.1 bt421.2 t425 t428 bt431.1 bt431.2 (bt431.2 != bt421.2)) else (laws_FnExactSendAll.j0 k l0 l1 bt421.1 bt421.2 t425 t428 bt431.1 bt431.2 true)))))))) = some r := H
 have A8 := zK A80
 clear A80
 replace H := Option.bind_eq_some_iff.mp H
 obtain ⟨t418, A90, H⟩ := H
 replace H : ((spec_SendAll.f k t415 t418).bind fun bt421 => ((laws_toHandS.f k l0).bind fun t425 => ((laws_toParcelS.f k l1).bind fun t428 => ((impl_SendAll.f k t425 t428).bind fun bt431 => ((laws_eqHandS.f k bt431.1 bt421.1).bind fun t435 => (if t435 = true then (laws_FnExactSendAll.j0 k l0 l1 bt421.1 bt421.2 t425 t428 bt431.1 bt431.2 (bt431.2 != bt421.2)) else (laws_FnExactSendAll.j0 k l0 l1 bt421.1 bt421.2 t425 t428 bt431.1 bt431.2 true))))))) = some r := H
 have A9 := zK A90
 clear A90
 replace H := Option.bind_eq_some_iff.mp H
 obtain ⟨⟨t421, t422⟩, A100, H⟩ := H
 replace H : ((laws_toHandS.f k l0).bind fun t425 => ((laws_toParcelS.f k l1).bind fun t428 => ((impl_SendAll.f k t425 t428).bind fun bt431 => ((laws_eqHandS.f k bt431.1 t421).bind fun t435 => (if t435 = true then (laws_FnExactSendAll.j0 k l0 l1 t421 t422 t425 t428 bt431.1 bt431.2 (bt431.2 != t422)) else (laws_FnExactSendAll.j0 k l0 l1 t421 t422 t425 t428 bt431.1 bt431.2 true)))))) = some r := H
 have A10 := zK A100
 clear A100
 replace H := Option.bind_eq_some_iff.mp H
 obtain ⟨t425, A110, H⟩ := H
 replace H : ((laws_toParcelS.f k l1).bind fun t428 => ((impl_SendAll.f k t425 t428).bind fun bt431 => ((laws_eqHandS.f k bt431.1 t421).bind fun t435 => (if t435 = true then (laws_FnExactSendAll.j0 k l0 l1 t421 t422 t425 t428 bt431.1 bt431.2 (bt431.2 != t422)) else (laws_FnExactSendAll.j0 k l0 l1 t421 t422 t425 t428 bt431.1 bt431.2 true))))) = some r := H
 have A11 := zK A110
 clear A110
 replace H := Option.bind_eq_some_iff.mp H
 obtain ⟨t428, A120, H⟩ := H
 replace H : ((impl_SendAll.f k t425 t428).bind fun bt431 => ((laws_eqHandS.f k bt431.1 t421).bind fun t435 => (if t435 = true then (laws_FnExactSendAll.j0 k l0 l1 t421 t422 t425 t428 bt431.1 bt431.2 (bt431.2 != t422)) else (laws_FnExactSendAll.j0 k l0 l1 t421 t422 t425 t428 bt431.1 bt431.2 true)))) = some r := H
 have A12 := zK A120
 clear A120
 replace H := Option.bind_eq_some_iff.mp H
 obtain ⟨⟨t431, t432⟩, A130, H⟩ := H
 replace H : ((laws_eqHandS.f k t431 t421).bind fun t435 => (if t435 = true then (laws_FnExactSendAll.j0 k l0 l1 t421 t422 t425 t428 t431 t432 (t432 != t422)) else (laws_FnExactSendAll.j0 k l0 l1 t421 t422 t425 t428 t431 t432 true))) = some r := H
 have A13 := zK A130
 clear A130
 have HC14 := zK H
 clear H
 go_enter Try.func9, Try.ntmps9
 go_upto_region 12 with (first | ((with_reducible refine gate_callee (f := 47) rfl ?_); refine goesL_ (some 19) rfl rfl Try.func47 (by kernel_rfl) rfl #[.slice A0 l0.length c0, .int .i64 1048576] rfl M0 ?_; (with_reducible refine (laws_szHandS.calls _ _ l0 1048576 t413 _ ?side1 ?side2 A3.out).mono ?_); (case side1 => exact Kd.qC HR0.out); (case side2 => exact HC0.out); rintro e w' ⟨rfl, ⟨nd, rfl⟩⟩; refine ⟨_, rfl, ?_⟩) | ((with_reducible refine gate_callee (f := 57) rfl ?_); refine goesL_ (some 24) rfl rfl Try.func57 (by kernel_rfl) rfl #[.slice A1 l1.length c1, .int .i64 t413] rfl M0 ?_; (with_reducible refine (laws_szParcelS.calls k _ _ l1 t413 t414 _ ?side1 ?side2 A5.out).mono ?_); (case side1 => exact Kd.qC HR1.out); (case side2 => exact HC1.out); rintro e w15 ⟨rfl, hb⟩; refine ⟨_, rfl, ?_⟩; have n0_ := zK (bT (qB HB.out) hb); clear HB; have HB := n0_; clear n0_; (try clear hb); (try clear hb2); (try clear hk); (try clear hi)) | ((with_reducible refine gate_callee (f := 50) rfl ?_); refine goesL_ (some 29) rfl rfl Try.func50 (by kernel_rfl) rfl #[.slice A0 l0.length c0] rfl M0 ?_; (with_reducible refine (laws_toHandS.calls k _ _ l0 t415 _ ?side1 ?side2 A8.out).mono ?_); (case side1 => exact Kd.qC (Kd.C_below HR0.out HB.out)); (case side2 => exact HC0.out); rintro e w16 ⟨v416, rfl, ho0, hb⟩; refine ⟨_, rfl, ?_⟩; have n0_ := zK (Kd.R_lower ho0 (bZ (qB HB.out))); have n1_ := zK (bT (qB HB.out) hb); clear HB; have HO417 := n0_; have HB := n1_; clear n0_ n1_; (try clear hb); (try clear hb2); (try clear hk); (try clear hi); (try clear ho0)) | ((with_reducible refine gate_callee (f := 59) rfl ?_); refine goesL_ (some 31) rfl rfl Try.func59 (by kernel_rfl) rfl #[.slice A1 l1.length c1] rfl M0 ?_; (with_reducible refine (laws_toParcelS.calls k _ _ l1 t418 _ ?side1 ?side2 A9.out).mono ?_); (case side1 => exact Kd.qC (Kd.C_below HR1.out HB.out)); (case side2 => exact HC1.out); rintro e w17 ⟨v419, rfl, ho0, hb⟩; refine ⟨_, rfl, ?_⟩; have n0_ := zK (Kd.R_below (Kd.qR HO417.out) hb); have n1_ := zK (Kd.S_lower ho0 (bZ (qB HB.out))); have n2_ := zK (bT (qB HB.out) hb); clear HO417 HB; have HO417 := n0_; have HO420 := n1_; have HB := n2_; clear n0_ n1_ n2_; (try clear hb); (try clear hb2); (try clear hk); (try clear hi); (try clear ho0); obtain ⟨Ao18, co18, eo18⟩ := Kd.R_slice HO417.out; subst eo18; obtain ⟨Ao19, co19, eo19⟩ := Kd.S_slice HO420.out; subst eo19) | ((with_reducible refine gate_callee (f := 58) rfl ?_); refine goesL_ (some 32) rfl rfl Try.func58 (by kernel_rfl) rfl #[.slice Ao18 t415.length co18, .slice Ao19 t418.length co19] rfl M0 ?_; (with_reducible refine (spec_SendAll.calls k _ _ t415 _ _ t418 t421 t422 _ ?side1 ?side2 ?side3 ?side4 A10.out).mono ?_); (case side1 => exact Kd.qC (Kd.R_reads' HO417.out).2.2); (case side2 => exact (Kd.R_reads' HO417.out).2.1); (case side3 => repeat (first | exact (Kd.S_reads' HO420.out).2.2 | (with_reducible refine Kd.CA ?_ _) | (with_reducible refine Kd.CN ?_ _) | (with_reducible refine Kd.CD ?_))); (case side4 => exact (Kd.S_reads' HO420.out).2.1); rintro e w20 ⟨v423, rfl, ho0, hb⟩; refine ⟨_, rfl, ?_⟩; have n0_ := zK (Kd.R_elder' (Kd.qR HO417.out) (Kd.R_base ho0) hb); have n1_ := zK (Kd.S_below M15 hb); have n2_ := zK (Kd.R_lower (Kd.R_new' ho0 (Kd.R_lt (Kd.qR HO417.out))) (bZ (qB HB.out))); have n3_ := zK (bT (qB HB.out) hb); clear HO417 HO420 HB; have HO417 := n0_; have HO420 := n1_; have HO424 := n2_; have HB := n3_; clear n0_ n1_ n2_ n3_; (try clear hb); (try clear hb2); (try clear hk); (try clear hi); (try clear ho0)) | ((with_reducible refine gate_callee (f := 50) rfl ?_); refine goesL_ (some 36) rfl rfl Try.func50 (by kernel_rfl) rfl #[.slice A0 l0.length c0] rfl M0 ?_; (with_reducible refine (laws_toHandS.calls k _ _ l0 t425 _ ?side1 ?side2 A11.out).mono ?_); (case side1 => exact Kd.qC (Kd.C_below HR0.out HB.out)); (case side2 => exact HC0.out); rintro e w21 ⟨v426, rfl, ho0, hb⟩; refine ⟨_, rfl, ?_⟩; have n0_ := zK (Kd.R_elder' (Kd.qR HO417.out) (Kd.R_base ho0) hb); have n1_ := zK (Kd.S_below M15 hb); have n2_ := zK (Kd.R_elder' (Kd.qR HO424.out) (Kd.R_base ho0) hb); have n3_ := zK (Kd.R_lower (Kd.R_new' (Kd.R_new' ho0 (Kd.R_lt (Kd.qR HO417.out))) (Kd.R_lt (Kd.qR HO424.out))) (bZ (qB HB.out))); have n4_ := zK (bT (qB HB.out) hb); clear HO417 HO420 HO424 HB; have HO417 := n0_; have HO420 := n1_; have HO424 := n2_; have HO427 := n3_; have HB := n4_; clear n0_ n1_ n2_ n3_ n4_; (try clear hb); (try clear hb2); (try clear hk); (try clear hi); (try clear ho0)) | ((with_reducible refine gate_callee (f := 59) rfl ?_); refine goesL_ (some 38) rfl rfl Try.func59 (by kernel_rfl) rfl #[.slice A1 l1.length c1] rfl M0 ?_; (with_reducible refine (laws_toParcelS.calls k _ _ l1 t428 _ ?side1 ?side2 A12.out).mono ?_); (case side1 => exact Kd.qC (Kd.C_below HR1.out HB.out)); (case side2 => exact HC1.out); rintro e w22 ⟨v429, rfl, ho0, hb⟩; refine ⟨_, rfl, ?_⟩; have n0_ := zK (Kd.R_below (Kd.qR HO417.out) hb); have n1_ := zK (Kd.S_elder' M15 (Kd.S_base ho0) hb); have n2_ := zK (Kd.R_below (Kd.qR HO424.out) hb); have n3_ := zK (Kd.R_below (Kd.qR HO427.out) hb); have n4_ := zK (Kd.S_lower (Kd.S_new' ho0 (Kd.S_lt M15)) (bZ (qB HB.out))); have n5_ := zK (bT (qB HB.out) hb); clear HO417 HO420 HO424 HO427 HB; have HO417 := n0_; have HO420 := n1_; have HO424 := n2_; have HO427 := n3_; have HO430 := n4_; have HB := n5_; clear n0_ n1_ n2_ n3_ n4_ n5_; (try clear hb); (try clear hb2); (try clear hk); (try clear hi); (try clear ho0); obtain ⟨Ao23, co23, eo23⟩ := Kd.R_slice HO427.out; subst eo23; obtain ⟨Ao24, co24, eo24⟩ := Kd.S_slice HO430.out; subst eo24) | ((with_reducible refine gate_callee (f := 40) rfl ?_); refine goesL_ (some 42) rfl rfl Try.func40 (by kernel_rfl) rfl #[.slice Ao23 t425.length co23, .slice Ao24 t428.length co24] rfl M0 ?_; (with_reducible refine (impl_SendAll.calls k _ _ t425 _ _ t428 t431 t432 _ ?side1 ?side2 ?side3 ?side4 A13.out).mono ?_); (case side1 => exact Kd.qC (Kd.R_reads' HO427.out).2.2); (case side2 => exact (Kd.R_reads' HO427.out).2.1); (case side3 => repeat (first | exact (Kd.S_reads' HO430.out).2.2 | (with_reducible refine Kd.CA ?_ _) | (with_reducible refine Kd.CN ?_ _) | (with_reducible refine Kd.CD ?_))); (case side4 => exact (Kd.S_reads' HO430.out).2.1); rintro e w25 ⟨v433, rfl, ho0, hb⟩; refine ⟨_, rfl, ?_⟩; have n0_ := zK (Kd.R_elder' (Kd.qR HO417.out) (Kd.R_base ho0) hb); have n1_ := zK (Kd.S_below M15 hb); have n2_ := zK (Kd.R_elder' (Kd.qR HO424.out) (Kd.R_base ho0) hb); have n3_ := zK (Kd.R_elder' (Kd.qR HO427.out) (Kd.R_base ho0) hb); have n4_ := zK (Kd.S_below (by (with_reducible repeat (first | apply Kd.S_alloc | apply Kd.S_drewN | apply Kd.S_drew)); exact HO430.out) hb); have n5_ := zK (Kd.R_lower (Kd.R_new' (Kd.R_new' (Kd.R_new' ho0 (Kd.R_lt (Kd.qR HO417.out))) (Kd.R_lt (Kd.qR HO424.out))) (Kd.R_lt (Kd.qR HO427.out))) (bZ (qB HB.out))); have n6_ := zK (bT (qB HB.out) hb); clear HO417 HO420 HO424 HO427 HO430 HB; have HO417 := n0_; have HO420 := n1_; have HO424 := n2_; have HO427 := n3_; have HO430 := n4_; have HO434 := n5_; have HB := n6_; clear n0_ n1_ n2_ n3_ n4_ n5_ n6_; (try clear hb); (try clear hb2); (try clear hk); (try clear hi); (try clear ho0)))
 (try simp only [Act.put, sA, sZ, sS])
 go_cut [53] (fun v53 wc => ∃ (kq : Nat) (x53_13 : Bool), v53 = .bool x53_13 ∧ Aside0 (laws_FnExactSendAll.j0 kq l0 l1 t421 t422 t425 t428 t431 t432 x53_13 = some r) ∧ Aside0 (kq ≤ k) ∧ Aside0 (Kd.R k138 138 wc w.heap.size (fun k_ => some k_ ≠ ((.slice Ao23 t425.length co23) : Value).ownBlock ∧ some k_ ≠ (v433 : Value).ownBlock) v423 t421) ∧ Aside0 (Kd.R k138 138 wc w.heap.size (fun k_ => some k_ ≠ (v423 : Value).ownBlock ∧ some k_ ≠ (v433 : Value).ownBlock) (.slice Ao23 t425.length co23) t425) ∧ Aside0 (Kd.S k53 53 wc w.heap.size (fun _ => True) (.slice Ao24 t428.length co24) t428) ∧ Aside0 (Kd.R k138 138 wc w.heap.size (fun k_ => some k_ ≠ (v423 : Value).ownBlock ∧ some k_ ≠ ((.slice Ao23 t425.length co23) : Value).ownBlock) v433 t431) ∧ Aside0 (Below w.heap.size w wc))
 case first =>
  have H := HC14.out
  clear HC14
  replace H := Option.bind_eq_some_iff.mp H
  obtain ⟨t435, A260, H⟩ := H
  replace H : (if t435 = true then (laws_FnExactSendAll.j0 k l0 l1 t421 t422 t425 t428 t431 t432 (t432 != t422)) else (laws_FnExactSendAll.j0 k l0 l1 t421 t422 t425 t428 t431 t432 true)) = some r := H
  have A26 := zK A260
  clear A260
  by_cases c27 : t435 = true
  ·subst c27
   have H1 : (laws_FnExactSendAll.j0 k l0 l1 t421 t422 t425 t428 t431 t432 (t432 != t422)) = some r := by rw [if_pos rfl] at H; exact H
   clear H
   have H := H1
   clear H1
   have H' := zK H
   clear H
   obtain ⟨Ao28, co28, eo28⟩ := Kd.R_slice HO434.out
   subst eo28
   obtain ⟨Ao29, co29, eo29⟩ := Kd.R_slice HO424.out
   subst eo29
   go_wp2_with (first | ((with_reducible refine gate_callee (f := 52) rfl ?_); refine goesL_ (some 47) rfl rfl Try.func52 (by kernel_rfl) rfl #[.slice Ao28 t431.length co28, .slice Ao29 t421.length co29] rfl M0 ?_; (with_reducible refine (laws_eqHandS.calls k _ _ t431 _ _ t421 true _ ?side1 ?side2 ?side3 ?side4 A26.out).mono ?_); (case side1 => exact Kd.qC (Kd.R_reads' HO434.out).2.2); (case side2 => exact (Kd.R_reads' HO434.out).2.1); (case side3 => exact Kd.qC (Kd.R_reads' HO424.out).2.2); (case side4 => exact (Kd.R_reads' HO424.out).2.1); rintro e w30 ⟨rfl, hb⟩; refine ⟨_, rfl, ?_⟩; have n0_ := zK (Kd.R_below (Kd.qR HO417.out) hb); have n1_ := zK (Kd.S_below M15 hb); have n2_ := zK (Kd.R_below (Kd.qR HO424.out) hb); have n3_ := zK (Kd.R_below (Kd.qR HO427.out) hb); have n4_ := zK (Kd.S_below (by (with_reducible repeat (first | apply Kd.S_alloc | apply Kd.S_drewN | apply Kd.S_drew)); exact HO430.out) hb); have n5_ := zK (Kd.R_below (Kd.qR HO434.out) hb); have n6_ := zK (bT (qB HB.out) hb); clear HO417 HO420 HO424 HO427 HO430 HO434 HB; have HO417 := n0_; have HO420 := n1_; have HO424 := n2_; have HO427 := n3_; have HO430 := n4_; have HO434 := n5_; have HB := n6_; clear n0_ n1_ n2_ n3_ n4_ n5_ n6_; (try clear hb); (try clear hb2); (try clear hk); (try clear hi)))
   go_meet
   case rel => exact ⟨_, ((t432 != t422)), M3, H', ⟨by first | omega | exact Nat.le_refl _⟩, ⟨by (with_reducible repeat (first | apply Kd.RA | apply Kd.RN | apply Kd.RD)); exact Kd.R_mono HO424.out (fun _ hk => ⟨hk.1.2, hk.2⟩)⟩, ⟨by (with_reducible repeat (first | apply Kd.RA | apply Kd.RN | apply Kd.RD)); exact Kd.R_mono HO427.out (fun _ hk => ⟨hk.1.2, hk.2⟩)⟩, ⟨by (with_reducible repeat (first | apply Kd.S_alloc | apply Kd.S_drewN | apply Kd.S_drew)); exact Kd.S_mono HO430.out (fun _ hk => trivial)⟩, ⟨by (with_reducible repeat (first | apply Kd.RA | apply Kd.RN | apply Kd.RD)); exact Kd.R_mono HO434.out (fun _ hk => ⟨hk.1.2, hk.2⟩)⟩, ⟨by exact qB HB.out⟩⟩
  replace c27 := Bool.eq_false_iff.mpr c27
  subst c27
  have H1 : (laws_FnExactSendAll.j0 k l0 l1 t421 t422 t425 t428 t431 t432 true) = some r := by rw [if_neg (show ¬ (false = true) by decide)] at H; exact H
  clear H
  have H := H1
  clear H1
  have H' := zK H
  clear H
  obtain ⟨Ao31, co31, eo31⟩ := Kd.R_slice HO434.out
  subst eo31
  obtain ⟨Ao32, co32, eo32⟩ := Kd.R_slice HO424.out
  subst eo32
  go_wp2_with (first | ((with_reducible refine gate_callee (f := 52) rfl ?_); refine goesL_ (some 47) rfl rfl Try.func52 (by kernel_rfl) rfl #[.slice Ao31 t431.length co31, .slice Ao32 t421.length co32] rfl M0 ?_; (with_reducible refine (laws_eqHandS.calls k _ _ t431 _ _ t421 false _ ?side1 ?side2 ?side3 ?side4 A26.out).mono ?_); (case side1 => exact Kd.qC (Kd.R_reads' HO434.out).2.2); (case side2 => exact (Kd.R_reads' HO434.out).2.1); (case side3 => exact Kd.qC (Kd.R_reads' HO424.out).2.2); (case side4 => exact (Kd.R_reads' HO424.out).2.1); rintro e w33 ⟨rfl, hb⟩; refine ⟨_, rfl, ?_⟩; have n0_ := zK (Kd.R_below (Kd.qR HO417.out) hb); have n1_ := zK (Kd.S_below M15 hb); have n2_ := zK (Kd.R_below (Kd.qR HO424.out) hb); have n3_ := zK (Kd.R_below (Kd.qR HO427.out) hb); have n4_ := zK (Kd.S_below (by (with_reducible repeat (first | apply Kd.S_alloc | apply Kd.S_drewN | apply Kd.S_drew)); exact HO430.out) hb); have n5_ := zK (Kd.R_below (Kd.qR HO434.out) hb); have n6_ := zK (bT (qB HB.out) hb); clear HO417 HO420 HO424 HO427 HO430 HO434 HB; have HO417 := n0_; have HO420 := n1_; have HO424 := n2_; have HO427 := n3_; have HO430 := n4_; have HO434 := n5_; have HB := n6_; clear n0_ n1_ n2_ n3_ n4_ n5_ n6_; (try clear hb); (try clear hb2); (try clear hk); (try clear hi)))
  go_meet
  case rel => exact ⟨_, (true), M3, H', ⟨by first | omega | exact Nat.le_refl _⟩, ⟨by (with_reducible repeat (first | apply Kd.RA | apply Kd.RN | apply Kd.RD)); exact Kd.R_mono HO424.out (fun _ hk => ⟨hk.1.2, hk.2⟩)⟩, ⟨by (with_reducible repeat (first | apply Kd.RA | apply Kd.RN | apply Kd.RD)); exact Kd.R_mono HO427.out (fun _ hk => ⟨hk.1.2, hk.2⟩)⟩, ⟨by (with_reducible repeat (first | apply Kd.S_alloc | apply Kd.S_drewN | apply Kd.S_drew)); exact Kd.S_mono HO430.out (fun _ hk => trivial)⟩, ⟨by (with_reducible repeat (first | apply Kd.RA | apply Kd.RN | apply Kd.RD)); exact Kd.R_mono HO434.out (fun _ hk => ⟨hk.1.2, hk.2⟩)⟩, ⟨by exact qB HB.out⟩⟩
 case rest =>
  clear HC14
  try clear c1
  try clear c2
  try clear p2
  try clear c4
  try clear c4b0
  try clear c5
  try clear c6
  try clear c6b0
  try clear c9
  try clear c27
  obtain ⟨kq, x53_13, rfl, HA, HJ13, HO_6, HO_8, HO_9, HO_10, HB⟩ := hcut
  cases kq with
  | zero => exact absurd HA.out (by simp [laws_FnExactSendAll.j0])
  | succ kj13 =>
   have H := HA.out
   clear HA
   simp only [laws_FnExactSendAll.j0] at H
   by_cases c34 : x53_13 = true
   ·subst c34
    have H1 : (some false) = some r := by rw [if_pos rfl] at H; exact H
    clear H
    have H := H1
    clear H1
    obtain rfl := Option.some.inj H
    go_wp2
    go_ret
    exact ⟨by first | rfl | (simp [errW_none, errW_some] <;> rfl) | (simp [*, errW_none, errW_some] <;> rfl), by exact qB HB.out⟩
   replace c34 := Bool.eq_false_iff.mpr c34
   subst c34
   have H1 : ((laws_toHandS.f kj13 l0).bind fun t436 => ((laws_eqHandS.f kj13 t425 t436).bind fun t439 => (if t439 = true then ((laws_toParcelS.f kj13 l1).bind fun t440 => ((laws_eqParcelS.f kj13 t428 t440).bind fun t443 => (if t443 = true then ((laws_markHandS.f kj13 t425 1).bind fun bt444 => ((laws_markParcelS.f kj13 t428 bt444.1).bind fun t446 => (if t446 < 0 then (laws_FnExactSendAll.j1 kj13 l0 l1 t421 t422 t431 true) else ((laws_eqHandS.f kj13 t431 t421).bind fun t447 => (if t447 = true then (laws_FnExactSendAll.j1 kj13 l0 l1 t421 t422 t431 (t432 != t422)) else (laws_FnExactSendAll.j1 kj13 l0 l1 t421 t422 t431 true)))))) else (some false)))) else (some false)))) = some r := by rw [if_neg (show ¬ (false = true) by decide)] at H; exact H
   clear H
   have H := H1
   clear H1
   replace H := Option.bind_eq_some_iff.mp H
   obtain ⟨t436, A350, H⟩ := H
   replace H : ((laws_eqHandS.f kj13 t425 t436).bind fun t439 => (if t439 = true then ((laws_toParcelS.f kj13 l1).bind fun t440 => ((laws_eqParcelS.f kj13 t428 t440).bind fun t443 => (if t443 = true then ((laws_markHandS.f kj13 t425 1).bind fun bt444 => ((laws_markParcelS.f kj13 t428 bt444.1).bind fun t446 => (if t446 < 0 then (laws_FnExactSendAll.j1 kj13 l0 l1 t421 t422 t431 true) else ((laws_eqHandS.f kj13 t431 t421).bind fun t447 => (if t447 = true then (laws_FnExactSendAll.j1 kj13 l0 l1 t421 t422 t431 (t432 != t422)) else (laws_FnExactSendAll.j1 kj13 l0 l1 t421 t422 t431 true)))))) else (some false)))) else (some false))) = some r := H
   have A35 := zK A350
   clear A350
   replace H := Option.bind_eq_some_iff.mp H
   obtain ⟨t439, A360, H⟩ := H
   replace H : (if t439 = true then ((laws_toParcelS.f kj13 l1).bind fun t440 => ((laws_eqParcelS.f kj13 t428 t440).bind fun t443 => (if t443 = true then ((laws_markHandS.f kj13 t425 1).bind fun bt444 => ((laws_markParcelS.f kj13 t428 bt444.1).bind fun t446 => (if t446 < 0 then (laws_FnExactSendAll.j1 kj13 l0 l1 t421 t422 t431 true) else ((laws_eqHandS.f kj13 t431 t421).bind fun t447 => (if t447 = true then (laws_FnExactSendAll.j1 kj13 l0 l1 t421 t422 t431 (t432 != t422)) else (laws_FnExactSendAll.j1 kj13 l0 l1 t421 t422 t431 true)))))) else (some false)))) else (some false)) = some r := H
   have A36 := zK A360
   clear A360
   by_cases c37 : t439 = true
   rotate_left
   ·replace c37 := Bool.eq_false_iff.mpr c37
    subst c37
    have H1 : (some false) = some r := by rw [if_neg (show ¬ (false = true) by decide)] at H; exact H
    clear H
    have H := H1
    clear H1
    obtain rfl := Option.some.inj H
    go_wp2_with (first | ((with_reducible refine gate_callee (f := 50) rfl ?_); refine goesL_ (some 56) rfl rfl Try.func50 (by kernel_rfl) rfl #[.slice A0 l0.length c0] rfl M0 ?_; (with_reducible refine (laws_toHandS.calls kj13 _ _ l0 t436 _ ?side1 ?side2 A35.out).mono ?_); (case side1 => exact Kd.qC (Kd.C_below HR0.out HB.out)); (case side2 => exact HC0.out); rintro e w99 ⟨v437, rfl, ho0, hb⟩; refine ⟨_, rfl, ?_⟩; have n0_ := zK (Kd.R_elder' (Kd.qR HO_6.out) (Kd.R_base ho0) hb); have n1_ := zK (Kd.R_elder' (Kd.qR HO_8.out) (Kd.R_base ho0) hb); have n2_ := zK (Kd.S_below M11 hb); have n3_ := zK (Kd.R_elder' (Kd.qR HO_10.out) (Kd.R_base ho0) hb); have n4_ := zK (Kd.R_lower (Kd.R_new' (Kd.R_new' (Kd.R_new' ho0 (Kd.R_lt (Kd.qR HO_6.out))) (Kd.R_lt (Kd.qR HO_8.out))) (Kd.R_lt (Kd.qR HO_10.out))) (bZ (qB HB.out))); have n5_ := zK (bT (qB HB.out) hb); clear HO_6 HO_8 HO_9 HO_10 HB; have HO_6 := n0_; have HO_8 := n1_; have HO_9 := n2_; have HO_10 := n3_; have HO438 := n4_; have HB := n5_; clear n0_ n1_ n2_ n3_ n4_ n5_; (try clear hb); (try clear hb2); (try clear hk); (try clear hi); (try clear ho0); obtain ⟨Ao100, co100, eo100⟩ := Kd.R_slice HO438.out; subst eo100) | ((with_reducible refine gate_callee (f := 52) rfl ?_); refine goesL_ (some 57) rfl rfl Try.func52 (by kernel_rfl) rfl #[.slice Ao23 t425.length co23, .slice Ao100 t436.length co100] rfl M0 ?_; (with_reducible refine (laws_eqHandS.calls kj13 _ _ t425 _ _ t436 false _ ?side1 ?side2 ?side3 ?side4 A36.out).mono ?_); (case side1 => exact Kd.qC (Kd.R_reads' HO_8.out).2.2); (case side2 => exact (Kd.R_reads' HO_8.out).2.1); (case side3 => exact Kd.qC (Kd.R_reads' HO438.out).2.2); (case side4 => exact (Kd.R_reads' HO438.out).2.1); rintro e w101 ⟨rfl, hb⟩; refine ⟨_, rfl, ?_⟩; have n0_ := zK (Kd.R_below (Kd.qR HO_6.out) hb); have n1_ := zK (Kd.R_below (Kd.qR HO_8.out) hb); have n2_ := zK (Kd.S_below M11 hb); have n3_ := zK (Kd.R_below (Kd.qR HO_10.out) hb); have n4_ := zK (Kd.R_below (Kd.qR HO438.out) hb); have n5_ := zK (bT (qB HB.out) hb); clear HO_6 HO_8 HO_9 HO_10 HO438 HB; have HO_6 := n0_; have HO_8 := n1_; have HO_9 := n2_; have HO_10 := n3_; have HO438 := n4_; have HB := n5_; clear n0_ n1_ n2_ n3_ n4_ n5_; (try clear hb); (try clear hb2); (try clear hk); (try clear hi)))
    go_ret
    exact ⟨by first | rfl | (simp [errW_none, errW_some] <;> rfl) | (simp [*, errW_none, errW_some] <;> rfl), by exact qB HB.out⟩

   subst c37
   have H1 : ((laws_toParcelS.f kj13 l1).bind fun t440 => ((laws_eqParcelS.f kj13 t428 t440).bind fun t443 => (if t443 = true then ((laws_markHandS.f kj13 t425 1).bind fun bt444 => ((laws_markParcelS.f kj13 t428 bt444.1).bind fun t446 => (if t446 < 0 then (laws_FnExactSendAll.j1 kj13 l0 l1 t421 t422 t431 true) else ((laws_eqHandS.f kj13 t431 t421).bind fun t447 => (if t447 = true then (laws_FnExactSendAll.j1 kj13 l0 l1 t421 t422 t431 (t432 != t422)) else (laws_FnExactSendAll.j1 kj13 l0 l1 t421 t422 t431 true)))))) else (some false)))) = some r := by rw [if_pos rfl] at H; exact H
   clear H
   have H := H1
   clear H1
   replace H := Option.bind_eq_some_iff.mp H
   obtain ⟨t440, A380, H⟩ := H
   replace H : ((laws_eqParcelS.f kj13 t428 t440).bind fun t443 => (if t443 = true then ((laws_markHandS.f kj13 t425 1).bind fun bt444 => ((laws_markParcelS.f kj13 t428 bt444.1).bind fun t446 => (if t446 < 0 then (laws_FnExactSendAll.j1 kj13 l0 l1 t421 t422 t431 true) else ((laws_eqHandS.f kj13 t431 t421).bind fun t447 => (if t447 = true then (laws_FnExactSendAll.j1 kj13 l0 l1 t421 t422 t431 (t432 != t422)) else (laws_FnExactSendAll.j1 kj13 l0 l1 t421 t422 t431 true)))))) else (some false))) = some r := H
   have A38 := zK A380
   clear A380
   replace H := Option.bind_eq_some_iff.mp H
   obtain ⟨t443, A390, H⟩ := H
   replace H : (if t443 = true then ((laws_markHandS.f kj13 t425 1).bind fun bt444 => ((laws_markParcelS.f kj13 t428 bt444.1).bind fun t446 => (if t446 < 0 then (laws_FnExactSendAll.j1 kj13 l0 l1 t421 t422 t431 true) else ((laws_eqHandS.f kj13 t431 t421).bind fun t447 => (if t447 = true then (laws_FnExactSendAll.j1 kj13 l0 l1 t421 t422 t431 (t432 != t422)) else (laws_FnExactSendAll.j1 kj13 l0 l1 t421 t422 t431 true)))))) else (some false)) = some r := H
   have A39 := zK A390
   clear A390
   by_cases c40 : t443 = true
   rotate_left
   ·replace c40 := Bool.eq_false_iff.mpr c40
    subst c40
    have H1 : (some false) = some r := by rw [if_neg (show ¬ (false = true) by decide)] at H; exact H
    clear H
    have H := H1
    clear H1
    obtain rfl := Option.some.inj H
    go_wp2_with (first | ((with_reducible refine gate_callee (f := 50) rfl ?_); refine goesL_ (some 56) rfl rfl Try.func50 (by kernel_rfl) rfl #[.slice A0 l0.length c0] rfl M0 ?_; (with_reducible refine (laws_toHandS.calls kj13 _ _ l0 t436 _ ?side1 ?side2 A35.out).mono ?_); (case side1 => exact Kd.qC (Kd.C_below HR0.out HB.out)); (case side2 => exact HC0.out); rintro e w93 ⟨v437, rfl, ho0, hb⟩; refine ⟨_, rfl, ?_⟩; have n0_ := zK (Kd.R_elder' (Kd.qR HO_6.out) (Kd.R_base ho0) hb); have n1_ := zK (Kd.R_elder' (Kd.qR HO_8.out) (Kd.R_base ho0) hb); have n2_ := zK (Kd.S_below M11 hb); have n3_ := zK (Kd.R_elder' (Kd.qR HO_10.out) (Kd.R_base ho0) hb); have n4_ := zK (Kd.R_lower (Kd.R_new' (Kd.R_new' (Kd.R_new' ho0 (Kd.R_lt (Kd.qR HO_6.out))) (Kd.R_lt (Kd.qR HO_8.out))) (Kd.R_lt (Kd.qR HO_10.out))) (bZ (qB HB.out))); have n5_ := zK (bT (qB HB.out) hb); clear HO_6 HO_8 HO_9 HO_10 HB; have HO_6 := n0_; have HO_8 := n1_; have HO_9 := n2_; have HO_10 := n3_; have HO438 := n4_; have HB := n5_; clear n0_ n1_ n2_ n3_ n4_ n5_; (try clear hb); (try clear hb2); (try clear hk); (try clear hi); (try clear ho0); obtain ⟨Ao94, co94, eo94⟩ := Kd.R_slice HO438.out; subst eo94) | ((with_reducible refine gate_callee (f := 52) rfl ?_); refine goesL_ (some 57) rfl rfl Try.func52 (by kernel_rfl) rfl #[.slice Ao23 t425.length co23, .slice Ao94 t436.length co94] rfl M0 ?_; (with_reducible refine (laws_eqHandS.calls kj13 _ _ t425 _ _ t436 true _ ?side1 ?side2 ?side3 ?side4 A36.out).mono ?_); (case side1 => exact Kd.qC (Kd.R_reads' HO_8.out).2.2); (case side2 => exact (Kd.R_reads' HO_8.out).2.1); (case side3 => exact Kd.qC (Kd.R_reads' HO438.out).2.2); (case side4 => exact (Kd.R_reads' HO438.out).2.1); rintro e w95 ⟨rfl, hb⟩; refine ⟨_, rfl, ?_⟩; have n0_ := zK (Kd.R_below (Kd.qR HO_6.out) hb); have n1_ := zK (Kd.R_below (Kd.qR HO_8.out) hb); have n2_ := zK (Kd.S_below M11 hb); have n3_ := zK (Kd.R_below (Kd.qR HO_10.out) hb); have n4_ := zK (Kd.R_below (Kd.qR HO438.out) hb); have n5_ := zK (bT (qB HB.out) hb); clear HO_6 HO_8 HO_9 HO_10 HO438 HB; have HO_6 := n0_; have HO_8 := n1_; have HO_9 := n2_; have HO_10 := n3_; have HO438 := n4_; have HB := n5_; clear n0_ n1_ n2_ n3_ n4_ n5_; (try clear hb); (try clear hb2); (try clear hk); (try clear hi)) | ((with_reducible refine gate_callee (f := 59) rfl ?_); refine goesL_ (some 61) rfl rfl Try.func59 (by kernel_rfl) rfl #[.slice A1 l1.length c1] rfl M0 ?_; (with_reducible refine (laws_toParcelS.calls kj13 _ _ l1 t440 _ ?side1 ?side2 A38.out).mono ?_); (case side1 => exact Kd.qC (Kd.C_below HR1.out HB.out)); (case side2 => exact HC1.out); rintro e w96 ⟨v441, rfl, ho0, hb⟩; refine ⟨_, rfl, ?_⟩; have n0_ := zK (Kd.R_below (Kd.qR HO_6.out) hb); have n1_ := zK (Kd.R_below (Kd.qR HO_8.out) hb); have n2_ := zK (Kd.S_elder' M11 (Kd.S_base ho0) hb); have n3_ := zK (Kd.R_below (Kd.qR HO_10.out) hb); have n4_ := zK (Kd.R_below (Kd.qR HO438.out) hb); have n5_ := zK (Kd.S_lower (Kd.S_new' ho0 (Kd.S_lt M11)) (bZ (qB HB.out))); have n6_ := zK (bT (qB HB.out) hb); clear HO_6 HO_8 HO_9 HO_10 HO438 HB; have HO_6 := n0_; have HO_8 := n1_; have HO_9 := n2_; have HO_10 := n3_; have HO438 := n4_; have HO442 := n5_; have HB := n6_; clear n0_ n1_ n2_ n3_ n4_ n5_ n6_; (try clear hb); (try clear hb2); (try clear hk); (try clear hi); (try clear ho0); obtain ⟨Ao97, co97, eo97⟩ := Kd.S_slice HO442.out; subst eo97) | ((with_reducible refine gate_callee (f := 60) rfl ?_); refine goesL_ (some 62) rfl rfl Try.func60 (by kernel_rfl) rfl #[.slice Ao24 t428.length co24, .slice Ao97 t440.length co97] rfl M0 ?_; (with_reducible refine (laws_eqParcelS.calls kj13 _ _ t428 _ _ t440 false _ ?side1 ?side2 ?side3 ?side4 A39.out).mono ?_); (case side1 => repeat (first | exact (Kd.S_reads' HO_9.out).2.2 | (with_reducible refine Kd.CA ?_ _) | (with_reducible refine Kd.CN ?_ _) | (with_reducible refine Kd.CD ?_))); (case side2 => exact (Kd.S_reads' HO_9.out).2.1); (case side3 => repeat (first | exact (Kd.S_reads' HO442.out).2.2 | (with_reducible refine Kd.CA ?_ _) | (with_reducible refine Kd.CN ?_ _) | (with_reducible refine Kd.CD ?_))); (case side4 => exact (Kd.S_reads' HO442.out).2.1); rintro e w98 ⟨rfl, hb⟩; refine ⟨_, rfl, ?_⟩; have n0_ := zK (Kd.R_below (Kd.qR HO_6.out) hb); have n1_ := zK (Kd.R_below (Kd.qR HO_8.out) hb); have n2_ := zK (Kd.S_below M11 hb); have n3_ := zK (Kd.R_below (Kd.qR HO_10.out) hb); have n4_ := zK (Kd.R_below (Kd.qR HO438.out) hb); have n5_ := zK (Kd.S_below (by (with_reducible repeat (first | apply Kd.S_alloc | apply Kd.S_drewN | apply Kd.S_drew)); exact HO442.out) hb); have n6_ := zK (bT (qB HB.out) hb); clear HO_6 HO_8 HO_9 HO_10 HO438 HO442 HB; have HO_6 := n0_; have HO_8 := n1_; have HO_9 := n2_; have HO_10 := n3_; have HO438 := n4_; have HO442 := n5_; have HB := n6_; clear n0_ n1_ n2_ n3_ n4_ n5_ n6_; (try clear hb); (try clear hb2); (try clear hk); (try clear hi)))
    go_ret
    exact ⟨by first | rfl | (simp [errW_none, errW_some] <;> rfl) | (simp [*, errW_none, errW_some] <;> rfl), by exact qB HB.out⟩
   subst c40
   have H1 : ((laws_markHandS.f kj13 t425 1).bind fun bt444 => ((laws_markParcelS.f kj13 t428 bt444.1).bind fun t446 => (if t446 < 0 then (laws_FnExactSendAll.j1 kj13 l0 l1 t421 t422 t431 true) else ((laws_eqHandS.f kj13 t431 t421).bind fun t447 => (if t447 = true then (laws_FnExactSendAll.j1 kj13 l0 l1 t421 t422 t431 (t432 != t422)) else (laws_FnExactSendAll.j1 kj13 l0 l1 t421 t422 t431 true)))))) = some r := by rw [if_pos rfl] at H; exact H
   clear H
   have H := H1
   clear H1
   replace H := Option.bind_eq_some_iff.mp H
   obtain ⟨⟨t444, t445⟩, A410, H⟩ := H
   replace H : ((laws_markParcelS.f kj13 t428 t444).bind fun t446 => (if t446 < 0 then (laws_FnExactSendAll.j1 kj13 l0 l1 t421 t422 t431 true) else ((laws_eqHandS.f kj13 t431 t421).bind fun t447 => (if t447 = true then (laws_FnExactSendAll.j1 kj13 l0 l1 t421 t422 t431 (t432 != t422)) else (laws_FnExactSendAll.j1 kj13 l0 l1 t421 t422 t431 true))))) = some r := H
   have A41 := zK A410
   clear A410
   replace H := Option.bind_eq_some_iff.mp H
   obtain ⟨t446, A420, H⟩ := H
   replace H : (if t446 < 0 then (laws_FnExactSendAll.j1 kj13 l0 l1 t421 t422 t431 true) else ((laws_eqHandS.f kj13 t431 t421).bind fun t447 => (if t447 = true then (laws_FnExactSendAll.j1 kj13 l0 l1 t421 t422 t431 (t432 != t422)) else (laws_FnExactSendAll.j1 kj13 l0 l1 t421 t422 t431 true)))) = some r := H
   have A42 := zK A420
   clear A420
   have HC43 := zK H
   clear H
   go_upto_region 21 with (first | ((with_reducible refine gate_callee (f := 50) rfl ?_); refine goesL_ (some 56) rfl rfl Try.func50 (by kernel_rfl) rfl #[.slice A0 l0.length c0] rfl M0 ?_; (with_reducible refine (laws_toHandS.calls kj13 _ _ l0 t436 _ ?side1 ?side2 A35.out).mono ?_); (case side1 => exact Kd.qC (Kd.C_below HR0.out HB.out)); (case side2 => exact HC0.out); rintro e w44 ⟨v437, rfl, ho0, hb⟩; refine ⟨_, rfl, ?_⟩; have n0_ := zK (Kd.R_elder' (Kd.qR HO_6.out) (Kd.R_base ho0) hb); have n1_ := zK (Kd.R_elder' (Kd.qR HO_8.out) (Kd.R_base ho0) hb); have n2_ := zK (Kd.S_below M11 hb); have n3_ := zK (Kd.R_elder' (Kd.qR HO_10.out) (Kd.R_base ho0) hb); have n4_ := zK (Kd.R_lower (Kd.R_new' (Kd.R_new' (Kd.R_new' ho0 (Kd.R_lt (Kd.qR HO_6.out))) (Kd.R_lt (Kd.qR HO_8.out))) (Kd.R_lt (Kd.qR HO_10.out))) (bZ (qB HB.out))); have n5_ := zK (bT (qB HB.out) hb); clear HO_6 HO_8 HO_9 HO_10 HB; have HO_6 := n0_; have HO_8 := n1_; have HO_9 := n2_; have HO_10 := n3_; have HO438 := n4_; have HB := n5_; clear n0_ n1_ n2_ n3_ n4_ n5_; (try clear hb); (try clear hb2); (try clear hk); (try clear hi); (try clear ho0); obtain ⟨Ao45, co45, eo45⟩ := Kd.R_slice HO438.out; subst eo45) | ((with_reducible refine gate_callee (f := 52) rfl ?_); refine goesL_ (some 57) rfl rfl Try.func52 (by kernel_rfl) rfl #[.slice Ao23 t425.length co23, .slice Ao45 t436.length co45] rfl M0 ?_; (with_reducible refine (laws_eqHandS.calls kj13 _ _ t425 _ _ t436 true _ ?side1 ?side2 ?side3 ?side4 A36.out).mono ?_); (case side1 => exact Kd.qC (Kd.R_reads' HO_8.out).2.2); (case side2 => exact (Kd.R_reads' HO_8.out).2.1); (case side3 => exact Kd.qC (Kd.R_reads' HO438.out).2.2); (case side4 => exact (Kd.R_reads' HO438.out).2.1); rintro e w46 ⟨rfl, hb⟩; refine ⟨_, rfl, ?_⟩; have n0_ := zK (Kd.R_below (Kd.qR HO_6.out) hb); have n1_ := zK (Kd.R_below (Kd.qR HO_8.out) hb); have n2_ := zK (Kd.S_below M11 hb); have n3_ := zK (Kd.R_below (Kd.qR HO_10.out) hb); have n4_ := zK (Kd.R_below (Kd.qR HO438.out) hb); have n5_ := zK (bT (qB HB.out) hb); clear HO_6 HO_8 HO_9 HO_10 HO438 HB; have HO_6 := n0_; have HO_8 := n1_; have HO_9 := n2_; have HO_10 := n3_; have HO438 := n4_; have HB := n5_; clear n0_ n1_ n2_ n3_ n4_ n5_; (try clear hb); (try clear hb2); (try clear hk); (try clear hi)) | ((with_reducible refine gate_callee (f := 59) rfl ?_); refine goesL_ (some 61) rfl rfl Try.func59 (by kernel_rfl) rfl #[.slice A1 l1.length c1] rfl M0 ?_; (with_reducible refine (laws_toParcelS.calls kj13 _ _ l1 t440 _ ?side1 ?side2 A38.out).mono ?_); (case side1 => exact Kd.qC (Kd.C_below HR1.out HB.out)); (case side2 => exact HC1.out); rintro e w47 ⟨v441, rfl, ho0, hb⟩; refine ⟨_, rfl, ?_⟩; have n0_ := zK (Kd.R_below (Kd.qR HO_6.out) hb); have n1_ := zK (Kd.R_below (Kd.qR HO_8.out) hb); have n2_ := zK (Kd.S_elder' M11 (Kd.S_base ho0) hb); have n3_ := zK (Kd.R_below (Kd.qR HO_10.out) hb); have n4_ := zK (Kd.R_below (Kd.qR HO438.out) hb); have n5_ := zK (Kd.S_lower (Kd.S_new' ho0 (Kd.S_lt M11)) (bZ (qB HB.out))); have n6_ := zK (bT (qB HB.out) hb); clear HO_6 HO_8 HO_9 HO_10 HO438 HB; have HO_6 := n0_; have HO_8 := n1_; have HO_9 := n2_; have HO_10 := n3_; have HO438 := n4_; have HO442 := n5_; have HB := n6_; clear n0_ n1_ n2_ n3_ n4_ n5_ n6_; (try clear hb); (try clear hb2); (try clear hk); (try clear hi); (try clear ho0); obtain ⟨Ao48, co48, eo48⟩ := Kd.S_slice HO442.out; subst eo48) | ((with_reducible refine gate_callee (f := 60) rfl ?_); refine goesL_ (some 62) rfl rfl Try.func60 (by kernel_rfl) rfl #[.slice Ao24 t428.length co24, .slice Ao48 t440.length co48] rfl M0 ?_; (with_reducible refine (laws_eqParcelS.calls kj13 _ _ t428 _ _ t440 true _ ?side1 ?side2 ?side3 ?side4 A39.out).mono ?_); (case side1 => repeat (first | exact (Kd.S_reads' HO_9.out).2.2 | (with_reducible refine Kd.CA ?_ _) | (with_reducible refine Kd.CN ?_ _) | (with_reducible refine Kd.CD ?_))); (case side2 => exact (Kd.S_reads' HO_9.out).2.1); (case side3 => repeat (first | exact (Kd.S_reads' HO442.out).2.2 | (with_reducible refine Kd.CA ?_ _) | (with_reducible refine Kd.CN ?_ _) | (with_reducible refine Kd.CD ?_))); (case side4 => exact (Kd.S_reads' HO442.out).2.1); rintro e w49 ⟨rfl, hb⟩; refine ⟨_, rfl, ?_⟩; have n0_ := zK (Kd.R_below (Kd.qR HO_6.out) hb); have n1_ := zK (Kd.R_below (Kd.qR HO_8.out) hb); have n2_ := zK (Kd.S_below M11 hb); have n3_ := zK (Kd.R_below (Kd.qR HO_10.out) hb); have n4_ := zK (Kd.R_below (Kd.qR HO438.out) hb); have n5_ := zK (Kd.S_below (by (with_reducible repeat (first | apply Kd.S_alloc | apply Kd.S_drewN | apply Kd.S_drew)); exact HO442.out) hb); have n6_ := zK (bT (qB HB.out) hb); clear HO_6 HO_8 HO_9 HO_10 HO438 HO442 HB; have HO_6 := n0_; have HO_8 := n1_; have HO_9 := n2_; have HO_10 := n3_; have HO438 := n4_; have HO442 := n5_; have HB := n6_; clear n0_ n1_ n2_ n3_ n4_ n5_ n6_; (try clear hb); (try clear hb2); (try clear hk); (try clear hi)) | ((with_reducible refine gate_callee (f := 54) rfl ?_); refine goesL_ (some 66) rfl rfl Try.func54 (by kernel_rfl) rfl #[.slice Ao23 t425.length co23, .int .i64 1] rfl M0 ?_; (with_reducible refine (laws_markHandS.calls kj13 (fun k_ => some k_ = (.slice Ao23 t425.length co23 : Value).ownBlock) (.slice Ao23 t425.length co23) t425 1 t444 t445 w _ ?side1 ?side2 A41.out).mono ?_); (case side1 => repeat (first | (with_reducible first | exact HB.out | apply bA | apply bN | apply b1) | exact HB.out)); (case side2 => exact Kd.R_tight rfl HO_8.out); rintro e w50 ⟨rfl, hy0, hb, hkp⟩; refine ⟨_, rfl, ?_⟩; have n0_ := zK (Kd.R_mono (ok' := fun k_ => some k_ ≠ (.slice Ao23 t425.length co23 : Value).ownBlock ∧ some k_ ≠ (v433 : Value).ownBlock ∧ some k_ ≠ (.slice Ao45 t436.length co45 : Value).ownBlock) (Kd.R_keptB (HO_6.out) hkp (fun k_ hk_ hs_ => (hk_.1.1) hs_)) (fun k_ hk_ => ⟨hk_.1.1.1, hk_.1.1.2, hk_.1.2⟩)); have n1_ := zK (Kd.R_reok rfl hy0 (fun k_ e_ => HO_8.out.1 k_ e_)); have n2_ := zK (Kd.S_mono (ok' := fun k_ => some k_ ≠ (.slice Ao48 t440.length co48 : Value).ownBlock) (Kd.S_keptB ((Kd.S_apart' HO_9.out (Kd.R_typed HO_8.out) (by decide))) hkp (fun k_ hk_ hs_ => (hk_.2) hs_)) (fun k_ hk_ => hk_.1.1.2)); have n3_ := zK (Kd.R_mono (ok' := fun k_ => some k_ ≠ (v423 : Value).ownBlock ∧ some k_ ≠ (.slice Ao23 t425.length co23 : Value).ownBlock ∧ some k_ ≠ (.slice Ao45 t436.length co45 : Value).ownBlock) (Kd.R_keptB (HO_10.out) hkp (fun k_ hk_ hs_ => (hk_.1.2) hs_)) (fun k_ hk_ => ⟨hk_.1.1.1, hk_.1.1.2, hk_.1.2⟩)); have n4_ := zK (Kd.R_mono (ok' := fun k_ => some k_ ≠ (v423 : Value).ownBlock ∧ some k_ ≠ (.slice Ao23 t425.length co23 : Value).ownBlock ∧ some k_ ≠ (v433 : Value).ownBlock) (Kd.R_keptB (HO438.out) hkp (fun k_ hk_ hs_ => (hk_.1.2) hs_)) (fun k_ hk_ => ⟨hk_.1.1.1.2, hk_.1.1.2, hk_.1.2⟩)); have n5_ := zK (Kd.S_mono (ok' := fun k_ => some k_ ≠ (.slice Ao24 t428.length co24 : Value).ownBlock) (Kd.S_keptB ((Kd.S_apart' HO442.out (Kd.R_typed HO_8.out) (by decide))) hkp (fun k_ hk_ hs_ => (hk_.2) hs_)) (fun k_ hk_ => hk_.1.1.2)); have n6_ := zK (hb); clear HO_6 HO_8 HO_9 HO_10 HO438 HO442 HB; have HO_6 := n0_; have HO_8 := n1_; have HO_9 := n2_; have HO_10 := n3_; have HO438 := n4_; have HO442 := n5_; have HB := n6_; clear n0_ n1_ n2_ n3_ n4_ n5_ n6_; (try clear hb); (try clear hkp); (try clear hy0)) | ((with_reducible refine gate_callee (f := 61) rfl ?_); refine goesL_ (some 69) rfl rfl Try.func61 (by kernel_rfl) rfl #[.slice Ao24 t428.length co24, .int .i64 t444] rfl M0 ?_; (with_reducible refine (laws_markParcelS.calls kj13 (fun k_ => ((((some k_ ≠ (.slice Ao48 t440.length co48 : Value).ownBlock ∧ some k_ ≠ (v423 : Value).ownBlock) ∧ some k_ ≠ (.slice Ao23 t425.length co23 : Value).ownBlock) ∧ some k_ ≠ (v433 : Value).ownBlock) ∧ some k_ ≠ (.slice Ao45 t436.length co45 : Value).ownBlock)) (.slice Ao24 t428.length co24) t428 t444 t446 w _ ?side1 ?side2 A42.out).mono ?_); (case side1 => repeat (first | (with_reducible first | exact HB.out | apply bA | apply bN | apply b1) | exact HB.out)); (case side2 => exact (Kd.S_apart' (Kd.S_apart' (Kd.S_apart' (Kd.S_apart' HO_9.out (Kd.R_typed HO_6.out) (by decide)) (Kd.R_typed HO_8.out) (by decide)) (Kd.R_typed HO_10.out) (by decide)) (Kd.R_typed HO438.out) (by decide))); rintro e w51 ⟨rfl, hb, hkp⟩; refine ⟨_, rfl, ?_⟩; have n0_ := zK (Kd.R_mono (ok' := fun k_ => some k_ ≠ (.slice Ao23 t425.length co23 : Value).ownBlock ∧ some k_ ≠ (v433 : Value).ownBlock ∧ some k_ ≠ (.slice Ao45 t436.length co45 : Value).ownBlock) (Kd.R_keptB ((rApP hkp rfl HO_6.out (fun k_ e_ => e_.1.1.1.2))) hkp (fun k_ hk_ hs_ => (hk_.2) hs_)) (fun k_ hk_ => ⟨hk_.1.1.1, hk_.1.1.2.1, hk_.1.1.2.2⟩)); have n1_ := zK (Kd.R_mono (ok' := fun k_ => some k_ ≠ (v423 : Value).ownBlock ∧ some k_ ≠ (v433 : Value).ownBlock ∧ some k_ ≠ (.slice Ao45 t436.length co45 : Value).ownBlock) (Kd.R_keptB ((rApP hkp rfl HO_8.out (fun k_ e_ => e_.1.1.2))) hkp (fun k_ hk_ hs_ => (hk_.2) hs_)) (fun k_ hk_ => ⟨hk_.1.1.1.1, hk_.1.1.1.2, hk_.1.1.2⟩)); have n2_ := zK (Kd.R_mono (ok' := fun k_ => some k_ ≠ (v423 : Value).ownBlock ∧ some k_ ≠ (.slice Ao23 t425.length co23 : Value).ownBlock ∧ some k_ ≠ (.slice Ao45 t436.length co45 : Value).ownBlock) (Kd.R_keptB ((rApP hkp rfl HO_10.out (fun k_ e_ => e_.1.2))) hkp (fun k_ hk_ hs_ => (hk_.2) hs_)) (fun k_ hk_ => ⟨hk_.1.1.1, hk_.1.1.2.1, hk_.1.1.2.2⟩)); have n3_ := zK (Kd.R_mono (ok' := fun k_ => some k_ ≠ (v423 : Value).ownBlock ∧ some k_ ≠ (.slice Ao23 t425.length co23 : Value).ownBlock ∧ some k_ ≠ (v433 : Value).ownBlock) (Kd.R_keptB ((rApP hkp rfl HO438.out (fun k_ e_ => e_.2))) hkp (fun k_ hk_ hs_ => (hk_.2) hs_)) (fun k_ hk_ => ⟨hk_.1.1.1, hk_.1.1.2.1, hk_.1.1.2.2⟩)); have n4_ := zK (hb); clear HO_6 HO_8 HO_10 HO438 HB HO_9; have HO_6 := n0_; have HO_8 := n1_; have HO_10 := n2_; have HO438 := n3_; have HB := n4_; clear n0_ n1_ n2_ n3_ n4_; (try clear hb); (try clear hkp)))
   (try simp only [Act.put, sA, sZ, sS])
   go_cut [82] (fun v82 wc => ∃ (kq : Nat) (x82_42 : Bool), v82 = .bool x82_42 ∧ Aside0 (laws_FnExactSendAll.j1 kq l0 l1 t421 t422 t431 x82_42 = some r) ∧ Aside0 (kq ≤ kj13) ∧ Aside0 (Kd.R k138 138 wc w.heap.size (fun k_ => some k_ ≠ (v433 : Value).ownBlock) v423 t421) ∧ Aside0 (Kd.R k138 138 wc w.heap.size (fun k_ => some k_ ≠ (v423 : Value).ownBlock) v433 t431) ∧ Aside0 (Below w.heap.size w wc))
   case first =>
    have H := HC43.out
    clear HC43
    by_cases c52 : t446 < 0
    ·rw [if_pos c52] at H
     have c52b0 : decide (t446 < 0) = true := decide_eq_true c52
     clear c52
     (first | rw [c52b0] | rw [c52b1] | (simp only [i64_w, i32_w]; rw [c52b0]) | skip)
     have H' := zK H
     clear H
     go_wp2
     go_meet
     case rel => exact ⟨_, (true), M3, H', ⟨by have := HJ13.out; first | omega | exact Nat.le_refl _⟩, ⟨by (with_reducible repeat (first | apply Kd.RA | apply Kd.RN | apply Kd.RD)); exact Kd.R_mono HO_6.out (fun _ hk => hk.2.1)⟩, ⟨by (with_reducible repeat (first | apply Kd.RA | apply Kd.RN | apply Kd.RD)); exact Kd.R_mono HO_10.out (fun _ hk => hk.1)⟩, ⟨by exact qB HB.out⟩⟩
    rw [if_neg c52] at H
    have c52b0 : decide (t446 < 0) = false := decide_eq_false c52
    clear c52
    (first | rw [c52b0] | rw [c52b1] | (simp only [i64_w, i32_w]; rw [c52b0]) | skip)
    replace H := Option.bind_eq_some_iff.mp H
    obtain ⟨t447, A530, H⟩ := H
    replace H : (if t447 = true then (laws_FnExactSendAll.j1 kj13 l0 l1 t421 t422 t431 (t432 != t422)) else (laws_FnExactSendAll.j1 kj13 l0 l1 t421 t422 t431 true)) = some r := H
    have A53 := zK A530
    clear A530
    by_cases c54 : t447 = true
    ·subst c54
     have H1 : (laws_FnExactSendAll.j1 kj13 l0 l1 t421 t422 t431 (t432 != t422)) = some r := by rw [if_pos rfl] at H; exact H
     clear H
     have H := H1
     clear H1
     have H' := zK H
     clear H
     obtain ⟨Ao55, co55, eo55⟩ := Kd.R_slice HO_10.out
     subst eo55
     obtain ⟨Ao56, co56, eo56⟩ := Kd.R_slice HO_6.out
     subst eo56
     go_wp2_with (first | (go_at_call 52; (with_reducible refine (laws_eqHandS.calls kj13 _ _ t431 _ _ t421 true _ ?side1 ?side2 ?side3 ?side4 A53.out).mono ?_); (case side1 => exact Kd.qC (Kd.R_reads' HO_10.out).2.2); (case side2 => exact (Kd.R_reads' HO_10.out).2.1); (case side3 => exact Kd.qC (Kd.R_reads' HO_6.out).2.2); (case side4 => exact (Kd.R_reads' HO_6.out).2.1); rintro e w57 ⟨rfl, hb⟩; have n0_ := zK (Kd.R_below (Kd.qR HO_6.out) hb); have n1_ := zK (Kd.R_below (Kd.qR HO_8.out) hb); have n2_ := zK (Kd.R_below (Kd.qR HO_10.out) hb); have n3_ := zK (Kd.R_below (Kd.qR HO438.out) hb); have n4_ := zK (bT (qB HB.out) hb); clear HO_6 HO_8 HO_10 HO438 HB; have HO_6 := n0_; have HO_8 := n1_; have HO_10 := n2_; have HO438 := n3_; have HB := n4_; clear n0_ n1_ n2_ n3_ n4_; (try clear hb); (try clear hb2); (try clear hk); (try clear hi)))
     go_meet
     case rel => exact ⟨_, ((t432 != t422)), M3, H', ⟨by have := HJ13.out; first | omega | exact Nat.le_refl _⟩, ⟨by (with_reducible repeat (first | apply Kd.RA | apply Kd.RN | apply Kd.RD)); exact Kd.R_mono HO_6.out (fun _ hk => hk.2.1)⟩, ⟨by (with_reducible repeat (first | apply Kd.RA | apply Kd.RN | apply Kd.RD)); exact Kd.R_mono HO_10.out (fun _ hk => hk.1)⟩, ⟨by exact qB HB.out⟩⟩
    replace c54 := Bool.eq_false_iff.mpr c54
    subst c54
    have H1 : (laws_FnExactSendAll.j1 kj13 l0 l1 t421 t422 t431 true) = some r := by rw [if_neg (show ¬ (false = true) by decide)] at H; exact H
    clear H
    have H := H1
    clear H1
    have H' := zK H
    clear H
    obtain ⟨Ao58, co58, eo58⟩ := Kd.R_slice HO_10.out
    subst eo58
    obtain ⟨Ao59, co59, eo59⟩ := Kd.R_slice HO_6.out
    subst eo59
    go_wp2_with (first | (go_at_call 52; (with_reducible refine (laws_eqHandS.calls kj13 _ _ t431 _ _ t421 false _ ?side1 ?side2 ?side3 ?side4 A53.out).mono ?_); (case side1 => exact Kd.qC (Kd.R_reads' HO_10.out).2.2); (case side2 => exact (Kd.R_reads' HO_10.out).2.1); (case side3 => exact Kd.qC (Kd.R_reads' HO_6.out).2.2); (case side4 => exact (Kd.R_reads' HO_6.out).2.1); rintro e w60 ⟨rfl, hb⟩; have n0_ := zK (Kd.R_below (Kd.qR HO_6.out) hb); have n1_ := zK (Kd.R_below (Kd.qR HO_8.out) hb); have n2_ := zK (Kd.R_below (Kd.qR HO_10.out) hb); have n3_ := zK (Kd.R_below (Kd.qR HO438.out) hb); have n4_ := zK (bT (qB HB.out) hb); clear HO_6 HO_8 HO_10 HO438 HB; have HO_6 := n0_; have HO_8 := n1_; have HO_10 := n2_; have HO438 := n3_; have HB := n4_; clear n0_ n1_ n2_ n3_ n4_; (try clear hb); (try clear hb2); (try clear hk); (try clear hi)))
    go_meet
    case rel => exact ⟨_, (true), M3, H', ⟨by have := HJ13.out; first | omega | exact Nat.le_refl _⟩, ⟨by (with_reducible repeat (first | apply Kd.RA | apply Kd.RN | apply Kd.RD)); exact Kd.R_mono HO_6.out (fun _ hk => hk.2.1)⟩, ⟨by (with_reducible repeat (first | apply Kd.RA | apply Kd.RN | apply Kd.RD)); exact Kd.R_mono HO_10.out (fun _ hk => hk.1)⟩, ⟨by exact qB HB.out⟩⟩
   case rest =>
    clear HC43
    try clear c1
    try clear c2
    try clear p2
    try clear c3
    try clear c4
    try clear c4b0
    try clear c5
    try clear c6
    try clear c6b0
    try clear c9
    try clear c27
    try clear c34
    try clear c37
    try clear c40
    try clear c47
    try clear c50
    try clear c52
    try clear c52b0
    try clear c54
    try clear c57
    try clear c58
    try clear c59
    try clear c60
    try clear p2
    obtain ⟨kq, x82_42, rfl, HA, HJ42, HO_6, HO_10, HB⟩ := hcut
    cases kq with
    | zero => exact absurd HA.out (by simp [laws_FnExactSendAll.j1])
    | succ kj42 =>
     have H := HA.out
     clear HA
     simp only [laws_FnExactSendAll.j1] at H
     by_cases c61 : x82_42 = true
     ·subst c61
      have H1 : (some false) = some r := by rw [if_pos rfl] at H; exact H
      clear H
      have H := H1
      clear H1
      obtain rfl := Option.some.inj H
      go_wp2
      go_ret
      exact ⟨by first | rfl | (simp [errW_none, errW_some] <;> rfl) | (simp [*, errW_none, errW_some] <;> rfl), by exact qB HB.out⟩
     replace c61 := Bool.eq_false_iff.mpr c61
     subst c61
     have H1 : ((laws_markHandS.f kj42 t431 1).bind fun bt448 => ((laws_heldHandS.f kj42 bt448.2 1).bind fun t450 => (if t450 < 0 then (some false) else (if t450 = bt448.1 then ((laws_toHandS.f kj42 l0).bind fun t451 => ((laws_toParcelS.f kj42 l1).bind fun t454 => ((impl_SendAll.f kj42 t451 t454).bind fun bt457 => ((laws_eqHandS.f kj42 bt457.1 t421).bind fun t461 => (if t461 = true then (laws_FnExactSendAll.j2 kj42 bt448.2 bt448.1 (bt457.2 != t422)) else (laws_FnExactSendAll.j2 kj42 bt448.2 bt448.1 true)))))) else (some false))))) = some r := by rw [if_neg (show ¬ (false = true) by decide)] at H; exact H
     clear H
     have H := H1
     clear H1
     replace H := Option.bind_eq_some_iff.mp H
     obtain ⟨⟨t448, t449⟩, A620, H⟩ := H
     replace H : ((laws_heldHandS.f kj42 t449 1).bind fun t450 => (if t450 < 0 then (some false) else (if t450 = t448 then ((laws_toHandS.f kj42 l0).bind fun t451 => ((laws_toParcelS.f kj42 l1).bind fun t454 => ((impl_SendAll.f kj42 t451 t454).bind fun bt457 => ((laws_eqHandS.f kj42 bt457.1 t421).bind fun t461 => (if t461 = true then (laws_FnExactSendAll.j2 kj42 t449 t448 (bt457.2 != t422)) else (laws_FnExactSendAll.j2 kj42 t449 t448 true)))))) else (some false)))) = some r := H
     have A62 := zK A620
     clear A620
     replace H := Option.bind_eq_some_iff.mp H
     obtain ⟨t450, A630, H⟩ := H
     replace H : (if t450 < 0 then (some false) else (if t450 = t448 then ((laws_toHandS.f kj42 l0).bind fun t451 => ((laws_toParcelS.f kj42 l1).bind fun t454 => ((impl_SendAll.f kj42 t451 t454).bind fun bt457 => ((laws_eqHandS.f kj42 bt457.1 t421).bind fun t461 => (if t461 = true then (laws_FnExactSendAll.j2 kj42 t449 t448 (bt457.2 != t422)) else (laws_FnExactSendAll.j2 kj42 t449 t448 true)))))) else (some false))) = some r := H
     have A63 := zK A630
     clear A630
     by_cases c64 : t450 < 0
     ·rw [if_pos c64] at H
      have c64b0 : decide (t450 < 0) = true := decide_eq_true c64
      clear c64
      obtain rfl := Option.some.inj H
      obtain ⟨Ao65, co65, eo65⟩ := Kd.R_slice HO_10.out
      subst eo65
      go_wp2_with (first | ((with_reducible refine gate_callee (f := 54) rfl ?_); refine goesL_ (some 85) rfl rfl Try.func54 (by kernel_rfl) rfl #[.slice Ao65 t431.length co65, .int .i64 1] rfl M0 ?_; (with_reducible refine (laws_markHandS.calls kj42 (fun k_ => some k_ = (.slice Ao65 t431.length co65 : Value).ownBlock) (.slice Ao65 t431.length co65) t431 1 t448 t449 w _ ?side1 ?side2 A62.out).mono ?_); (case side1 => repeat (first | (with_reducible first | exact HB.out | apply bA | apply bN | apply b1) | exact HB.out)); (case side2 => exact Kd.R_tight rfl HO_10.out); rintro e w66 ⟨rfl, hy0, hb, hkp⟩; refine ⟨_, rfl, ?_⟩; have n0_ := zK (Kd.R_mono (ok' := fun k_ => some k_ ≠ (.slice Ao65 t431.length co65 : Value).ownBlock) (Kd.R_keptB (HO_6.out) hkp (fun k_ hk_ hs_ => (hk_) hs_)) (fun k_ hk_ => hk_.1)); have n1_ := zK (Kd.R_reok rfl hy0 (fun k_ e_ => HO_10.out.1 k_ e_)); have n2_ := zK (hb); clear HO_6 HO_10 HB; have HO_6 := n0_; have HO_10 := n1_; have HB := n2_; clear n0_ n1_ n2_; (try clear hb); (try clear hkp); (try clear hy0)) | ((with_reducible refine gate_callee (f := 56) rfl ?_); refine goesL_ (some 88) rfl rfl Try.func56 (by kernel_rfl) rfl #[.slice Ao65 t449.length co65, .int .i64 1] rfl (by (try simp only [List.map_toArray, List.map_cons, List.map_nil]); first | done | (rw [show t449.length = t431.length from (Kd.R_reads' HO_10.out).1.symm] <;> rfl) | rfl | (simp only [List.length_drop, List.length_take]; rfl)) ?_; (with_reducible refine (laws_heldHandS.calls kj42 _ _ t449 1 t450 _ ?side1 ?side2 A63.out).mono ?_); (case side1 => exact Kd.qC (Kd.R_reads' HO_10.out).2.2); (case side2 => rw [show t449.length = t431.length from (Kd.R_reads' HO_10.out).1.symm]; exact (Kd.R_reads' HO_10.out).2.1); rintro e w' ⟨rfl, ⟨nd, rfl⟩⟩; refine ⟨_, rfl, ?_⟩))
      go_ret
      exact ⟨by first | rfl | (simp [errW_none, errW_some] <;> rfl) | (simp [*, errW_none, errW_some] <;> rfl), by exact qB HB.out⟩
     rw [if_neg c64] at H
     have c64b0 : decide (t450 < 0) = false := decide_eq_false c64
     clear c64
     by_cases c67 : t450 = t448
     rotate_left
     ·rw [if_neg c67] at H
      have c67b0 : (t450 == t448) = false := beq_eq_false_iff_ne.mpr c67
      have c67b1 : (t450 != t448) = true := bne_iff_ne.mpr c67
      obtain rfl := Option.some.inj H
      obtain ⟨Ao91, co91, eo91⟩ := Kd.R_slice HO_10.out
      subst eo91
      go_wp2_with (first | ((with_reducible refine gate_callee (f := 54) rfl ?_); refine goesL_ (some 85) rfl rfl Try.func54 (by kernel_rfl) rfl #[.slice Ao91 t431.length co91, .int .i64 1] rfl M0 ?_; (with_reducible refine (laws_markHandS.calls kj42 (fun k_ => some k_ = (.slice Ao91 t431.length co91 : Value).ownBlock) (.slice Ao91 t431.length co91) t431 1 t448 t449 w _ ?side1 ?side2 A62.out).mono ?_); (case side1 => repeat (first | (with_reducible first | exact HB.out | apply bA | apply bN | apply b1) | exact HB.out)); (case side2 => exact Kd.R_tight rfl HO_10.out); rintro e w92 ⟨rfl, hy0, hb, hkp⟩; refine ⟨_, rfl, ?_⟩; have n0_ := zK (Kd.R_mono (ok' := fun k_ => some k_ ≠ (.slice Ao91 t431.length co91 : Value).ownBlock) (Kd.R_keptB (HO_6.out) hkp (fun k_ hk_ hs_ => (hk_) hs_)) (fun k_ hk_ => hk_.1)); have n1_ := zK (Kd.R_reok rfl hy0 (fun k_ e_ => HO_10.out.1 k_ e_)); have n2_ := zK (hb); clear HO_6 HO_10 HB; have HO_6 := n0_; have HO_10 := n1_; have HB := n2_; clear n0_ n1_ n2_; (try clear hb); (try clear hkp); (try clear hy0)) | ((with_reducible refine gate_callee (f := 56) rfl ?_); refine goesL_ (some 88) rfl rfl Try.func56 (by kernel_rfl) rfl #[.slice Ao91 t449.length co91, .int .i64 1] rfl (by (try simp only [List.map_toArray, List.map_cons, List.map_nil]); first | done | (rw [show t449.length = t431.length from (Kd.R_reads' HO_10.out).1.symm] <;> rfl) | rfl | (simp only [List.length_drop, List.length_take]; rfl)) ?_; (with_reducible refine (laws_heldHandS.calls kj42 _ _ t449 1 t450 _ ?side1 ?side2 A63.out).mono ?_); (case side1 => exact Kd.qC (Kd.R_reads' HO_10.out).2.2); (case side2 => rw [show t449.length = t431.length from (Kd.R_reads' HO_10.out).1.symm]; exact (Kd.R_reads' HO_10.out).2.1); rintro e w' ⟨rfl, ⟨nd, rfl⟩⟩; refine ⟨_, rfl, ?_⟩))
      go_ret
      exact ⟨by first | rfl | (simp [errW_none, errW_some] <;> rfl) | (simp [*, errW_none, errW_some] <;> rfl), by exact qB HB.out⟩
     rw [if_pos c67] at H
     have c67b0 : (t450 == t448) = true := beq_iff_eq.mpr c67
     have c67b1 : (t450 != t448) = false := bne_eq_false_iff_eq.mpr c67
     clear c67
     replace H := Option.bind_eq_some_iff.mp H
     obtain ⟨t451, A680, H⟩ := H
     replace H : ((laws_toParcelS.f kj42 l1).bind fun t454 => ((impl_SendAll.f kj42 t451 t454).bind fun bt457 => ((laws_eqHandS.f kj42 bt457.1 t421).bind fun t461 => (if t461 = true then (laws_FnExactSendAll.j2 kj42 t449 t448 (bt457.2 != t422)) else (laws_FnExactSendAll.j2 kj42 t449 t448 true))))) = some r := H
     have A68 := zK A680
     clear A680
     replace H := Option.bind_eq_some_iff.mp H
     obtain ⟨t454, A690, H⟩ := H
     replace H : ((impl_SendAll.f kj42 t451 t454).bind fun bt457 => ((laws_eqHandS.f kj42 bt457.1 t421).bind fun t461 => (if t461 = true then (laws_FnExactSendAll.j2 kj42 t449 t448 (bt457.2 != t422)) else (laws_FnExactSendAll.j2 kj42 t449 t448 true)))) = some r := H
     have A69 := zK A690
     clear A690
     replace H := Option.bind_eq_some_iff.mp H
     obtain ⟨⟨t457, t458⟩, A700, H⟩ := H
     replace H : ((laws_eqHandS.f kj42 t457 t421).bind fun t461 => (if t461 = true then (laws_FnExactSendAll.j2 kj42 t449 t448 (t458 != t422)) else (laws_FnExactSendAll.j2 kj42 t449 t448 true))) = some r := H
     have A70 := zK A700
     clear A700
     have HC71 := zK H
     clear H
     obtain ⟨Ao72, co72, eo72⟩ := Kd.R_slice HO_10.out
     subst eo72
     go_upto_region 32 with (first | ((with_reducible refine gate_callee (f := 54) rfl ?_); refine goesL_ (some 85) rfl rfl Try.func54 (by kernel_rfl) rfl #[.slice Ao72 t431.length co72, .int .i64 1] rfl M0 ?_; (with_reducible refine (laws_markHandS.calls kj42 (fun k_ => some k_ = (.slice Ao72 t431.length co72 : Value).ownBlock) (.slice Ao72 t431.length co72) t431 1 t448 t449 w _ ?side1 ?side2 A62.out).mono ?_); (case side1 => repeat (first | (with_reducible first | exact HB.out | apply bA | apply bN | apply b1) | exact HB.out)); (case side2 => exact Kd.R_tight rfl HO_10.out); rintro e w73 ⟨rfl, hy0, hb, hkp⟩; refine ⟨_, rfl, ?_⟩; have n0_ := zK (Kd.R_mono (ok' := fun k_ => some k_ ≠ (.slice Ao72 t431.length co72 : Value).ownBlock) (Kd.R_keptB (HO_6.out) hkp (fun k_ hk_ hs_ => (hk_) hs_)) (fun k_ hk_ => hk_.1)); have n1_ := zK (Kd.R_reok rfl hy0 (fun k_ e_ => HO_10.out.1 k_ e_)); have n2_ := zK (hb); clear HO_6 HO_10 HB; have HO_6 := n0_; have HO_10 := n1_; have HB := n2_; clear n0_ n1_ n2_; (try clear hb); (try clear hkp); (try clear hy0)) | ((with_reducible refine gate_callee (f := 56) rfl ?_); refine goesL_ (some 88) rfl rfl Try.func56 (by kernel_rfl) rfl #[.slice Ao72 t449.length co72, .int .i64 1] rfl (by (try simp only [List.map_toArray, List.map_cons, List.map_nil]); first | done | (rw [show t449.length = t431.length from (Kd.R_reads' HO_10.out).1.symm] <;> rfl) | rfl | (simp only [List.length_drop, List.length_take]; rfl)) ?_; (with_reducible refine (laws_heldHandS.calls kj42 _ _ t449 1 t450 _ ?side1 ?side2 A63.out).mono ?_); (case side1 => exact Kd.qC (Kd.R_reads' HO_10.out).2.2); (case side2 => rw [show t449.length = t431.length from (Kd.R_reads' HO_10.out).1.symm]; exact (Kd.R_reads' HO_10.out).2.1); rintro e w' ⟨rfl, ⟨nd, rfl⟩⟩; refine ⟨_, rfl, ?_⟩) | ((with_reducible refine gate_callee (f := 50) rfl ?_); refine goesL_ (some 96) rfl rfl Try.func50 (by kernel_rfl) rfl #[.slice A0 l0.length c0] rfl M0 ?_; (with_reducible refine (laws_toHandS.calls kj42 _ _ l0 t451 _ ?side1 ?side2 A68.out).mono ?_); (case side1 => repeat (first | exact (Kd.C_below HR0.out (qB HB.out)) | (with_reducible refine Kd.CA ?_ _) | (with_reducible refine Kd.CN ?_ _) | (with_reducible refine Kd.CD ?_))); (case side2 => exact HC0.out); rintro e w74 ⟨v452, rfl, ho0, hb⟩; refine ⟨_, rfl, ?_⟩; have n0_ := zK (Kd.R_elder' (Kd.qR HO_6.out) (Kd.R_base ho0) hb); have n1_ := zK (Kd.R_elder' (Kd.qR HO_10.out) (Kd.R_base ho0) hb); have n2_ := zK (Kd.R_lower (Kd.R_new' (Kd.R_new' ho0 (Kd.R_lt (Kd.qR HO_6.out))) (Kd.R_lt (Kd.qR HO_10.out))) (bZ (qB HB.out))); have n3_ := zK (bT (qB HB.out) hb); clear HO_6 HO_10 HB; have HO_6 := n0_; have HO_10 := n1_; have HO453 := n2_; have HB := n3_; clear n0_ n1_ n2_ n3_; (try clear hb); (try clear hb2); (try clear hk); (try clear hi); (try clear ho0)) | ((with_reducible refine gate_callee (f := 59) rfl ?_); refine goesL_ (some 98) rfl rfl Try.func59 (by kernel_rfl) rfl #[.slice A1 l1.length c1] rfl M0 ?_; (with_reducible refine (laws_toParcelS.calls kj42 _ _ l1 t454 _ ?side1 ?side2 A69.out).mono ?_); (case side1 => exact Kd.qC (Kd.C_below HR1.out HB.out)); (case side2 => exact HC1.out); rintro e w75 ⟨v455, rfl, ho0, hb⟩; refine ⟨_, rfl, ?_⟩; have n0_ := zK (Kd.R_below (Kd.qR HO_6.out) hb); have n1_ := zK (Kd.R_below (Kd.qR HO_10.out) hb); have n2_ := zK (Kd.R_below (Kd.qR HO453.out) hb); have n3_ := zK (Kd.S_lower ho0 (bZ (qB HB.out))); have n4_ := zK (bT (qB HB.out) hb); clear HO_6 HO_10 HO453 HB; have HO_6 := n0_; have HO_10 := n1_; have HO453 := n2_; have HO456 := n3_; have HB := n4_; clear n0_ n1_ n2_ n3_ n4_; (try clear hb); (try clear hb2); (try clear hk); (try clear hi); (try clear ho0); obtain ⟨Ao76, co76, eo76⟩ := Kd.R_slice HO453.out; subst eo76; obtain ⟨Ao77, co77, eo77⟩ := Kd.S_slice HO456.out; subst eo77) | ((with_reducible refine gate_callee (f := 40) rfl ?_); refine goesL_ (some 99) rfl rfl Try.func40 (by kernel_rfl) rfl #[.slice Ao76 t451.length co76, .slice Ao77 t454.length co77] rfl M0 ?_; (with_reducible refine (impl_SendAll.calls kj42 _ _ t451 _ _ t454 t457 t458 _ ?side1 ?side2 ?side3 ?side4 A70.out).mono ?_); (case side1 => exact Kd.qC (Kd.R_reads' HO453.out).2.2); (case side2 => exact (Kd.R_reads' HO453.out).2.1); (case side3 => repeat (first | exact (Kd.S_reads' HO456.out).2.2 | (with_reducible refine Kd.CA ?_ _) | (with_reducible refine Kd.CN ?_ _) | (with_reducible refine Kd.CD ?_))); (case side4 => exact (Kd.S_reads' HO456.out).2.1); rintro e w78 ⟨v459, rfl, ho0, hb⟩; refine ⟨_, rfl, ?_⟩; have n0_ := zK (Kd.R_elder' (Kd.qR HO_6.out) (Kd.R_base ho0) hb); have n1_ := zK (Kd.R_elder' (Kd.qR HO_10.out) (Kd.R_base ho0) hb); have n2_ := zK (Kd.R_elder' (Kd.qR HO453.out) (Kd.R_base ho0) hb); have n3_ := zK (Kd.S_below (by (with_reducible repeat (first | apply Kd.S_alloc | apply Kd.S_drewN | apply Kd.S_drew)); exact HO456.out) hb); have n4_ := zK (Kd.R_lower (Kd.R_new' (Kd.R_new' (Kd.R_new' ho0 (Kd.R_lt (Kd.qR HO_6.out))) (Kd.R_lt (Kd.qR HO_10.out))) (Kd.R_lt (Kd.qR HO453.out))) (bZ (qB HB.out))); have n5_ := zK (bT (qB HB.out) hb); clear HO_6 HO_10 HO453 HO456 HB; have HO_6 := n0_; have HO_10 := n1_; have HO453 := n2_; have HO456 := n3_; have HO460 := n4_; have HB := n5_; clear n0_ n1_ n2_ n3_ n4_ n5_; (try clear hb); (try clear hb2); (try clear hk); (try clear hi); (try clear ho0)))
     (try simp only [Act.put, sA, sZ, sS])
     go_cut [110] (fun v110 wc => ∃ (kq : Nat) (x110_70 : Bool), v110 = .bool x110_70 ∧ Aside0 (laws_FnExactSendAll.j2 kq t449 t448 x110_70 = some r) ∧ Aside0 (kq ≤ kj42) ∧ Aside0 (Kd.R k138 138 wc w.heap.size (fun _ => True) (.slice Ao72 t431.length co72) t449) ∧ Aside0 (Below w.heap.size w wc))
     case first =>
      have H := HC71.out
      clear HC71
      replace H := Option.bind_eq_some_iff.mp H
      obtain ⟨t461, A790, H⟩ := H
      replace H : (if t461 = true then (laws_FnExactSendAll.j2 kj42 t449 t448 (t458 != t422)) else (laws_FnExactSendAll.j2 kj42 t449 t448 true)) = some r := H
      have A79 := zK A790
      clear A790
      by_cases c80 : t461 = true
      ·subst c80
       have H1 : (laws_FnExactSendAll.j2 kj42 t449 t448 (t458 != t422)) = some r := by rw [if_pos rfl] at H; exact H
       clear H
       have H := H1
       clear H1
       have H' := zK H
       clear H
       obtain ⟨Ao81, co81, eo81⟩ := Kd.R_slice HO460.out
       subst eo81
       obtain ⟨Ao82, co82, eo82⟩ := Kd.R_slice HO_6.out
       subst eo82
       go_wp2_with (first | ((with_reducible refine gate_callee (f := 52) rfl ?_); refine goesL_ (some 104) rfl rfl Try.func52 (by kernel_rfl) rfl #[.slice Ao81 t457.length co81, .slice Ao82 t421.length co82] rfl M0 ?_; (with_reducible refine (laws_eqHandS.calls kj42 _ _ t457 _ _ t421 true _ ?side1 ?side2 ?side3 ?side4 A79.out).mono ?_); (case side1 => exact Kd.qC (Kd.R_reads' HO460.out).2.2); (case side2 => exact (Kd.R_reads' HO460.out).2.1); (case side3 => exact Kd.qC (Kd.R_reads' HO_6.out).2.2); (case side4 => exact (Kd.R_reads' HO_6.out).2.1); rintro e w83 ⟨rfl, hb⟩; refine ⟨_, rfl, ?_⟩; have n0_ := zK (Kd.R_below (Kd.qR HO_6.out) hb); have n1_ := zK (Kd.R_below (Kd.qR HO_10.out) hb); have n2_ := zK (Kd.R_below (Kd.qR HO453.out) hb); have n3_ := zK (Kd.S_below (by (with_reducible repeat (first | apply Kd.S_alloc | apply Kd.S_drewN | apply Kd.S_drew)); exact HO456.out) hb); have n4_ := zK (Kd.R_below (Kd.qR HO460.out) hb); have n5_ := zK (bT (qB HB.out) hb); clear HO_6 HO_10 HO453 HO456 HO460 HB; have HO_6 := n0_; have HO_10 := n1_; have HO453 := n2_; have HO456 := n3_; have HO460 := n4_; have HB := n5_; clear n0_ n1_ n2_ n3_ n4_ n5_; (try clear hb); (try clear hb2); (try clear hk); (try clear hi)))
       go_meet
       case rel => exact ⟨_, ((t458 != t422)), M3, H', ⟨by have := HJ13.out; have := HJ42.out; first | omega | exact Nat.le_refl _⟩, ⟨by (with_reducible repeat (first | apply Kd.RA | apply Kd.RN | apply Kd.RD)); exact Kd.R_mono HO_10.out (fun _ hk => trivial)⟩, ⟨by exact qB HB.out⟩⟩
      replace c80 := Bool.eq_false_iff.mpr c80
      subst c80
      have H1 : (laws_FnExactSendAll.j2 kj42 t449 t448 true) = some r := by rw [if_neg (show ¬ (false = true) by decide)] at H; exact H
      clear H
      have H := H1
      clear H1
      have H' := zK H
      clear H
      obtain ⟨Ao84, co84, eo84⟩ := Kd.R_slice HO460.out
      subst eo84
      obtain ⟨Ao85, co85, eo85⟩ := Kd.R_slice HO_6.out
      subst eo85
      go_wp2_with (first | ((with_reducible refine gate_callee (f := 52) rfl ?_); refine goesL_ (some 104) rfl rfl Try.func52 (by kernel_rfl) rfl #[.slice Ao84 t457.length co84, .slice Ao85 t421.length co85] rfl M0 ?_; (with_reducible refine (laws_eqHandS.calls kj42 _ _ t457 _ _ t421 false _ ?side1 ?side2 ?side3 ?side4 A79.out).mono ?_); (case side1 => exact Kd.qC (Kd.R_reads' HO460.out).2.2); (case side2 => exact (Kd.R_reads' HO460.out).2.1); (case side3 => exact Kd.qC (Kd.R_reads' HO_6.out).2.2); (case side4 => exact (Kd.R_reads' HO_6.out).2.1); rintro e w86 ⟨rfl, hb⟩; refine ⟨_, rfl, ?_⟩; have n0_ := zK (Kd.R_below (Kd.qR HO_6.out) hb); have n1_ := zK (Kd.R_below (Kd.qR HO_10.out) hb); have n2_ := zK (Kd.R_below (Kd.qR HO453.out) hb); have n3_ := zK (Kd.S_below (by (with_reducible repeat (first | apply Kd.S_alloc | apply Kd.S_drewN | apply Kd.S_drew)); exact HO456.out) hb); have n4_ := zK (Kd.R_below (Kd.qR HO460.out) hb); have n5_ := zK (bT (qB HB.out) hb); clear HO_6 HO_10 HO453 HO456 HO460 HB; have HO_6 := n0_; have HO_10 := n1_; have HO453 := n2_; have HO456 := n3_; have HO460 := n4_; have HB := n5_; clear n0_ n1_ n2_ n3_ n4_ n5_; (try clear hb); (try clear hb2); (try clear hk); (try clear hi)))
      go_meet
      case rel => exact ⟨_, (true), M3, H', ⟨by have := HJ13.out; have := HJ42.out; first | omega | exact Nat.le_refl _⟩, ⟨by (with_reducible repeat (first | apply Kd.RA | apply Kd.RN | apply Kd.RD)); exact Kd.R_mono HO_10.out (fun _ hk => trivial)⟩, ⟨by exact qB HB.out⟩⟩
     case rest =>
      clear HC71
      try clear c1
      try clear c2
      try clear p2
      try clear c3
      try clear c4
      try clear c4b0
      try clear c5
      try clear c6
      try clear c6b0
      try clear c8
      try clear c9
      try clear c27
      try clear c34
      try clear c37
      try clear c40
      try clear c47
      try clear c50
      try clear c52
      try clear c52b0
      try clear c54
      try clear c56
      try clear c57
      try clear c58
      try clear c59
      try clear c60
      try clear c61
      try clear c64
      try clear c64b0
      try clear c67
      try clear c67b0
      try clear c67b1
      try clear c80
      try clear p2
      obtain ⟨kq, x110_70, rfl, HA, HJ70, HO_10, HB⟩ := hcut
      have hl10_70 := (Kd.R_reads' HO_10.out).1
      rw [hl10_70] at HO_10
      (try simp only [hl10_70])
      cases kq with
      | zero => exact absurd HA.out (by simp [laws_FnExactSendAll.j2])
      | succ kj70 =>
       have H := HA.out
       clear HA
       simp only [laws_FnExactSendAll.j2] at H
       by_cases c87 : x110_70 = true
       ·subst c87
        have H1 : (some false) = some r := by rw [if_pos rfl] at H; exact H
        clear H
        have H := H1
        clear H1
        obtain rfl := Option.some.inj H
        go_wp2
        go_ret
        exact ⟨by first | rfl | (simp [errW_none, errW_some] <;> rfl) | (simp [*, errW_none, errW_some] <;> rfl), by exact qB HB.out⟩
       replace c87 := Bool.eq_false_iff.mpr c87
       subst c87
       have H1 : ((laws_heldHandS.f kj70 t449 1).bind fun t462 => (if t462 < 0 then (some false) else (if t462 = t448 then (some true) else (some false)))) = some r := by rw [if_neg (show ¬ (false = true) by decide)] at H; exact H
       clear H
       have H := H1
       clear H1
       replace H := Option.bind_eq_some_iff.mp H
       obtain ⟨t462, A880, H⟩ := H
       replace H : (if t462 < 0 then (some false) else (if t462 = t448 then (some true) else (some false))) = some r := H
       have A88 := zK A880
       clear A880
       by_cases c89 : t462 < 0
       ·rw [if_pos c89] at H
        have c89b0 : decide (t462 < 0) = true := decide_eq_true c89
        clear c89
        obtain rfl := Option.some.inj H
        go_wp2_with (first | ((with_reducible refine gate_callee (f := 56) rfl ?_); refine goesL_ (some 113) rfl rfl Try.func56 (by kernel_rfl) rfl #[.slice Ao72 t449.length co72, .int .i64 1] rfl M0 ?_; (with_reducible refine (laws_heldHandS.calls kj70 _ _ t449 1 t462 _ ?side1 ?side2 A88.out).mono ?_); (case side1 => exact Kd.qC (Kd.R_reads' HO_10.out).2.2); (case side2 => exact (Kd.R_reads' HO_10.out).2.1); rintro e w' ⟨rfl, ⟨nd, rfl⟩⟩; refine ⟨_, rfl, ?_⟩))
        go_ret
        exact ⟨by first | rfl | (simp [errW_none, errW_some] <;> rfl) | (simp [*, errW_none, errW_some] <;> rfl), by exact qB HB.out⟩
       rw [if_neg c89] at H
       have c89b0 : decide (t462 < 0) = false := decide_eq_false c89
       clear c89
       by_cases c90 : t462 = t448
       rotate_left
       ·rw [if_neg c90] at H
        have c90b0 : (t462 == t448) = false := beq_eq_false_iff_ne.mpr c90
        have c90b1 : (t462 != t448) = true := bne_iff_ne.mpr c90
        obtain rfl := Option.some.inj H
        go_wp2_with (first | ((with_reducible refine gate_callee (f := 56) rfl ?_); refine goesL_ (some 113) rfl rfl Try.func56 (by kernel_rfl) rfl #[.slice Ao72 t449.length co72, .int .i64 1] rfl M0 ?_; (with_reducible refine (laws_heldHandS.calls kj70 _ _ t449 1 t462 _ ?side1 ?side2 A88.out).mono ?_); (case side1 => exact Kd.qC (Kd.R_reads' HO_10.out).2.2); (case side2 => exact (Kd.R_reads' HO_10.out).2.1); rintro e w' ⟨rfl, ⟨nd, rfl⟩⟩; refine ⟨_, rfl, ?_⟩))
        go_ret
        exact ⟨by first | rfl | (simp [errW_none, errW_some] <;> rfl) | (simp [*, errW_none, errW_some] <;> rfl), by exact qB HB.out⟩
       rw [if_pos c90] at H
       have c90b0 : (t462 == t448) = true := beq_iff_eq.mpr c90
       have c90b1 : (t462 != t448) = false := bne_eq_false_iff_eq.mpr c90
       clear c90
       obtain rfl := Option.some.inj H
       go_wp2_with (first | ((with_reducible refine gate_callee (f := 56) rfl ?_); refine goesL_ (some 113) rfl rfl Try.func56 (by kernel_rfl) rfl #[.slice Ao72 t449.length co72, .int .i64 1] rfl M0 ?_; (with_reducible refine (laws_heldHandS.calls kj70 _ _ t449 1 t462 _ ?side1 ?side2 A88.out).mono ?_); (case side1 => exact Kd.qC (Kd.R_reads' HO_10.out).2.2); (case side2 => exact (Kd.R_reads' HO_10.out).2.1); rintro e w' ⟨rfl, ⟨nd, rfl⟩⟩; refine ⟨_, rfl, ?_⟩))
       go_ret
       exact ⟨by first | rfl | (simp [errW_none, errW_some] <;> rfl) | (simp [*, errW_none, errW_some] <;> rfl), by exact qB HB.out⟩
end Go.Proofs.Ytejhjenlodclpaa.PFnExactSendAll
