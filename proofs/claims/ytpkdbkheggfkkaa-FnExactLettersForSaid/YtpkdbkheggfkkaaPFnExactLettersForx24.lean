/- Walks of functions that FnExactLettersFor reaches: written by a tool of the kit for this claim, then shortened by a program of ours. -/
import Derived.Test.YtpkdbkheggfkkaaPFnExactLettersForx0
import Derived.Test.YtpkdbkheggfkkaaPFnExactLettersForx1
import Derived.Test.YtpkdbkheggfkkaaPFnExactLettersForx2
import Derived.Test.YtpkdbkheggfkkaaPFnExactLettersForx10
import Derived.Test.YtpkdbkheggfkkaaPFnExactLettersForx20
import Derived.Test.YtpkdbkheggfkkaaPFnExactLettersForx21
import Derived.Test.YtpkdbkheggfkkaaPFnExactLettersForx22
import Derived.Test.YtpkdbkheggfkkaaPFnExactLettersForx23
/- narrow -/
namespace Go.Proofs.Ytpkdbkheggfkkaa.PFnExactLettersFor
open Go.RowKit Go.Proofs.YtpkdbkheggfkkaaW.PrintWords Go.Proofs.YtpkdbkheggfkkaaW.PrintLast Go.Proofs.YtpkdbkheggfkkaaW.PrintMore
attribute [local go_sem] max2_int min2_int max_two min_two max_three min_three max_four min_four   -- for this text's walks alone
set_option linter.unusedVariables false
set_option linter.unusedSimpArgs false

/-! ### laws_FnExactLettersFor: function 11 -/
def laws_FnExactLettersFor.j0 : Nat → List (S173) → List (S171) → List (S130) → Int → List (S81) → List (S81) → Bool → Option (Bool)
 | 0, _, _, _, _, _, _, _ => none
 | k + 1, x0, x1, x2, x3, x10, x14, x88 => if x88 = true then (some false) else ((laws_markLetterS.f k x14 1).bind fun bt473 => ((laws_heldLetterS.f k bt473.2 1).bind fun t475 => (if t475 < 0 then (some false) else (if t475 = bt473.1 then ((laws_toLetterS.f k x0).bind fun t476 => ((laws_toReportS.f k x1).bind fun t479 => ((laws_toFindS.f k x2).bind fun t482 => ((impl_LettersFor.f k t476 t479 t482 x3).bind fun t485 => ((laws_eqLetterS.f k t485 x10).bind fun t488 => (if t488 = true then ((laws_heldLetterS.f k bt473.2 1).bind fun t489 => (if t489 < 0 then (some false) else (if t489 = bt473.1 then (some true) else (some false)))) else (some false))))))) else (some false)))))
def laws_FnExactLettersFor.f (k : Nat) (l0 : List (S173)) (l1 : List (S171)) (l2 : List (S130)) (a3 : Int) : Option (Bool) := (laws_szLetterS.f l0 1048576).bind fun t427 => (if t427 < 0 then (some true) else ((laws_szReportS.f k l1 t427).bind fun t428 => (if t428 < 0 then (some true) else ((laws_szFindS.f l2 t428).bind fun t429 => (if t429 < 0 then (some true) else ((laws_toLetterS.f k l0).bind fun t430 => ((laws_toReportS.f k l1).bind fun t433 => ((laws_toFindS.f k l2).bind fun t436 => ((spec_LettersFor.f k t430 t433 t436 a3).bind fun t439 => ((laws_toLetterS.f k l0).bind fun t442 => ((laws_toReportS.f k l1).bind fun t445 => ((laws_toFindS.f k l2).bind fun t448 => ((impl_LettersFor.f k t442 t445 t448 a3).bind fun t451 => ((laws_eqLetterS.f k t451 t439).bind fun t454 => (if t454 = true then ((laws_toLetterS.f k l0).bind fun t455 => ((laws_eqLetterS.f k t442 t455).bind fun t458 => (if t458 = true then ((laws_toReportS.f k l1).bind fun t459 => ((laws_eqReportS.f k t445 t459).bind fun t462 => (if t462 = true then ((laws_toFindS.f k l2).bind fun t463 => ((laws_eqFindS.f k t448 t463).bind fun t466 => (if t466 = true then ((laws_markLetterS.f k t442 1).bind fun bt467 => ((laws_markReportS.f k t445 bt467.1).bind fun t469 => ((laws_markFindS.f k t448 t469).bind fun bt470 => (if bt470.1 < 0 then (laws_FnExactLettersFor.j0 k l0 l1 l2 a3 t439 t451 true) else ((laws_eqLetterS.f k t451 t439).bind fun t472 => (laws_FnExactLettersFor.j0 k l0 l1 l2 a3 t439 t451 (!t472))))))) else (some false)))) else (some false)))) else (some false)))) else (some false))))))))))))))))
set_option maxRecDepth 100000 in
theorem lf24_0 {p : Prop} (h : p := by
  go_enter Try.func11, Try.ntmps11
  go_wp2_with (first | ((with_reducible refine gate_callee (f := 71) rfl ?_); refine goesL_ (some 21) rfl rfl Try.func71 (by kernel_rfl) rfl #[.slice A0 l0.length c0, .int .i64 1048576] rfl M0 ?_; (with_reducible refine (laws_szLetterS.calls _ _ l0 1048576 t427 _ ?side1 ?side2 A5.o).mono ?_); (case side1 => exact Kd.qC HR0.o); (case side2 => exact HC0.o); rintro e w' ⟨rfl, ⟨nd, rfl⟩⟩; refine ⟨_, rfl, ?_⟩) | ((with_reducible refine gate_callee (f := 72) rfl ?_); refine goesL_ (some 26) rfl rfl Try.func72 (by kernel_rfl) rfl #[.slice A1 l1.length c1, .int .i64 t427] rfl M0 ?_; (with_reducible refine (laws_szReportS.calls k _ _ l1 t427 t428 _ ?side1 ?side2 A7.o).mono ?_); (case side1 => exact Kd.qC HR1.o); (case side2 => exact HC1.o); rintro e wz0 ⟨rfl, hb⟩; refine ⟨_, rfl, ?_⟩; have _ := zK (bT (qB HB.o) hb); clear HB; rename_i HB; (try clear hb); (try clear hb2); (try clear hk); (try clear hi)) | ((with_reducible refine gate_callee (f := 23) rfl ?_); refine goesL_ (some 31) rfl rfl Try.func23 (by kernel_rfl) rfl #[.slice A2 l2.length c2, .int .i64 t428] rfl M0 ?_; (with_reducible refine (laws_szFindS.calls _ _ l2 t428 t429 _ ?side1 ?side2 A10.o).mono ?_); (case side1 => exact Kd.qC (Kd.C_below HR2.o HB.o)); (case side2 => exact HC2.o); rintro e w' ⟨rfl, ⟨nd, rfl⟩⟩; refine ⟨_, rfl, ?_⟩) | ((with_reducible refine gate_callee (f := 74) rfl ?_); refine goesL_ (some 35) rfl rfl Try.func74 (by kernel_rfl) rfl #[.slice A0 l0.length c0] rfl M0 ?_; (with_reducible refine (laws_toLetterS.calls k _ _ l0 t430 _ ?side1 ?side2 A13.o).mono ?_); (case side1 => repeat (first | exact (Kd.C_below HR0.o (qB HB.o)) | (with_reducible refine Kd.CA ?_ _) | (with_reducible refine Kd.CN ?_ _) | (with_reducible refine Kd.CD ?_))); (case side2 => exact HC0.o); rintro e wz1 ⟨v431, rfl, ho0, hb⟩; refine ⟨_, rfl, ?_⟩; have _ := zK (Kd.R_lower ho0 (bZ (qB HB.o))); have _ := zK (bT (qB HB.o) hb); clear HB; rename_i HO432 HB; (try clear hb); (try clear hb2); (try clear hk); (try clear hi); (try clear ho0)) | ((with_reducible refine gate_callee (f := 75) rfl ?_); refine goesL_ (some 37) rfl rfl Try.func75 (by kernel_rfl) rfl #[.slice A1 l1.length c1] rfl M0 ?_; (with_reducible refine (laws_toReportS.calls k _ _ l1 t433 _ ?side1 ?side2 A14.o).mono ?_); (case side1 => exact Kd.qC (Kd.C_below HR1.o HB.o)); (case side2 => exact HC1.o); rintro e wz2 ⟨v434, rfl, ho0, hb⟩; refine ⟨_, rfl, ?_⟩; have _ := zK (Kd.R_below (Kd.qR HO432.o) hb); have _ := zK (Kd.S_lower ho0 (bZ (qB HB.o))); have _ := zK (bT (qB HB.o) hb); clear HO432 HB; rename_i HO432 HO435 HB; (try clear hb); (try clear hb2); (try clear hk); (try clear hi); (try clear ho0)) | ((with_reducible refine gate_callee (f := 26) rfl ?_); refine goesL_ (some 39) rfl rfl Try.func26 (by kernel_rfl) rfl #[.slice A2 l2.length c2] rfl M0 ?_; (with_reducible refine (laws_toFindS.calls k _ _ l2 t436 _ ?side1 ?side2 A15.o).mono ?_); (case side1 => exact Kd.qC (Kd.C_below HR2.o HB.o)); (case side2 => exact HC2.o); rintro e wz3 ⟨v437, rfl, ho0, hb⟩; refine ⟨_, rfl, ?_⟩; have _ := zK (Kd.R_below (Kd.qR HO432.o) hb); have _ := zK (Kd.S_below M2 hb); have _ := zK (Kd.R_lower ho0 (bZ (qB HB.o))); have _ := zK (bT (qB HB.o) hb); clear HO432 HO435 HB; rename_i HO432 HO435 HO438 HB; (try clear hb); (try clear hb2); (try clear hk); (try clear hi); (try clear ho0); obtain ⟨Aoz0, coz0, eoz0⟩ := Kd.R_slice HO432.o; subst eoz0; obtain ⟨Aoz1, coz1, eoz1⟩ := Kd.S_slice HO435.o; subst eoz1; obtain ⟨Aoz2, coz2, eoz2⟩ := Kd.R_slice HO438.o; subst eoz2) | ((with_reducible refine gate_callee (f := 73) rfl ?_); refine goesL_ (some 41) rfl rfl Try.func73 (by kernel_rfl) rfl #[.slice Aoz0 t430.length coz0, .slice Aoz1 t433.length coz1, .slice Aoz2 t436.length coz2, .int .i64 a3] rfl M0 ?_; (with_reducible refine (spec_LettersFor.calls k _ _ t430 _ _ t433 _ _ t436 a3 t439 _ ?side1 ?side2 ?side3 ?side4 ?side5 ?side6 A16.o).mono ?_); (case side1 => exact Kd.qC (Kd.R_reads' HO432.o).2.2); (case side2 => exact (Kd.R_reads' HO432.o).2.1); (case side3 => repeat (first | exact (Kd.S_reads' HO435.o).2.2 | (with_reducible refine Kd.CA ?_ _) | (with_reducible refine Kd.CN ?_ _) | (with_reducible refine Kd.CD ?_))); (case side4 => exact (Kd.S_reads' HO435.o).2.1); (case side5 => exact Kd.qC (Kd.R_reads' HO438.o).2.2); (case side6 => exact (Kd.R_reads' HO438.o).2.1); rintro e wz4 ⟨v440, rfl, ho0, hb⟩; refine ⟨_, rfl, ?_⟩; have _ := zK (Kd.R_elder' (Kd.qR HO432.o) (Kd.R_base ho0) hb); have _ := zK (Kd.S_below M2 hb); have _ := zK (Kd.R_below (Kd.qR HO438.o) hb); have _ := zK (Kd.R_lower (Kd.R_new' ho0 (Kd.R_lt (Kd.qR HO432.o))) (bZ (qB HB.o))); have _ := zK (bT (qB HB.o) hb); clear HO432 HO435 HO438 HB; rename_i HO432 HO435 HO438 HO441 HB; (try clear hb); (try clear hb2); (try clear hk); (try clear hi); (try clear ho0)) | ((with_reducible refine gate_callee (f := 74) rfl ?_); refine goesL_ (some 43) rfl rfl Try.func74 (by kernel_rfl) rfl #[.slice A0 l0.length c0] rfl M0 ?_; (with_reducible refine (laws_toLetterS.calls k _ _ l0 t442 _ ?side1 ?side2 A17.o).mono ?_); (case side1 => exact Kd.qC (Kd.C_below HR0.o HB.o)); (case side2 => exact HC0.o); rintro e wz5 ⟨v443, rfl, ho0, hb⟩; refine ⟨_, rfl, ?_⟩; have _ := zK (Kd.R_elder' (Kd.qR HO432.o) (Kd.R_base ho0) hb); have _ := zK (Kd.S_below M2 hb); have _ := zK (Kd.R_below (Kd.qR HO438.o) hb); have _ := zK (Kd.R_elder' (Kd.qR HO441.o) (Kd.R_base ho0) hb); have _ := zK (Kd.R_lower (Kd.R_new' (Kd.R_new' ho0 (Kd.R_lt (Kd.qR HO432.o))) (Kd.R_lt (Kd.qR HO441.o))) (bZ (qB HB.o))); have _ := zK (bT (qB HB.o) hb); clear HO432 HO435 HO438 HO441 HB; rename_i HO432 HO435 HO438 HO441 HO444 HB; (try clear hb); (try clear hb2); (try clear hk); (try clear hi); (try clear ho0)) | ((with_reducible refine gate_callee (f := 75) rfl ?_); refine goesL_ (some 45) rfl rfl Try.func75 (by kernel_rfl) rfl #[.slice A1 l1.length c1] rfl M0 ?_; (with_reducible refine (laws_toReportS.calls k _ _ l1 t445 _ ?side1 ?side2 A18.o).mono ?_); (case side1 => exact Kd.qC (Kd.C_below HR1.o HB.o)); (case side2 => exact HC1.o); rintro e wz6 ⟨v446, rfl, ho0, hb⟩; refine ⟨_, rfl, ?_⟩; have _ := zK (Kd.R_below (Kd.qR HO432.o) hb); have _ := zK (Kd.S_elder' M2 (Kd.S_base ho0) hb); have _ := zK (Kd.R_below (Kd.qR HO438.o) hb); have _ := zK (Kd.R_below (Kd.qR HO441.o) hb); have _ := zK (Kd.R_below (Kd.qR HO444.o) hb); have _ := zK (Kd.S_lower (Kd.S_new' ho0 (Kd.S_lt M2)) (bZ (qB HB.o))); have _ := zK (bT (qB HB.o) hb); clear HO432 HO435 HO438 HO441 HO444 HB; rename_i HO432 HO435 HO438 HO441 HO444 HO447 HB; (try clear hb); (try clear hb2); (try clear hk); (try clear hi); (try clear ho0)) | ((with_reducible refine gate_callee (f := 26) rfl ?_); refine goesL_ (some 47) rfl rfl Try.func26 (by kernel_rfl) rfl #[.slice A2 l2.length c2] rfl M0 ?_; (with_reducible refine (laws_toFindS.calls k _ _ l2 t448 _ ?side1 ?side2 A19.o).mono ?_); (case side1 => exact Kd.qC (Kd.C_below HR2.o HB.o)); (case side2 => exact HC2.o); rintro e wz7 ⟨v449, rfl, ho0, hb⟩; refine ⟨_, rfl, ?_⟩; have _ := zK (Kd.R_below (Kd.qR HO432.o) hb); have _ := zK (Kd.S_below M2 hb); have _ := zK (Kd.R_elder' (Kd.qR HO438.o) (Kd.R_base ho0) hb); have _ := zK (Kd.R_below (Kd.qR HO441.o) hb); have _ := zK (Kd.R_below (Kd.qR HO444.o) hb); have _ := zK (Kd.S_below M4 hb); have _ := zK (Kd.R_lower (Kd.R_new' ho0 (Kd.R_lt (Kd.qR HO438.o))) (bZ (qB HB.o))); have _ := zK (bT (qB HB.o) hb); clear HO432 HO435 HO438 HO441 HO444 HO447 HB; rename_i HO432 HO435 HO438 HO441 HO444 HO447 HO450 HB; (try clear hb); (try clear hb2); (try clear hk); (try clear hi); (try clear ho0); obtain ⟨Aoz3, coz3, eoz3⟩ := Kd.R_slice HO444.o; subst eoz3; obtain ⟨Aoz4, coz4, eoz4⟩ := Kd.S_slice HO447.o; subst eoz4; obtain ⟨Aoz5, coz5, eoz5⟩ := Kd.R_slice HO450.o; subst eoz5) | ((with_reducible refine gate_callee (f := 52) rfl ?_); refine goesL_ (some 52) rfl rfl Try.func52 (by kernel_rfl) rfl #[.slice Aoz3 t442.length coz3, .slice Aoz4 t445.length coz4, .slice Aoz5 t448.length coz5, .int .i64 a3] rfl M0 ?_; (with_reducible refine (impl_LettersFor.calls k _ _ t442 _ _ t445 _ _ t448 a3 t451 _ ?side1 ?side2 ?side3 ?side4 ?side5 ?side6 A20.o).mono ?_); (case side1 => exact Kd.qC (Kd.R_reads' HO444.o).2.2); (case side2 => exact (Kd.R_reads' HO444.o).2.1); (case side3 => repeat (first | exact (Kd.S_reads' HO447.o).2.2 | (with_reducible refine Kd.CA ?_ _) | (with_reducible refine Kd.CN ?_ _) | (with_reducible refine Kd.CD ?_))); (case side4 => exact (Kd.S_reads' HO447.o).2.1); (case side5 => exact Kd.qC (Kd.R_reads' HO450.o).2.2); (case side6 => exact (Kd.R_reads' HO450.o).2.1); rintro e wz8 ⟨v452, rfl, ho0, hb⟩; refine ⟨_, rfl, ?_⟩; have _ := zK (Kd.R_elder' (Kd.qR HO432.o) (Kd.Q_base ho0) hb); have _ := zK (Kd.S_below M2 hb); have _ := zK (Kd.R_below (Kd.qR HO438.o) hb); have _ := zK (Kd.R_elder' (Kd.qR HO441.o) (Kd.Q_base ho0) hb); have _ := zK (Kd.R_elder' (Kd.qR HO444.o) (Kd.Q_base ho0) hb); have _ := zK (Kd.S_below M4 hb); have _ := zK (Kd.R_below (Kd.qR HO450.o) hb); have _ := zK (Kd.Q_lower (Kd.Q_new' (Kd.Q_new' (Kd.Q_new' ho0 (Kd.R_lt (Kd.qR HO432.o))) (Kd.R_lt (Kd.qR HO441.o))) (Kd.R_lt (Kd.qR HO444.o))) (bZ (qB HB.o))); have _ := zK (bT (qB HB.o) hb); clear HO432 HO435 HO438 HO441 HO444 HO447 HO450 HB; rename_i HO432 HO435 HO438 HO441 HO444 HO447 HO450 HO453 HB; (try clear hb); (try clear hb2); (try clear hk); (try clear hi); (try clear ho0); obtain ⟨Aoz6, coz6, eoz6, _⟩ := Kd.Q_slice HO453.o; subst eoz6; obtain ⟨Aoz7, coz7, eoz7⟩ := Kd.R_slice HO441.o; subst eoz7) | ((with_reducible refine gate_callee (f := 76) rfl ?_); refine goesL_ (some 55) rfl rfl Try.func76 (by kernel_rfl) rfl #[.slice Aoz6 t451.length coz6, .slice Aoz7 t439.length coz7] rfl M0 ?_; (with_reducible refine (laws_eqLetterS.calls k _ _ t451 _ _ t439 true _ ?side1 ?side2 ?side3 ?side4 A21.o).mono ?_); (case side1 => repeat (first | exact (Kd.Q_reads' HO453.o).2.2 | (with_reducible refine Kd.CA ?_ _) | (with_reducible refine Kd.CN ?_ _) | (with_reducible refine Kd.CD ?_))); (case side2 => exact (Kd.Q_reads' HO453.o).2.1); (case side3 => exact Kd.qC (Kd.R_reads' HO441.o).2.2); (case side4 => exact (Kd.R_reads' HO441.o).2.1); rintro e wz9 ⟨rfl, hb⟩; refine ⟨_, rfl, ?_⟩; have _ := zK (Kd.R_below (Kd.qR HO432.o) hb); have _ := zK (Kd.S_below M2 hb); have _ := zK (Kd.R_below (Kd.qR HO438.o) hb); have _ := zK (Kd.R_below (Kd.qR HO441.o) hb); have _ := zK (Kd.R_below (Kd.qR HO444.o) hb); have _ := zK (Kd.S_below M4 hb); have _ := zK (Kd.R_below (Kd.qR HO450.o) hb); have _ := zK (Kd.Q_below M7 hb); have _ := zK (bT (qB HB.o) hb); clear HO432 HO435 HO438 HO441 HO444 HO447 HO450 HO453 HB; rename_i HO432 HO435 HO438 HO441 HO444 HO447 HO450 HO453 HB; (try clear hb); (try clear hb2); (try clear hk); (try clear hi)) | ((with_reducible refine gate_callee (f := 74) rfl ?_); refine goesL_ (some 59) rfl rfl Try.func74 (by kernel_rfl) rfl #[.slice A0 l0.length c0] rfl M0 ?_; (with_reducible refine (laws_toLetterS.calls k _ _ l0 t455 _ ?side1 ?side2 A23.o).mono ?_); (case side1 => exact Kd.qC (Kd.C_below HR0.o HB.o)); (case side2 => exact HC0.o); rintro e wz10 ⟨v456, rfl, ho0, hb⟩; refine ⟨_, rfl, ?_⟩; have _ := zK (Kd.R_elder' (Kd.qR HO432.o) (Kd.R_base ho0) hb); have _ := zK (Kd.S_below M2 hb); have _ := zK (Kd.R_below (Kd.qR HO438.o) hb); have _ := zK (Kd.R_elder' (Kd.qR HO441.o) (Kd.R_base ho0) hb); have _ := zK (Kd.R_elder' (Kd.qR HO444.o) (Kd.R_base ho0) hb); have _ := zK (Kd.S_below M4 hb); have _ := zK (Kd.R_below (Kd.qR HO450.o) hb); have _ := zK (Kd.Q_elder' M7 (Kd.R_base ho0) hb); have _ := zK (Kd.R_lower (Kd.R_new' (Kd.R_new' (Kd.R_new' (Kd.R_new' ho0 (Kd.R_lt (Kd.qR HO432.o))) (Kd.R_lt (Kd.qR HO441.o))) (Kd.R_lt (Kd.qR HO444.o))) (Kd.Q_lt M7)) (bZ (qB HB.o))); have _ := zK (bT (qB HB.o) hb); clear HO432 HO435 HO438 HO441 HO444 HO447 HO450 HO453 HB; rename_i HO432 HO435 HO438 HO441 HO444 HO447 HO450 HO453 HO457 HB; (try clear hb); (try clear hb2); (try clear hk); (try clear hi); (try clear ho0); obtain ⟨Aoz8, coz8, eoz8⟩ := Kd.R_slice HO457.o; subst eoz8) | ((with_reducible refine gate_callee (f := 76) rfl ?_); refine goesL_ (some 60) rfl rfl Try.func76 (by kernel_rfl) rfl #[.slice Aoz3 t442.length coz3, .slice Aoz8 t455.length coz8] rfl M0 ?_; (with_reducible refine (laws_eqLetterS.calls k _ _ t442 _ _ t455 true _ ?side1 ?side2 ?side3 ?side4 A24.o).mono ?_); (case side1 => exact Kd.qC (Kd.R_reads' HO444.o).2.2); (case side2 => exact (Kd.R_reads' HO444.o).2.1); (case side3 => exact Kd.qC (Kd.R_reads' HO457.o).2.2); (case side4 => exact (Kd.R_reads' HO457.o).2.1); rintro e wz11 ⟨rfl, hb⟩; refine ⟨_, rfl, ?_⟩; have _ := zK (Kd.R_below (Kd.qR HO432.o) hb); have _ := zK (Kd.S_below M2 hb); have _ := zK (Kd.R_below (Kd.qR HO438.o) hb); have _ := zK (Kd.R_below (Kd.qR HO441.o) hb); have _ := zK (Kd.R_below (Kd.qR HO444.o) hb); have _ := zK (Kd.S_below M4 hb); have _ := zK (Kd.R_below (Kd.qR HO450.o) hb); have _ := zK (Kd.Q_below M7 hb); have _ := zK (Kd.R_below (Kd.qR HO457.o) hb); have _ := zK (bT (qB HB.o) hb); clear HO432 HO435 HO438 HO441 HO444 HO447 HO450 HO453 HO457 HB; rename_i HO432 HO435 HO438 HO441 HO444 HO447 HO450 HO453 HO457 HB; (try clear hb); (try clear hb2); (try clear hk); (try clear hi)) | ((with_reducible refine gate_callee (f := 75) rfl ?_); refine goesL_ (some 64) rfl rfl Try.func75 (by kernel_rfl) rfl #[.slice A1 l1.length c1] rfl M0 ?_; (with_reducible refine (laws_toReportS.calls k _ _ l1 t459 _ ?side1 ?side2 A26.o).mono ?_); (case side1 => exact Kd.qC (Kd.C_below HR1.o HB.o)); (case side2 => exact HC1.o); rintro e wz12 ⟨v460, rfl, ho0, hb⟩; refine ⟨_, rfl, ?_⟩; have _ := zK (Kd.R_below (Kd.qR HO432.o) hb); have _ := zK (Kd.S_elder' M2 (Kd.S_base ho0) hb); have _ := zK (Kd.R_below (Kd.qR HO438.o) hb); have _ := zK (Kd.R_below (Kd.qR HO441.o) hb); have _ := zK (Kd.R_below (Kd.qR HO444.o) hb); have _ := zK (Kd.S_elder' M4 (Kd.S_base ho0) hb); have _ := zK (Kd.R_below (Kd.qR HO450.o) hb); have _ := zK (Kd.Q_below M7 hb); have _ := zK (Kd.R_below (Kd.qR HO457.o) hb); have _ := zK (Kd.S_lower (Kd.S_new' (Kd.S_new' ho0 (Kd.S_lt M2)) (Kd.S_lt M4)) (bZ (qB HB.o))); have _ := zK (bT (qB HB.o) hb); clear HO432 HO435 HO438 HO441 HO444 HO447 HO450 HO453 HO457 HB; rename_i HO432 HO435 HO438 HO441 HO444 HO447 HO450 HO453 HO457 HO461 HB; (try clear hb); (try clear hb2); (try clear hk); (try clear hi); (try clear ho0); obtain ⟨Aoz9, coz9, eoz9⟩ := Kd.S_slice HO461.o; subst eoz9) | ((with_reducible refine gate_callee (f := 77) rfl ?_); refine goesL_ (some 65) rfl rfl Try.func77 (by kernel_rfl) rfl #[.slice Aoz4 t445.length coz4, .slice Aoz9 t459.length coz9] rfl M0 ?_; (with_reducible refine (laws_eqReportS.calls k _ _ t445 _ _ t459 true _ ?side1 ?side2 ?side3 ?side4 A27.o).mono ?_); (case side1 => repeat (first | exact (Kd.S_reads' HO447.o).2.2 | (with_reducible refine Kd.CA ?_ _) | (with_reducible refine Kd.CN ?_ _) | (with_reducible refine Kd.CD ?_))); (case side2 => exact (Kd.S_reads' HO447.o).2.1); (case side3 => repeat (first | exact (Kd.S_reads' HO461.o).2.2 | (with_reducible refine Kd.CA ?_ _) | (with_reducible refine Kd.CN ?_ _) | (with_reducible refine Kd.CD ?_))); (case side4 => exact (Kd.S_reads' HO461.o).2.1); rintro e wz13 ⟨rfl, hb⟩; refine ⟨_, rfl, ?_⟩; have _ := zK (Kd.R_below (Kd.qR HO432.o) hb); have _ := zK (Kd.S_below M2 hb); have _ := zK (Kd.R_below (Kd.qR HO438.o) hb); have _ := zK (Kd.R_below (Kd.qR HO441.o) hb); have _ := zK (Kd.R_below (Kd.qR HO444.o) hb); have _ := zK (Kd.S_below M4 hb); have _ := zK (Kd.R_below (Kd.qR HO450.o) hb); have _ := zK (Kd.Q_below M7 hb); have _ := zK (Kd.R_below (Kd.qR HO457.o) hb); have _ := zK (Kd.S_below M28 hb); have _ := zK (bT (qB HB.o) hb); clear HO432 HO435 HO438 HO441 HO444 HO447 HO450 HO453 HO457 HO461 HB; rename_i HO432 HO435 HO438 HO441 HO444 HO447 HO450 HO453 HO457 HO461 HB; (try clear hb); (try clear hb2); (try clear hk); (try clear hi)) | ((with_reducible refine gate_callee (f := 26) rfl ?_); refine goesL_ (some 69) rfl rfl Try.func26 (by kernel_rfl) rfl #[.slice A2 l2.length c2] rfl M0 ?_; (with_reducible refine (laws_toFindS.calls k _ _ l2 t463 _ ?side1 ?side2 A29.o).mono ?_); (case side1 => exact Kd.qC (Kd.C_below HR2.o HB.o)); (case side2 => exact HC2.o); rintro e wz14 ⟨v464, rfl, ho0, hb⟩; refine ⟨_, rfl, ?_⟩; have _ := zK (Kd.R_below (Kd.qR HO432.o) hb); have _ := zK (Kd.S_below M2 hb); have _ := zK (Kd.R_elder' (Kd.qR HO438.o) (Kd.R_base ho0) hb); have _ := zK (Kd.R_below (Kd.qR HO441.o) hb); have _ := zK (Kd.R_below (Kd.qR HO444.o) hb); have _ := zK (Kd.S_below M4 hb); have _ := zK (Kd.R_elder' (Kd.qR HO450.o) (Kd.R_base ho0) hb); have _ := zK (Kd.Q_below M7 hb); have _ := zK (Kd.R_below (Kd.qR HO457.o) hb); have _ := zK (Kd.S_below M28 hb); have _ := zK (Kd.R_lower (Kd.R_new' (Kd.R_new' ho0 (Kd.R_lt (Kd.qR HO438.o))) (Kd.R_lt (Kd.qR HO450.o))) (bZ (qB HB.o))); have _ := zK (bT (qB HB.o) hb); clear HO432 HO435 HO438 HO441 HO444 HO447 HO450 HO453 HO457 HO461 HB; rename_i HO432 HO435 HO438 HO441 HO444 HO447 HO450 HO453 HO457 HO461 HO465 HB; (try clear hb); (try clear hb2); (try clear hk); (try clear hi); (try clear ho0); obtain ⟨Aoz10, coz10, eoz10⟩ := Kd.R_slice HO465.o; subst eoz10) | ((with_reducible refine gate_callee (f := 29) rfl ?_); refine goesL_ (some 70) rfl rfl Try.func29 (by kernel_rfl) rfl #[.slice Aoz5 t448.length coz5, .slice Aoz10 t463.length coz10] rfl M0 ?_; (with_reducible refine (laws_eqFindS.calls k _ _ t448 _ _ t463 false _ ?side1 ?side2 ?side3 ?side4 A30.o).mono ?_); (case side1 => exact Kd.qC (Kd.R_reads' HO450.o).2.2); (case side2 => exact (Kd.R_reads' HO450.o).2.1); (case side3 => exact Kd.qC (Kd.R_reads' HO465.o).2.2); (case side4 => exact (Kd.R_reads' HO465.o).2.1); rintro e wz15 ⟨rfl, hb⟩; refine ⟨_, rfl, ?_⟩; have _ := zK (Kd.R_below (Kd.qR HO432.o) hb); have _ := zK (Kd.S_below M2 hb); have _ := zK (Kd.R_below (Kd.qR HO438.o) hb); have _ := zK (Kd.R_below (Kd.qR HO441.o) hb); have _ := zK (Kd.R_below (Kd.qR HO444.o) hb); have _ := zK (Kd.S_below M4 hb); have _ := zK (Kd.R_below (Kd.qR HO450.o) hb); have _ := zK (Kd.Q_below M7 hb); have _ := zK (Kd.R_below (Kd.qR HO457.o) hb); have _ := zK (Kd.S_below M28 hb); have _ := zK (Kd.R_below (Kd.qR HO465.o) hb); have _ := zK (bT (qB HB.o) hb); clear HO432 HO435 HO438 HO441 HO444 HO447 HO450 HO453 HO457 HO461 HO465 HB; rename_i HO432 HO435 HO438 HO441 HO444 HO447 HO450 HO453 HO457 HO461 HO465 HB; (try clear hb); (try clear hb2); (try clear hk); (try clear hi)) | ((with_reducible refine gate_callee (f := 77) rfl ?_); refine goesL_ (some 65) rfl rfl Try.func77 (by kernel_rfl) rfl #[.slice Aoz4 t445.length coz4, .slice Aoz9 t459.length coz9] rfl M0 ?_; (with_reducible refine (laws_eqReportS.calls k _ _ t445 _ _ t459 false _ ?side1 ?side2 ?side3 ?side4 A27.o).mono ?_); (case side1 => repeat (first | exact (Kd.S_reads' HO447.o).2.2 | (with_reducible refine Kd.CA ?_ _) | (with_reducible refine Kd.CN ?_ _) | (with_reducible refine Kd.CD ?_))); (case side2 => exact (Kd.S_reads' HO447.o).2.1); (case side3 => repeat (first | exact (Kd.S_reads' HO461.o).2.2 | (with_reducible refine Kd.CA ?_ _) | (with_reducible refine Kd.CN ?_ _) | (with_reducible refine Kd.CD ?_))); (case side4 => exact (Kd.S_reads' HO461.o).2.1); rintro e wz13 ⟨rfl, hb⟩; refine ⟨_, rfl, ?_⟩; have _ := zK (Kd.R_below (Kd.qR HO432.o) hb); have _ := zK (Kd.S_below M2 hb); have _ := zK (Kd.R_below (Kd.qR HO438.o) hb); have _ := zK (Kd.R_below (Kd.qR HO441.o) hb); have _ := zK (Kd.R_below (Kd.qR HO444.o) hb); have _ := zK (Kd.S_below M4 hb); have _ := zK (Kd.R_below (Kd.qR HO450.o) hb); have _ := zK (Kd.Q_below M7 hb); have _ := zK (Kd.R_below (Kd.qR HO457.o) hb); have _ := zK (Kd.S_below M28 hb); have _ := zK (bT (qB HB.o) hb); clear HO432 HO435 HO438 HO441 HO444 HO447 HO450 HO453 HO457 HO461 HB; rename_i HO432 HO435 HO438 HO441 HO444 HO447 HO450 HO453 HO457 HO461 HB; (try clear hb); (try clear hb2); (try clear hk); (try clear hi)) | ((with_reducible refine gate_callee (f := 76) rfl ?_); refine goesL_ (some 60) rfl rfl Try.func76 (by kernel_rfl) rfl #[.slice Aoz3 t442.length coz3, .slice Aoz8 t455.length coz8] rfl M0 ?_; (with_reducible refine (laws_eqLetterS.calls k _ _ t442 _ _ t455 false _ ?side1 ?side2 ?side3 ?side4 A24.o).mono ?_); (case side1 => exact Kd.qC (Kd.R_reads' HO444.o).2.2); (case side2 => exact (Kd.R_reads' HO444.o).2.1); (case side3 => exact Kd.qC (Kd.R_reads' HO457.o).2.2); (case side4 => exact (Kd.R_reads' HO457.o).2.1); rintro e wz11 ⟨rfl, hb⟩; refine ⟨_, rfl, ?_⟩; have _ := zK (Kd.R_below (Kd.qR HO432.o) hb); have _ := zK (Kd.S_below M2 hb); have _ := zK (Kd.R_below (Kd.qR HO438.o) hb); have _ := zK (Kd.R_below (Kd.qR HO441.o) hb); have _ := zK (Kd.R_below (Kd.qR HO444.o) hb); have _ := zK (Kd.S_below M4 hb); have _ := zK (Kd.R_below (Kd.qR HO450.o) hb); have _ := zK (Kd.Q_below M7 hb); have _ := zK (Kd.R_below (Kd.qR HO457.o) hb); have _ := zK (bT (qB HB.o) hb); clear HO432 HO435 HO438 HO441 HO444 HO447 HO450 HO453 HO457 HB; rename_i HO432 HO435 HO438 HO441 HO444 HO447 HO450 HO453 HO457 HB; (try clear hb); (try clear hb2); (try clear hk); (try clear hi)) | ((with_reducible refine gate_callee (f := 76) rfl ?_); refine goesL_ (some 55) rfl rfl Try.func76 (by kernel_rfl) rfl #[.slice Aoz6 t451.length coz6, .slice Aoz7 t439.length coz7] rfl M0 ?_; (with_reducible refine (laws_eqLetterS.calls k _ _ t451 _ _ t439 false _ ?side1 ?side2 ?side3 ?side4 A21.o).mono ?_); (case side1 => repeat (first | exact (Kd.Q_reads' HO453.o).2.2 | (with_reducible refine Kd.CA ?_ _) | (with_reducible refine Kd.CN ?_ _) | (with_reducible refine Kd.CD ?_))); (case side2 => exact (Kd.Q_reads' HO453.o).2.1); (case side3 => exact Kd.qC (Kd.R_reads' HO441.o).2.2); (case side4 => exact (Kd.R_reads' HO441.o).2.1); rintro e wz9 ⟨rfl, hb⟩; refine ⟨_, rfl, ?_⟩; have _ := zK (Kd.R_below (Kd.qR HO432.o) hb); have _ := zK (Kd.S_below M2 hb); have _ := zK (Kd.R_below (Kd.qR HO438.o) hb); have _ := zK (Kd.R_below (Kd.qR HO441.o) hb); have _ := zK (Kd.R_below (Kd.qR HO444.o) hb); have _ := zK (Kd.S_below M4 hb); have _ := zK (Kd.R_below (Kd.qR HO450.o) hb); have _ := zK (Kd.Q_below M7 hb); have _ := zK (bT (qB HB.o) hb); clear HO432 HO435 HO438 HO441 HO444 HO447 HO450 HO453 HB; rename_i HO432 HO435 HO438 HO441 HO444 HO447 HO450 HO453 HB; (try clear hb); (try clear hb2); (try clear hk); (try clear hi)))
  go_ret
  exact ⟨by first | rfl | (simp [errW_none, errW_some] <;> rfl) | (simp [*, errW_none, errW_some] <;> rfl), by exact qB HB.o⟩) : p := h
set_option maxRecDepth 100000 in
theorem lf24_1 {p : Prop} (h : p := by
  go_wp2_with (first | ((with_reducible refine gate_callee (f := 78) rfl ?_); refine goesL_ (some 91) rfl rfl Try.func78 (by kernel_rfl) rfl #[.slice Ao51 t451.length co51, .int .i64 1] rfl M0 ?_; (with_reducible refine (laws_markLetterS.callsQ kj34 (fun k_ => some k_ = (.slice Ao51 t451.length co51 : Value).ownBlock) (.slice Ao51 t451.length co51) t451 1 t473 t474 w _ ?side1 ?side2 A70.o).mono ?_); (case side1 => repeat (first | (with_reducible first | exact HB.o | apply bA | apply bN | apply below_drew1) | exact HB.o)); (case side2 => exact Kd.Q_tight rfl HO_14.o); rintro e wz0 ⟨rfl, hy0, hb, hkp⟩; refine ⟨_, rfl, ?_⟩; have _ := zK (Kd.R_mono (ok' := fun k_ => some k_ ≠ (.slice Ao51 t451.length co51 : Value).ownBlock) (Kd.R_keptB (HO_10.o) hkp (fun k_ hk_ hs_ => (hk_) hs_)) (fun k_ hk_ => hk_.1)); have _ := zK (Kd.Q_reok rfl hy0 (fun k_ e_ => Kd.Q_ok HO_14.o k_ e_)); have _ := zK (hb); clear HO_10 HO_14 HB; rename_i HO_10 HO_14 HB; (try clear hb); (try clear hkp); (try clear hy0)) | ((with_reducible refine gate_callee (f := 80) rfl ?_); refine goesL_ (some 94) rfl rfl Try.func80 (by kernel_rfl) rfl #[.slice Ao51 t474.length co51, .int .i64 1] rfl M12 ?_; (with_reducible refine (laws_heldLetterS.calls kj34 _ _ t474 1 t475 _ ?side1 ?side2 A71.o).mono ?_); (case side1 => repeat (first | exact (Kd.Q_reads' HO_14.o).2.2 | (with_reducible refine Kd.CA ?_ _) | (with_reducible refine Kd.CN ?_ _) | (with_reducible refine Kd.CD ?_))); (case side2 => rw [show t474.length = t451.length from (Kd.Q_reads' HO_14.o).1.symm]; exact (Kd.Q_reads' HO_14.o).2.1); rintro e w' ⟨rfl, ⟨nd, rfl⟩⟩; refine ⟨_, rfl, ?_⟩) | ((with_reducible refine gate_callee (f := 74) rfl ?_); refine goesL_ (some 101) rfl rfl Try.func74 (by kernel_rfl) rfl #[.slice A0 l0.length c0] rfl M0 ?_; (with_reducible refine (laws_toLetterS.calls kj34 _ _ l0 t476 _ ?side1 ?side2 A75.o).mono ?_); (case side1 => repeat (first | exact (Kd.C_below HR0.o (qB HB.o)) | (with_reducible refine Kd.CA ?_ _) | (with_reducible refine Kd.CN ?_ _) | (with_reducible refine Kd.CD ?_))); (case side2 => exact HC0.o); rintro e wz1 ⟨v477, rfl, ho0, hb⟩; refine ⟨_, rfl, ?_⟩; have _ := zK (Kd.R_elder' (Kd.qR HO_10.o) (Kd.R_base ho0) hb); have _ := zK (Kd.Q_elder' M8 (Kd.R_base ho0) hb); have _ := zK (Kd.R_lower (Kd.R_new' (Kd.R_new' ho0 (Kd.R_lt (Kd.qR HO_10.o))) (Kd.Q_lt M8)) (bZ (qB HB.o))); have _ := zK (bT (qB HB.o) hb); clear HO_10 HO_14 HB; rename_i HO_10 HO_14 HO478 HB; (try clear hb); (try clear hb2); (try clear hk); (try clear hi); (try clear ho0)) | ((with_reducible refine gate_callee (f := 75) rfl ?_); refine goesL_ (some 103) rfl rfl Try.func75 (by kernel_rfl) rfl #[.slice A1 l1.length c1] rfl M0 ?_; (with_reducible refine (laws_toReportS.calls kj34 _ _ l1 t479 _ ?side1 ?side2 A76.o).mono ?_); (case side1 => exact Kd.qC (Kd.C_below HR1.o HB.o)); (case side2 => exact HC1.o); rintro e wz2 ⟨v480, rfl, ho0, hb⟩; refine ⟨_, rfl, ?_⟩; have _ := zK (Kd.R_below (Kd.qR HO_10.o) hb); have _ := zK (Kd.Q_below M8 hb); have _ := zK (Kd.R_below (Kd.qR HO478.o) hb); have _ := zK (Kd.S_lower ho0 (bZ (qB HB.o))); have _ := zK (bT (qB HB.o) hb); clear HO_10 HO_14 HO478 HB; rename_i HO_10 HO_14 HO478 HO481 HB; (try clear hb); (try clear hb2); (try clear hk); (try clear hi); (try clear ho0)) | ((with_reducible refine gate_callee (f := 26) rfl ?_); refine goesL_ (some 105) rfl rfl Try.func26 (by kernel_rfl) rfl #[.slice A2 l2.length c2] rfl M0 ?_; (with_reducible refine (laws_toFindS.calls kj34 _ _ l2 t482 _ ?side1 ?side2 A77.o).mono ?_); (case side1 => exact Kd.qC (Kd.C_below HR2.o HB.o)); (case side2 => exact HC2.o); rintro e wz3 ⟨v483, rfl, ho0, hb⟩; refine ⟨_, rfl, ?_⟩; have _ := zK (Kd.R_below (Kd.qR HO_10.o) hb); have _ := zK (Kd.Q_below M8 hb); have _ := zK (Kd.R_below (Kd.qR HO478.o) hb); have _ := zK (Kd.S_below M21 hb); have _ := zK (Kd.R_lower ho0 (bZ (qB HB.o))); have _ := zK (bT (qB HB.o) hb); clear HO_10 HO_14 HO478 HO481 HB; rename_i HO_10 HO_14 HO478 HO481 HO484 HB; (try clear hb); (try clear hb2); (try clear hk); (try clear hi); (try clear ho0); obtain ⟨Aoz0, coz0, eoz0⟩ := Kd.R_slice HO478.o; subst eoz0; obtain ⟨Aoz1, coz1, eoz1⟩ := Kd.S_slice HO481.o; subst eoz1; obtain ⟨Aoz2, coz2, eoz2⟩ := Kd.R_slice HO484.o; subst eoz2) | ((with_reducible refine gate_callee (f := 52) rfl ?_); refine goesL_ (some 107) rfl rfl Try.func52 (by kernel_rfl) rfl #[.slice Aoz0 t476.length coz0, .slice Aoz1 t479.length coz1, .slice Aoz2 t482.length coz2, .int .i64 a3] rfl M0 ?_; (with_reducible refine (impl_LettersFor.calls kj34 _ _ t476 _ _ t479 _ _ t482 a3 t485 _ ?side1 ?side2 ?side3 ?side4 ?side5 ?side6 A78.o).mono ?_); (case side1 => exact Kd.qC (Kd.R_reads' HO478.o).2.2); (case side2 => exact (Kd.R_reads' HO478.o).2.1); (case side3 => repeat (first | exact (Kd.S_reads' HO481.o).2.2 | (with_reducible refine Kd.CA ?_ _) | (with_reducible refine Kd.CN ?_ _) | (with_reducible refine Kd.CD ?_))); (case side4 => exact (Kd.S_reads' HO481.o).2.1); (case side5 => exact Kd.qC (Kd.R_reads' HO484.o).2.2); (case side6 => exact (Kd.R_reads' HO484.o).2.1); rintro e wz4 ⟨v486, rfl, ho0, hb⟩; refine ⟨_, rfl, ?_⟩; have _ := zK (Kd.R_elder' (Kd.qR HO_10.o) (Kd.Q_base ho0) hb); have _ := zK (Kd.Q_elder' M8 (Kd.Q_base ho0) hb); have _ := zK (Kd.R_elder' (Kd.qR HO478.o) (Kd.Q_base ho0) hb); have _ := zK (Kd.S_below M21 hb); have _ := zK (Kd.R_below (Kd.qR HO484.o) hb); have _ := zK (Kd.Q_lower (Kd.Q_new' (Kd.Q_new' (Kd.Q_new' ho0 (Kd.R_lt (Kd.qR HO_10.o))) (Kd.Q_lt M8)) (Kd.R_lt (Kd.qR HO478.o))) (bZ (qB HB.o))); have _ := zK (bT (qB HB.o) hb); clear HO_10 HO_14 HO478 HO481 HO484 HB; rename_i HO_10 HO_14 HO478 HO481 HO484 HO487 HB; (try clear hb); (try clear hb2); (try clear hk); (try clear hi); (try clear ho0); obtain ⟨Aoz3, coz3, eoz3, _⟩ := Kd.Q_slice HO487.o; subst eoz3) | ((with_reducible refine gate_callee (f := 76) rfl ?_); refine goesL_ (some 110) rfl rfl Try.func76 (by kernel_rfl) rfl #[.slice Aoz3 t485.length coz3, .slice Ao52 t439.length co52] rfl M0 ?_; (with_reducible refine (laws_eqLetterS.calls kj34 _ _ t485 _ _ t439 true _ ?side1 ?side2 ?side3 ?side4 A79.o).mono ?_); (case side1 => repeat (first | exact (Kd.Q_reads' HO487.o).2.2 | (with_reducible refine Kd.CA ?_ _) | (with_reducible refine Kd.CN ?_ _) | (with_reducible refine Kd.CD ?_))); (case side2 => exact (Kd.Q_reads' HO487.o).2.1); (case side3 => exact Kd.qC (Kd.R_reads' HO_10.o).2.2); (case side4 => exact (Kd.R_reads' HO_10.o).2.1); rintro e wz5 ⟨rfl, hb⟩; refine ⟨_, rfl, ?_⟩; have _ := zK (Kd.R_below (Kd.qR HO_10.o) hb); have _ := zK (Kd.Q_below M8 hb); have _ := zK (Kd.R_below (Kd.qR HO478.o) hb); have _ := zK (Kd.S_below M21 hb); have _ := zK (Kd.R_below (Kd.qR HO484.o) hb); have _ := zK (Kd.Q_below (by (with_reducible repeat (first | apply Kd.Q_alloc | apply Kd.Q_drewN | apply Kd.Q_drew)); exact HO487.o) hb); have _ := zK (bT (qB HB.o) hb); clear HO_10 HO_14 HO478 HO481 HO484 HO487 HB; rename_i HO_10 HO_14 HO478 HO481 HO484 HO487 HB; (try clear hb); (try clear hb2); (try clear hk); (try clear hi)) | ((with_reducible refine gate_callee (f := 80) rfl ?_); refine goesL_ (some 114) rfl rfl Try.func80 (by kernel_rfl) rfl #[.slice Ao51 t474.length co51, .int .i64 1] rfl M12 ?_; (with_reducible refine (laws_heldLetterS.calls kj34 _ _ t474 1 t489 _ ?side1 ?side2 A81.o).mono ?_); (case side1 => repeat (first | exact (Kd.Q_reads' HO_14.o).2.2 | (with_reducible refine Kd.CA ?_ _) | (with_reducible refine Kd.CN ?_ _) | (with_reducible refine Kd.CD ?_))); (case side2 => rw [show t474.length = t451.length from (Kd.Q_reads' HO_14.o).1.symm]; exact (Kd.Q_reads' HO_14.o).2.1); rintro e w' ⟨rfl, ⟨nd, rfl⟩⟩; refine ⟨_, rfl, ?_⟩) | ((with_reducible refine gate_callee (f := 76) rfl ?_); refine goesL_ (some 110) rfl rfl Try.func76 (by kernel_rfl) rfl #[.slice Aoz3 t485.length coz3, .slice Ao52 t439.length co52] rfl M0 ?_; (with_reducible refine (laws_eqLetterS.calls kj34 _ _ t485 _ _ t439 false _ ?side1 ?side2 ?side3 ?side4 A79.o).mono ?_); (case side1 => repeat (first | exact (Kd.Q_reads' HO487.o).2.2 | (with_reducible refine Kd.CA ?_ _) | (with_reducible refine Kd.CN ?_ _) | (with_reducible refine Kd.CD ?_))); (case side2 => exact (Kd.Q_reads' HO487.o).2.1); (case side3 => exact Kd.qC (Kd.R_reads' HO_10.o).2.2); (case side4 => exact (Kd.R_reads' HO_10.o).2.1); rintro e wz5 ⟨rfl, hb⟩; refine ⟨_, rfl, ?_⟩; have _ := zK (Kd.R_below (Kd.qR HO_10.o) hb); have _ := zK (Kd.Q_below M8 hb); have _ := zK (Kd.R_below (Kd.qR HO478.o) hb); have _ := zK (Kd.S_below M21 hb); have _ := zK (Kd.R_below (Kd.qR HO484.o) hb); have _ := zK (Kd.Q_below (by (with_reducible repeat (first | apply Kd.Q_alloc | apply Kd.Q_drewN | apply Kd.Q_drew)); exact HO487.o) hb); have _ := zK (bT (qB HB.o) hb); clear HO_10 HO_14 HO478 HO481 HO484 HO487 HB; rename_i HO_10 HO_14 HO478 HO481 HO484 HO487 HB; (try clear hb); (try clear hb2); (try clear hk); (try clear hi)))
  go_ret
  exact ⟨by first | rfl | (simp [errW_none, errW_some] <;> rfl) | (simp [*, errW_none, errW_some] <;> rfl), by exact qB HB.o⟩) : p := h
set_option maxHeartbeats 8000000 in
set_option maxRecDepth 100000 in
theorem laws_FnExactLettersFor.calls (k : Nat) (A0 : Option Addr) (c0 : Nat) (l0 : List (S173)) (A1 : Option Addr) (c1 : Nat) (l1 : List (S171)) (A2 : Option Addr) (c2 : Nat) (l2 : List (S130)) (a3 : Int) (r : Bool) (w : World) (hr0 : Kd.C k173 w A0 l0.length l0) (hc0 : l0.length ≤ c0) (hr1 : Kd.C k171 w A1 l1.length l1) (hc1 : l1.length ≤ c1) (hr2 : Kd.C k130 w A2 l2.length l2) (hc2 : l2.length ≤ c2) (h : laws_FnExactLettersFor.f k l0 l1 l2 a3 = some r) :
  Calls Try.prog 11 #[.slice A0 l0.length c0, .slice A1 l1.length c1, .slice A2 l2.length c2, .int .i64 a3] w fun e w' => e = .returned (.bool r) ∧ Below w.heap.size w w' := by
 have HR0 := zK hr0
 have HC0 := zK hc0
 clear hr0 hc0
 have HR1 := zK hr1
 have HC1 := zK hc1
 clear hr1 hc1
 have HR2 := zK hr2
 have HC2 := zK hc2
 clear hr2 hc2
 have HB := zK (Below.refl w.heap.size w)
 have H : ((laws_szLetterS.f l0 1048576).bind fun t427 => (if t427 < 0 then (some true) else ((laws_szReportS.f k l1 t427).bind fun t428 => (if t428 < 0 then (some true) else ((laws_szFindS.f l2 t428).bind fun t429 => (if t429 < 0 then (some true) else ((laws_toLetterS.f k l0).bind fun t430 => ((laws_toReportS.f k l1).bind fun t433 => ((laws_toFindS.f k l2).bind fun t436 => ((spec_LettersFor.f k t430 t433 t436 a3).bind fun t439 => ((laws_toLetterS.f k l0).bind fun t442 => ((laws_toReportS.f k l1).bind fun t445 => ((laws_toFindS.f k l2).bind fun t448 => ((impl_LettersFor.f k t442 t445 t448 a3).bind fun t451 => ((laws_eqLetterS.f k t451 t439).bind fun t454 => (if t454 = true then ((laws_toLetterS.f k l0).bind fun t455 => ((laws_eqLetterS.f k t442 t455).bind fun t458 => (if t458 = true then ((laws_toReportS.f k l1).bind fun t459 => ((laws_eqReportS.f k t445 t459).bind fun t462 => (if t462 = true then ((laws_toFindS.f k l2).bind fun t463 => ((laws_eqFindS.f k t448 t463).bind fun t466 => (if t466 = true then ((laws_markLetterS.f k t442 1).bind fun bt467 => ((laws_markReportS.f k t445 bt467.1).bind fun t469 => ((laws_markFindS.f k t448 t469).bind fun bt470 => (if bt470.1 < 0 then (laws_FnExactLettersFor.j0 k l0 l1 l2 a3 t439 t451 true) else ((laws_eqLetterS.f k t451 t439).bind fun t472 => (laws_FnExactLettersFor.j0 k l0 l1 l2 a3 t439 t451 (!t472))))))) else (some false)))) else (some false)))) else (some false)))) else (some false))))))))))))))))) = some r := h
 clear h
 replace H := Option.bind_eq_some_iff.mp H
 obtain ⟨t427, A50, H⟩ := H
 try dsimp only at H
 have A5 := zK A50
 clear A50
 by_cases c6 : t427 < 0
 ·rw [if_pos c6] at H
  have c6b0 : decide (t427 < 0) = true := decide_eq_true c6
  clear c6
  obtain rfl := Option.some.inj H
  exact lf24_0
 rw [if_neg c6] at H
 have c6b0 : decide (t427 < 0) = false := decide_eq_false c6
 clear c6
 replace H := Option.bind_eq_some_iff.mp H
 obtain ⟨t428, A70, H⟩ := H
 try dsimp only at H
 have A7 := zK A70
 clear A70
 by_cases c8 : t428 < 0
 ·rw [if_pos c8] at H
  have c8b0 : decide (t428 < 0) = true := decide_eq_true c8
  clear c8
  obtain rfl := Option.some.inj H
  exact lf24_0
 rw [if_neg c8] at H
 have c8b0 : decide (t428 < 0) = false := decide_eq_false c8
 clear c8
 replace H := Option.bind_eq_some_iff.mp H
 obtain ⟨t429, A100, H⟩ := H
 try dsimp only at H
 have A10 := zK A100
 clear A100
 by_cases c11 : t429 < 0
 ·rw [if_pos c11] at H
  have c11b0 : decide (t429 < 0) = true := decide_eq_true c11
  clear c11
  obtain rfl := Option.some.inj H
  exact lf24_0
 rw [if_neg c11] at H
 have c11b0 : decide (t429 < 0) = false := decide_eq_false c11
 clear c11
 replace H := Option.bind_eq_some_iff.mp H
 obtain ⟨t430, A130, H⟩ := H
 try dsimp only at H
 have A13 := zK A130
 clear A130
 replace H := Option.bind_eq_some_iff.mp H
 obtain ⟨t433, A140, H⟩ := H
 try dsimp only at H
 have A14 := zK A140
 clear A140
 replace H := Option.bind_eq_some_iff.mp H
 obtain ⟨t436, A150, H⟩ := H
 try dsimp only at H
 have A15 := zK A150
 clear A150
 replace H := Option.bind_eq_some_iff.mp H
 obtain ⟨t439, A160, H⟩ := H
 try dsimp only at H
 have A16 := zK A160
 clear A160
 replace H := Option.bind_eq_some_iff.mp H
 obtain ⟨t442, A170, H⟩ := H
 try dsimp only at H
 have A17 := zK A170
 clear A170
 replace H := Option.bind_eq_some_iff.mp H
 obtain ⟨t445, A180, H⟩ := H
 try dsimp only at H
 have A18 := zK A180
 clear A180
 replace H := Option.bind_eq_some_iff.mp H
 obtain ⟨t448, A190, H⟩ := H
 try dsimp only at H
 have A19 := zK A190
 clear A190
 replace H := Option.bind_eq_some_iff.mp H
 obtain ⟨t451, A200, H⟩ := H
 try dsimp only at H
 have A20 := zK A200
 clear A200
 replace H := Option.bind_eq_some_iff.mp H
 obtain ⟨t454, A210, H⟩ := H
 try dsimp only at H
 have A21 := zK A210
 clear A210
 by_cases c22 : t454 = true
 rotate_left
 ·replace c22 := Bool.eq_false_iff.mpr c22
  subst c22
  have H1 : (some false) = some r := by rw [if_neg (show ¬ (false = true) by decide)] at H; exact H
  clear H
  have H := H1
  clear H1
  obtain rfl := Option.some.inj H
  exact lf24_0

 subst c22
 have H1 : ((laws_toLetterS.f k l0).bind fun t455 => ((laws_eqLetterS.f k t442 t455).bind fun t458 => (if t458 = true then ((laws_toReportS.f k l1).bind fun t459 => ((laws_eqReportS.f k t445 t459).bind fun t462 => (if t462 = true then ((laws_toFindS.f k l2).bind fun t463 => ((laws_eqFindS.f k t448 t463).bind fun t466 => (if t466 = true then ((laws_markLetterS.f k t442 1).bind fun bt467 => ((laws_markReportS.f k t445 bt467.1).bind fun t469 => ((laws_markFindS.f k t448 t469).bind fun bt470 => (if bt470.1 < 0 then (laws_FnExactLettersFor.j0 k l0 l1 l2 a3 t439 t451 true) else ((laws_eqLetterS.f k t451 t439).bind fun t472 => (laws_FnExactLettersFor.j0 k l0 l1 l2 a3 t439 t451 (!t472))))))) else (some false)))) else (some false)))) else (some false)))) = some r := by rw [if_pos rfl] at H; exact H
 clear H
 have H := H1
 clear H1
 replace H := Option.bind_eq_some_iff.mp H
 obtain ⟨t455, A230, H⟩ := H
 try dsimp only at H
 have A23 := zK A230
 clear A230
 replace H := Option.bind_eq_some_iff.mp H
 obtain ⟨t458, A240, H⟩ := H
 try dsimp only at H
 have A24 := zK A240
 clear A240
 by_cases c25 : t458 = true
 rotate_left
 ·replace c25 := Bool.eq_false_iff.mpr c25
  subst c25
  have H1 : (some false) = some r := by rw [if_neg (show ¬ (false = true) by decide)] at H; exact H
  clear H
  have H := H1
  clear H1
  obtain rfl := Option.some.inj H
  exact lf24_0
 subst c25
 have H1 : ((laws_toReportS.f k l1).bind fun t459 => ((laws_eqReportS.f k t445 t459).bind fun t462 => (if t462 = true then ((laws_toFindS.f k l2).bind fun t463 => ((laws_eqFindS.f k t448 t463).bind fun t466 => (if t466 = true then ((laws_markLetterS.f k t442 1).bind fun bt467 => ((laws_markReportS.f k t445 bt467.1).bind fun t469 => ((laws_markFindS.f k t448 t469).bind fun bt470 => (if bt470.1 < 0 then (laws_FnExactLettersFor.j0 k l0 l1 l2 a3 t439 t451 true) else ((laws_eqLetterS.f k t451 t439).bind fun t472 => (laws_FnExactLettersFor.j0 k l0 l1 l2 a3 t439 t451 (!t472))))))) else (some false)))) else (some false)))) = some r := by rw [if_pos rfl] at H; exact H
 clear H
 have H := H1
 clear H1
 replace H := Option.bind_eq_some_iff.mp H
 obtain ⟨t459, A260, H⟩ := H
 try dsimp only at H
 have A26 := zK A260
 clear A260
 replace H := Option.bind_eq_some_iff.mp H
 obtain ⟨t462, A270, H⟩ := H
 try dsimp only at H
 have A27 := zK A270
 clear A270
 by_cases c28 : t462 = true
 rotate_left
 ·replace c28 := Bool.eq_false_iff.mpr c28
  subst c28
  have H1 : (some false) = some r := by rw [if_neg (show ¬ (false = true) by decide)] at H; exact H
  clear H
  have H := H1
  clear H1
  obtain rfl := Option.some.inj H
  exact lf24_0
 subst c28
 have H1 : ((laws_toFindS.f k l2).bind fun t463 => ((laws_eqFindS.f k t448 t463).bind fun t466 => (if t466 = true then ((laws_markLetterS.f k t442 1).bind fun bt467 => ((laws_markReportS.f k t445 bt467.1).bind fun t469 => ((laws_markFindS.f k t448 t469).bind fun bt470 => (if bt470.1 < 0 then (laws_FnExactLettersFor.j0 k l0 l1 l2 a3 t439 t451 true) else ((laws_eqLetterS.f k t451 t439).bind fun t472 => (laws_FnExactLettersFor.j0 k l0 l1 l2 a3 t439 t451 (!t472))))))) else (some false)))) = some r := by rw [if_pos rfl] at H; exact H
 clear H
 have H := H1
 clear H1
 replace H := Option.bind_eq_some_iff.mp H
 obtain ⟨t463, A290, H⟩ := H
 try dsimp only at H
 have A29 := zK A290
 clear A290
 replace H := Option.bind_eq_some_iff.mp H
 obtain ⟨t466, A300, H⟩ := H
 try dsimp only at H
 have A30 := zK A300
 clear A300
 by_cases c31 : t466 = true
 rotate_left
 ·replace c31 := Bool.eq_false_iff.mpr c31
  subst c31
  have H1 : (some false) = some r := by rw [if_neg (show ¬ (false = true) by decide)] at H; exact H
  clear H
  have H := H1
  clear H1
  obtain rfl := Option.some.inj H
  exact lf24_0
 subst c31
 have H1 : ((laws_markLetterS.f k t442 1).bind fun bt467 => ((laws_markReportS.f k t445 bt467.1).bind fun t469 => ((laws_markFindS.f k t448 t469).bind fun bt470 => (if bt470.1 < 0 then (laws_FnExactLettersFor.j0 k l0 l1 l2 a3 t439 t451 true) else ((laws_eqLetterS.f k t451 t439).bind fun t472 => (laws_FnExactLettersFor.j0 k l0 l1 l2 a3 t439 t451 (!t472))))))) = some r := by rw [if_pos rfl] at H; exact H
 clear H
 have H := H1
 clear H1
 replace H := Option.bind_eq_some_iff.mp H
 obtain ⟨⟨t467, t468⟩, A320, H⟩ := H
 try dsimp only at H
 have A32 := zK A320
 clear A320
 replace H := Option.bind_eq_some_iff.mp H
 obtain ⟨t469, A330, H⟩ := H
 try dsimp only at H
 have A33 := zK A330
 clear A330
 replace H := Option.bind_eq_some_iff.mp H
 obtain ⟨⟨t470, t471⟩, A340, H⟩ := H
 try dsimp only at H
 have A34 := zK A340
 clear A340
 have HC35 := zK H
 clear H
 go_enter Try.func11, Try.ntmps11
 go_upto_region 28 with (first | ((with_reducible refine gate_callee (f := 71) rfl ?_); refine goesL_ (some 21) rfl rfl Try.func71 (by kernel_rfl) rfl #[.slice A0 l0.length c0, .int .i64 1048576] rfl M0 ?_; (with_reducible refine (laws_szLetterS.calls _ _ l0 1048576 t427 _ ?side1 ?side2 A5.o).mono ?_); (case side1 => exact Kd.qC HR0.o); (case side2 => exact HC0.o); rintro e w' ⟨rfl, ⟨nd, rfl⟩⟩; refine ⟨_, rfl, ?_⟩) | ((with_reducible refine gate_callee (f := 72) rfl ?_); refine goesL_ (some 26) rfl rfl Try.func72 (by kernel_rfl) rfl #[.slice A1 l1.length c1, .int .i64 t427] rfl M0 ?_; (with_reducible refine (laws_szReportS.calls k _ _ l1 t427 t428 _ ?side1 ?side2 A7.o).mono ?_); (case side1 => exact Kd.qC HR1.o); (case side2 => exact HC1.o); rintro e w36 ⟨rfl, hb⟩; refine ⟨_, rfl, ?_⟩; have _ := zK (bT (qB HB.o) hb); clear HB; rename_i HB; (try clear hb); (try clear hb2); (try clear hk); (try clear hi)) | ((with_reducible refine gate_callee (f := 23) rfl ?_); refine goesL_ (some 31) rfl rfl Try.func23 (by kernel_rfl) rfl #[.slice A2 l2.length c2, .int .i64 t428] rfl M0 ?_; (with_reducible refine (laws_szFindS.calls _ _ l2 t428 t429 _ ?side1 ?side2 A10.o).mono ?_); (case side1 => exact Kd.qC (Kd.C_below HR2.o HB.o)); (case side2 => exact HC2.o); rintro e w' ⟨rfl, ⟨nd, rfl⟩⟩; refine ⟨_, rfl, ?_⟩) | ((with_reducible refine gate_callee (f := 74) rfl ?_); refine goesL_ (some 35) rfl rfl Try.func74 (by kernel_rfl) rfl #[.slice A0 l0.length c0] rfl M0 ?_; (with_reducible refine (laws_toLetterS.calls k _ _ l0 t430 _ ?side1 ?side2 A13.o).mono ?_); (case side1 => repeat (first | exact (Kd.C_below HR0.o (qB HB.o)) | (with_reducible refine Kd.CA ?_ _) | (with_reducible refine Kd.CN ?_ _) | (with_reducible refine Kd.CD ?_))); (case side2 => exact HC0.o); rintro e w37 ⟨v431, rfl, ho0, hb⟩; refine ⟨_, rfl, ?_⟩; have _ := zK (Kd.R_lower ho0 (bZ (qB HB.o))); have _ := zK (bT (qB HB.o) hb); clear HB; rename_i HO432 HB; (try clear hb); (try clear hb2); (try clear hk); (try clear hi); (try clear ho0)) | ((with_reducible refine gate_callee (f := 75) rfl ?_); refine goesL_ (some 37) rfl rfl Try.func75 (by kernel_rfl) rfl #[.slice A1 l1.length c1] rfl M0 ?_; (with_reducible refine (laws_toReportS.calls k _ _ l1 t433 _ ?side1 ?side2 A14.o).mono ?_); (case side1 => exact Kd.qC (Kd.C_below HR1.o HB.o)); (case side2 => exact HC1.o); rintro e w38 ⟨v434, rfl, ho0, hb⟩; refine ⟨_, rfl, ?_⟩; have _ := zK (Kd.R_below (Kd.qR HO432.o) hb); have _ := zK (Kd.S_lower ho0 (bZ (qB HB.o))); have _ := zK (bT (qB HB.o) hb); clear HO432 HB; rename_i HO432 HO435 HB; (try clear hb); (try clear hb2); (try clear hk); (try clear hi); (try clear ho0)) | ((with_reducible refine gate_callee (f := 26) rfl ?_); refine goesL_ (some 39) rfl rfl Try.func26 (by kernel_rfl) rfl #[.slice A2 l2.length c2] rfl M0 ?_; (with_reducible refine (laws_toFindS.calls k _ _ l2 t436 _ ?side1 ?side2 A15.o).mono ?_); (case side1 => exact Kd.qC (Kd.C_below HR2.o HB.o)); (case side2 => exact HC2.o); rintro e w39 ⟨v437, rfl, ho0, hb⟩; refine ⟨_, rfl, ?_⟩; have _ := zK (Kd.R_below (Kd.qR HO432.o) hb); have _ := zK (Kd.S_below M2 hb); have _ := zK (Kd.R_lower ho0 (bZ (qB HB.o))); have _ := zK (bT (qB HB.o) hb); clear HO432 HO435 HB; rename_i HO432 HO435 HO438 HB; (try clear hb); (try clear hb2); (try clear hk); (try clear hi); (try clear ho0); obtain ⟨Ao40, co40, eo40⟩ := Kd.R_slice HO432.o; subst eo40; obtain ⟨Ao41, co41, eo41⟩ := Kd.S_slice HO435.o; subst eo41; obtain ⟨Ao42, co42, eo42⟩ := Kd.R_slice HO438.o; subst eo42) | ((with_reducible refine gate_callee (f := 73) rfl ?_); refine goesL_ (some 41) rfl rfl Try.func73 (by kernel_rfl) rfl #[.slice Ao40 t430.length co40, .slice Ao41 t433.length co41, .slice Ao42 t436.length co42, .int .i64 a3] rfl M0 ?_; (with_reducible refine (spec_LettersFor.calls k _ _ t430 _ _ t433 _ _ t436 a3 t439 _ ?side1 ?side2 ?side3 ?side4 ?side5 ?side6 A16.o).mono ?_); (case side1 => exact Kd.qC (Kd.R_reads' HO432.o).2.2); (case side2 => exact (Kd.R_reads' HO432.o).2.1); (case side3 => repeat (first | exact (Kd.S_reads' HO435.o).2.2 | (with_reducible refine Kd.CA ?_ _) | (with_reducible refine Kd.CN ?_ _) | (with_reducible refine Kd.CD ?_))); (case side4 => exact (Kd.S_reads' HO435.o).2.1); (case side5 => exact Kd.qC (Kd.R_reads' HO438.o).2.2); (case side6 => exact (Kd.R_reads' HO438.o).2.1); rintro e w43 ⟨v440, rfl, ho0, hb⟩; refine ⟨_, rfl, ?_⟩; have _ := zK (Kd.R_elder' (Kd.qR HO432.o) (Kd.R_base ho0) hb); have _ := zK (Kd.S_below M2 hb); have _ := zK (Kd.R_below (Kd.qR HO438.o) hb); have _ := zK (Kd.R_lower (Kd.R_new' ho0 (Kd.R_lt (Kd.qR HO432.o))) (bZ (qB HB.o))); have _ := zK (bT (qB HB.o) hb); clear HO432 HO435 HO438 HB; rename_i HO432 HO435 HO438 HO441 HB; (try clear hb); (try clear hb2); (try clear hk); (try clear hi); (try clear ho0)) | ((with_reducible refine gate_callee (f := 74) rfl ?_); refine goesL_ (some 43) rfl rfl Try.func74 (by kernel_rfl) rfl #[.slice A0 l0.length c0] rfl M0 ?_; (with_reducible refine (laws_toLetterS.calls k _ _ l0 t442 _ ?side1 ?side2 A17.o).mono ?_); (case side1 => exact Kd.qC (Kd.C_below HR0.o HB.o)); (case side2 => exact HC0.o); rintro e w44 ⟨v443, rfl, ho0, hb⟩; refine ⟨_, rfl, ?_⟩; have _ := zK (Kd.R_elder' (Kd.qR HO432.o) (Kd.R_base ho0) hb); have _ := zK (Kd.S_below M2 hb); have _ := zK (Kd.R_below (Kd.qR HO438.o) hb); have _ := zK (Kd.R_elder' (Kd.qR HO441.o) (Kd.R_base ho0) hb); have _ := zK (Kd.R_lower (Kd.R_new' (Kd.R_new' ho0 (Kd.R_lt (Kd.qR HO432.o))) (Kd.R_lt (Kd.qR HO441.o))) (bZ (qB HB.o))); have _ := zK (bT (qB HB.o) hb); clear HO432 HO435 HO438 HO441 HB; rename_i HO432 HO435 HO438 HO441 HO444 HB; (try clear hb); (try clear hb2); (try clear hk); (try clear hi); (try clear ho0)) | ((with_reducible refine gate_callee (f := 75) rfl ?_); refine goesL_ (some 45) rfl rfl Try.func75 (by kernel_rfl) rfl #[.slice A1 l1.length c1] rfl M0 ?_; (with_reducible refine (laws_toReportS.calls k _ _ l1 t445 _ ?side1 ?side2 A18.o).mono ?_); (case side1 => exact Kd.qC (Kd.C_below HR1.o HB.o)); (case side2 => exact HC1.o); rintro e w45 ⟨v446, rfl, ho0, hb⟩; refine ⟨_, rfl, ?_⟩; have _ := zK (Kd.R_below (Kd.qR HO432.o) hb); have _ := zK (Kd.S_elder' M2 (Kd.S_base ho0) hb); have _ := zK (Kd.R_below (Kd.qR HO438.o) hb); have _ := zK (Kd.R_below (Kd.qR HO441.o) hb); have _ := zK (Kd.R_below (Kd.qR HO444.o) hb); have _ := zK (Kd.S_lower (Kd.S_new' ho0 (Kd.S_lt M2)) (bZ (qB HB.o))); have _ := zK (bT (qB HB.o) hb); clear HO432 HO435 HO438 HO441 HO444 HB; rename_i HO432 HO435 HO438 HO441 HO444 HO447 HB; (try clear hb); (try clear hb2); (try clear hk); (try clear hi); (try clear ho0)) | ((with_reducible refine gate_callee (f := 26) rfl ?_); refine goesL_ (some 47) rfl rfl Try.func26 (by kernel_rfl) rfl #[.slice A2 l2.length c2] rfl M0 ?_; (with_reducible refine (laws_toFindS.calls k _ _ l2 t448 _ ?side1 ?side2 A19.o).mono ?_); (case side1 => exact Kd.qC (Kd.C_below HR2.o HB.o)); (case side2 => exact HC2.o); rintro e w46 ⟨v449, rfl, ho0, hb⟩; refine ⟨_, rfl, ?_⟩; have _ := zK (Kd.R_below (Kd.qR HO432.o) hb); have _ := zK (Kd.S_below M2 hb); have _ := zK (Kd.R_elder' (Kd.qR HO438.o) (Kd.R_base ho0) hb); have _ := zK (Kd.R_below (Kd.qR HO441.o) hb); have _ := zK (Kd.R_below (Kd.qR HO444.o) hb); have _ := zK (Kd.S_below M4 hb); have _ := zK (Kd.R_lower (Kd.R_new' ho0 (Kd.R_lt (Kd.qR HO438.o))) (bZ (qB HB.o))); have _ := zK (bT (qB HB.o) hb); clear HO432 HO435 HO438 HO441 HO444 HO447 HB; rename_i HO432 HO435 HO438 HO441 HO444 HO447 HO450 HB; (try clear hb); (try clear hb2); (try clear hk); (try clear hi); (try clear ho0); obtain ⟨Ao47, co47, eo47⟩ := Kd.R_slice HO444.o; subst eo47; obtain ⟨Ao48, co48, eo48⟩ := Kd.S_slice HO447.o; subst eo48; obtain ⟨Ao49, co49, eo49⟩ := Kd.R_slice HO450.o; subst eo49) | ((with_reducible refine gate_callee (f := 52) rfl ?_); refine goesL_ (some 52) rfl rfl Try.func52 (by kernel_rfl) rfl #[.slice Ao47 t442.length co47, .slice Ao48 t445.length co48, .slice Ao49 t448.length co49, .int .i64 a3] rfl M0 ?_; (with_reducible refine (impl_LettersFor.calls k _ _ t442 _ _ t445 _ _ t448 a3 t451 _ ?side1 ?side2 ?side3 ?side4 ?side5 ?side6 A20.o).mono ?_); (case side1 => exact Kd.qC (Kd.R_reads' HO444.o).2.2); (case side2 => exact (Kd.R_reads' HO444.o).2.1); (case side3 => repeat (first | exact (Kd.S_reads' HO447.o).2.2 | (with_reducible refine Kd.CA ?_ _) | (with_reducible refine Kd.CN ?_ _) | (with_reducible refine Kd.CD ?_))); (case side4 => exact (Kd.S_reads' HO447.o).2.1); (case side5 => exact Kd.qC (Kd.R_reads' HO450.o).2.2); (case side6 => exact (Kd.R_reads' HO450.o).2.1); rintro e w50 ⟨v452, rfl, ho0, hb⟩; refine ⟨_, rfl, ?_⟩; have _ := zK (Kd.R_elder' (Kd.qR HO432.o) (Kd.Q_base ho0) hb); have _ := zK (Kd.S_below M2 hb); have _ := zK (Kd.R_below (Kd.qR HO438.o) hb); have _ := zK (Kd.R_elder' (Kd.qR HO441.o) (Kd.Q_base ho0) hb); have _ := zK (Kd.R_elder' (Kd.qR HO444.o) (Kd.Q_base ho0) hb); have _ := zK (Kd.S_below M4 hb); have _ := zK (Kd.R_below (Kd.qR HO450.o) hb); have _ := zK (Kd.Q_lower (Kd.Q_new' (Kd.Q_new' (Kd.Q_new' ho0 (Kd.R_lt (Kd.qR HO432.o))) (Kd.R_lt (Kd.qR HO441.o))) (Kd.R_lt (Kd.qR HO444.o))) (bZ (qB HB.o))); have _ := zK (bT (qB HB.o) hb); clear HO432 HO435 HO438 HO441 HO444 HO447 HO450 HB; rename_i HO432 HO435 HO438 HO441 HO444 HO447 HO450 HO453 HB; (try clear hb); (try clear hb2); (try clear hk); (try clear hi); (try clear ho0); obtain ⟨Ao51, co51, eo51, _⟩ := Kd.Q_slice HO453.o; subst eo51; obtain ⟨Ao52, co52, eo52⟩ := Kd.R_slice HO441.o; subst eo52) | ((with_reducible refine gate_callee (f := 76) rfl ?_); refine goesL_ (some 55) rfl rfl Try.func76 (by kernel_rfl) rfl #[.slice Ao51 t451.length co51, .slice Ao52 t439.length co52] rfl M0 ?_; (with_reducible refine (laws_eqLetterS.calls k _ _ t451 _ _ t439 true _ ?side1 ?side2 ?side3 ?side4 A21.o).mono ?_); (case side1 => repeat (first | exact (Kd.Q_reads' HO453.o).2.2 | (with_reducible refine Kd.CA ?_ _) | (with_reducible refine Kd.CN ?_ _) | (with_reducible refine Kd.CD ?_))); (case side2 => exact (Kd.Q_reads' HO453.o).2.1); (case side3 => exact Kd.qC (Kd.R_reads' HO441.o).2.2); (case side4 => exact (Kd.R_reads' HO441.o).2.1); rintro e w53 ⟨rfl, hb⟩; refine ⟨_, rfl, ?_⟩; have _ := zK (Kd.R_below (Kd.qR HO432.o) hb); have _ := zK (Kd.S_below M2 hb); have _ := zK (Kd.R_below (Kd.qR HO438.o) hb); have _ := zK (Kd.R_below (Kd.qR HO441.o) hb); have _ := zK (Kd.R_below (Kd.qR HO444.o) hb); have _ := zK (Kd.S_below M4 hb); have _ := zK (Kd.R_below (Kd.qR HO450.o) hb); have _ := zK (Kd.Q_below M7 hb); have _ := zK (bT (qB HB.o) hb); clear HO432 HO435 HO438 HO441 HO444 HO447 HO450 HO453 HB; rename_i HO432 HO435 HO438 HO441 HO444 HO447 HO450 HO453 HB; (try clear hb); (try clear hb2); (try clear hk); (try clear hi)) | ((with_reducible refine gate_callee (f := 74) rfl ?_); refine goesL_ (some 59) rfl rfl Try.func74 (by kernel_rfl) rfl #[.slice A0 l0.length c0] rfl M0 ?_; (with_reducible refine (laws_toLetterS.calls k _ _ l0 t455 _ ?side1 ?side2 A23.o).mono ?_); (case side1 => exact Kd.qC (Kd.C_below HR0.o HB.o)); (case side2 => exact HC0.o); rintro e w54 ⟨v456, rfl, ho0, hb⟩; refine ⟨_, rfl, ?_⟩; have _ := zK (Kd.R_elder' (Kd.qR HO432.o) (Kd.R_base ho0) hb); have _ := zK (Kd.S_below M2 hb); have _ := zK (Kd.R_below (Kd.qR HO438.o) hb); have _ := zK (Kd.R_elder' (Kd.qR HO441.o) (Kd.R_base ho0) hb); have _ := zK (Kd.R_elder' (Kd.qR HO444.o) (Kd.R_base ho0) hb); have _ := zK (Kd.S_below M4 hb); have _ := zK (Kd.R_below (Kd.qR HO450.o) hb); have _ := zK (Kd.Q_elder' M7 (Kd.R_base ho0) hb); have _ := zK (Kd.R_lower (Kd.R_new' (Kd.R_new' (Kd.R_new' (Kd.R_new' ho0 (Kd.R_lt (Kd.qR HO432.o))) (Kd.R_lt (Kd.qR HO441.o))) (Kd.R_lt (Kd.qR HO444.o))) (Kd.Q_lt M7)) (bZ (qB HB.o))); have _ := zK (bT (qB HB.o) hb); clear HO432 HO435 HO438 HO441 HO444 HO447 HO450 HO453 HB; rename_i HO432 HO435 HO438 HO441 HO444 HO447 HO450 HO453 HO457 HB; (try clear hb); (try clear hb2); (try clear hk); (try clear hi); (try clear ho0); obtain ⟨Ao55, co55, eo55⟩ := Kd.R_slice HO457.o; subst eo55) | ((with_reducible refine gate_callee (f := 76) rfl ?_); refine goesL_ (some 60) rfl rfl Try.func76 (by kernel_rfl) rfl #[.slice Ao47 t442.length co47, .slice Ao55 t455.length co55] rfl M0 ?_; (with_reducible refine (laws_eqLetterS.calls k _ _ t442 _ _ t455 true _ ?side1 ?side2 ?side3 ?side4 A24.o).mono ?_); (case side1 => exact Kd.qC (Kd.R_reads' HO444.o).2.2); (case side2 => exact (Kd.R_reads' HO444.o).2.1); (case side3 => exact Kd.qC (Kd.R_reads' HO457.o).2.2); (case side4 => exact (Kd.R_reads' HO457.o).2.1); rintro e w56 ⟨rfl, hb⟩; refine ⟨_, rfl, ?_⟩; have _ := zK (Kd.R_below (Kd.qR HO432.o) hb); have _ := zK (Kd.S_below M2 hb); have _ := zK (Kd.R_below (Kd.qR HO438.o) hb); have _ := zK (Kd.R_below (Kd.qR HO441.o) hb); have _ := zK (Kd.R_below (Kd.qR HO444.o) hb); have _ := zK (Kd.S_below M4 hb); have _ := zK (Kd.R_below (Kd.qR HO450.o) hb); have _ := zK (Kd.Q_below M7 hb); have _ := zK (Kd.R_below (Kd.qR HO457.o) hb); have _ := zK (bT (qB HB.o) hb); clear HO432 HO435 HO438 HO441 HO444 HO447 HO450 HO453 HO457 HB; rename_i HO432 HO435 HO438 HO441 HO444 HO447 HO450 HO453 HO457 HB; (try clear hb); (try clear hb2); (try clear hk); (try clear hi)) | ((with_reducible refine gate_callee (f := 75) rfl ?_); refine goesL_ (some 64) rfl rfl Try.func75 (by kernel_rfl) rfl #[.slice A1 l1.length c1] rfl M0 ?_; (with_reducible refine (laws_toReportS.calls k _ _ l1 t459 _ ?side1 ?side2 A26.o).mono ?_); (case side1 => exact Kd.qC (Kd.C_below HR1.o HB.o)); (case side2 => exact HC1.o); rintro e w57 ⟨v460, rfl, ho0, hb⟩; refine ⟨_, rfl, ?_⟩; have _ := zK (Kd.R_below (Kd.qR HO432.o) hb); have _ := zK (Kd.S_elder' M2 (Kd.S_base ho0) hb); have _ := zK (Kd.R_below (Kd.qR HO438.o) hb); have _ := zK (Kd.R_below (Kd.qR HO441.o) hb); have _ := zK (Kd.R_below (Kd.qR HO444.o) hb); have _ := zK (Kd.S_elder' M4 (Kd.S_base ho0) hb); have _ := zK (Kd.R_below (Kd.qR HO450.o) hb); have _ := zK (Kd.Q_below M7 hb); have _ := zK (Kd.R_below (Kd.qR HO457.o) hb); have _ := zK (Kd.S_lower (Kd.S_new' (Kd.S_new' ho0 (Kd.S_lt M2)) (Kd.S_lt M4)) (bZ (qB HB.o))); have _ := zK (bT (qB HB.o) hb); clear HO432 HO435 HO438 HO441 HO444 HO447 HO450 HO453 HO457 HB; rename_i HO432 HO435 HO438 HO441 HO444 HO447 HO450 HO453 HO457 HO461 HB; (try clear hb); (try clear hb2); (try clear hk); (try clear hi); (try clear ho0); obtain ⟨Ao58, co58, eo58⟩ := Kd.S_slice HO461.o; subst eo58) | ((with_reducible refine gate_callee (f := 77) rfl ?_); refine goesL_ (some 65) rfl rfl Try.func77 (by kernel_rfl) rfl #[.slice Ao48 t445.length co48, .slice Ao58 t459.length co58] rfl M0 ?_; (with_reducible refine (laws_eqReportS.calls k _ _ t445 _ _ t459 true _ ?side1 ?side2 ?side3 ?side4 A27.o).mono ?_); (case side1 => repeat (first | exact (Kd.S_reads' HO447.o).2.2 | (with_reducible refine Kd.CA ?_ _) | (with_reducible refine Kd.CN ?_ _) | (with_reducible refine Kd.CD ?_))); (case side2 => exact (Kd.S_reads' HO447.o).2.1); (case side3 => repeat (first | exact (Kd.S_reads' HO461.o).2.2 | (with_reducible refine Kd.CA ?_ _) | (with_reducible refine Kd.CN ?_ _) | (with_reducible refine Kd.CD ?_))); (case side4 => exact (Kd.S_reads' HO461.o).2.1); rintro e w59 ⟨rfl, hb⟩; refine ⟨_, rfl, ?_⟩; have _ := zK (Kd.R_below (Kd.qR HO432.o) hb); have _ := zK (Kd.S_below M2 hb); have _ := zK (Kd.R_below (Kd.qR HO438.o) hb); have _ := zK (Kd.R_below (Kd.qR HO441.o) hb); have _ := zK (Kd.R_below (Kd.qR HO444.o) hb); have _ := zK (Kd.S_below M4 hb); have _ := zK (Kd.R_below (Kd.qR HO450.o) hb); have _ := zK (Kd.Q_below M7 hb); have _ := zK (Kd.R_below (Kd.qR HO457.o) hb); have _ := zK (Kd.S_below M28 hb); have _ := zK (bT (qB HB.o) hb); clear HO432 HO435 HO438 HO441 HO444 HO447 HO450 HO453 HO457 HO461 HB; rename_i HO432 HO435 HO438 HO441 HO444 HO447 HO450 HO453 HO457 HO461 HB; (try clear hb); (try clear hb2); (try clear hk); (try clear hi)) | ((with_reducible refine gate_callee (f := 26) rfl ?_); refine goesL_ (some 69) rfl rfl Try.func26 (by kernel_rfl) rfl #[.slice A2 l2.length c2] rfl M0 ?_; (with_reducible refine (laws_toFindS.calls k _ _ l2 t463 _ ?side1 ?side2 A29.o).mono ?_); (case side1 => exact Kd.qC (Kd.C_below HR2.o HB.o)); (case side2 => exact HC2.o); rintro e w60 ⟨v464, rfl, ho0, hb⟩; refine ⟨_, rfl, ?_⟩; have _ := zK (Kd.R_below (Kd.qR HO432.o) hb); have _ := zK (Kd.S_below M2 hb); have _ := zK (Kd.R_elder' (Kd.qR HO438.o) (Kd.R_base ho0) hb); have _ := zK (Kd.R_below (Kd.qR HO441.o) hb); have _ := zK (Kd.R_below (Kd.qR HO444.o) hb); have _ := zK (Kd.S_below M4 hb); have _ := zK (Kd.R_elder' (Kd.qR HO450.o) (Kd.R_base ho0) hb); have _ := zK (Kd.Q_below M7 hb); have _ := zK (Kd.R_below (Kd.qR HO457.o) hb); have _ := zK (Kd.S_below M28 hb); have _ := zK (Kd.R_lower (Kd.R_new' (Kd.R_new' ho0 (Kd.R_lt (Kd.qR HO438.o))) (Kd.R_lt (Kd.qR HO450.o))) (bZ (qB HB.o))); have _ := zK (bT (qB HB.o) hb); clear HO432 HO435 HO438 HO441 HO444 HO447 HO450 HO453 HO457 HO461 HB; rename_i HO432 HO435 HO438 HO441 HO444 HO447 HO450 HO453 HO457 HO461 HO465 HB; (try clear hb); (try clear hb2); (try clear hk); (try clear hi); (try clear ho0); obtain ⟨Ao61, co61, eo61⟩ := Kd.R_slice HO465.o; subst eo61) | ((with_reducible refine gate_callee (f := 29) rfl ?_); refine goesL_ (some 70) rfl rfl Try.func29 (by kernel_rfl) rfl #[.slice Ao49 t448.length co49, .slice Ao61 t463.length co61] rfl M0 ?_; (with_reducible refine (laws_eqFindS.calls k _ _ t448 _ _ t463 true _ ?side1 ?side2 ?side3 ?side4 A30.o).mono ?_); (case side1 => exact Kd.qC (Kd.R_reads' HO450.o).2.2); (case side2 => exact (Kd.R_reads' HO450.o).2.1); (case side3 => exact Kd.qC (Kd.R_reads' HO465.o).2.2); (case side4 => exact (Kd.R_reads' HO465.o).2.1); rintro e w62 ⟨rfl, hb⟩; refine ⟨_, rfl, ?_⟩; have _ := zK (Kd.R_below (Kd.qR HO432.o) hb); have _ := zK (Kd.S_below M2 hb); have _ := zK (Kd.R_below (Kd.qR HO438.o) hb); have _ := zK (Kd.R_below (Kd.qR HO441.o) hb); have _ := zK (Kd.R_below (Kd.qR HO444.o) hb); have _ := zK (Kd.S_below M4 hb); have _ := zK (Kd.R_below (Kd.qR HO450.o) hb); have _ := zK (Kd.Q_below M7 hb); have _ := zK (Kd.R_below (Kd.qR HO457.o) hb); have _ := zK (Kd.S_below M28 hb); have _ := zK (Kd.R_below (Kd.qR HO465.o) hb); have _ := zK (bT (qB HB.o) hb); clear HO432 HO435 HO438 HO441 HO444 HO447 HO450 HO453 HO457 HO461 HO465 HB; rename_i HO432 HO435 HO438 HO441 HO444 HO447 HO450 HO453 HO457 HO461 HO465 HB; (try clear hb); (try clear hb2); (try clear hk); (try clear hi)) | ((with_reducible refine gate_callee (f := 78) rfl ?_); refine goesL_ (some 74) rfl rfl Try.func78 (by kernel_rfl) rfl #[.slice Ao47 t442.length co47, .int .i64 1] rfl M0 ?_; (with_reducible refine (laws_markLetterS.calls k (fun k_ => some k_ = (.slice Ao47 t442.length co47 : Value).ownBlock) (.slice Ao47 t442.length co47) t442 1 t467 t468 w _ ?side1 ?side2 A32.o).mono ?_); (case side1 => repeat (first | (with_reducible first | exact HB.o | apply bA | apply bN | apply below_drew1) | exact HB.o)); (case side2 => exact Kd.R_tight rfl HO444.o); rintro e w63 ⟨rfl, hy0, hb, hkp⟩; refine ⟨_, rfl, ?_⟩; have _ := zK (Kd.R_mono (ok' := fun k_ => some k_ ≠ (.slice Ao52 t439.length co52 : Value).ownBlock ∧ some k_ ≠ (.slice Ao47 t442.length co47 : Value).ownBlock ∧ some k_ ≠ (.slice Ao51 t451.length co51 : Value).ownBlock ∧ some k_ ≠ (.slice Ao55 t455.length co55 : Value).ownBlock) (Kd.R_keptB (HO432.o) hkp (fun k_ hk_ hs_ => (hk_.1.1.2) hs_)) (fun k_ hk_ => ⟨hk_.1.1.1.1.2, hk_.1.1.1.2, hk_.1.1.2, hk_.1.2⟩)); have _ := zK (Kd.S_mono (ok' := fun k_ => some k_ ≠ (.slice Ao48 t445.length co48 : Value).ownBlock ∧ some k_ ≠ (.slice Ao58 t459.length co58 : Value).ownBlock) (Kd.S_keptB ((Kd.S_apart' HO435.o (Kd.R_typed HO444.o) (by decide))) hkp (fun k_ hk_ hs_ => (hk_.2) hs_)) (fun k_ hk_ => ⟨hk_.1.1.1.2, hk_.1.1.2⟩)); have _ := zK (Kd.R_mono (ok' := fun k_ => some k_ ≠ (.slice Ao49 t448.length co49 : Value).ownBlock ∧ some k_ ≠ (.slice Ao61 t463.length co61 : Value).ownBlock) (Kd.R_keptB ((Kd.R_apart' HO438.o (Kd.R_typed HO444.o) (by decide))) hkp (fun k_ hk_ hs_ => (hk_.2) hs_)) (fun k_ hk_ => ⟨hk_.1.1.1.2, hk_.1.1.2⟩)); have _ := zK (Kd.R_mono (ok' := fun k_ => some k_ ≠ (.slice Ao40 t430.length co40 : Value).ownBlock ∧ some k_ ≠ (.slice Ao47 t442.length co47 : Value).ownBlock ∧ some k_ ≠ (.slice Ao51 t451.length co51 : Value).ownBlock ∧ some k_ ≠ (.slice Ao55 t455.length co55 : Value).ownBlock) (Kd.R_keptB (HO441.o) hkp (fun k_ hk_ hs_ => (hk_.1.1.2) hs_)) (fun k_ hk_ => ⟨hk_.1.1.1.1.2, hk_.1.1.1.2, hk_.1.1.2, hk_.1.2⟩)); have _ := zK (Kd.R_reok rfl hy0 (fun k_ e_ => HO444.o.1 k_ e_)); have _ := zK (Kd.S_mono (ok' := fun k_ => some k_ ≠ (.slice Ao41 t433.length co41 : Value).ownBlock ∧ some k_ ≠ (.slice Ao58 t459.length co58 : Value).ownBlock) (Kd.S_keptB ((Kd.S_apart' HO447.o (Kd.R_typed HO444.o) (by decide))) hkp (fun k_ hk_ hs_ => (hk_.2) hs_)) (fun k_ hk_ => ⟨hk_.1.1.1.2, hk_.1.1.2⟩)); have _ := zK (Kd.R_mono (ok' := fun k_ => some k_ ≠ (.slice Ao42 t436.length co42 : Value).ownBlock ∧ some k_ ≠ (.slice Ao61 t463.length co61 : Value).ownBlock) (Kd.R_keptB ((Kd.R_apart' HO450.o (Kd.R_typed HO444.o) (by decide))) hkp (fun k_ hk_ hs_ => (hk_.2) hs_)) (fun k_ hk_ => ⟨hk_.1.1.1.2, hk_.1.1.2⟩)); have _ := zK (Kd.Q_mono (ok' := fun k_ => some k_ ≠ (.slice Ao40 t430.length co40 : Value).ownBlock ∧ some k_ ≠ (.slice Ao52 t439.length co52 : Value).ownBlock ∧ some k_ ≠ (.slice Ao47 t442.length co47 : Value).ownBlock ∧ some k_ ≠ (.slice Ao55 t455.length co55 : Value).ownBlock) (Kd.Q_keptB (HO453.o) hkp (fun k_ hk_ hs_ => (hk_.1.2) hs_)) (fun k_ hk_ => ⟨hk_.1.1.1.1.2, hk_.1.1.1.2, hk_.1.1.2, hk_.1.2⟩)); have _ := zK (Kd.R_mono (ok' := fun k_ => some k_ ≠ (.slice Ao40 t430.length co40 : Value).ownBlock ∧ some k_ ≠ (.slice Ao52 t439.length co52 : Value).ownBlock ∧ some k_ ≠ (.slice Ao47 t442.length co47 : Value).ownBlock ∧ some k_ ≠ (.slice Ao51 t451.length co51 : Value).ownBlock) (Kd.R_keptB (HO457.o) hkp (fun k_ hk_ hs_ => (hk_.1.2) hs_)) (fun k_ hk_ => ⟨hk_.1.1.1.1.2, hk_.1.1.1.2, hk_.1.1.2, hk_.1.2⟩)); have _ := zK (Kd.S_mono (ok' := fun k_ => some k_ ≠ (.slice Ao41 t433.length co41 : Value).ownBlock ∧ some k_ ≠ (.slice Ao48 t445.length co48 : Value).ownBlock) (Kd.S_keptB ((Kd.S_apart' HO461.o (Kd.R_typed HO444.o) (by decide))) hkp (fun k_ hk_ hs_ => (hk_.2) hs_)) (fun k_ hk_ => ⟨hk_.1.1.1.2, hk_.1.1.2⟩)); have _ := zK (Kd.R_mono (ok' := fun k_ => some k_ ≠ (.slice Ao42 t436.length co42 : Value).ownBlock ∧ some k_ ≠ (.slice Ao49 t448.length co49 : Value).ownBlock) (Kd.R_keptB ((Kd.R_apart' HO465.o (Kd.R_typed HO444.o) (by decide))) hkp (fun k_ hk_ hs_ => (hk_.2) hs_)) (fun k_ hk_ => ⟨hk_.1.1.1.2, hk_.1.1.2⟩)); have _ := zK (hb); clear HO432 HO435 HO438 HO441 HO444 HO447 HO450 HO453 HO457 HO461 HO465 HB; rename_i HO432 HO435 HO438 HO441 HO444 HO447 HO450 HO453 HO457 HO461 HO465 HB; (try clear hb); (try clear hkp); (try clear hy0)) | ((with_reducible refine gate_callee (f := 79) rfl ?_); refine goesL_ (some 77) rfl rfl Try.func79 (by kernel_rfl) rfl #[.slice Ao48 t445.length co48, .int .i64 t467] rfl M0 ?_; (with_reducible refine (laws_markReportS.calls k (fun k_ => (((((((((some k_ ≠ (.slice Ao41 t433.length co41 : Value).ownBlock ∧ some k_ ≠ (.slice Ao58 t459.length co58 : Value).ownBlock) ∧ some k_ ≠ (.slice Ao40 t430.length co40 : Value).ownBlock) ∧ some k_ ≠ (.slice Ao42 t436.length co42 : Value).ownBlock) ∧ some k_ ≠ (.slice Ao52 t439.length co52 : Value).ownBlock) ∧ some k_ ≠ (.slice Ao47 t442.length co47 : Value).ownBlock) ∧ some k_ ≠ (.slice Ao49 t448.length co49 : Value).ownBlock) ∧ some k_ ≠ (.slice Ao51 t451.length co51 : Value).ownBlock) ∧ some k_ ≠ (.slice Ao55 t455.length co55 : Value).ownBlock) ∧ some k_ ≠ (.slice Ao61 t463.length co61 : Value).ownBlock)) (.slice Ao48 t445.length co48) t445 t467 t469 w _ ?side1 ?side2 A33.o).mono ?_); (case side1 => repeat (first | (with_reducible first | exact HB.o | apply bA | apply bN | apply below_drew1) | exact HB.o)); (case side2 => exact (Kd.S_apart' (Kd.S_apart' (Kd.S_apart' (Kd.S_apart' (Kd.S_apart' (Kd.S_apart' (Kd.S_apart' (Kd.S_apart' HO447.o (Kd.R_typed HO432.o) (by decide)) (Kd.R_typed HO438.o) (by decide)) (Kd.R_typed HO441.o) (by decide)) (Kd.R_typed HO444.o) (by decide)) (Kd.R_typed HO450.o) (by decide)) (Kd.Q_typed HO453.o) (by decide)) (Kd.R_typed HO457.o) (by decide)) (Kd.R_typed HO465.o) (by decide))); rintro e w64 ⟨rfl, hb, hkp⟩; refine ⟨_, rfl, ?_⟩; have _ := zK (Kd.R_mono (ok' := fun k_ => some k_ ≠ (.slice Ao52 t439.length co52 : Value).ownBlock ∧ some k_ ≠ (.slice Ao47 t442.length co47 : Value).ownBlock ∧ some k_ ≠ (.slice Ao51 t451.length co51 : Value).ownBlock ∧ some k_ ≠ (.slice Ao55 t455.length co55 : Value).ownBlock) (Kd.R_keptB ((rApP hkp rfl HO432.o (fun k_ e_ => e_.1.1.1.1.1.1.1.2))) hkp (fun k_ hk_ hs_ => (hk_.2) hs_)) (fun k_ hk_ => ⟨hk_.1.1.1, hk_.1.1.2.1, hk_.1.1.2.2.1, hk_.1.1.2.2.2⟩)); have _ := zK (Kd.R_mono (ok' := fun k_ => some k_ ≠ (.slice Ao49 t448.length co49 : Value).ownBlock ∧ some k_ ≠ (.slice Ao61 t463.length co61 : Value).ownBlock) (Kd.R_keptB ((rApP hkp rfl HO438.o (fun k_ e_ => e_.1.1.1.1.1.1.2))) hkp (fun k_ hk_ hs_ => (hk_.2) hs_)) (fun k_ hk_ => ⟨hk_.1.1.1, hk_.1.1.2⟩)); have _ := zK (Kd.R_mono (ok' := fun k_ => some k_ ≠ (.slice Ao40 t430.length co40 : Value).ownBlock ∧ some k_ ≠ (.slice Ao47 t442.length co47 : Value).ownBlock ∧ some k_ ≠ (.slice Ao51 t451.length co51 : Value).ownBlock ∧ some k_ ≠ (.slice Ao55 t455.length co55 : Value).ownBlock) (Kd.R_keptB ((rApP hkp rfl HO441.o (fun k_ e_ => e_.1.1.1.1.1.2))) hkp (fun k_ hk_ hs_ => (hk_.2) hs_)) (fun k_ hk_ => ⟨hk_.1.1.1, hk_.1.1.2.1, hk_.1.1.2.2.1, hk_.1.1.2.2.2⟩)); have _ := zK (Kd.R_mono (ok' := fun k_ => some k_ ≠ (.slice Ao40 t430.length co40 : Value).ownBlock ∧ some k_ ≠ (.slice Ao52 t439.length co52 : Value).ownBlock ∧ some k_ ≠ (.slice Ao51 t451.length co51 : Value).ownBlock ∧ some k_ ≠ (.slice Ao55 t455.length co55 : Value).ownBlock) (Kd.R_keptB ((rApP hkp rfl HO444.o (fun k_ e_ => e_.1.1.1.1.2))) hkp (fun k_ hk_ hs_ => (hk_.2) hs_)) (fun k_ hk_ => ⟨hk_.1.1.1.1.1.2, hk_.1.1.1.1.2, hk_.1.1.1.2, hk_.1.1.2⟩)); have _ := zK (Kd.R_mono (ok' := fun k_ => some k_ ≠ (.slice Ao42 t436.length co42 : Value).ownBlock ∧ some k_ ≠ (.slice Ao61 t463.length co61 : Value).ownBlock) (Kd.R_keptB ((rApP hkp rfl HO450.o (fun k_ e_ => e_.1.1.1.2))) hkp (fun k_ hk_ hs_ => (hk_.2) hs_)) (fun k_ hk_ => ⟨hk_.1.1.1, hk_.1.1.2⟩)); have _ := zK (Kd.Q_mono (ok' := fun k_ => some k_ ≠ (.slice Ao40 t430.length co40 : Value).ownBlock ∧ some k_ ≠ (.slice Ao52 t439.length co52 : Value).ownBlock ∧ some k_ ≠ (.slice Ao47 t442.length co47 : Value).ownBlock ∧ some k_ ≠ (.slice Ao55 t455.length co55 : Value).ownBlock) (Kd.Q_keptB ((rApQ hkp rfl HO453.o (fun k_ e_ => e_.1.1.2))) hkp (fun k_ hk_ hs_ => (hk_.2) hs_)) (fun k_ hk_ => ⟨hk_.1.1.1, hk_.1.1.2.1, hk_.1.1.2.2.1, hk_.1.1.2.2.2⟩)); have _ := zK (Kd.R_mono (ok' := fun k_ => some k_ ≠ (.slice Ao40 t430.length co40 : Value).ownBlock ∧ some k_ ≠ (.slice Ao52 t439.length co52 : Value).ownBlock ∧ some k_ ≠ (.slice Ao47 t442.length co47 : Value).ownBlock ∧ some k_ ≠ (.slice Ao51 t451.length co51 : Value).ownBlock) (Kd.R_keptB ((rApP hkp rfl HO457.o (fun k_ e_ => e_.1.2))) hkp (fun k_ hk_ hs_ => (hk_.2) hs_)) (fun k_ hk_ => ⟨hk_.1.1.1, hk_.1.1.2.1, hk_.1.1.2.2.1, hk_.1.1.2.2.2⟩)); have _ := zK (Kd.R_mono (ok' := fun k_ => some k_ ≠ (.slice Ao42 t436.length co42 : Value).ownBlock ∧ some k_ ≠ (.slice Ao49 t448.length co49 : Value).ownBlock) (Kd.R_keptB ((rApP hkp rfl HO465.o (fun k_ e_ => e_.2))) hkp (fun k_ hk_ hs_ => (hk_.2) hs_)) (fun k_ hk_ => ⟨hk_.1.1.1, hk_.1.1.2⟩)); have _ := zK (hb); clear HO432 HO438 HO441 HO444 HO450 HO453 HO457 HO465 HB HO447; rename_i HO432 HO438 HO441 HO444 HO450 HO453 HO457 HO465 HB; (try clear hb); (try clear hkp)) | ((with_reducible refine gate_callee (f := 31) rfl ?_); refine goesL_ (some 80) rfl rfl Try.func31 (by kernel_rfl) rfl #[.slice Ao49 t448.length co49, .int .i64 t469] rfl M0 ?_; (with_reducible refine (laws_markFindS.calls k (fun k_ => some k_ = (.slice Ao49 t448.length co49 : Value).ownBlock) (.slice Ao49 t448.length co49) t448 t469 t470 t471 w _ ?side1 ?side2 A34.o).mono ?_); (case side1 => repeat (first | (with_reducible first | exact HB.o | apply bA | apply bN | apply below_drew1) | exact HB.o)); (case side2 => exact Kd.R_tight rfl HO450.o); rintro e w65 ⟨rfl, hy0, hb, hkp⟩; refine ⟨_, rfl, ?_⟩; have _ := zK (Kd.R_mono (ok' := fun k_ => some k_ ≠ (.slice Ao52 t439.length co52 : Value).ownBlock ∧ some k_ ≠ (.slice Ao47 t442.length co47 : Value).ownBlock ∧ some k_ ≠ (.slice Ao51 t451.length co51 : Value).ownBlock ∧ some k_ ≠ (.slice Ao55 t455.length co55 : Value).ownBlock) (Kd.R_keptB ((Kd.R_apart' HO432.o (Kd.R_typed HO450.o) (by decide))) hkp (fun k_ hk_ hs_ => (hk_.2) hs_)) (fun k_ hk_ => ⟨hk_.1.1.1, hk_.1.1.2.1, hk_.1.1.2.2.1, hk_.1.1.2.2.2⟩)); have _ := zK (Kd.R_mono (ok' := fun k_ => some k_ ≠ (.slice Ao49 t448.length co49 : Value).ownBlock ∧ some k_ ≠ (.slice Ao61 t463.length co61 : Value).ownBlock) (Kd.R_keptB (HO438.o) hkp (fun k_ hk_ hs_ => (hk_.1) hs_)) (fun k_ hk_ => ⟨hk_.1.1, hk_.1.2⟩)); have _ := zK (Kd.R_mono (ok' := fun k_ => some k_ ≠ (.slice Ao40 t430.length co40 : Value).ownBlock ∧ some k_ ≠ (.slice Ao47 t442.length co47 : Value).ownBlock ∧ some k_ ≠ (.slice Ao51 t451.length co51 : Value).ownBlock ∧ some k_ ≠ (.slice Ao55 t455.length co55 : Value).ownBlock) (Kd.R_keptB ((Kd.R_apart' HO441.o (Kd.R_typed HO450.o) (by decide))) hkp (fun k_ hk_ hs_ => (hk_.2) hs_)) (fun k_ hk_ => ⟨hk_.1.1.1, hk_.1.1.2.1, hk_.1.1.2.2.1, hk_.1.1.2.2.2⟩)); have _ := zK (Kd.R_mono (ok' := fun k_ => some k_ ≠ (.slice Ao40 t430.length co40 : Value).ownBlock ∧ some k_ ≠ (.slice Ao52 t439.length co52 : Value).ownBlock ∧ some k_ ≠ (.slice Ao51 t451.length co51 : Value).ownBlock ∧ some k_ ≠ (.slice Ao55 t455.length co55 : Value).ownBlock) (Kd.R_keptB ((Kd.R_apart' HO444.o (Kd.R_typed HO450.o) (by decide))) hkp (fun k_ hk_ hs_ => (hk_.2) hs_)) (fun k_ hk_ => ⟨hk_.1.1.1, hk_.1.1.2.1, hk_.1.1.2.2.1, hk_.1.1.2.2.2⟩)); have _ := zK (Kd.R_reok rfl hy0 (fun k_ e_ => HO450.o.1 k_ e_)); have _ := zK (Kd.Q_mono (ok' := fun k_ => some k_ ≠ (.slice Ao40 t430.length co40 : Value).ownBlock ∧ some k_ ≠ (.slice Ao52 t439.length co52 : Value).ownBlock ∧ some k_ ≠ (.slice Ao47 t442.length co47 : Value).ownBlock ∧ some k_ ≠ (.slice Ao55 t455.length co55 : Value).ownBlock) (Kd.Q_keptB ((Kd.Q_apart' HO453.o (Kd.R_typed HO450.o) (by decide))) hkp (fun k_ hk_ hs_ => (hk_.2) hs_)) (fun k_ hk_ => ⟨hk_.1.1.1, hk_.1.1.2.1, hk_.1.1.2.2.1, hk_.1.1.2.2.2⟩)); have _ := zK (Kd.R_mono (ok' := fun k_ => some k_ ≠ (.slice Ao40 t430.length co40 : Value).ownBlock ∧ some k_ ≠ (.slice Ao52 t439.length co52 : Value).ownBlock ∧ some k_ ≠ (.slice Ao47 t442.length co47 : Value).ownBlock ∧ some k_ ≠ (.slice Ao51 t451.length co51 : Value).ownBlock) (Kd.R_keptB ((Kd.R_apart' HO457.o (Kd.R_typed HO450.o) (by decide))) hkp (fun k_ hk_ hs_ => (hk_.2) hs_)) (fun k_ hk_ => ⟨hk_.1.1.1, hk_.1.1.2.1, hk_.1.1.2.2.1, hk_.1.1.2.2.2⟩)); have _ := zK (Kd.R_mono (ok' := fun k_ => some k_ ≠ (.slice Ao42 t436.length co42 : Value).ownBlock ∧ some k_ ≠ (.slice Ao49 t448.length co49 : Value).ownBlock) (Kd.R_keptB (HO465.o) hkp (fun k_ hk_ hs_ => (hk_.2) hs_)) (fun k_ hk_ => ⟨hk_.1.1, hk_.1.2⟩)); have _ := zK (hb); clear HO432 HO438 HO441 HO444 HO450 HO453 HO457 HO465 HB; rename_i HO432 HO438 HO441 HO444 HO450 HO453 HO457 HO465 HB; (try clear hb); (try clear hkp); (try clear hy0)))
 (try simp only [Act.put, sA, sZ, sS])
 go_cut [88] (fun v88 wc => ∃ (kq : Nat) (x88_34 : Bool), v88 = .bool x88_34 ∧ Aside0 (laws_FnExactLettersFor.j0 kq l0 l1 l2 a3 t439 t451 x88_34 = some r) ∧ Aside0 (kq ≤ k) ∧ Aside0 (Kd.R k81 81 wc w.heap.size (fun k_ => some k_ ≠ ((.slice Ao51 t451.length co51) : Value).ownBlock) (.slice Ao52 t439.length co52) t439) ∧ Aside0 (Kd.Q k81 81 wc w.heap.size (fun k_ => some k_ ≠ ((.slice Ao52 t439.length co52) : Value).ownBlock) (.slice Ao51 t451.length co51) t451) ∧ Aside0 (Below w.heap.size w wc))
 case first =>
  have H := HC35.o
  clear HC35
  by_cases c66 : t470 < 0
  ·rw [if_pos c66] at H
   have c66b0 : decide (t470 < 0) = true := decide_eq_true c66
   clear c66
   (first | rw [c66b0] | rw [c66b1] | (simp only [i64_w, i32_w]; rw [c66b0]) | skip)
   have H' := zK H
   clear H
   go_wp2
   go_meet
   case rel => exact ⟨_, (true), M3, H', ⟨by first | omega | exact Nat.le_refl _⟩, ⟨by (with_reducible repeat (first | apply Kd.RA | apply Kd.RN | apply Kd.RD)); exact Kd.R_mono HO441.o (fun _ hk => hk.2.2.1)⟩, ⟨by (with_reducible repeat (first | apply Kd.Q_alloc | apply Kd.Q_drewN | apply Kd.Q_drew)); exact Kd.Q_mono HO453.o (fun _ hk => hk.2.1)⟩, ⟨by exact qB HB.o⟩⟩
  rw [if_neg c66] at H
  have c66b0 : decide (t470 < 0) = false := decide_eq_false c66
  clear c66
  (first | rw [c66b0] | rw [c66b1] | (simp only [i64_w, i32_w]; rw [c66b0]) | skip)
  replace H := Option.bind_eq_some_iff.mp H
  obtain ⟨t472, A670, H⟩ := H
  try dsimp only at H
  have A67 := zK A670
  clear A670
  have H' := zK H
  clear H
  go_wp2_with (first | (go_at_call 76; (with_reducible refine (laws_eqLetterS.calls k _ _ t451 _ _ t439 t472 _ ?side1 ?side2 ?side3 ?side4 A67.o).mono ?_); (case side1 => repeat (first | exact (Kd.Q_reads' HO453.o).2.2 | (with_reducible refine Kd.CA ?_ _) | (with_reducible refine Kd.CN ?_ _) | (with_reducible refine Kd.CD ?_))); (case side2 => exact (Kd.Q_reads' HO453.o).2.1); (case side3 => exact Kd.qC (Kd.R_reads' HO441.o).2.2); (case side4 => exact (Kd.R_reads' HO441.o).2.1); rintro e w68 ⟨rfl, hb⟩; have _ := zK (Kd.R_below (Kd.qR HO432.o) hb); have _ := zK (Kd.R_below (Kd.qR HO438.o) hb); have _ := zK (Kd.R_below (Kd.qR HO441.o) hb); have _ := zK (Kd.R_below (Kd.qR HO444.o) hb); have _ := zK (Kd.R_below (Kd.qR HO450.o) hb); have _ := zK (Kd.Q_below M7 hb); have _ := zK (Kd.R_below (Kd.qR HO457.o) hb); have _ := zK (Kd.R_below (Kd.qR HO465.o) hb); have _ := zK (bT (qB HB.o) hb); clear HO432 HO438 HO441 HO444 HO450 HO453 HO457 HO465 HB; rename_i HO432 HO438 HO441 HO444 HO450 HO453 HO457 HO465 HB; (try clear hb); (try clear hb2); (try clear hk); (try clear hi)))
  go_meet
  case rel => exact ⟨_, (!t472), M3, H', ⟨by first | omega | exact Nat.le_refl _⟩, ⟨by (with_reducible repeat (first | apply Kd.RA | apply Kd.RN | apply Kd.RD)); exact Kd.R_mono HO441.o (fun _ hk => hk.2.2.1)⟩, ⟨by (with_reducible repeat (first | apply Kd.Q_alloc | apply Kd.Q_drewN | apply Kd.Q_drew)); exact Kd.Q_mono HO453.o (fun _ hk => hk.2.1)⟩, ⟨by exact qB HB.o⟩⟩
 case rest =>
  clear HC35
  try clear c1
  try clear c2
  try clear p2
  try clear c3
  try clear c5
  try clear c6
  try clear c6b0
  try clear c7
  try clear c8
  try clear c8b0
  try clear c11
  try clear c11b0
  try clear c22
  try clear c23
  try clear c25
  try clear c26
  try clear c28
  try clear c29
  try clear c31
  try clear c52
  try clear c66
  try clear c66b0
  obtain ⟨kq, x88_34, rfl, HA, HJ34, HO_10, HO_14, HB⟩ := hcut
  cases kq with
  | zero => exact absurd HA.o (by simp [laws_FnExactLettersFor.j0])
  | succ kj34 =>
   have H := HA.o
   clear HA
   simp only [laws_FnExactLettersFor.j0] at H
   by_cases c69 : x88_34 = true
   ·subst c69
    have H1 : (some false) = some r := by rw [if_pos rfl] at H; exact H
    clear H
    have H := H1
    clear H1
    obtain rfl := Option.some.inj H
    go_wp2
    go_ret
    exact ⟨by first | rfl | (simp [errW_none, errW_some] <;> rfl) | (simp [*, errW_none, errW_some] <;> rfl), by exact qB HB.o⟩
   replace c69 := Bool.eq_false_iff.mpr c69
   subst c69
   have H1 : ((laws_markLetterS.f kj34 t451 1).bind fun bt473 => ((laws_heldLetterS.f kj34 bt473.2 1).bind fun t475 => (if t475 < 0 then (some false) else (if t475 = bt473.1 then ((laws_toLetterS.f kj34 l0).bind fun t476 => ((laws_toReportS.f kj34 l1).bind fun t479 => ((laws_toFindS.f kj34 l2).bind fun t482 => ((impl_LettersFor.f kj34 t476 t479 t482 a3).bind fun t485 => ((laws_eqLetterS.f kj34 t485 t439).bind fun t488 => (if t488 = true then ((laws_heldLetterS.f kj34 bt473.2 1).bind fun t489 => (if t489 < 0 then (some false) else (if t489 = bt473.1 then (some true) else (some false)))) else (some false))))))) else (some false))))) = some r := by rw [if_neg (show ¬ (false = true) by decide)] at H; exact H
   clear H
   have H := H1
   clear H1
   replace H := Option.bind_eq_some_iff.mp H
   obtain ⟨⟨t473, t474⟩, A700, H⟩ := H
   try dsimp only at H
   have A70 := zK A700
   clear A700
   replace H := Option.bind_eq_some_iff.mp H
   obtain ⟨t475, A710, H⟩ := H
   try dsimp only at H
   have A71 := zK A710
   clear A710
   by_cases c72 : t475 < 0
   ·rw [if_pos c72] at H
    have c72b0 : decide (t475 < 0) = true := decide_eq_true c72
    clear c72
    obtain rfl := Option.some.inj H
    exact lf24_1
   rw [if_neg c72] at H
   have c72b0 : decide (t475 < 0) = false := decide_eq_false c72
   clear c72
   by_cases c74 : t475 = t473
   rotate_left
   ·rw [if_neg c74] at H
    have c74b0 : (t475 == t473) = false := beq_eq_false_iff_ne.mpr c74
    have c74b1 : (t475 != t473) = true := bne_iff_ne.mpr c74
    obtain rfl := Option.some.inj H
    exact lf24_1
   rw [if_pos c74] at H
   have c74b0 : (t475 == t473) = true := beq_iff_eq.mpr c74
   have c74b1 : (t475 != t473) = false := bne_eq_false_iff_eq.mpr c74
   clear c74
   replace H := Option.bind_eq_some_iff.mp H
   obtain ⟨t476, A750, H⟩ := H
   try dsimp only at H
   have A75 := zK A750
   clear A750
   replace H := Option.bind_eq_some_iff.mp H
   obtain ⟨t479, A760, H⟩ := H
   try dsimp only at H
   have A76 := zK A760
   clear A760
   replace H := Option.bind_eq_some_iff.mp H
   obtain ⟨t482, A770, H⟩ := H
   try dsimp only at H
   have A77 := zK A770
   clear A770
   replace H := Option.bind_eq_some_iff.mp H
   obtain ⟨t485, A780, H⟩ := H
   try dsimp only at H
   have A78 := zK A780
   clear A780
   replace H := Option.bind_eq_some_iff.mp H
   obtain ⟨t488, A790, H⟩ := H
   try dsimp only at H
   have A79 := zK A790
   clear A790
   by_cases c80 : t488 = true
   rotate_left
   ·replace c80 := Bool.eq_false_iff.mpr c80
    subst c80
    have H1 : (some false) = some r := by rw [if_neg (show ¬ (false = true) by decide)] at H; exact H
    clear H
    have H := H1
    clear H1
    obtain rfl := Option.some.inj H
    exact lf24_1
   subst c80
   have H1 : ((laws_heldLetterS.f kj34 t474 1).bind fun t489 => (if t489 < 0 then (some false) else (if t489 = t473 then (some true) else (some false)))) = some r := by rw [if_pos rfl] at H; exact H
   clear H
   have H := H1
   clear H1
   replace H := Option.bind_eq_some_iff.mp H
   obtain ⟨t489, A810, H⟩ := H
   try dsimp only at H
   have A81 := zK A810
   clear A810
   by_cases c82 : t489 < 0
   ·rw [if_pos c82] at H
    have c82b0 : decide (t489 < 0) = true := decide_eq_true c82
    clear c82
    obtain rfl := Option.some.inj H
    exact lf24_1
   rw [if_neg c82] at H
   have c82b0 : decide (t489 < 0) = false := decide_eq_false c82
   clear c82
   by_cases c93 : t489 = t473
   rotate_left
   ·rw [if_neg c93] at H
    have c93b0 : (t489 == t473) = false := beq_eq_false_iff_ne.mpr c93
    have c93b1 : (t489 != t473) = true := bne_iff_ne.mpr c93
    obtain rfl := Option.some.inj H
    exact lf24_1
   rw [if_pos c93] at H
   have c93b0 : (t489 == t473) = true := beq_iff_eq.mpr c93
   have c93b1 : (t489 != t473) = false := bne_eq_false_iff_eq.mpr c93
   clear c93
   obtain rfl := Option.some.inj H
   exact lf24_1
end Go.Proofs.Ytpkdbkheggfkkaa.PFnExactLettersFor
